/- Two more laws of the seat return true, walked; the condition is that the tables read as they are laid. -/
import Derived.Test.YtbacjffnojaibaaDoorWkf
import Derived.Test.YtbacjffnojaibaaDoorProg
section
open Go.RowKit
set_option maxRecDepth 100000
set_option linter.unusedVariables false
set_option linter.unusedSimpArgs false
namespace Go.Fw
open Go.Proofs
theorem keyT_err {ts : List Pl.Typ} {rs : List Pl.Rule} {n : Int} {ks : List Pl.Key} {now id : Int} {sd : List UInt8} (h : keyE ts rs n ks now id ≠ 0) : (keyT ts rs n ks now id sd).keys.length = 0 ∧ keyI ts rs n ks now id = 0 := by
  unfold keyE at h
  split at h
  · rename_i h1
    rw [keyT, if_pos h1, keyI, if_pos h1]; exact ⟨rfl, rfl⟩
  · rename_i h1
    rw [keyT, if_neg h1, keyI, if_neg h1, addT_top h, addI_top h]; exact ⟨rfl, rfl⟩
theorem vtl_of {n : Int} : ∀ {last : Int} {ks : List Pl.Key}, (∀ i, i < ks.length → vkR (Pl.at_ ks i) = true ∧ last < (Pl.at_ ks i).id ∧ (Pl.at_ ks i).id < n ∧ (Pl.at_ ks i).par < n) → Pl.incr ks → vtl n last ks = true
  | _, [], _, _ => rfl
  | last, k :: ks, h, hi => by
    have h0 := h 0 (by simp)
    have a0 : ∀ i, Pl.at_ (k :: ks) (i + 1) = Pl.at_ ks i := fun i => rfl
    have a1 : Pl.at_ (k :: ks) 0 = k := rfl
    rw [a1] at h0
    have ih : vtl n k.id ks = true := vtl_of (fun i hj => by
      have h1 := h (i + 1) (by simpa using hj)
      have h2 := hi 0 (i + 1) (by omega) (by simpa using hj)
      rw [a0] at h1 h2
      rw [a1] at h2
      exact ⟨h1.1, h2, h1.2.2⟩) (fun i j hij hj => by
      have := hi (i + 1) (j + 1) (by omega) (by simpa using hj)
      rwa [a0, a0] at this)
    simp only [vtl, Bool.and_eq_true, decide_eq_true_eq]
    exact ⟨h0.1, h0.2.1, h0.2.2.1, h0.2.2.2, ih⟩
theorem vtab_of {n : Int} {ks : List Pl.Key} (h : tabOk n ks) : vtab n ks = true := by
  simp only [vtab, Pl.within, Bool.and_eq_true, decide_eq_true_eq]
  exact ⟨by have := h.1; omega, h.2.1, vtl_of h.2.2.2 h.2.2.1⟩
theorem keep_facts {ts : List Pl.Typ} {rs : List Pl.Rule} {n : Int} {ks : List Pl.Key} {now id : Int} (hok : tabOk n ks) (hl : ks.length < 4000) (h : keyE ts rs n ks now id = 0) (sd : List UInt8) (hsd : sd.length ≤ 1048576) :
    (keyT ts rs n ks now id sd).keys.length = ks.length + 1 ∧ (keyT ts rs n ks now id sd).next = n + 1 ∧ keyI ts rs n ks now id = n ∧ vtab (keyT ts rs n ks now id sd).next (keyT ts rs n ks now id sd).keys = true ∧
    (∀ i, i < ks.length → (Pl.at_ ks i).id = id → Pl.at_ (keyT ts rs n ks now id sd).keys i = kept (Pl.at_ ks i)) ∧ (∀ i, i < ks.length → ¬ (Pl.at_ ks i).id = id → Pl.at_ (keyT ts rs n ks now id sd).keys i = Pl.at_ ks i) := by
  have hT := keyT_eq h sd
  have hO := key_tabOk hok hl h sd hsd
  have hk := kchk_ok hok (keyE_ok h).1
  have hix := hk.2.1.1
  refine ⟨hO.2.1, by rw [hT.1], hT.2.2, vtab_of hO.1, fun i hi hid => ?_, fun i hi hid => ?_⟩
  · have e : Pl.ix ks id = i := by rw [← hid]; exact Pl.incr_ix hok.2.2.1 hi
    rw [hT.1]
    show Pl.at_ (keys1 ks id ++ [_]) i = _
    rw [at_app_lt (by rw [keys1_len]; exact hi), keys1_at hix, if_pos e.symm, Pl.getK, e]
  · have e : i ≠ Pl.ix ks id := fun e => hid (by rw [e]; exact Pl.ix_at hix)
    rw [hT.1]
    show Pl.at_ (keys1 ks id ++ [_]) i = _
    rw [at_app_lt (by rw [keys1_len]; exact hi), keys1_at hix, if_neg e]
attribute [local irreducible] kcs tcs rcs Pl.ix Pl.lb Pl.getE Pl.getK Pl.fnd Pl.nextO Pl.at_ Pl.line Pl.lineL Pl.newest Pl.tyAt Pl.isTy Pl.outG Pl.outR Pl.usesG Pl.usesR Pl.nextB Pl.nextI kchk kchK life0 lifeK addT addI addE keyT keyE keyS keyI allR dueL Pl.val Pl.seed fewT vtab
set_option maxHeartbeats 1000000 in
theorem keepsLaw (pn : List UInt8) (tv rv qv : Value) (ts : List Pl.Typ) (rs : List Pl.Rule) (nq : Nat) (qx : List Value) (n : Int) (kv : Value) (ks : List Pl.Key) (hl : ks.length ≤ 9223372036854775807) (a0 a1 : Int) (w : World) (ht : Reads w tv 3 ts.length (tcs ts)) (hru : Reads w rv 3 rs.length (rcs rs)) (hq : Reads w qv 5 nq qx) (hr : Reads w kv 9 ks.length (kcs ks)) (hB : Gl 0 byRule w) (hG : Gl 2 (Pl.K.map u32) w) :
    Calls Tryd.prog 8 #[.agg [str pn, tv, rv, qv].toArray, .agg [iv n, kv].toArray, .agg [iv a0, iv a1].toArray] w fun e w' => e = .returned (.bool true) ∧ Below w.heap.size w w' := by
  
  refine enterA (vs := [_, _, _]) Tryd.func8 rfl 118 rfl [(902, .ro (gv 2 64) 1 64 (Pl.K.map u32)), (900, .ro (gv 0 15) 1 15 byRule), (101, .ro tv 3 ts.length (tcs ts)), (102, .ro rv 3 rs.length (rcs rs)), (103, .ro qv 5 nq qx), (100, .ro kv 9 ks.length (kcs ks))] ((((((MemOk.start1 100 hr).addRo 103 hq (ro_cons ro_nil)).addRo 102 hru (ro_cons (ro_cons ro_nil))).addRo 101 ht (ro_cons (ro_cons (ro_cons ro_nil)))).addRo 900 hB (ro_cons (ro_cons (ro_cons (ro_cons ro_nil))))).addRo 902 hG (ro_cons (ro_cons (ro_cons (ro_cons (ro_cons ro_nil)))))) ?_
  refine JQ.seq ?_
  refine JQ.region ?_
  refine JQ.x (JO.box 1 rfl rfl) rfl ?_
  intro i0_0
  refine JQ.x (JO.box 2 rfl rfl) rfl ?_
  intro i0_1
  refine JQ.x (JO.box 3 rfl rfl) rfl ?_
  intro i0_2
  refine JQ.v (JV.assign rfl) rfl ?_
  refine JQ.nil ?_
  refine JQ.n_then ?_
  refine JQ.seq ?_
  refine JQ.region ?_
  refine JQ.v (JV.callM Tryd.call9 evs_nil (fun w hw => san_spec w (hw.reads (id := 900) rfl) (hw.reads (id := 902) rfl))) rfl ?_
  refine JQ.v (JV.assign rfl) rfl ?_
  refine JQ.nil ?_
  refine JQ.n_then ?_
  refine JQ.seq ?_
  refine JQ.seq ?_
  refine JQ.region ?_
  refine JQ.v (JV.loadV 1 rfl rfl Tryd.isAgg26 Tryd.sizeOf26 rfl) rfl ?_
  refine JQ.v (JV.loadV 2 rfl rfl Tryd.isAgg29 Tryd.sizeOf29 rfl) rfl ?_
  refine JQ.v (JV.callM Tryd.call10 (evs_cons rfl (evs_cons rfl evs_nil)) (fun w hw => few35_spec pn tv rv qv ts rs nq qx n kv ks hl w (hw.reads (id := 101) rfl) (hw.reads (id := 102) rfl) (hw.reads (id := 103) rfl) (hw.reads (id := 100) rfl))) rfl ?_
  refine JQ.v (JV.notB rfl) rfl ?_
  refine JQ.nil ?_
  refine JQ.n_then ?_
  refine JQ.cond rfl (fun h19 => ?_) (fun h19 => ?_)
  · refine JQ.seq ?_
    refine JQ.region ?_
    refine JQ.v (JV.move rfl) rfl ?_
    refine JQ.v (JV.assign rfl) rfl ?_
    refine JQ.nil ?_
    refine JQ.n_then ?_
    refine JQ.ret ?_
    refine JQ.r_then ?_
    refine JQ.done1 Tryd.results8 rfl ?_
    exact fun w hw => ⟨rfl, hw.below⟩
  · refine JQ.skip ?_
    refine JQ.n_then ?_
    refine JQ.seq ?_
    have hff := few_all (by simpa using h19)
    have hok := hff.1
    have hlen := hok.1
    have hl2 := hff.2
    refine JQ.region ?_
    refine JQ.v (JV.loadV 1 rfl rfl Tryd.isAgg26 Tryd.sizeOf26 rfl) rfl ?_
    refine JQ.v (JV.loadV 2 rfl rfl Tryd.isAgg29 Tryd.sizeOf29 rfl) rfl ?_
    refine JQ.v (JV.build (v := .agg [str [115, 101, 101, 100]].toArray) (evp_cons rfl evp_nil) (fun w => by kernel_rfl)) rfl ?_
    refine JQ.v (JV.idxArr0 (k := 0) rfl rfl Tryd.runUnderlying48 Tryd.sizeOf3 (by omega)) rfl ?_
    refine JQ.v (JV.load1 3 rfl rfl Tryd.isAgg3 (rfl)) rfl ?_
    refine JQ.v (JV.idxArr0 (k := 1) rfl rfl Tryd.runUnderlying48 Tryd.sizeOf3 (by omega)) rfl ?_
    refine JQ.v (JV.load1 3 rfl rfl Tryd.isAgg3 (rfl)) rfl ?_
    refine JQ.x (JO.callRowV 60 (fun v => .tuple #[.agg [iv (keyT ts rs n ks a0 a1 [115, 101, 101, 100]).next, v].toArray, .agg [str (keyS ts rs n ks a0 a1 [115, 101, 101, 100])].toArray, iv (keyI ts rs n ks a0 a1), iv (keyE ts rs n ks a0 a1)]) Tryd.call13 (evs_cons rfl (evs_cons rfl (evs_cons rfl (evs_cons rfl (evs_cons rfl evs_nil))))) (fun w hw => key_spec pn tv rv qv ts rs (by omega) (by omega) n kv ks hok [115, 101, 101, 100] (by decide) a0 a1 w (hw.reads (id := 101) rfl) (hw.reads (id := 102) rfl) (hw.reads (id := 100) rfl) (hw.reads (id := 900) rfl) (hw.reads (id := 902) rfl))) rfl ?_
    intro i4_7
    refine JQ.roOf 60 rfl ?_
    refine JQ.v (JV.move rfl) rfl ?_
    refine JQ.v (JV.extract rfl rfl) rfl ?_
    refine JQ.v (JV.extract rfl rfl) rfl ?_
    refine JQ.v (JV.extract rfl rfl) rfl ?_
    refine JQ.v (JV.extract rfl rfl) rfl ?_
    refine JQ.x (JO.alloc 4 (zs := [iv 0, .slice none 0 0]) Tryd.zeroValue29 rfl) rfl ?_
    intro i4_13
    refine JQ.x (JO.alloc 5 (zs := [str []]) Tryd.zeroValue39 rfl) rfl ?_
    intro i4_14
    refine JQ.s (JO.storeV 4 rfl rfl rfl (us := [iv (keyT ts rs n ks a0 a1 [115, 101, 101, 100]).next, slv i4_7 (keyT ts rs n ks a0 a1 [115, 101, 101, 100]).keys.length]) rfl Tryd.sizeOf29 rfl rfl) ?_
    refine JQ.s (JO.storeV 5 rfl rfl rfl (us := [str (keyS ts rs n ks a0 a1 [115, 101, 101, 100])]) rfl Tryd.sizeOf39 rfl rfl) ?_
    refine JQ.v (JV.assign rfl) rfl ?_
    refine JQ.v (JV.assign rfl) rfl ?_
    refine JQ.nil ?_
    refine JQ.n_then ?_
    refine JQ.seq ?_
    refine JQ.seq ?_
    refine JQ.region ?_
    refine JQ.v (JV.move rfl) rfl ?_
    refine JQ.v (JV.neqI rfl rfl) rfl ?_
    refine JQ.nil ?_
    refine JQ.n_then ?_
    refine JQ.condP rfl (fun h35 => ?_) (fun h35 => ?_)
    · refine JQ.seq ?_
      refine JQ.region ?_
      refine JQ.v (JV.move rfl) rfl ?_
      refine JQ.v (JV.move rfl) rfl ?_
      refine JQ.vg rfl rfl (JV.fieldAddrK (o := 1) rfl Tryd.runUnderlying29 rfl Tryd.sizeOf27 rfl rfl) rfl ?_
      refine JQ.vg rfl rfl (JV.load1 4 rfl rfl Tryd.isAgg27 (rfl)) rfl ?_
      refine JQ.vg rfl rfl (JV.lenRo 60 rfl rfl Tryd.runUnderlying27) rfl ?_
      refine JQ.vg rfl rfl (JV.known (c := true) (JV.eqlN (b := 0) rfl rfl) (decide_eq_true (keyT_err h35).1)) rfl ?_
      refine JQ.v (JV.pickT rfl rfl) rfl ?_
      refine JQ.v (JV.move rfl) rfl ?_
      refine JQ.vg rfl rfl (JV.move rfl) rfl ?_
      refine JQ.vg rfl rfl (JV.known (c := true) (JV.eqlI rfl rfl) (decide_eq_true (keyT_err (sd := []) h35).2)) rfl ?_
      refine JQ.v (JV.pickT rfl rfl) rfl ?_
      refine JQ.v (JV.assign rfl) rfl ?_
      refine JQ.nil ?_
      refine JQ.n_then ?_
      refine JQ.ret ?_
      refine JQ.r_then ?_
      refine JQ.done1 Tryd.results8 rfl ?_
      exact fun w hw => ⟨rfl, hw.below⟩
    · refine JQ.skip ?_
      refine JQ.n_then ?_
      refine JQ.seq ?_
      refine JQ.seq ?_
      have hF := keep_facts hok (by omega) (Decidable.not_not.1 h35) [115, 101, 101, 100] (by decide)
      refine JQ.region ?_
      refine JQ.v (JV.fieldAddrK (o := 1) rfl Tryd.runUnderlying29 rfl Tryd.sizeOf27 rfl rfl) rfl ?_
      refine JQ.v (JV.load1 4 rfl rfl Tryd.isAgg27 (rfl)) rfl ?_
      refine JQ.v (JV.lenRo 60 rfl rfl Tryd.runUnderlying27) rfl ?_
      refine JQ.v (JV.fieldAddrK (o := 1) rfl Tryd.runUnderlying29 rfl Tryd.sizeOf27 rfl rfl) rfl ?_
      refine JQ.v (JV.load1 2 rfl rfl Tryd.isAgg27 (rfl)) rfl ?_
      refine JQ.v (JV.lenRo 100 rfl rfl Tryd.runUnderlying27) rfl ?_
      refine JQ.v (JV.addN (b := 1) rfl rfl (by omega)) rfl ?_
      refine JQ.v (JV.known (c := false) (JV.neqN rfl rfl) (by rw [hF.1]; simp)) rfl ?_
      refine JQ.v (JV.move rfl) rfl ?_
      refine JQ.vg rfl rfl (JV.move rfl) rfl ?_
      refine JQ.vg rfl rfl (JV.fieldAddrK (o := 0) rfl Tryd.runUnderlying29 rfl Tryd.sizeOf3 rfl rfl) rfl ?_
      refine JQ.vg rfl rfl (JV.load1 2 rfl rfl Tryd.isAgg3 (rfl)) rfl ?_
      refine JQ.vg rfl rfl (JV.known (c := false) (JV.neqI rfl rfl) (by rw [hF.2.2.1]; simp)) rfl ?_
      refine JQ.v (JV.pickF rfl rfl) rfl ?_
      refine JQ.v (JV.move rfl) rfl ?_
      refine JQ.vg rfl rfl (JV.fieldAddrK (o := 0) rfl Tryd.runUnderlying29 rfl Tryd.sizeOf3 rfl rfl) rfl ?_
      refine JQ.vg rfl rfl (JV.load1 4 rfl rfl Tryd.isAgg3 (rfl)) rfl ?_
      refine JQ.vg rfl rfl (JV.move rfl) rfl ?_
      refine JQ.vg rfl rfl (JV.addI rfl rfl (by have h1 := hF.2.2.1; have h2 := hok.2.1; omega)) rfl ?_
      refine JQ.vg rfl rfl (JV.known (c := false) (JV.neqI rfl rfl) (by rw [hF.2.1, hF.2.2.1]; simp)) rfl ?_
      refine JQ.v (JV.pickF rfl rfl) rfl ?_
      refine JQ.v (JV.move rfl) rfl ?_
      refine JQ.vg rfl rfl (JV.loadV 4 rfl rfl Tryd.isAgg29 Tryd.sizeOf29 rfl) rfl ?_
      refine JQ.vg rfl rfl (JV.known (c := true) (JV.callM Tryd.call29 (evs_cons rfl evs_nil) (fun w hw => vtab_spec (keyT ts rs n ks a0 a1 [115, 101, 101, 100]).next _ (keyT ts rs n ks a0 a1 [115, 101, 101, 100]).keys (by have := hF.1; omega) w (hw.reads (id := 60) rfl))) (hF.2.2.2.1)) rfl ?_
      refine JQ.vg rfl rfl (JV.notB rfl) rfl ?_
      refine JQ.v (JV.pickF rfl rfl) rfl ?_
      refine JQ.nil ?_
      refine JQ.n_then ?_
      refine JQ.condF rfl ?_
      refine JQ.skip ?_
      refine JQ.n_then ?_
      refine JQ.seq ?_
      refine JQ.seq ?_
      refine JQ.region ?_
      refine JQ.v (JV.assign rfl) rfl ?_
      refine JQ.nil ?_
      refine JQ.n_then ?_
      refine JQ.block ?_
      refine JQ.loopI (ι := Nat) (fun i => [(4, .pointer (some ⟨i0_1, 0, none⟩)), (5, .pointer (some ⟨i0_2, 0, none⟩)), (7, .bool true), (8, .pointer (some ⟨i4_13, 0, none⟩)), (12, .int .i64 ((i : Nat) : Int))]) (fun i => [(2, .cells i0_1 [iv n, kv] 29 (0, 0)), (3, .cells i0_2 [iv a0, iv a1] 48 (0, 0)), (4, .cells i4_13 [iv (keyT ts rs n ks a0 a1 [115, 101, 101, 100]).next, slv i4_7 (keyT ts rs n ks a0 a1 [115, 101, 101, 100]).keys.length] 29 (0, 0)), (100, .ro kv 9 ks.length (kcs ks)), (60, .ro (slv i4_7 (keyT ts rs n ks a0 a1 [115, 101, 101, 100]).keys.length) 9 (keyT ts rs n ks a0 a1 [115, 101, 101, 100]).keys.length (kcs (keyT ts rs n ks a0 a1 [115, 101, 101, 100]).keys))]) (fun i => i ≤ ks.length) (fun i => ks.length - i) 0 (Nat.zero_le _) (subk_cons rfl (subk_cons rfl (subk_cons rfl (subk_cons rfl (subk_cons rfl subk_nil))))) (subr_cons rfl (subr_cons rfl (subr_cons rfl (subr_cons rfl (subr_cons rfl subr_nil))))) ?_
      intro i hi
      refine JQ.seq ?_
      refine JQ.seq ?_
      refine JQ.region ?_
      refine JQ.v (JV.move rfl) rfl ?_
      refine JQ.v (JV.fieldAddrK (o := 1) rfl Tryd.runUnderlying29 rfl Tryd.sizeOf27 rfl rfl) rfl ?_
      refine JQ.v (JV.load1 2 rfl rfl Tryd.isAgg27 (rfl)) rfl ?_
      refine JQ.v (JV.lenRo 100 rfl rfl Tryd.runUnderlying27) rfl ?_
      refine JQ.v (JV.lssN rfl rfl) rfl ?_
      refine JQ.nil ?_
      refine JQ.n_then ?_
      refine JQ.condP rfl (fun h77 => ?_) (fun h77 => ?_)
      · refine JQ.skip ?_
        refine JQ.n_then ?_
        refine JQ.seq ?_
        refine JQ.block ?_
        refine JQ.seq ?_
        refine JQ.region ?_
        refine JQ.v (JV.fieldAddrK (o := 1) rfl Tryd.runUnderlying29 rfl Tryd.sizeOf27 rfl rfl) rfl ?_
        refine JQ.v (JV.load1 2 rfl rfl Tryd.isAgg27 (rfl)) rfl ?_
        refine JQ.v (JV.move rfl) rfl ?_
        refine JQ.v (JV.idxRo 100 rfl rfl rfl Tryd.runUnderlying27 Tryd.sizeOf34 (by decide) (by omega)) rfl ?_
        refine JQ.v (JV.loadRA 100 rfl rfl Tryd.isAgg34 Tryd.sizeOf34 (us := kc (Pl.at_ ks i)) (kc_at ks (by omega)) rfl (by decide)) rfl ?_
        refine JQ.x (JO.alloc 6 (zs := (kc Pl.Key.zero)) Tryd.zeroValue34 rfl) rfl ?_
        intro i12_5
        refine JQ.s (JO.storeV 6 rfl rfl rfl (us := kc (Pl.at_ ks i)) rfl Tryd.sizeOf34 rfl rfl) ?_
        refine JQ.nil ?_
        refine JQ.n_then ?_
        refine JQ.seq ?_
        refine JQ.region ?_
        refine JQ.v (JV.fieldAddrK (o := 1) rfl Tryd.runUnderlying29 rfl Tryd.sizeOf27 rfl rfl) rfl ?_
        refine JQ.v (JV.load1 4 rfl rfl Tryd.isAgg27 (rfl)) rfl ?_
        refine JQ.v (JV.move rfl) rfl ?_
        refine JQ.v (JV.idxRo 60 rfl rfl rfl Tryd.runUnderlying27 Tryd.sizeOf34 (by decide) (by have := hF.1; omega)) rfl ?_
        refine JQ.v (JV.loadRA 60 rfl rfl Tryd.isAgg34 Tryd.sizeOf34 (us := kc (Pl.at_ (keyT ts rs n ks a0 a1 [115, 101, 101, 100]).keys i)) (kc_at (keyT ts rs n ks a0 a1 [115, 101, 101, 100]).keys (by have := hF.1; omega)) rfl (by decide)) rfl ?_
        refine JQ.x (JO.alloc 7 (zs := (kc Pl.Key.zero)) Tryd.zeroValue34 rfl) rfl ?_
        intro i13_5
        refine JQ.s (JO.storeV 7 rfl rfl rfl (us := kc (Pl.at_ (keyT ts rs n ks a0 a1 [115, 101, 101, 100]).keys i)) rfl Tryd.sizeOf34 rfl rfl) ?_
        refine JQ.nil ?_
        refine JQ.n_then ?_
        refine JQ.seq ?_
        refine JQ.seq ?_
        refine JQ.region ?_
        refine JQ.v (JV.fieldAddrK (o := 0) rfl Tryd.runUnderlying34 rfl Tryd.sizeOf3 rfl rfl) rfl ?_
        refine JQ.v (JV.load1 6 rfl rfl Tryd.isAgg3 (rfl)) rfl ?_
        refine JQ.v (JV.idxArr0 (k := 1) rfl rfl Tryd.runUnderlying48 Tryd.sizeOf3 (by omega)) rfl ?_
        refine JQ.v (JV.load1 3 rfl rfl Tryd.isAgg3 (rfl)) rfl ?_
        refine JQ.v (JV.eqlI rfl rfl) rfl ?_
        refine JQ.nil ?_
        refine JQ.n_then ?_
        refine JQ.condP rfl (fun h94 => ?_) (fun h94 => ?_)
        · rw [hF.2.2.2.2.1 i h77 h94]
          refine JQ.seq ?_
          refine JQ.seq ?_
          refine JQ.region ?_
          refine JQ.v (JV.fieldAddrK (o := 3) rfl Tryd.runUnderlying34 rfl Tryd.sizeOf3 rfl rfl) rfl ?_
          refine JQ.v (JV.load1 7 rfl rfl Tryd.isAgg3 (rfl)) rfl ?_
          refine JQ.v (JV.fieldAddrK (o := 3) rfl Tryd.runUnderlying34 rfl Tryd.sizeOf3 rfl rfl) rfl ?_
          refine JQ.v (JV.load1 6 rfl rfl Tryd.isAgg3 (rfl)) rfl ?_
          refine JQ.v (JV.bitI (by decide) rfl rfl) rfl ?_
          refine JQ.v (JV.fieldAddrK (o := 3) rfl Tryd.runUnderlying34 rfl Tryd.sizeOf3 rfl rfl) rfl ?_
          refine JQ.v (JV.load1 7 rfl rfl Tryd.isAgg3 (rfl)) rfl ?_
          refine JQ.v (JV.known (c := false) (JV.neqI rfl rfl) (decide_eq_false (fun h => h (and_sub _ _).1))) rfl ?_
          refine JQ.v (JV.move rfl) rfl ?_
          refine JQ.vg rfl rfl (JV.fieldAddrK (o := 3) rfl Tryd.runUnderlying34 rfl Tryd.sizeOf3 rfl rfl) rfl ?_
          refine JQ.vg rfl rfl (JV.load1 7 rfl rfl Tryd.isAgg3 (rfl)) rfl ?_
          refine JQ.vg rfl rfl (JV.bitI (by decide) rfl rfl) rfl ?_
          refine JQ.vg rfl rfl (JV.fieldAddrK (o := 3) rfl Tryd.runUnderlying34 rfl Tryd.sizeOf3 rfl rfl) rfl ?_
          refine JQ.vg rfl rfl (JV.load1 7 rfl rfl Tryd.isAgg3 (rfl)) rfl ?_
          refine JQ.vg rfl rfl (JV.known (c := false) (JV.neqI rfl rfl) (decide_eq_false (fun h => h (and_sub _ _).2))) rfl ?_
          refine JQ.v (JV.pickF rfl rfl) rfl ?_
          refine JQ.nil ?_
          refine JQ.n_then ?_
          refine JQ.condF rfl ?_
          refine JQ.skip ?_
          refine JQ.n_then ?_
          refine JQ.region ?_
          refine JQ.v (JV.fieldAddrK (o := 3) rfl Tryd.runUnderlying34 rfl Tryd.sizeOf3 rfl rfl) rfl ?_
          refine JQ.v (JV.load1 6 rfl rfl Tryd.isAgg3 (rfl)) rfl ?_
          refine JQ.v (JV.fieldAddrK (o := 3) rfl Tryd.runUnderlying34 rfl Tryd.sizeOf3 rfl rfl) rfl ?_
          refine JQ.s (JO.store1 7 rfl rfl rfl rfl Tryd.sizeOf3 (Nat.le_of_ble_eq_true rfl)) ?_
          refine JQ.nil ?_
          refine JQ.n_then ?_
          refine JQ.seq ?_
          refine JQ.region ?_
          refine JQ.v (JV.loadV 6 rfl rfl Tryd.isAgg34 Tryd.sizeOf34 rfl) rfl ?_
          refine JQ.v (JV.loadV 7 rfl rfl Tryd.isAgg34 Tryd.sizeOf34 rfl) rfl ?_
          refine JQ.v (JV.known (c := false) (JV.neqKey (a := (Pl.at_ ks i)) (b := (Pl.at_ ks i)) rfl rfl) (by simp)) rfl ?_
          refine JQ.nil ?_
          refine JQ.n_then ?_
          refine JQ.condF rfl ?_
          refine JQ.skip ?_
          refine JQ.n_block ?_
          refine JQ.n_then ?_
          refine JQ.region ?_
          refine JQ.v (JV.move rfl) rfl ?_
          refine JQ.v (JV.addN (b := 1) rfl rfl (by omega)) rfl ?_
          refine JQ.v (JV.assign rfl) rfl ?_
          refine JQ.nil ?_
          refine JQ.n_then ?_
          exact JQ.nextI (i + 1) (by omega) (by omega) (subk_cons rfl (subk_cons rfl (subk_cons rfl (subk_cons rfl (subk_cons rfl subk_nil))))) (subr_cons rfl (subr_cons rfl (subr_cons rfl (subr_cons rfl (subr_cons rfl subr_nil)))))
        · rw [hF.2.2.2.2.2 i h77 h94]
          refine JQ.skip ?_
          refine JQ.n_then ?_
          refine JQ.seq ?_
          refine JQ.region ?_
          refine JQ.v (JV.loadV 6 rfl rfl Tryd.isAgg34 Tryd.sizeOf34 rfl) rfl ?_
          refine JQ.v (JV.loadV 7 rfl rfl Tryd.isAgg34 Tryd.sizeOf34 rfl) rfl ?_
          refine JQ.v (JV.known (c := false) (JV.neqKey (a := (Pl.at_ ks i)) (b := (Pl.at_ ks i)) rfl rfl) (by simp)) rfl ?_
          refine JQ.nil ?_
          refine JQ.n_then ?_
          refine JQ.condF rfl ?_
          refine JQ.skip ?_
          refine JQ.n_block ?_
          refine JQ.n_then ?_
          refine JQ.region ?_
          refine JQ.v (JV.move rfl) rfl ?_
          refine JQ.v (JV.addN (b := 1) rfl rfl (by omega)) rfl ?_
          refine JQ.v (JV.assign rfl) rfl ?_
          refine JQ.nil ?_
          refine JQ.n_then ?_
          exact JQ.nextI (i + 1) (by omega) (by omega) (subk_cons rfl (subk_cons rfl (subk_cons rfl (subk_cons rfl (subk_cons rfl subk_nil))))) (subr_cons rfl (subr_cons rfl (subr_cons rfl (subr_cons rfl (subr_cons rfl subr_nil)))))
      · refine JQ.exit ?_
        refine JQ.e_then ?_
        refine JQ.e_then ?_
        refine JQ.e_here ?_
        refine JQ.n_then ?_
        refine JQ.seq ?_
        refine JQ.region ?_
        refine JQ.v (JV.move rfl) rfl ?_
        refine JQ.v (JV.assign rfl) rfl ?_
        refine JQ.nil ?_
        refine JQ.n_then ?_
        refine JQ.ret ?_
        refine JQ.done1 Tryd.results8 rfl ?_
        exact fun w hw => ⟨rfl, hw.below⟩
end Go.Fw
end
section
open Go.RowKit
set_option maxRecDepth 100000
set_option linter.unusedVariables false
set_option linter.unusedSimpArgs false
namespace Go.Fw
open Go.Proofs
theorem lastS_none {ks : List Pl.Key} {k : Pl.Key} : ∀ {m : Nat}, (∀ i, i < m → Pl.succ (Pl.at_ ks i) k = false) → Pl.lastS ks k m = none
  | 0, _ => rfl
  | m + 1, h => by rw [Pl.lastS, if_neg (by rw [h m (by omega)]; decide)]; exact lastS_none fun i hi => h i (by omega)
theorem fresh_facts {ts : List Pl.Typ} {rs : List Pl.Rule} {n : Int} {ks : List Pl.Key} {now id : Int} (hok : tabOk n ks) (hl : ks.length < 4000) (h : keyE ts rs n ks now id = 0) (sd : List UInt8) (hsd : sd.length ≤ 1048576) (us : Int) :
    Pl.getE ks id = 0 ∧ Pl.getE (keyT ts rs n ks now id sd).keys (keyI ts rs n ks now id) = 0 ∧ Pl.getK (keyT ts rs n ks now id sd).keys (keyI ts rs n ks now id) = withId n (fresh ts (Pl.getK ks id) now id sd) ∧
    Pl.newest (keyT ts rs n ks now id sd).keys id = keyI ts rs n ks now id ∧ Pl.getE (keyT ts rs n ks now id sd).keys id = 0 ∧ Pl.isTy ts (withId n (fresh ts (Pl.getK ks id) now id sd)).ty = true ∧
    alE ks id us now = alE (keyT ts rs n ks now id sd).keys (keyI ts rs n ks now id) us now ∧
    ib .and (withId n (fresh ts (Pl.getK ks id) now id sd)).uses (Pl.usesR ts rs (withId n (fresh ts (Pl.getK ks id) now id sd)).ty) = (withId n (fresh ts (Pl.getK ks id) now id sd)).uses ∧
    (0 ≤ (withId n (fresh ts (Pl.getK ks id) now id sd)).en - (withId n (fresh ts (Pl.getK ks id) now id sd)).st ∧ (withId n (fresh ts (Pl.getK ks id) now id sd)).en - (withId n (fresh ts (Pl.getK ks id) now id sd)).st ≤ 1099511627776) ∧
    ((withId n (fresh ts (Pl.getK ks id) now id sd)).en - (withId n (fresh ts (Pl.getK ks id) now id sd)).st ≤ (Pl.getK ks id).en - (Pl.getK ks id).st ∧ 0 ≤ (Pl.getK ks id).en - (Pl.getK ks id).st ∧ (Pl.getK ks id).en - (Pl.getK ks id).st ≤ 1099511627776) ∧
    (∀ t : Nat, (withId n (fresh ts (Pl.getK ks id) now id sd)).ty = (t : Int) → 0 < (Pl.tyAt ts t).life → (withId n (fresh ts (Pl.getK ks id) now id sd)).en - (withId n (fresh ts (Pl.getK ks id) now id sd)).st ≤ (Pl.tyAt ts t).life) ∧
    (tabOk (keyT ts rs n ks now id sd).next (keyT ts rs n ks now id sd).keys ∧ (keyT ts rs n ks now id sd).keys.length = ks.length + 1) := by
  have hT := keyT_eq h sd
  have hO := key_tabOk hok hl h sd hsd
  have hk := kchk_ok hok (keyE_ok h).1
  have hix := hk.2.1.1
  have hlk := life_ok ts hk.2.2.1 hk.1 hk.2.1.2
  have hv := vkR_iff.1 hk.2.2.1
  have hid : (Pl.getK ks id).id = id := Pl.ix_at hix
  have hf := fresh_ok hok hk sd
  generalize hKT : keyT ts rs n ks now id sd = KT at hO hT ⊢
  generalize hKI : keyI ts rs n ks now id = KI at hT ⊢
  generalize hF : withId n (fresh ts (Pl.getK ks id) now id sd) = FK at hT ⊢
  obtain ⟨rfl, _, rfl⟩ := hT
  have F1 : FK.id = KI := by rw [← hF]; rfl
  have F2 : FK.ty = (Pl.getK ks id).ty := by rw [← hF]; rfl
  have F3 : FK.par = id := by rw [← hF]; rfl
  have F4 : FK.ver = (Pl.getK ks id).ver + 1 := by rw [← hF]; rfl
  have F5 : FK.uses = (Pl.getK ks id).uses := by rw [← hF]; rfl
  have F6 : FK.st = now := by rw [← hF]; rfl
  have F7 : FK.en = now + lifeK ts (Pl.getK ks id) now := by rw [← hF]; rfl
  have hlen : (keys1 ks id ++ [FK]).length = ks.length + 1 := hO.2.1
  have hin : Pl.incr (keys1 ks id ++ [FK]) := hO.1.2.2.1
  have aL : Pl.at_ (keys1 ks id ++ [FK]) ks.length = FK := by rw [← keys1_len ks id]; exact at_app_eq
  have aI : Pl.at_ (keys1 ks id ++ [FK]) (Pl.ix ks id) = kept (Pl.getK ks id) := by rw [at_app_lt (by rw [keys1_len]; exact hix), keys1_at hix, if_pos rfl]
  have iN : Pl.ix (keys1 ks id ++ [FK]) KI = ks.length := by
    have := Pl.incr_ix hin (i := ks.length) (by omega)
    rwa [aL, F1] at this
  have iO : Pl.ix (keys1 ks id ++ [FK]) id = Pl.ix ks id := by
    have := Pl.incr_ix hin (i := Pl.ix ks id) (by omega)
    rw [aI] at this
    rwa [show (kept (Pl.getK ks id)).id = id from hid] at this
  have gN : Pl.getK (keys1 ks id ++ [FK]) KI = FK := by rw [Pl.getK, iN, aL]
  have gO : Pl.getK (keys1 ks id ++ [FK]) id = kept (Pl.getK ks id) := by rw [Pl.getK, iO, aI]
  have eN : Pl.getE (keys1 ks id ++ [FK]) KI = 0 := by rw [Pl.getE, iN, if_pos (by omega)]
  have eO : Pl.getE (keys1 ks id ++ [FK]) id = 0 := by rw [Pl.getE, iO, if_pos (by omega)]
  have e0 : Pl.getE ks id = 0 := by rw [Pl.getE, if_pos hix]
  have nO : Pl.nextO (keys1 ks id ++ [FK]) id = some ks.length := by
    rw [Pl.nextO, iO, if_pos (by omega), gO, hlen, Pl.lastS, aL, if_pos]
    simp only [Pl.succ, Bool.and_eq_true, decide_eq_true_eq]
    refine ⟨?_, F2, ?_, F4⟩
    · rw [F1]; show (Pl.getK ks id).id < KI; rw [hid]; exact hf.2.1
    · rw [F3]; exact hid.symm
  have nN : Pl.nextO (keys1 ks id ++ [FK]) KI = none := by
    rw [Pl.nextO, iN, if_pos (by omega), gN, hlen]
    refine lastS_none fun i hi => ?_
    have h1 : ¬ FK.id < (Pl.at_ (keys1 ks id ++ [FK]) i).id := by
      rcases Nat.lt_or_ge i ks.length with h2 | h2
      · have := hin i ks.length h2 (by omega); rw [aL] at this; omega
      · have : i = ks.length := by omega
        rw [this, aL]; omega
    simp [Pl.succ, h1]
  have ln : Pl.lineL (keys1 ks id ++ [FK]) id = [id, KI] := by
    rw [Pl.lineL, iO, if_pos (by omega), Pl.line_eq hin, Pl.nextB, nO]
    simp only [Option.isSome_some, if_true]
    rw [Pl.nextI, nO]
    show id :: Pl.line _ (Pl.at_ _ ks.length).id = _
    rw [aL, F1, Pl.line_eq hin, Pl.nextB, nN]; rfl
  refine ⟨e0, eN, gN, by rw [Pl.newest, ln]; rfl, eO, by rw [F2]; exact hk.2.2.2.2.1, ?_, ?_, ?_, ?_, ?_, hO.1, hlen⟩
  · have l1 : Pl.live (Pl.getK ks id) now = true := by simp only [Pl.live, Bool.and_eq_true, decide_eq_true_eq]; exact hk.2.1.2
    have l2 : Pl.live FK now = true := by simp only [Pl.live, Bool.and_eq_true, decide_eq_true_eq]; omega
    rw [alE, alE, e0, eN, gN, l1, l2, F5]
  · rw [F2, F5, ← Pl.uses_eq]; exact hk.2.2.2.2.2.2
  · omega
  · omega
  · intro t ht hl
    have e : Pl.tyOf ts (Pl.getK ks id).ty = Pl.tyAt ts t := by rw [Pl.tyOf, ← F2, ht]; rfl
    have := hlk.2.2.2
    rw [e] at this
    have := this hl
    omega
attribute [local irreducible] kcs tcs rcs Pl.ix Pl.lb Pl.getE Pl.getK Pl.fnd Pl.nextO Pl.at_ Pl.line Pl.lineL Pl.newest Pl.tyAt Pl.isTy Pl.outG Pl.outR Pl.usesG Pl.usesR Pl.nextB Pl.nextI kchk kchK life0 lifeK addT addI addE keyT keyE keyS keyI allR dueL Pl.val Pl.seed fewT vtab alE alK
set_option maxHeartbeats 1000000 in
theorem freshLaw (pn : List UInt8) (tv rv qv : Value) (ts : List Pl.Typ) (rs : List Pl.Rule) (nq : Nat) (qx : List Value) (n : Int) (kv : Value) (ks : List Pl.Key) (hl : ks.length ≤ 9223372036854775807) (a0 a1 us : Int) (w : World) (ht : Reads w tv 3 ts.length (tcs ts)) (hru : Reads w rv 3 rs.length (rcs rs)) (hq : Reads w qv 5 nq qx) (hr : Reads w kv 9 ks.length (kcs ks)) (hB : Gl 0 byRule w) (hG : Gl 2 (Pl.K.map u32) w) :
    Calls Tryd.prog 4 #[.agg [str pn, tv, rv, qv].toArray, .agg [iv n, kv].toArray, .agg [iv a0, iv a1].toArray, iv us] w fun e w' => e = .returned (.bool true) ∧ Below w.heap.size w w' := by
  
  refine enterA (vs := [_, _, _, _]) Tryd.func4 rfl 174 rfl [(902, .ro (gv 2 64) 1 64 (Pl.K.map u32)), (900, .ro (gv 0 15) 1 15 byRule), (101, .ro tv 3 ts.length (tcs ts)), (102, .ro rv 3 rs.length (rcs rs)), (103, .ro qv 5 nq qx), (100, .ro kv 9 ks.length (kcs ks))] ((((((MemOk.start1 100 hr).addRo 103 hq (ro_cons ro_nil)).addRo 102 hru (ro_cons (ro_cons ro_nil))).addRo 101 ht (ro_cons (ro_cons (ro_cons ro_nil)))).addRo 900 hB (ro_cons (ro_cons (ro_cons (ro_cons ro_nil))))).addRo 902 hG (ro_cons (ro_cons (ro_cons (ro_cons (ro_cons ro_nil)))))) ?_
  refine JQ.seq ?_
  refine JQ.region ?_
  refine JQ.x (JO.box 1 rfl rfl) rfl ?_
  intro i0_0
  refine JQ.x (JO.box 2 rfl rfl) rfl ?_
  intro i0_1
  refine JQ.x (JO.box 3 rfl rfl) rfl ?_
  intro i0_2
  refine JQ.v (JV.assign rfl) rfl ?_
  refine JQ.nil ?_
  refine JQ.n_then ?_
  refine JQ.seq ?_
  refine JQ.region ?_
  refine JQ.v (JV.callM Tryd.call9 evs_nil (fun w hw => san_spec w (hw.reads (id := 900) rfl) (hw.reads (id := 902) rfl))) rfl ?_
  refine JQ.v (JV.assign rfl) rfl ?_
  refine JQ.nil ?_
  refine JQ.n_then ?_
  refine JQ.seq ?_
  refine JQ.seq ?_
  refine JQ.region ?_
  refine JQ.v (JV.loadV 1 rfl rfl Tryd.isAgg26 Tryd.sizeOf26 rfl) rfl ?_
  refine JQ.v (JV.loadV 2 rfl rfl Tryd.isAgg29 Tryd.sizeOf29 rfl) rfl ?_
  refine JQ.v (JV.callM Tryd.call10 (evs_cons rfl (evs_cons rfl evs_nil)) (fun w hw => few35_spec pn tv rv qv ts rs nq qx n kv ks hl w (hw.reads (id := 101) rfl) (hw.reads (id := 102) rfl) (hw.reads (id := 103) rfl) (hw.reads (id := 100) rfl))) rfl ?_
  refine JQ.v (JV.notB rfl) rfl ?_
  refine JQ.nil ?_
  refine JQ.n_then ?_
  refine JQ.cond rfl (fun h31 => ?_) (fun h31 => ?_)
  · refine JQ.seq ?_
    refine JQ.region ?_
    refine JQ.v (JV.move rfl) rfl ?_
    refine JQ.v (JV.assign rfl) rfl ?_
    refine JQ.nil ?_
    refine JQ.n_then ?_
    refine JQ.ret ?_
    refine JQ.r_then ?_
    refine JQ.done1 Tryd.results4 rfl ?_
    exact fun w hw => ⟨rfl, hw.below⟩
  · refine JQ.skip ?_
    refine JQ.n_then ?_
    refine JQ.seq ?_
    have hff := few_all (by simpa using h31)
    have hok := hff.1
    have hlen := hok.1
    have hl2 := hff.2
    refine JQ.region ?_
    refine JQ.v (JV.loadV 1 rfl rfl Tryd.isAgg26 Tryd.sizeOf26 rfl) rfl ?_
    refine JQ.v (JV.loadV 2 rfl rfl Tryd.isAgg29 Tryd.sizeOf29 rfl) rfl ?_
    refine JQ.v (JV.build (v := .agg [str [115, 101, 101, 100]].toArray) (evp_cons rfl evp_nil) (fun w => by kernel_rfl)) rfl ?_
    refine JQ.v (JV.idxArr0 (k := 0) rfl rfl Tryd.runUnderlying48 Tryd.sizeOf3 (by omega)) rfl ?_
    refine JQ.v (JV.load1 3 rfl rfl Tryd.isAgg3 (rfl)) rfl ?_
    refine JQ.v (JV.idxArr0 (k := 1) rfl rfl Tryd.runUnderlying48 Tryd.sizeOf3 (by omega)) rfl ?_
    refine JQ.v (JV.load1 3 rfl rfl Tryd.isAgg3 (rfl)) rfl ?_
    refine JQ.x (JO.callRowV 60 (fun v => .tuple #[.agg [iv (keyT ts rs n ks a0 a1 [115, 101, 101, 100]).next, v].toArray, .agg [str (keyS ts rs n ks a0 a1 [115, 101, 101, 100])].toArray, iv (keyI ts rs n ks a0 a1), iv (keyE ts rs n ks a0 a1)]) Tryd.call13 (evs_cons rfl (evs_cons rfl (evs_cons rfl (evs_cons rfl (evs_cons rfl evs_nil))))) (fun w hw => key_spec pn tv rv qv ts rs (by omega) (by omega) n kv ks hok [115, 101, 101, 100] (by decide) a0 a1 w (hw.reads (id := 101) rfl) (hw.reads (id := 102) rfl) (hw.reads (id := 100) rfl) (hw.reads (id := 900) rfl) (hw.reads (id := 902) rfl))) rfl ?_
    intro i4_7
    refine JQ.roOf 60 rfl ?_
    refine JQ.v (JV.move rfl) rfl ?_
    refine JQ.v (JV.extract rfl rfl) rfl ?_
    refine JQ.v (JV.extract rfl rfl) rfl ?_
    refine JQ.v (JV.extract rfl rfl) rfl ?_
    refine JQ.v (JV.extract rfl rfl) rfl ?_
    refine JQ.x (JO.alloc 4 (zs := [iv 0, .slice none 0 0]) Tryd.zeroValue29 rfl) rfl ?_
    intro i4_13
    refine JQ.x (JO.alloc 5 (zs := [str []]) Tryd.zeroValue39 rfl) rfl ?_
    intro i4_14
    refine JQ.s (JO.storeV 4 rfl rfl rfl (us := [iv (keyT ts rs n ks a0 a1 [115, 101, 101, 100]).next, slv i4_7 (keyT ts rs n ks a0 a1 [115, 101, 101, 100]).keys.length]) rfl Tryd.sizeOf29 rfl rfl) ?_
    refine JQ.s (JO.storeV 5 rfl rfl rfl (us := [str (keyS ts rs n ks a0 a1 [115, 101, 101, 100])]) rfl Tryd.sizeOf39 rfl rfl) ?_
    refine JQ.v (JV.assign rfl) rfl ?_
    refine JQ.v (JV.assign rfl) rfl ?_
    refine JQ.nil ?_
    refine JQ.n_then ?_
    refine JQ.seq ?_
    refine JQ.seq ?_
    refine JQ.region ?_
    refine JQ.v (JV.move rfl) rfl ?_
    refine JQ.v (JV.neqI rfl rfl) rfl ?_
    refine JQ.nil ?_
    refine JQ.n_then ?_
    refine JQ.condP rfl (fun h47 => ?_) (fun h47 => ?_)
    · refine JQ.seq ?_
      refine JQ.region ?_
      refine JQ.v (JV.move rfl) rfl ?_
      refine JQ.v (JV.assign rfl) rfl ?_
      refine JQ.nil ?_
      refine JQ.n_then ?_
      refine JQ.ret ?_
      refine JQ.r_then ?_
      refine JQ.done1 Tryd.results4 rfl ?_
      exact fun w hw => ⟨rfl, hw.below⟩
    · refine JQ.skip ?_
      refine JQ.n_then ?_
      refine JQ.seq ?_
      obtain ⟨f1, f2, f3, f4, f5, f6, f7, f8, f9, f10, f11, f12⟩ := fresh_facts hok (by omega) (Decidable.not_not.1 h47) [115, 101, 101, 100] (by decide) us
      obtain ⟨tn, htn, hty⟩ := isTy_nat f6
      have hty2 : (withId n (fresh ts (Pl.getK ks a1) a0 a1 [115, 101, 101, 100])).ty = (tn : Int) := hty
      refine JQ.region ?_
      refine JQ.v (JV.loadV 2 rfl rfl Tryd.isAgg29 Tryd.sizeOf29 rfl) rfl ?_
      refine JQ.v (JV.idxArr0 (k := 1) rfl rfl Tryd.runUnderlying48 Tryd.sizeOf3 (by omega)) rfl ?_
      refine JQ.v (JV.load1 3 rfl rfl Tryd.isAgg3 (rfl)) rfl ?_
      refine JQ.v (JV.callM Tryd.call11 (evs_cons rfl (evs_cons rfl evs_nil)) (fun w hw => get_spec n kv ks (by omega) hok.2.2.1 a1 w (hw.reads (id := 100) rfl))) rfl ?_
      refine JQ.v (JV.move rfl) rfl ?_
      refine JQ.v (JV.extract rfl rfl) rfl ?_
      refine JQ.v (JV.extract rfl rfl) rfl ?_
      refine JQ.x (JO.alloc 6 (zs := (kc Pl.Key.zero)) Tryd.zeroValue34 rfl) rfl ?_
      intro i7_7
      refine JQ.s (JO.storeV 6 rfl rfl rfl (us := kc (Pl.getK ks a1)) rfl Tryd.sizeOf34 rfl rfl) ?_
      refine JQ.v (JV.assign rfl) rfl ?_
      refine JQ.nil ?_
      refine JQ.n_then ?_
      refine JQ.seq ?_
      refine JQ.region ?_
      refine JQ.v (JV.loadV 4 rfl rfl Tryd.isAgg29 Tryd.sizeOf29 rfl) rfl ?_
      refine JQ.v (JV.move rfl) rfl ?_
      refine JQ.v (JV.callM Tryd.call11 (evs_cons rfl (evs_cons rfl evs_nil)) (fun w hw => get_spec (keyT ts rs n ks a0 a1 [115, 101, 101, 100]).next _ (keyT ts rs n ks a0 a1 [115, 101, 101, 100]).keys (by have := f12.2; omega) f12.1.2.2.1 (keyI ts rs n ks a0 a1) w (hw.reads (id := 60) rfl))) rfl ?_
      rw [f3]
      refine JQ.v (JV.move rfl) rfl ?_
      refine JQ.v (JV.extract rfl rfl) rfl ?_
      refine JQ.v (JV.extract rfl rfl) rfl ?_
      refine JQ.x (JO.alloc 7 (zs := (kc Pl.Key.zero)) Tryd.zeroValue34 rfl) rfl ?_
      intro i8_6
      refine JQ.s (JO.storeV 7 rfl rfl rfl (us := kc (withId n (fresh ts (Pl.getK ks a1) a0 a1 [115, 101, 101, 100]))) rfl Tryd.sizeOf34 rfl rfl) ?_
      refine JQ.v (JV.assign rfl) rfl ?_
      refine JQ.nil ?_
      refine JQ.n_then ?_
      refine JQ.seq ?_
      refine JQ.region ?_
      refine JQ.v (JV.loadV 4 rfl rfl Tryd.isAgg29 Tryd.sizeOf29 rfl) rfl ?_
      refine JQ.v (JV.idxArr0 (k := 1) rfl rfl Tryd.runUnderlying48 Tryd.sizeOf3 (by omega)) rfl ?_
      refine JQ.v (JV.load1 3 rfl rfl Tryd.isAgg3 (rfl)) rfl ?_
      refine JQ.v (JV.callM Tryd.call12 (evs_cons rfl (evs_cons rfl evs_nil)) (fun w hw => newest_spec (keyT ts rs n ks a0 a1 [115, 101, 101, 100]).next _ (keyT ts rs n ks a0 a1 [115, 101, 101, 100]).keys (by have := f12.2; omega) f12.1.2.2.1 f12.1.ver a1 w (hw.reads (id := 60) rfl))) rfl ?_
      refine JQ.v (JV.move rfl) rfl ?_
      refine JQ.v (JV.extract rfl rfl) rfl ?_
      refine JQ.v (JV.extract rfl rfl) rfl ?_
      refine JQ.v (JV.assign rfl) rfl ?_
      refine JQ.v (JV.assign rfl) rfl ?_
      refine JQ.nil ?_
      refine JQ.n_then ?_
      refine JQ.seq ?_
      refine JQ.seq ?_
      refine JQ.region ?_
      refine JQ.v (JV.move rfl) rfl ?_
      refine JQ.v (JV.known (c := false) (JV.neqI rfl rfl) (decide_eq_false (fun h => h f1))) rfl ?_
      refine JQ.v (JV.move rfl) rfl ?_
      refine JQ.vg rfl rfl (JV.move rfl) rfl ?_
      refine JQ.vg rfl rfl (JV.known (c := false) (JV.neqI rfl rfl) (decide_eq_false (fun h => h f2))) rfl ?_
      refine JQ.v (JV.pickF rfl rfl) rfl ?_
      refine JQ.v (JV.move rfl) rfl ?_
      refine JQ.vg rfl rfl (JV.move rfl) rfl ?_
      refine JQ.vg rfl rfl (JV.known (c := false) (JV.neqI rfl rfl) (decide_eq_false (fun h => h f5))) rfl ?_
      refine JQ.v (JV.pickF rfl rfl) rfl ?_
      refine JQ.v (JV.move rfl) rfl ?_
      refine JQ.vg rfl rfl (JV.move rfl) rfl ?_
      refine JQ.vg rfl rfl (JV.move rfl) rfl ?_
      refine JQ.vg rfl rfl (JV.known (c := false) (JV.neqI rfl rfl) (decide_eq_false (fun h => h f4))) rfl ?_
      refine JQ.v (JV.pickF rfl rfl) rfl ?_
      refine JQ.v (JV.move rfl) rfl ?_
      refine JQ.vg rfl rfl (JV.fieldAddrK (o := 1) rfl Tryd.runUnderlying34 rfl Tryd.sizeOf3 rfl rfl) rfl ?_
      refine JQ.vg rfl rfl (JV.load1 7 rfl rfl Tryd.isAgg3 (rfl)) rfl ?_
      refine JQ.vg rfl rfl (JV.known (c := false) (JV.lss rfl rfl) (decide_eq_false (by omega))) rfl ?_
      refine JQ.v (JV.pickF rfl rfl) rfl ?_
      refine JQ.v (JV.move rfl) rfl ?_
      refine JQ.vg rfl rfl (JV.fieldAddrK (o := 1) rfl Tryd.runUnderlying34 rfl Tryd.sizeOf3 rfl rfl) rfl ?_
      refine JQ.vg rfl rfl (JV.load1 7 rfl rfl Tryd.isAgg3 (rfl)) rfl ?_
      refine JQ.vg rfl rfl (JV.fieldAddrK (o := 1) rfl Tryd.runUnderlying26 rfl Tryd.sizeOf22 rfl rfl) rfl ?_
      refine JQ.vg rfl rfl (JV.load1 1 rfl rfl Tryd.isAgg22 (rfl)) rfl ?_
      refine JQ.vg rfl rfl (JV.lenRo 101 rfl rfl Tryd.runUnderlying22) rfl ?_
      refine JQ.vg rfl rfl (JV.known (c := false) (JV.geq rfl rfl) (decide_eq_false (by omega))) rfl ?_
      refine JQ.v (JV.pickF rfl rfl) rfl ?_
      refine JQ.nil ?_
      refine JQ.n_then ?_
      refine JQ.condF rfl ?_
      refine JQ.skip ?_
      refine JQ.n_then ?_
      refine JQ.seq ?_
      refine JQ.region ?_
      refine JQ.v (JV.loadV 2 rfl rfl Tryd.isAgg29 Tryd.sizeOf29 rfl) rfl ?_
      refine JQ.v (JV.idxArr0 (k := 1) rfl rfl Tryd.runUnderlying48 Tryd.sizeOf3 (by omega)) rfl ?_
      refine JQ.v (JV.load1 3 rfl rfl Tryd.isAgg3 (rfl)) rfl ?_
      refine JQ.v (JV.move rfl) rfl ?_
      refine JQ.v (JV.idxArr0 (k := 0) rfl rfl Tryd.runUnderlying48 Tryd.sizeOf3 (by omega)) rfl ?_
      refine JQ.v (JV.load1 3 rfl rfl Tryd.isAgg3 (rfl)) rfl ?_
      refine JQ.v (JV.callM Tryd.call15 (evs_cons rfl (evs_cons rfl (evs_cons rfl (evs_cons rfl evs_nil)))) (fun w hw => allowed_spec n kv ks (by omega) hok.2.2.1 a1 us a0 w (hw.reads (id := 100) rfl))) rfl ?_
      refine JQ.v (JV.move rfl) rfl ?_
      refine JQ.v (JV.extract rfl rfl) rfl ?_
      refine JQ.v (JV.extract rfl rfl) rfl ?_
      refine JQ.x (JO.alloc 8 (zs := (kc Pl.Key.zero)) Tryd.zeroValue34 rfl) rfl ?_
      intro i12_10
      refine JQ.s (JO.storeV 8 rfl rfl rfl (us := kc (alK ks a1 us a0)) rfl Tryd.sizeOf34 rfl rfl) ?_
      refine JQ.v (JV.assign rfl) rfl ?_
      refine JQ.nil ?_
      refine JQ.n_then ?_
      refine JQ.seq ?_
      refine JQ.region ?_
      refine JQ.v (JV.loadV 4 rfl rfl Tryd.isAgg29 Tryd.sizeOf29 rfl) rfl ?_
      refine JQ.v (JV.move rfl) rfl ?_
      refine JQ.v (JV.move rfl) rfl ?_
      refine JQ.v (JV.idxArr0 (k := 0) rfl rfl Tryd.runUnderlying48 Tryd.sizeOf3 (by omega)) rfl ?_
      refine JQ.v (JV.load1 3 rfl rfl Tryd.isAgg3 (rfl)) rfl ?_
      refine JQ.v (JV.callM Tryd.call15 (evs_cons rfl (evs_cons rfl (evs_cons rfl (evs_cons rfl evs_nil)))) (fun w hw => allowed_spec (keyT ts rs n ks a0 a1 [115, 101, 101, 100]).next _ (keyT ts rs n ks a0 a1 [115, 101, 101, 100]).keys (by have := f12.2; omega) f12.1.2.2.1 (keyI ts rs n ks a0 a1) us a0 w (hw.reads (id := 60) rfl))) rfl ?_
      refine JQ.v (JV.move rfl) rfl ?_
      refine JQ.v (JV.extract rfl rfl) rfl ?_
      refine JQ.v (JV.extract rfl rfl) rfl ?_
      refine JQ.x (JO.alloc 9 (zs := (kc Pl.Key.zero)) Tryd.zeroValue34 rfl) rfl ?_
      intro i13_9
      refine JQ.s (JO.storeV 9 rfl rfl rfl (us := kc (alK (keyT ts rs n ks a0 a1 [115, 101, 101, 100]).keys (keyI ts rs n ks a0 a1) us a0)) rfl Tryd.sizeOf34 rfl rfl) ?_
      refine JQ.v (JV.assign rfl) rfl ?_
      refine JQ.nil ?_
      refine JQ.n_then ?_
      refine JQ.seq ?_
      refine JQ.region ?_
      refine JQ.v (JV.fieldAddrK (o := 1) rfl Tryd.runUnderlying26 rfl Tryd.sizeOf22 rfl rfl) rfl ?_
      refine JQ.v (JV.load1 1 rfl rfl Tryd.isAgg22 (rfl)) rfl ?_
      refine JQ.v (JV.fieldAddrK (o := 1) rfl Tryd.runUnderlying34 rfl Tryd.sizeOf3 rfl rfl) rfl ?_
      refine JQ.v (JV.load1 7 rfl rfl Tryd.isAgg3 (rfl)) rfl ?_
      rw [hty]
      refine JQ.v (JV.idxRo 101 rfl rfl rfl Tryd.runUnderlying22 Tryd.sizeOf51 (by decide) (by omega)) rfl ?_
      refine JQ.v (JV.fieldAddrRo 101 rfl rfl (by omega) (by decide) Tryd.runUnderlying51 rfl Tryd.sizeOf3 rfl) rfl ?_
      refine JQ.v (JV.loadR 101 rfl rfl Tryd.isAgg3 (tf2 ts (by omega))) rfl ?_
      refine JQ.v (JV.assign rfl) rfl ?_
      refine JQ.nil ?_
      refine JQ.n_then ?_
      refine JQ.seq ?_
      refine JQ.region ?_
      refine JQ.v (JV.fieldAddrK (o := 5) rfl Tryd.runUnderlying34 rfl Tryd.sizeOf3 rfl rfl) rfl ?_
      refine JQ.v (JV.load1 7 rfl rfl Tryd.isAgg3 (rfl)) rfl ?_
      refine JQ.v (JV.fieldAddrK (o := 4) rfl Tryd.runUnderlying34 rfl Tryd.sizeOf3 rfl rfl) rfl ?_
      refine JQ.v (JV.load1 7 rfl rfl Tryd.isAgg3 (rfl)) rfl ?_
      refine JQ.v (JV.subI rfl rfl (by omega)) rfl ?_
      refine JQ.v (JV.assign rfl) rfl ?_
      refine JQ.nil ?_
      refine JQ.n_then ?_
      refine JQ.seq ?_
      refine JQ.any [_, _, _, _, _, _, _, _] [fun _ => [], fun _ => [], fun _ => [], fun _ => [], fun _ => [], fun _ => [], fun _ => [], fun _ => []] [⟨[], [], [], []⟩, ⟨[7], [], [], [0]⟩, ⟨[1], [], [], []⟩, ⟨[], [], [], []⟩, ⟨[7], [], [], [3]⟩, ⟨[101, 102], [], [], [2, 3, 4]⟩, ⟨[], [], [], [0, 1, 2, 3, 4, 5]⟩, ⟨[], [], [], [0, 1, 2, 3, 4, 5, 6]⟩] Tryd.mixed rfl (by kernel_rfl) ⟨Ob.v rfl (fun _ _ h => by cases h) (fun _ _ _ => rfl) (fun e L' hL => JV.fieldAddrK (o := 3) rfl Tryd.runUnderlying34 rfl Tryd.sizeOf3 rfl rfl),
                Ob.v rfl (fun _ _ h => by cases h) (fun _ _ _ => rfl) (fun e L' hL => JV.load1 7 rfl ((hL 7 (by decide)).trans rfl) Tryd.isAgg3 (rfl)),
                Ob.v rfl (fun _ _ h => by cases h) (fun _ _ _ => rfl) (fun e L' hL => JV.loadV 1 rfl ((hL 1 (by decide)).trans rfl) Tryd.isAgg26 Tryd.sizeOf26 rfl),
                Ob.v rfl (fun _ _ h => by cases h) (fun _ _ _ => rfl) (fun e L' hL => JV.fieldAddrK (o := 1) rfl Tryd.runUnderlying34 rfl Tryd.sizeOf3 rfl rfl),
                Ob.v rfl (fun _ _ h => by cases h) (fun _ _ _ => rfl) (fun e L' hL => JV.load1 7 rfl ((hL 7 (by decide)).trans rfl) Tryd.isAgg3 (rfl)),
                Ob.v rfl (fun _ _ h => by cases h) (fun _ _ _ => rfl) (fun e L' hL => JV.callM Tryd.call17 (evs_cons rfl (evs_cons rfl evs_nil)) (fun w hw => ruses_spec pn tv rv qv ts rs (by omega) (by omega) (withId n (fresh ts (Pl.getK ks a1) a0 a1 [115, 101, 101, 100])).ty w (hw.reads (id := 101) ((hL 101 (by decide)).trans rfl)) (hw.reads (id := 102) ((hL 102 (by decide)).trans rfl)))),
                Ob.v rfl (fun _ _ h => by cases h) (fun _ _ _ => rfl) (fun e L' hL => JV.known (c := true) (JV.call Tryd.call16 (evs_cons rfl (evs_cons rfl evs_nil)) (rsubset_pure _ _)) (decide_eq_true f8)),
                Ob.v rfl (fun _ _ h => by cases h) (fun _ _ _ => rfl) (fun e L' hL => JV.assign rfl), trivial⟩ (fun ev16 => ?_)
      simp only [endF, endL, putF, List.nil_append, List.cons_append]
      refine JQ.n_then ?_
      refine JQ.seq ?_
      refine JQ.region ?_
      refine JQ.v (JV.move rfl) rfl ?_
      refine JQ.v (JV.move rfl) rfl ?_
      refine JQ.vg rfl rfl (JV.move rfl) rfl ?_
      refine JQ.vg rfl rfl (JV.move rfl) rfl ?_
      refine JQ.vg rfl rfl (JV.known (c := true) (JV.eqlI rfl rfl) (decide_eq_true f7)) rfl ?_
      refine JQ.v (JV.pickT rfl rfl) rfl ?_
      refine JQ.v (JV.move rfl) rfl ?_
      refine JQ.vg rfl rfl (JV.move rfl) rfl ?_
      refine JQ.v (JV.pickT rfl rfl) rfl ?_
      refine JQ.v (JV.move rfl) rfl ?_
      refine JQ.vg rfl rfl (JV.move rfl) rfl ?_
      refine JQ.vg rfl rfl (JV.fieldAddrK (o := 5) rfl Tryd.runUnderlying34 rfl Tryd.sizeOf3 rfl rfl) rfl ?_
      refine JQ.vg rfl rfl (JV.load1 6 rfl rfl Tryd.isAgg3 (rfl)) rfl ?_
      refine JQ.vg rfl rfl (JV.fieldAddrK (o := 4) rfl Tryd.runUnderlying34 rfl Tryd.sizeOf3 rfl rfl) rfl ?_
      refine JQ.vg rfl rfl (JV.load1 6 rfl rfl Tryd.isAgg3 (rfl)) rfl ?_
      refine JQ.vg rfl rfl (JV.subI rfl rfl (by omega)) rfl ?_
      refine JQ.vg rfl rfl (JV.known (c := true) (JV.leq rfl rfl) (decide_eq_true f10.1)) rfl ?_
      refine JQ.v (JV.pickT rfl rfl) rfl ?_
      refine JQ.v (JV.move rfl) rfl ?_
      refine JQ.vg rfl rfl (JV.move rfl) rfl ?_
      refine JQ.vg rfl rfl (JV.leq rfl rfl) rfl ?_
      refine JQ.vbg rfl rfl (JV.move rfl) rfl (fun g17_21 => ?_) (fun g17_21 => ?_)
      · refine JQ.g0 rfl rfl rfl rfl ?_
        refine JQ.g0 rfl rfl rfl rfl ?_
        refine JQ.g0 rfl rfl rfl rfl ?_
        refine JQ.vg rfl rfl (JV.pickT rfl rfl) rfl ?_
        refine JQ.v (JV.pickT rfl rfl) rfl ?_
        refine JQ.v (JV.move rfl) rfl ?_
        refine JQ.vg rfl rfl (JV.fieldAddrK (o := 1) rfl Tryd.runUnderlying34 rfl Tryd.sizeOf3 rfl rfl) rfl ?_
        refine JQ.vg rfl rfl (JV.load1 7 rfl rfl Tryd.isAgg3 (rfl)) rfl ?_
        refine JQ.vg rfl rfl (JV.fieldAddrK (o := 1) rfl Tryd.runUnderlying34 rfl Tryd.sizeOf3 rfl rfl) rfl ?_
        refine JQ.vg rfl rfl (JV.load1 6 rfl rfl Tryd.isAgg3 (rfl)) rfl ?_
        refine JQ.vg rfl rfl (JV.known (c := true) (JV.eqlI rfl rfl) (decide_eq_true rfl)) rfl ?_
        refine JQ.v (JV.pickT rfl rfl) rfl ?_
        refine JQ.v (JV.move rfl) rfl ?_
        refine JQ.vg rfl rfl (JV.fieldAddrK (o := 8) rfl Tryd.runUnderlying34 rfl Tryd.sizeOf4 rfl rfl) rfl ?_
        refine JQ.vg rfl rfl (JV.load1 7 rfl rfl Tryd.isAgg4 (rfl)) rfl ?_
        refine JQ.vg rfl rfl (JV.known (c := true) (JV.notB rfl) (rfl)) rfl ?_
        refine JQ.v (JV.pickT rfl rfl) rfl ?_
        refine JQ.v (JV.assign rfl) rfl ?_
        refine JQ.nil ?_
        refine JQ.n_then ?_
        refine JQ.ret ?_
        refine JQ.done1 Tryd.results4 rfl ?_
        exact fun w hw => ⟨rfl, hw.below⟩
      · refine JQ.vg rfl rfl (JV.move rfl) rfl ?_
        refine JQ.vg rfl rfl (JV.move rfl) rfl ?_
        refine JQ.vg rfl rfl (JV.known (c := true) (JV.leq rfl rfl) (decide_eq_true (f11 tn hty (by have := of_decide_eq_false g17_21; omega)))) rfl ?_
        refine JQ.vg rfl rfl (JV.pickF rfl rfl) rfl ?_
        refine JQ.v (JV.pickT rfl rfl) rfl ?_
        refine JQ.v (JV.move rfl) rfl ?_
        refine JQ.vg rfl rfl (JV.fieldAddrK (o := 1) rfl Tryd.runUnderlying34 rfl Tryd.sizeOf3 rfl rfl) rfl ?_
        refine JQ.vg rfl rfl (JV.load1 7 rfl rfl Tryd.isAgg3 (rfl)) rfl ?_
        refine JQ.vg rfl rfl (JV.fieldAddrK (o := 1) rfl Tryd.runUnderlying34 rfl Tryd.sizeOf3 rfl rfl) rfl ?_
        refine JQ.vg rfl rfl (JV.load1 6 rfl rfl Tryd.isAgg3 (rfl)) rfl ?_
        refine JQ.vg rfl rfl (JV.known (c := true) (JV.eqlI rfl rfl) (decide_eq_true rfl)) rfl ?_
        refine JQ.v (JV.pickT rfl rfl) rfl ?_
        refine JQ.v (JV.move rfl) rfl ?_
        refine JQ.vg rfl rfl (JV.fieldAddrK (o := 8) rfl Tryd.runUnderlying34 rfl Tryd.sizeOf4 rfl rfl) rfl ?_
        refine JQ.vg rfl rfl (JV.load1 7 rfl rfl Tryd.isAgg4 (rfl)) rfl ?_
        refine JQ.vg rfl rfl (JV.known (c := true) (JV.notB rfl) (rfl)) rfl ?_
        refine JQ.v (JV.pickT rfl rfl) rfl ?_
        refine JQ.v (JV.assign rfl) rfl ?_
        refine JQ.nil ?_
        refine JQ.n_then ?_
        refine JQ.ret ?_
        refine JQ.done1 Tryd.results4 rfl ?_
        exact fun w hw => ⟨rfl, hw.below⟩
end Go.Fw
end
