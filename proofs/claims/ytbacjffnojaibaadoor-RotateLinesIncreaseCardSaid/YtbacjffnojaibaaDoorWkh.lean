/- The law of increasing lines returns true, walked; the condition is that the tables read as they are laid. -/
import Derived.Test.YtbacjffnojaibaaDoorWkg
import Derived.Test.YtbacjffnojaibaaDoorProg
section
open Go.RowKit
set_option maxRecDepth 100000
set_option linter.unusedVariables false
set_option linter.unusedSimpArgs false
namespace Go.Fw
open Go.Proofs
theorem b8s_at {l : List UInt8} {i : Nat} (h : i < l.length) : (l.map b8)[i]? = some (b8 (l.getD i 0)) := by
  rw [List.getElem?_map, List.getElem?_eq_getElem h, List.getD_eq_getElem?_getD, List.getElem?_eq_getElem h]; rfl
theorem JQ.roCopy {w0 : World} {sz : Nat} {F : FL} {L : ML} {K : Act → World → Prop} (id id' : Nat) {v : Value} {s n : Nat} {xs : List Value} (hr : lr L id = some (.ro v s n xs)) (h : JQ w0 sz F ((id', .ro v s n xs) :: L) K) : JQ w0 sz F L K :=
  fun a w h1 h2 h3 hM => h a w h1 h2 h3 (hM.view (hM.reads hr) fun j r hj hjr hw => hM.apart id j _ r (fun e => by subst e; rw [hr] at hjr; cases hjr; cases hw) hr hjr (.inr hw))
theorem key_keeps {ts : List Pl.Typ} {rs : List Pl.Rule} {n : Int} {ks : List Pl.Key} {now nid id : Int} (hok : tabOk n ks) (hl : ks.length < 4000) (h : keyE ts rs n ks now nid = 0) (sd : List UInt8) (hsd : sd.length ≤ 1048576) (hE : Pl.getE ks id = 0) :
    Pl.getE (keyT ts rs n ks now nid sd).keys id = 0 ∧ (Pl.getK (keyT ts rs n ks now nid sd).keys id).ver = (Pl.getK ks id).ver := by
  have hT := (keyT_eq h sd).1
  have hO := key_tabOk hok hl h sd hsd
  have hk := kchk_ok hok (keyE_ok h).1
  have hix := getE_ok hE
  have hid : (Pl.at_ ks (Pl.ix ks id)).id = id := Pl.ix_at hix
  have a1 : Pl.at_ (keyT ts rs n ks now nid sd).keys (Pl.ix ks id) = Pl.at_ (keys1 ks nid) (Pl.ix ks id) := by
    rw [hT]; exact at_app_lt (by rw [keys1_len]; exact hix)
  have i1 : Pl.ix (keyT ts rs n ks now nid sd).keys id = Pl.ix ks id := by
    have := Pl.incr_ix hO.1.2.2.1 (i := Pl.ix ks id) (by rw [hO.2.1]; omega)
    rwa [a1, keys1_id hk.2.1.1, hid] at this
  refine ⟨by rw [Pl.getE, i1, if_pos (by rw [hO.2.1]; omega)], ?_⟩
  rw [Pl.getK, i1, a1, keys1_at hk.2.1.1]
  split
  · rename_i e; show (Pl.getK ks nid).ver = (Pl.getK ks id).ver; unfold Pl.getK; rw [e]
  · rfl
theorem tab_vk {n : Int} {ks : List Pl.Key} {id : Int} (h : tabOk n ks) (hE : Pl.getE ks id = 0) : vkR (Pl.getK ks id) = true := (h.2.2.2 _ (getE_ok hE)).1
theorem line_facts {ks : List Pl.Key} (hs : Pl.incr ks) : ∀ (m : Nat) (id : Int), ks.length ≤ m + Pl.ix ks id → Pl.ix ks id < ks.length → ∀ j, j < (Pl.lineF ks m id).length →
    Pl.ix ks ((Pl.lineF ks m id).getD j 0) < ks.length ∧ (Pl.getK ks ((Pl.lineF ks m id).getD j 0)).ver = (Pl.getK ks id).ver + (j : Int) ∧ (0 < j → (Pl.lineF ks m id).getD (j - 1) 0 < (Pl.lineF ks m id).getD j 0)
  | 0, id, h, hx, j, hj => by omega
  | m + 1, id, h, hx, j, hj => by
    rw [Pl.lineF] at hj ⊢
    cases j with
    | zero => exact ⟨hx, by show (Pl.getK ks id).ver = (Pl.getK ks id).ver + ((0 : Nat) : Int); omega, fun h => absurd h (Nat.lt_irrefl _)⟩
    | succ j =>
      cases hn : Pl.nextO ks id with
      | none => rw [hn] at hj; simp at hj
      | some i =>
        rw [hn] at hj
        obtain ⟨h3, h4, h5, h6⟩ := Pl.next_gt hs hn
        have hj' : j < (Pl.lineF ks m (Pl.at_ ks i).id).length := by simpa using hj
        have ih := line_facts hs m (Pl.at_ ks i).id (by rw [h4]; omega) (by rw [h4]; exact h3) j hj'
        have hsu := h6
        simp only [Pl.succ, Bool.and_eq_true, decide_eq_true_eq] at hsu
        have hkid : (Pl.getK ks id).id = id := Pl.ix_at hx
        have hgi : Pl.getK ks (Pl.at_ ks i).id = Pl.at_ ks i := by rw [Pl.getK, h4]
        show Pl.ix ks ((Pl.lineF ks m (Pl.at_ ks i).id).getD j 0) < _ ∧ (Pl.getK ks ((Pl.lineF ks m (Pl.at_ ks i).id).getD j 0)).ver = _ ∧ (_ → (id :: Pl.lineF ks m (Pl.at_ ks i).id).getD j 0 < (Pl.lineF ks m (Pl.at_ ks i).id).getD j 0)
        refine ⟨ih.1, ?_, fun _ => ?_⟩
        · rw [ih.2.1, hgi, hsu.2.2.2]; omega
        · cases j with
          | zero =>
            have e : ∀ m, (Pl.lineF ks m (Pl.at_ ks i).id).getD 0 0 = (Pl.at_ ks i).id := fun m => by cases m <;> rfl
            rw [e]; show id < _; rw [← hkid]; exact hsu.1
          | succ j => exact ih.2.2 (Nat.succ_pos _)
theorem lineL_facts {ks : List Pl.Key} {id : Int} (hs : Pl.incr ks) (hE : Pl.getE ks id = 0) : 0 < (Pl.lineL ks id).length ∧ (Pl.lineL ks id).getD 0 0 = id ∧ ∀ j, j < (Pl.lineL ks id).length →
    Pl.getE ks ((Pl.lineL ks id).getD j 0) = 0 ∧ (Pl.getK ks ((Pl.lineL ks id).getD j 0)).ver = (Pl.getK ks id).ver + (j : Int) ∧ (0 < j → (Pl.lineL ks id).getD (j - 1) 0 < (Pl.lineL ks id).getD j 0) := by
  have hix := getE_ok hE
  rw [Pl.lineL, if_pos hix]
  refine ⟨Pl.line_ne hs id, by rw [Pl.line_eq hs]; rfl, fun j hj => ?_⟩
  have h := line_facts hs ks.length id (by omega) hix j hj
  rw [show Pl.lineF ks ks.length id = Pl.line ks id from rfl] at h
  exact ⟨by rw [Pl.getE, if_pos h.1], h.2⟩
attribute [local irreducible] kcs tcs rcs Pl.ix Pl.lb Pl.getE Pl.getK Pl.fnd Pl.nextO Pl.at_ Pl.line Pl.lineL Pl.newest Pl.tyAt Pl.isTy Pl.outG Pl.outR Pl.usesG Pl.usesR Pl.nextB Pl.nextI kchk kchK life0 lifeK addT addI addE keyT keyE keyS keyI allR dueL Pl.val Pl.seed fewT vtab alE alK
set_option maxHeartbeats 1000000 in
theorem incLaw (pn : List UInt8) (tv rv qv : Value) (ts : List Pl.Typ) (rs : List Pl.Rule) (nq : Nat) (qx : List Value) (n : Int) (kv : Value) (ks : List Pl.Key) (hl : ks.length ≤ 9223372036854775807) (id : Int) (iw : Value) (m : List UInt8) (w : World) (ht : Reads w tv 3 ts.length (tcs ts)) (hru : Reads w rv 3 rs.length (rcs rs)) (hq : Reads w qv 5 nq qx) (hr : Reads w kv 9 ks.length (kcs ks)) (hi : Reads w iw 1 m.length (m.map b8)) (hB : Gl 0 byRule w) (hG : Gl 2 (Pl.K.map u32) w) :
    Calls Tryd.prog 3 #[.agg [str pn, tv, rv, qv].toArray, .agg [iv n, kv].toArray, iv id, iw] w fun e w' => e = .returned (.bool true) ∧ Below w.heap.size w w' := by
  
  refine enterA (vs := [_, _, _, _]) Tryd.func3 rfl 149 rfl [(902, .ro (gv 2 64) 1 64 (Pl.K.map u32)), (900, .ro (gv 0 15) 1 15 byRule), (101, .ro tv 3 ts.length (tcs ts)), (102, .ro rv 3 rs.length (rcs rs)), (103, .ro qv 5 nq qx), (100, .ro kv 9 ks.length (kcs ks)), (105, .ro iw 1 m.length (m.map b8))] (((((((MemOk.start1 105 hi).addRo 100 hr (ro_cons ro_nil)).addRo 103 hq (ro_cons (ro_cons ro_nil))).addRo 102 hru (ro_cons (ro_cons (ro_cons ro_nil)))).addRo 101 ht (ro_cons (ro_cons (ro_cons (ro_cons ro_nil))))).addRo 900 hB (ro_cons (ro_cons (ro_cons (ro_cons (ro_cons ro_nil)))))).addRo 902 hG (ro_cons (ro_cons (ro_cons (ro_cons (ro_cons (ro_cons ro_nil))))))) ?_
  refine JQ.seq ?_
  refine JQ.region ?_
  refine JQ.x (JO.box 1 rfl rfl) rfl ?_
  intro i0_0
  refine JQ.x (JO.box 2 rfl rfl) rfl ?_
  intro i0_1
  refine JQ.v (JV.assign rfl) rfl ?_
  refine JQ.nil ?_
  refine JQ.n_then ?_
  refine JQ.seq ?_
  refine JQ.region ?_
  refine JQ.v (JV.callM Tryd.call9 evs_nil (fun w hw => san_spec w (hw.reads (id := 900) rfl) (hw.reads (id := 902) rfl))) rfl ?_
  refine JQ.v (JV.assign rfl) rfl ?_
  refine JQ.nil ?_
  refine JQ.n_then ?_
  refine JQ.seq ?_
  refine JQ.seq ?_
  refine JQ.region ?_
  refine JQ.v (JV.loadV 1 rfl rfl Tryd.isAgg26 Tryd.sizeOf26 rfl) rfl ?_
  refine JQ.v (JV.loadV 2 rfl rfl Tryd.isAgg29 Tryd.sizeOf29 rfl) rfl ?_
  refine JQ.v (JV.callM Tryd.call10 (evs_cons rfl (evs_cons rfl evs_nil)) (fun w hw => few35_spec pn tv rv qv ts rs nq qx n kv ks hl w (hw.reads (id := 101) rfl) (hw.reads (id := 102) rfl) (hw.reads (id := 103) rfl) (hw.reads (id := 100) rfl))) rfl ?_
  refine JQ.v (JV.notB rfl) rfl ?_
  refine JQ.vb (JV.move rfl) rfl (fun g2_4 => ?_) (fun g2_4 => ?_)
  · refine JQ.g0 rfl rfl rfl rfl ?_
    refine JQ.g0 rfl rfl rfl rfl ?_
    refine JQ.g0 rfl rfl rfl rfl ?_
    refine JQ.v (JV.pickT rfl rfl) rfl ?_
    refine JQ.nil ?_
    refine JQ.n_then ?_
    refine JQ.condT rfl ?_
    refine JQ.seq ?_
    refine JQ.region ?_
    refine JQ.v (JV.move rfl) rfl ?_
    refine JQ.v (JV.assign rfl) rfl ?_
    refine JQ.nil ?_
    refine JQ.n_then ?_
    refine JQ.ret ?_
    refine JQ.r_then ?_
    refine JQ.done1 Tryd.results3 rfl ?_
    exact fun w hw => ⟨rfl, hw.below⟩
  · refine JQ.vg rfl rfl (JV.move rfl) rfl ?_
    refine JQ.vg rfl rfl (JV.lenRo 105 rfl rfl Tryd.runUnderlying30) rfl ?_
    refine JQ.vg rfl rfl (JV.gtrN (b := 10) rfl rfl) rfl ?_
    refine JQ.v (JV.pickF rfl rfl) rfl ?_
    refine JQ.nil ?_
    refine JQ.n_then ?_
    refine JQ.condP rfl (fun h35 => ?_) (fun h35 => ?_)
    · refine JQ.seq ?_
      refine JQ.region ?_
      refine JQ.v (JV.move rfl) rfl ?_
      refine JQ.v (JV.assign rfl) rfl ?_
      refine JQ.nil ?_
      refine JQ.n_then ?_
      refine JQ.ret ?_
      refine JQ.r_then ?_
      refine JQ.done1 Tryd.results3 rfl ?_
      exact fun w hw => ⟨rfl, hw.below⟩
    · refine JQ.skip ?_
      refine JQ.n_then ?_
      refine JQ.seq ?_
      have hff := few_all (by simpa using g2_4)
      have hok := hff.1
      have hlen := hok.1
      have hl2 := hff.2
      have hm10 : m.length ≤ 10 := by omega
      refine JQ.region ?_
      refine JQ.v (JV.loadV 2 rfl rfl Tryd.isAgg29 Tryd.sizeOf29 rfl) rfl ?_
      refine JQ.v (JV.move rfl) rfl ?_
      refine JQ.v (JV.callM Tryd.call11 (evs_cons rfl (evs_cons rfl evs_nil)) (fun w hw => get_spec n kv ks (by omega) hok.2.2.1 id w (hw.reads (id := 100) rfl))) rfl ?_
      refine JQ.v (JV.move rfl) rfl ?_
      refine JQ.v (JV.extract rfl rfl) rfl ?_
      refine JQ.v (JV.extract rfl rfl) rfl ?_
      refine JQ.x (JO.alloc 3 (zs := (kc Pl.Key.zero)) Tryd.zeroValue34 rfl) rfl ?_
      intro i4_6
      refine JQ.s (JO.storeV 3 rfl rfl rfl (us := kc (Pl.getK ks id)) rfl Tryd.sizeOf34 rfl rfl) ?_
      refine JQ.v (JV.assign rfl) rfl ?_
      refine JQ.nil ?_
      refine JQ.n_then ?_
      refine JQ.seq ?_
      refine JQ.seq ?_
      refine JQ.region ?_
      refine JQ.v (JV.move rfl) rfl ?_
      refine JQ.v (JV.neqI rfl rfl) rfl ?_
      refine JQ.nil ?_
      refine JQ.n_then ?_
      refine JQ.condP rfl (fun h44 => ?_) (fun h44 => ?_)
      · refine JQ.seq ?_
        refine JQ.region ?_
        refine JQ.v (JV.move rfl) rfl ?_
        refine JQ.v (JV.assign rfl) rfl ?_
        refine JQ.nil ?_
        refine JQ.n_then ?_
        refine JQ.ret ?_
        refine JQ.r_then ?_
        refine JQ.done1 Tryd.results3 rfl ?_
        exact fun w hw => ⟨rfl, hw.below⟩
      · refine JQ.skip ?_
        refine JQ.n_then ?_
        refine JQ.seq ?_
        have hE0 : Pl.getE ks id = 0 := Decidable.not_not.1 h44
        have hv0 := vkR_iff.1 (tab_vk hok hE0)
        have hst0 : 0 ≤ (Pl.getK ks id).st ∧ (Pl.getK ks id).st ≤ 1099511627776 := hv0.2.2.2.1
        have hvr0 : 1 ≤ (Pl.getK ks id).ver ∧ (Pl.getK ks id).ver ≤ 2147483647 := hv0.2.2.2.2.2.1
        refine JQ.region ?_
        refine JQ.v (JV.build (v := .agg [str [115, 101, 101, 100]].toArray) (evp_cons rfl evp_nil) (fun w => by kernel_rfl)) rfl ?_
        refine JQ.x (JO.alloc 4 (zs := [str []]) Tryd.zeroValue39 rfl) rfl ?_
        intro i7_1
        refine JQ.s (JO.storeV 4 rfl rfl rfl (us := [str [115, 101, 101, 100]]) rfl Tryd.sizeOf39 rfl rfl) ?_
        refine JQ.nil ?_
        refine JQ.n_then ?_
        refine JQ.seq ?_
        refine JQ.region ?_
        refine JQ.v (JV.fieldAddrK (o := 4) rfl Tryd.runUnderlying34 rfl Tryd.sizeOf3 rfl rfl) rfl ?_
        refine JQ.v (JV.load1 3 rfl rfl Tryd.isAgg3 (rfl)) rfl ?_
        refine JQ.v (JV.assign rfl) rfl ?_
        refine JQ.nil ?_
        refine JQ.n_then ?_
        refine JQ.seq ?_
        refine JQ.seq ?_
        refine JQ.region ?_
        refine JQ.v (JV.assign rfl) rfl ?_
        refine JQ.nil ?_
        refine JQ.n_then ?_
        refine JQ.block ?_
        refine JQ.loopI (ι := Nat × Int × List Pl.Key × Value × List UInt8 × Int) (fun i => [(2, iv id), (3, iw), (4, .pointer (some ⟨i0_0, 0, none⟩)), (5, .pointer (some ⟨i0_1, 0, none⟩)), (9, .bool true), (10, .pointer (some ⟨i4_6, 0, none⟩)), (12, .pointer (some ⟨i7_1, 0, none⟩)), (13, iv i.2.2.2.2.2), (14, .int .i64 ((i.1 : Nat) : Int))]) (fun i => [(1, .cells i0_0 [str pn, tv, rv, qv] 26 (0, 0)), (3, .cells i4_6 (kc (Pl.getK ks id)) 34 (0, 0)), (2, .cells i0_1 [iv i.2.1, i.2.2.2.1] 29 (0, 0)), (4, .cells i7_1 [str i.2.2.2.2.1] 39 (0, 0)), (101, .ro tv 3 ts.length (tcs ts)), (102, .ro rv 3 rs.length (rcs rs)), (100, .ro i.2.2.2.1 9 i.2.2.1.length (kcs i.2.2.1)), (105, .ro iw 1 m.length (m.map b8)), (900, .ro (gv 0 15) 1 15 byRule), (902, .ro (gv 2 64) 1 64 (Pl.K.map u32))]) (fun i => i.1 ≤ m.length ∧ tabOk i.2.1 i.2.2.1 ∧ i.2.2.1.length ≤ ks.length + i.1 ∧ i.2.2.2.2.1.length ≤ 1048576 ∧ Pl.getE i.2.2.1 id = 0 ∧ (Pl.getK i.2.2.1 id).ver = (Pl.getK ks id).ver ∧ (0 ≤ i.2.2.2.2.2 ∧ i.2.2.2.2.2 ≤ 1099511627776 + 8 * (i.1 : Int))) (fun i => m.length - i.1) (0, n, ks, kv, [115, 101, 101, 100], (Pl.getK ks id).st) ⟨Nat.zero_le _, hok, Nat.le_refl _, (show ([115, 101, 101, 100] : List UInt8).length ≤ 1048576 from by decide), hE0, rfl, by show 0 ≤ (Pl.getK ks id).st ∧ (Pl.getK ks id).st ≤ 1099511627776 + 8 * ((0 : Nat) : Int); omega⟩ (subk_cons rfl (subk_cons rfl (subk_cons rfl (subk_cons rfl (subk_cons rfl (subk_cons rfl (subk_cons rfl (subk_cons rfl (subk_cons rfl subk_nil))))))))) (subr_cons rfl (subr_cons rfl (subr_cons rfl (subr_cons rfl (subr_cons rfl (subr_cons rfl (subr_cons rfl (subr_cons rfl (subr_cons rfl (subr_cons rfl subr_nil)))))))))) ?_
        rintro ⟨i, n1, ks1, kv1, sd1, now1⟩ ⟨hi1, hok1, hkl1, hsd1, hE1, hver1, hnw⟩
        dsimp only at hi1 hok1 hkl1 hsd1 hE1 hver1 hnw
        show JQ _ _ [(2, iv id), (3, iw), (4, .pointer (some ⟨i0_0, 0, none⟩)), (5, .pointer (some ⟨i0_1, 0, none⟩)), (9, .bool true), (10, .pointer (some ⟨i4_6, 0, none⟩)), (12, .pointer (some ⟨i7_1, 0, none⟩)), (13, iv now1), (14, .int .i64 ((i : Nat) : Int))] [(1, .cells i0_0 [str pn, tv, rv, qv] 26 (0, 0)), (3, .cells i4_6 (kc (Pl.getK ks id)) 34 (0, 0)), (2, .cells i0_1 [iv n1, kv1] 29 (0, 0)), (4, .cells i7_1 [str sd1] 39 (0, 0)), (101, .ro tv 3 ts.length (tcs ts)), (102, .ro rv 3 rs.length (rcs rs)), (100, .ro kv1 9 ks1.length (kcs ks1)), (105, .ro iw 1 m.length (m.map b8)), (900, .ro (gv 0 15) 1 15 byRule), (902, .ro (gv 2 64) 1 64 (Pl.K.map u32))] _
        refine JQ.seq ?_
        refine JQ.seq ?_
        refine JQ.region ?_
        refine JQ.v (JV.move rfl) rfl ?_
        refine JQ.v (JV.move rfl) rfl ?_
        refine JQ.v (JV.lenRo 105 rfl rfl Tryd.runUnderlying30) rfl ?_
        refine JQ.v (JV.lssN rfl rfl) rfl ?_
        refine JQ.nil ?_
        refine JQ.n_then ?_
        refine JQ.condP rfl (fun h52 => ?_) (fun h52 => ?_)
        · refine JQ.skip ?_
          refine JQ.n_then ?_
          refine JQ.seq ?_
          refine JQ.block ?_
          refine JQ.seq ?_
          refine JQ.region ?_
          refine JQ.v (JV.move rfl) rfl ?_
          refine JQ.v (JV.move rfl) rfl ?_
          refine JQ.v (JV.move rfl) rfl ?_
          refine JQ.v (JV.idxRo1 105 rfl rfl rfl Tryd.runUnderlying30 Tryd.sizeOf5 (by decide) (by omega)) rfl ?_
          refine JQ.v (JV.loadR 105 rfl rfl Tryd.isAgg5 (b8s_at (by omega))) rfl ?_
          refine JQ.v (JV.convK Tryd.runUnderlying5 Tryd.runUnderlying3 rfl (wrap_i64 (by have := (m.getD i 0).toNat_lt; omega))) rfl ?_
          refine JQ.v (JV.remN (b := 8) rfl rfl (by omega)) rfl ?_
          refine JQ.v (JV.addI rfl rfl (by omega)) rfl ?_
          obtain ⟨now2, hn2⟩ : ∃ z, z = now1 + (((m.getD i 0).toNat % 8 : Nat) : Int) := ⟨_, rfl⟩
          rw [← hn2]
          refine JQ.v (JV.assign rfl) rfl ?_
          refine JQ.nil ?_
          refine JQ.n_then ?_
          refine JQ.seq ?_
          refine JQ.region ?_
          refine JQ.v (JV.loadV 2 rfl rfl Tryd.isAgg29 Tryd.sizeOf29 rfl) rfl ?_
          refine JQ.v (JV.move rfl) rfl ?_
          refine JQ.v (JV.callM Tryd.call12 (evs_cons rfl (evs_cons rfl evs_nil)) (fun w hw => newest_spec n1 kv1 ks1 (by omega) hok1.2.2.1 hok1.ver id w (hw.reads (id := 100) rfl))) rfl ?_
          refine JQ.v (JV.move rfl) rfl ?_
          refine JQ.v (JV.extract rfl rfl) rfl ?_
          refine JQ.v (JV.extract rfl rfl) rfl ?_
          refine JQ.v (JV.assign rfl) rfl ?_
          refine JQ.v (JV.assign rfl) rfl ?_
          refine JQ.nil ?_
          refine JQ.n_then ?_
          refine JQ.seq ?_
          refine JQ.region ?_
          refine JQ.v (JV.loadV 1 rfl rfl Tryd.isAgg26 Tryd.sizeOf26 rfl) rfl ?_
          refine JQ.v (JV.loadV 2 rfl rfl Tryd.isAgg29 Tryd.sizeOf29 rfl) rfl ?_
          refine JQ.v (JV.loadV 4 rfl rfl Tryd.isAgg39 Tryd.sizeOf39 rfl) rfl ?_
          refine JQ.v (JV.move rfl) rfl ?_
          refine JQ.v (JV.move rfl) rfl ?_
          refine JQ.x (JO.callRowV 60 (fun v => .tuple #[.agg [iv (keyT ts rs n1 ks1 now2 (Pl.newest ks1 id) sd1).next, v].toArray, .agg [str (keyS ts rs n1 ks1 now2 (Pl.newest ks1 id) sd1)].toArray, iv (keyI ts rs n1 ks1 now2 (Pl.newest ks1 id)), iv (keyE ts rs n1 ks1 now2 (Pl.newest ks1 id))]) Tryd.call13 (evs_cons rfl (evs_cons rfl (evs_cons rfl (evs_cons rfl (evs_cons rfl evs_nil))))) (fun w hw => key_spec pn tv rv qv ts rs (by omega) (by omega) n1 kv1 ks1 hok1 sd1 hsd1 now2 (Pl.newest ks1 id) w (hw.reads (id := 101) rfl) (hw.reads (id := 102) rfl) (hw.reads (id := 100) rfl) (hw.reads (id := 900) rfl) (hw.reads (id := 902) rfl))) rfl ?_
          intro i14_5
          refine JQ.roOf 60 rfl ?_
          refine JQ.v (JV.move rfl) rfl ?_
          refine JQ.v (JV.extract rfl rfl) rfl ?_
          refine JQ.v (JV.extract rfl rfl) rfl ?_
          refine JQ.v (JV.extract rfl rfl) rfl ?_
          refine JQ.v (JV.extract rfl rfl) rfl ?_
          refine JQ.x (JO.alloc 5 (zs := [iv 0, .slice none 0 0]) Tryd.zeroValue29 rfl) rfl ?_
          intro i14_11
          refine JQ.x (JO.alloc 6 (zs := [str []]) Tryd.zeroValue39 rfl) rfl ?_
          intro i14_12
          refine JQ.s (JO.storeV 5 rfl rfl rfl (us := [iv (keyT ts rs n1 ks1 now2 (Pl.newest ks1 id) sd1).next, slv i14_5 (keyT ts rs n1 ks1 now2 (Pl.newest ks1 id) sd1).keys.length]) rfl Tryd.sizeOf29 rfl rfl) ?_
          refine JQ.s (JO.storeV 6 rfl rfl rfl (us := [str (keyS ts rs n1 ks1 now2 (Pl.newest ks1 id) sd1)]) rfl Tryd.sizeOf39 rfl rfl) ?_
          refine JQ.v (JV.assign rfl) rfl ?_
          refine JQ.v (JV.assign rfl) rfl ?_
          refine JQ.nil ?_
          refine JQ.n_then ?_
          refine JQ.seq ?_
          refine JQ.seq ?_
          refine JQ.region ?_
          refine JQ.v (JV.move rfl) rfl ?_
          refine JQ.v (JV.neqI rfl rfl) rfl ?_
          refine JQ.nil ?_
          refine JQ.n_then ?_
          refine JQ.condP rfl (fun h81 => ?_) (fun h81 => ?_)
          · exact absurd hE1 h81
          · refine JQ.skip ?_
            refine JQ.n_then ?_
            refine JQ.seq ?_
            refine JQ.region ?_
            refine JQ.v (JV.move rfl) rfl ?_
            refine JQ.v (JV.eqlI rfl rfl) rfl ?_
            refine JQ.nil ?_
            refine JQ.n_then ?_
            refine JQ.condP rfl (fun h83 => ?_) (fun h83 => ?_)
            · refine JQ.seq ?_
              refine JQ.roCopy 60 100 rfl ?_
              have hT := key_tabOk hok1 (by omega) h83 sd1 hsd1
              have hK := key_keeps hok1 (by omega) h83 sd1 hsd1 hE1
              refine JQ.region ?_
              refine JQ.v (JV.loadV 5 rfl rfl Tryd.isAgg29 Tryd.sizeOf29 rfl) rfl ?_
              refine JQ.s (JO.storeV 2 rfl rfl rfl (us := [iv (keyT ts rs n1 ks1 now2 (Pl.newest ks1 id) sd1).next, slv i14_5 (keyT ts rs n1 ks1 now2 (Pl.newest ks1 id) sd1).keys.length]) rfl Tryd.sizeOf29 rfl rfl) ?_
              refine JQ.nil ?_
              refine JQ.n_then ?_
              refine JQ.region ?_
              refine JQ.v (JV.loadV 6 rfl rfl Tryd.isAgg39 Tryd.sizeOf39 rfl) rfl ?_
              refine JQ.s (JO.storeV 4 rfl rfl rfl (us := [str (keyS ts rs n1 ks1 now2 (Pl.newest ks1 id) sd1)]) rfl Tryd.sizeOf39 rfl rfl) ?_
              refine JQ.nil ?_
              refine JQ.n_block ?_
              refine JQ.n_then ?_
              refine JQ.region ?_
              refine JQ.v (JV.move rfl) rfl ?_
              refine JQ.v (JV.addN (b := 1) rfl rfl (by omega)) rfl ?_
              refine JQ.v (JV.assign rfl) rfl ?_
              refine JQ.nil ?_
              refine JQ.n_then ?_
              exact JQ.nextI (i := (i, n1, ks1, kv1, sd1, now1)) (i + 1, (keyT ts rs n1 ks1 now2 (Pl.newest ks1 id) sd1).next, (keyT ts rs n1 ks1 now2 (Pl.newest ks1 id) sd1).keys, slv i14_5 (keyT ts rs n1 ks1 now2 (Pl.newest ks1 id) sd1).keys.length, (keyS ts rs n1 ks1 now2 (Pl.newest ks1 id) sd1), now2) (by first | exact ⟨by show i + 1 ≤ _; omega, hT.1, by show (keyT ts rs n1 ks1 now2 (Pl.newest ks1 id) sd1).keys.length ≤ _; rw [hT.2.1]; show _ ≤ ks.length + (i + 1); omega, hT.2.2, hK.1, by show (Pl.getK (keyT ts rs n1 ks1 now2 (Pl.newest ks1 id) sd1).keys id).ver = _; rw [hK.2]; exact hver1, by show 0 ≤ now2 ∧ now2 ≤ 1099511627776 + 8 * ((i + 1 : Nat) : Int); omega⟩ | exact ⟨by show i + 1 ≤ _; omega, hok1, by show ks1.length ≤ ks.length + (i + 1); omega, hsd1, hE1, hver1, by show 0 ≤ now2 ∧ now2 ≤ 1099511627776 + 8 * ((i + 1 : Nat) : Int); omega⟩) (by show _ - (i + 1) < _ - i; omega) (subk_cons rfl (subk_cons rfl (subk_cons rfl (subk_cons rfl (subk_cons rfl (subk_cons rfl (subk_cons rfl (subk_cons rfl (subk_cons rfl subk_nil))))))))) (subr_cons rfl (subr_cons rfl (subr_cons rfl (subr_cons rfl (subr_cons rfl (subr_cons rfl (subr_cons rfl (subr_cons rfl (subr_cons rfl (subr_cons rfl subr_nil))))))))))
            · refine JQ.skip ?_
              refine JQ.n_block ?_
              refine JQ.n_then ?_
              refine JQ.region ?_
              refine JQ.v (JV.move rfl) rfl ?_
              refine JQ.v (JV.addN (b := 1) rfl rfl (by omega)) rfl ?_
              refine JQ.v (JV.assign rfl) rfl ?_
              refine JQ.nil ?_
              refine JQ.n_then ?_
              exact JQ.nextI (i := (i, n1, ks1, kv1, sd1, now1)) (i + 1, n1, ks1, kv1, sd1, now2) (by first | exact ⟨by show i + 1 ≤ _; omega, hT.1, by show (keyT ts rs n1 ks1 now2 (Pl.newest ks1 id) sd1).keys.length ≤ _; rw [hT.2.1]; show _ ≤ ks.length + (i + 1); omega, hT.2.2, hK.1, by show (Pl.getK (keyT ts rs n1 ks1 now2 (Pl.newest ks1 id) sd1).keys id).ver = _; rw [hK.2]; exact hver1, by show 0 ≤ now2 ∧ now2 ≤ 1099511627776 + 8 * ((i + 1 : Nat) : Int); omega⟩ | exact ⟨by show i + 1 ≤ _; omega, hok1, by show ks1.length ≤ ks.length + (i + 1); omega, hsd1, hE1, hver1, by show 0 ≤ now2 ∧ now2 ≤ 1099511627776 + 8 * ((i + 1 : Nat) : Int); omega⟩) (by show _ - (i + 1) < _ - i; omega) (subk_cons rfl (subk_cons rfl (subk_cons rfl (subk_cons rfl (subk_cons rfl (subk_cons rfl (subk_cons rfl (subk_cons rfl (subk_cons rfl subk_nil))))))))) (subr_cons rfl (subr_cons rfl (subr_cons rfl (subr_cons rfl (subr_cons rfl (subr_cons rfl (subr_cons rfl (subr_cons rfl (subr_cons rfl (subr_cons rfl subr_nil))))))))))
        · refine JQ.exit ?_
          refine JQ.e_then ?_
          refine JQ.e_then ?_
          refine JQ.e_here ?_
          refine JQ.n_then ?_
          refine JQ.seq ?_
          have hLf := lineL_facts hok1.2.2.1 hE1
          have hLlen := lineL_le hok1.2.2.1 hok1.1 id
          refine JQ.region ?_
          refine JQ.v (JV.loadV 2 rfl rfl Tryd.isAgg29 Tryd.sizeOf29 rfl) rfl ?_
          refine JQ.v (JV.move rfl) rfl ?_
          refine JQ.x (JO.callNew 50 (fun v => .tuple #[v, iv (Pl.getE ks1 id)]) Tryd.call14 (evs_cons rfl (evs_cons rfl evs_nil)) (fun w hw => lineS_spec n1 kv1 ks1 (by omega) hok1.2.2.1 hok1.ver id w (hw.reads (id := 100) rfl))) rfl ?_
          intro i20_2
          refine JQ.v (JV.move rfl) rfl ?_
          refine JQ.v (JV.extract rfl rfl) rfl ?_
          refine JQ.v (JV.extract rfl rfl) rfl ?_
          refine JQ.v (JV.assign rfl) rfl ?_
          refine JQ.v (JV.assign rfl) rfl ?_
          refine JQ.nil ?_
          refine JQ.n_then ?_
          refine JQ.seq ?_
          refine JQ.seq ?_
          refine JQ.region ?_
          refine JQ.v (JV.move rfl) rfl ?_
          refine JQ.v (JV.known (c := false) (JV.neqI rfl rfl) (by rw [hE1]; simp)) rfl ?_
          refine JQ.v (JV.move rfl) rfl ?_
          refine JQ.vg rfl rfl (JV.move rfl) rfl ?_
          refine JQ.vg rfl rfl (JV.lenRo 50 rfl rfl Tryd.runUnderlying44) rfl ?_
          refine JQ.vg rfl rfl (JV.known (c := false) (JV.eqlN (b := 0) rfl rfl) (decide_eq_false (by omega))) rfl ?_
          refine JQ.v (JV.pickF rfl rfl) rfl ?_
          refine JQ.v (JV.move rfl) rfl ?_
          refine JQ.vg rfl rfl (JV.move rfl) rfl ?_
          refine JQ.vg rfl rfl (JV.idxRo1 50 (k := 0) rfl rfl rfl Tryd.runUnderlying44 Tryd.sizeOf3 (by decide) (by omega)) rfl ?_
          refine JQ.vg rfl rfl (JV.loadR 50 rfl rfl Tryd.isAgg3 (ivs_at (by omega))) rfl ?_
          refine JQ.vg rfl rfl (JV.move rfl) rfl ?_
          refine JQ.vg rfl rfl (JV.known (c := false) (JV.neqI rfl rfl) (decide_eq_false (fun h => h hLf.2.1))) rfl ?_
          refine JQ.v (JV.pickF rfl rfl) rfl ?_
          refine JQ.nil ?_
          refine JQ.n_then ?_
          refine JQ.condF rfl ?_
          refine JQ.skip ?_
          refine JQ.n_then ?_
          refine JQ.seq ?_
          refine JQ.seq ?_
          refine JQ.region ?_
          refine JQ.v (JV.assign rfl) rfl ?_
          refine JQ.nil ?_
          refine JQ.n_then ?_
          refine JQ.block ?_
          refine JQ.loopI (ι := Nat) (fun j => [(5, .pointer (some ⟨i0_1, 0, none⟩)), (9, .bool true), (10, .pointer (some ⟨i4_6, 0, none⟩)), (21, i20_2), (23, .int .i64 ((j : Nat) : Int))]) (fun j => [(3, .cells i4_6 (kc (Pl.getK ks id)) 34 (0, 0)), (2, .cells i0_1 [iv n1, kv1] 29 (0, 0)), (100, .ro kv1 9 ks1.length (kcs ks1)), (50, .ro i20_2 1 (Pl.lineL ks1 id).length ((Pl.lineL ks1 id).map iv))]) (fun j => j ≤ (Pl.lineL ks1 id).length) (fun j => (Pl.lineL ks1 id).length - j) 0 (Nat.zero_le _) (subk_cons rfl (subk_cons rfl (subk_cons rfl (subk_cons rfl (subk_cons rfl subk_nil))))) (subr_cons rfl (subr_cons rfl (subr_cons rfl (subr_cons rfl subr_nil)))) ?_
          intro j hj
          refine JQ.seq ?_
          refine JQ.seq ?_
          refine JQ.region ?_
          refine JQ.v (JV.move rfl) rfl ?_
          refine JQ.v (JV.move rfl) rfl ?_
          refine JQ.v (JV.lenRo 50 rfl rfl Tryd.runUnderlying44) rfl ?_
          refine JQ.v (JV.lssN rfl rfl) rfl ?_
          refine JQ.nil ?_
          refine JQ.n_then ?_
          refine JQ.condP rfl (fun h109 => ?_) (fun h109 => ?_)
          · refine JQ.skip ?_
            refine JQ.n_then ?_
            refine JQ.seq ?_
            refine JQ.block ?_
            refine JQ.seq ?_
            refine JQ.any [_, _, _, _, _, _, _, _, _, _, _, _] [fun _ => [], fun _ => [], fun _ => [], fun _ => [], fun _ => [], fun _ => [], fun _ => [], fun _ => [], fun _ => [], _, _, fun _ => []] [⟨[2], [], [], []⟩, ⟨[], [], [], []⟩, ⟨[], [], [], []⟩, ⟨[50], [], [], [1, 2]⟩, ⟨[50], [], [], [1, 2, 3]⟩, ⟨[100], [], [], [0, 1, 2, 3, 4]⟩, ⟨[], [], [], [0, 1, 2, 3, 4, 5]⟩, ⟨[], [], [], [0, 1, 2, 3, 4, 5, 6]⟩, ⟨[], [], [], [0, 1, 2, 3, 4, 5, 6]⟩, ⟨[], [5], [], []⟩, ⟨[], [5], [9], [0, 1, 2, 3, 4, 5, 6, 7, 9]⟩, ⟨[], [], [], [0, 1, 2, 3, 4, 5, 6, 7, 8, 9, 10]⟩] Tryd.mixed rfl (by kernel_rfl) ⟨Ob.v rfl (fun _ _ h => by cases h) (fun _ _ _ => rfl) (fun e L' hL => JV.loadV 2 rfl ((hL 2 (by decide)).trans rfl) Tryd.isAgg29 Tryd.sizeOf29 rfl),
                            Ob.v rfl (fun _ _ h => by cases h) (fun _ _ _ => rfl) (fun e L' hL => JV.move rfl),
                            Ob.v rfl (fun _ _ h => by cases h) (fun _ _ _ => rfl) (fun e L' hL => JV.move rfl),
                            Ob.v rfl (fun _ _ h => by cases h) (fun _ _ _ => rfl) (fun e L' hL => JV.idxRo1 50 rfl rfl ((hL 50 (by decide)).trans rfl) Tryd.runUnderlying44 Tryd.sizeOf3 (by decide) (by omega)),
                            Ob.v rfl (fun _ _ h => by cases h) (fun _ _ _ => rfl) (fun e L' hL => JV.loadR 50 rfl ((hL 50 (by decide)).trans rfl) Tryd.isAgg3 (ivs_at (by omega))),
                            Ob.v rfl (fun _ _ h => by cases h) (fun _ _ _ => rfl) (fun e L' hL => JV.callM Tryd.call11 (evs_cons rfl (evs_cons rfl evs_nil)) (fun w hw => get_spec n1 kv1 ks1 (by omega) hok1.2.2.1 ((Pl.lineL ks1 id).getD j 0) w (hw.reads (id := 100) ((hL 100 (by decide)).trans rfl)))),
                            Ob.v rfl (fun _ _ h => by cases h) (fun _ _ _ => rfl) (fun e L' hL => JV.move rfl),
                            Ob.v rfl (fun _ _ h => by cases h) (fun _ _ _ => rfl) (fun e L' hL => JV.extract rfl rfl),
                            Ob.v rfl (fun _ _ h => by cases h) (fun _ _ _ => rfl) (fun e L' hL => JV.extract rfl rfl),
                            Ob.nb 5 rfl (fun _ _ h => by cases h) (fun _ _ _ => ⟨rfl, rfl⟩) (by decide) (fun e L' hL => JO.alloc 5 (zs := (kc Pl.Key.zero)) Tryd.zeroValue34 rfl),
                            Ob.s 5 rfl (fun _ _ h => by cases h) (fun e e' he => by first | rfl | simp only [he 9 (by decide)]) (fun e L' hL => JO.storeV 5 rfl ((hL 5 (by decide)).trans rfl) rfl (us := kc (Pl.getK ks1 ((Pl.lineL ks1 id).getD j 0))) rfl Tryd.sizeOf34 rfl rfl),
                            Ob.v rfl (fun _ _ h => by cases h) (fun _ _ _ => rfl) (fun e L' hL => JV.assign rfl), trivial⟩ (fun ev26 => ?_)
            simp only [endF, endL, putF, List.nil_append, List.cons_append]
            refine JQ.n_then ?_
            refine JQ.seq ?_
            cases hb27 : decide (0 < j)
            · refine JQ.any [_, _, _, _, _, _, _, _, _, _, _, _, _, _, _, (fun _ => undef), (fun _ => undef), (fun _ => undef), (fun _ => undef), (fun _ => undef), (fun _ => undef), (fun _ => undef), (fun _ => undef), (fun _ => undef), (fun _ => undef), _, _] [fun _ => [], fun _ => [], fun _ => [], fun _ => [], fun _ => [], fun _ => [], fun _ => [], fun _ => [], fun _ => [], fun _ => [], fun _ => [], fun _ => [], fun _ => [], fun _ => [], fun _ => [], (fun _ => []), (fun _ => []), (fun _ => []), (fun _ => []), (fun _ => []), (fun _ => []), (fun _ => []), (fun _ => []), (fun _ => []), (fun _ => []), fun _ => [], fun _ => []] [⟨[], [], [], []⟩, ⟨[], [], [], [0]⟩, ⟨[], [], [], [0, 1]⟩, ⟨[], [], [], [0, 1, 2]⟩, ⟨[5], [], [], [0, 1, 2, 3]⟩, ⟨[], [], [], [0, 1, 2]⟩, ⟨[3], [], [], [0, 1, 2, 5]⟩, ⟨[], [], [], [0, 1, 2]⟩, ⟨[], [], [], [0, 1, 2, 5, 6, 7]⟩, ⟨[], [], [], [0, 1, 2, 3, 4, 5, 6, 7, 8]⟩, ⟨[], [], [], [0, 1, 2, 3, 4, 5, 6, 7, 8, 9]⟩, ⟨[], [], [], [0, 1, 2, 3, 4, 5, 6, 7, 8, 9, 10]⟩, ⟨[], [], [], [0, 1, 2, 3, 4, 5, 6, 7, 8, 9, 10, 11]⟩, ⟨[], [], [], [0, 1, 2, 3, 4, 5, 6, 7, 8, 9, 10, 11, 12]⟩, ⟨[], [], [], [0, 1, 2, 3, 4, 5, 6, 7, 8, 9, 10, 11, 12, 13]⟩, ⟨[], [], [], [0, 1, 2, 3, 4, 5, 6, 7, 8, 9, 10, 11, 12, 13, 14]⟩, ⟨[], [], [], [0, 1, 2, 3, 4, 5, 6, 7, 8, 9, 10, 11, 12, 13, 14]⟩, ⟨[], [], [], [0, 1, 2, 3, 4, 5, 6, 7, 8, 9, 10, 11, 12, 13, 14, 15, 16]⟩, ⟨[], [], [], [0, 1, 2, 3, 4, 5, 6, 7, 8, 9, 10, 11, 12, 13, 14, 15, 16, 17]⟩, ⟨[], [], [], [0, 1, 2, 3, 4, 5, 6, 7, 8, 9, 10, 11, 12, 13, 14]⟩, ⟨[], [], [], [0, 1, 2, 3, 4, 5, 6, 7, 8, 9, 10, 11, 12, 13, 14]⟩, ⟨[], [], [], [0, 1, 2, 3, 4, 5, 6, 7, 8, 9, 10, 11, 12, 13, 14, 20]⟩, ⟨[], [], [], [0, 1, 2, 3, 4, 5, 6, 7, 8, 9, 10, 11, 12, 13, 14, 19, 20, 21]⟩, ⟨[], [], [], [0, 1, 2, 3, 4, 5, 6, 7, 8, 9, 10, 11, 12, 13, 14, 19, 20, 21, 22]⟩, ⟨[], [], [], [0, 1, 2, 3, 4, 5, 6, 7, 8, 9, 10, 11, 12, 13, 14, 15, 16, 17, 18, 19, 20, 21, 22, 23]⟩, ⟨[], [], [], [0, 1, 2, 3, 4, 5, 6, 7, 8, 9, 10, 11, 12, 13, 14, 15, 16, 17, 18, 19, 20, 21, 22, 23, 24]⟩, ⟨[], [], [], [0, 1, 2, 3, 4, 5, 6, 7, 8, 9, 10, 11, 12, 13, 14, 15, 16, 17, 18, 19, 20, 21, 22, 23, 24, 25]⟩] Tryd.mixed rfl (by kernel_rfl) ⟨Ob.v rfl (fun _ _ h => by cases h) (fun _ _ _ => rfl) (fun e L' hL => JV.move rfl),
                                Ob.v rfl (fun _ _ h => by cases h) (fun _ _ _ => rfl) (fun e L' hL => JV.known (c := false) (JV.neqI rfl rfl) (by rw [(hLf.2.2 j h109).1]; simp)),
                                Ob.v rfl (fun _ _ h => by cases h) (fun _ _ _ => rfl) (fun e L' hL => JV.move rfl),
                                Ob.vg rfl rfl (fun _ => rfl) (fun _ _ h => by cases h) (fun _ _ _ => rfl) (fun e L' hL => JV.fieldAddrK (o := 6) rfl Tryd.runUnderlying34 rfl Tryd.sizeOf3 rfl rfl),
                                Ob.vg rfl rfl (fun _ => rfl) (fun _ _ h => by cases h) (fun _ _ _ => rfl) (fun e L' hL => JV.load1 5 rfl ((hL 5 (by decide)).trans rfl) Tryd.isAgg3 (rfl)),
                                Ob.vg rfl rfl (fun _ => rfl) (fun _ _ h => by cases h) (fun _ _ _ => rfl) (fun e L' hL => JV.fieldAddrK (o := 6) rfl Tryd.runUnderlying34 rfl Tryd.sizeOf3 rfl rfl),
                                Ob.vg rfl rfl (fun _ => rfl) (fun _ _ h => by cases h) (fun _ _ _ => rfl) (fun e L' hL => JV.load1 3 rfl ((hL 3 (by decide)).trans rfl) Tryd.isAgg3 (rfl)),
                                Ob.vg rfl rfl (fun _ => rfl) (fun _ _ h => by cases h) (fun _ _ _ => rfl) (fun e L' hL => JV.move rfl),
                                Ob.vg rfl rfl (fun _ => rfl) (fun _ _ h => by cases h) (fun _ _ _ => rfl) (fun e L' hL => JV.addI rfl rfl (by omega)),
                                Ob.vg rfl rfl (fun _ => rfl) (fun _ _ h => by cases h) (fun _ _ _ => rfl) (fun e L' hL => JV.known (c := false) (JV.neqI rfl rfl) (by rw [(hLf.2.2 j h109).2.1, hver1]; simp)),
                                Ob.v rfl (fun _ _ h => by cases h) (fun _ _ _ => rfl) (fun e L' hL => JV.pickF rfl rfl),
                                Ob.v rfl (fun _ _ h => by cases h) (fun _ _ _ => rfl) (fun e L' hL => JV.move rfl),
                                Ob.vg rfl rfl (fun _ => rfl) (fun _ _ h => by cases h) (fun _ _ _ => rfl) (fun e L' hL => JV.move rfl),
                                Ob.vg rfl rfl (fun _ => rfl) (fun _ _ h => by cases h) (fun _ _ _ => rfl) (fun e L' hL => JV.known (c := false) (JV.gtrN (b := 0) rfl rfl) (hb27)),
                                Ob.vg rfl rfl (fun _ => rfl) (fun _ _ h => by cases h) (fun _ _ _ => rfl) (fun e L' hL => JV.move rfl),
                                Ob.g0 rfl rfl (fun _ => rfl) rfl (fun _ _ h => by cases h),
                                Ob.g0 rfl rfl (fun _ => rfl) rfl (fun _ _ h => by cases h),
                                Ob.g0 rfl rfl (fun _ => rfl) rfl (fun _ _ h => by cases h),
                                Ob.g0 rfl rfl (fun _ => rfl) rfl (fun _ _ h => by cases h),
                                Ob.g0 rfl rfl (fun _ => rfl) rfl (fun _ _ h => by cases h),
                                Ob.g0 rfl rfl (fun _ => rfl) rfl (fun _ _ h => by cases h),
                                Ob.g0 rfl rfl (fun _ => rfl) rfl (fun _ _ h => by cases h),
                                Ob.g0 rfl rfl (fun _ => rfl) rfl (fun _ _ h => by cases h),
                                Ob.g0 rfl rfl (fun _ => rfl) rfl (fun _ _ h => by cases h),
                                Ob.g0 rfl rfl (fun _ => rfl) rfl (fun _ _ h => by cases h),
                                Ob.vg rfl rfl (fun _ => rfl) (fun _ _ h => by cases h) (fun _ _ _ => rfl) (fun e L' hL => JV.pickF rfl rfl),
                                Ob.v rfl (fun _ _ h => by cases h) (fun _ _ _ => rfl) (fun e L' hL => JV.pickF rfl rfl), trivial⟩ (fun ev27 => ?_)
              simp only [endF, endL, putF, List.nil_append, List.cons_append]
              refine JQ.n_then ?_
              refine JQ.condF rfl ?_
              refine JQ.skip ?_
              refine JQ.n_block ?_
              refine JQ.n_then ?_
              refine JQ.region ?_
              refine JQ.v (JV.move rfl) rfl ?_
              refine JQ.v (JV.addN (b := 1) rfl rfl (by omega)) rfl ?_
              refine JQ.v (JV.assign rfl) rfl ?_
              refine JQ.nil ?_
              refine JQ.n_then ?_
              exact JQ.nextI (j + 1) (by omega) (by omega) (subk_cons rfl (subk_cons rfl (subk_cons rfl (subk_cons rfl (subk_cons rfl subk_nil))))) (subr_cons rfl (subr_cons rfl (subr_cons rfl (subr_cons rfl subr_nil))))
            · refine JQ.any [_, _, _, _, _, _, _, _, _, _, _, _, _, _, _, _, _, _, _, _, _, _, _, _, _, _, _] [fun _ => [], fun _ => [], fun _ => [], fun _ => [], fun _ => [], fun _ => [], fun _ => [], fun _ => [], fun _ => [], fun _ => [], fun _ => [], fun _ => [], fun _ => [], fun _ => [], fun _ => [], fun _ => [], fun _ => [], fun _ => [], fun _ => [], fun _ => [], fun _ => [], fun _ => [], fun _ => [], fun _ => [], fun _ => [], fun _ => [], fun _ => []] [⟨[], [], [], []⟩, ⟨[], [], [], [0]⟩, ⟨[], [], [], [0, 1]⟩, ⟨[], [], [], [0, 1, 2]⟩, ⟨[5], [], [], [0, 1, 2, 3]⟩, ⟨[], [], [], [0, 1, 2]⟩, ⟨[3], [], [], [0, 1, 2, 5]⟩, ⟨[], [], [], [0, 1, 2]⟩, ⟨[], [], [], [0, 1, 2, 5, 6, 7]⟩, ⟨[], [], [], [0, 1, 2, 3, 4, 5, 6, 7, 8]⟩, ⟨[], [], [], [0, 1, 2, 3, 4, 5, 6, 7, 8, 9]⟩, ⟨[], [], [], [0, 1, 2, 3, 4, 5, 6, 7, 8, 9, 10]⟩, ⟨[], [], [], [0, 1, 2, 3, 4, 5, 6, 7, 8, 9, 10, 11]⟩, ⟨[], [], [], [0, 1, 2, 3, 4, 5, 6, 7, 8, 9, 10, 11, 12]⟩, ⟨[], [], [], [0, 1, 2, 3, 4, 5, 6, 7, 8, 9, 10, 11, 12, 13]⟩, ⟨[], [], [], [0, 1, 2, 3, 4, 5, 6, 7, 8, 9, 10, 11, 12, 13, 14]⟩, ⟨[], [], [], [0, 1, 2, 3, 4, 5, 6, 7, 8, 9, 10, 11, 12, 13, 14]⟩, ⟨[50], [], [], [0, 1, 2, 3, 4, 5, 6, 7, 8, 9, 10, 11, 12, 13, 14, 15, 16]⟩, ⟨[50], [], [], [0, 1, 2, 3, 4, 5, 6, 7, 8, 9, 10, 11, 12, 13, 14, 15, 16, 17]⟩, ⟨[], [], [], [0, 1, 2, 3, 4, 5, 6, 7, 8, 9, 10, 11, 12, 13, 14]⟩, ⟨[], [], [], [0, 1, 2, 3, 4, 5, 6, 7, 8, 9, 10, 11, 12, 13, 14]⟩, ⟨[], [], [], [0, 1, 2, 3, 4, 5, 6, 7, 8, 9, 10, 11, 12, 13, 14, 20]⟩, ⟨[50], [], [], [0, 1, 2, 3, 4, 5, 6, 7, 8, 9, 10, 11, 12, 13, 14, 19, 20, 21]⟩, ⟨[50], [], [], [0, 1, 2, 3, 4, 5, 6, 7, 8, 9, 10, 11, 12, 13, 14, 19, 20, 21, 22]⟩, ⟨[], [], [], [0, 1, 2, 3, 4, 5, 6, 7, 8, 9, 10, 11, 12, 13, 14, 15, 16, 17, 18, 19, 20, 21, 22, 23]⟩, ⟨[], [], [], [0, 1, 2, 3, 4, 5, 6, 7, 8, 9, 10, 11, 12, 13, 14, 15, 16, 17, 18, 19, 20, 21, 22, 23, 24]⟩, ⟨[], [], [], [0, 1, 2, 3, 4, 5, 6, 7, 8, 9, 10, 11, 12, 13, 14, 15, 16, 17, 18, 19, 20, 21, 22, 23, 24, 25]⟩] Tryd.mixed rfl (by kernel_rfl) ⟨Ob.v rfl (fun _ _ h => by cases h) (fun _ _ _ => rfl) (fun e L' hL => JV.move rfl),
                                Ob.v rfl (fun _ _ h => by cases h) (fun _ _ _ => rfl) (fun e L' hL => JV.known (c := false) (JV.neqI rfl rfl) (by rw [(hLf.2.2 j h109).1]; simp)),
                                Ob.v rfl (fun _ _ h => by cases h) (fun _ _ _ => rfl) (fun e L' hL => JV.move rfl),
                                Ob.vg rfl rfl (fun _ => rfl) (fun _ _ h => by cases h) (fun _ _ _ => rfl) (fun e L' hL => JV.fieldAddrK (o := 6) rfl Tryd.runUnderlying34 rfl Tryd.sizeOf3 rfl rfl),
                                Ob.vg rfl rfl (fun _ => rfl) (fun _ _ h => by cases h) (fun _ _ _ => rfl) (fun e L' hL => JV.load1 5 rfl ((hL 5 (by decide)).trans rfl) Tryd.isAgg3 (rfl)),
                                Ob.vg rfl rfl (fun _ => rfl) (fun _ _ h => by cases h) (fun _ _ _ => rfl) (fun e L' hL => JV.fieldAddrK (o := 6) rfl Tryd.runUnderlying34 rfl Tryd.sizeOf3 rfl rfl),
                                Ob.vg rfl rfl (fun _ => rfl) (fun _ _ h => by cases h) (fun _ _ _ => rfl) (fun e L' hL => JV.load1 3 rfl ((hL 3 (by decide)).trans rfl) Tryd.isAgg3 (rfl)),
                                Ob.vg rfl rfl (fun _ => rfl) (fun _ _ h => by cases h) (fun _ _ _ => rfl) (fun e L' hL => JV.move rfl),
                                Ob.vg rfl rfl (fun _ => rfl) (fun _ _ h => by cases h) (fun _ _ _ => rfl) (fun e L' hL => JV.addI rfl rfl (by omega)),
                                Ob.vg rfl rfl (fun _ => rfl) (fun _ _ h => by cases h) (fun _ _ _ => rfl) (fun e L' hL => JV.known (c := false) (JV.neqI rfl rfl) (by rw [(hLf.2.2 j h109).2.1, hver1]; simp)),
                                Ob.v rfl (fun _ _ h => by cases h) (fun _ _ _ => rfl) (fun e L' hL => JV.pickF rfl rfl),
                                Ob.v rfl (fun _ _ h => by cases h) (fun _ _ _ => rfl) (fun e L' hL => JV.move rfl),
                                Ob.vg rfl rfl (fun _ => rfl) (fun _ _ h => by cases h) (fun _ _ _ => rfl) (fun e L' hL => JV.move rfl),
                                Ob.vg rfl rfl (fun _ => rfl) (fun _ _ h => by cases h) (fun _ _ _ => rfl) (fun e L' hL => JV.known (c := true) (JV.gtrN (b := 0) rfl rfl) (hb27)),
                                Ob.vg rfl rfl (fun _ => rfl) (fun _ _ h => by cases h) (fun _ _ _ => rfl) (fun e L' hL => JV.move rfl),
                                Ob.vg rfl rfl (fun _ => rfl) (fun _ _ h => by cases h) (fun _ _ _ => rfl) (fun e L' hL => JV.move rfl),
                                Ob.vg rfl rfl (fun _ => rfl) (fun _ _ h => by cases h) (fun _ _ _ => rfl) (fun e L' hL => JV.move rfl),
                                Ob.vg rfl rfl (fun _ => rfl) (fun _ _ h => by cases h) (fun _ _ _ => rfl) (fun e L' hL => JV.idxRo1 50 rfl rfl ((hL 50 (by decide)).trans rfl) Tryd.runUnderlying44 Tryd.sizeOf3 (by decide) (by have := of_decide_eq_true hb27; omega)),
                                Ob.vg rfl rfl (fun _ => rfl) (fun _ _ h => by cases h) (fun _ _ _ => rfl) (fun e L' hL => JV.loadR 50 rfl ((hL 50 (by decide)).trans rfl) Tryd.isAgg3 (ivs_at (by omega))),
                                Ob.vg rfl rfl (fun _ => rfl) (fun _ _ h => by cases h) (fun _ _ _ => rfl) (fun e L' hL => JV.move rfl),
                                Ob.vg rfl rfl (fun _ => rfl) (fun _ _ h => by cases h) (fun _ _ _ => rfl) (fun e L' hL => JV.move rfl),
                                Ob.vg rfl rfl (fun _ => rfl) (fun _ _ h => by cases h) (fun _ _ _ => rfl) (fun e L' hL => JV.subN (b := 1) rfl rfl (by have := of_decide_eq_true hb27; omega)),
                                Ob.vg rfl rfl (fun _ => rfl) (fun _ _ h => by cases h) (fun _ _ _ => rfl) (fun e L' hL => JV.idxRo1 50 rfl rfl ((hL 50 (by decide)).trans rfl) Tryd.runUnderlying44 Tryd.sizeOf3 (by decide) (by have := of_decide_eq_true hb27; omega)),
                                Ob.vg rfl rfl (fun _ => rfl) (fun _ _ h => by cases h) (fun _ _ _ => rfl) (fun e L' hL => JV.loadR 50 rfl ((hL 50 (by decide)).trans rfl) Tryd.isAgg3 (ivs_at (by have := of_decide_eq_true hb27; omega))),
                                Ob.vg rfl rfl (fun _ => rfl) (fun _ _ h => by cases h) (fun _ _ _ => rfl) (fun e L' hL => JV.known (c := false) (JV.leq rfl rfl) (decide_eq_false (by have := (hLf.2.2 j h109).2.2 (of_decide_eq_true hb27); omega))),
                                Ob.vg rfl rfl (fun _ => rfl) (fun _ _ h => by cases h) (fun _ _ _ => rfl) (fun e L' hL => JV.pickT rfl rfl),
                                Ob.v rfl (fun _ _ h => by cases h) (fun _ _ _ => rfl) (fun e L' hL => JV.pickF rfl rfl), trivial⟩ (fun ev27 => ?_)
              simp only [endF, endL, putF, List.nil_append, List.cons_append]
              refine JQ.n_then ?_
              refine JQ.condF rfl ?_
              refine JQ.skip ?_
              refine JQ.n_block ?_
              refine JQ.n_then ?_
              refine JQ.region ?_
              refine JQ.v (JV.move rfl) rfl ?_
              refine JQ.v (JV.addN (b := 1) rfl rfl (by omega)) rfl ?_
              refine JQ.v (JV.assign rfl) rfl ?_
              refine JQ.nil ?_
              refine JQ.n_then ?_
              exact JQ.nextI (j + 1) (by omega) (by omega) (subk_cons rfl (subk_cons rfl (subk_cons rfl (subk_cons rfl (subk_cons rfl subk_nil))))) (subr_cons rfl (subr_cons rfl (subr_cons rfl (subr_cons rfl subr_nil))))
          · refine JQ.exit ?_
            refine JQ.e_then ?_
            refine JQ.e_then ?_
            refine JQ.e_here ?_
            refine JQ.n_then ?_
            refine JQ.seq ?_
            refine JQ.region ?_
            refine JQ.v (JV.move rfl) rfl ?_
            refine JQ.v (JV.assign rfl) rfl ?_
            refine JQ.nil ?_
            refine JQ.n_then ?_
            refine JQ.ret ?_
            refine JQ.done1 Tryd.results3 rfl ?_
            exact fun w hw => ⟨rfl, hw.below⟩
end Go.Fw
end
