/- What the functions that replace keys compute, walked; the condition is that the tables read as they are laid. -/
import Derived.Test.YtbacjffnojaibaaDoorWkd
import Derived.Test.YtbacjffnojaibaaDoorProg
import Derived.Test.YtbacjffnojaibaaDoorFwd
section
open Go.RowKit
set_option maxRecDepth 100000
set_option linter.unusedVariables false
set_option linter.unusedSimpArgs false
namespace Go.Fw
open Go.Proofs
theorem vkR_iff {k : Pl.Key} : vkR k = true ↔ (0 ≤ k.ty ∧ k.ty ≤ 31) ∧ k.value.length = 32 ∧ ib .and k.uses 956 = k.uses ∧ (0 ≤ k.st ∧ k.st ≤ 1099511627776) ∧ (k.st ≤ k.en ∧ k.en ≤ 1099511627776) ∧ (1 ≤ k.ver ∧ k.ver ≤ 2147483647) ∧ (0 ≤ k.par ∧ k.par ≤ 2147483647) := by
  simp [vkR, Pl.within]
theorem vkG_of {k : Pl.Key} (h : vkR k = true) : vkG k = true := by
  have h' := vkR_iff.1 h
  have h2 := (sub_iff 956 (and_mine h'.2.2.1)).2 h'.2.2.1
  simp only [vkG, Pl.within, Bool.and_eq_true, decide_eq_true_eq]
  omega
def tabOk (n : Int) (ks : List Pl.Key) : Prop := ks.length ≤ 4000 ∧ (1 ≤ n ∧ n ≤ 2147483647) ∧ Pl.incr ks ∧ ∀ i, i < ks.length → vkR (Pl.at_ ks i) = true ∧ 0 < (Pl.at_ ks i).id ∧ (Pl.at_ ks i).id < n ∧ (Pl.at_ ks i).par < n
theorem tabOk.ver {n : Int} {ks : List Pl.Key} (h : tabOk n ks) : verOk ks := fun i hi => (vkR_iff.1 (h.2.2.2 i hi).1).2.2.2.2.2.1
theorem tabOk.uin {n : Int} {ks : List Pl.Key} (h : tabOk n ks) (id : Int) : inI (Pl.getK ks id).uses := by
  rcases Nat.lt_or_ge (Pl.ix ks id) ks.length with h2 | h2
  · exact and_mine (vkR_iff.1 (h.2.2.2 _ h2).1).2.2.1
  · rw [Pl.getK_none (by omega)]; decide
def kchk (ts : List Pl.Typ) (rs : List Pl.Rule) (ks : List Pl.Key) (now id : Int) : Int :=
  if (decide (now < 0) || decide (1099511627776 ≤ now)) = true then 1
  else if Pl.getE ks id ≠ 0 then Pl.getE ks id
  else if (!Pl.live (Pl.getK ks id) now) = true then 13
  else if Pl.nextB ks id = true then 12
  else if ((!(Pl.isTy ts (Pl.getK ks id).ty && decide (ib .andNot 1 (Pl.tyOf ts (Pl.getK ks id).ty).flags = 0))) || (!decide (ib .andNot (Pl.getK ks id).uses (Pl.usesG ts rs (Pl.getK ks id).ty) = 0))) = true then 10
  else if (Pl.getK ks id).ver = 2147483647 then 2 else 0
theorem kchk_R {ts : List Pl.Typ} {rs : List Pl.Rule} {ks : List Pl.Key} {now id : Int} (hu : inI (Pl.getK ks id).uses) : kchk ts rs ks now id =
  if (decide (now < 0) || decide (1099511627776 ≤ now)) = true then 1
  else if Pl.getE ks id ≠ 0 then Pl.getE ks id
  else if (!Pl.live (Pl.getK ks id) now) = true then 13
  else if Pl.nextB ks id = true then 12
  else if ((!(Pl.isTy ts (Pl.getK ks id).ty && decide (ib .and 1 (Pl.tyOf ts (Pl.getK ks id).ty).flags = 1))) || (!decide (ib .and (Pl.getK ks id).uses (Pl.usesR ts rs (Pl.getK ks id).ty) = (Pl.getK ks id).uses))) = true then 10
  else if (Pl.getK ks id).ver = 2147483647 then 2 else 0 := by
  unfold kchk; rw [sub_dec _ hu, Pl.uses_eq, sub_dec _ (show inI 1 from by decide)]
def kchK (ts : List Pl.Typ) (rs : List Pl.Rule) (ks : List Pl.Key) (now id : Int) : Pl.Key := if kchk ts rs ks now id = 1 then Pl.Key.zero else Pl.getK ks id
theorem getE_ne1 (ks : List Pl.Key) (id : Int) : ¬ Pl.getE ks id = 1 := by unfold Pl.getE; split <;> decide
theorem getE_11 {ks : List Pl.Key} {id : Int} (h : Pl.getE ks id ≠ 0) : Pl.getE ks id = 11 := by
  unfold Pl.getE at h ⊢; split
  · rename_i h2; rw [if_pos h2] at h; exact absurd rfl h
  · rfl
/-- what is known where nothing stands against it -/
def keyOk (ts : List Pl.Typ) (rs : List Pl.Rule) (ks : List Pl.Key) (now id : Int) : Prop :=
  (0 ≤ now ∧ now < 1099511627776) ∧ (Pl.ix ks id < ks.length ∧ (Pl.getK ks id).st ≤ now ∧ now < (Pl.getK ks id).en) ∧ vkR (Pl.getK ks id) = true ∧ Pl.nextB ks id = false ∧ Pl.isTy ts (Pl.getK ks id).ty = true ∧ (Pl.getK ks id).ver < 2147483647 ∧ ib .and (Pl.getK ks id).uses (Pl.usesG ts rs (Pl.getK ks id).ty) = (Pl.getK ks id).uses
theorem kchk_ok {ts : List Pl.Typ} {rs : List Pl.Rule} {n : Int} {ks : List Pl.Key} {now id : Int} (hok : tabOk n ks) (h : kchk ts rs ks now id = 0) : keyOk ts rs ks now id := by
  unfold kchk at h
  split at h
  · cases h
  rename_i h1
  split at h
  · rename_i h2; exact absurd h h2
  rename_i h2
  split at h
  · cases h
  rename_i h3
  split at h
  · cases h
  rename_i h4
  split at h
  · cases h
  rename_i h5
  split at h
  · cases h
  rename_i h6
  have hix := getE_ok (Decidable.not_not.1 h2)
  have hvk := (hok.2.2.2 _ hix).1
  have hv := vkR_iff.1 hvk
  simp only [Bool.or_eq_true, decide_eq_true_eq] at h1
  simp only [Bool.not_eq_true', Bool.not_eq_false, Pl.live, Bool.and_eq_true, decide_eq_true_eq] at h3
  simp only [Bool.or_eq_true, Bool.not_eq_true', Bool.and_eq_false_iff, decide_eq_false_iff_not, not_or, Bool.not_eq_false, Decidable.not_not] at h5
  refine ⟨by omega, ⟨hix, h3⟩, hvk, by simpa using h4, h5.1.1, ?_, (sub_iff _ (hok.uin id)).1 h5.2⟩
  have h7 := hv.2.2.2.2.2.1.2
  have h8 : (Pl.at_ ks (Pl.ix ks id)).ver ≠ 2147483647 := h6
  show (Pl.at_ ks (Pl.ix ks id)).ver < _
  omega
def life0 (k : Pl.Key) (now : Int) : Int := if 1099511627776 - now < k.en - k.st then 1099511627776 - now else k.en - k.st
theorem life0_eq (k : Pl.Key) (now : Int) : (if 1099511627776 - now < k.en - k.st then 1099511627776 - now else k.en - k.st) = life0 k now := rfl
def lifeK (ts : List Pl.Typ) (k : Pl.Key) (now : Int) : Int :=
  if 0 < (Pl.tyOf ts k.ty).life then (if (Pl.tyOf ts k.ty).life < life0 k now then (Pl.tyOf ts k.ty).life else life0 k now) else life0 k now
theorem lifeK_pos {ts : List Pl.Typ} {k : Pl.Key} {now : Int} {t : Nat} (h : k.ty = (t : Int)) (hp : 0 < (Pl.tyAt ts t).life) : (if (Pl.tyAt ts t).life < life0 k now then (Pl.tyAt ts t).life else life0 k now) = lifeK ts k now := by
  have e : Pl.tyOf ts k.ty = Pl.tyAt ts t := by rw [Pl.tyOf, h]; rfl
  rw [lifeK, e, if_pos hp]
theorem lifeK_neg {ts : List Pl.Typ} {k : Pl.Key} {now : Int} {t : Nat} (h : k.ty = (t : Int)) (hp : ¬ 0 < (Pl.tyAt ts t).life) : life0 k now = lifeK ts k now := by
  have e : Pl.tyOf ts k.ty = Pl.tyAt ts t := by rw [Pl.tyOf, h]; rfl
  rw [lifeK, e, if_neg hp]
theorem life_ok (ts : List Pl.Typ) {k : Pl.Key} {now : Int} (hk : vkR k = true) (hn : 0 ≤ now ∧ now < 1099511627776) (hl : k.st ≤ now ∧ now < k.en) : 0 < lifeK ts k now ∧ now + lifeK ts k now ≤ 1099511627776 ∧ lifeK ts k now ≤ k.en - k.st ∧ (0 < (Pl.tyOf ts k.ty).life → lifeK ts k now ≤ (Pl.tyOf ts k.ty).life) := by
  have h0 : 0 < life0 k now ∧ now + life0 k now ≤ 1099511627776 ∧ life0 k now ≤ k.en - k.st := by unfold life0; split <;> omega
  unfold lifeK
  split
  · split <;> omega
  · omega
def kept (k : Pl.Key) : Pl.Key := { k with uses := ib .and k.uses 176 }
def keys1 (ks : List Pl.Key) (id : Int) : List Pl.Key := ks.set (Pl.ix ks id) (kept (Pl.getK ks id))
def fresh0 (ts : List Pl.Typ) (k : Pl.Key) (now id : Int) : Pl.Key := ⟨0, k.ty, [], k.uses, now, now + lifeK ts k now, k.ver + 1, id, false⟩
def fresh (ts : List Pl.Typ) (k : Pl.Key) (now id : Int) (sd : List UInt8) : Pl.Key := ⟨0, k.ty, Pl.val sd, k.uses, now, now + lifeK ts k now, k.ver + 1, id, false⟩
def keyE (ts : List Pl.Typ) (rs : List Pl.Rule) (n : Int) (ks : List Pl.Key) (now id : Int) : Int := if kchk ts rs ks now id ≠ 0 then kchk ts rs ks now id else addE n
def keyT (ts : List Pl.Typ) (rs : List Pl.Rule) (n : Int) (ks : List Pl.Key) (now id : Int) (sd : List UInt8) : Pl.Tab := if kchk ts rs ks now id ≠ 0 then ⟨0, []⟩ else addT n (keys1 ks id) (fresh ts (Pl.getK ks id) now id sd)
def keyS (ts : List Pl.Typ) (rs : List Pl.Rule) (n : Int) (ks : List Pl.Key) (now id : Int) (sd : List UInt8) : List UInt8 := if kchk ts rs ks now id ≠ 0 then [] else if addE n ≠ 0 then [] else Pl.seed sd
def keyI (ts : List Pl.Typ) (rs : List Pl.Rule) (n : Int) (ks : List Pl.Key) (now id : Int) : Int := if kchk ts rs ks now id ≠ 0 then 0 else addI n
theorem addE_top {n : Int} (h : addE n ≠ 0) : 2147483647 ≤ n := by unfold addE at h; split at h; assumption; exact absurd rfl h
theorem addT_top {n : Int} (h : addE n ≠ 0) {ks : List Pl.Key} {k : Pl.Key} : addT n ks k = ⟨0, []⟩ := by rw [addT, if_pos (addE_top h)]
theorem addI_top {n : Int} (h : addE n ≠ 0) : addI n = 0 := by rw [addI, if_pos (addE_top h)]
theorem kept_ok {k : Pl.Key} (h : vkR k = true) : vkR (kept k) = true := by
  have h' := vkR_iff.1 h
  refine vkR_iff.2 ⟨h'.1, h'.2.1, and_and h'.2.2.1, h'.2.2.2⟩
theorem fresh_ok {ts : List Pl.Typ} {rs : List Pl.Rule} {n : Int} {ks : List Pl.Key} {now id : Int} (hok : tabOk n ks) (hk : keyOk ts rs ks now id) (sd : List UInt8) : vkR (fresh ts (Pl.getK ks id) now id sd) = true ∧ id < n ∧ 0 < id := by
  have h' := vkR_iff.1 hk.2.2.1
  have hl := life_ok ts hk.2.2.1 hk.1 hk.2.1.2
  have h4 := hok.2.2.2 _ hk.2.1.1
  have hid : (Pl.at_ ks (Pl.ix ks id)).id = id := Pl.ix_at hk.2.1.1
  rw [hid] at h4
  have hn := hok.2.1
  have hver := hk.2.2.2.2.2.1
  have hnow := hk.1
  refine ⟨vkR_iff.2 ⟨h'.1, Pl.val_len sd, h'.2.2.1, ?_, ?_, ?_, ?_⟩, h4.2.2.1, h4.2.1⟩
  · show 0 ≤ now ∧ now ≤ _; omega
  · show now ≤ now + lifeK ts (Pl.getK ks id) now ∧ now + lifeK ts (Pl.getK ks id) now ≤ _; omega
  · show 1 ≤ (Pl.getK ks id).ver + 1 ∧ (Pl.getK ks id).ver + 1 ≤ _; omega
  · show 0 ≤ id ∧ id ≤ _; omega
theorem kept_ix {ks : List Pl.Key} {id : Int} (h : Pl.ix ks id < ks.length) : Pl.ix ks (kept (Pl.getK ks id)).id = Pl.ix ks id := by
  show Pl.ix ks (Pl.getK ks id).id = _
  rw [show (Pl.getK ks id).id = id from Pl.ix_at h]
theorem keys1_len (ks : List Pl.Key) (id : Int) : (keys1 ks id).length = ks.length := List.length_set
theorem put_key {ts : List Pl.Typ} {rs : List Pl.Rule} {now : Int} (n : Int) (kv : Value) (ks : List Pl.Key) (hok : tabOk n ks) (id : Int) (hk : keyOk ts rs ks now id) (w : World) (hr : Reads w kv 9 ks.length (kcs ks)) :
    Calls Tryd.prog 36 #[.agg [iv n, kv].toArray, .agg (kc (kept (Pl.getK ks id))).toArray] w fun e w' => ∃ v, e = .returned (.tuple #[.agg [iv n, v].toArray, iv 0]) ∧ NewRo w v 9 (keys1 ks id).length (kcs (keys1 ks id)) w' ∧ Below w.heap.size w w' := by
  have h := put_spec n kv ks (by have := hok.1; omega) hok.2.2.1 (kept (Pl.getK ks id)) (vkG_of (kept_ok hk.2.2.1)) (hok.2.2.2 _ hk.2.1.1).2.2.2 (by rw [kept_ix hk.2.1.1]; exact hk.2.1.1) w hr
  rw [kept_ix hk.2.1.1] at h
  rw [keys1_len]; exact h
theorem rput_key {ts : List Pl.Typ} {rs : List Pl.Rule} {now : Int} (n : Int) (kv : Value) (ks : List Pl.Key) (hok : tabOk n ks) (id : Int) (hk : keyOk ts rs ks now id) (w : World) (hr : Reads w kv 9 ks.length (kcs ks)) :
    Calls Tryd.prog 45 #[.agg [iv n, kv].toArray, .agg (kc (kept (Pl.getK ks id))).toArray] w fun e w' => ∃ v, e = .returned (.tuple #[.agg [iv n, v].toArray, iv 0]) ∧ NewRo w v 9 (keys1 ks id).length (kcs (keys1 ks id)) w' ∧ Below w.heap.size w w' := by
  have h := rput_spec n kv ks (by have := hok.1; omega) hok.2.2.1 (kept (Pl.getK ks id)) (kept_ok hk.2.2.1) (hok.2.2.2 _ hk.2.1.1).2.2.2 (by rw [kept_ix hk.2.1.1]; exact hk.2.1.1) w hr
  rw [kept_ix hk.2.1.1] at h
  rw [keys1_len]; exact h
theorem add_key (n : Int) (v : Value) (ks : List Pl.Key) (hok : tabOk n ks) (ts : List Pl.Typ) (rs : List Pl.Rule) (now id : Int) (sd : List UInt8) (hk : keyOk ts rs ks now id) (hsd : sd.length ≤ 1048576) (w : World) (hr : Reads w v 9 (keys1 ks id).length (kcs (keys1 ks id))) :
    Calls Tryd.prog 37 #[.agg [iv n, v].toArray, .agg (kc (fresh ts (Pl.getK ks id) now id sd)).toArray] w fun e w' => ∃ v, e = .returned (.tuple #[.agg [iv (addT n (keys1 ks id) (fresh ts (Pl.getK ks id) now id sd)).next, v].toArray, iv (addI n), iv (addE n)]) ∧ w'.ownsRow w.heap.size 34 9 v (addT n (keys1 ks id) (fresh ts (Pl.getK ks id) now id sd)).keys.length (kcs (addT n (keys1 ks id) (fresh ts (Pl.getK ks id) now id sd)).keys) ∧ Below w.heap.size w w' :=
  kadd_spec n v (keys1 ks id) (by rw [keys1_len]; have := hok.1; omega) _ (vkG_of (fresh_ok hok hk sd).1) (fresh_ok hok hk sd).2.1 (by have := hok.2.1; omega) w hr
theorem radd_key (n : Int) (v : Value) (ks : List Pl.Key) (hok : tabOk n ks) (ts : List Pl.Typ) (rs : List Pl.Rule) (now id : Int) (sd : List UInt8) (hk : keyOk ts rs ks now id) (hsd : sd.length ≤ 1048576) (w : World) (hr : Reads w v 9 (keys1 ks id).length (kcs (keys1 ks id))) :
    Calls Tryd.prog 46 #[.agg [iv n, v].toArray, .agg (kc (fresh ts (Pl.getK ks id) now id sd)).toArray] w fun e w' => ∃ v, e = .returned (.agg [iv (addT n (keys1 ks id) (fresh ts (Pl.getK ks id) now id sd)).next, v, iv (addI n), iv (addE n)].toArray) ∧ w'.ownsRow w.heap.size 34 9 v (addT n (keys1 ks id) (fresh ts (Pl.getK ks id) now id sd)).keys.length (kcs (addT n (keys1 ks id) (fresh ts (Pl.getK ks id) now id sd)).keys) ∧ Below w.heap.size w w' :=
  rkadd_spec n v (keys1 ks id) (by rw [keys1_len]; have := hok.1; omega) _ (fresh_ok hok hk sd).1 (fresh_ok hok hk sd).2.1 (by have := hok.2.1; omega) w hr
attribute [local irreducible] kcs tcs rcs Pl.ix Pl.lb Pl.getE Pl.getK Pl.fnd Pl.nextO Pl.at_ Pl.line Pl.tyAt Pl.isTy Pl.outG Pl.outR Pl.usesG Pl.usesR Pl.nextB Pl.nextI kchk kchK life0 lifeK addT addI addE
set_option maxHeartbeats 1000000 in
theorem check_spec (pn : List UInt8) (tv rv qv : Value) (ts : List Pl.Typ) (rs : List Pl.Rule) (htl : ts.length ≤ 1048576) (hrl : rs.length ≤ 1048576) (n : Int) (kv : Value) (ks : List Pl.Key) (hok : tabOk n ks) (now id : Int) (w : World) (ht : Reads w tv 3 ts.length (tcs ts)) (hru : Reads w rv 3 rs.length (rcs rs)) (hr : Reads w kv 9 ks.length (kcs ks)) (hB : Gl 0 byRule w) :
    Calls Tryd.prog 34 #[.agg [str pn, tv, rv, qv].toArray, .agg [iv n, kv].toArray, iv now, iv id] w fun e w' => e = .returned (.tuple #[.agg (kc (kchK ts rs ks now id)).toArray, iv (kchk ts rs ks now id)]) ∧ Below w.heap.size w w' := by
  
  refine enterA (vs := [_, _, _, _]) Tryd.func34 rfl 70 rfl [(900, .ro (gv 0 15) 1 15 byRule), (101, .ro tv 3 ts.length (tcs ts)), (102, .ro rv 3 rs.length (rcs rs)), (100, .ro kv 9 ks.length (kcs ks))] ((((MemOk.start1 100 hr).addRo 102 hru (ro_cons ro_nil)).addRo 101 ht (ro_cons (ro_cons ro_nil))).addRo 900 hB (ro_cons (ro_cons (ro_cons ro_nil)))) ?_
  refine JQ.seq ?_
  refine JQ.region ?_
  refine JQ.x (JO.box 1 rfl rfl) rfl ?_
  intro i0_0
  refine JQ.x (JO.box 2 rfl rfl) rfl ?_
  intro i0_1
  refine JQ.x (JO.alloc 3 (zs := (kc Pl.Key.zero)) Tryd.zeroValue34 rfl) rfl ?_
  intro i0_2
  refine JQ.v (JV.assign rfl) rfl ?_
  refine JQ.nil ?_
  refine JQ.n_then ?_
  refine JQ.seq ?_
  refine JQ.seq ?_
  refine JQ.region ?_
  refine JQ.v (JV.move rfl) rfl ?_
  refine JQ.v (JV.lss rfl rfl) rfl ?_
  refine JQ.vb (JV.move rfl) rfl (fun g1_2 => ?_) (fun g1_2 => ?_)
  · refine JQ.g0 rfl rfl rfl rfl ?_
    refine JQ.g0 rfl rfl rfl rfl ?_
    refine JQ.v (JV.pickT rfl rfl) rfl ?_
    refine JQ.nil ?_
    refine JQ.n_then ?_
    refine JQ.condT rfl ?_
    refine JQ.seq ?_
    refine JQ.region ?_
    refine JQ.v (JV.build (v := .agg (kc Pl.Key.zero).toArray) evp_nil (fun w => by kernel_rfl)) rfl ?_
    refine JQ.s (JO.storeV 3 rfl rfl rfl (us := kc Pl.Key.zero) rfl Tryd.sizeOf34 rfl rfl) ?_
    refine JQ.v (JV.assign rfl) rfl ?_
    refine JQ.nil ?_
    refine JQ.n_then ?_
    refine JQ.ret ?_
    refine JQ.r_then ?_
    refine JQ.doneCT 3 Tryd.results34 rfl rfl rfl Tryd.isAgg34 Tryd.sizeOf34 rfl ?_
    exact fun w hw => ⟨by have e : kchk ts rs ks now id = 1 := (by rw [kchk, if_pos (by rw [g1_2]; rfl)]); rw [kchK, e, if_pos rfl]; first | done | rfl, hw.below⟩
  · refine JQ.vg rfl rfl (JV.move rfl) rfl ?_
    refine JQ.vg rfl rfl (JV.geq rfl rfl) rfl ?_
    refine JQ.v (JV.pickF rfl rfl) rfl ?_
    refine JQ.nil ?_
    refine JQ.n_then ?_
    refine JQ.condP rfl (fun h19 => ?_) (fun h19 => ?_)
    · refine JQ.seq ?_
      refine JQ.region ?_
      refine JQ.v (JV.build (v := .agg (kc Pl.Key.zero).toArray) evp_nil (fun w => by kernel_rfl)) rfl ?_
      refine JQ.s (JO.storeV 3 rfl rfl rfl (us := kc Pl.Key.zero) rfl Tryd.sizeOf34 rfl rfl) ?_
      refine JQ.v (JV.assign rfl) rfl ?_
      refine JQ.nil ?_
      refine JQ.n_then ?_
      refine JQ.ret ?_
      refine JQ.r_then ?_
      refine JQ.doneCT 3 Tryd.results34 rfl rfl rfl Tryd.isAgg34 Tryd.sizeOf34 rfl ?_
      exact fun w hw => ⟨by have e : kchk ts rs ks now id = 1 := (by rw [kchk, if_pos (by rw [g1_2, decide_eq_true h19]; rfl)]); rw [kchK, e, if_pos rfl]; first | done | rfl, hw.below⟩
    · refine JQ.skip ?_
      refine JQ.n_then ?_
      refine JQ.seq ?_
      refine JQ.region ?_
      refine JQ.v (JV.loadV 2 rfl rfl Tryd.isAgg29 Tryd.sizeOf29 rfl) rfl ?_
      refine JQ.v (JV.move rfl) rfl ?_
      refine JQ.v (JV.callM Tryd.call11 (evs_cons rfl (evs_cons rfl evs_nil)) (fun w hw => get_spec n kv ks (by have := hok.1; omega) hok.2.2.1 id w (hw.reads (id := 100) rfl))) rfl ?_
      refine JQ.v (JV.move rfl) rfl ?_
      refine JQ.v (JV.extract rfl rfl) rfl ?_
      refine JQ.v (JV.extract rfl rfl) rfl ?_
      refine JQ.x (JO.alloc 4 (zs := (kc Pl.Key.zero)) Tryd.zeroValue34 rfl) rfl ?_
      intro i3_6
      refine JQ.s (JO.storeV 4 rfl rfl rfl (us := kc (Pl.getK ks id)) rfl Tryd.sizeOf34 rfl rfl) ?_
      refine JQ.v (JV.assign rfl) rfl ?_
      refine JQ.nil ?_
      refine JQ.n_then ?_
      refine JQ.seq ?_
      refine JQ.region ?_
      refine JQ.v (JV.loadV 2 rfl rfl Tryd.isAgg29 Tryd.sizeOf29 rfl) rfl ?_
      refine JQ.v (JV.move rfl) rfl ?_
      refine JQ.v (JV.callM Tryd.call20 (evs_cons rfl (evs_cons rfl evs_nil)) (fun w hw => next1_spec n kv ks (by have := hok.1; omega) hok.2.2.1 hok.ver id w (hw.reads (id := 100) rfl))) rfl ?_
      refine JQ.v (JV.move rfl) rfl ?_
      refine JQ.v (JV.extract rfl rfl) rfl ?_
      refine JQ.v (JV.extract rfl rfl) rfl ?_
      refine JQ.v (JV.assign rfl) rfl ?_
      refine JQ.v (JV.assign rfl) rfl ?_
      refine JQ.nil ?_
      refine JQ.n_then ?_
      refine JQ.seq ?_
      refine JQ.block ?_
      refine JQ.seq ?_
      refine JQ.region ?_
      refine JQ.v (JV.move rfl) rfl ?_
      refine JQ.v (JV.neqI rfl rfl) rfl ?_
      refine JQ.v (JV.assign rfl) rfl ?_
      refine JQ.nil ?_
      refine JQ.n_then ?_
      refine JQ.condP rfl (fun h33 => ?_) (fun h33 => ?_)
      · refine JQ.seq ?_
        refine JQ.region ?_
        refine JQ.v (JV.loadV 4 rfl rfl Tryd.isAgg34 Tryd.sizeOf34 rfl) rfl ?_
        refine JQ.v (JV.move rfl) rfl ?_
        refine JQ.s (JO.storeV 3 rfl rfl rfl (us := kc (Pl.getK ks id)) rfl Tryd.sizeOf34 rfl rfl) ?_
        refine JQ.v (JV.assign rfl) rfl ?_
        refine JQ.nil ?_
        refine JQ.n_then ?_
        refine JQ.ret ?_
        refine JQ.r_block ?_
        refine JQ.r_then ?_
        refine JQ.doneCT 3 Tryd.results34 rfl rfl rfl Tryd.isAgg34 Tryd.sizeOf34 rfl ?_
        exact fun w hw => ⟨by have e : kchk ts rs ks now id = Pl.getE ks id := (by rw [kchk, if_neg (by rw [g1_2, decide_eq_false h19]; decide), if_pos h33]); rw [kchK, e, if_neg (getE_ne1 ks id)]; first | done | rfl, hw.below⟩
      · refine JQ.seq ?_
        refine JQ.region ?_
        refine JQ.v (JV.loadV 4 rfl rfl Tryd.isAgg34 Tryd.sizeOf34 rfl) rfl ?_
        refine JQ.v (JV.move rfl) rfl ?_
        refine JQ.v (JV.call Tryd.call40 (evs_cons rfl (evs_cons rfl evs_nil)) (live_pure _ _)) rfl ?_
        refine JQ.v (JV.notB rfl) rfl ?_
        refine JQ.v (JV.assign rfl) rfl ?_
        refine JQ.nil ?_
        refine JQ.n_then ?_
        refine JQ.cond rfl (fun h38 => ?_) (fun h38 => ?_)
        · refine JQ.seq ?_
          refine JQ.region ?_
          refine JQ.v (JV.loadV 4 rfl rfl Tryd.isAgg34 Tryd.sizeOf34 rfl) rfl ?_
          refine JQ.s (JO.storeV 3 rfl rfl rfl (us := kc (Pl.getK ks id)) rfl Tryd.sizeOf34 rfl rfl) ?_
          refine JQ.v (JV.assign rfl) rfl ?_
          refine JQ.nil ?_
          refine JQ.n_then ?_
          refine JQ.ret ?_
          refine JQ.r_block ?_
          refine JQ.r_then ?_
          refine JQ.doneCT 3 Tryd.results34 rfl rfl rfl Tryd.isAgg34 Tryd.sizeOf34 rfl ?_
          exact fun w hw => ⟨by have e : kchk ts rs ks now id = 13 := (by rw [kchk, if_neg (by rw [g1_2, decide_eq_false h19]; decide), if_neg h33, if_pos h38]); rw [kchK, e, if_neg (by decide)]; first | done | rfl, hw.below⟩
        · refine JQ.seq ?_
          refine JQ.region ?_
          refine JQ.v (JV.move rfl) rfl ?_
          refine JQ.v (JV.assign rfl) rfl ?_
          refine JQ.nil ?_
          refine JQ.n_then ?_
          refine JQ.cond rfl (fun h44 => ?_) (fun h44 => ?_)
          · refine JQ.seq ?_
            refine JQ.region ?_
            refine JQ.v (JV.loadV 4 rfl rfl Tryd.isAgg34 Tryd.sizeOf34 rfl) rfl ?_
            refine JQ.s (JO.storeV 3 rfl rfl rfl (us := kc (Pl.getK ks id)) rfl Tryd.sizeOf34 rfl rfl) ?_
            refine JQ.v (JV.assign rfl) rfl ?_
            refine JQ.nil ?_
            refine JQ.n_then ?_
            refine JQ.ret ?_
            refine JQ.r_block ?_
            refine JQ.r_then ?_
            refine JQ.doneCT 3 Tryd.results34 rfl rfl rfl Tryd.isAgg34 Tryd.sizeOf34 rfl ?_
            exact fun w hw => ⟨by have e : kchk ts rs ks now id = 12 := (by rw [kchk, if_neg (by rw [g1_2, decide_eq_false h19]; decide), if_neg h33, if_neg (by rw [h38]; decide), if_pos h44]); rw [kchK, e, if_neg (by decide)]; first | done | rfl, hw.below⟩
          · refine JQ.seq ?_
            cases hb11 : (Pl.isTy ts (Pl.getK ks id).ty && decide (ib .andNot 1 (Pl.tyOf ts (Pl.getK ks id).ty).flags = 0))
            · refine JQ.any [_, _, _, _, _, _, (fun _ => undef), (fun _ => undef), (fun _ => undef), (fun _ => undef), (fun _ => undef), (fun _ => undef), (fun _ => undef), (fun _ => undef), _, _] [fun _ => [], fun _ => [], fun _ => [], fun _ => [], fun _ => [], fun _ => [], (fun _ => []), (fun _ => []), (fun _ => []), (fun _ => []), (fun _ => []), (fun _ => []), (fun _ => []), (fun _ => []), fun _ => [], fun _ => []] [⟨[1], [], [], []⟩, ⟨[], [], [], []⟩, ⟨[4], [], [], [1]⟩, ⟨[101], [], [], [0, 1, 2]⟩, ⟨[], [], [], [0, 1, 2, 3]⟩, ⟨[], [], [], [0, 1, 2, 3, 4]⟩, ⟨[], [], [], [0, 1, 2, 3, 4, 5]⟩, ⟨[], [], [], [0, 1, 2, 3, 4, 5, 6]⟩, ⟨[], [], [], [0, 1, 2, 3, 4, 5]⟩, ⟨[], [], [], [0, 1, 2, 3, 4, 5]⟩, ⟨[], [], [], [0, 1, 2, 3, 4, 5, 9]⟩, ⟨[], [], [], [0, 1, 2, 3, 4, 5, 8, 9, 10]⟩, ⟨[], [], [], [0, 1, 2, 3, 4, 5, 6, 7, 8, 9, 10, 11]⟩, ⟨[], [], [], [0, 1, 2, 3, 4, 5, 6, 7, 8, 9, 10, 11, 12]⟩, ⟨[], [], [], [0, 1, 2, 3, 4, 5, 6, 7, 8, 9, 10, 11, 12, 13]⟩, ⟨[], [], [], [0, 1, 2, 3, 4, 5, 6, 7, 8, 9, 10, 11, 12, 13, 14]⟩] Tryd.mixed rfl (by kernel_rfl) ⟨Ob.v rfl (fun _ _ h => by cases h) (fun _ _ _ => rfl) (fun e L' hL => JV.loadV 1 rfl ((hL 1 (by decide)).trans rfl) Tryd.isAgg26 Tryd.sizeOf26 rfl),
                                Ob.v rfl (fun _ _ h => by cases h) (fun _ _ _ => rfl) (fun e L' hL => JV.fieldAddrK (o := 1) rfl Tryd.runUnderlying34 rfl Tryd.sizeOf3 rfl rfl),
                                Ob.v rfl (fun _ _ h => by cases h) (fun _ _ _ => rfl) (fun e L' hL => JV.load1 4 rfl ((hL 4 (by decide)).trans rfl) Tryd.isAgg3 (rfl)),
                                Ob.v rfl (fun _ _ h => by cases h) (fun _ _ _ => rfl) (fun e L' hL => JV.known (c := false) (JV.callM Tryd.call49 (evs_cons rfl (evs_cons rfl (evs_cons rfl evs_nil))) (fun w hw => has_spec pn tv rv qv ts rs (Pl.getK ks id).ty 1 w (hw.reads (id := 101) ((hL 101 (by decide)).trans rfl)))) (hb11)),
                                Ob.v rfl (fun _ _ h => by cases h) (fun _ _ _ => rfl) (fun e L' hL => JV.notB rfl),
                                Ob.v rfl (fun _ _ h => by cases h) (fun _ _ _ => rfl) (fun e L' hL => JV.move rfl),
                                Ob.g0 rfl rfl (fun _ => rfl) rfl (fun _ _ h => by cases h),
                                Ob.g0 rfl rfl (fun _ => rfl) rfl (fun _ _ h => by cases h),
                                Ob.g0 rfl rfl (fun _ => rfl) rfl (fun _ _ h => by cases h),
                                Ob.g0 rfl rfl (fun _ => rfl) rfl (fun _ _ h => by cases h),
                                Ob.g0 rfl rfl (fun _ => rfl) rfl (fun _ _ h => by cases h),
                                Ob.g0 rfl rfl (fun _ => rfl) rfl (fun _ _ h => by cases h),
                                Ob.g0 rfl rfl (fun _ => rfl) rfl (fun _ _ h => by cases h),
                                Ob.g0 rfl rfl (fun _ => rfl) rfl (fun _ _ h => by cases h),
                                Ob.v rfl (fun _ _ h => by cases h) (fun _ _ _ => rfl) (fun e L' hL => JV.pickT rfl rfl),
                                Ob.v rfl (fun _ _ h => by cases h) (fun _ _ _ => rfl) (fun e L' hL => JV.assign rfl), trivial⟩ (fun ev11 => ?_)
              simp only [endF, endL, putF, List.nil_append, List.cons_append]
              refine JQ.n_then ?_
              refine JQ.condT rfl ?_
              refine JQ.seq ?_
              refine JQ.region ?_
              refine JQ.v (JV.loadV 4 rfl rfl Tryd.isAgg34 Tryd.sizeOf34 rfl) rfl ?_
              refine JQ.s (JO.storeV 3 rfl rfl rfl (us := kc (Pl.getK ks id)) rfl Tryd.sizeOf34 rfl rfl) ?_
              refine JQ.v (JV.assign rfl) rfl ?_
              refine JQ.nil ?_
              refine JQ.n_then ?_
              refine JQ.ret ?_
              refine JQ.r_block ?_
              refine JQ.r_then ?_
              refine JQ.doneCT 3 Tryd.results34 rfl rfl rfl Tryd.isAgg34 Tryd.sizeOf34 rfl ?_
              exact fun w hw => ⟨by have e : kchk ts rs ks now id = 10 := (by rw [kchk, if_neg (by rw [g1_2, decide_eq_false h19]; decide), if_neg h33, if_neg (by rw [h38]; decide), if_neg (by rw [h44]; decide), if_pos (by rw [hb11]; rfl)]); rw [kchK, e, if_neg (by decide)]; first | done | rfl, hw.below⟩
            · refine JQ.any [_, _, _, _, _, _, _, _, _, _, _, _, _, _, _, _] [fun _ => [], fun _ => [], fun _ => [], fun _ => [], fun _ => [], fun _ => [], fun _ => [], fun _ => [], fun _ => [], fun _ => [], fun _ => [], fun _ => [], fun _ => [], fun _ => [], fun _ => [], fun _ => []] [⟨[1], [], [], []⟩, ⟨[], [], [], []⟩, ⟨[4], [], [], [1]⟩, ⟨[101], [], [], [0, 1, 2]⟩, ⟨[], [], [], [0, 1, 2, 3]⟩, ⟨[], [], [], [0, 1, 2, 3, 4]⟩, ⟨[], [], [], [0, 1, 2, 3, 4, 5]⟩, ⟨[4], [], [], [0, 1, 2, 3, 4, 5, 6]⟩, ⟨[1], [], [], [0, 1, 2, 3, 4, 5]⟩, ⟨[], [], [], [0, 1, 2, 3, 4, 5]⟩, ⟨[4], [], [], [0, 1, 2, 3, 4, 5, 9]⟩, ⟨[101, 102, 900], [], [], [0, 1, 2, 3, 4, 5, 8, 9, 10]⟩, ⟨[], [], [], [0, 1, 2, 3, 4, 5, 6, 7, 8, 9, 10, 11]⟩, ⟨[], [], [], [0, 1, 2, 3, 4, 5, 6, 7, 8, 9, 10, 11, 12]⟩, ⟨[], [], [], [0, 1, 2, 3, 4, 5, 6, 7, 8, 9, 10, 11, 12, 13]⟩, ⟨[], [], [], [0, 1, 2, 3, 4, 5, 6, 7, 8, 9, 10, 11, 12, 13, 14]⟩] Tryd.mixed rfl (by kernel_rfl) ⟨Ob.v rfl (fun _ _ h => by cases h) (fun _ _ _ => rfl) (fun e L' hL => JV.loadV 1 rfl ((hL 1 (by decide)).trans rfl) Tryd.isAgg26 Tryd.sizeOf26 rfl),
                                Ob.v rfl (fun _ _ h => by cases h) (fun _ _ _ => rfl) (fun e L' hL => JV.fieldAddrK (o := 1) rfl Tryd.runUnderlying34 rfl Tryd.sizeOf3 rfl rfl),
                                Ob.v rfl (fun _ _ h => by cases h) (fun _ _ _ => rfl) (fun e L' hL => JV.load1 4 rfl ((hL 4 (by decide)).trans rfl) Tryd.isAgg3 (rfl)),
                                Ob.v rfl (fun _ _ h => by cases h) (fun _ _ _ => rfl) (fun e L' hL => JV.known (c := true) (JV.callM Tryd.call49 (evs_cons rfl (evs_cons rfl (evs_cons rfl evs_nil))) (fun w hw => has_spec pn tv rv qv ts rs (Pl.getK ks id).ty 1 w (hw.reads (id := 101) ((hL 101 (by decide)).trans rfl)))) (hb11)),
                                Ob.v rfl (fun _ _ h => by cases h) (fun _ _ _ => rfl) (fun e L' hL => JV.notB rfl),
                                Ob.v rfl (fun _ _ h => by cases h) (fun _ _ _ => rfl) (fun e L' hL => JV.move rfl),
                                Ob.vg rfl rfl (fun _ => rfl) (fun _ _ h => by cases h) (fun _ _ _ => rfl) (fun e L' hL => JV.fieldAddrK (o := 3) rfl Tryd.runUnderlying34 rfl Tryd.sizeOf3 rfl rfl),
                                Ob.vg rfl rfl (fun _ => rfl) (fun _ _ h => by cases h) (fun _ _ _ => rfl) (fun e L' hL => JV.load1 4 rfl ((hL 4 (by decide)).trans rfl) Tryd.isAgg3 (rfl)),
                                Ob.vg rfl rfl (fun _ => rfl) (fun _ _ h => by cases h) (fun _ _ _ => rfl) (fun e L' hL => JV.loadV 1 rfl ((hL 1 (by decide)).trans rfl) Tryd.isAgg26 Tryd.sizeOf26 rfl),
                                Ob.vg rfl rfl (fun _ => rfl) (fun _ _ h => by cases h) (fun _ _ _ => rfl) (fun e L' hL => JV.fieldAddrK (o := 1) rfl Tryd.runUnderlying34 rfl Tryd.sizeOf3 rfl rfl),
                                Ob.vg rfl rfl (fun _ => rfl) (fun _ _ h => by cases h) (fun _ _ _ => rfl) (fun e L' hL => JV.load1 4 rfl ((hL 4 (by decide)).trans rfl) Tryd.isAgg3 (rfl)),
                                Ob.vg rfl rfl (fun _ => rfl) (fun _ _ h => by cases h) (fun _ _ _ => rfl) (fun e L' hL => JV.callM Tryd.call58 (evs_cons rfl (evs_cons rfl evs_nil)) (fun w hw => uses_spec pn tv rv qv ts rs htl hrl (Pl.getK ks id).ty w (hw.reads (id := 101) ((hL 101 (by decide)).trans rfl)) (hw.reads (id := 102) ((hL 102 (by decide)).trans rfl)) (hw.reads (id := 900) ((hL 900 (by decide)).trans rfl)))),
                                Ob.vg rfl rfl (fun _ => rfl) (fun _ _ h => by cases h) (fun _ _ _ => rfl) (fun e L' hL => JV.call Tryd.call57 (evs_cons rfl (evs_cons rfl evs_nil)) (subset_pure _ _)),
                                Ob.vg rfl rfl (fun _ => rfl) (fun _ _ h => by cases h) (fun _ _ _ => rfl) (fun e L' hL => JV.notB rfl),
                                Ob.v rfl (fun _ _ h => by cases h) (fun _ _ _ => rfl) (fun e L' hL => JV.pickF rfl rfl),
                                Ob.v rfl (fun _ _ h => by cases h) (fun _ _ _ => rfl) (fun e L' hL => JV.assign rfl), trivial⟩ (fun ev11 => ?_)
              simp only [endF, endL, putF, List.nil_append, List.cons_append]
              refine JQ.n_then ?_
              refine JQ.cond rfl (fun h47 => ?_) (fun h47 => ?_)
              · refine JQ.seq ?_
                refine JQ.region ?_
                refine JQ.v (JV.loadV 4 rfl rfl Tryd.isAgg34 Tryd.sizeOf34 rfl) rfl ?_
                refine JQ.s (JO.storeV 3 rfl rfl rfl (us := kc (Pl.getK ks id)) rfl Tryd.sizeOf34 rfl rfl) ?_
                refine JQ.v (JV.assign rfl) rfl ?_
                refine JQ.nil ?_
                refine JQ.n_then ?_
                refine JQ.ret ?_
                refine JQ.r_block ?_
                refine JQ.r_then ?_
                refine JQ.doneCT 3 Tryd.results34 rfl rfl rfl Tryd.isAgg34 Tryd.sizeOf34 rfl ?_
                exact fun w hw => ⟨by have e : kchk ts rs ks now id = 10 := (by rw [kchk, if_neg (by rw [g1_2, decide_eq_false h19]; decide), if_neg h33, if_neg (by rw [h38]; decide), if_neg (by rw [h44]; decide), if_pos (by rw [hb11, h47]; rfl)]); rw [kchK, e, if_neg (by decide)]; first | done | rfl, hw.below⟩
              · refine JQ.seq ?_
                refine JQ.region ?_
                refine JQ.v (JV.fieldAddrK (o := 6) rfl Tryd.runUnderlying34 rfl Tryd.sizeOf3 rfl rfl) rfl ?_
                refine JQ.v (JV.load1 4 rfl rfl Tryd.isAgg3 (rfl)) rfl ?_
                refine JQ.v (JV.eqlI rfl rfl) rfl ?_
                refine JQ.v (JV.assign rfl) rfl ?_
                refine JQ.nil ?_
                refine JQ.n_then ?_
                refine JQ.condP rfl (fun h64 => ?_) (fun h64 => ?_)
                · refine JQ.seq ?_
                  refine JQ.region ?_
                  refine JQ.v (JV.loadV 4 rfl rfl Tryd.isAgg34 Tryd.sizeOf34 rfl) rfl ?_
                  refine JQ.s (JO.storeV 3 rfl rfl rfl (us := kc (Pl.getK ks id)) rfl Tryd.sizeOf34 rfl rfl) ?_
                  refine JQ.v (JV.assign rfl) rfl ?_
                  refine JQ.nil ?_
                  refine JQ.n_then ?_
                  refine JQ.ret ?_
                  refine JQ.r_block ?_
                  refine JQ.r_then ?_
                  refine JQ.doneCT 3 Tryd.results34 rfl rfl rfl Tryd.isAgg34 Tryd.sizeOf34 rfl ?_
                  exact fun w hw => ⟨by have e : kchk ts rs ks now id = 2 := (by rw [kchk, if_neg (by rw [g1_2, decide_eq_false h19]; decide), if_neg h33, if_neg (by rw [h38]; decide), if_neg (by rw [h44]; decide), if_neg (by rw [hb11, h47]; decide), if_pos h64]); rw [kchK, e, if_neg (by decide)]; first | done | rfl, hw.below⟩
                · refine JQ.skip ?_
                  refine JQ.n_block ?_
                  refine JQ.n_then ?_
                  refine JQ.seq ?_
                  refine JQ.region ?_
                  refine JQ.v (JV.loadV 4 rfl rfl Tryd.isAgg34 Tryd.sizeOf34 rfl) rfl ?_
                  refine JQ.s (JO.storeV 3 rfl rfl rfl (us := kc (Pl.getK ks id)) rfl Tryd.sizeOf34 rfl rfl) ?_
                  refine JQ.v (JV.assign rfl) rfl ?_
                  refine JQ.nil ?_
                  refine JQ.n_then ?_
                  refine JQ.ret ?_
                  refine JQ.doneCT 3 Tryd.results34 rfl rfl rfl Tryd.isAgg34 Tryd.sizeOf34 rfl ?_
                  exact fun w hw => ⟨by have e : kchk ts rs ks now id = 0 := (by rw [kchk, if_neg (by rw [g1_2, decide_eq_false h19]; decide), if_neg h33, if_neg (by rw [h38]; decide), if_neg (by rw [h44]; decide), if_neg (by rw [hb11, h47]; decide), if_neg h64]); rw [kchK, e, if_neg (by decide)]; first | done | rfl, hw.below⟩

set_option maxHeartbeats 1000000 in
theorem fits_spec (pn : List UInt8) (tv rv qv : Value) (ts : List Pl.Typ) (rs : List Pl.Rule) (htl : ts.length ≤ 1048576) (hrl : rs.length ≤ 1048576) (n : Int) (kv : Value) (ks : List Pl.Key) (hok : tabOk n ks) (now id : Int) (w : World) (ht : Reads w tv 3 ts.length (tcs ts)) (hru : Reads w rv 3 rs.length (rcs rs)) (hr : Reads w kv 9 ks.length (kcs ks)) :
    Calls Tryd.prog 42 #[.agg [str pn, tv, rv, qv].toArray, .agg [iv n, kv].toArray, iv now, iv id] w fun e w' => e = .returned (iv (kchk ts rs ks now id)) ∧ Below w.heap.size w w' := by
  
  refine enterA (vs := [_, _, _, _]) Tryd.func42 rfl 62 rfl [(101, .ro tv 3 ts.length (tcs ts)), (102, .ro rv 3 rs.length (rcs rs)), (100, .ro kv 9 ks.length (kcs ks))] (((MemOk.start1 100 hr).addRo 102 hru (ro_cons ro_nil)).addRo 101 ht (ro_cons (ro_cons ro_nil))) ?_
  refine JQ.seq ?_
  refine JQ.region ?_
  refine JQ.x (JO.box 1 rfl rfl) rfl ?_
  intro i0_0
  refine JQ.x (JO.box 2 rfl rfl) rfl ?_
  intro i0_1
  refine JQ.v (JV.assign rfl) rfl ?_
  refine JQ.nil ?_
  refine JQ.n_then ?_
  refine JQ.seq ?_
  refine JQ.seq ?_
  refine JQ.region ?_
  refine JQ.v (JV.move rfl) rfl ?_
  refine JQ.v (JV.lss rfl rfl) rfl ?_
  refine JQ.vb (JV.move rfl) rfl (fun g1_2 => ?_) (fun g1_2 => ?_)
  · refine JQ.g0 rfl rfl rfl rfl ?_
    refine JQ.g0 rfl rfl rfl rfl ?_
    refine JQ.v (JV.pickT rfl rfl) rfl ?_
    refine JQ.nil ?_
    refine JQ.n_then ?_
    refine JQ.condT rfl ?_
    refine JQ.seq ?_
    refine JQ.region ?_
    refine JQ.v (JV.assign rfl) rfl ?_
    refine JQ.nil ?_
    refine JQ.n_then ?_
    refine JQ.ret ?_
    refine JQ.r_then ?_
    refine JQ.done1 Tryd.results42 rfl ?_
    exact fun w hw => ⟨by rw [kchk_R (hok.uin id), if_pos (by rw [g1_2]; rfl)], hw.below⟩
  · refine JQ.vg rfl rfl (JV.move rfl) rfl ?_
    refine JQ.vg rfl rfl (JV.geq rfl rfl) rfl ?_
    refine JQ.v (JV.pickF rfl rfl) rfl ?_
    refine JQ.nil ?_
    refine JQ.n_then ?_
    refine JQ.condP rfl (fun h21 => ?_) (fun h21 => ?_)
    · refine JQ.seq ?_
      refine JQ.region ?_
      refine JQ.v (JV.assign rfl) rfl ?_
      refine JQ.nil ?_
      refine JQ.n_then ?_
      refine JQ.ret ?_
      refine JQ.r_then ?_
      refine JQ.done1 Tryd.results42 rfl ?_
      exact fun w hw => ⟨by rw [kchk_R (hok.uin id), if_pos (by rw [g1_2, decide_eq_true h21]; rfl)], hw.below⟩
    · refine JQ.skip ?_
      refine JQ.n_then ?_
      refine JQ.seq ?_
      refine JQ.region ?_
      refine JQ.v (JV.loadV 2 rfl rfl Tryd.isAgg29 Tryd.sizeOf29 rfl) rfl ?_
      refine JQ.v (JV.move rfl) rfl ?_
      refine JQ.v (JV.callM Tryd.call43 (evs_cons rfl (evs_cons rfl evs_nil)) (fun w hw => rget_spec n kv ks (by have := hok.1; omega) id w (hw.reads (id := 100) rfl))) rfl ?_
      refine JQ.v (JV.move rfl) rfl ?_
      refine JQ.v (JV.extract rfl rfl) rfl ?_
      refine JQ.v (JV.extract rfl rfl) rfl ?_
      refine JQ.x (JO.alloc 3 (zs := (kc Pl.Key.zero)) Tryd.zeroValue34 rfl) rfl ?_
      intro i3_6
      refine JQ.s (JO.storeV 3 rfl rfl rfl (us := kc (Pl.getK ks id)) rfl Tryd.sizeOf34 rfl rfl) ?_
      refine JQ.v (JV.assign rfl) rfl ?_
      refine JQ.nil ?_
      refine JQ.n_then ?_
      refine JQ.seq ?_
      refine JQ.seq ?_
      refine JQ.region ?_
      refine JQ.v (JV.move rfl) rfl ?_
      refine JQ.v (JV.neqI rfl rfl) rfl ?_
      refine JQ.nil ?_
      refine JQ.n_then ?_
      refine JQ.condP rfl (fun h29 => ?_) (fun h29 => ?_)
      · refine JQ.seq ?_
        refine JQ.region ?_
        refine JQ.v (JV.assign rfl) rfl ?_
        refine JQ.nil ?_
        refine JQ.n_then ?_
        refine JQ.ret ?_
        refine JQ.r_then ?_
        refine JQ.done1 Tryd.results42 rfl ?_
        exact fun w hw => ⟨by rw [kchk_R (hok.uin id), if_neg (by rw [g1_2, decide_eq_false h21]; decide), if_pos h29, getE_11 h29], hw.below⟩
      · refine JQ.skip ?_
        refine JQ.n_then ?_
        refine JQ.seq ?_
        refine JQ.region ?_
        refine JQ.v (JV.loadV 3 rfl rfl Tryd.isAgg34 Tryd.sizeOf34 rfl) rfl ?_
        refine JQ.v (JV.move rfl) rfl ?_
        refine JQ.v (JV.call Tryd.call50 (evs_cons rfl (evs_cons rfl evs_nil)) (rlive_pure _ _)) rfl ?_
        refine JQ.v (JV.assign rfl) rfl ?_
        refine JQ.nil ?_
        refine JQ.n_then ?_
        refine JQ.seq ?_
        refine JQ.seq ?_
        refine JQ.region ?_
        refine JQ.v (JV.move rfl) rfl ?_
        refine JQ.v (JV.notB rfl) rfl ?_
        refine JQ.nil ?_
        refine JQ.n_then ?_
        refine JQ.cond rfl (fun h34 => ?_) (fun h34 => ?_)
        · refine JQ.seq ?_
          refine JQ.region ?_
          refine JQ.v (JV.assign rfl) rfl ?_
          refine JQ.nil ?_
          refine JQ.n_then ?_
          refine JQ.ret ?_
          refine JQ.r_then ?_
          refine JQ.done1 Tryd.results42 rfl ?_
          exact fun w hw => ⟨by rw [kchk_R (hok.uin id), if_neg (by rw [g1_2, decide_eq_false h21]; decide), if_neg h29, if_pos h34], hw.below⟩
        · refine JQ.skip ?_
          refine JQ.n_then ?_
          refine JQ.seq ?_
          refine JQ.region ?_
          refine JQ.v (JV.loadV 2 rfl rfl Tryd.isAgg29 Tryd.sizeOf29 rfl) rfl ?_
          refine JQ.v (JV.move rfl) rfl ?_
          refine JQ.v (JV.callM Tryd.call21 (evs_cons rfl (evs_cons rfl evs_nil)) (fun w hw => rnext1_spec n kv ks (by have := hok.1; omega) hok.ver id w (hw.reads (id := 100) rfl))) rfl ?_
          refine JQ.v (JV.move rfl) rfl ?_
          refine JQ.v (JV.extract rfl rfl) rfl ?_
          refine JQ.v (JV.extract rfl rfl) rfl ?_
          refine JQ.v (JV.assign rfl) rfl ?_
          refine JQ.v (JV.assign rfl) rfl ?_
          refine JQ.nil ?_
          refine JQ.n_then ?_
          refine JQ.seq ?_
          refine JQ.seq ?_
          refine JQ.region ?_
          refine JQ.v (JV.move rfl) rfl ?_
          refine JQ.nil ?_
          refine JQ.n_then ?_
          refine JQ.cond rfl (fun h41 => ?_) (fun h41 => ?_)
          · refine JQ.seq ?_
            refine JQ.region ?_
            refine JQ.v (JV.assign rfl) rfl ?_
            refine JQ.nil ?_
            refine JQ.n_then ?_
            refine JQ.ret ?_
            refine JQ.r_then ?_
            refine JQ.done1 Tryd.results42 rfl ?_
            exact fun w hw => ⟨by rw [kchk_R (hok.uin id), if_neg (by rw [g1_2, decide_eq_false h21]; decide), if_neg h29, if_neg (by rw [h34]; decide), if_pos h41], hw.below⟩
          · refine JQ.skip ?_
            refine JQ.n_then ?_
            refine JQ.seq ?_
            refine JQ.region ?_
            refine JQ.v (JV.loadV 1 rfl rfl Tryd.isAgg26 Tryd.sizeOf26 rfl) rfl ?_
            refine JQ.v (JV.fieldAddrK (o := 1) rfl Tryd.runUnderlying34 rfl Tryd.sizeOf3 rfl rfl) rfl ?_
            refine JQ.v (JV.load1 3 rfl rfl Tryd.isAgg3 (rfl)) rfl ?_
            refine JQ.v (JV.callM Tryd.call51 (evs_cons rfl (evs_cons rfl (evs_cons rfl evs_nil))) (fun w hw => rhas_spec pn tv rv qv ts rs (Pl.getK ks id).ty 1 w (hw.reads (id := 101) rfl))) rfl ?_
            refine JQ.v (JV.assign rfl) rfl ?_
            refine JQ.nil ?_
            refine JQ.n_then ?_
            refine JQ.seq ?_
            refine JQ.any [_, _, _, _, _, _, _, _] [fun _ => [], fun _ => [], fun _ => [], fun _ => [], fun _ => [], fun _ => [], fun _ => [], fun _ => []] [⟨[], [], [], []⟩, ⟨[3], [], [], [0]⟩, ⟨[1], [], [], []⟩, ⟨[], [], [], []⟩, ⟨[3], [], [], [3]⟩, ⟨[101, 102], [], [], [2, 3, 4]⟩, ⟨[], [], [], [0, 1, 2, 3, 4, 5]⟩, ⟨[], [], [], [0, 1, 2, 3, 4, 5, 6]⟩] Tryd.mixed rfl (by kernel_rfl) ⟨Ob.v rfl (fun _ _ h => by cases h) (fun _ _ _ => rfl) (fun e L' hL => JV.fieldAddrK (o := 3) rfl Tryd.runUnderlying34 rfl Tryd.sizeOf3 rfl rfl),
                            Ob.v rfl (fun _ _ h => by cases h) (fun _ _ _ => rfl) (fun e L' hL => JV.load1 3 rfl ((hL 3 (by decide)).trans rfl) Tryd.isAgg3 (rfl)),
                            Ob.v rfl (fun _ _ h => by cases h) (fun _ _ _ => rfl) (fun e L' hL => JV.loadV 1 rfl ((hL 1 (by decide)).trans rfl) Tryd.isAgg26 Tryd.sizeOf26 rfl),
                            Ob.v rfl (fun _ _ h => by cases h) (fun _ _ _ => rfl) (fun e L' hL => JV.fieldAddrK (o := 1) rfl Tryd.runUnderlying34 rfl Tryd.sizeOf3 rfl rfl),
                            Ob.v rfl (fun _ _ h => by cases h) (fun _ _ _ => rfl) (fun e L' hL => JV.load1 3 rfl ((hL 3 (by decide)).trans rfl) Tryd.isAgg3 (rfl)),
                            Ob.v rfl (fun _ _ h => by cases h) (fun _ _ _ => rfl) (fun e L' hL => JV.callM Tryd.call17 (evs_cons rfl (evs_cons rfl evs_nil)) (fun w hw => ruses_spec pn tv rv qv ts rs htl hrl (Pl.getK ks id).ty w (hw.reads (id := 101) ((hL 101 (by decide)).trans rfl)) (hw.reads (id := 102) ((hL 102 (by decide)).trans rfl)))),
                            Ob.v rfl (fun _ _ h => by cases h) (fun _ _ _ => rfl) (fun e L' hL => JV.call Tryd.call16 (evs_cons rfl (evs_cons rfl evs_nil)) (rsubset_pure _ _)),
                            Ob.v rfl (fun _ _ h => by cases h) (fun _ _ _ => rfl) (fun e L' hL => JV.assign rfl), trivial⟩ (fun ev13 => ?_)
            simp only [endF, endL, putF, List.nil_append, List.cons_append]
            refine JQ.n_then ?_
            refine JQ.seq ?_
            refine JQ.seq ?_
            refine JQ.region ?_
            refine JQ.v (JV.move rfl) rfl ?_
            refine JQ.v (JV.notB rfl) rfl ?_
            refine JQ.vb (JV.move rfl) rfl (fun g14_2 => ?_) (fun g14_2 => ?_)
            · refine JQ.g0 rfl rfl rfl rfl ?_
              refine JQ.g0 rfl rfl rfl rfl ?_
              refine JQ.v (JV.pickT rfl rfl) rfl ?_
              refine JQ.nil ?_
              refine JQ.n_then ?_
              refine JQ.condT rfl ?_
              refine JQ.seq ?_
              refine JQ.region ?_
              refine JQ.v (JV.assign rfl) rfl ?_
              refine JQ.nil ?_
              refine JQ.n_then ?_
              refine JQ.ret ?_
              refine JQ.r_then ?_
              refine JQ.done1 Tryd.results42 rfl ?_
              exact fun w hw => ⟨by rw [kchk_R (hok.uin id), if_neg (by rw [g1_2, decide_eq_false h21]; decide), if_neg h29, if_neg (by rw [h34]; decide), if_neg (by rw [h41]; decide), if_pos (by rw [g14_2]; rfl)], hw.below⟩
            · refine JQ.vg rfl rfl (JV.move rfl) rfl ?_
              refine JQ.vg rfl rfl (JV.notB rfl) rfl ?_
              refine JQ.v (JV.pickF rfl rfl) rfl ?_
              refine JQ.nil ?_
              refine JQ.n_then ?_
              refine JQ.cond rfl (fun h58 => ?_) (fun h58 => ?_)
              · refine JQ.seq ?_
                refine JQ.region ?_
                refine JQ.v (JV.assign rfl) rfl ?_
                refine JQ.nil ?_
                refine JQ.n_then ?_
                refine JQ.ret ?_
                refine JQ.r_then ?_
                refine JQ.done1 Tryd.results42 rfl ?_
                exact fun w hw => ⟨by rw [kchk_R (hok.uin id), if_neg (by rw [g1_2, decide_eq_false h21]; decide), if_neg h29, if_neg (by rw [h34]; decide), if_neg (by rw [h41]; decide), if_pos (by rw [g14_2, h58]; rfl)], hw.below⟩
              · refine JQ.skip ?_
                refine JQ.n_then ?_
                refine JQ.seq ?_
                refine JQ.seq ?_
                refine JQ.region ?_
                refine JQ.v (JV.fieldAddrK (o := 6) rfl Tryd.runUnderlying34 rfl Tryd.sizeOf3 rfl rfl) rfl ?_
                refine JQ.v (JV.load1 3 rfl rfl Tryd.isAgg3 (rfl)) rfl ?_
                refine JQ.v (JV.eqlI rfl rfl) rfl ?_
                refine JQ.nil ?_
                refine JQ.n_then ?_
                refine JQ.condP rfl (fun h61 => ?_) (fun h61 => ?_)
                · refine JQ.seq ?_
                  refine JQ.region ?_
                  refine JQ.v (JV.assign rfl) rfl ?_
                  refine JQ.nil ?_
                  refine JQ.n_then ?_
                  refine JQ.ret ?_
                  refine JQ.r_then ?_
                  refine JQ.done1 Tryd.results42 rfl ?_
                  exact fun w hw => ⟨by rw [kchk_R (hok.uin id), if_neg (by rw [g1_2, decide_eq_false h21]; decide), if_neg h29, if_neg (by rw [h34]; decide), if_neg (by rw [h41]; decide), if_neg (by rw [g14_2, h58]; decide), if_pos h61], hw.below⟩
                · refine JQ.skip ?_
                  refine JQ.n_then ?_
                  refine JQ.seq ?_
                  refine JQ.region ?_
                  refine JQ.v (JV.assign rfl) rfl ?_
                  refine JQ.nil ?_
                  refine JQ.n_then ?_
                  refine JQ.ret ?_
                  refine JQ.done1 Tryd.results42 rfl ?_
                  exact fun w hw => ⟨by rw [kchk_R (hok.uin id), if_neg (by rw [g1_2, decide_eq_false h21]; decide), if_neg h29, if_neg (by rw [h34]; decide), if_neg (by rw [h41]; decide), if_neg (by rw [g14_2, h58]; decide), if_neg h61], hw.below⟩

theorem fail_pure (e : Int) :
    Pure Tryd.prog 33 #[iv e] (.tuple #[.agg [iv 0, .slice none 0 0].toArray, .agg [str []].toArray, iv 0, iv e]) := by
  intro w
  refine enterA (vs := [_]) Tryd.func33 rfl 9 rfl [] (MemOk.start w) ?_
  refine JQ.seq ?_
  refine JQ.region ?_
  refine JQ.x (JO.alloc 1 (zs := [iv 0, .slice none 0 0]) Tryd.zeroValue29 rfl) rfl ?_
  intro i0_0
  refine JQ.x (JO.alloc 2 (zs := [str []]) Tryd.zeroValue39 rfl) rfl ?_
  intro i0_1
  refine JQ.v (JV.assign rfl) rfl ?_
  refine JQ.v (JV.assign rfl) rfl ?_
  refine JQ.nil ?_
  refine JQ.n_then ?_
  refine JQ.seq ?_
  refine JQ.region ?_
  refine JQ.v (JV.build (v := .agg [iv 0, .slice none 0 0].toArray) evp_nil (fun w => by kernel_rfl)) rfl ?_
  refine JQ.v (JV.build (v := .agg [str []].toArray) evp_nil (fun w => by kernel_rfl)) rfl ?_
  refine JQ.v (JV.move rfl) rfl ?_
  refine JQ.s (JO.storeV 1 rfl rfl rfl (us := [iv 0, .slice none 0 0]) rfl Tryd.sizeOf29 rfl rfl) ?_
  refine JQ.s (JO.storeV 2 rfl rfl rfl (us := [str []]) rfl Tryd.sizeOf39 rfl rfl) ?_
  refine JQ.v (JV.assign rfl) rfl ?_
  refine JQ.v (JV.assign rfl) rfl ?_
  refine JQ.nil ?_
  refine JQ.n_then ?_
  refine JQ.ret ?_
  refine JQ.doneCCTT 1 2 Tryd.results33 rfl rfl rfl rfl rfl rfl Tryd.isAgg29 Tryd.isAgg39 Tryd.sizeOf29 Tryd.sizeOf39 rfl rfl ?_
  exact fun w hw => ⟨rfl, hw.below⟩

set_option maxHeartbeats 1000000 in
theorem key_spec (pn : List UInt8) (tv rv qv : Value) (ts : List Pl.Typ) (rs : List Pl.Rule) (htl : ts.length ≤ 1048576) (hrl : rs.length ≤ 1048576) (n : Int) (kv : Value) (ks : List Pl.Key) (hok : tabOk n ks) (sd : List UInt8) (hsd : sd.length ≤ 1048576) (now id : Int) (w : World) (ht : Reads w tv 3 ts.length (tcs ts)) (hru : Reads w rv 3 rs.length (rcs rs)) (hr : Reads w kv 9 ks.length (kcs ks)) (hB : Gl 0 byRule w) (hG : Gl 2 (Pl.K.map u32) w) :
    Calls Tryd.prog 13 #[.agg [str pn, tv, rv, qv].toArray, .agg [iv n, kv].toArray, .agg [str sd].toArray, iv now, iv id] w fun e w' => ∃ v, e = .returned (.tuple #[.agg [iv (keyT ts rs n ks now id sd).next, v].toArray, .agg [str (keyS ts rs n ks now id sd)].toArray, iv (keyI ts rs n ks now id), iv (keyE ts rs n ks now id)]) ∧ w'.ownsRow w.heap.size 34 9 v (keyT ts rs n ks now id sd).keys.length (kcs (keyT ts rs n ks now id sd).keys) ∧ Below w.heap.size w w' := by
  
  refine enterA (vs := [_, _, _, _, _]) Tryd.func13 rfl 115 rfl [(902, .ro (gv 2 64) 1 64 (Pl.K.map u32)), (900, .ro (gv 0 15) 1 15 byRule), (101, .ro tv 3 ts.length (tcs ts)), (102, .ro rv 3 rs.length (rcs rs)), (100, .ro kv 9 ks.length (kcs ks))] (((((MemOk.start1 100 hr).addRo 102 hru (ro_cons ro_nil)).addRo 101 ht (ro_cons (ro_cons ro_nil))).addRo 900 hB (ro_cons (ro_cons (ro_cons ro_nil)))).addRo 902 hG (ro_cons (ro_cons (ro_cons (ro_cons ro_nil))))) ?_
  refine JQ.seq ?_
  refine JQ.region ?_
  refine JQ.x (JO.box 1 rfl rfl) rfl ?_
  intro i0_0
  refine JQ.x (JO.box 2 rfl rfl) rfl ?_
  intro i0_1
  refine JQ.x (JO.box 3 rfl rfl) rfl ?_
  intro i0_2
  refine JQ.x (JO.alloc 4 (zs := [iv 0, .slice none 0 0]) Tryd.zeroValue29 rfl) rfl ?_
  intro i0_3
  refine JQ.x (JO.alloc 5 (zs := [str []]) Tryd.zeroValue39 rfl) rfl ?_
  intro i0_4
  refine JQ.v (JV.assign rfl) rfl ?_
  refine JQ.v (JV.assign rfl) rfl ?_
  refine JQ.nil ?_
  refine JQ.n_then ?_
  refine JQ.seq ?_
  refine JQ.region ?_
  refine JQ.v (JV.assign rfl) rfl ?_
  refine JQ.nil ?_
  refine JQ.n_then ?_
  refine JQ.seq ?_
  refine JQ.region ?_
  refine JQ.v (JV.loadV 1 rfl rfl Tryd.isAgg26 Tryd.sizeOf26 rfl) rfl ?_
  refine JQ.v (JV.loadV 2 rfl rfl Tryd.isAgg29 Tryd.sizeOf29 rfl) rfl ?_
  refine JQ.v (JV.move rfl) rfl ?_
  refine JQ.v (JV.move rfl) rfl ?_
  refine JQ.v (JV.callM Tryd.call34 (evs_cons rfl (evs_cons rfl (evs_cons rfl (evs_cons rfl evs_nil)))) (fun w hw => check_spec pn tv rv qv ts rs htl hrl n kv ks hok now id w (hw.reads (id := 101) rfl) (hw.reads (id := 102) rfl) (hw.reads (id := 100) rfl) (hw.reads (id := 900) rfl))) rfl ?_
  refine JQ.v (JV.move rfl) rfl ?_
  refine JQ.v (JV.extract rfl rfl) rfl ?_
  refine JQ.v (JV.extract rfl rfl) rfl ?_
  refine JQ.x (JO.alloc 6 (zs := (kc Pl.Key.zero)) Tryd.zeroValue34 rfl) rfl ?_
  intro i2_8
  refine JQ.s (JO.storeV 6 rfl rfl rfl (us := kc (kchK ts rs ks now id)) rfl Tryd.sizeOf34 rfl rfl) ?_
  refine JQ.v (JV.assign rfl) rfl ?_
  refine JQ.nil ?_
  refine JQ.n_then ?_
  refine JQ.seq ?_
  refine JQ.seq ?_
  refine JQ.region ?_
  refine JQ.v (JV.move rfl) rfl ?_
  refine JQ.v (JV.neqI rfl rfl) rfl ?_
  refine JQ.nil ?_
  refine JQ.n_then ?_
  refine JQ.condP rfl (fun h30 => ?_) (fun h30 => ?_)
  · refine JQ.seq ?_
    refine JQ.region ?_
    refine JQ.v (JV.move rfl) rfl ?_
    refine JQ.v (JV.move rfl) rfl ?_
    refine JQ.v (JV.callvM (fs := []) (us := []) rfl Tryd.call33 (evs_cons rfl evs_nil) (fun w hw => fail_pure (kchk ts rs ks now id) w)) rfl ?_
    refine JQ.v (JV.extract rfl rfl) rfl ?_
    refine JQ.v (JV.extract rfl rfl) rfl ?_
    refine JQ.v (JV.extract rfl rfl) rfl ?_
    refine JQ.v (JV.extract rfl rfl) rfl ?_
    refine JQ.s (JO.storeV 4 rfl rfl rfl (us := [iv 0, .slice none 0 0]) rfl Tryd.sizeOf29 rfl rfl) ?_
    refine JQ.s (JO.storeV 5 rfl rfl rfl (us := [str []]) rfl Tryd.sizeOf39 rfl rfl) ?_
    refine JQ.v (JV.assign rfl) rfl ?_
    refine JQ.v (JV.assign rfl) rfl ?_
    refine JQ.nil ?_
    refine JQ.n_then ?_
    refine JQ.ret ?_
    refine JQ.r_then ?_
    refine JQ.doneCCTT 4 5 Tryd.results13 rfl rfl rfl rfl rfl rfl Tryd.isAgg29 Tryd.isAgg39 Tryd.sizeOf29 Tryd.sizeOf39 rfl rfl ?_
    exact fun w hw => ⟨.slice none 0 0, by rw [keyT, keyS, keyI, keyE, if_pos h30, if_pos h30, if_pos h30, if_pos h30]; first | done | rfl, by rw [keyT, if_pos h30]; exact owns_knil _ _, hw.below⟩
  · have hk := kchk_ok hok (Decidable.not_not.1 h30)
    obtain ⟨tn, htn, hty⟩ := isTy_nat hk.2.2.2.2.1
    have hv := vkR_iff.1 hk.2.2.1
    have hlk := life_ok ts hk.2.2.1 hk.1 hk.2.1.2
    have hnow := hk.1
    have hver := hk.2.2.2.2.2.1
    rw [show kchK ts rs ks now id = Pl.getK ks id from by rw [kchK, if_neg (by rw [Decidable.not_not.1 h30]; decide)]]
    refine JQ.skip ?_
    refine JQ.n_then ?_
    refine JQ.seq ?_
    refine JQ.region ?_
    refine JQ.v (JV.fieldAddrK (o := 5) rfl Tryd.runUnderlying34 rfl Tryd.sizeOf3 rfl rfl) rfl ?_
    refine JQ.v (JV.load1 6 rfl rfl Tryd.isAgg3 (rfl)) rfl ?_
    refine JQ.v (JV.fieldAddrK (o := 4) rfl Tryd.runUnderlying34 rfl Tryd.sizeOf3 rfl rfl) rfl ?_
    refine JQ.v (JV.load1 6 rfl rfl Tryd.isAgg3 (rfl)) rfl ?_
    refine JQ.v (JV.subI rfl rfl (by omega)) rfl ?_
    refine JQ.v (JV.move rfl) rfl ?_
    refine JQ.v (JV.subI rfl rfl (by omega)) rfl ?_
    refine JQ.v (JV.min2 rfl rfl) rfl ?_
    rw [life0_eq]
    refine JQ.v (JV.assign rfl) rfl ?_
    refine JQ.nil ?_
    refine JQ.n_then ?_
    refine JQ.seq ?_
    refine JQ.seq ?_
    refine JQ.region ?_
    refine JQ.v (JV.fieldAddrK (o := 1) rfl Tryd.runUnderlying26 rfl Tryd.sizeOf22 rfl rfl) rfl ?_
    refine JQ.v (JV.load1 1 rfl rfl Tryd.isAgg22 (rfl)) rfl ?_
    refine JQ.v (JV.fieldAddrK (o := 1) rfl Tryd.runUnderlying34 rfl Tryd.sizeOf3 rfl rfl) rfl ?_
    refine JQ.v (JV.load1 6 rfl rfl Tryd.isAgg3 (rfl)) rfl ?_
    rw [hty]
    refine JQ.v (JV.idxRo 101 rfl rfl rfl Tryd.runUnderlying22 Tryd.sizeOf51 (by decide) (by omega)) rfl ?_
    refine JQ.v (JV.fieldAddrRo 101 rfl rfl (by omega) (by decide) Tryd.runUnderlying51 rfl Tryd.sizeOf3 rfl) rfl ?_
    refine JQ.v (JV.loadR 101 rfl rfl Tryd.isAgg3 (tf2 ts (by omega))) rfl ?_
    refine JQ.v (JV.assign rfl) rfl ?_
    refine JQ.nil ?_
    refine JQ.n_then ?_
    refine JQ.seq ?_
    refine JQ.region ?_
    refine JQ.v (JV.move rfl) rfl ?_
    refine JQ.v (JV.gtr rfl rfl) rfl ?_
    refine JQ.nil ?_
    refine JQ.n_then ?_
    refine JQ.condP rfl (fun h54 => ?_) (fun h54 => ?_)
    · refine JQ.region ?_
      refine JQ.v (JV.move rfl) rfl ?_
      refine JQ.v (JV.move rfl) rfl ?_
      refine JQ.v (JV.min2 rfl rfl) rfl ?_
      rw [lifeK_pos hty h54]
      refine JQ.v (JV.assign rfl) rfl ?_
      refine JQ.nil ?_
      refine JQ.n_then ?_
      refine JQ.seq ?_
      refine JQ.region ?_
      refine JQ.v (JV.fieldAddrK (o := 1) rfl Tryd.runUnderlying34 rfl Tryd.sizeOf3 rfl rfl) rfl ?_
      refine JQ.v (JV.load1 6 rfl rfl Tryd.isAgg3 (rfl)) rfl ?_
      refine JQ.v (JV.fieldAddrK (o := 3) rfl Tryd.runUnderlying34 rfl Tryd.sizeOf3 rfl rfl) rfl ?_
      refine JQ.v (JV.load1 6 rfl rfl Tryd.isAgg3 (rfl)) rfl ?_
      refine JQ.v (JV.move rfl) rfl ?_
      refine JQ.v (JV.move rfl) rfl ?_
      refine JQ.v (JV.move rfl) rfl ?_
      refine JQ.v (JV.addI rfl rfl (by omega)) rfl ?_
      refine JQ.v (JV.fieldAddrK (o := 6) rfl Tryd.runUnderlying34 rfl Tryd.sizeOf3 rfl rfl) rfl ?_
      refine JQ.v (JV.load1 6 rfl rfl Tryd.isAgg3 (rfl)) rfl ?_
      refine JQ.v (JV.addI rfl rfl (by omega)) rfl ?_
      refine JQ.v (JV.move rfl) rfl ?_
      refine JQ.v (JV.build (v := (.agg (kc (fresh0 ts (Pl.getK ks id) now id)).toArray)) (evp_cons rfl (evp_cons rfl (evp_cons rfl (evp_cons rfl (evp_cons rfl (evp_cons rfl evp_nil)))))) (fun w => by kernel_rfl)) rfl ?_
      refine JQ.x (JO.alloc 7 (zs := (kc Pl.Key.zero)) Tryd.zeroValue34 rfl) rfl ?_
      intro i9_13
      refine JQ.s (JO.storeV 7 rfl rfl rfl (us := kc (fresh0 ts (Pl.getK ks id) now id)) rfl Tryd.sizeOf34 rfl rfl) ?_
      refine JQ.nil ?_
      refine JQ.n_then ?_
      refine JQ.seq ?_
      refine JQ.region ?_
      refine JQ.v (JV.loadV 3 rfl rfl Tryd.isAgg39 Tryd.sizeOf39 rfl) rfl ?_
      refine JQ.v (JV.callM Tryd.call35 (evs_cons rfl evs_nil) (fun w hw => next_spec sd hsd w (hw.reads (id := 902) rfl))) rfl ?_
      refine JQ.v (JV.move rfl) rfl ?_
      refine JQ.v (JV.extract rfl rfl) rfl ?_
      refine JQ.v (JV.extract rfl rfl) rfl ?_
      refine JQ.v (JV.fieldAddrK (o := 2) rfl Tryd.runUnderlying34 rfl Tryd.sizeOf9 rfl rfl) rfl ?_
      refine JQ.s (JO.store1 7 rfl rfl rfl rfl Tryd.sizeOf9 (Nat.le_of_ble_eq_true rfl)) ?_
      refine JQ.s (JO.storeV 3 rfl rfl rfl (us := [str (Pl.seed sd)]) rfl Tryd.sizeOf39 rfl rfl) ?_
      refine JQ.nil ?_
      refine JQ.n_then ?_
      refine JQ.seq ?_
      refine JQ.region ?_
      refine JQ.v (JV.fieldAddrK (o := 3) rfl Tryd.runUnderlying34 rfl Tryd.sizeOf3 rfl rfl) rfl ?_
      refine JQ.v (JV.load1 6 rfl rfl Tryd.isAgg3 (rfl)) rfl ?_
      refine JQ.v (JV.bitI (by decide) rfl rfl) rfl ?_
      refine JQ.v (JV.fieldAddrK (o := 3) rfl Tryd.runUnderlying34 rfl Tryd.sizeOf3 rfl rfl) rfl ?_
      refine JQ.s (JO.store1 6 rfl rfl rfl rfl Tryd.sizeOf3 (Nat.le_of_ble_eq_true rfl)) ?_
      refine JQ.nil ?_
      refine JQ.n_then ?_
      refine JQ.seq ?_
      refine JQ.seq ?_
      refine JQ.region ?_
      refine JQ.v (JV.loadV 2 rfl rfl Tryd.isAgg29 Tryd.sizeOf29 rfl) rfl ?_
      refine JQ.v (JV.loadV 6 rfl rfl Tryd.isAgg34 Tryd.sizeOf34 rfl) rfl ?_
      refine JQ.x (JO.callNewS 60 (fun v => .tuple #[.agg [iv n, v].toArray, iv 0]) Tryd.call36 (evs_cons rfl (evs_cons rfl evs_nil)) (fun w hw => put_key n kv ks hok id hk w (hw.reads (id := 100) rfl))) rfl ?_
      intro i12_2
      refine JQ.v (JV.move rfl) rfl ?_
      refine JQ.v (JV.extract rfl rfl) rfl ?_
      refine JQ.v (JV.extract rfl rfl) rfl ?_
      refine JQ.s (JO.storeV 2 rfl rfl rfl (us := [iv n, slv i12_2 (keys1 ks id).length]) rfl Tryd.sizeOf29 rfl rfl) ?_
      refine JQ.v (JV.assign rfl) rfl ?_
      refine JQ.nil ?_
      refine JQ.n_then ?_
      refine JQ.seq ?_
      refine JQ.region ?_
      refine JQ.v (JV.move rfl) rfl ?_
      refine JQ.v (JV.neqI rfl rfl) rfl ?_
      refine JQ.nil ?_
      refine JQ.n_then ?_
      refine JQ.condP rfl (fun h88 => ?_) (fun h88 => ?_)
      · exact absurd rfl h88
      · refine JQ.skip ?_
        refine JQ.n_then ?_
        refine JQ.seq ?_
        refine JQ.region ?_
        refine JQ.v (JV.loadV 2 rfl rfl Tryd.isAgg29 Tryd.sizeOf29 rfl) rfl ?_
        refine JQ.v (JV.loadV 7 rfl rfl Tryd.isAgg34 Tryd.sizeOf34 rfl) rfl ?_
        refine JQ.x (JO.callRowV 61 (fun v => .tuple #[.agg [iv (addT n (keys1 ks id) (fresh ts (Pl.getK ks id) now id sd)).next, v].toArray, iv (addI n), iv (addE n)]) Tryd.call37 (evs_cons rfl (evs_cons rfl evs_nil)) (fun w hw => add_key n _ ks hok ts rs now id sd hk hsd w (hw.reads (id := 60) rfl))) rfl ?_
        intro i15_2
        refine JQ.v (JV.move rfl) rfl ?_
        refine JQ.v (JV.extract rfl rfl) rfl ?_
        refine JQ.v (JV.extract rfl rfl) rfl ?_
        refine JQ.v (JV.extract rfl rfl) rfl ?_
        refine JQ.s (JO.storeV 2 rfl rfl rfl (us := [iv (addT n (keys1 ks id) (fresh ts (Pl.getK ks id) now id sd)).next, slv i15_2 (addT n (keys1 ks id) (fresh ts (Pl.getK ks id) now id sd)).keys.length]) rfl Tryd.sizeOf29 rfl rfl) ?_
        refine JQ.v (JV.assign rfl) rfl ?_
        refine JQ.v (JV.assign rfl) rfl ?_
        refine JQ.nil ?_
        refine JQ.n_then ?_
        refine JQ.seq ?_
        refine JQ.seq ?_
        refine JQ.region ?_
        refine JQ.v (JV.move rfl) rfl ?_
        refine JQ.v (JV.neqI rfl rfl) rfl ?_
        refine JQ.nil ?_
        refine JQ.n_then ?_
        refine JQ.condP rfl (fun h104 => ?_) (fun h104 => ?_)
        · refine JQ.seq ?_
          refine JQ.region ?_
          refine JQ.v (JV.move rfl) rfl ?_
          refine JQ.v (JV.move rfl) rfl ?_
          refine JQ.v (JV.callvM (fs := []) (us := []) rfl Tryd.call33 (evs_cons rfl evs_nil) (fun w hw => fail_pure (addE n) w)) rfl ?_
          refine JQ.v (JV.extract rfl rfl) rfl ?_
          refine JQ.v (JV.extract rfl rfl) rfl ?_
          refine JQ.v (JV.extract rfl rfl) rfl ?_
          refine JQ.v (JV.extract rfl rfl) rfl ?_
          refine JQ.s (JO.storeV 4 rfl rfl rfl (us := [iv 0, .slice none 0 0]) rfl Tryd.sizeOf29 rfl rfl) ?_
          refine JQ.s (JO.storeV 5 rfl rfl rfl (us := [str []]) rfl Tryd.sizeOf39 rfl rfl) ?_
          refine JQ.v (JV.assign rfl) rfl ?_
          refine JQ.v (JV.assign rfl) rfl ?_
          refine JQ.nil ?_
          refine JQ.n_then ?_
          refine JQ.ret ?_
          refine JQ.r_then ?_
          refine JQ.doneCCTT 4 5 Tryd.results13 rfl rfl rfl rfl rfl rfl Tryd.isAgg29 Tryd.isAgg39 Tryd.sizeOf29 Tryd.sizeOf39 rfl rfl ?_
          exact fun w hw => ⟨.slice none 0 0, by rw [keyT, keyS, keyI, keyE, if_neg h30, if_neg h30, if_neg h30, if_neg h30, if_pos h104, addT_top h104, addI_top h104]; first | done | rfl, by rw [keyT, if_neg h30, addT_top h104]; exact owns_knil _ _, hw.below⟩
        · refine JQ.skip ?_
          refine JQ.n_then ?_
          refine JQ.seq ?_
          refine JQ.any [_, _, _, _, _, _, _] [fun _ => [], fun _ => [], fun _ => [], _, _, fun _ => [], fun _ => []] [⟨[2], [], [], []⟩, ⟨[3], [], [], []⟩, ⟨[], [], [], []⟩, ⟨[], [4], [], [0]⟩, ⟨[], [5], [], [0, 1, 3]⟩, ⟨[], [], [], [0, 1, 2, 3, 4]⟩, ⟨[], [], [], [0, 1, 2, 3, 4, 5]⟩] Tryd.mixed rfl (by kernel_rfl) ⟨Ob.v rfl (fun _ _ h => by cases h) (fun _ _ _ => rfl) (fun e L' hL => JV.loadV 2 rfl ((hL 2 (by decide)).trans rfl) Tryd.isAgg29 Tryd.sizeOf29 rfl),
                        Ob.v rfl (fun _ _ h => by cases h) (fun _ _ _ => rfl) (fun e L' hL => JV.loadV 3 rfl ((hL 3 (by decide)).trans rfl) Tryd.isAgg39 Tryd.sizeOf39 rfl),
                        Ob.v rfl (fun _ _ h => by cases h) (fun _ _ _ => rfl) (fun e L' hL => JV.move rfl),
                        Ob.s 4 rfl (fun _ _ h => by cases h) (fun _ _ _ => rfl) (fun e L' hL => JO.storeV 4 rfl ((hL 4 (by decide)).trans rfl) rfl (us := [iv (addT n (keys1 ks id) (fresh ts (Pl.getK ks id) now id sd)).next, slv i15_2 (addT n (keys1 ks id) (fresh ts (Pl.getK ks id) now id sd)).keys.length]) rfl Tryd.sizeOf29 rfl rfl),
                        Ob.s 5 rfl (fun _ _ h => by cases h) (fun _ _ _ => rfl) (fun e L' hL => JO.storeV 5 rfl ((hL 5 (by decide)).trans rfl) rfl (us := [str (Pl.seed sd)]) rfl Tryd.sizeOf39 rfl rfl),
                        Ob.v rfl (fun _ _ h => by cases h) (fun _ _ _ => rfl) (fun e L' hL => JV.assign rfl),
                        Ob.v rfl (fun _ _ h => by cases h) (fun _ _ _ => rfl) (fun e L' hL => JV.assign rfl), trivial⟩ (fun ev18 => ?_)
          simp only [endF, endL, putF, List.nil_append, List.cons_append]
          refine JQ.n_then ?_
          refine JQ.ret ?_
          refine JQ.doneCCTT 4 5 Tryd.results13 rfl rfl rfl rfl rfl rfl Tryd.isAgg29 Tryd.isAgg39 Tryd.sizeOf29 Tryd.sizeOf39 rfl rfl ?_
          exact fun w hw => ⟨_, by rw [keyT, keyS, keyI, keyE, if_neg h30, if_neg h30, if_neg h30, if_neg h30, if_neg h104, Decidable.not_not.1 h104]; first | done | rfl, by rw [keyT, if_neg h30]; exact hw.ok 61 _ rfl, hw.below⟩
    · rw [lifeK_neg hty h54]
      refine JQ.skip ?_
      refine JQ.n_then ?_
      refine JQ.seq ?_
      refine JQ.region ?_
      refine JQ.v (JV.fieldAddrK (o := 1) rfl Tryd.runUnderlying34 rfl Tryd.sizeOf3 rfl rfl) rfl ?_
      refine JQ.v (JV.load1 6 rfl rfl Tryd.isAgg3 (rfl)) rfl ?_
      refine JQ.v (JV.fieldAddrK (o := 3) rfl Tryd.runUnderlying34 rfl Tryd.sizeOf3 rfl rfl) rfl ?_
      refine JQ.v (JV.load1 6 rfl rfl Tryd.isAgg3 (rfl)) rfl ?_
      refine JQ.v (JV.move rfl) rfl ?_
      refine JQ.v (JV.move rfl) rfl ?_
      refine JQ.v (JV.move rfl) rfl ?_
      refine JQ.v (JV.addI rfl rfl (by omega)) rfl ?_
      refine JQ.v (JV.fieldAddrK (o := 6) rfl Tryd.runUnderlying34 rfl Tryd.sizeOf3 rfl rfl) rfl ?_
      refine JQ.v (JV.load1 6 rfl rfl Tryd.isAgg3 (rfl)) rfl ?_
      refine JQ.v (JV.addI rfl rfl (by omega)) rfl ?_
      refine JQ.v (JV.move rfl) rfl ?_
      refine JQ.v (JV.build (v := (.agg (kc (fresh0 ts (Pl.getK ks id) now id)).toArray)) (evp_cons rfl (evp_cons rfl (evp_cons rfl (evp_cons rfl (evp_cons rfl (evp_cons rfl evp_nil)))))) (fun w => by kernel_rfl)) rfl ?_
      refine JQ.x (JO.alloc 7 (zs := (kc Pl.Key.zero)) Tryd.zeroValue34 rfl) rfl ?_
      intro i9_13
      refine JQ.s (JO.storeV 7 rfl rfl rfl (us := kc (fresh0 ts (Pl.getK ks id) now id)) rfl Tryd.sizeOf34 rfl rfl) ?_
      refine JQ.nil ?_
      refine JQ.n_then ?_
      refine JQ.seq ?_
      refine JQ.region ?_
      refine JQ.v (JV.loadV 3 rfl rfl Tryd.isAgg39 Tryd.sizeOf39 rfl) rfl ?_
      refine JQ.v (JV.callM Tryd.call35 (evs_cons rfl evs_nil) (fun w hw => next_spec sd hsd w (hw.reads (id := 902) rfl))) rfl ?_
      refine JQ.v (JV.move rfl) rfl ?_
      refine JQ.v (JV.extract rfl rfl) rfl ?_
      refine JQ.v (JV.extract rfl rfl) rfl ?_
      refine JQ.v (JV.fieldAddrK (o := 2) rfl Tryd.runUnderlying34 rfl Tryd.sizeOf9 rfl rfl) rfl ?_
      refine JQ.s (JO.store1 7 rfl rfl rfl rfl Tryd.sizeOf9 (Nat.le_of_ble_eq_true rfl)) ?_
      refine JQ.s (JO.storeV 3 rfl rfl rfl (us := [str (Pl.seed sd)]) rfl Tryd.sizeOf39 rfl rfl) ?_
      refine JQ.nil ?_
      refine JQ.n_then ?_
      refine JQ.seq ?_
      refine JQ.region ?_
      refine JQ.v (JV.fieldAddrK (o := 3) rfl Tryd.runUnderlying34 rfl Tryd.sizeOf3 rfl rfl) rfl ?_
      refine JQ.v (JV.load1 6 rfl rfl Tryd.isAgg3 (rfl)) rfl ?_
      refine JQ.v (JV.bitI (by decide) rfl rfl) rfl ?_
      refine JQ.v (JV.fieldAddrK (o := 3) rfl Tryd.runUnderlying34 rfl Tryd.sizeOf3 rfl rfl) rfl ?_
      refine JQ.s (JO.store1 6 rfl rfl rfl rfl Tryd.sizeOf3 (Nat.le_of_ble_eq_true rfl)) ?_
      refine JQ.nil ?_
      refine JQ.n_then ?_
      refine JQ.seq ?_
      refine JQ.seq ?_
      refine JQ.region ?_
      refine JQ.v (JV.loadV 2 rfl rfl Tryd.isAgg29 Tryd.sizeOf29 rfl) rfl ?_
      refine JQ.v (JV.loadV 6 rfl rfl Tryd.isAgg34 Tryd.sizeOf34 rfl) rfl ?_
      refine JQ.x (JO.callNewS 60 (fun v => .tuple #[.agg [iv n, v].toArray, iv 0]) Tryd.call36 (evs_cons rfl (evs_cons rfl evs_nil)) (fun w hw => put_key n kv ks hok id hk w (hw.reads (id := 100) rfl))) rfl ?_
      intro i12_2
      refine JQ.v (JV.move rfl) rfl ?_
      refine JQ.v (JV.extract rfl rfl) rfl ?_
      refine JQ.v (JV.extract rfl rfl) rfl ?_
      refine JQ.s (JO.storeV 2 rfl rfl rfl (us := [iv n, slv i12_2 (keys1 ks id).length]) rfl Tryd.sizeOf29 rfl rfl) ?_
      refine JQ.v (JV.assign rfl) rfl ?_
      refine JQ.nil ?_
      refine JQ.n_then ?_
      refine JQ.seq ?_
      refine JQ.region ?_
      refine JQ.v (JV.move rfl) rfl ?_
      refine JQ.v (JV.neqI rfl rfl) rfl ?_
      refine JQ.nil ?_
      refine JQ.n_then ?_
      refine JQ.condP rfl (fun h88 => ?_) (fun h88 => ?_)
      · exact absurd rfl h88
      · refine JQ.skip ?_
        refine JQ.n_then ?_
        refine JQ.seq ?_
        refine JQ.region ?_
        refine JQ.v (JV.loadV 2 rfl rfl Tryd.isAgg29 Tryd.sizeOf29 rfl) rfl ?_
        refine JQ.v (JV.loadV 7 rfl rfl Tryd.isAgg34 Tryd.sizeOf34 rfl) rfl ?_
        refine JQ.x (JO.callRowV 61 (fun v => .tuple #[.agg [iv (addT n (keys1 ks id) (fresh ts (Pl.getK ks id) now id sd)).next, v].toArray, iv (addI n), iv (addE n)]) Tryd.call37 (evs_cons rfl (evs_cons rfl evs_nil)) (fun w hw => add_key n _ ks hok ts rs now id sd hk hsd w (hw.reads (id := 60) rfl))) rfl ?_
        intro i15_2
        refine JQ.v (JV.move rfl) rfl ?_
        refine JQ.v (JV.extract rfl rfl) rfl ?_
        refine JQ.v (JV.extract rfl rfl) rfl ?_
        refine JQ.v (JV.extract rfl rfl) rfl ?_
        refine JQ.s (JO.storeV 2 rfl rfl rfl (us := [iv (addT n (keys1 ks id) (fresh ts (Pl.getK ks id) now id sd)).next, slv i15_2 (addT n (keys1 ks id) (fresh ts (Pl.getK ks id) now id sd)).keys.length]) rfl Tryd.sizeOf29 rfl rfl) ?_
        refine JQ.v (JV.assign rfl) rfl ?_
        refine JQ.v (JV.assign rfl) rfl ?_
        refine JQ.nil ?_
        refine JQ.n_then ?_
        refine JQ.seq ?_
        refine JQ.seq ?_
        refine JQ.region ?_
        refine JQ.v (JV.move rfl) rfl ?_
        refine JQ.v (JV.neqI rfl rfl) rfl ?_
        refine JQ.nil ?_
        refine JQ.n_then ?_
        refine JQ.condP rfl (fun h104 => ?_) (fun h104 => ?_)
        · refine JQ.seq ?_
          refine JQ.region ?_
          refine JQ.v (JV.move rfl) rfl ?_
          refine JQ.v (JV.move rfl) rfl ?_
          refine JQ.v (JV.callvM (fs := []) (us := []) rfl Tryd.call33 (evs_cons rfl evs_nil) (fun w hw => fail_pure (addE n) w)) rfl ?_
          refine JQ.v (JV.extract rfl rfl) rfl ?_
          refine JQ.v (JV.extract rfl rfl) rfl ?_
          refine JQ.v (JV.extract rfl rfl) rfl ?_
          refine JQ.v (JV.extract rfl rfl) rfl ?_
          refine JQ.s (JO.storeV 4 rfl rfl rfl (us := [iv 0, .slice none 0 0]) rfl Tryd.sizeOf29 rfl rfl) ?_
          refine JQ.s (JO.storeV 5 rfl rfl rfl (us := [str []]) rfl Tryd.sizeOf39 rfl rfl) ?_
          refine JQ.v (JV.assign rfl) rfl ?_
          refine JQ.v (JV.assign rfl) rfl ?_
          refine JQ.nil ?_
          refine JQ.n_then ?_
          refine JQ.ret ?_
          refine JQ.r_then ?_
          refine JQ.doneCCTT 4 5 Tryd.results13 rfl rfl rfl rfl rfl rfl Tryd.isAgg29 Tryd.isAgg39 Tryd.sizeOf29 Tryd.sizeOf39 rfl rfl ?_
          exact fun w hw => ⟨.slice none 0 0, by rw [keyT, keyS, keyI, keyE, if_neg h30, if_neg h30, if_neg h30, if_neg h30, if_pos h104, addT_top h104, addI_top h104]; first | done | rfl, by rw [keyT, if_neg h30, addT_top h104]; exact owns_knil _ _, hw.below⟩
        · refine JQ.skip ?_
          refine JQ.n_then ?_
          refine JQ.seq ?_
          refine JQ.any [_, _, _, _, _, _, _] [fun _ => [], fun _ => [], fun _ => [], _, _, fun _ => [], fun _ => []] [⟨[2], [], [], []⟩, ⟨[3], [], [], []⟩, ⟨[], [], [], []⟩, ⟨[], [4], [], [0]⟩, ⟨[], [5], [], [0, 1, 3]⟩, ⟨[], [], [], [0, 1, 2, 3, 4]⟩, ⟨[], [], [], [0, 1, 2, 3, 4, 5]⟩] Tryd.mixed rfl (by kernel_rfl) ⟨Ob.v rfl (fun _ _ h => by cases h) (fun _ _ _ => rfl) (fun e L' hL => JV.loadV 2 rfl ((hL 2 (by decide)).trans rfl) Tryd.isAgg29 Tryd.sizeOf29 rfl),
                        Ob.v rfl (fun _ _ h => by cases h) (fun _ _ _ => rfl) (fun e L' hL => JV.loadV 3 rfl ((hL 3 (by decide)).trans rfl) Tryd.isAgg39 Tryd.sizeOf39 rfl),
                        Ob.v rfl (fun _ _ h => by cases h) (fun _ _ _ => rfl) (fun e L' hL => JV.move rfl),
                        Ob.s 4 rfl (fun _ _ h => by cases h) (fun _ _ _ => rfl) (fun e L' hL => JO.storeV 4 rfl ((hL 4 (by decide)).trans rfl) rfl (us := [iv (addT n (keys1 ks id) (fresh ts (Pl.getK ks id) now id sd)).next, slv i15_2 (addT n (keys1 ks id) (fresh ts (Pl.getK ks id) now id sd)).keys.length]) rfl Tryd.sizeOf29 rfl rfl),
                        Ob.s 5 rfl (fun _ _ h => by cases h) (fun _ _ _ => rfl) (fun e L' hL => JO.storeV 5 rfl ((hL 5 (by decide)).trans rfl) rfl (us := [str (Pl.seed sd)]) rfl Tryd.sizeOf39 rfl rfl),
                        Ob.v rfl (fun _ _ h => by cases h) (fun _ _ _ => rfl) (fun e L' hL => JV.assign rfl),
                        Ob.v rfl (fun _ _ h => by cases h) (fun _ _ _ => rfl) (fun e L' hL => JV.assign rfl), trivial⟩ (fun ev18 => ?_)
          simp only [endF, endL, putF, List.nil_append, List.cons_append]
          refine JQ.n_then ?_
          refine JQ.ret ?_
          refine JQ.doneCCTT 4 5 Tryd.results13 rfl rfl rfl rfl rfl rfl Tryd.isAgg29 Tryd.isAgg39 Tryd.sizeOf29 Tryd.sizeOf39 rfl rfl ?_
          exact fun w hw => ⟨_, by rw [keyT, keyS, keyI, keyE, if_neg h30, if_neg h30, if_neg h30, if_neg h30, if_neg h104, Decidable.not_not.1 h104]; first | done | rfl, by rw [keyT, if_neg h30]; exact hw.ok 61 _ rfl, hw.below⟩

set_option maxHeartbeats 1000000 in
theorem rkey_spec (pn : List UInt8) (tv rv qv : Value) (ts : List Pl.Typ) (rs : List Pl.Rule) (htl : ts.length ≤ 1048576) (hrl : rs.length ≤ 1048576) (n : Int) (kv : Value) (ks : List Pl.Key) (hok : tabOk n ks) (sd : List UInt8) (hsd : sd.length ≤ 1048576) (now id : Int) (w : World) (ht : Reads w tv 3 ts.length (tcs ts)) (hru : Reads w rv 3 rs.length (rcs rs)) (hr : Reads w kv 9 ks.length (kcs ks)) (hR : Gl 1 (Pl.K.map u32) w) :
    Calls Tryd.prog 18 #[.agg [str pn, tv, rv, qv].toArray, .agg [iv n, kv].toArray, .agg [str sd].toArray, iv now, iv id] w fun e w' => ∃ v, e = .returned (.agg [iv (keyT ts rs n ks now id sd).next, v, str (keyS ts rs n ks now id sd), iv (keyI ts rs n ks now id), .slice none 0 0, iv (keyE ts rs n ks now id)].toArray) ∧ w'.ownsRow w.heap.size 34 9 v (keyT ts rs n ks now id sd).keys.length (kcs (keyT ts rs n ks now id sd).keys) ∧ Below w.heap.size w w' := by
  
  refine enterA (vs := [_, _, _, _, _]) Tryd.func18 rfl 101 rfl [(901, .ro (gv 1 64) 1 64 (Pl.K.map u32)), (101, .ro tv 3 ts.length (tcs ts)), (102, .ro rv 3 rs.length (rcs rs)), (100, .ro kv 9 ks.length (kcs ks))] ((((MemOk.start1 100 hr).addRo 102 hru (ro_cons ro_nil)).addRo 101 ht (ro_cons (ro_cons ro_nil))).addRo 901 hR (ro_cons (ro_cons (ro_cons ro_nil)))) ?_
  refine JQ.seq ?_
  refine JQ.region ?_
  refine JQ.x (JO.box 1 rfl rfl) rfl ?_
  intro i0_0
  refine JQ.x (JO.box 2 rfl rfl) rfl ?_
  intro i0_1
  refine JQ.x (JO.box 3 rfl rfl) rfl ?_
  intro i0_2
  refine JQ.x (JO.alloc 4 (zs := [iv 0, .slice none 0 0, str [], iv 0, .slice none 0 0, iv 0]) Tryd.zeroValue57 rfl) rfl ?_
  intro i0_3
  refine JQ.nil ?_
  refine JQ.n_then ?_
  refine JQ.seq ?_
  refine JQ.region ?_
  refine JQ.v (JV.loadV 1 rfl rfl Tryd.isAgg26 Tryd.sizeOf26 rfl) rfl ?_
  refine JQ.v (JV.loadV 2 rfl rfl Tryd.isAgg29 Tryd.sizeOf29 rfl) rfl ?_
  refine JQ.v (JV.move rfl) rfl ?_
  refine JQ.v (JV.move rfl) rfl ?_
  refine JQ.v (JV.callM Tryd.call42 (evs_cons rfl (evs_cons rfl (evs_cons rfl (evs_cons rfl evs_nil)))) (fun w hw => fits_spec pn tv rv qv ts rs htl hrl n kv ks hok now id w (hw.reads (id := 101) rfl) (hw.reads (id := 102) rfl) (hw.reads (id := 100) rfl))) rfl ?_
  refine JQ.v (JV.assign rfl) rfl ?_
  refine JQ.nil ?_
  refine JQ.n_then ?_
  refine JQ.seq ?_
  refine JQ.seq ?_
  refine JQ.region ?_
  refine JQ.v (JV.move rfl) rfl ?_
  refine JQ.v (JV.neqI rfl rfl) rfl ?_
  refine JQ.nil ?_
  refine JQ.n_then ?_
  refine JQ.condP rfl (fun h28 => ?_) (fun h28 => ?_)
  · refine JQ.seq ?_
    refine JQ.region ?_
    refine JQ.v (JV.move rfl) rfl ?_
    refine JQ.v (JV.build (v := .agg [iv 0, .slice none 0 0, str [], iv 0, .slice none 0 0, iv (kchk ts rs ks now id)].toArray) (evp_cons rfl evp_nil) (fun w => by kernel_rfl)) rfl ?_
    refine JQ.s (JO.storeV 4 rfl rfl rfl rfl Tryd.sizeOf57 rfl rfl) ?_
    refine JQ.nil ?_
    refine JQ.n_then ?_
    refine JQ.ret ?_
    refine JQ.r_then ?_
    refine JQ.doneC 4 Tryd.results18 rfl rfl Tryd.isAgg57 Tryd.sizeOf57 rfl ?_
    exact fun w hw => ⟨.slice none 0 0, by rw [keyT, keyS, keyI, keyE, if_pos h28, if_pos h28, if_pos h28, if_pos h28]; first | done | rfl, by rw [keyT, if_pos h28]; exact owns_knil _ _, hw.below⟩
  · have hk := kchk_ok hok (Decidable.not_not.1 h28)
    obtain ⟨tn, htn, hty⟩ := isTy_nat hk.2.2.2.2.1
    have hv := vkR_iff.1 hk.2.2.1
    have hlk := life_ok ts hk.2.2.1 hk.1 hk.2.1.2
    have hnow := hk.1
    have hver := hk.2.2.2.2.2.1
    refine JQ.skip ?_
    refine JQ.n_then ?_
    refine JQ.seq ?_
    refine JQ.region ?_
    refine JQ.v (JV.loadV 2 rfl rfl Tryd.isAgg29 Tryd.sizeOf29 rfl) rfl ?_
    refine JQ.v (JV.move rfl) rfl ?_
    refine JQ.v (JV.callM Tryd.call43 (evs_cons rfl (evs_cons rfl evs_nil)) (fun w hw => rget_spec n kv ks (by have := hok.1; omega) id w (hw.reads (id := 100) rfl))) rfl ?_
    refine JQ.v (JV.move rfl) rfl ?_
    refine JQ.v (JV.extract rfl rfl) rfl ?_
    refine JQ.v (JV.extract rfl rfl) rfl ?_
    refine JQ.x (JO.alloc 5 (zs := (kc Pl.Key.zero)) Tryd.zeroValue34 rfl) rfl ?_
    intro i4_6
    refine JQ.s (JO.storeV 5 rfl rfl rfl (us := kc (Pl.getK ks id)) rfl Tryd.sizeOf34 rfl rfl) ?_
    refine JQ.v (JV.assign rfl) rfl ?_
    refine JQ.nil ?_
    refine JQ.n_then ?_
    refine JQ.seq ?_
    refine JQ.region ?_
    refine JQ.v (JV.loadV 3 rfl rfl Tryd.isAgg55 Tryd.sizeOf55 rfl) rfl ?_
    refine JQ.v (JV.callM Tryd.call44 (evs_cons rfl evs_nil) (fun w hw => rnext_spec sd hsd w (hw.reads (id := 901) rfl))) rfl ?_
    refine JQ.v (JV.move rfl) rfl ?_
    refine JQ.v (JV.extract rfl rfl) rfl ?_
    refine JQ.v (JV.extract rfl rfl) rfl ?_
    refine JQ.x (JO.alloc 6 (zs := [str []]) Tryd.zeroValue55 rfl) rfl ?_
    intro i5_5
    refine JQ.v (JV.assign rfl) rfl ?_
    refine JQ.s (JO.storeV 6 rfl rfl rfl (us := [str (Pl.seed sd)]) rfl Tryd.sizeOf55 rfl rfl) ?_
    refine JQ.nil ?_
    refine JQ.n_then ?_
    refine JQ.seq ?_
    refine JQ.region ?_
    refine JQ.v (JV.fieldAddrK (o := 5) rfl Tryd.runUnderlying34 rfl Tryd.sizeOf3 rfl rfl) rfl ?_
    refine JQ.v (JV.load1 5 rfl rfl Tryd.isAgg3 (rfl)) rfl ?_
    refine JQ.v (JV.fieldAddrK (o := 4) rfl Tryd.runUnderlying34 rfl Tryd.sizeOf3 rfl rfl) rfl ?_
    refine JQ.v (JV.load1 5 rfl rfl Tryd.isAgg3 (rfl)) rfl ?_
    refine JQ.v (JV.subI rfl rfl (by omega)) rfl ?_
    refine JQ.v (JV.move rfl) rfl ?_
    refine JQ.v (JV.subI rfl rfl (by omega)) rfl ?_
    refine JQ.v (JV.min2 rfl rfl) rfl ?_
    rw [life0_eq]
    refine JQ.v (JV.assign rfl) rfl ?_
    refine JQ.nil ?_
    refine JQ.n_then ?_
    refine JQ.seq ?_
    refine JQ.region ?_
    refine JQ.v (JV.fieldAddrK (o := 1) rfl Tryd.runUnderlying26 rfl Tryd.sizeOf22 rfl rfl) rfl ?_
    refine JQ.v (JV.load1 1 rfl rfl Tryd.isAgg22 (rfl)) rfl ?_
    refine JQ.v (JV.fieldAddrK (o := 1) rfl Tryd.runUnderlying34 rfl Tryd.sizeOf3 rfl rfl) rfl ?_
    refine JQ.v (JV.load1 5 rfl rfl Tryd.isAgg3 (rfl)) rfl ?_
    rw [hty]
    refine JQ.v (JV.idxRo 101 rfl rfl rfl Tryd.runUnderlying22 Tryd.sizeOf51 (by decide) (by omega)) rfl ?_
    refine JQ.v (JV.fieldAddrRo 101 rfl rfl (by omega) (by decide) Tryd.runUnderlying51 rfl Tryd.sizeOf3 rfl) rfl ?_
    refine JQ.v (JV.loadR 101 rfl rfl Tryd.isAgg3 (tf2 ts (by omega))) rfl ?_
    refine JQ.v (JV.assign rfl) rfl ?_
    refine JQ.nil ?_
    refine JQ.n_then ?_
    refine JQ.seq ?_
    refine JQ.seq ?_
    refine JQ.region ?_
    refine JQ.v (JV.move rfl) rfl ?_
    refine JQ.v (JV.gtr rfl rfl) rfl ?_
    refine JQ.nil ?_
    refine JQ.n_then ?_
    refine JQ.condP rfl (fun h58 => ?_) (fun h58 => ?_)
    · refine JQ.region ?_
      refine JQ.v (JV.move rfl) rfl ?_
      refine JQ.v (JV.move rfl) rfl ?_
      refine JQ.v (JV.min2 rfl rfl) rfl ?_
      rw [lifeK_pos hty h58]
      refine JQ.v (JV.assign rfl) rfl ?_
      refine JQ.nil ?_
      refine JQ.n_then ?_
      refine JQ.seq ?_
      refine JQ.region ?_
      refine JQ.v (JV.fieldAddrK (o := 1) rfl Tryd.runUnderlying34 rfl Tryd.sizeOf3 rfl rfl) rfl ?_
      refine JQ.v (JV.load1 5 rfl rfl Tryd.isAgg3 (rfl)) rfl ?_
      refine JQ.v (JV.move rfl) rfl ?_
      refine JQ.v (JV.fieldAddrK (o := 3) rfl Tryd.runUnderlying34 rfl Tryd.sizeOf3 rfl rfl) rfl ?_
      refine JQ.v (JV.load1 5 rfl rfl Tryd.isAgg3 (rfl)) rfl ?_
      refine JQ.v (JV.move rfl) rfl ?_
      refine JQ.v (JV.move rfl) rfl ?_
      refine JQ.v (JV.move rfl) rfl ?_
      refine JQ.v (JV.addI rfl rfl (by omega)) rfl ?_
      refine JQ.v (JV.fieldAddrK (o := 6) rfl Tryd.runUnderlying34 rfl Tryd.sizeOf3 rfl rfl) rfl ?_
      refine JQ.v (JV.load1 5 rfl rfl Tryd.isAgg3 (rfl)) rfl ?_
      refine JQ.v (JV.addI rfl rfl (by omega)) rfl ?_
      refine JQ.v (JV.move rfl) rfl ?_
      refine JQ.v (JV.build (v := (.agg (kc (fresh ts (Pl.getK ks id) now id sd)).toArray)) (evp_cons rfl (evp_cons rfl (evp_cons rfl (evp_cons rfl (evp_cons rfl (evp_cons rfl (evp_cons rfl evp_nil))))))) (fun w => by kernel_rfl)) rfl ?_
      refine JQ.x (JO.alloc 7 (zs := (kc Pl.Key.zero)) Tryd.zeroValue34 rfl) rfl ?_
      intro i10_14
      refine JQ.s (JO.storeV 7 rfl rfl rfl (us := kc (fresh ts (Pl.getK ks id) now id sd)) rfl Tryd.sizeOf34 rfl rfl) ?_
      refine JQ.nil ?_
      refine JQ.n_then ?_
      refine JQ.seq ?_
      refine JQ.region ?_
      refine JQ.v (JV.fieldAddrK (o := 3) rfl Tryd.runUnderlying34 rfl Tryd.sizeOf3 rfl rfl) rfl ?_
      refine JQ.v (JV.load1 5 rfl rfl Tryd.isAgg3 (rfl)) rfl ?_
      refine JQ.v (JV.bitI (by decide) rfl rfl) rfl ?_
      refine JQ.v (JV.fieldAddrK (o := 3) rfl Tryd.runUnderlying34 rfl Tryd.sizeOf3 rfl rfl) rfl ?_
      refine JQ.s (JO.store1 5 rfl rfl rfl rfl Tryd.sizeOf3 (Nat.le_of_ble_eq_true rfl)) ?_
      refine JQ.nil ?_
      refine JQ.n_then ?_
      refine JQ.seq ?_
      refine JQ.region ?_
      refine JQ.v (JV.loadV 2 rfl rfl Tryd.isAgg29 Tryd.sizeOf29 rfl) rfl ?_
      refine JQ.v (JV.loadV 5 rfl rfl Tryd.isAgg34 Tryd.sizeOf34 rfl) rfl ?_
      refine JQ.x (JO.callNewS 60 (fun v => .tuple #[.agg [iv n, v].toArray, iv 0]) Tryd.call45 (evs_cons rfl (evs_cons rfl evs_nil)) (fun w hw => rput_key n kv ks hok id hk w (hw.reads (id := 100) rfl))) rfl ?_
      intro i12_2
      refine JQ.v (JV.move rfl) rfl ?_
      refine JQ.v (JV.extract rfl rfl) rfl ?_
      refine JQ.v (JV.extract rfl rfl) rfl ?_
      refine JQ.x (JO.alloc 8 (zs := [iv 0, .slice none 0 0]) Tryd.zeroValue29 rfl) rfl ?_
      intro i12_6
      refine JQ.s (JO.storeV 8 rfl rfl rfl (us := [iv n, slv i12_2 (keys1 ks id).length]) rfl Tryd.sizeOf29 rfl rfl) ?_
      refine JQ.v (JV.assign rfl) rfl ?_
      refine JQ.nil ?_
      refine JQ.n_then ?_
      refine JQ.seq ?_
      refine JQ.region ?_
      refine JQ.v (JV.loadV 8 rfl rfl Tryd.isAgg29 Tryd.sizeOf29 rfl) rfl ?_
      refine JQ.v (JV.loadV 7 rfl rfl Tryd.isAgg34 Tryd.sizeOf34 rfl) rfl ?_
      refine JQ.x (JO.callRowV 61 (fun v => .agg [iv (addT n (keys1 ks id) (fresh ts (Pl.getK ks id) now id sd)).next, v, iv (addI n), iv (addE n)].toArray) Tryd.call46 (evs_cons rfl (evs_cons rfl evs_nil)) (fun w hw => radd_key n _ ks hok ts rs now id sd hk hsd w (hw.reads (id := 60) rfl))) rfl ?_
      intro i13_2
      refine JQ.x (JO.alloc 9 (zs := [iv 0, .slice none 0 0, iv 0, iv 0]) Tryd.zeroValue93 rfl) rfl ?_
      intro i13_3
      refine JQ.s (JO.storeV 9 rfl rfl rfl (us := [iv (addT n (keys1 ks id) (fresh ts (Pl.getK ks id) now id sd)).next, slv i13_2 (addT n (keys1 ks id) (fresh ts (Pl.getK ks id) now id sd)).keys.length, iv (addI n), iv (addE n)]) rfl Tryd.sizeOf93 rfl rfl) ?_
      refine JQ.nil ?_
      refine JQ.n_then ?_
      refine JQ.seq ?_
      refine JQ.seq ?_
      refine JQ.region ?_
      refine JQ.v (JV.fieldAddrK (o := 3) rfl Tryd.runUnderlying93 rfl Tryd.sizeOf35 rfl rfl) rfl ?_
      refine JQ.v (JV.load1 9 rfl rfl Tryd.isAgg35 (rfl)) rfl ?_
      refine JQ.v (JV.neqI rfl rfl) rfl ?_
      refine JQ.nil ?_
      refine JQ.n_then ?_
      refine JQ.condP rfl (fun h91 => ?_) (fun h91 => ?_)
      · refine JQ.seq ?_
        refine JQ.region ?_
        refine JQ.v (JV.fieldAddrK (o := 3) rfl Tryd.runUnderlying93 rfl Tryd.sizeOf35 rfl rfl) rfl ?_
        refine JQ.v (JV.load1 9 rfl rfl Tryd.isAgg35 (rfl)) rfl ?_
        refine JQ.v (JV.build (v := .agg [iv 0, .slice none 0 0, str [], iv 0, .slice none 0 0, iv (addE n)].toArray) (evp_cons rfl evp_nil) (fun w => by kernel_rfl)) rfl ?_
        refine JQ.s (JO.storeV 4 rfl rfl rfl rfl Tryd.sizeOf57 rfl rfl) ?_
        refine JQ.nil ?_
        refine JQ.n_then ?_
        refine JQ.ret ?_
        refine JQ.r_then ?_
        refine JQ.doneC 4 Tryd.results18 rfl rfl Tryd.isAgg57 Tryd.sizeOf57 rfl ?_
        exact fun w hw => ⟨.slice none 0 0, by rw [keyT, keyS, keyI, keyE, if_neg h28, if_neg h28, if_neg h28, if_neg h28, if_pos h91, addT_top h91, addI_top h91]; first | done | rfl, by rw [keyT, if_neg h28, addT_top h91]; exact owns_knil _ _, hw.below⟩
      · refine JQ.skip ?_
        refine JQ.n_then ?_
        refine JQ.seq ?_
        refine JQ.region ?_
        refine JQ.v (JV.fieldAddrK (o := 0) rfl Tryd.runUnderlying93 rfl Tryd.sizeOf29 rfl rfl) rfl ?_
        refine JQ.v (JV.loadA 9 rfl rfl Tryd.isAgg29 Tryd.sizeOf29 rfl rfl) rfl ?_
        refine JQ.v (JV.loadV 6 rfl rfl Tryd.isAgg55 Tryd.sizeOf55 rfl) rfl ?_
        refine JQ.v (JV.fieldAddrK (o := 2) rfl Tryd.runUnderlying93 rfl Tryd.sizeOf3 rfl rfl) rfl ?_
        refine JQ.v (JV.load1 9 rfl rfl Tryd.isAgg3 (rfl)) rfl ?_
        refine JQ.v (JV.build (v := .agg [iv (addT n (keys1 ks id) (fresh ts (Pl.getK ks id) now id sd)).next, slv i13_2 (addT n (keys1 ks id) (fresh ts (Pl.getK ks id) now id sd)).keys.length, str (Pl.seed sd), iv (addI n), .slice none 0 0, iv 0].toArray) (evp_cons rfl (evp_cons rfl (evp_cons rfl evp_nil))) (fun w => by kernel_rfl)) rfl ?_
        refine JQ.s (JO.storeV 4 rfl rfl rfl rfl Tryd.sizeOf57 rfl rfl) ?_
        refine JQ.nil ?_
        refine JQ.n_then ?_
        refine JQ.ret ?_
        refine JQ.doneC 4 Tryd.results18 rfl rfl Tryd.isAgg57 Tryd.sizeOf57 rfl ?_
        exact fun w hw => ⟨_, by rw [keyT, keyS, keyI, keyE, if_neg h28, if_neg h28, if_neg h28, if_neg h28, if_neg h91, Decidable.not_not.1 h91]; first | done | rfl, by rw [keyT, if_neg h28]; exact hw.ok 61 _ rfl, hw.below⟩
    · rw [lifeK_neg hty h58]
      refine JQ.skip ?_
      refine JQ.n_then ?_
      refine JQ.seq ?_
      refine JQ.region ?_
      refine JQ.v (JV.fieldAddrK (o := 1) rfl Tryd.runUnderlying34 rfl Tryd.sizeOf3 rfl rfl) rfl ?_
      refine JQ.v (JV.load1 5 rfl rfl Tryd.isAgg3 (rfl)) rfl ?_
      refine JQ.v (JV.move rfl) rfl ?_
      refine JQ.v (JV.fieldAddrK (o := 3) rfl Tryd.runUnderlying34 rfl Tryd.sizeOf3 rfl rfl) rfl ?_
      refine JQ.v (JV.load1 5 rfl rfl Tryd.isAgg3 (rfl)) rfl ?_
      refine JQ.v (JV.move rfl) rfl ?_
      refine JQ.v (JV.move rfl) rfl ?_
      refine JQ.v (JV.move rfl) rfl ?_
      refine JQ.v (JV.addI rfl rfl (by omega)) rfl ?_
      refine JQ.v (JV.fieldAddrK (o := 6) rfl Tryd.runUnderlying34 rfl Tryd.sizeOf3 rfl rfl) rfl ?_
      refine JQ.v (JV.load1 5 rfl rfl Tryd.isAgg3 (rfl)) rfl ?_
      refine JQ.v (JV.addI rfl rfl (by omega)) rfl ?_
      refine JQ.v (JV.move rfl) rfl ?_
      refine JQ.v (JV.build (v := (.agg (kc (fresh ts (Pl.getK ks id) now id sd)).toArray)) (evp_cons rfl (evp_cons rfl (evp_cons rfl (evp_cons rfl (evp_cons rfl (evp_cons rfl (evp_cons rfl evp_nil))))))) (fun w => by kernel_rfl)) rfl ?_
      refine JQ.x (JO.alloc 7 (zs := (kc Pl.Key.zero)) Tryd.zeroValue34 rfl) rfl ?_
      intro i10_14
      refine JQ.s (JO.storeV 7 rfl rfl rfl (us := kc (fresh ts (Pl.getK ks id) now id sd)) rfl Tryd.sizeOf34 rfl rfl) ?_
      refine JQ.nil ?_
      refine JQ.n_then ?_
      refine JQ.seq ?_
      refine JQ.region ?_
      refine JQ.v (JV.fieldAddrK (o := 3) rfl Tryd.runUnderlying34 rfl Tryd.sizeOf3 rfl rfl) rfl ?_
      refine JQ.v (JV.load1 5 rfl rfl Tryd.isAgg3 (rfl)) rfl ?_
      refine JQ.v (JV.bitI (by decide) rfl rfl) rfl ?_
      refine JQ.v (JV.fieldAddrK (o := 3) rfl Tryd.runUnderlying34 rfl Tryd.sizeOf3 rfl rfl) rfl ?_
      refine JQ.s (JO.store1 5 rfl rfl rfl rfl Tryd.sizeOf3 (Nat.le_of_ble_eq_true rfl)) ?_
      refine JQ.nil ?_
      refine JQ.n_then ?_
      refine JQ.seq ?_
      refine JQ.region ?_
      refine JQ.v (JV.loadV 2 rfl rfl Tryd.isAgg29 Tryd.sizeOf29 rfl) rfl ?_
      refine JQ.v (JV.loadV 5 rfl rfl Tryd.isAgg34 Tryd.sizeOf34 rfl) rfl ?_
      refine JQ.x (JO.callNewS 60 (fun v => .tuple #[.agg [iv n, v].toArray, iv 0]) Tryd.call45 (evs_cons rfl (evs_cons rfl evs_nil)) (fun w hw => rput_key n kv ks hok id hk w (hw.reads (id := 100) rfl))) rfl ?_
      intro i12_2
      refine JQ.v (JV.move rfl) rfl ?_
      refine JQ.v (JV.extract rfl rfl) rfl ?_
      refine JQ.v (JV.extract rfl rfl) rfl ?_
      refine JQ.x (JO.alloc 8 (zs := [iv 0, .slice none 0 0]) Tryd.zeroValue29 rfl) rfl ?_
      intro i12_6
      refine JQ.s (JO.storeV 8 rfl rfl rfl (us := [iv n, slv i12_2 (keys1 ks id).length]) rfl Tryd.sizeOf29 rfl rfl) ?_
      refine JQ.v (JV.assign rfl) rfl ?_
      refine JQ.nil ?_
      refine JQ.n_then ?_
      refine JQ.seq ?_
      refine JQ.region ?_
      refine JQ.v (JV.loadV 8 rfl rfl Tryd.isAgg29 Tryd.sizeOf29 rfl) rfl ?_
      refine JQ.v (JV.loadV 7 rfl rfl Tryd.isAgg34 Tryd.sizeOf34 rfl) rfl ?_
      refine JQ.x (JO.callRowV 61 (fun v => .agg [iv (addT n (keys1 ks id) (fresh ts (Pl.getK ks id) now id sd)).next, v, iv (addI n), iv (addE n)].toArray) Tryd.call46 (evs_cons rfl (evs_cons rfl evs_nil)) (fun w hw => radd_key n _ ks hok ts rs now id sd hk hsd w (hw.reads (id := 60) rfl))) rfl ?_
      intro i13_2
      refine JQ.x (JO.alloc 9 (zs := [iv 0, .slice none 0 0, iv 0, iv 0]) Tryd.zeroValue93 rfl) rfl ?_
      intro i13_3
      refine JQ.s (JO.storeV 9 rfl rfl rfl (us := [iv (addT n (keys1 ks id) (fresh ts (Pl.getK ks id) now id sd)).next, slv i13_2 (addT n (keys1 ks id) (fresh ts (Pl.getK ks id) now id sd)).keys.length, iv (addI n), iv (addE n)]) rfl Tryd.sizeOf93 rfl rfl) ?_
      refine JQ.nil ?_
      refine JQ.n_then ?_
      refine JQ.seq ?_
      refine JQ.seq ?_
      refine JQ.region ?_
      refine JQ.v (JV.fieldAddrK (o := 3) rfl Tryd.runUnderlying93 rfl Tryd.sizeOf35 rfl rfl) rfl ?_
      refine JQ.v (JV.load1 9 rfl rfl Tryd.isAgg35 (rfl)) rfl ?_
      refine JQ.v (JV.neqI rfl rfl) rfl ?_
      refine JQ.nil ?_
      refine JQ.n_then ?_
      refine JQ.condP rfl (fun h91 => ?_) (fun h91 => ?_)
      · refine JQ.seq ?_
        refine JQ.region ?_
        refine JQ.v (JV.fieldAddrK (o := 3) rfl Tryd.runUnderlying93 rfl Tryd.sizeOf35 rfl rfl) rfl ?_
        refine JQ.v (JV.load1 9 rfl rfl Tryd.isAgg35 (rfl)) rfl ?_
        refine JQ.v (JV.build (v := .agg [iv 0, .slice none 0 0, str [], iv 0, .slice none 0 0, iv (addE n)].toArray) (evp_cons rfl evp_nil) (fun w => by kernel_rfl)) rfl ?_
        refine JQ.s (JO.storeV 4 rfl rfl rfl rfl Tryd.sizeOf57 rfl rfl) ?_
        refine JQ.nil ?_
        refine JQ.n_then ?_
        refine JQ.ret ?_
        refine JQ.r_then ?_
        refine JQ.doneC 4 Tryd.results18 rfl rfl Tryd.isAgg57 Tryd.sizeOf57 rfl ?_
        exact fun w hw => ⟨.slice none 0 0, by rw [keyT, keyS, keyI, keyE, if_neg h28, if_neg h28, if_neg h28, if_neg h28, if_pos h91, addT_top h91, addI_top h91]; first | done | rfl, by rw [keyT, if_neg h28, addT_top h91]; exact owns_knil _ _, hw.below⟩
      · refine JQ.skip ?_
        refine JQ.n_then ?_
        refine JQ.seq ?_
        refine JQ.region ?_
        refine JQ.v (JV.fieldAddrK (o := 0) rfl Tryd.runUnderlying93 rfl Tryd.sizeOf29 rfl rfl) rfl ?_
        refine JQ.v (JV.loadA 9 rfl rfl Tryd.isAgg29 Tryd.sizeOf29 rfl rfl) rfl ?_
        refine JQ.v (JV.loadV 6 rfl rfl Tryd.isAgg55 Tryd.sizeOf55 rfl) rfl ?_
        refine JQ.v (JV.fieldAddrK (o := 2) rfl Tryd.runUnderlying93 rfl Tryd.sizeOf3 rfl rfl) rfl ?_
        refine JQ.v (JV.load1 9 rfl rfl Tryd.isAgg3 (rfl)) rfl ?_
        refine JQ.v (JV.build (v := .agg [iv (addT n (keys1 ks id) (fresh ts (Pl.getK ks id) now id sd)).next, slv i13_2 (addT n (keys1 ks id) (fresh ts (Pl.getK ks id) now id sd)).keys.length, str (Pl.seed sd), iv (addI n), .slice none 0 0, iv 0].toArray) (evp_cons rfl (evp_cons rfl (evp_cons rfl evp_nil))) (fun w => by kernel_rfl)) rfl ?_
        refine JQ.s (JO.storeV 4 rfl rfl rfl rfl Tryd.sizeOf57 rfl rfl) ?_
        refine JQ.nil ?_
        refine JQ.n_then ?_
        refine JQ.ret ?_
        refine JQ.doneC 4 Tryd.results18 rfl rfl Tryd.isAgg57 Tryd.sizeOf57 rfl ?_
        exact fun w hw => ⟨_, by rw [keyT, keyS, keyI, keyE, if_neg h28, if_neg h28, if_neg h28, if_neg h28, if_neg h91, Decidable.not_not.1 h91]; first | done | rfl, by rw [keyT, if_neg h28]; exact hw.ok 61 _ rfl, hw.below⟩
end Go.Fw
end
section
open Go.RowKit
set_option maxRecDepth 100000
set_option linter.unusedVariables false
set_option linter.unusedSimpArgs false
namespace Go.Fw
open Go.Proofs
def dueBad (now ahead : Int) : Bool := decide (now < 0) || (decide (ahead < 0) || (decide (1099511627776 < now) || decide (1099511627776 < ahead)))
def dueK (ts : List Pl.Typ) (ks : List Pl.Key) (now ahead : Int) (k : Pl.Key) : Bool := (!Pl.nextB ks k.id) && (Pl.live k now && ((Pl.isTy ts k.ty && decide (ib .andNot 1 (Pl.tyOf ts k.ty).flags = 0)) && decide (k.en ≤ now + ahead)))
def dueN (ts : List Pl.Typ) (ks : List Pl.Key) (now ahead : Int) : Nat → List Int
  | 0 => []
  | i + 1 => if dueK ts ks now ahead (Pl.at_ ks i) = true then dueN ts ks now ahead i ++ [(Pl.at_ ks i).id] else dueN ts ks now ahead i
def dueL (ts : List Pl.Typ) (ks : List Pl.Key) (now ahead : Int) : List Int := if dueBad now ahead = true then [] else dueN ts ks now ahead ks.length
theorem dueN_pos {ts : List Pl.Typ} {ks : List Pl.Key} {now ahead : Int} {i : Nat} (h : dueK ts ks now ahead (Pl.at_ ks i) = true) : dueN ts ks now ahead (i + 1) = dueN ts ks now ahead i ++ [(Pl.at_ ks i).id] := by rw [dueN, if_pos h]
theorem dueN_neg {ts : List Pl.Typ} {ks : List Pl.Key} {now ahead : Int} {i : Nat} (h : dueK ts ks now ahead (Pl.at_ ks i) = false) : dueN ts ks now ahead (i + 1) = dueN ts ks now ahead i := by rw [dueN, if_neg (by rw [h]; decide)]
theorem dueN_len (ts : List Pl.Typ) (ks : List Pl.Key) (now ahead : Int) (i : Nat) : (dueN ts ks now ahead i).length ≤ i := by
  induction i with
  | zero => exact Nat.le_refl _
  | succ i ih => rw [dueN]; split; (rw [List.length_append]; show _ + 1 ≤ _; omega); omega
theorem dueK_R (ts : List Pl.Typ) (ks : List Pl.Key) (now ahead : Int) (k : Pl.Key) : dueK ts ks now ahead k = (Pl.live k now && ((!Pl.nextB ks k.id) && ((Pl.isTy ts k.ty && decide (ib .and 1 (Pl.tyOf ts k.ty).flags = 1)) && decide (k.en ≤ now + ahead)))) := by
  rw [dueK, sub_dec _ (show inI 1 from by decide), ← Bool.and_assoc, Bool.and_comm (!_), Bool.and_assoc]
theorem due_bad1 {now ahead : Int} (h : decide ((if ahead < now then ahead else now) < 0) = true) : dueBad now ahead = true := by
  have h := of_decide_eq_true h
  simp only [dueBad, Bool.or_eq_true, decide_eq_true_eq]
  split at h <;> omega
theorem due_bad2 {now ahead : Int} (h : 1099511627776 < (if now < ahead then ahead else now)) : dueBad now ahead = true := by
  simp only [dueBad, Bool.or_eq_true, decide_eq_true_eq]
  split at h <;> omega
theorem due_good {now ahead : Int} (h : decide ((if ahead < now then ahead else now) < 0) = false) (h2 : ¬ 1099511627776 < (if now < ahead then ahead else now)) : dueBad now ahead = false := by
  have h := of_decide_eq_false h
  rw [Bool.eq_false_iff]
  simp only [dueBad, ne_eq, Bool.or_eq_true, decide_eq_true_eq]
  split at h <;> split at h2 <;> omega
theorem due_bad3 {now ahead : Int} (h : decide (now < 0) = true ∨ decide (1099511627776 < now) = true ∨ decide (ahead < 0) = true ∨ decide (1099511627776 < ahead) = true) : dueBad now ahead = true := by
  simp only [dueBad, Bool.or_eq_true, decide_eq_true_eq] at h ⊢; omega
theorem due_good2 {now ahead : Int} (h1 : decide (now < 0) = false) (h2 : decide (1099511627776 < now) = false) (h3 : decide (ahead < 0) = false) (h4 : ¬ 1099511627776 < ahead) : dueBad now ahead = false := by
  simp only [decide_eq_false_iff_not] at h1 h2 h3
  rw [Bool.eq_false_iff]
  simp only [dueBad, ne_eq, Bool.or_eq_true, decide_eq_true_eq]; omega
theorem dueBad_not {now ahead : Int} (h : dueBad now ahead = false) : (0 ≤ now ∧ now ≤ 1099511627776) ∧ 0 ≤ ahead ∧ ahead ≤ 1099511627776 := by
  rw [Bool.eq_false_iff] at h
  simp only [dueBad, ne_eq, Bool.or_eq_true, decide_eq_true_eq] at h; omega
attribute [local irreducible] kcs tcs rcs Pl.ix Pl.lb Pl.getE Pl.getK Pl.fnd Pl.nextO Pl.at_ Pl.line Pl.tyAt Pl.isTy Pl.outG Pl.outR Pl.usesG Pl.usesR Pl.nextB Pl.nextI kchk kchK life0 lifeK addT addI addE keyT keyE keyS keyI
set_option maxHeartbeats 1000000 in
theorem due_spec (pn : List UInt8) (tv rv qv : Value) (ts : List Pl.Typ) (rs : List Pl.Rule) (n : Int) (kv : Value) (ks : List Pl.Key) (hok : tabOk n ks) (now ahead : Int) (w : World) (ht : Reads w tv 3 ts.length (tcs ts)) (hr : Reads w kv 9 ks.length (kcs ks)) :
    Calls Tryd.prog 27 #[.agg [str pn, tv, rv, qv].toArray, .agg [iv n, kv].toArray, iv now, iv ahead] w fun e w' => ∃ v, e = .returned v ∧ NewRo w v 1 (dueL ts ks now ahead).length ((dueL ts ks now ahead).map iv) w' ∧ Below w.heap.size w w' := by
  
  refine enterA (vs := [_, _, _, _]) Tryd.func27 rfl 66 rfl [(101, .ro tv 3 ts.length (tcs ts)), (100, .ro kv 9 ks.length (kcs ks))] ((MemOk.start1 100 hr).addRo 101 ht (ro_cons ro_nil)) ?_
  refine JQ.seq ?_
  refine JQ.region ?_
  refine JQ.x (JO.box 1 rfl rfl) rfl ?_
  intro i0_0
  refine JQ.x (JO.box 2 rfl rfl) rfl ?_
  intro i0_1
  refine JQ.v (JV.assign rfl) rfl ?_
  refine JQ.nil ?_
  refine JQ.n_then ?_
  refine JQ.seq ?_
  refine JQ.region ?_
  refine JQ.v (JV.assign rfl) rfl ?_
  refine JQ.nilRow 303 3 1 ?_
  refine JQ.nil ?_
  refine JQ.n_then ?_
  refine JQ.seq ?_
  refine JQ.seq ?_
  refine JQ.region ?_
  refine JQ.v (JV.move rfl) rfl ?_
  refine JQ.v (JV.move rfl) rfl ?_
  refine JQ.v (JV.min2 rfl rfl) rfl ?_
  refine JQ.v (JV.lss rfl rfl) rfl ?_
  refine JQ.vb (JV.move rfl) rfl (fun g2_4 => ?_) (fun g2_4 => ?_)
  · refine JQ.g0 rfl rfl rfl rfl ?_
    refine JQ.g0 rfl rfl rfl rfl ?_
    refine JQ.g0 rfl rfl rfl rfl ?_
    refine JQ.g0 rfl rfl rfl rfl ?_
    refine JQ.v (JV.pickT rfl rfl) rfl ?_
    refine JQ.nil ?_
    refine JQ.n_then ?_
    refine JQ.condT rfl ?_
    refine JQ.seq ?_
    refine JQ.region ?_
    refine JQ.v (JV.assign rfl) rfl ?_
    refine JQ.nil ?_
    refine JQ.n_then ?_
    refine JQ.ret ?_
    refine JQ.r_then ?_
    refine JQ.done1 Tryd.results27 rfl ?_
    exact fun w hw => ⟨_, rfl, by rw [dueL, if_pos (due_bad1 g2_4)]; exact newRo_nil _ _ 1, hw.below⟩
  · refine JQ.vg rfl rfl (JV.move rfl) rfl ?_
    refine JQ.vg rfl rfl (JV.move rfl) rfl ?_
    refine JQ.vg rfl rfl (JV.max2 rfl rfl) rfl ?_
    refine JQ.vg rfl rfl (JV.gtr rfl rfl) rfl ?_
    refine JQ.v (JV.pickF rfl rfl) rfl ?_
    refine JQ.nil ?_
    refine JQ.n_then ?_
    refine JQ.condP rfl (fun h23 => ?_) (fun h23 => ?_)
    · refine JQ.seq ?_
      refine JQ.region ?_
      refine JQ.v (JV.assign rfl) rfl ?_
      refine JQ.nil ?_
      refine JQ.n_then ?_
      refine JQ.ret ?_
      refine JQ.r_then ?_
      refine JQ.done1 Tryd.results27 rfl ?_
      exact fun w hw => ⟨_, rfl, by rw [dueL, if_pos (due_bad2 h23)]; exact newRo_nil _ _ 1, hw.below⟩
    · refine JQ.skip ?_
      refine JQ.n_then ?_
      refine JQ.seq ?_
      refine JQ.seq ?_
      have hb := due_good g2_4 h23
      have hb2 := dueBad_not hb
      refine JQ.region ?_
      refine JQ.v (JV.fieldAddrK (o := 1) rfl Tryd.runUnderlying29 rfl Tryd.sizeOf27 rfl rfl) rfl ?_
      refine JQ.v (JV.load1 2 rfl rfl Tryd.isAgg27 (rfl)) rfl ?_
      refine JQ.v (JV.lenRo 100 rfl rfl Tryd.runUnderlying27) rfl ?_
      refine JQ.v (JV.move rfl) rfl ?_
      refine JQ.nil ?_
      refine JQ.n_then ?_
      refine JQ.block ?_
      refine JQ.loopI (ι := Nat × Value) (fun i => [(2, iv now), (3, iv ahead), (4, .pointer (some ⟨i0_0, 0, none⟩)), (5, .pointer (some ⟨i0_1, 0, none⟩)), (9, i.2), (25, kv), (26, .int .i64 ((ks.length : Nat) : Int)), (27, .int .i64 ((i.1 : Nat) : Int))]) (fun i => [(1, .cells i0_0 [str pn, tv, rv, qv] 26 (0, 0)), (2, .cells i0_1 [iv n, kv] 29 (0, 0)), (303, .row i.2 3 1 (dueN ts ks now ahead i.1).length ((dueN ts ks now ahead i.1).map iv)), (101, .ro tv 3 ts.length (tcs ts)), (100, .ro kv 9 ks.length (kcs ks))]) (fun i => i.1 ≤ ks.length) (fun i => ks.length - i.1) (0, .slice none 0 0) (Nat.zero_le _) (subk_cons rfl (subk_cons rfl (subk_cons rfl (subk_cons rfl (subk_cons rfl (subk_cons rfl (subk_cons rfl (subk_cons rfl subk_nil)))))))) (subr_cons rfl (subr_cons rfl (subr_cons rfl (subr_cons rfl (subr_cons rfl subr_nil))))) ?_
      rintro ⟨i, vb⟩ hi
      dsimp only at hi
      show JQ _ _ [(2, iv now), (3, iv ahead), (4, .pointer (some ⟨i0_0, 0, none⟩)), (5, .pointer (some ⟨i0_1, 0, none⟩)), (9, vb), (25, kv), (26, .int .i64 ((ks.length : Nat) : Int)), (27, .int .i64 ((i : Nat) : Int))] [(1, .cells i0_0 [str pn, tv, rv, qv] 26 (0, 0)), (2, .cells i0_1 [iv n, kv] 29 (0, 0)), (303, .row vb 3 1 (dueN ts ks now ahead i).length ((dueN ts ks now ahead i).map iv)), (101, .ro tv 3 ts.length (tcs ts)), (100, .ro kv 9 ks.length (kcs ks))] _
      refine JQ.seq ?_
      refine JQ.region ?_
      refine JQ.v (JV.lssN rfl rfl) rfl ?_
      refine JQ.nil ?_
      refine JQ.n_then ?_
      refine JQ.seq ?_
      refine JQ.condP rfl (fun h28 => ?_) (fun h28 => ?_)
      · refine JQ.skip ?_
        refine JQ.n_then ?_
        refine JQ.seq ?_
        refine JQ.block ?_
        refine JQ.seq ?_
        refine JQ.region ?_
        refine JQ.v (JV.idxRo 100 rfl rfl rfl Tryd.runUnderlying27 Tryd.sizeOf34 (by decide) (by have := hok.1; omega)) rfl ?_
        refine JQ.v (JV.loadRA 100 rfl rfl Tryd.isAgg34 Tryd.sizeOf34 (us := kc (Pl.at_ ks i)) (kc_at ks (by omega)) rfl (by decide)) rfl ?_
        refine JQ.x (JO.alloc 3 (zs := (kc Pl.Key.zero)) Tryd.zeroValue34 rfl) rfl ?_
        intro i6_2
        refine JQ.s (JO.storeV 3 rfl rfl rfl (us := kc (Pl.at_ ks i)) rfl Tryd.sizeOf34 rfl rfl) ?_
        refine JQ.nil ?_
        refine JQ.n_then ?_
        refine JQ.seq ?_
        refine JQ.region ?_
        refine JQ.v (JV.loadV 2 rfl rfl Tryd.isAgg29 Tryd.sizeOf29 rfl) rfl ?_
        refine JQ.v (JV.fieldAddrK (o := 0) rfl Tryd.runUnderlying34 rfl Tryd.sizeOf3 rfl rfl) rfl ?_
        refine JQ.v (JV.load1 3 rfl rfl Tryd.isAgg3 (rfl)) rfl ?_
        refine JQ.v (JV.callM Tryd.call20 (evs_cons rfl (evs_cons rfl evs_nil)) (fun w hw => next1_spec n kv ks (by have := hok.1; omega) hok.2.2.1 hok.ver (Pl.at_ ks i).id w (hw.reads (id := 100) rfl))) rfl ?_
        refine JQ.v (JV.move rfl) rfl ?_
        refine JQ.v (JV.extract rfl rfl) rfl ?_
        refine JQ.v (JV.extract rfl rfl) rfl ?_
        refine JQ.v (JV.assign rfl) rfl ?_
        refine JQ.v (JV.assign rfl) rfl ?_
        refine JQ.nil ?_
        refine JQ.n_then ?_
        refine JQ.seq ?_
        refine JQ.region ?_
        refine JQ.v (JV.move rfl) rfl ?_
        refine JQ.v (JV.notB rfl) rfl ?_
        refine JQ.vb (JV.move rfl) rfl (fun g8_2 => ?_) (fun g8_2 => ?_)
        · refine JQ.vg rfl rfl (JV.loadV 3 rfl rfl Tryd.isAgg34 Tryd.sizeOf34 rfl) rfl ?_
          refine JQ.vg rfl rfl (JV.move rfl) rfl ?_
          refine JQ.vg rfl rfl (JV.call Tryd.call40 (evs_cons rfl (evs_cons rfl evs_nil)) (live_pure _ _)) rfl ?_
          refine JQ.v (JV.pickT rfl rfl) rfl ?_
          refine JQ.vb (JV.move rfl) rfl (fun g8_7 => ?_) (fun g8_7 => ?_)
          · refine JQ.vg rfl rfl (JV.loadV 1 rfl rfl Tryd.isAgg26 Tryd.sizeOf26 rfl) rfl ?_
            refine JQ.vg rfl rfl (JV.fieldAddrK (o := 1) rfl Tryd.runUnderlying34 rfl Tryd.sizeOf3 rfl rfl) rfl ?_
            refine JQ.vg rfl rfl (JV.load1 3 rfl rfl Tryd.isAgg3 (rfl)) rfl ?_
            refine JQ.vg rfl rfl (JV.callM Tryd.call49 (evs_cons rfl (evs_cons rfl (evs_cons rfl evs_nil))) (fun w hw => has_spec pn tv rv qv ts rs (Pl.at_ ks i).ty 1 w (hw.reads (id := 101) rfl))) rfl ?_
            refine JQ.v (JV.pickT rfl rfl) rfl ?_
            refine JQ.vb (JV.move rfl) rfl (fun g8_13 => ?_) (fun g8_13 => ?_)
            · refine JQ.vg rfl rfl (JV.fieldAddrK (o := 5) rfl Tryd.runUnderlying34 rfl Tryd.sizeOf3 rfl rfl) rfl ?_
              refine JQ.vg rfl rfl (JV.load1 3 rfl rfl Tryd.isAgg3 (rfl)) rfl ?_
              refine JQ.vg rfl rfl (JV.move rfl) rfl ?_
              refine JQ.vg rfl rfl (JV.move rfl) rfl ?_
              refine JQ.vg rfl rfl (JV.addI rfl rfl (by omega)) rfl ?_
              refine JQ.vg rfl rfl (JV.leq rfl rfl) rfl ?_
              refine JQ.v (JV.pickT rfl rfl) rfl ?_
              refine JQ.nil ?_
              refine JQ.n_then ?_
              refine JQ.condP rfl (fun h58 => ?_) (fun h58 => ?_)
              · have hle := dueN_len ts ks now ahead i
                have hl4 := hok.1
                refine JQ.region ?_
                refine JQ.v (JV.move rfl) rfl ?_
                refine JQ.v (JV.fieldAddrK (o := 0) rfl Tryd.runUnderlying34 rfl Tryd.sizeOf3 rfl rfl) rfl ?_
                refine JQ.v (JV.load1 3 rfl rfl Tryd.isAgg3 (rfl)) rfl ?_
                refine JQ.x (JO.buildSlice 4 (us := [iv (Pl.at_ ks i).id]) (e := 3) (evp_cons rfl evp_nil) (fun w => by kernel_rfl)) rfl ?_
                intro i9_3
                refine JQ.x (JO.append 303 elem3 rfl rfl rfl (fun w hw => Src.ro Tryd.underlying44 (reads_cells (hw.blk (id := 4) rfl) (show (_ : List Value) = ([iv (Pl.at_ ks i).id] : List Value) from rfl) rfl (by decide))) rfl (by omega) (by omega)) rfl ?_
                intro i9_4
                refine JQ.v (JV.assign rfl) rfl ?_
                refine JQ.nil ?_
                refine JQ.n_block ?_
                refine JQ.n_then ?_
                have hl5 := hok.1
                refine JQ.region ?_
                refine JQ.v (JV.addN (b := 1) rfl rfl (by omega)) rfl ?_
                refine JQ.v (JV.move rfl) rfl ?_
                refine JQ.nil ?_
                refine JQ.n_then ?_
                exact JQ.nextI (i + 1, i9_4) (by show i + 1 ≤ _; omega) (by show _ - (i + 1) < _ - i; omega) (subk_cons rfl (subk_cons rfl (subk_cons rfl (subk_cons rfl (subk_cons rfl (subk_cons rfl (subk_cons rfl (subk_cons rfl subk_nil)))))))) (subr_cons rfl (subr_cons rfl (subr_cons (by rw [dueN_pos (by rw [dueK, g8_2, g8_7, g8_13, decide_eq_true h58]; rfl), List.length_append, List.map_append]; rfl) (subr_cons rfl (subr_cons rfl subr_nil)))))
              · refine JQ.skip ?_
                refine JQ.n_block ?_
                refine JQ.n_then ?_
                have hl5 := hok.1
                refine JQ.region ?_
                refine JQ.v (JV.addN (b := 1) rfl rfl (by omega)) rfl ?_
                refine JQ.v (JV.move rfl) rfl ?_
                refine JQ.nil ?_
                refine JQ.n_then ?_
                exact JQ.nextI (i + 1, vb) (by show i + 1 ≤ _; omega) (by show _ - (i + 1) < _ - i; omega) (subk_cons rfl (subk_cons rfl (subk_cons rfl (subk_cons rfl (subk_cons rfl (subk_cons rfl (subk_cons rfl (subk_cons rfl subk_nil)))))))) (subr_cons rfl (subr_cons rfl (subr_cons (by rw [dueN_neg (by rw [dueK, g8_2, g8_7, g8_13, decide_eq_false h58]; rfl)]; rfl) (subr_cons rfl (subr_cons rfl subr_nil)))))
            · refine JQ.g0 rfl rfl rfl rfl ?_
              refine JQ.g0 rfl rfl rfl rfl ?_
              refine JQ.g0 rfl rfl rfl rfl ?_
              refine JQ.g0 rfl rfl rfl rfl ?_
              refine JQ.g0 rfl rfl rfl rfl ?_
              refine JQ.g0 rfl rfl rfl rfl ?_
              refine JQ.v (JV.pickF rfl rfl) rfl ?_
              refine JQ.nil ?_
              refine JQ.n_then ?_
              refine JQ.condF rfl ?_
              refine JQ.skip ?_
              refine JQ.n_block ?_
              refine JQ.n_then ?_
              have hl5 := hok.1
              refine JQ.region ?_
              refine JQ.v (JV.addN (b := 1) rfl rfl (by omega)) rfl ?_
              refine JQ.v (JV.move rfl) rfl ?_
              refine JQ.nil ?_
              refine JQ.n_then ?_
              exact JQ.nextI (i + 1, vb) (by show i + 1 ≤ _; omega) (by show _ - (i + 1) < _ - i; omega) (subk_cons rfl (subk_cons rfl (subk_cons rfl (subk_cons rfl (subk_cons rfl (subk_cons rfl (subk_cons rfl (subk_cons rfl subk_nil)))))))) (subr_cons rfl (subr_cons rfl (subr_cons (by rw [dueN_neg (by rw [dueK, g8_2, g8_7, g8_13]; rfl)]; rfl) (subr_cons rfl (subr_cons rfl subr_nil)))))
          · refine JQ.g0 rfl rfl rfl rfl ?_
            refine JQ.g0 rfl rfl rfl rfl ?_
            refine JQ.g0 rfl rfl rfl rfl ?_
            refine JQ.g0 rfl rfl rfl rfl ?_
            refine JQ.v (JV.pickF rfl rfl) rfl ?_
            refine JQ.v (JV.move rfl) rfl ?_
            refine JQ.g0 rfl rfl rfl rfl ?_
            refine JQ.g0 rfl rfl rfl rfl ?_
            refine JQ.g0 rfl rfl rfl rfl ?_
            refine JQ.g0 rfl rfl rfl rfl ?_
            refine JQ.g0 rfl rfl rfl rfl ?_
            refine JQ.g0 rfl rfl rfl rfl ?_
            refine JQ.v (JV.pickF rfl rfl) rfl ?_
            refine JQ.nil ?_
            refine JQ.n_then ?_
            refine JQ.condF rfl ?_
            refine JQ.skip ?_
            refine JQ.n_block ?_
            refine JQ.n_then ?_
            have hl5 := hok.1
            refine JQ.region ?_
            refine JQ.v (JV.addN (b := 1) rfl rfl (by omega)) rfl ?_
            refine JQ.v (JV.move rfl) rfl ?_
            refine JQ.nil ?_
            refine JQ.n_then ?_
            exact JQ.nextI (i + 1, vb) (by show i + 1 ≤ _; omega) (by show _ - (i + 1) < _ - i; omega) (subk_cons rfl (subk_cons rfl (subk_cons rfl (subk_cons rfl (subk_cons rfl (subk_cons rfl (subk_cons rfl (subk_cons rfl subk_nil)))))))) (subr_cons rfl (subr_cons rfl (subr_cons (by rw [dueN_neg (by rw [dueK, g8_2, g8_7]; rfl)]; rfl) (subr_cons rfl (subr_cons rfl subr_nil)))))
        · refine JQ.g0 rfl rfl rfl rfl ?_
          refine JQ.g0 rfl rfl rfl rfl ?_
          refine JQ.g0 rfl rfl rfl rfl ?_
          refine JQ.v (JV.pickF rfl rfl) rfl ?_
          refine JQ.v (JV.move rfl) rfl ?_
          refine JQ.g0 rfl rfl rfl rfl ?_
          refine JQ.g0 rfl rfl rfl rfl ?_
          refine JQ.g0 rfl rfl rfl rfl ?_
          refine JQ.g0 rfl rfl rfl rfl ?_
          refine JQ.v (JV.pickF rfl rfl) rfl ?_
          refine JQ.v (JV.move rfl) rfl ?_
          refine JQ.g0 rfl rfl rfl rfl ?_
          refine JQ.g0 rfl rfl rfl rfl ?_
          refine JQ.g0 rfl rfl rfl rfl ?_
          refine JQ.g0 rfl rfl rfl rfl ?_
          refine JQ.g0 rfl rfl rfl rfl ?_
          refine JQ.g0 rfl rfl rfl rfl ?_
          refine JQ.v (JV.pickF rfl rfl) rfl ?_
          refine JQ.nil ?_
          refine JQ.n_then ?_
          refine JQ.condF rfl ?_
          refine JQ.skip ?_
          refine JQ.n_block ?_
          refine JQ.n_then ?_
          have hl5 := hok.1
          refine JQ.region ?_
          refine JQ.v (JV.addN (b := 1) rfl rfl (by omega)) rfl ?_
          refine JQ.v (JV.move rfl) rfl ?_
          refine JQ.nil ?_
          refine JQ.n_then ?_
          exact JQ.nextI (i + 1, vb) (by show i + 1 ≤ _; omega) (by show _ - (i + 1) < _ - i; omega) (subk_cons rfl (subk_cons rfl (subk_cons rfl (subk_cons rfl (subk_cons rfl (subk_cons rfl (subk_cons rfl (subk_cons rfl subk_nil)))))))) (subr_cons rfl (subr_cons rfl (subr_cons (by rw [dueN_neg (by rw [dueK, g8_2]; rfl)]; rfl) (subr_cons rfl (subr_cons rfl subr_nil)))))
      · have er : i = ks.length := by omega
        subst er
        refine JQ.exit ?_
        refine JQ.e_then ?_
        refine JQ.e_then ?_
        refine JQ.e_here ?_
        refine JQ.n_then ?_
        refine JQ.seq ?_
        refine JQ.region ?_
        refine JQ.v (JV.move rfl) rfl ?_
        refine JQ.v (JV.assign rfl) rfl ?_
        refine JQ.nil ?_
        refine JQ.n_then ?_
        refine JQ.ret ?_
        refine JQ.done1 Tryd.results27 rfl ?_
        exact fun w hw => ⟨_, rfl, by rw [dueL, if_neg (by rw [hb]; decide)]; exact newRo_row (hw.ok 303 _ rfl), hw.below⟩

set_option maxHeartbeats 1000000 in
theorem rdue_spec (pn : List UInt8) (tv rv qv : Value) (ts : List Pl.Typ) (rs : List Pl.Rule) (n : Int) (kv : Value) (ks : List Pl.Key) (hok : tabOk n ks) (now ahead : Int) (w : World) (ht : Reads w tv 3 ts.length (tcs ts)) (hr : Reads w kv 9 ks.length (kcs ks)) :
    Calls Tryd.prog 28 #[.agg [str pn, tv, rv, qv].toArray, .agg [iv n, kv].toArray, iv now, iv ahead] w fun e w' => ∃ v, e = .returned v ∧ NewRo w v 1 (dueL ts ks now ahead).length ((dueL ts ks now ahead).map iv) w' ∧ Below w.heap.size w w' := by
  
  refine enterA (vs := [_, _, _, _]) Tryd.func28 rfl 78 rfl [(101, .ro tv 3 ts.length (tcs ts)), (100, .ro kv 9 ks.length (kcs ks))] ((MemOk.start1 100 hr).addRo 101 ht (ro_cons ro_nil)) ?_
  refine JQ.seq ?_
  refine JQ.region ?_
  refine JQ.x (JO.box 1 rfl rfl) rfl ?_
  intro i0_0
  refine JQ.x (JO.box 2 rfl rfl) rfl ?_
  intro i0_1
  refine JQ.v (JV.assign rfl) rfl ?_
  refine JQ.nil ?_
  refine JQ.n_then ?_
  refine JQ.seq ?_
  refine JQ.seq ?_
  refine JQ.region ?_
  refine JQ.v (JV.move rfl) rfl ?_
  refine JQ.v (JV.lss rfl rfl) rfl ?_
  refine JQ.vb (JV.move rfl) rfl (fun g1_2 => ?_) (fun g1_2 => ?_)
  · refine JQ.g0 rfl rfl rfl rfl ?_
    refine JQ.g0 rfl rfl rfl rfl ?_
    refine JQ.v (JV.pickT rfl rfl) rfl ?_
    refine JQ.v (JV.move rfl) rfl ?_
    refine JQ.g0 rfl rfl rfl rfl ?_
    refine JQ.g0 rfl rfl rfl rfl ?_
    refine JQ.v (JV.pickT rfl rfl) rfl ?_
    refine JQ.v (JV.move rfl) rfl ?_
    refine JQ.g0 rfl rfl rfl rfl ?_
    refine JQ.g0 rfl rfl rfl rfl ?_
    refine JQ.v (JV.pickT rfl rfl) rfl ?_
    refine JQ.nil ?_
    refine JQ.n_then ?_
    refine JQ.condT rfl ?_
    refine JQ.seq ?_
    refine JQ.region ?_
    refine JQ.v (JV.assign rfl) rfl ?_
    refine JQ.nil ?_
    refine JQ.n_then ?_
    refine JQ.ret ?_
    refine JQ.r_then ?_
    refine JQ.done1 Tryd.results28 rfl ?_
    exact fun w hw => ⟨_, rfl, by rw [dueL, if_pos (due_bad3 (.inl g1_2))]; exact newRo_nil _ _ 1, hw.below⟩
  · refine JQ.vg rfl rfl (JV.move rfl) rfl ?_
    refine JQ.vg rfl rfl (JV.gtr rfl rfl) rfl ?_
    refine JQ.v (JV.pickF rfl rfl) rfl ?_
    refine JQ.vb (JV.move rfl) rfl (fun g1_6 => ?_) (fun g1_6 => ?_)
    · refine JQ.g0 rfl rfl rfl rfl ?_
      refine JQ.g0 rfl rfl rfl rfl ?_
      refine JQ.v (JV.pickT rfl rfl) rfl ?_
      refine JQ.v (JV.move rfl) rfl ?_
      refine JQ.g0 rfl rfl rfl rfl ?_
      refine JQ.g0 rfl rfl rfl rfl ?_
      refine JQ.v (JV.pickT rfl rfl) rfl ?_
      refine JQ.nil ?_
      refine JQ.n_then ?_
      refine JQ.condT rfl ?_
      refine JQ.seq ?_
      refine JQ.region ?_
      refine JQ.v (JV.assign rfl) rfl ?_
      refine JQ.nil ?_
      refine JQ.n_then ?_
      refine JQ.ret ?_
      refine JQ.r_then ?_
      refine JQ.done1 Tryd.results28 rfl ?_
      exact fun w hw => ⟨_, rfl, by rw [dueL, if_pos (due_bad3 (.inr (.inl g1_6)))]; exact newRo_nil _ _ 1, hw.below⟩
    · refine JQ.vg rfl rfl (JV.move rfl) rfl ?_
      refine JQ.vg rfl rfl (JV.lss rfl rfl) rfl ?_
      refine JQ.v (JV.pickF rfl rfl) rfl ?_
      refine JQ.vb (JV.move rfl) rfl (fun g1_10 => ?_) (fun g1_10 => ?_)
      · refine JQ.g0 rfl rfl rfl rfl ?_
        refine JQ.g0 rfl rfl rfl rfl ?_
        refine JQ.v (JV.pickT rfl rfl) rfl ?_
        refine JQ.nil ?_
        refine JQ.n_then ?_
        refine JQ.condT rfl ?_
        refine JQ.seq ?_
        refine JQ.region ?_
        refine JQ.v (JV.assign rfl) rfl ?_
        refine JQ.nil ?_
        refine JQ.n_then ?_
        refine JQ.ret ?_
        refine JQ.r_then ?_
        refine JQ.done1 Tryd.results28 rfl ?_
        exact fun w hw => ⟨_, rfl, by rw [dueL, if_pos (due_bad3 (.inr (.inr (.inl g1_10))))]; exact newRo_nil _ _ 1, hw.below⟩
      · refine JQ.vg rfl rfl (JV.move rfl) rfl ?_
        refine JQ.vg rfl rfl (JV.gtr rfl rfl) rfl ?_
        refine JQ.v (JV.pickF rfl rfl) rfl ?_
        refine JQ.nil ?_
        refine JQ.n_then ?_
        refine JQ.condP rfl (fun h29 => ?_) (fun h29 => ?_)
        · refine JQ.seq ?_
          refine JQ.region ?_
          refine JQ.v (JV.assign rfl) rfl ?_
          refine JQ.nil ?_
          refine JQ.n_then ?_
          refine JQ.ret ?_
          refine JQ.r_then ?_
          refine JQ.done1 Tryd.results28 rfl ?_
          exact fun w hw => ⟨_, rfl, by rw [dueL, if_pos (due_bad3 (.inr (.inr (.inr (decide_eq_true h29)))))]; exact newRo_nil _ _ 1, hw.below⟩
        · refine JQ.skip ?_
          refine JQ.n_then ?_
          refine JQ.seq ?_
          have hb := due_good2 g1_2 g1_6 g1_10 h29
          have hb2 := dueBad_not hb
          refine JQ.region ?_
          refine JQ.v (JV.assign rfl) rfl ?_
          refine JQ.nilRow 303 3 1 ?_
          refine JQ.nil ?_
          refine JQ.n_then ?_
          refine JQ.seq ?_
          refine JQ.seq ?_
          refine JQ.region ?_
          refine JQ.v (JV.assign rfl) rfl ?_
          refine JQ.nil ?_
          refine JQ.n_then ?_
          refine JQ.block ?_
          refine JQ.loopI (ι := Nat × Value) (fun i => [(2, iv now), (3, iv ahead), (4, .pointer (some ⟨i0_0, 0, none⟩)), (5, .pointer (some ⟨i0_1, 0, none⟩)), (9, i.2), (10, .int .i64 ((i.1 : Nat) : Int))]) (fun i => [(1, .cells i0_0 [str pn, tv, rv, qv] 26 (0, 0)), (2, .cells i0_1 [iv n, kv] 29 (0, 0)), (303, .row i.2 3 1 (dueN ts ks now ahead i.1).length ((dueN ts ks now ahead i.1).map iv)), (101, .ro tv 3 ts.length (tcs ts)), (100, .ro kv 9 ks.length (kcs ks))]) (fun i => i.1 ≤ ks.length) (fun i => ks.length - i.1) (0, .slice none 0 0) (Nat.zero_le _) (subk_cons rfl (subk_cons rfl (subk_cons rfl (subk_cons rfl (subk_cons rfl (subk_cons rfl subk_nil)))))) (subr_cons rfl (subr_cons rfl (subr_cons rfl (subr_cons rfl (subr_cons rfl subr_nil))))) ?_
          rintro ⟨i, vb⟩ hi
          dsimp only at hi
          show JQ _ _ [(2, iv now), (3, iv ahead), (4, .pointer (some ⟨i0_0, 0, none⟩)), (5, .pointer (some ⟨i0_1, 0, none⟩)), (9, vb), (10, .int .i64 ((i : Nat) : Int))] [(1, .cells i0_0 [str pn, tv, rv, qv] 26 (0, 0)), (2, .cells i0_1 [iv n, kv] 29 (0, 0)), (303, .row vb 3 1 (dueN ts ks now ahead i).length ((dueN ts ks now ahead i).map iv)), (101, .ro tv 3 ts.length (tcs ts)), (100, .ro kv 9 ks.length (kcs ks))] _
          refine JQ.seq ?_
          refine JQ.seq ?_
          refine JQ.region ?_
          refine JQ.v (JV.move rfl) rfl ?_
          refine JQ.v (JV.fieldAddrK (o := 1) rfl Tryd.runUnderlying29 rfl Tryd.sizeOf27 rfl rfl) rfl ?_
          refine JQ.v (JV.load1 2 rfl rfl Tryd.isAgg27 (rfl)) rfl ?_
          refine JQ.v (JV.lenRo 100 rfl rfl Tryd.runUnderlying27) rfl ?_
          refine JQ.v (JV.lssN rfl rfl) rfl ?_
          refine JQ.nil ?_
          refine JQ.n_then ?_
          refine JQ.condP rfl (fun h34 => ?_) (fun h34 => ?_)
          · refine JQ.skip ?_
            refine JQ.n_then ?_
            refine JQ.seq ?_
            refine JQ.block ?_
            refine JQ.seq ?_
            refine JQ.region ?_
            refine JQ.v (JV.fieldAddrK (o := 1) rfl Tryd.runUnderlying29 rfl Tryd.sizeOf27 rfl rfl) rfl ?_
            refine JQ.v (JV.load1 2 rfl rfl Tryd.isAgg27 (rfl)) rfl ?_
            refine JQ.v (JV.move rfl) rfl ?_
            refine JQ.v (JV.idxRo 100 rfl rfl rfl Tryd.runUnderlying27 Tryd.sizeOf34 (by decide) (by have := hok.1; omega)) rfl ?_
            refine JQ.v (JV.loadRA 100 rfl rfl Tryd.isAgg34 Tryd.sizeOf34 (us := kc (Pl.at_ ks i)) (kc_at ks (by omega)) rfl (by decide)) rfl ?_
            refine JQ.x (JO.alloc 3 (zs := (kc Pl.Key.zero)) Tryd.zeroValue34 rfl) rfl ?_
            intro i7_5
            refine JQ.s (JO.storeV 3 rfl rfl rfl (us := kc (Pl.at_ ks i)) rfl Tryd.sizeOf34 rfl rfl) ?_
            refine JQ.nil ?_
            refine JQ.n_then ?_
            refine JQ.seq ?_
            refine JQ.region ?_
            refine JQ.v (JV.loadV 2 rfl rfl Tryd.isAgg29 Tryd.sizeOf29 rfl) rfl ?_
            refine JQ.v (JV.fieldAddrK (o := 0) rfl Tryd.runUnderlying34 rfl Tryd.sizeOf3 rfl rfl) rfl ?_
            refine JQ.v (JV.load1 3 rfl rfl Tryd.isAgg3 (rfl)) rfl ?_
            refine JQ.v (JV.callM Tryd.call21 (evs_cons rfl (evs_cons rfl evs_nil)) (fun w hw => rnext1_spec n kv ks (by have := hok.1; omega) hok.ver (Pl.at_ ks i).id w (hw.reads (id := 100) rfl))) rfl ?_
            refine JQ.v (JV.move rfl) rfl ?_
            refine JQ.v (JV.extract rfl rfl) rfl ?_
            refine JQ.v (JV.extract rfl rfl) rfl ?_
            refine JQ.v (JV.assign rfl) rfl ?_
            refine JQ.v (JV.assign rfl) rfl ?_
            refine JQ.nil ?_
            refine JQ.n_then ?_
            refine JQ.seq ?_
            refine JQ.region ?_
            refine JQ.v (JV.loadV 3 rfl rfl Tryd.isAgg34 Tryd.sizeOf34 rfl) rfl ?_
            refine JQ.v (JV.move rfl) rfl ?_
            refine JQ.v (JV.call Tryd.call50 (evs_cons rfl (evs_cons rfl evs_nil)) (rlive_pure _ _)) rfl ?_
            refine JQ.v (JV.assign rfl) rfl ?_
            refine JQ.nil ?_
            refine JQ.n_then ?_
            refine JQ.seq ?_
            refine JQ.region ?_
            refine JQ.v (JV.loadV 1 rfl rfl Tryd.isAgg26 Tryd.sizeOf26 rfl) rfl ?_
            refine JQ.v (JV.fieldAddrK (o := 1) rfl Tryd.runUnderlying34 rfl Tryd.sizeOf3 rfl rfl) rfl ?_
            refine JQ.v (JV.load1 3 rfl rfl Tryd.isAgg3 (rfl)) rfl ?_
            refine JQ.v (JV.callM Tryd.call51 (evs_cons rfl (evs_cons rfl (evs_cons rfl evs_nil))) (fun w hw => rhas_spec pn tv rv qv ts rs (Pl.at_ ks i).ty 1 w (hw.reads (id := 101) rfl))) rfl ?_
            refine JQ.v (JV.assign rfl) rfl ?_
            refine JQ.nil ?_
            refine JQ.n_then ?_
            refine JQ.seq ?_
            refine JQ.region ?_
            refine JQ.v (JV.move rfl) rfl ?_
            refine JQ.vb (JV.move rfl) rfl (fun g11_1 => ?_) (fun g11_1 => ?_)
            · refine JQ.vg rfl rfl (JV.move rfl) rfl ?_
              refine JQ.vg rfl rfl (JV.notB rfl) rfl ?_
              refine JQ.v (JV.pickT rfl rfl) rfl ?_
              refine JQ.vb (JV.move rfl) rfl (fun g11_5 => ?_) (fun g11_5 => ?_)
              · refine JQ.vg rfl rfl (JV.move rfl) rfl ?_
                refine JQ.v (JV.pickT rfl rfl) rfl ?_
                refine JQ.vb (JV.move rfl) rfl (fun g11_8 => ?_) (fun g11_8 => ?_)
                · refine JQ.vg rfl rfl (JV.fieldAddrK (o := 5) rfl Tryd.runUnderlying34 rfl Tryd.sizeOf3 rfl rfl) rfl ?_
                  refine JQ.vg rfl rfl (JV.load1 3 rfl rfl Tryd.isAgg3 (rfl)) rfl ?_
                  refine JQ.vg rfl rfl (JV.move rfl) rfl ?_
                  refine JQ.vg rfl rfl (JV.move rfl) rfl ?_
                  refine JQ.vg rfl rfl (JV.addI rfl rfl (by omega)) rfl ?_
                  refine JQ.vg rfl rfl (JV.leq rfl rfl) rfl ?_
                  refine JQ.v (JV.pickT rfl rfl) rfl ?_
                  refine JQ.nil ?_
                  refine JQ.n_then ?_
                  refine JQ.condP rfl (fun h71 => ?_) (fun h71 => ?_)
                  · have hle := dueN_len ts ks now ahead i
                    have hl4 := hok.1
                    refine JQ.region ?_
                    refine JQ.v (JV.move rfl) rfl ?_
                    refine JQ.v (JV.fieldAddrK (o := 0) rfl Tryd.runUnderlying34 rfl Tryd.sizeOf3 rfl rfl) rfl ?_
                    refine JQ.v (JV.load1 3 rfl rfl Tryd.isAgg3 (rfl)) rfl ?_
                    refine JQ.x (JO.buildSlice 4 (us := [iv (Pl.at_ ks i).id]) (e := 3) (evp_cons rfl evp_nil) (fun w => by kernel_rfl)) rfl ?_
                    intro i12_3
                    refine JQ.x (JO.append 303 elem3 rfl rfl rfl (fun w hw => Src.ro Tryd.underlying44 (reads_cells (hw.blk (id := 4) rfl) (show (_ : List Value) = ([iv (Pl.at_ ks i).id] : List Value) from rfl) rfl (by decide))) rfl (by omega) (by omega)) rfl ?_
                    intro i12_4
                    refine JQ.v (JV.assign rfl) rfl ?_
                    refine JQ.nil ?_
                    refine JQ.n_block ?_
                    refine JQ.n_then ?_
                    have hl5 := hok.1
                    refine JQ.region ?_
                    refine JQ.v (JV.move rfl) rfl ?_
                    refine JQ.v (JV.addN (b := 1) rfl rfl (by omega)) rfl ?_
                    refine JQ.v (JV.assign rfl) rfl ?_
                    refine JQ.nil ?_
                    refine JQ.n_then ?_
                    exact JQ.nextI (i + 1, i12_4) (by show i + 1 ≤ _; omega) (by show _ - (i + 1) < _ - i; omega) (subk_cons rfl (subk_cons rfl (subk_cons rfl (subk_cons rfl (subk_cons rfl (subk_cons rfl subk_nil)))))) (subr_cons rfl (subr_cons rfl (subr_cons (by rw [dueN_pos (by rw [dueK_R, g11_1, g11_5, g11_8, decide_eq_true h71]; rfl), List.length_append, List.map_append]; rfl) (subr_cons rfl (subr_cons rfl subr_nil)))))
                  · refine JQ.skip ?_
                    refine JQ.n_block ?_
                    refine JQ.n_then ?_
                    have hl5 := hok.1
                    refine JQ.region ?_
                    refine JQ.v (JV.move rfl) rfl ?_
                    refine JQ.v (JV.addN (b := 1) rfl rfl (by omega)) rfl ?_
                    refine JQ.v (JV.assign rfl) rfl ?_
                    refine JQ.nil ?_
                    refine JQ.n_then ?_
                    exact JQ.nextI (i + 1, vb) (by show i + 1 ≤ _; omega) (by show _ - (i + 1) < _ - i; omega) (subk_cons rfl (subk_cons rfl (subk_cons rfl (subk_cons rfl (subk_cons rfl (subk_cons rfl subk_nil)))))) (subr_cons rfl (subr_cons rfl (subr_cons (by rw [dueN_neg (by rw [dueK_R, g11_1, g11_5, g11_8, decide_eq_false h71]; rfl)]; rfl) (subr_cons rfl (subr_cons rfl subr_nil)))))
                · refine JQ.g0 rfl rfl rfl rfl ?_
                  refine JQ.g0 rfl rfl rfl rfl ?_
                  refine JQ.g0 rfl rfl rfl rfl ?_
                  refine JQ.g0 rfl rfl rfl rfl ?_
                  refine JQ.g0 rfl rfl rfl rfl ?_
                  refine JQ.g0 rfl rfl rfl rfl ?_
                  refine JQ.v (JV.pickF rfl rfl) rfl ?_
                  refine JQ.nil ?_
                  refine JQ.n_then ?_
                  refine JQ.condF rfl ?_
                  refine JQ.skip ?_
                  refine JQ.n_block ?_
                  refine JQ.n_then ?_
                  have hl5 := hok.1
                  refine JQ.region ?_
                  refine JQ.v (JV.move rfl) rfl ?_
                  refine JQ.v (JV.addN (b := 1) rfl rfl (by omega)) rfl ?_
                  refine JQ.v (JV.assign rfl) rfl ?_
                  refine JQ.nil ?_
                  refine JQ.n_then ?_
                  exact JQ.nextI (i + 1, vb) (by show i + 1 ≤ _; omega) (by show _ - (i + 1) < _ - i; omega) (subk_cons rfl (subk_cons rfl (subk_cons rfl (subk_cons rfl (subk_cons rfl (subk_cons rfl subk_nil)))))) (subr_cons rfl (subr_cons rfl (subr_cons (by rw [dueN_neg (by rw [dueK_R, g11_1, g11_5, g11_8]; rfl)]; rfl) (subr_cons rfl (subr_cons rfl subr_nil)))))
              · refine JQ.g0 rfl rfl rfl rfl ?_
                refine JQ.v (JV.pickF rfl rfl) rfl ?_
                refine JQ.v (JV.move rfl) rfl ?_
                refine JQ.g0 rfl rfl rfl rfl ?_
                refine JQ.g0 rfl rfl rfl rfl ?_
                refine JQ.g0 rfl rfl rfl rfl ?_
                refine JQ.g0 rfl rfl rfl rfl ?_
                refine JQ.g0 rfl rfl rfl rfl ?_
                refine JQ.g0 rfl rfl rfl rfl ?_
                refine JQ.v (JV.pickF rfl rfl) rfl ?_
                refine JQ.nil ?_
                refine JQ.n_then ?_
                refine JQ.condF rfl ?_
                refine JQ.skip ?_
                refine JQ.n_block ?_
                refine JQ.n_then ?_
                have hl5 := hok.1
                refine JQ.region ?_
                refine JQ.v (JV.move rfl) rfl ?_
                refine JQ.v (JV.addN (b := 1) rfl rfl (by omega)) rfl ?_
                refine JQ.v (JV.assign rfl) rfl ?_
                refine JQ.nil ?_
                refine JQ.n_then ?_
                exact JQ.nextI (i + 1, vb) (by show i + 1 ≤ _; omega) (by show _ - (i + 1) < _ - i; omega) (subk_cons rfl (subk_cons rfl (subk_cons rfl (subk_cons rfl (subk_cons rfl (subk_cons rfl subk_nil)))))) (subr_cons rfl (subr_cons rfl (subr_cons (by rw [dueN_neg (by rw [dueK_R, g11_1, g11_5]; rfl)]; rfl) (subr_cons rfl (subr_cons rfl subr_nil)))))
            · refine JQ.g0 rfl rfl rfl rfl ?_
              refine JQ.g0 rfl rfl rfl rfl ?_
              refine JQ.v (JV.pickF rfl rfl) rfl ?_
              refine JQ.v (JV.move rfl) rfl ?_
              refine JQ.g0 rfl rfl rfl rfl ?_
              refine JQ.v (JV.pickF rfl rfl) rfl ?_
              refine JQ.v (JV.move rfl) rfl ?_
              refine JQ.g0 rfl rfl rfl rfl ?_
              refine JQ.g0 rfl rfl rfl rfl ?_
              refine JQ.g0 rfl rfl rfl rfl ?_
              refine JQ.g0 rfl rfl rfl rfl ?_
              refine JQ.g0 rfl rfl rfl rfl ?_
              refine JQ.g0 rfl rfl rfl rfl ?_
              refine JQ.v (JV.pickF rfl rfl) rfl ?_
              refine JQ.nil ?_
              refine JQ.n_then ?_
              refine JQ.condF rfl ?_
              refine JQ.skip ?_
              refine JQ.n_block ?_
              refine JQ.n_then ?_
              have hl5 := hok.1
              refine JQ.region ?_
              refine JQ.v (JV.move rfl) rfl ?_
              refine JQ.v (JV.addN (b := 1) rfl rfl (by omega)) rfl ?_
              refine JQ.v (JV.assign rfl) rfl ?_
              refine JQ.nil ?_
              refine JQ.n_then ?_
              exact JQ.nextI (i + 1, vb) (by show i + 1 ≤ _; omega) (by show _ - (i + 1) < _ - i; omega) (subk_cons rfl (subk_cons rfl (subk_cons rfl (subk_cons rfl (subk_cons rfl (subk_cons rfl subk_nil)))))) (subr_cons rfl (subr_cons rfl (subr_cons (by rw [dueN_neg (by rw [dueK_R, g11_1]; rfl)]; rfl) (subr_cons rfl (subr_cons rfl subr_nil)))))
          · have er : i = ks.length := by omega
            subst er
            refine JQ.exit ?_
            refine JQ.e_then ?_
            refine JQ.e_then ?_
            refine JQ.e_here ?_
            refine JQ.n_then ?_
            refine JQ.seq ?_
            refine JQ.region ?_
            refine JQ.v (JV.move rfl) rfl ?_
            refine JQ.v (JV.assign rfl) rfl ?_
            refine JQ.nil ?_
            refine JQ.n_then ?_
            refine JQ.ret ?_
            refine JQ.done1 Tryd.results28 rfl ?_
            exact fun w hw => ⟨_, rfl, by rw [dueL, if_neg (by rw [hb]; decide)]; exact newRo_row (hw.ok 303 _ rfl), hw.below⟩
end Go.Fw
end
section
open Go.RowKit
set_option maxRecDepth 100000
set_option linter.unusedVariables false
set_option linter.unusedSimpArgs false
namespace Go.Fw
open Go.Proofs
theorem elemI : True := trivial
structure Rs where
  n : Int
  ks : List Pl.Key
  sd : List UInt8
  ids : List Int
  e : Int
def allR (ts : List Pl.Typ) (rs : List Pl.Rule) (now : Int) : Int → List Pl.Key → List UInt8 → List Int → List Int → Rs
  | n, ks, sd, made, [] => ⟨n, ks, sd, made, 0⟩
  | n, ks, sd, made, id :: rest => if keyE ts rs n ks now id ≠ 0 then ⟨0, [], [], [], keyE ts rs n ks now id⟩
    else allR ts rs now (keyT ts rs n ks now id sd).next (keyT ts rs n ks now id sd).keys (keyS ts rs n ks now id sd) (made ++ [keyI ts rs n ks now id]) rest
theorem allR_step {ts : List Pl.Typ} {rs : List Pl.Rule} {now n : Int} {ks : List Pl.Key} {sd : List UInt8} {made is : List Int} {i : Nat} (h : i < is.length) :
    allR ts rs now n ks sd made (is.drop i) = if keyE ts rs n ks now (is.getD i 0) ≠ 0 then ⟨0, [], [], [], keyE ts rs n ks now (is.getD i 0)⟩
    else allR ts rs now (keyT ts rs n ks now (is.getD i 0) sd).next (keyT ts rs n ks now (is.getD i 0) sd).keys (keyS ts rs n ks now (is.getD i 0) sd) (made ++ [keyI ts rs n ks now (is.getD i 0)]) (is.drop (i + 1)) := by
  have e : is.drop i = is.getD i 0 :: is.drop (i + 1) := by rw [List.drop_eq_getElem_cons h, List.getD_eq_getElem?_getD, List.getElem?_eq_getElem h]; rfl
  rw [e, allR]
theorem slv_app (v : Value) (n : Nat) {m : Nat} : slv v (m + 1) = slv (slv v (m + 1)) (m + 1) := rfl
theorem at_app_lt {l : List Pl.Key} {x : Pl.Key} {i : Nat} (h : i < l.length) : Pl.at_ (l ++ [x]) i = Pl.at_ l i := by
  rw [Pl.at_, Pl.at_, List.getD_eq_getElem?_getD, List.getD_eq_getElem?_getD, List.getElem?_append_left h]
theorem at_app_eq {l : List Pl.Key} {x : Pl.Key} : Pl.at_ (l ++ [x]) l.length = x := by
  rw [Pl.at_, List.getD_eq_getElem?_getD, List.getElem?_append_right (Nat.le_refl _), Nat.sub_self]; rfl
theorem at_set {l : List Pl.Key} {x : Pl.Key} {i j : Nat} (h : j < l.length) : Pl.at_ (l.set j x) i = if i = j then x else Pl.at_ l i := by
  rw [Pl.at_, Pl.at_, List.getD_eq_getElem?_getD, List.getD_eq_getElem?_getD, List.getElem?_set]
  by_cases e : j = i
  · subst e; rw [if_pos rfl, if_pos rfl, if_pos h]; rfl
  · rw [if_neg e, if_neg (Ne.symm e)]
theorem keyE_ok {ts : List Pl.Typ} {rs : List Pl.Rule} {n : Int} {ks : List Pl.Key} {now id : Int} (h : keyE ts rs n ks now id = 0) : kchk ts rs ks now id = 0 ∧ n < 2147483647 := by
  unfold keyE at h
  split at h
  · rename_i h1; exact absurd h h1
  · rename_i h1
    refine ⟨Decidable.not_not.1 h1, ?_⟩
    unfold addE at h; split at h
    · cases h
    · omega
theorem keyT_eq {ts : List Pl.Typ} {rs : List Pl.Rule} {n : Int} {ks : List Pl.Key} {now id : Int} (h : keyE ts rs n ks now id = 0) (sd : List UInt8) :
    keyT ts rs n ks now id sd = ⟨n + 1, keys1 ks id ++ [withId n (fresh ts (Pl.getK ks id) now id sd)]⟩ ∧ keyS ts rs n ks now id sd = Pl.seed sd ∧ keyI ts rs n ks now id = n := by
  obtain ⟨h1, h2⟩ := keyE_ok h
  have h3 : ¬ 2147483647 ≤ n := by omega
  refine ⟨?_, ?_, ?_⟩
  · rw [keyT, if_neg (by rw [h1]; decide), addT, if_neg h3]
  · rw [keyS, if_neg (by rw [h1]; decide), if_neg (by rw [addE, if_neg h3]; decide)]
  · rw [keyI, if_neg (by rw [h1]; decide), addI, if_neg h3]
theorem keys1_at {ks : List Pl.Key} {id : Int} (h : Pl.ix ks id < ks.length) (i : Nat) : Pl.at_ (keys1 ks id) i = if i = Pl.ix ks id then kept (Pl.getK ks id) else Pl.at_ ks i := at_set h
theorem keys1_id {ks : List Pl.Key} {id : Int} (h : Pl.ix ks id < ks.length) (i : Nat) : (Pl.at_ (keys1 ks id) i).id = (Pl.at_ ks i).id := by
  rw [keys1_at h]; split
  · rename_i e; rw [e]; rfl
  · rfl
theorem key_tabOk {ts : List Pl.Typ} {rs : List Pl.Rule} {n : Int} {ks : List Pl.Key} {now id : Int} (hok : tabOk n ks) (hl : ks.length < 4000) (h : keyE ts rs n ks now id = 0) (sd : List UInt8) (hsd : sd.length ≤ 1048576) :
    tabOk (keyT ts rs n ks now id sd).next (keyT ts rs n ks now id sd).keys ∧ (keyT ts rs n ks now id sd).keys.length = ks.length + 1 ∧ (keyS ts rs n ks now id sd).length ≤ 1048576 := by
  obtain ⟨hT, hS, _⟩ := keyT_eq h sd
  obtain ⟨h1, h2⟩ := keyE_ok h
  have hk := kchk_ok hok h1
  have hf := fresh_ok hok hk sd
  have hix := hk.2.1.1
  have hlen : (keys1 ks id ++ [withId n (fresh ts (Pl.getK ks id) now id sd)]).length = ks.length + 1 := by rw [List.length_append, keys1_len]; rfl
  have key : ∀ i, i < ks.length → vkR (Pl.at_ (keys1 ks id) i) = true ∧ 0 < (Pl.at_ (keys1 ks id) i).id ∧ (Pl.at_ (keys1 ks id) i).id < n ∧ (Pl.at_ (keys1 ks id) i).par < n := by
    intro i hi
    rw [keys1_at hix]
    split
    · have := hok.2.2.2 _ hix; exact ⟨kept_ok hk.2.2.1, this.2⟩
    · exact hok.2.2.2 i hi
  rw [hT, hS]
  refine ⟨⟨by show List.length _ ≤ 4000; rw [hlen]; omega, by have := hok.2.1; show 1 ≤ n + 1 ∧ n + 1 ≤ _; omega, ?_, ?_⟩, hlen, by rw [Pl.seed_len]; decide⟩
  · intro i j hij hj
    rw [hlen] at hj
    have hi : i < (keys1 ks id).length := by rw [keys1_len]; omega
    show (Pl.at_ (keys1 ks id ++ [_]) i).id < (Pl.at_ (keys1 ks id ++ [_]) j).id
    rw [at_app_lt hi]
    rcases Nat.lt_or_ge j ks.length with h3 | h3
    · rw [at_app_lt (by rw [keys1_len]; exact h3), keys1_id hix, keys1_id hix]; exact hok.2.2.1 i j hij h3
    · have e : j = (keys1 ks id).length := by rw [keys1_len]; omega
      rw [e, at_app_eq]
      have := key i (by omega)
      show _ < n
      omega
  · intro i hi
    replace hi : i < ks.length + 1 := by rw [← hlen]; exact hi
    show vkR (Pl.at_ (keys1 ks id ++ [_]) i) = true ∧ 0 < (Pl.at_ (keys1 ks id ++ [_]) i).id ∧ (Pl.at_ (keys1 ks id ++ [_]) i).id < n + 1 ∧ (Pl.at_ (keys1 ks id ++ [_]) i).par < n + 1
    rcases Nat.lt_or_ge i ks.length with h3 | h3
    · rw [at_app_lt (by rw [keys1_len]; exact h3)]
      have := key i h3
      refine ⟨this.1, this.2.1, ?_, ?_⟩ <;> omega
    · have e : i = (keys1 ks id).length := by rw [keys1_len]; omega
      rw [e, at_app_eq]
      refine ⟨hf.1, ?_, ?_, ?_⟩
      · show 0 < n; have := hok.2.1; omega
      · show n < n + 1; omega
      · show id < n + 1; have := hf.2.1; omega
theorem reads_knil (w : World) : Reads w (.slice none 0 0) 9 (Rs.ks ⟨0, [], [], [], (0 : Int)⟩).length (kcs []) := ⟨rfl, none, 0, rfl, ⟨Nat.le_refl _, by decide⟩, .inl rfl⟩
attribute [local irreducible] kcs tcs rcs Pl.ix Pl.lb Pl.getE Pl.getK Pl.fnd Pl.nextO Pl.at_ Pl.line Pl.tyAt Pl.isTy Pl.outG Pl.outR Pl.usesG Pl.usesR Pl.nextB Pl.nextI kchk kchK life0 lifeK addT addI addE keyT keyE keyS keyI allR
set_option maxHeartbeats 1000000 in
theorem all_spec0 (pn : List UInt8) (tv rv qv : Value) (ts : List Pl.Typ) (rs : List Pl.Rule) (htl : ts.length ≤ 1048576) (hrl : rs.length ≤ 1048576) (n : Int) (aa : Option Addr) (cc : Nat) (ks : List Pl.Key) (hok : tabOk n ks) (hk30 : ks.length ≤ 2000) (sd : List UInt8) (hsd : sd.length ≤ 1048576) (now : Int) (iw : Value) (is : List Int) (his : is.length ≤ 1000) (w : World) (ht : Reads w tv 3 ts.length (tcs ts)) (hru : Reads w rv 3 rs.length (rcs rs)) (hr : Reads w (.slice aa ks.length cc) 9 ks.length (kcs ks)) (hi : Reads w iw 1 is.length (is.map iv)) (hB : Gl 0 byRule w) (hG : Gl 2 (Pl.K.map u32) w) :
    Calls Tryd.prog 25 #[.agg [str pn, tv, rv, qv].toArray, .agg [iv n, (.slice aa ks.length cc)].toArray, .agg [str sd].toArray, iv now, iw] w fun e w' => ∃ v m, e = .returned (.tuple #[.agg [iv (allR ts rs now n ks sd [] is).n, v].toArray, .agg [str (allR ts rs now n ks sd [] is).sd].toArray, m, iv (allR ts rs now n ks sd [] is).e]) ∧ Reads w' v 9 (allR ts rs now n ks sd [] is).ks.length (kcs (allR ts rs now n ks sd [] is).ks) ∧ ((v = (.slice aa ks.length cc) ∧ kcs (allR ts rs now n ks sd [] is).ks = kcs ks) ∨ fresh? w v) ∧ NewRo w m 1 (allR ts rs now n ks sd [] is).ids.length ((allR ts rs now n ks sd [] is).ids.map iv) w' ∧ Below w.heap.size w w' := by
  
  refine enterA (vs := [_, _, _, _, _]) Tryd.func25 rfl 53 rfl [(902, .ro (gv 2 64) 1 64 (Pl.K.map u32)), (900, .ro (gv 0 15) 1 15 byRule), (101, .ro tv 3 ts.length (tcs ts)), (102, .ro rv 3 rs.length (rcs rs)), (100, .ro (.slice aa ks.length cc) 9 ks.length (kcs ks)), (105, .ro iw 1 is.length (is.map iv))] ((((((MemOk.start1 105 hi).addRo 100 hr (ro_cons ro_nil)).addRo 102 hru (ro_cons (ro_cons ro_nil))).addRo 101 ht (ro_cons (ro_cons (ro_cons ro_nil)))).addRo 900 hB (ro_cons (ro_cons (ro_cons (ro_cons ro_nil))))).addRo 902 hG (ro_cons (ro_cons (ro_cons (ro_cons (ro_cons ro_nil)))))) ?_
  refine JQ.seq ?_
  refine JQ.region ?_
  refine JQ.x (JO.box 1 rfl rfl) rfl ?_
  intro i0_0
  refine JQ.x (JO.box 2 rfl rfl) rfl ?_
  intro i0_1
  refine JQ.x (JO.box 3 rfl rfl) rfl ?_
  intro i0_2
  refine JQ.x (JO.alloc 4 (zs := [iv 0, .slice none 0 0]) Tryd.zeroValue29 rfl) rfl ?_
  intro i0_3
  refine JQ.x (JO.alloc 5 (zs := [str []]) Tryd.zeroValue39 rfl) rfl ?_
  intro i0_4
  refine JQ.v (JV.assign rfl) rfl ?_
  refine JQ.v (JV.assign rfl) rfl ?_
  refine JQ.nil ?_
  refine JQ.n_then ?_
  refine JQ.seq ?_
  refine JQ.region ?_
  refine JQ.v (JV.assign rfl) rfl ?_
  refine JQ.nilRow 303 3 1 ?_
  refine JQ.nil ?_
  refine JQ.n_then ?_
  refine JQ.seq ?_
  refine JQ.seq ?_
  refine JQ.region ?_
  refine JQ.v (JV.move rfl) rfl ?_
  refine JQ.v (JV.lenRo 105 rfl rfl Tryd.runUnderlying44) rfl ?_
  refine JQ.v (JV.move rfl) rfl ?_
  refine JQ.nil ?_
  refine JQ.n_then ?_
  refine JQ.block ?_
  refine JQ.loopI (ι := Nat × Int × List Pl.Key × Value × List UInt8 × List Int × Value) (fun i => [(3, iv now), (5, .pointer (some ⟨i0_0, 0, none⟩)), (6, .pointer (some ⟨i0_1, 0, none⟩)), (7, .pointer (some ⟨i0_2, 0, none⟩)), (10, .pointer (some ⟨i0_3, 0, none⟩)), (11, .pointer (some ⟨i0_4, 0, none⟩)), (14, i.2.2.2.2.2.2), (21, iw), (22, .int .i64 ((is.length : Nat) : Int)), (23, .int .i64 ((i.1 : Nat) : Int))]) (fun i => [(1, .cells i0_0 [str pn, tv, rv, qv] 26 (0, 0)), (2, .cells i0_1 [iv i.2.1, i.2.2.2.1] 29 (0, 0)), (3, .cells i0_2 [str i.2.2.2.2.1] 39 (0, 0)), (4, .cells i0_3 [iv 0, .slice none 0 0] 29 (0, 0)), (5, .cells i0_4 [str []] 39 (0, 0)), (303, .row i.2.2.2.2.2.2 3 1 i.2.2.2.2.2.1.length (i.2.2.2.2.2.1.map iv)), (101, .ro tv 3 ts.length (tcs ts)), (102, .ro rv 3 rs.length (rcs rs)), (100, .ro i.2.2.2.1 9 i.2.2.1.length (kcs i.2.2.1)), (105, .ro iw 1 is.length (is.map iv)), (900, .ro (gv 0 15) 1 15 byRule), (902, .ro (gv 2 64) 1 64 (Pl.K.map u32))]) (fun i => (i.1 ≤ is.length ∧ (tabOk i.2.1 i.2.2.1 ∧ i.2.2.1.length ≤ ks.length + i.1) ∧ i.2.2.2.2.1.length ≤ 1048576) ∧ i.2.2.2.2.2.1.length = i.1 ∧ ((i.2.2.2.1 = (.slice aa ks.length cc) ∧ kcs i.2.2.1 = kcs ks) ∨ fresh? w i.2.2.2.1) ∧ i.2.2.2.1 = slv i.2.2.2.1 i.2.2.1.length ∧ i.2.2.2.2.2.2 = slv i.2.2.2.2.2.2 i.2.2.2.2.2.1.length ∧ (allR ts rs now n ks sd [] is) = allR ts rs now i.2.1 i.2.2.1 i.2.2.2.2.1 i.2.2.2.2.2.1 (is.drop i.1)) (fun i => is.length - i.1) (0, n, ks, (.slice aa ks.length cc), sd, [], .slice none 0 0) ⟨⟨Nat.zero_le _, ⟨hok, Nat.le_refl _⟩, hsd⟩, rfl, .inl ⟨rfl, rfl⟩, rfl, rfl, rfl⟩ (subk_cons rfl (subk_cons rfl (subk_cons rfl (subk_cons rfl (subk_cons rfl (subk_cons rfl (subk_cons rfl (subk_cons rfl (subk_cons rfl (subk_cons rfl subk_nil)))))))))) (subr_cons rfl (subr_cons rfl (subr_cons rfl (subr_cons rfl (subr_cons rfl (subr_cons rfl (subr_cons rfl (subr_cons rfl (subr_cons rfl (subr_cons rfl (subr_cons rfl (subr_cons rfl subr_nil)))))))))))) ?_
  rintro ⟨i, n1, ks1, kv1, sd1, made, vb⟩ ⟨⟨hi1, hok1, hsd1⟩, hml, hnew, hkv1, hvb, hA⟩
  dsimp only at hi1 hok1 hsd1 hml hnew hkv1 hvb hA
  show JQ _ _ [(3, iv now), (5, .pointer (some ⟨i0_0, 0, none⟩)), (6, .pointer (some ⟨i0_1, 0, none⟩)), (7, .pointer (some ⟨i0_2, 0, none⟩)), (10, .pointer (some ⟨i0_3, 0, none⟩)), (11, .pointer (some ⟨i0_4, 0, none⟩)), (14, vb), (21, iw), (22, .int .i64 ((is.length : Nat) : Int)), (23, .int .i64 ((i : Nat) : Int))] [(1, .cells i0_0 [str pn, tv, rv, qv] 26 (0, 0)), (2, .cells i0_1 [iv n1, kv1] 29 (0, 0)), (3, .cells i0_2 [str sd1] 39 (0, 0)), (4, .cells i0_3 [iv 0, .slice none 0 0] 29 (0, 0)), (5, .cells i0_4 [str []] 39 (0, 0)), (303, .row vb 3 1 made.length (made.map iv)), (101, .ro tv 3 ts.length (tcs ts)), (102, .ro rv 3 rs.length (rcs rs)), (100, .ro kv1 9 ks1.length (kcs ks1)), (105, .ro iw 1 is.length (is.map iv)), (900, .ro (gv 0 15) 1 15 byRule), (902, .ro (gv 2 64) 1 64 (Pl.K.map u32))] _
  refine JQ.seq ?_
  refine JQ.region ?_
  refine JQ.v (JV.lssN rfl rfl) rfl ?_
  refine JQ.nil ?_
  refine JQ.n_then ?_
  refine JQ.seq ?_
  refine JQ.condP rfl (fun h24 => ?_) (fun h24 => ?_)
  · refine JQ.skip ?_
    refine JQ.n_then ?_
    refine JQ.seq ?_
    refine JQ.block ?_
    refine JQ.seq ?_
    refine JQ.region ?_
    refine JQ.v (JV.idxRo1 105 rfl rfl rfl Tryd.runUnderlying44 Tryd.sizeOf3 (by decide) (by omega)) rfl ?_
    refine JQ.v (JV.loadR 105 rfl rfl Tryd.isAgg3 (ivs_at (by omega))) rfl ?_
    refine JQ.v (JV.assign rfl) rfl ?_
    refine JQ.nil ?_
    refine JQ.n_then ?_
    refine JQ.seq ?_
    refine JQ.region ?_
    refine JQ.v (JV.loadV 1 rfl rfl Tryd.isAgg26 Tryd.sizeOf26 rfl) rfl ?_
    refine JQ.v (JV.loadV 2 rfl rfl Tryd.isAgg29 Tryd.sizeOf29 rfl) rfl ?_
    refine JQ.v (JV.loadV 3 rfl rfl Tryd.isAgg39 Tryd.sizeOf39 rfl) rfl ?_
    refine JQ.v (JV.move rfl) rfl ?_
    refine JQ.v (JV.move rfl) rfl ?_
    refine JQ.x (JO.callRowV 100 (fun v => .tuple #[.agg [iv (keyT ts rs n1 ks1 now (is.getD i 0) sd1).next, v].toArray, .agg [str (keyS ts rs n1 ks1 now (is.getD i 0) sd1)].toArray, iv (keyI ts rs n1 ks1 now (is.getD i 0)), iv (keyE ts rs n1 ks1 now (is.getD i 0))]) Tryd.call13 (evs_cons rfl (evs_cons rfl (evs_cons rfl (evs_cons rfl (evs_cons rfl evs_nil))))) (fun w hw => key_spec pn tv rv qv ts rs htl hrl n1 kv1 ks1 hok1.1 sd1 hsd1 now (is.getD i 0) w (hw.reads (id := 101) rfl) (hw.reads (id := 102) rfl) (hw.reads (id := 100) rfl) (hw.reads (id := 900) rfl) (hw.reads (id := 902) rfl))) rfl ?_
    intro i5_5
    refine JQ.rowNew 100 rfl (fun hfr => ?_)
    refine JQ.roOf 100 rfl ?_
    refine JQ.v (JV.move rfl) rfl ?_
    refine JQ.v (JV.extract rfl rfl) rfl ?_
    refine JQ.v (JV.extract rfl rfl) rfl ?_
    refine JQ.v (JV.extract rfl rfl) rfl ?_
    refine JQ.v (JV.extract rfl rfl) rfl ?_
    refine JQ.x (JO.alloc 6 (zs := [iv 0, .slice none 0 0]) Tryd.zeroValue29 rfl) rfl ?_
    intro i5_11
    refine JQ.x (JO.alloc 7 (zs := [str []]) Tryd.zeroValue39 rfl) rfl ?_
    intro i5_12
    refine JQ.s (JO.storeV 6 rfl rfl rfl (us := [iv (keyT ts rs n1 ks1 now (is.getD i 0) sd1).next, slv i5_5 (keyT ts rs n1 ks1 now (is.getD i 0) sd1).keys.length]) rfl Tryd.sizeOf29 rfl rfl) ?_
    refine JQ.s (JO.storeV 7 rfl rfl rfl (us := [str (keyS ts rs n1 ks1 now (is.getD i 0) sd1)]) rfl Tryd.sizeOf39 rfl rfl) ?_
    refine JQ.v (JV.assign rfl) rfl ?_
    refine JQ.v (JV.assign rfl) rfl ?_
    refine JQ.nil ?_
    refine JQ.n_then ?_
    refine JQ.seq ?_
    refine JQ.seq ?_
    refine JQ.region ?_
    refine JQ.v (JV.move rfl) rfl ?_
    refine JQ.v (JV.neqI rfl rfl) rfl ?_
    refine JQ.nil ?_
    refine JQ.n_then ?_
    refine JQ.condP rfl (fun h39 => ?_) (fun h39 => ?_)
    · refine JQ.seq ?_
      refine JQ.region ?_
      refine JQ.v (JV.build (v := .agg [iv 0, .slice none 0 0].toArray) evp_nil (fun w => by kernel_rfl)) rfl ?_
      refine JQ.v (JV.build (v := .agg [str []].toArray) evp_nil (fun w => by kernel_rfl)) rfl ?_
      refine JQ.v (JV.move rfl) rfl ?_
      refine JQ.s (JO.storeV 4 rfl rfl rfl (us := [iv 0, .slice none 0 0]) rfl Tryd.sizeOf29 rfl rfl) ?_
      refine JQ.s (JO.storeV 5 rfl rfl rfl (us := [str []]) rfl Tryd.sizeOf39 rfl rfl) ?_
      refine JQ.v (JV.assign rfl) rfl ?_
      refine JQ.v (JV.assign rfl) rfl ?_
      refine JQ.nil ?_
      refine JQ.n_then ?_
      refine JQ.ret ?_
      refine JQ.r_then ?_
      refine JQ.r_block ?_
      refine JQ.r_then ?_
      refine JQ.r_then ?_
      refine JQ.r_block ?_
      refine JQ.r_then ?_
      refine JQ.doneCCTT 4 5 Tryd.results25 rfl rfl rfl rfl rfl rfl Tryd.isAgg29 Tryd.isAgg39 Tryd.sizeOf29 Tryd.sizeOf39 rfl rfl ?_
      have e : allR ts rs now n ks sd [] is = ⟨0, [], [], [], (keyE ts rs n1 ks1 now (is.getD i 0))⟩ := by rw [hA, allR_step (by omega), if_pos h39]
      exact fun w hw => by rw [e]; exact ⟨.slice none 0 0, .slice none 0 0, rfl, reads_knil _, .inr (fresh_nil _), newRo_nil _ _ 1, hw.below⟩
    · refine JQ.skip ?_
      refine JQ.n_then ?_
      have hT := key_tabOk hok1.1 (by have := hok1.2; omega) (Decidable.not_not.1 h39) sd1 hsd1
      refine JQ.any [_, _, _, _, _, _, _, _, _] [fun _ => [], fun _ => [], fun _ => [], fun _ => [], _, _, _, _, fun _ => []] [⟨[6], [], [], []⟩, ⟨[7], [], [], []⟩, ⟨[], [], [], []⟩, ⟨[], [], [], []⟩, ⟨[], [8], [], [3]⟩, ⟨[8], [303], [4], [2, 3, 4]⟩, ⟨[], [2], [], [0, 2, 3, 4, 5]⟩, ⟨[], [3], [], [0, 1, 2, 3, 4, 5, 6]⟩, ⟨[], [], [4, 5], [0, 1, 2, 3, 4, 5, 6, 7]⟩] Tryd.mixed rfl (by kernel_rfl) ⟨Ob.v rfl (fun _ _ h => by cases h) (fun _ _ _ => rfl) (fun e L' hL => JV.loadV 6 rfl ((hL 6 (by decide)).trans rfl) Tryd.isAgg29 Tryd.sizeOf29 rfl),
                Ob.v rfl (fun _ _ h => by cases h) (fun _ _ _ => rfl) (fun e L' hL => JV.loadV 7 rfl ((hL 7 (by decide)).trans rfl) Tryd.isAgg39 Tryd.sizeOf39 rfl),
                Ob.v rfl (fun _ _ h => by cases h) (fun _ _ _ => rfl) (fun e L' hL => JV.move rfl),
                Ob.v rfl (fun _ _ h => by cases h) (fun _ _ _ => rfl) (fun e L' hL => JV.move rfl),
                Ob.nb 8 rfl (fun _ _ h => by cases h) (fun _ _ _ => ⟨rfl, rfl⟩) (by decide) (fun e L' hL => JO.buildSlice 8 (us := [iv (keyI ts rs n1 ks1 now (is.getD i 0))]) (e := 3) (evp_cons rfl evp_nil) (fun w => by kernel_rfl)),
                Ob.val 303 rfl (fun _ _ h => by cases h) (fun e e' he => by constructor <;> (funext z; first | rfl | simp only [he 4 (by decide)])) (by decide) (fun e L' hL => JO.appendS 303 (m := 1) elem3 rfl rfl ((hL 303 (by decide)).trans rfl) (fun w hw => Src.ro Tryd.underlying44 (reads_cells9 (hw.blk (id := 8) ((hL 8 (by decide)).trans rfl)) rfl rfl (by decide))) rfl (by omega) (by omega)),
                Ob.s 2 rfl (fun _ _ h => by cases h) (fun _ _ _ => rfl) (fun e L' hL => JO.storeV 2 rfl ((hL 2 (by decide)).trans rfl) rfl (us := [iv (keyT ts rs n1 ks1 now (is.getD i 0) sd1).next, slv i5_5 (keyT ts rs n1 ks1 now (is.getD i 0) sd1).keys.length]) rfl Tryd.sizeOf29 rfl rfl),
                Ob.s 3 rfl (fun _ _ h => by cases h) (fun _ _ _ => rfl) (fun e L' hL => JO.storeV 3 rfl ((hL 3 (by decide)).trans rfl) rfl (us := [str (keyS ts rs n1 ks1 now (is.getD i 0) sd1)]) rfl Tryd.sizeOf39 rfl rfl),
                Ob.v rfl (fun _ _ h => by cases h) (fun e e' he => by first | rfl | simp only [he 4 (by decide), he 5 (by decide)]) (fun e L' hL => JV.assign rfl), trivial⟩ (fun ev8 => ?_)
      simp only [endF, endL, putF, List.nil_append, List.cons_append]
      refine JQ.n_block ?_
      refine JQ.n_then ?_
      refine JQ.region ?_
      refine JQ.v (JV.addN (b := 1) rfl rfl (by omega)) rfl ?_
      refine JQ.v (JV.move rfl) rfl ?_
      refine JQ.nil ?_
      refine JQ.n_then ?_
      exact JQ.nextI (i := (i, n1, ks1, kv1, sd1, made, vb)) (i + 1, (keyT ts rs n1 ks1 now (is.getD i 0) sd1).next, (keyT ts rs n1 ks1 now (is.getD i 0) sd1).keys, slv i5_5 (keyT ts rs n1 ks1 now (is.getD i 0) sd1).keys.length, (keyS ts rs n1 ks1 now (is.getD i 0) sd1), made ++ [(keyI ts rs n1 ks1 now (is.getD i 0))], slv (ev8 5).2.2 (made.length + 1)) ⟨⟨by show i + 1 ≤ _; omega, ⟨hT.1, by show (keyT ts rs n1 ks1 now (is.getD i 0) sd1).keys.length ≤ ks.length + (i + 1); have := hT.2.1; have := hok1.2; omega⟩, hT.2.2⟩, by show (made ++ [_]).length = i + 1; rw [List.length_append, hml]; rfl, .inr hfr, rfl, by show slv _ (made.length + 1) = slv _ (made ++ [_]).length; rw [List.length_append]; rfl, by rw [hA, allR_step (by omega), if_neg h39]⟩ (by show _ - (i + 1) < _ - i; omega) (subk_cons rfl (subk_cons rfl (subk_cons rfl (subk_cons rfl (subk_cons rfl (subk_cons rfl (subk_cons rfl (subk_cons rfl (subk_cons rfl (subk_cons rfl subk_nil)))))))))) (subr_cons rfl (subr_cons rfl (subr_cons rfl (subr_cons rfl (subr_cons rfl (subr_cons (by rw [List.length_append, List.map_append]; rfl) (subr_cons rfl (subr_cons rfl (subr_cons rfl (subr_cons rfl (subr_cons rfl (subr_cons rfl subr_nil))))))))))))
  · have er : i = is.length := by omega
    obtain ⟨aa1, cc1, rfl⟩ : ∃ aa1 cc1, kv1 = .slice aa1 ks1.length cc1 := ⟨_, _, hkv1⟩
    obtain ⟨aa2, cc2, rfl⟩ : ∃ aa2 cc2, vb = .slice aa2 made.length cc2 := ⟨_, _, hvb⟩
    refine JQ.exit ?_
    refine JQ.e_then ?_
    refine JQ.e_then ?_
    refine JQ.e_here ?_
    refine JQ.n_then ?_
    refine JQ.seq ?_
    refine JQ.any [_, _, _, _, _, _, _] [fun _ => [], fun _ => [], fun _ => [], _, _, fun _ => [], fun _ => []] [⟨[2], [], [], []⟩, ⟨[3], [], [], []⟩, ⟨[], [], [], []⟩, ⟨[], [4], [], [0]⟩, ⟨[], [5], [], [0, 1, 3]⟩, ⟨[], [], [], [0, 1, 2, 3, 4]⟩, ⟨[], [], [], [0, 1, 2, 3, 4, 5]⟩] Tryd.mixed rfl (by kernel_rfl) ⟨Ob.v rfl (fun _ _ h => by cases h) (fun _ _ _ => rfl) (fun e L' hL => JV.loadV 2 rfl ((hL 2 (by decide)).trans rfl) Tryd.isAgg29 Tryd.sizeOf29 rfl),
            Ob.v rfl (fun _ _ h => by cases h) (fun _ _ _ => rfl) (fun e L' hL => JV.loadV 3 rfl ((hL 3 (by decide)).trans rfl) Tryd.isAgg39 Tryd.sizeOf39 rfl),
            Ob.v rfl (fun _ _ h => by cases h) (fun _ _ _ => rfl) (fun e L' hL => JV.move rfl),
            Ob.s 4 rfl (fun _ _ h => by cases h) (fun _ _ _ => rfl) (fun e L' hL => JO.storeV 4 rfl ((hL 4 (by decide)).trans rfl) rfl (us := [iv n1, .slice aa1 ks1.length cc1]) rfl Tryd.sizeOf29 rfl rfl),
            Ob.s 5 rfl (fun _ _ h => by cases h) (fun _ _ _ => rfl) (fun e L' hL => JO.storeV 5 rfl ((hL 5 (by decide)).trans rfl) rfl (us := [str sd1]) rfl Tryd.sizeOf39 rfl rfl),
            Ob.v rfl (fun _ _ h => by cases h) (fun _ _ _ => rfl) (fun e L' hL => JV.assign rfl),
            Ob.v rfl (fun _ _ h => by cases h) (fun _ _ _ => rfl) (fun e L' hL => JV.assign rfl), trivial⟩ (fun ev10 => ?_)
    simp only [endF, endL, putF, List.nil_append, List.cons_append]
    refine JQ.n_then ?_
    refine JQ.ret ?_
    refine JQ.doneCCTT 4 5 Tryd.results25 rfl rfl rfl rfl rfl rfl Tryd.isAgg29 Tryd.isAgg39 Tryd.sizeOf29 Tryd.sizeOf39 rfl rfl ?_
    have e : allR ts rs now n ks sd [] is = ⟨n1, ks1, sd1, made, 0⟩ := by rw [hA, List.drop_of_length_le (by omega), allR]
    exact fun w hw => by rw [e]; exact ⟨_, _, rfl, hw.reads (id := 100) rfl, hnew, newRo_row (hw.ok 303 _ rfl), hw.below⟩

set_option maxHeartbeats 1000000 in
theorem rall_spec0 (pn : List UInt8) (tv rv qv : Value) (ts : List Pl.Typ) (rs : List Pl.Rule) (htl : ts.length ≤ 1048576) (hrl : rs.length ≤ 1048576) (n : Int) (aa : Option Addr) (cc : Nat) (ks : List Pl.Key) (hok : tabOk n ks) (hk30 : ks.length ≤ 2000) (sd : List UInt8) (hsd : sd.length ≤ 1048576) (now : Int) (iw : Value) (is : List Int) (his : is.length ≤ 1000) (w : World) (ht : Reads w tv 3 ts.length (tcs ts)) (hru : Reads w rv 3 rs.length (rcs rs)) (hr : Reads w (.slice aa ks.length cc) 9 ks.length (kcs ks)) (hi : Reads w iw 1 is.length (is.map iv)) (hR : Gl 1 (Pl.K.map u32) w) :
    Calls Tryd.prog 26 #[.agg [str pn, tv, rv, qv].toArray, .agg [iv n, (.slice aa ks.length cc)].toArray, .agg [str sd].toArray, iv now, iw] w fun e w' => ∃ v m, e = .returned (.agg [iv (allR ts rs now n ks sd [] is).n, v, str (allR ts rs now n ks sd [] is).sd, iv 0, m, iv (allR ts rs now n ks sd [] is).e].toArray) ∧ Reads w' v 9 (allR ts rs now n ks sd [] is).ks.length (kcs (allR ts rs now n ks sd [] is).ks) ∧ ((v = (.slice aa ks.length cc) ∧ kcs (allR ts rs now n ks sd [] is).ks = kcs ks) ∨ fresh? w v) ∧ NewRo w m 1 (allR ts rs now n ks sd [] is).ids.length ((allR ts rs now n ks sd [] is).ids.map iv) w' ∧ Below w.heap.size w w' := by
  
  refine enterA (vs := [_, _, _, _, _]) Tryd.func26 rfl 52 rfl [(901, .ro (gv 1 64) 1 64 (Pl.K.map u32)), (101, .ro tv 3 ts.length (tcs ts)), (102, .ro rv 3 rs.length (rcs rs)), (100, .ro (.slice aa ks.length cc) 9 ks.length (kcs ks)), (105, .ro iw 1 is.length (is.map iv))] (((((MemOk.start1 105 hi).addRo 100 hr (ro_cons ro_nil)).addRo 102 hru (ro_cons (ro_cons ro_nil))).addRo 101 ht (ro_cons (ro_cons (ro_cons ro_nil)))).addRo 901 hR (ro_cons (ro_cons (ro_cons (ro_cons ro_nil))))) ?_
  refine JQ.seq ?_
  refine JQ.region ?_
  refine JQ.x (JO.box 1 rfl rfl) rfl ?_
  intro i0_0
  refine JQ.x (JO.box 2 rfl rfl) rfl ?_
  intro i0_1
  refine JQ.x (JO.box 3 rfl rfl) rfl ?_
  intro i0_2
  refine JQ.x (JO.alloc 4 (zs := [iv 0, .slice none 0 0, str [], iv 0, .slice none 0 0, iv 0]) Tryd.zeroValue57 rfl) rfl ?_
  intro i0_3
  refine JQ.nil ?_
  refine JQ.n_then ?_
  refine JQ.seq ?_
  refine JQ.region ?_
  refine JQ.v (JV.loadV 2 rfl rfl Tryd.isAgg29 Tryd.sizeOf29 rfl) rfl ?_
  refine JQ.v (JV.loadV 3 rfl rfl Tryd.isAgg55 Tryd.sizeOf55 rfl) rfl ?_
  refine JQ.v (JV.build (v := .agg [iv n, (.slice aa ks.length cc), str sd, iv 0, .slice none 0 0, iv 0].toArray) (evp_cons rfl (evp_cons rfl evp_nil)) (fun w => by kernel_rfl)) rfl ?_
  refine JQ.x (JO.alloc 5 (zs := [iv 0, .slice none 0 0, str [], iv 0, .slice none 0 0, iv 0]) Tryd.zeroValue57 rfl) rfl ?_
  intro i1_3
  refine JQ.s (JO.storeV 5 rfl rfl rfl rfl Tryd.sizeOf57 rfl rfl) ?_
  refine JQ.nilRow 303 3 1 ?_
  refine JQ.nil ?_
  refine JQ.n_then ?_
  refine JQ.seq ?_
  refine JQ.seq ?_
  refine JQ.region ?_
  refine JQ.v (JV.assign rfl) rfl ?_
  refine JQ.nil ?_
  refine JQ.n_then ?_
  refine JQ.block ?_
  refine JQ.loopI (ι := Nat × Int × List Pl.Key × Value × List UInt8 × List Int × Value) (fun i => [(3, iv now), (4, iw), (5, .pointer (some ⟨i0_0, 0, none⟩)), (10, .pointer (some ⟨i0_3, 0, none⟩)), (11, .pointer (some ⟨i1_3, 0, none⟩)), (12, .int .i64 ((i.1 : Nat) : Int))]) (fun i => [(1, .cells i0_0 [str pn, tv, rv, qv] 26 (0, 0)), (4, .cells i0_3 [iv 0, .slice none 0 0, str [], iv 0, .slice none 0 0, iv 0] 57 (0, 0)), (5, .cells i1_3 [iv i.2.1, i.2.2.2.1, str i.2.2.2.2.1, iv 0, i.2.2.2.2.2.2, iv 0] 57 (0, 0)), (303, .row i.2.2.2.2.2.2 3 1 i.2.2.2.2.2.1.length (i.2.2.2.2.2.1.map iv)), (101, .ro tv 3 ts.length (tcs ts)), (102, .ro rv 3 rs.length (rcs rs)), (100, .ro i.2.2.2.1 9 i.2.2.1.length (kcs i.2.2.1)), (105, .ro iw 1 is.length (is.map iv)), (901, .ro (gv 1 64) 1 64 (Pl.K.map u32))]) (fun i => (i.1 ≤ is.length ∧ (tabOk i.2.1 i.2.2.1 ∧ i.2.2.1.length ≤ ks.length + i.1) ∧ i.2.2.2.2.1.length ≤ 1048576) ∧ i.2.2.2.2.2.1.length = i.1 ∧ ((i.2.2.2.1 = (.slice aa ks.length cc) ∧ kcs i.2.2.1 = kcs ks) ∨ fresh? w i.2.2.2.1) ∧ i.2.2.2.1 = slv i.2.2.2.1 i.2.2.1.length ∧ i.2.2.2.2.2.2 = slv i.2.2.2.2.2.2 i.2.2.2.2.2.1.length ∧ (allR ts rs now n ks sd [] is) = allR ts rs now i.2.1 i.2.2.1 i.2.2.2.2.1 i.2.2.2.2.2.1 (is.drop i.1)) (fun i => is.length - i.1) (0, n, ks, (.slice aa ks.length cc), sd, [], .slice none 0 0) ⟨⟨Nat.zero_le _, ⟨hok, Nat.le_refl _⟩, hsd⟩, rfl, .inl ⟨rfl, rfl⟩, rfl, rfl, rfl⟩ (subk_cons rfl (subk_cons rfl (subk_cons rfl (subk_cons rfl (subk_cons rfl (subk_cons rfl subk_nil)))))) (subr_cons rfl (subr_cons rfl (subr_cons rfl (subr_cons rfl (subr_cons rfl (subr_cons rfl (subr_cons rfl (subr_cons rfl (subr_cons rfl subr_nil))))))))) ?_
  rintro ⟨i, n1, ks1, kv1, sd1, made, vb⟩ ⟨⟨hi1, hok1, hsd1⟩, hml, hnew, hkv1, hvb, hA⟩
  dsimp only at hi1 hok1 hsd1 hml hnew hkv1 hvb hA
  show JQ _ _ [(3, iv now), (4, iw), (5, .pointer (some ⟨i0_0, 0, none⟩)), (10, .pointer (some ⟨i0_3, 0, none⟩)), (11, .pointer (some ⟨i1_3, 0, none⟩)), (12, .int .i64 ((i : Nat) : Int))] [(1, .cells i0_0 [str pn, tv, rv, qv] 26 (0, 0)), (4, .cells i0_3 [iv 0, .slice none 0 0, str [], iv 0, .slice none 0 0, iv 0] 57 (0, 0)), (5, .cells i1_3 [iv n1, kv1, str sd1, iv 0, vb, iv 0] 57 (0, 0)), (303, .row vb 3 1 made.length (made.map iv)), (101, .ro tv 3 ts.length (tcs ts)), (102, .ro rv 3 rs.length (rcs rs)), (100, .ro kv1 9 ks1.length (kcs ks1)), (105, .ro iw 1 is.length (is.map iv)), (901, .ro (gv 1 64) 1 64 (Pl.K.map u32))] _
  refine JQ.seq ?_
  refine JQ.seq ?_
  refine JQ.region ?_
  refine JQ.v (JV.move rfl) rfl ?_
  refine JQ.v (JV.move rfl) rfl ?_
  refine JQ.v (JV.lenRo 105 rfl rfl Tryd.runUnderlying44) rfl ?_
  refine JQ.v (JV.lssN rfl rfl) rfl ?_
  refine JQ.nil ?_
  refine JQ.n_then ?_
  refine JQ.condP rfl (fun h20 => ?_) (fun h20 => ?_)
  · refine JQ.skip ?_
    refine JQ.n_then ?_
    refine JQ.seq ?_
    refine JQ.block ?_
    refine JQ.seq ?_
    refine JQ.any [_, _, _, _, _, _, _, _, _, _, _, _, _] [fun _ => [], fun _ => [], fun _ => [], fun _ => [], fun _ => [], fun _ => [], fun _ => [], fun _ => [], fun _ => [], fun _ => [], _, _, _] [⟨[1], [], [], []⟩, ⟨[], [], [], []⟩, ⟨[5], [], [], [1]⟩, ⟨[], [], [], []⟩, ⟨[5], [], [], [3]⟩, ⟨[], [], [], []⟩, ⟨[], [], [], []⟩, ⟨[], [], [], []⟩, ⟨[105], [], [], [6, 7]⟩, ⟨[105], [], [], [6, 7, 8]⟩, ⟨[101, 102, 901], [100], [], [0, 1, 2, 3, 4, 5, 6, 7, 8, 9]⟩, ⟨[], [6], [], []⟩, ⟨[], [6], [10, 11], [0, 1, 2, 3, 4, 5, 6, 7, 8, 9, 10, 11]⟩] Tryd.mixed rfl (by kernel_rfl) ⟨Ob.v rfl (fun _ _ h => by cases h) (fun _ _ _ => rfl) (fun e L' hL => JV.loadV 1 rfl ((hL 1 (by decide)).trans rfl) Tryd.isAgg26 Tryd.sizeOf26 rfl),
            Ob.v rfl (fun _ _ h => by cases h) (fun _ _ _ => rfl) (fun e L' hL => JV.fieldAddrK (o := 0) rfl Tryd.runUnderlying57 rfl Tryd.sizeOf29 rfl rfl),
            Ob.v rfl (fun _ _ h => by cases h) (fun _ _ _ => rfl) (fun e L' hL => JV.loadA 5 rfl ((hL 5 (by decide)).trans rfl) Tryd.isAgg29 Tryd.sizeOf29 rfl rfl),
            Ob.v rfl (fun _ _ h => by cases h) (fun _ _ _ => rfl) (fun e L' hL => JV.fieldAddrK (o := 2) rfl Tryd.runUnderlying57 rfl Tryd.sizeOf55 rfl rfl),
            Ob.v rfl (fun _ _ h => by cases h) (fun _ _ _ => rfl) (fun e L' hL => JV.loadA 5 rfl ((hL 5 (by decide)).trans rfl) Tryd.isAgg55 Tryd.sizeOf55 rfl rfl),
            Ob.v rfl (fun _ _ h => by cases h) (fun _ _ _ => rfl) (fun e L' hL => JV.move rfl),
            Ob.v rfl (fun _ _ h => by cases h) (fun _ _ _ => rfl) (fun e L' hL => JV.move rfl),
            Ob.v rfl (fun _ _ h => by cases h) (fun _ _ _ => rfl) (fun e L' hL => JV.move rfl),
            Ob.v rfl (fun _ _ h => by cases h) (fun _ _ _ => rfl) (fun e L' hL => JV.idxRo1 105 rfl rfl ((hL 105 (by decide)).trans rfl) Tryd.runUnderlying44 Tryd.sizeOf3 (by decide) (by omega)),
            Ob.v rfl (fun _ _ h => by cases h) (fun _ _ _ => rfl) (fun e L' hL => JV.loadR 105 rfl ((hL 105 (by decide)).trans rfl) Tryd.isAgg3 (ivs_at (by omega))),
            Ob.val 100 rfl (fun _ _ h => by cases h) (fun _ _ _ => ⟨rfl, rfl⟩) (by decide) (fun e L' hL => JO.callRowV 100 (fun v => .agg [iv (keyT ts rs n1 ks1 now (is.getD i 0) sd1).next, v, str (keyS ts rs n1 ks1 now (is.getD i 0) sd1), iv (keyI ts rs n1 ks1 now (is.getD i 0)), .slice none 0 0, iv (keyE ts rs n1 ks1 now (is.getD i 0))].toArray) Tryd.call18 (evs_cons rfl (evs_cons rfl (evs_cons rfl (evs_cons rfl (evs_cons rfl evs_nil))))) (fun w hw => rkey_spec pn tv rv qv ts rs htl hrl n1 kv1 ks1 hok1.1 sd1 hsd1 now (is.getD i 0) w (hw.reads (id := 101) ((hL 101 (by decide)).trans rfl)) (hw.reads (id := 102) ((hL 102 (by decide)).trans rfl)) (hw.reads (id := 100) ((hL 100 (by decide)).trans rfl)) (hw.reads (id := 901) ((hL 901 (by decide)).trans rfl)))),
            Ob.nb 6 rfl (fun _ _ h => by cases h) (fun _ _ _ => ⟨rfl, rfl⟩) (by decide) (fun e L' hL => JO.alloc 6 (zs := [iv 0, .slice none 0 0, str [], iv 0, .slice none 0 0, iv 0]) Tryd.zeroValue57 rfl),
            Ob.s 6 rfl (fun _ _ h => by cases h) (fun e e' he => by first | rfl | simp only [he 10 (by decide), he 11 (by decide)]) (fun e L' hL => JO.storeV 6 rfl ((hL 6 (by decide)).trans rfl) rfl (us := [iv (keyT ts rs n1 ks1 now (is.getD i 0) sd1).next, slv (e 10).2.2 (keyT ts rs n1 ks1 now (is.getD i 0) sd1).keys.length, str (keyS ts rs n1 ks1 now (is.getD i 0) sd1), iv (keyI ts rs n1 ks1 now (is.getD i 0)), .slice none 0 0, iv (keyE ts rs n1 ks1 now (is.getD i 0))]) rfl Tryd.sizeOf57 rfl rfl), trivial⟩ (fun ev5 => ?_)
    simp only [endF, endL, putF, List.nil_append, List.cons_append]
    refine JQ.n_then ?_
    refine JQ.seq ?_
    refine JQ.seq ?_
    refine JQ.rowNew 100 rfl (fun hfr => ?_)
    refine JQ.roOf 100 rfl ?_
    refine JQ.region ?_
    refine JQ.v (JV.fieldAddrK (o := 5) rfl Tryd.runUnderlying57 rfl Tryd.sizeOf35 rfl rfl) rfl ?_
    refine JQ.v (JV.load1 6 rfl rfl Tryd.isAgg35 (rfl)) rfl ?_
    refine JQ.v (JV.neqI rfl rfl) rfl ?_
    refine JQ.nil ?_
    refine JQ.n_then ?_
    refine JQ.condP rfl (fun h36 => ?_) (fun h36 => ?_)
    · refine JQ.seq ?_
      refine JQ.region ?_
      refine JQ.v (JV.fieldAddrK (o := 5) rfl Tryd.runUnderlying57 rfl Tryd.sizeOf35 rfl rfl) rfl ?_
      refine JQ.v (JV.load1 6 rfl rfl Tryd.isAgg35 (rfl)) rfl ?_
      refine JQ.v (JV.build (v := .agg [iv 0, .slice none 0 0, str [], iv 0, .slice none 0 0, iv (keyE ts rs n1 ks1 now (is.getD i 0))].toArray) (evp_cons rfl evp_nil) (fun w => by kernel_rfl)) rfl ?_
      refine JQ.s (JO.storeV 4 rfl rfl rfl rfl Tryd.sizeOf57 rfl rfl) ?_
      refine JQ.nil ?_
      refine JQ.n_then ?_
      refine JQ.ret ?_
      refine JQ.r_then ?_
      refine JQ.r_block ?_
      refine JQ.r_then ?_
      refine JQ.r_then ?_
      refine JQ.r_block ?_
      refine JQ.r_then ?_
      refine JQ.doneC 4 Tryd.results26 rfl rfl Tryd.isAgg57 Tryd.sizeOf57 rfl ?_
      have e : allR ts rs now n ks sd [] is = ⟨0, [], [], [], (keyE ts rs n1 ks1 now (is.getD i 0))⟩ := by rw [hA, allR_step (by omega), if_pos h36]
      exact fun w hw => by rw [e]; exact ⟨.slice none 0 0, .slice none 0 0, rfl, reads_knil _, .inr (fresh_nil _), newRo_nil _ _ 1, hw.below⟩
    · refine JQ.skip ?_
      refine JQ.n_then ?_
      have hT := key_tabOk hok1.1 (by have := hok1.2; omega) (Decidable.not_not.1 h36) sd1 hsd1
      refine JQ.any [_, _, _, _, _, _, _, _, _, _, _, _] [fun _ => [], fun _ => [], fun _ => [], fun _ => [], fun _ => [], fun _ => [], fun _ => [], fun _ => [], _, _, fun _ => [], _] [⟨[], [], [], []⟩, ⟨[6], [], [], [0]⟩, ⟨[], [], [], []⟩, ⟨[6], [], [], [2]⟩, ⟨[], [], [], []⟩, ⟨[5], [], [], [4]⟩, ⟨[], [], [], []⟩, ⟨[6], [], [], [6]⟩, ⟨[], [7], [], [6, 7]⟩, ⟨[7], [303], [8], [4, 5, 6, 7, 8]⟩, ⟨[], [], [8, 9], [0, 1, 2, 3, 4, 5, 6, 7, 8, 9]⟩, ⟨[], [5], [8, 9], [0, 1, 2, 3, 4, 5, 6, 7, 8, 9, 10]⟩] Tryd.mixed rfl (by kernel_rfl) ⟨Ob.v rfl (fun _ _ h => by cases h) (fun _ _ _ => rfl) (fun e L' hL => JV.fieldAddrK (o := 0) rfl Tryd.runUnderlying57 rfl Tryd.sizeOf29 rfl rfl),
                Ob.v rfl (fun _ _ h => by cases h) (fun _ _ _ => rfl) (fun e L' hL => JV.loadA 6 rfl ((hL 6 (by decide)).trans rfl) Tryd.isAgg29 Tryd.sizeOf29 rfl rfl),
                Ob.v rfl (fun _ _ h => by cases h) (fun _ _ _ => rfl) (fun e L' hL => JV.fieldAddrK (o := 2) rfl Tryd.runUnderlying57 rfl Tryd.sizeOf55 rfl rfl),
                Ob.v rfl (fun _ _ h => by cases h) (fun _ _ _ => rfl) (fun e L' hL => JV.loadA 6 rfl ((hL 6 (by decide)).trans rfl) Tryd.isAgg55 Tryd.sizeOf55 rfl rfl),
                Ob.v rfl (fun _ _ h => by cases h) (fun _ _ _ => rfl) (fun e L' hL => JV.fieldAddrK (o := 4) rfl Tryd.runUnderlying57 rfl Tryd.sizeOf44 rfl rfl),
                Ob.v rfl (fun _ _ h => by cases h) (fun _ _ _ => rfl) (fun e L' hL => JV.load1 5 rfl ((hL 5 (by decide)).trans rfl) Tryd.isAgg44 (rfl)),
                Ob.v rfl (fun _ _ h => by cases h) (fun _ _ _ => rfl) (fun e L' hL => JV.fieldAddrK (o := 3) rfl Tryd.runUnderlying57 rfl Tryd.sizeOf3 rfl rfl),
                Ob.v rfl (fun _ _ h => by cases h) (fun _ _ _ => rfl) (fun e L' hL => JV.load1 6 rfl ((hL 6 (by decide)).trans rfl) Tryd.isAgg3 (rfl)),
                Ob.nb 7 rfl (fun _ _ h => by cases h) (fun _ _ _ => ⟨rfl, rfl⟩) (by decide) (fun e L' hL => JO.buildSlice 7 (us := [iv (keyI ts rs n1 ks1 now (is.getD i 0))]) (e := 3) (evp_cons rfl evp_nil) (fun w => by kernel_rfl)),
                Ob.val 303 rfl (fun _ _ h => by cases h) (fun e e' he => by constructor <;> (funext z; first | rfl | simp only [he 8 (by decide)])) (by decide) (fun e L' hL => JO.appendS 303 (m := 1) elem3 rfl rfl ((hL 303 (by decide)).trans rfl) (fun w hw => Src.ro Tryd.underlying44 (reads_cells9 (hw.blk (id := 7) ((hL 7 (by decide)).trans rfl)) rfl rfl (by decide))) rfl (by omega) (by omega)),
                Ob.v rfl (fun _ _ h => by cases h) (fun e e' he => by first | rfl | simp only [he 8 (by decide), he 9 (by decide)]) (fun e L' hL => JV.build (v := (.agg [iv (keyT ts rs n1 ks1 now (is.getD i 0) sd1).next, slv (ev5 10).2.2 (keyT ts rs n1 ks1 now (is.getD i 0) sd1).keys.length, str (keyS ts rs n1 ks1 now (is.getD i 0) sd1), iv 0, slv (e 9).2.2 (made.length + 1), iv 0].toArray)) (evp_cons rfl (evp_cons rfl (evp_cons rfl evp_nil))) (fun w => by kernel_rfl)),
                Ob.s 5 rfl (fun _ _ h => by cases h) (fun e e' he => by first | rfl | simp only [he 8 (by decide), he 9 (by decide)]) (fun e L' hL => JO.storeV 5 rfl ((hL 5 (by decide)).trans rfl) rfl rfl Tryd.sizeOf57 rfl rfl), trivial⟩ (fun ev8 => ?_)
      simp only [endF, endL, putF, List.nil_append, List.cons_append]
      refine JQ.n_block ?_
      refine JQ.n_then ?_
      refine JQ.region ?_
      refine JQ.v (JV.move rfl) rfl ?_
      refine JQ.v (JV.addN (b := 1) rfl rfl (by omega)) rfl ?_
      refine JQ.v (JV.assign rfl) rfl ?_
      refine JQ.nil ?_
      refine JQ.n_then ?_
      exact JQ.nextI (i := (i, n1, ks1, kv1, sd1, made, vb)) (i + 1, (keyT ts rs n1 ks1 now (is.getD i 0) sd1).next, (keyT ts rs n1 ks1 now (is.getD i 0) sd1).keys, slv (ev5 10).2.2 (keyT ts rs n1 ks1 now (is.getD i 0) sd1).keys.length, (keyS ts rs n1 ks1 now (is.getD i 0) sd1), made ++ [(keyI ts rs n1 ks1 now (is.getD i 0))], slv (ev8 9).2.2 (made.length + 1)) ⟨⟨by show i + 1 ≤ _; omega, ⟨hT.1, by show (keyT ts rs n1 ks1 now (is.getD i 0) sd1).keys.length ≤ ks.length + (i + 1); have := hT.2.1; have := hok1.2; omega⟩, hT.2.2⟩, by show (made ++ [_]).length = i + 1; rw [List.length_append, hml]; rfl, .inr hfr, rfl, by show slv _ (made.length + 1) = slv _ (made ++ [_]).length; rw [List.length_append]; rfl, by rw [hA, allR_step (by omega), if_neg h36]⟩ (by show _ - (i + 1) < _ - i; omega) (subk_cons rfl (subk_cons rfl (subk_cons rfl (subk_cons rfl (subk_cons rfl (subk_cons rfl subk_nil)))))) (subr_cons rfl (subr_cons rfl (subr_cons rfl (subr_cons (by rw [List.length_append, List.map_append]; rfl) (subr_cons rfl (subr_cons rfl (subr_cons rfl (subr_cons rfl (subr_cons rfl subr_nil)))))))))
  · have er : i = is.length := by omega
    obtain ⟨aa1, cc1, rfl⟩ : ∃ aa1 cc1, kv1 = .slice aa1 ks1.length cc1 := ⟨_, _, hkv1⟩
    obtain ⟨aa2, cc2, rfl⟩ : ∃ aa2 cc2, vb = .slice aa2 made.length cc2 := ⟨_, _, hvb⟩
    refine JQ.exit ?_
    refine JQ.e_then ?_
    refine JQ.e_then ?_
    refine JQ.e_here ?_
    refine JQ.n_then ?_
    refine JQ.seq ?_
    refine JQ.region ?_
    refine JQ.v (JV.loadV 5 rfl rfl Tryd.isAgg57 Tryd.sizeOf57 rfl) rfl ?_
    refine JQ.s (JO.storeV 4 rfl rfl rfl rfl Tryd.sizeOf57 rfl rfl) ?_
    refine JQ.nil ?_
    refine JQ.n_then ?_
    refine JQ.ret ?_
    refine JQ.doneC 4 Tryd.results26 rfl rfl Tryd.isAgg57 Tryd.sizeOf57 rfl ?_
    have e : allR ts rs now n ks sd [] is = ⟨n1, ks1, sd1, made, 0⟩ := by rw [hA, List.drop_of_length_le (by omega), allR]
    exact fun w hw => by rw [e]; exact ⟨_, _, rfl, hw.reads (id := 100) rfl, hnew, newRo_row (hw.ok 303 _ rfl), hw.below⟩

theorem all_spec (pn : List UInt8) (tv rv qv : Value) (ts : List Pl.Typ) (rs : List Pl.Rule) (htl : ts.length ≤ 1048576) (hrl : rs.length ≤ 1048576) (n : Int) (kv : Value) (ks : List Pl.Key) (hok : tabOk n ks) (hk30 : ks.length ≤ 2000) (sd : List UInt8) (hsd : sd.length ≤ 1048576) (now : Int) (iw : Value) (is : List Int) (his : is.length ≤ 1000) (w : World) (ht : Reads w tv 3 ts.length (tcs ts)) (hru : Reads w rv 3 rs.length (rcs rs)) (hr : Reads w kv 9 ks.length (kcs ks)) (hi : Reads w iw 1 is.length (is.map iv)) (hB : Gl 0 byRule w) (hG : Gl 2 (Pl.K.map u32) w) : Calls Tryd.prog 25 #[.agg [str pn, tv, rv, qv].toArray, .agg [iv n, kv].toArray, .agg [str sd].toArray, iv now, iw] w fun e w' => ∃ v m, e = .returned (.tuple #[.agg [iv (allR ts rs now n ks sd [] is).n, v].toArray, .agg [str (allR ts rs now n ks sd [] is).sd].toArray, m, iv (allR ts rs now n ks sd [] is).e]) ∧ Reads w' v 9 (allR ts rs now n ks sd [] is).ks.length (kcs (allR ts rs now n ks sd [] is).ks) ∧ ((v = kv ∧ kcs (allR ts rs now n ks sd [] is).ks = kcs ks) ∨ fresh? w v) ∧ NewRo w m 1 (allR ts rs now n ks sd [] is).ids.length ((allR ts rs now n ks sd [] is).ids.map iv) w' ∧ Below w.heap.size w w' := by
  obtain ⟨aa, cc, rfl⟩ := reads_sln hr
  exact all_spec0 pn tv rv qv ts rs htl hrl n aa cc ks hok hk30 sd hsd now iw is his w ht hru hr hi hB hG

theorem rall_spec (pn : List UInt8) (tv rv qv : Value) (ts : List Pl.Typ) (rs : List Pl.Rule) (htl : ts.length ≤ 1048576) (hrl : rs.length ≤ 1048576) (n : Int) (kv : Value) (ks : List Pl.Key) (hok : tabOk n ks) (hk30 : ks.length ≤ 2000) (sd : List UInt8) (hsd : sd.length ≤ 1048576) (now : Int) (iw : Value) (is : List Int) (his : is.length ≤ 1000) (w : World) (ht : Reads w tv 3 ts.length (tcs ts)) (hru : Reads w rv 3 rs.length (rcs rs)) (hr : Reads w kv 9 ks.length (kcs ks)) (hi : Reads w iw 1 is.length (is.map iv)) (hR : Gl 1 (Pl.K.map u32) w) : Calls Tryd.prog 26 #[.agg [str pn, tv, rv, qv].toArray, .agg [iv n, kv].toArray, .agg [str sd].toArray, iv now, iw] w fun e w' => ∃ v m, e = .returned (.agg [iv (allR ts rs now n ks sd [] is).n, v, str (allR ts rs now n ks sd [] is).sd, iv 0, m, iv (allR ts rs now n ks sd [] is).e].toArray) ∧ Reads w' v 9 (allR ts rs now n ks sd [] is).ks.length (kcs (allR ts rs now n ks sd [] is).ks) ∧ ((v = kv ∧ kcs (allR ts rs now n ks sd [] is).ks = kcs ks) ∨ fresh? w v) ∧ NewRo w m 1 (allR ts rs now n ks sd [] is).ids.length ((allR ts rs now n ks sd [] is).ids.map iv) w' ∧ Below w.heap.size w w' := by
  obtain ⟨aa, cc, rfl⟩ := reads_sln hr
  exact rall_spec0 pn tv rv qv ts rs htl hrl n aa cc ks hok hk30 sd hsd now iw is his w ht hru hr hi hR
end Go.Fw
end
