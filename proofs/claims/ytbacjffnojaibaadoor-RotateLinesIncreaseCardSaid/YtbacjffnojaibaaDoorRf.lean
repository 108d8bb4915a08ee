/- The law RotateLinesIncrease holds for every input: the call returns true and each argument reads as before; the condition is that the listed tables are laid as the program's text lays them, and the card ties that to the text. -/
import Derived.Test.YtbacjffnojaibaaDoorWkh
import Derived.Test.YtbacjffnojaibaaDoorFwb
import Derived.Test.YtbacjffnojaibaaDoorRows
import Derived.Test.YtbacjffnojaibaaDoorCards
import Derived.Test.YtbacjffnojaibaaDoorTie
import Derived.ProofKit
import Derived.LaidMore
import Derived.OpenShut
import Derived.Stop.Joined
import Derived.ShutString
import Derived.ChangeOld
import Derived.Below
import Derived.SevenTiedAt
set_option maxRecDepth 100000
set_option linter.unusedVariables false
set_option linter.unusedSimpArgs false
namespace Go.Proofs.YtbacjffnojaibaaDoor
open Go Go.Fw
open Go.ChangeShapes Go.WideShapes Go.ChangeAt Go.RowKit Go.WideElems
open Go.ChangeMaps (open_string shut_string)
theorem own : ownKnob Tryd.prog.godebug = none := by kernel_rfl
theorem laidOut : laidOutB Tryd.prog = true := by kernel_rfl

theorem g0 : Tryd.prog.globalNamed "custody/perm.byRule" = some 0 := by kernel_rfl
theorem tg0 : (Tryd.prog.globals[0]?).map (·.type) = some 115 := by kernel_rfl
theorem g1 : Tryd.prog.globalNamed "custody/custodyref02.constants" = some 1 := by kernel_rfl
theorem tg1 : (Tryd.prog.globals[1]?).map (·.type) = some 136 := by kernel_rfl
theorem g2 : Tryd.prog.globalNamed "custody/hash.constants" = some 2 := by kernel_rfl
theorem tg2 : (Tryd.prog.globals[2]?).map (·.type) = some 136 := by kernel_rfl
def laid0 : List (String × DataW Unit) := [("custody/hash.constants", Rows.laid_custody_hash_constants), ("custody/perm.byRule", Rows.laid_custody_perm_byRule)]
theorem of_laid0 {W : World} (h : laidMetH Tryd.prog laid0 W) : Gl 2 (Pl.K.map u32) W ∧ Gl 0 byRule W := by
  rw [MakeChecks.laidMetH_plain _ _ _ (by kernel_rfl)] at h
  obtain ⟨ps, ⟨g2', t2, cs2, f2, p2, q2, hg2, ht2, hv2, hd2, ⟨g0', t0, cs0, f0, p0, q0, hg0, ht0, hv0, hd0, ⟨_, _⟩⟩, _⟩, _⟩ := h
  obtain rfl := Option.some.inj (g2.symm.trans hg2)
  obtain rfl := Option.some.inj (tg2.symm.trans ht2)
  obtain rfl := Option.some.inj (g0.symm.trans hg0)
  obtain rfl := Option.some.inj (tg0.symm.trans ht0)
  exact ⟨table Tryd.underlying136 Tryd.underlying124 (by kernel_rfl) (by kernel_rfl) g2 hv2 hd2, tableB g0 hv0 hd0⟩
theorem door_met0 (os : Os) (args : Array Value) : laidMetH Tryd.prog laid0 ((World.doorLaid Tryd.prog 400 os).forCall (fun _ _ => 0) ⟨#[], args, []⟩).memory :=
  laidMetH_of_parts3 (fuel := 8) (laidMet_of_run' 8 (by kernel_rfl) (by kernel_rfl)) (by kernel_rfl) (by kernel_rfl)
set_option maxRecDepth 100000 in
theorem rotateLinesIncrease_lifted (os : Os) (started : os.Started) (H : Type) (enc : TypeId × Value → H) :
    ReturnsInHanded {} Tryd.checked os 3 .any (fun w args => (Rows.rotateLinesIncreaseSpec.pre enc Tryd.prog Tryd.f3 [] false w args ∧ laidMetH Tryd.prog laid0 w) ∧ sizedMet enc Tryd.prog Tryd.f3 (OpenSpec.ofChange Rows.rotateLinesIncreaseSpec) false w args)
      (Rows.rotateLinesIncreaseSpec.post enc Tryd.prog Tryd.f3 false true false false) := by
  refine returnsInHanded_of_change_and (C := Tryd.checked) (X := fun w _ => laidMetH Tryd.prog laid0 w) (fun _ _ _ hh h => h.of_heap hh) own started (by kernel_rfl) Tryd.func3
    (ChangeSpec.witness_shaped (enc := enc) (C := Tryd.checked) (os := os) (X := fun w _ => laidMetH Tryd.prog laid0 w) false (World.doorLaid Tryd.prog 400 os) #[.agg #[.string ByteArray.empty, .slice none 0 0, .slice none 0 0, .slice none 0 0], .agg #[.int .i64 0, .slice none 0 0], .int .i64 0, .slice none 0 0] 8 rfl (World.shaped_of_RefB (by kernel_rfl) (by kernel_rfl)) (by kernel_rfl) (by kernel_rfl) (by kernel_rfl) (door_met0 os _)) ?_
  intro W base args ds gs before hval0 hW _ _ hL _
  have hval : ∀ (j : Nat) t v, Tryd.f3.params[j]? = some t → args[j]? = some v → Value.okWide Tryd.prog W .any base t v := hval0
  have hW' := hW
  obtain ⟨p, q, hA0, hV, rfl, hfz, hnd⟩ := hW
  have hA : DataW.TrodAll enc Tryd.prog W 0 (fun _ => true) true Tryd.f3.params.toList args.toList ds p := hA0
  rw [Tryd.params3] at hA hval
  obtain ⟨v0, vs0, d0, ds0, p0, q0, hargs, rfl, rfl, h0, r0⟩ := trodAll_cons hA
  obtain ⟨v1, vs1, d1, ds1, p1, q1, rfl, rfl, rfl, h1, r1⟩ := trodAll_cons r0
  obtain ⟨v2, vs2, d2, ds2, p2, q2, rfl, rfl, rfl, h2, r2⟩ := trodAll_cons r1
  obtain ⟨v3, vs3, d3, ds3, p3, q3, rfl, rfl, rfl, h3, r3⟩ := trodAll_cons r2
  obtain ⟨rfl, rfl, rfl⟩ := trodAll_nil r3
  obtain rfl : args = #[v0, v1, v2, v3] := by cases args; simp_all
  obtain ⟨rfl, rfl⟩ := trodVars_none hV
  have k0 := h0
  have lt0 : ∀ x ∈ p0, x.block < W.heap.size := by obtain ⟨m, hm⟩ := k0; exact DataW.trod_lt m _ _ _ hm
  have k1 := h1
  have lt1 : ∀ x ∈ p1, x.block < W.heap.size := by obtain ⟨m, hm⟩ := k1; exact DataW.trod_lt m _ _ _ hm
  have k2 := h2
  have lt2 : ∀ x ∈ p2, x.block < W.heap.size := by obtain ⟨m, hm⟩ := k2; exact DataW.trod_lt m _ _ _ hm
  have k3 := h3
  have lt3 : ∀ x ∈ p3, x.block < W.heap.size := by obtain ⟨m, hm⟩ := k3; exact DataW.trod_lt m _ _ _ hm
  obtain ⟨pn0, tv0, rv0, qv0, ts0, rs0, nq0, qx0, rfl, ht0, hru0, hq0⟩ := arg_policy (hval 0 26 v0 rfl rfl) h0
  obtain ⟨n1, kv1, ks1, rfl, hl1, hr1⟩ := arg_table (hval 1 29 v1 rfl rfl) h1
  obtain ⟨x2, rfl, rfl, rfl, w2⟩ := open_int Tryd.underlying3 (hval 2 3 v2 rfl rfl) h2
  obtain ⟨a3, len3, cap3, rfl⟩ := okWide_slice Tryd.underlying30 (hval 3 30 v3 rfl rfl)
  obtain ⟨m3, hm3, hr3⟩ := arg_bytes Tryd.underlying30 Tryd.underlying5 (by kernel_rfl) h3
  clear hA0 hval0
  obtain ⟨G2, G0⟩ := of_laid0 hL
  have hcall := incLaw pn0 tv0 rv0 qv0 ts0 rs0 nq0 qx0 n1 kv1 ks1 hl1 x2 _ m3 W ht0 hru0 hq0 hr1 hr3 G0 G2
  refine hcall.mono fun e W' ⟨he, bel⟩ => ?_
  subst he
  exact ⟨_, rfl, _, _, _, [], _, [], hW', trodAll_mk1 (shut_bool Tryd.underlying4 _), (trodAll_cons_mk (Below.trod laidOut (by kernel_rfl) (of_decide_eq_true (by kernel_rfl)) k0 bel lt0) (trodAll_cons_mk (Below.trod laidOut (by kernel_rfl) (of_decide_eq_true (by kernel_rfl)) k1 bel lt1) (trodAll_cons_mk (Below.trod laidOut (by kernel_rfl) (of_decide_eq_true (by kernel_rfl)) k2 bel lt2) (trodAll_cons_mk (Below.trod laidOut (by kernel_rfl) (of_decide_eq_true (by kernel_rfl)) k3 bel lt3) trodAll_mk0)))), rfl, bel.frame _, fun h => by cases h⟩
theorem rotateLinesIncrease_said : Rows.RotateLinesIncreaseSaid :=
  OpenClaim.holds_of_wide 3 Tryd.f3 rfl rfl rfl rfl rfl rfl rfl ⟨rfl, rfl, rfl, rfl, rfl⟩ rfl rfl rfl rfl rfl (by kernel_rfl) Tryd.func3 (by kernel_rfl)
    (of_decide_eq_true (by kernel_rfl)) (by unfold Func.isWrapper; first | (rw [if_pos (by decide +kernel)]; kernel_rfl) | (rw [if_neg (by decide +kernel)]; exact ⟨rfl, rfl⟩))
    (fun os started H enc _ => rotateLinesIncrease_lifted os started H enc)
/-- The law's card: for every input the call returns true and the input reads as before; the listed tables are tied to the program's text. -/
theorem rotateLinesIncrease_holds : Rows.RotateLinesIncreaseCardSaid :=
  Claim7.holds_tied_plain_at .later [] [.data, .data] true (true, "2f2a4fba0e00a71eaf26b4d580dcf1e89b4e13ff32b0e0dcfa26ca199490413c") false
    rotateLinesIncrease_said (fun _ h => by cases h) (by kernel_rfl) (fun _ h => by cases h) rotateLinesIncrease_row_tie rfl ⟨rfl, rfl⟩ (by kernel_rfl) rfl
    (fun f fn hf hfn => by
      obtain rfl : f = 3 := Option.some.inj ((show Tryd.prog.funcNamed "custody/custodylaw35.RotateLinesIncrease" = some 3 by kernel_rfl).symm.trans hf) |>.symm
      obtain rfl : fn = Tryd.f3 := (Option.some.inj (Tryd.func3.symm.trans hfn)).symm
      exact ⟨by kernel_rfl, fun j t ht => by
        rw [Tryd.params3] at ht
        have hm : t ∈ [26, 29, 3, 30] := by simpa using Array.mem_of_getElem? ht
        have hall : ([26, 29, 3, 30].all fun u => !Tryd.prog.wantsStandIn u) = true := by kernel_rfl
        exact (show Tryd.prog.wantsStandIn t = false by simpa using List.all_eq_true.1 hall t hm)⟩)
    (by kernel_rfl)
#print axioms rotateLinesIncrease_holds
end Go.Proofs.YtbacjffnojaibaaDoor
