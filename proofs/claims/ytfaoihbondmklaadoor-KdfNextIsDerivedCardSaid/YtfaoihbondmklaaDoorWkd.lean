/- The sanity example and each law of the seat return true, walked; the condition is that the tables read as they are laid. -/
import Derived.Test.YtfaoihbondmklaaDoorWkc
import Derived.Test.YtfaoihbondmklaaDoorPla
import Derived.Test.YtfaoihbondmklaaDoorFwb
import Derived.Test.YtfaoihbondmklaaDoorProg
section
open Go.RowKit
set_option maxRecDepth 100000
set_option linter.unusedVariables false
set_option linter.unusedSimpArgs false
namespace Go.Fw
open Go.Proofs
theorem elem9 : Elem Tryd.prog 22 9 1 16 := ⟨Tryd.underlying22, ⟨Tryd.t9, _, by kernel_rfl, rfl, rfl, rfl, rfl⟩, by decide⟩
instance (ms : List (List UInt8)) : Decidable (Pl.few ms) := by unfold Pl.few; infer_instance
set_option maxRecDepth 100000 in
theorem san1a : Pl.sha (Pl.padK [107] 54 ++ [129, 1, 97]) = [71, 128, 222, 3, 74, 105, 113, 181, 92, 233, 160, 55, 205, 167, 125, 188, 131, 99, 246, 183, 234, 212, 144, 28, 136, 13, 248, 122, 36, 129, 131, 158] := by rw [Pl.sha_fast]; decide +kernel
set_option maxRecDepth 100000 in
theorem san1 : Pl.derive [107] [97] [] = [155, 218, 217, 173, 248, 171, 95, 152, 62, 173, 236, 238, 161, 242, 111, 19, 2, 82, 159, 242, 106, 78, 166, 211, 75, 199, 37, 174, 212, 247, 63, 80] := by
  rw [Pl.derive, show Pl.kin [97] [] = [129, 1, 97] from by decide +kernel, Pl.mac, show Pl.key [107] = [107] from rfl, san1a, Pl.sha_fast]; decide +kernel
set_option maxRecDepth 100000 in
theorem san2a : Pl.sha (Pl.padK [155, 218, 217, 173, 248, 171, 95, 152, 62, 173, 236, 238, 161, 242, 111, 19, 2, 82, 159, 242, 106, 78, 166, 211, 75, 199, 37, 174, 212, 247, 63, 80] 54 ++ [129, 1, 98]) = [133, 12, 132, 11, 166, 97, 131, 186, 103, 97, 130, 120, 253, 186, 19, 142, 85, 120, 207, 207, 8, 125, 134, 84, 163, 21, 105, 0, 66, 66, 8, 190] := by rw [Pl.sha_fast]; decide +kernel
set_option maxRecDepth 100000 in
theorem san2 : Pl.derive [155, 218, 217, 173, 248, 171, 95, 152, 62, 173, 236, 238, 161, 242, 111, 19, 2, 82, 159, 242, 106, 78, 166, 211, 75, 199, 37, 174, 212, 247, 63, 80] [98] [] = [145, 173, 75, 219, 55, 255, 6, 120, 250, 194, 233, 217, 2, 188, 233, 138, 74, 174, 71, 216, 94, 221, 196, 99, 202, 120, 241, 159, 135, 130, 236, 246] := by
  rw [Pl.derive, show Pl.kin [98] [] = [129, 1, 98] from by decide +kernel, Pl.mac, show Pl.key [155, 218, 217, 173, 248, 171, 95, 152, 62, 173, 236, 238, 161, 242, 111, 19, 2, 82, 159, 242, 106, 78, 166, 211, 75, 199, 37, 174, 212, 247, 63, 80] = [155, 218, 217, 173, 248, 171, 95, 152, 62, 173, 236, 238, 161, 242, 111, 19, 2, 82, 159, 242, 106, 78, 166, 211, 75, 199, 37, 174, 212, 247, 63, 80] from rfl, san2a, Pl.sha_fast]; decide +kernel
set_option maxRecDepth 100000 in
theorem san3a : Pl.sha (Pl.padK [115] 54 ++ [129, 5, 118, 97, 108, 117, 101]) = [182, 191, 240, 235, 110, 47, 252, 146, 219, 30, 178, 155, 49, 130, 246, 4, 22, 159, 98, 192, 83, 161, 89, 89, 203, 238, 176, 161, 201, 165, 244, 132] := by rw [Pl.sha_fast]; decide +kernel
set_option maxRecDepth 100000 in
theorem san3 : Pl.derive [115] [118, 97, 108, 117, 101] [] = [77, 227, 137, 147, 34, 249, 177, 144, 7, 208, 232, 211, 195, 12, 1, 192, 34, 210, 143, 162, 82, 47, 95, 203, 24, 11, 73, 114, 218, 229, 68, 91] := by
  rw [Pl.derive, show Pl.kin [118, 97, 108, 117, 101] [] = [129, 5, 118, 97, 108, 117, 101] from by decide +kernel, Pl.mac, show Pl.key [115] = [115] from rfl, san3a, Pl.sha_fast]; decide +kernel
set_option maxRecDepth 100000 in
theorem san4a : Pl.sha (Pl.padK [115] 54 ++ [129, 4, 115, 101, 101, 100]) = [16, 131, 216, 222, 4, 120, 100, 204, 65, 243, 9, 207, 5, 150, 62, 196, 244, 211, 149, 124, 254, 251, 24, 157, 91, 161, 14, 194, 178, 99, 40, 222] := by rw [Pl.sha_fast]; decide +kernel
set_option maxRecDepth 100000 in
theorem san4 : Pl.derive [115] [115, 101, 101, 100] [] = [77, 232, 21, 77, 122, 239, 128, 197, 10, 26, 128, 214, 213, 97, 233, 5, 174, 27, 49, 134, 46, 180, 145, 208, 211, 193, 207, 17, 33, 245, 186, 156] := by
  rw [Pl.derive, show Pl.kin [115, 101, 101, 100] [] = [129, 4, 115, 101, 101, 100] from by decide +kernel, Pl.mac, show Pl.key [115] = [115] from rfl, san4a, Pl.sha_fast]; decide +kernel
theorem sanAB : Pl.derive [107] [97] [] ≠ Pl.path [107] [[97], [98]] := by
  show Pl.derive [107] [97] [] ≠ Pl.derive (Pl.derive [107] [97] []) [98] []
  rw [san1, san2]; decide
theorem sanVS : Pl.val [115] ≠ Pl.seed [115] := by
  rw [Pl.val, Pl.seed, show Pl.lvalue = [118, 97, 108, 117, 101] from rfl, show Pl.lseed = [115, 101, 101, 100] from rfl, san3, san4]; decide

attribute [local irreducible] Pl.sha Pl.mac Pl.ofH Pl.foldB Pl.padded Pl.outN Pl.kbS Pl.kbR
set_option maxHeartbeats 2000000 in
theorem sanity_spec (w : World) (hG : Gl 1 (Pl.K.map u32) w) :
    Calls Tryd.prog 9 #[] w fun e w' => e = .returned (.bool true) ∧ Below w.heap.size w w' := by
  
  refine enterA (vs := []) Tryd.func9 rfl 68 rfl [(901, .ro (gv 1 64) 1 64 (Pl.K.map u32))] (MemOk.start1 901 hG) ?_
  refine JQ.seq ?_
  refine JQ.region ?_
  refine JQ.v (JV.assign rfl) rfl ?_
  refine JQ.nil ?_
  refine JQ.n_then ?_
  refine JQ.seq ?_
  refine JQ.region ?_
  refine JQ.v (JV.callM Tryd.call11 (evs_cons rfl (evs_cons rfl (evs_cons rfl evs_nil))) (fun w hw => derive_spec [107] [97] (by first | decide | (rw [Pl.derive_len]; decide)) (by decide) _ [] Pl.few_nil w (hw.reads (id := 901) rfl) (reads_nil w _ _ rfl rfl))) rfl ?_
  refine JQ.v (JV.assign rfl) rfl ?_
  refine JQ.nil ?_
  refine JQ.n_then ?_
  refine JQ.seq ?_
  refine JQ.region ?_
  refine JQ.x (JO.buildSlice 1 (us := [str [97], str [98]]) (e := 9) (evp_cons rfl (evp_cons rfl evp_nil)) (fun w => by kernel_rfl)) rfl ?_
  intro i2_0
  refine JQ.v (JV.callM Tryd.call13 (evs_cons rfl (evs_cons rfl evs_nil)) (fun w hw => path_spec [107] (by decide) _ [[97], [98]] (by decide) w (hw.reads (id := 901) rfl) (reads_cells (hw.blk (id := 1) rfl) rfl rfl (by decide)))) rfl ?_
  refine JQ.v (JV.assign rfl) rfl ?_
  refine JQ.nil ?_
  refine JQ.n_then ?_
  refine JQ.seq ?_
  refine JQ.region ?_
  refine JQ.v (JV.build (v := .agg [str [115]].toArray) (evp_cons rfl evp_nil) (fun w => by kernel_rfl)) rfl ?_
  refine JQ.v (JV.callM Tryd.call17 (evs_cons rfl evs_nil) (fun w hw => next_spec [115] (by decide) w (hw.reads (id := 901) rfl))) rfl ?_
  refine JQ.v (JV.move rfl) rfl ?_
  refine JQ.v (JV.extract rfl rfl) rfl ?_
  refine JQ.v (JV.extract rfl rfl) rfl ?_
  refine JQ.x (JO.alloc 2 (zs := [str []]) Tryd.zeroValue33 rfl) rfl ?_
  intro i3_5
  refine JQ.v (JV.assign rfl) rfl ?_
  refine JQ.s (JO.storeV 2 rfl rfl rfl (us := [str (Pl.seed [115])]) rfl Tryd.sizeOf33 rfl rfl) ?_
  refine JQ.nil ?_
  refine JQ.n_then ?_
  refine JQ.seq ?_
  refine JQ.region ?_
  refine JQ.v (JV.build (v := .agg [str [115]].toArray) (evp_cons rfl evp_nil) (fun w => by kernel_rfl)) rfl ?_
  refine JQ.v (JV.callM Tryd.call19 (evs_cons rfl (evs_cons rfl evs_nil)) (fun w hw => bytesN_spec [115] (by decide) 40 w (hw.reads (id := 901) rfl))) rfl ?_
  refine JQ.v (JV.move rfl) rfl ?_
  refine JQ.v (JV.extract rfl rfl) rfl ?_
  refine JQ.v (JV.extract rfl rfl) rfl ?_
  refine JQ.x (JO.alloc 3 (zs := [str []]) Tryd.zeroValue33 rfl) rfl ?_
  intro i4_5
  refine JQ.v (JV.assign rfl) rfl ?_
  refine JQ.s (JO.storeV 3 rfl rfl rfl (us := [str (Pl.kbR [115] 40)]) rfl Tryd.sizeOf33 rfl rfl) ?_
  refine JQ.nil ?_
  refine JQ.n_then ?_
  refine JQ.seq ?_
  refine JQ.region ?_
  refine JQ.v (JV.move rfl) rfl ?_
  refine JQ.v (JV.lenStr (l := (Pl.derive [107] [97] [])) rfl Tryd.runUnderlying9) rfl ?_
  refine JQ.v (JV.tt (JV.eqlN (b := 32) rfl rfl) (Pl.derive_len _ _ _)) rfl ?_
  refine JQ.v (JV.move rfl) rfl ?_
  refine JQ.vg rfl rfl (JV.move rfl) rfl ?_
  refine JQ.vg rfl rfl (JV.move rfl) rfl ?_
  refine JQ.vg rfl rfl (JV.callM Tryd.call11 (evs_cons rfl (evs_cons rfl (evs_cons rfl evs_nil))) (fun w hw => derive_spec (Pl.derive [107] [97] []) [98] (by first | decide | (rw [Pl.derive_len]; decide)) (by decide) _ [] Pl.few_nil w (hw.reads (id := 901) rfl) (reads_nil w _ _ rfl rfl))) rfl ?_
  refine JQ.vg rfl rfl (JV.tt (JV.eqlS (l := (Pl.path [107] [[97], [98]])) (l' := Pl.derive (Pl.derive [107] [97] []) [98] []) rfl rfl) (rfl)) rfl ?_
  refine JQ.v (JV.pickT rfl rfl) rfl ?_
  refine JQ.v (JV.move rfl) rfl ?_
  refine JQ.vg rfl rfl (JV.move rfl) rfl ?_
  refine JQ.vg rfl rfl (JV.lenStr (l := Pl.val [115]) rfl Tryd.runUnderlying9) rfl ?_
  refine JQ.vg rfl rfl (JV.tt (JV.eqlN (b := 32) rfl rfl) (Pl.val_len _)) rfl ?_
  refine JQ.v (JV.pickT rfl rfl) rfl ?_
  refine JQ.v (JV.move rfl) rfl ?_
  refine JQ.vg rfl rfl (JV.fieldAddrK (o := 0) rfl Tryd.runUnderlying33 rfl Tryd.sizeOf9 rfl rfl) rfl ?_
  refine JQ.vg rfl rfl (JV.load1 2 rfl rfl Tryd.isAgg9 (rfl)) rfl ?_
  refine JQ.vg rfl rfl (JV.lenStr (l := Pl.seed [115]) rfl Tryd.runUnderlying9) rfl ?_
  refine JQ.vg rfl rfl (JV.tt (JV.eqlN (b := 32) rfl rfl) (Pl.seed_len _)) rfl ?_
  refine JQ.v (JV.pickT rfl rfl) rfl ?_
  refine JQ.v (JV.move rfl) rfl ?_
  refine JQ.vg rfl rfl (JV.move rfl) rfl ?_
  refine JQ.vg rfl rfl (JV.lenStr (l := Pl.kbS [115] 40) rfl Tryd.runUnderlying9) rfl ?_
  refine JQ.vg rfl rfl (JV.tt (JV.eqlN (b := 40) rfl rfl) (Pl.kbS_len [115] (n := 40) (by decide))) rfl ?_
  refine JQ.v (JV.pickT rfl rfl) rfl ?_
  refine JQ.v (JV.move rfl) rfl ?_
  refine JQ.vg rfl rfl (JV.move rfl) rfl ?_
  refine JQ.vg rfl rfl (JV.sliceStr (l := Pl.kbS [115] 40) rfl Tryd.runUnderlying9 rfl (bnd_some (n := 32) rfl) (by decide) (by rw [show (Pl.kbS [115] 40).length = 40 from Pl.kbS_len [115] (n := 40) (by decide)]; decide)) rfl ?_
  refine JQ.vg rfl rfl (JV.move rfl) rfl ?_
  refine JQ.vg rfl rfl (JV.tt (JV.eqlS (l := ((Pl.kbS [115] 40).drop 0).take (32 - 0)) (l' := Pl.val [115]) rfl rfl) (Pl.kbS_40 _)) rfl ?_
  refine JQ.v (JV.pickT rfl rfl) rfl ?_
  refine JQ.v (JV.move rfl) rfl ?_
  refine JQ.vg rfl rfl (JV.fieldAddrK (o := 0) rfl Tryd.runUnderlying33 rfl Tryd.sizeOf9 rfl rfl) rfl ?_
  refine JQ.vg rfl rfl (JV.load1 3 rfl rfl Tryd.isAgg9 (rfl)) rfl ?_
  refine JQ.vg rfl rfl (JV.lenStr (l := Pl.kbR [115] 40) rfl Tryd.runUnderlying9) rfl ?_
  refine JQ.vg rfl rfl (JV.tt (JV.eqlN (b := 32) rfl rfl) (Pl.kbR_40 _)) rfl ?_
  refine JQ.v (JV.pickT rfl rfl) rfl ?_
  refine JQ.v (JV.move rfl) rfl ?_
  refine JQ.vg rfl rfl (JV.move rfl) rfl ?_
  refine JQ.vg rfl rfl (JV.move rfl) rfl ?_
  refine JQ.vg rfl rfl (JV.tt (JV.neqS (l := (Pl.derive [107] [97] [])) (l' := (Pl.path [107] [[97], [98]])) rfl rfl) (sanAB)) rfl ?_
  refine JQ.v (JV.pickT rfl rfl) rfl ?_
  refine JQ.v (JV.move rfl) rfl ?_
  refine JQ.vg rfl rfl (JV.move rfl) rfl ?_
  refine JQ.vg rfl rfl (JV.fieldAddrK (o := 0) rfl Tryd.runUnderlying33 rfl Tryd.sizeOf9 rfl rfl) rfl ?_
  refine JQ.vg rfl rfl (JV.load1 2 rfl rfl Tryd.isAgg9 (rfl)) rfl ?_
  refine JQ.vg rfl rfl (JV.tt (JV.neqS (l := Pl.val [115]) (l' := Pl.seed [115]) rfl rfl) (sanVS)) rfl ?_
  refine JQ.v (JV.pickT rfl rfl) rfl ?_
  refine JQ.v (JV.assign rfl) rfl ?_
  refine JQ.nil ?_
  refine JQ.n_then ?_
  refine JQ.ret ?_
  refine JQ.done1 Tryd.results9 rfl ?_
  exact fun w hw => ⟨rfl, hw.below⟩

set_option maxHeartbeats 2000000 in
theorem law_derive (k l : List UInt8) (v : Value) (ms : List (List UInt8)) (hms : ms.length ≤ 9223372036854775807) (w : World) (hG : Gl 1 (Pl.K.map u32) w) (hR : Gl 0 (Pl.K.map u32) w) (hr : Reads w v 1 ms.length (ms.map str)) :
    Calls Tryd.prog 3 #[str k, str l, v] w fun e w' => e = .returned (.bool true) ∧ Below w.heap.size w w' := by
  
  refine enterA (vs := [_, _, _]) Tryd.func3 rfl 35 rfl [(901, .ro (gv 1 64) 1 64 (Pl.K.map u32)), (900, .ro (gv 0 64) 1 64 (Pl.K.map u32)), (100, .ro v 1 ms.length (ms.map str))] (((MemOk.start1 100 hr).addRo 900 hR (ro_cons ro_nil)).addRo 901 hG (ro_cons (ro_cons ro_nil))) ?_
  refine JQ.seq ?_
  refine JQ.region ?_
  refine JQ.v (JV.assign rfl) rfl ?_
  refine JQ.nil ?_
  refine JQ.n_then ?_
  refine JQ.seq ?_
  refine JQ.region ?_
  refine JQ.v (JV.callM Tryd.call9 evs_nil (fun w hw => sanity_spec w (hw.reads (id := 901) rfl))) rfl ?_
  refine JQ.v (JV.assign rfl) rfl ?_
  refine JQ.nil ?_
  refine JQ.n_then ?_
  refine JQ.seq ?_
  refine JQ.seq ?_
  refine JQ.region ?_
  refine JQ.v (JV.move rfl) rfl ?_
  refine JQ.v (JV.lenStr rfl Tryd.runUnderlying9) rfl ?_
  by_cases hs2_2 : 400 < k.length
  · refine JQ.v (JV.tt (JV.gtrN (b := 400) rfl rfl) hs2_2) rfl ?_
    refine JQ.v (JV.move rfl) rfl ?_
    refine JQ.g0 rfl rfl rfl rfl ?_
    refine JQ.g0 rfl rfl rfl rfl ?_
    refine JQ.g0 rfl rfl rfl rfl ?_
    refine JQ.v (JV.pickT rfl rfl) rfl ?_
    refine JQ.v (JV.move rfl) rfl ?_
    refine JQ.g0 rfl rfl rfl rfl ?_
    refine JQ.g0 rfl rfl rfl rfl ?_
    refine JQ.g0 rfl rfl rfl rfl ?_
    refine JQ.v (JV.pickT rfl rfl) rfl ?_
    refine JQ.nil ?_
    refine JQ.n_then ?_
    refine JQ.condT rfl ?_
    refine JQ.seq ?_
    refine JQ.region ?_
    refine JQ.v (JV.move rfl) rfl ?_
    refine JQ.v (JV.assign rfl) rfl ?_
    refine JQ.nil ?_
    refine JQ.n_then ?_
    refine JQ.ret ?_
    refine JQ.r_then ?_
    refine JQ.done1 Tryd.results3 rfl ?_
    exact fun w hw => ⟨rfl, hw.below⟩
  · refine JQ.v (JV.ff (JV.gtrN (b := 400) rfl rfl) hs2_2) rfl ?_
    refine JQ.v (JV.move rfl) rfl ?_
    refine JQ.vg rfl rfl (JV.move rfl) rfl ?_
    refine JQ.vg rfl rfl (JV.lenStr rfl Tryd.runUnderlying9) rfl ?_
    by_cases hs2_6 : 400 < l.length
    · refine JQ.vg rfl rfl (JV.tt (JV.gtrN (b := 400) rfl rfl) hs2_6) rfl ?_
      refine JQ.v (JV.pickF rfl rfl) rfl ?_
      refine JQ.v (JV.move rfl) rfl ?_
      refine JQ.g0 rfl rfl rfl rfl ?_
      refine JQ.g0 rfl rfl rfl rfl ?_
      refine JQ.g0 rfl rfl rfl rfl ?_
      refine JQ.v (JV.pickT rfl rfl) rfl ?_
      refine JQ.nil ?_
      refine JQ.n_then ?_
      refine JQ.condT rfl ?_
      refine JQ.seq ?_
      refine JQ.region ?_
      refine JQ.v (JV.move rfl) rfl ?_
      refine JQ.v (JV.assign rfl) rfl ?_
      refine JQ.nil ?_
      refine JQ.n_then ?_
      refine JQ.ret ?_
      refine JQ.r_then ?_
      refine JQ.done1 Tryd.results3 rfl ?_
      exact fun w hw => ⟨rfl, hw.below⟩
    · refine JQ.vg rfl rfl (JV.ff (JV.gtrN (b := 400) rfl rfl) hs2_6) rfl ?_
      refine JQ.v (JV.pickF rfl rfl) rfl ?_
      refine JQ.v (JV.move rfl) rfl ?_
      refine JQ.vg rfl rfl (JV.move rfl) rfl ?_
      by_cases hs2_10 : Pl.few' ms
      · refine JQ.vg rfl rfl (JV.tt (JV.callM Tryd.call10 (evs_cons rfl evs_nil) (fun w hw => few_spec v ms (by omega) w (hw.reads (id := 100) rfl))) hs2_10) rfl ?_
        refine JQ.vg rfl rfl (JV.notB rfl) rfl ?_
        refine JQ.v (JV.pickF rfl rfl) rfl ?_
        refine JQ.nil ?_
        refine JQ.n_then ?_
        refine JQ.condF rfl ?_
        refine JQ.skip ?_
        refine JQ.n_then ?_
        refine JQ.seq ?_
        refine JQ.region ?_
        refine JQ.v (JV.move rfl) rfl ?_
        refine JQ.v (JV.move rfl) rfl ?_
        refine JQ.vg rfl rfl (JV.move rfl) rfl ?_
        refine JQ.vg rfl rfl (JV.move rfl) rfl ?_
        refine JQ.vg rfl rfl (JV.move rfl) rfl ?_
        refine JQ.vg rfl rfl (JV.callM Tryd.call11 (evs_cons rfl (evs_cons rfl (evs_cons rfl evs_nil))) (fun w hw => derive_spec k l (by omega) (by omega) v ms hs2_10.few w (hw.reads (id := 901) rfl) (hw.reads (id := 100) rfl))) rfl ?_
        refine JQ.vg rfl rfl (JV.move rfl) rfl ?_
        refine JQ.vg rfl rfl (JV.move rfl) rfl ?_
        refine JQ.vg rfl rfl (JV.move rfl) rfl ?_
        refine JQ.vg rfl rfl (JV.callM Tryd.call12 (evs_cons rfl (evs_cons rfl (evs_cons rfl evs_nil))) (fun w hw => rderive_spec k l (by omega) (by omega) v ms hs2_10.few w (hw.reads (id := 900) rfl) (hw.reads (id := 100) rfl))) rfl ?_
        refine JQ.vg rfl rfl (JV.tt (JV.eqlS rfl rfl) (rfl)) rfl ?_
        refine JQ.v (JV.pickT rfl rfl) rfl ?_
        refine JQ.v (JV.assign rfl) rfl ?_
        refine JQ.nil ?_
        refine JQ.n_then ?_
        refine JQ.ret ?_
        refine JQ.done1 Tryd.results3 rfl ?_
        exact fun w hw => ⟨rfl, hw.below⟩
      · refine JQ.vg rfl rfl (JV.ff (JV.callM Tryd.call10 (evs_cons rfl evs_nil) (fun w hw => few_spec v ms (by omega) w (hw.reads (id := 100) rfl))) hs2_10) rfl ?_
        refine JQ.vg rfl rfl (JV.notB rfl) rfl ?_
        refine JQ.v (JV.pickF rfl rfl) rfl ?_
        refine JQ.nil ?_
        refine JQ.n_then ?_
        refine JQ.condT rfl ?_
        refine JQ.seq ?_
        refine JQ.region ?_
        refine JQ.v (JV.move rfl) rfl ?_
        refine JQ.v (JV.assign rfl) rfl ?_
        refine JQ.nil ?_
        refine JQ.n_then ?_
        refine JQ.ret ?_
        refine JQ.r_then ?_
        refine JQ.done1 Tryd.results3 rfl ?_
        exact fun w hw => ⟨rfl, hw.below⟩

set_option maxHeartbeats 2000000 in
theorem law_path (k : List UInt8) (v : Value) (ms : List (List UInt8)) (hms : ms.length ≤ 9223372036854775807) (b : Nat) (hb : b < 256) (w : World) (hG : Gl 1 (Pl.K.map u32) w) (hR : Gl 0 (Pl.K.map u32) w) (hr : Reads w v 1 ms.length (ms.map str)) :
    Calls Tryd.prog 4 #[str k, v, .int .u8 ((b : Nat) : Int)] w fun e w' => e = .returned (.bool true) ∧ Below w.heap.size w w' := by
  
  refine enterA (vs := [_, _, _]) Tryd.func4 rfl 50 rfl [(901, .ro (gv 1 64) 1 64 (Pl.K.map u32)), (900, .ro (gv 0 64) 1 64 (Pl.K.map u32)), (100, .ro v 1 ms.length (ms.map str))] (((MemOk.start1 100 hr).addRo 900 hR (ro_cons ro_nil)).addRo 901 hG (ro_cons (ro_cons ro_nil))) ?_
  refine JQ.seq ?_
  refine JQ.region ?_
  refine JQ.v (JV.assign rfl) rfl ?_
  refine JQ.nil ?_
  refine JQ.n_then ?_
  refine JQ.seq ?_
  refine JQ.region ?_
  refine JQ.v (JV.callM Tryd.call9 evs_nil (fun w hw => sanity_spec w (hw.reads (id := 901) rfl))) rfl ?_
  refine JQ.v (JV.assign rfl) rfl ?_
  refine JQ.nil ?_
  refine JQ.n_then ?_
  refine JQ.seq ?_
  refine JQ.seq ?_
  refine JQ.region ?_
  refine JQ.v (JV.move rfl) rfl ?_
  refine JQ.v (JV.lenStr rfl Tryd.runUnderlying9) rfl ?_
  by_cases hs2_2 : 400 < k.length
  · refine JQ.v (JV.tt (JV.gtrN (b := 400) rfl rfl) hs2_2) rfl ?_
    refine JQ.v (JV.move rfl) rfl ?_
    refine JQ.g0 rfl rfl rfl rfl ?_
    refine JQ.g0 rfl rfl rfl rfl ?_
    refine JQ.g0 rfl rfl rfl rfl ?_
    refine JQ.v (JV.pickT rfl rfl) rfl ?_
    refine JQ.nil ?_
    refine JQ.n_then ?_
    refine JQ.condT rfl ?_
    refine JQ.seq ?_
    refine JQ.region ?_
    refine JQ.v (JV.move rfl) rfl ?_
    refine JQ.v (JV.assign rfl) rfl ?_
    refine JQ.nil ?_
    refine JQ.n_then ?_
    refine JQ.ret ?_
    refine JQ.r_then ?_
    refine JQ.done1 Tryd.results4 rfl ?_
    exact fun w hw => ⟨rfl, hw.below⟩
  · refine JQ.v (JV.ff (JV.gtrN (b := 400) rfl rfl) hs2_2) rfl ?_
    refine JQ.v (JV.move rfl) rfl ?_
    refine JQ.vg rfl rfl (JV.move rfl) rfl ?_
    by_cases hs2_5 : Pl.few' ms
    · refine JQ.vg rfl rfl (JV.tt (JV.callM Tryd.call10 (evs_cons rfl evs_nil) (fun w hw => few_spec v ms (by omega) w (hw.reads (id := 100) rfl))) hs2_5) rfl ?_
      refine JQ.vg rfl rfl (JV.notB rfl) rfl ?_
      refine JQ.v (JV.pickF rfl rfl) rfl ?_
      refine JQ.nil ?_
      refine JQ.n_then ?_
      refine JQ.condF rfl ?_
      refine JQ.skip ?_
      refine JQ.n_then ?_
      refine JQ.seq ?_
      have h12 := hs2_5.1
      refine JQ.region ?_
      refine JQ.v (JV.move rfl) rfl ?_
      refine JQ.v (JV.convK Tryd.runUnderlying5 Tryd.runUnderlying3 rfl ((wrap_i64 (by omega)))) rfl ?_
      refine JQ.v (JV.move rfl) rfl ?_
      refine JQ.v (JV.lenRo 100 rfl rfl Tryd.runUnderlying22) rfl ?_
      refine JQ.v (JV.addN (b := 1) rfl rfl (by omega)) rfl ?_
      refine JQ.v (JV.remN rfl rfl (by omega)) rfl ?_
      refine JQ.v (JV.assign rfl) rfl ?_
      generalize hj : b % (ms.length + 1) = j
      have hjl : j ≤ ms.length := by rw [← hj]; have := Nat.mod_lt b (show 0 < ms.length + 1 by omega); omega
      refine JQ.nil ?_
      refine JQ.n_then ?_
      refine JQ.seq ?_
      refine JQ.region ?_
      refine JQ.v (JV.move rfl) rfl ?_
      refine JQ.v (JV.move rfl) rfl ?_
      refine JQ.v (JV.callM Tryd.call13 (evs_cons rfl (evs_cons rfl evs_nil)) (fun w hw => path_spec k (by omega) v ms hs2_5.few w (hw.reads (id := 901) rfl) (hw.reads (id := 100) rfl))) rfl ?_
      refine JQ.v (JV.assign rfl) rfl ?_
      refine JQ.nil ?_
      refine JQ.n_then ?_
      refine JQ.seq ?_
      refine JQ.any [_, _, _, _, _, _, _, _, _, _, _, _, _, _, _, _, _, _, _, _, _, _] [fun _ => [], fun _ => [], fun _ => [], fun _ => [], fun _ => [], fun _ => [], fun _ => [], fun _ => [], fun _ => [], fun _ => [], fun _ => [], fun _ => [], fun _ => [], _, fun _ => [], fun _ => [], fun _ => [], _, fun _ => [], fun _ => [], fun _ => [], fun _ => []] [⟨[], [], [], []⟩, ⟨[], [], [], [0]⟩, ⟨[], [], [], [0, 1]⟩, ⟨[], [], [], [0, 1]⟩, ⟨[], [], [], [0, 1]⟩, ⟨[100, 900], [], [], [0, 1, 3, 4]⟩, ⟨[], [], [], [0, 1, 2, 3, 4, 5]⟩, ⟨[], [], [], [0, 1, 2, 3, 4, 5, 6]⟩, ⟨[], [], [], [0, 1, 2, 3, 4, 5, 6, 7]⟩, ⟨[], [], [], [0, 1, 2, 3, 4, 5, 6, 7, 8]⟩, ⟨[], [], [], [0, 1, 2, 3, 4, 5, 6, 7, 8]⟩, ⟨[], [], [], [0, 1, 2, 3, 4, 5, 6, 7, 8]⟩, ⟨[], [], [], [0, 1, 2, 3, 4, 5, 6, 7, 8]⟩, ⟨[100], [1], [], [0, 1, 2, 3, 4, 5, 6, 7, 8, 11, 12]⟩, ⟨[1, 901], [], [13], [0, 1, 2, 3, 4, 5, 6, 7, 8, 10, 11, 12, 13]⟩, ⟨[], [], [], [0, 1, 2, 3, 4, 5, 6, 7, 8]⟩, ⟨[], [], [], [0, 1, 2, 3, 4, 5, 6, 7, 8]⟩, ⟨[100], [2], [], [0, 1, 2, 3, 4, 5, 6, 7, 8, 15, 16]⟩, ⟨[2, 901], [], [13, 17], [0, 1, 2, 3, 4, 5, 6, 7, 8, 10, 11, 12, 13, 14, 15, 16, 17]⟩, ⟨[], [], [13, 17], [0, 1, 2, 3, 4, 5, 6, 7, 8, 9, 10, 11, 12, 13, 14, 15, 16, 17, 18]⟩, ⟨[], [], [13, 17], [0, 1, 2, 3, 4, 5, 6, 7, 8, 9, 10, 11, 12, 13, 14, 15, 16, 17, 18, 19]⟩, ⟨[], [], [13, 17], [0, 1, 2, 3, 4, 5, 6, 7, 8, 9, 10, 11, 12, 13, 14, 15, 16, 17, 18, 19, 20]⟩] Tryd.mixed rfl (by kernel_rfl) ⟨Ob.v rfl (fun _ _ h => by cases h) (fun _ _ _ => rfl) (fun e L' hL => JV.move rfl),
                Ob.v rfl (fun _ _ h => by cases h) (fun _ _ _ => rfl) (fun e L' hL => JV.move rfl),
                Ob.vg rfl rfl (fun _ => rfl) (fun _ _ h => by cases h) (fun _ _ _ => rfl) (fun e L' hL => JV.move rfl),
                Ob.vg rfl rfl (fun _ => rfl) (fun _ _ h => by cases h) (fun _ _ _ => rfl) (fun e L' hL => JV.move rfl),
                Ob.vg rfl rfl (fun _ => rfl) (fun _ _ h => by cases h) (fun _ _ _ => rfl) (fun e L' hL => JV.move rfl),
                Ob.vg rfl rfl (fun _ => rfl) (fun _ _ h => by cases h) (fun _ _ _ => rfl) (fun e L' hL => JV.callM Tryd.call14 (evs_cons rfl (evs_cons rfl evs_nil)) (fun w hw => rpath_spec k (by omega) v ms hs2_5.few w (hw.reads (id := 900) ((hL 900 (by decide)).trans rfl)) (hw.reads (id := 100) ((hL 100 (by decide)).trans rfl)))),
                Ob.vg rfl rfl (fun _ => rfl) (fun _ _ h => by cases h) (fun _ _ _ => rfl) (fun e L' hL => JV.tt (JV.eqlS (l := Pl.path k ms) (l' := Pl.path k ms) rfl rfl) (rfl)),
                Ob.v rfl (fun _ _ h => by cases h) (fun _ _ _ => rfl) (fun e L' hL => JV.pickT rfl rfl),
                Ob.v rfl (fun _ _ h => by cases h) (fun _ _ _ => rfl) (fun e L' hL => JV.move rfl),
                Ob.vg rfl rfl (fun _ => rfl) (fun _ _ h => by cases h) (fun _ _ _ => rfl) (fun e L' hL => JV.move rfl),
                Ob.vg rfl rfl (fun _ => rfl) (fun _ _ h => by cases h) (fun _ _ _ => rfl) (fun e L' hL => JV.move rfl),
                Ob.vg rfl rfl (fun _ => rfl) (fun _ _ h => by cases h) (fun _ _ _ => rfl) (fun e L' hL => JV.move rfl),
                Ob.vg rfl rfl (fun _ => rfl) (fun _ _ h => by cases h) (fun _ _ _ => rfl) (fun e L' hL => JV.move rfl),
                Ob.valg 1 rfl rfl (fun _ => rfl) (fun _ _ h => by cases h) (fun _ _ _ => ⟨rfl, rfl⟩) (by decide) (fun e L' hL => JO.sliceRo 100 1 (us := (ms.take j).map str) rfl ((hL 100 (by decide)).trans rfl) Tryd.runUnderlying22 Tryd.sizeOf9 rfl (bnd_some rfl) (by omega) (by omega) (by rw [List.drop_zero, Nat.sub_zero, List.map_take]) (by decide)),
                Ob.vg rfl rfl (fun _ => rfl) (fun _ _ h => by cases h) (fun e e' he => by simp only [he 13 (by decide)]) (fun e L' hL => JV.callM Tryd.call13 (evs_cons rfl (evs_cons rfl evs_nil)) (fun w hw => path_spec k (by omega) _ (ms.take j) (hs2_5.few.take j) w (hw.reads (id := 901) ((hL 901 (by decide)).trans rfl)) (by have h := hw.reads (id := 1) ((hL 1 (by decide)).trans rfl); rwa [show j - 0 = (ms.take j).length from by simp <;> omega] at h))),
                Ob.vg rfl rfl (fun _ => rfl) (fun _ _ h => by cases h) (fun _ _ _ => rfl) (fun e L' hL => JV.move rfl),
                Ob.vg rfl rfl (fun _ => rfl) (fun _ _ h => by cases h) (fun _ _ _ => rfl) (fun e L' hL => JV.move rfl),
                Ob.valg 2 rfl rfl (fun _ => rfl) (fun _ _ h => by cases h) (fun _ _ _ => ⟨rfl, rfl⟩) (by decide) (fun e L' hL => JO.sliceRo 100 2 (us := (ms.drop j).map str) rfl ((hL 100 (by decide)).trans rfl) Tryd.runUnderlying22 Tryd.sizeOf9 (bnd_some rfl) rfl (by omega) (by omega) (by rw [← List.map_drop, List.take_of_length_le (by simp)]) (by decide)),
                Ob.vg rfl rfl (fun _ => rfl) (fun _ _ h => by cases h) (fun e e' he => by simp only [he 13 (by decide), he 17 (by decide)]) (fun e L' hL => JV.callM Tryd.call13 (evs_cons rfl (evs_cons rfl evs_nil)) (fun w hw => path_spec (Pl.path k (ms.take j)) (by have := Pl.path_len k (ms.take j); omega) _ (ms.drop j) (Pl.few_drop hs2_5.few j) w (hw.reads (id := 901) ((hL 901 (by decide)).trans rfl)) (by have h := hw.reads (id := 2) ((hL 2 (by decide)).trans rfl); rwa [show ms.length - j = (ms.drop j).length from by simp <;> omega] at h))),
                Ob.vg rfl rfl (fun _ => rfl) (fun _ _ h => by cases h) (fun e e' he => by simp only [he 13 (by decide), he 17 (by decide)]) (fun e L' hL => JV.tt (JV.eqlS (l := Pl.path k ms) (l' := Pl.path (Pl.path k (ms.take j)) (ms.drop j)) rfl rfl) ((Pl.path_split k ms j).symm)),
                Ob.v rfl (fun _ _ h => by cases h) (fun e e' he => by simp only [he 13 (by decide), he 17 (by decide)]) (fun e L' hL => JV.pickT rfl rfl),
                Ob.v rfl (fun _ _ h => by cases h) (fun e e' he => by simp only [he 13 (by decide), he 17 (by decide)]) (fun e L' hL => JV.assign rfl), trivial⟩ (fun ev6 => ?_)
      simp only [endF, endL, putF, List.nil_append, List.cons_append]
      refine JQ.n_then ?_
      refine JQ.ret ?_
      refine JQ.done1 Tryd.results4 rfl ?_
      exact fun w hw => ⟨rfl, hw.below⟩
    · refine JQ.vg rfl rfl (JV.ff (JV.callM Tryd.call10 (evs_cons rfl evs_nil) (fun w hw => few_spec v ms (by omega) w (hw.reads (id := 100) rfl))) hs2_5) rfl ?_
      refine JQ.vg rfl rfl (JV.notB rfl) rfl ?_
      refine JQ.v (JV.pickF rfl rfl) rfl ?_
      refine JQ.nil ?_
      refine JQ.n_then ?_
      refine JQ.condT rfl ?_
      refine JQ.seq ?_
      refine JQ.region ?_
      refine JQ.v (JV.move rfl) rfl ?_
      refine JQ.v (JV.assign rfl) rfl ?_
      refine JQ.nil ?_
      refine JQ.n_then ?_
      refine JQ.ret ?_
      refine JQ.r_then ?_
      refine JQ.done1 Tryd.results4 rfl ?_
      exact fun w hw => ⟨rfl, hw.below⟩

set_option maxHeartbeats 2000000 in
theorem law_separates (k : List UInt8) (v1 v2 : Value) (ms1 ms2 : List (List UInt8)) (hms1 : ms1.length ≤ 9223372036854775807) (hms2 : ms2.length ≤ 9223372036854775807) (w : World) (hG : Gl 1 (Pl.K.map u32) w) (hR : Gl 0 (Pl.K.map u32) w) (hr1 : Reads w v1 1 ms1.length (ms1.map str)) (hr2 : Reads w v2 1 ms2.length (ms2.map str)) :
    Calls Tryd.prog 5 #[str k, v1, v2] w fun e w' => e = .returned (.bool true) ∧ Below w.heap.size w w' := by
  
  refine enterA (vs := [_, _, _]) Tryd.func5 rfl 111 rfl [(901, .ro (gv 1 64) 1 64 (Pl.K.map u32)), (900, .ro (gv 0 64) 1 64 (Pl.K.map u32)), (100, .ro v1 1 ms1.length (ms1.map str)), (101, .ro v2 1 ms2.length (ms2.map str))] ((((MemOk.start1 101 hr2).addRo 100 hr1 (ro_cons ro_nil)).addRo 900 hR (ro_cons (ro_cons ro_nil))).addRo 901 hG (ro_cons (ro_cons (ro_cons ro_nil)))) ?_
  refine JQ.seq ?_
  refine JQ.region ?_
  refine JQ.v (JV.assign rfl) rfl ?_
  refine JQ.nil ?_
  refine JQ.n_then ?_
  refine JQ.seq ?_
  refine JQ.region ?_
  refine JQ.v (JV.callM Tryd.call9 evs_nil (fun w hw => sanity_spec w (hw.reads (id := 901) rfl))) rfl ?_
  refine JQ.v (JV.assign rfl) rfl ?_
  refine JQ.nil ?_
  refine JQ.n_then ?_
  refine JQ.seq ?_
  refine JQ.seq ?_
  refine JQ.region ?_
  refine JQ.v (JV.move rfl) rfl ?_
  refine JQ.v (JV.lenStr rfl Tryd.runUnderlying9) rfl ?_
  by_cases hs2_2 : 400 < k.length
  · refine JQ.v (JV.tt (JV.gtrN (b := 400) rfl rfl) hs2_2) rfl ?_
    refine JQ.v (JV.move rfl) rfl ?_
    refine JQ.g0 rfl rfl rfl rfl ?_
    refine JQ.g0 rfl rfl rfl rfl ?_
    refine JQ.g0 rfl rfl rfl rfl ?_
    refine JQ.v (JV.pickT rfl rfl) rfl ?_
    refine JQ.v (JV.move rfl) rfl ?_
    refine JQ.g0 rfl rfl rfl rfl ?_
    refine JQ.g0 rfl rfl rfl rfl ?_
    refine JQ.g0 rfl rfl rfl rfl ?_
    refine JQ.v (JV.pickT rfl rfl) rfl ?_
    refine JQ.v (JV.move rfl) rfl ?_
    refine JQ.g0 rfl rfl rfl rfl ?_
    refine JQ.g0 rfl rfl rfl rfl ?_
    refine JQ.g0 rfl rfl rfl rfl ?_
    refine JQ.v (JV.pickT rfl rfl) rfl ?_
    refine JQ.v (JV.move rfl) rfl ?_
    refine JQ.g0 rfl rfl rfl rfl ?_
    refine JQ.g0 rfl rfl rfl rfl ?_
    refine JQ.g0 rfl rfl rfl rfl ?_
    refine JQ.v (JV.pickT rfl rfl) rfl ?_
    refine JQ.nil ?_
    refine JQ.n_then ?_
    refine JQ.condT rfl ?_
    refine JQ.seq ?_
    refine JQ.region ?_
    refine JQ.v (JV.move rfl) rfl ?_
    refine JQ.v (JV.assign rfl) rfl ?_
    refine JQ.nil ?_
    refine JQ.n_then ?_
    refine JQ.ret ?_
    refine JQ.r_then ?_
    refine JQ.done1 Tryd.results5 rfl ?_
    exact fun w hw => ⟨rfl, hw.below⟩
  · refine JQ.v (JV.ff (JV.gtrN (b := 400) rfl rfl) hs2_2) rfl ?_
    refine JQ.v (JV.move rfl) rfl ?_
    refine JQ.vg rfl rfl (JV.move rfl) rfl ?_
    by_cases hs2_5 : Pl.few' ms1
    · refine JQ.vg rfl rfl (JV.tt (JV.callM Tryd.call10 (evs_cons rfl evs_nil) (fun w hw => few_spec v1 ms1 (by omega) w (hw.reads (id := 100) rfl))) hs2_5) rfl ?_
      refine JQ.vg rfl rfl (JV.notB rfl) rfl ?_
      refine JQ.v (JV.pickF rfl rfl) rfl ?_
      refine JQ.v (JV.move rfl) rfl ?_
      refine JQ.vg rfl rfl (JV.move rfl) rfl ?_
      by_cases hs2_10 : Pl.few' ms2
      · refine JQ.vg rfl rfl (JV.tt (JV.callM Tryd.call10 (evs_cons rfl evs_nil) (fun w hw => few_spec v2 ms2 (by omega) w (hw.reads (id := 101) rfl))) hs2_10) rfl ?_
        refine JQ.vg rfl rfl (JV.notB rfl) rfl ?_
        refine JQ.v (JV.pickF rfl rfl) rfl ?_
        refine JQ.v (JV.move rfl) rfl ?_
        refine JQ.vg rfl rfl (JV.move rfl) rfl ?_
        refine JQ.vg rfl rfl (JV.lenRo 100 rfl rfl Tryd.runUnderlying22) rfl ?_
        by_cases hs2_16 : ms1.length = 0
        · refine JQ.vg rfl rfl (JV.tt (JV.eqlN (b := 0) rfl rfl) hs2_16) rfl ?_
          refine JQ.v (JV.pickF rfl rfl) rfl ?_
          refine JQ.v (JV.move rfl) rfl ?_
          refine JQ.g0 rfl rfl rfl rfl ?_
          refine JQ.g0 rfl rfl rfl rfl ?_
          refine JQ.g0 rfl rfl rfl rfl ?_
          refine JQ.v (JV.pickT rfl rfl) rfl ?_
          refine JQ.nil ?_
          refine JQ.n_then ?_
          refine JQ.condT rfl ?_
          refine JQ.seq ?_
          refine JQ.region ?_
          refine JQ.v (JV.move rfl) rfl ?_
          refine JQ.v (JV.assign rfl) rfl ?_
          refine JQ.nil ?_
          refine JQ.n_then ?_
          refine JQ.ret ?_
          refine JQ.r_then ?_
          refine JQ.done1 Tryd.results5 rfl ?_
          exact fun w hw => ⟨rfl, hw.below⟩
        · refine JQ.vg rfl rfl (JV.ff (JV.eqlN (b := 0) rfl rfl) hs2_16) rfl ?_
          refine JQ.v (JV.pickF rfl rfl) rfl ?_
          refine JQ.v (JV.move rfl) rfl ?_
          refine JQ.vg rfl rfl (JV.move rfl) rfl ?_
          refine JQ.vg rfl rfl (JV.lenRo 101 rfl rfl Tryd.runUnderlying22) rfl ?_
          by_cases hs2_21 : ms2.length = 0
          · refine JQ.vg rfl rfl (JV.tt (JV.eqlN (b := 0) rfl rfl) hs2_21) rfl ?_
            refine JQ.v (JV.pickF rfl rfl) rfl ?_
            refine JQ.nil ?_
            refine JQ.n_then ?_
            refine JQ.condT rfl ?_
            refine JQ.seq ?_
            refine JQ.region ?_
            refine JQ.v (JV.move rfl) rfl ?_
            refine JQ.v (JV.assign rfl) rfl ?_
            refine JQ.nil ?_
            refine JQ.n_then ?_
            refine JQ.ret ?_
            refine JQ.r_then ?_
            refine JQ.done1 Tryd.results5 rfl ?_
            exact fun w hw => ⟨rfl, hw.below⟩
          · refine JQ.vg rfl rfl (JV.ff (JV.eqlN (b := 0) rfl rfl) hs2_21) rfl ?_
            refine JQ.v (JV.pickF rfl rfl) rfl ?_
            refine JQ.nil ?_
            refine JQ.n_then ?_
            refine JQ.condF rfl ?_
            refine JQ.skip ?_
            refine JQ.n_then ?_
            refine JQ.seq ?_
            refine JQ.region ?_
            refine JQ.v (JV.move rfl) rfl ?_
            refine JQ.v (JV.lenRo 100 rfl rfl Tryd.runUnderlying22) rfl ?_
            refine JQ.v (JV.move rfl) rfl ?_
            refine JQ.v (JV.lenRo 101 rfl rfl Tryd.runUnderlying22) rfl ?_
            refine JQ.v (JV.eqlN rfl rfl) rfl ?_
            refine JQ.v (JV.assign rfl) rfl ?_
            refine JQ.nil ?_
            refine JQ.n_then ?_
            refine JQ.seq ?_
            refine JQ.seq ?_
            have hf1 := hs2_5.few
            have hf2 := hs2_10.few
            have h112 := hs2_5.1
            have h212 := hs2_10.1
            have hp1 : 0 < ms1.length := by omega
            have hp2 : 0 < ms2.length := by omega
            refine JQ.region ?_
            refine JQ.v (JV.assign rfl) rfl ?_
            refine JQ.nil ?_
            refine JQ.n_then ?_
            refine JQ.block ?_
            refine JQ.loopI (ι := Nat × Bool) (fun i => [(0, str k), (1, v1), (2, v2), (7, .bool true), (8, .bool i.2), (9, .int .i64 ((i.1 : Nat) : Int))]) (fun i => [(901, .ro (gv 1 64) 1 64 (Pl.K.map u32)), (900, .ro (gv 0 64) 1 64 (Pl.K.map u32)), (100, .ro v1 1 ms1.length (ms1.map str)), (101, .ro v2 1 ms2.length (ms2.map str))]) (fun i => i.1 ≤ ms1.length ∧ (i.2 = true → ms1.length = ms2.length ∧ ms1.take i.1 = ms2.take i.1) ∧ (i.2 = false → ¬ ms1 = ms2)) (fun i => ms1.length - i.1) (0, decide (ms1.length = ms2.length)) ⟨Nat.zero_le _, (fun h => ⟨of_decide_eq_true h, by simp⟩), fun h h2 => of_decide_eq_false h (by rw [h2])⟩ (subk_cons rfl (subk_cons rfl (subk_cons rfl (subk_cons rfl (subk_cons rfl (subk_cons rfl subk_nil)))))) (subr_cons rfl (subr_cons rfl (subr_cons rfl (subr_cons rfl subr_nil)))) ?_
            intro i hi
            have hle := hi.1
            refine JQ.seq ?_
            refine JQ.seq ?_
            refine JQ.region ?_
            refine JQ.v (JV.move rfl) rfl ?_
            refine JQ.v (JV.move rfl) rfl ?_
            refine JQ.v (JV.lenRo 100 rfl rfl Tryd.runUnderlying22) rfl ?_
            by_cases hs6_3 : i.1 < ms1.length
            · refine JQ.v (JV.tt (JV.lssN rfl rfl) hs6_3) rfl ?_
              refine JQ.v (JV.move rfl) rfl ?_
              refine JQ.vg rfl rfl (JV.move rfl) rfl ?_
              refine JQ.v (JV.pickT rfl rfl) rfl ?_
              refine JQ.nil ?_
              refine JQ.n_then ?_
              refine JQ.cond rfl (fun h51 => ?_) (fun h51 => ?_)
              · refine JQ.skip ?_
                refine JQ.n_then ?_
                refine JQ.seq ?_
                refine JQ.block ?_
                obtain ⟨hb1, hb2⟩ := hi.2.1 h51
                have hlt : i.1 < ms2.length := by omega
                refine JQ.any [_, _, _, _, _, _, _, _, _, _] [fun _ => [], fun _ => [], fun _ => [], fun _ => [], fun _ => [], fun _ => [], fun _ => [], fun _ => [], fun _ => [], fun _ => []] [⟨[], [], [], []⟩, ⟨[], [], [], []⟩, ⟨[100], [], [], [0, 1]⟩, ⟨[100], [], [], [0, 1, 2]⟩, ⟨[], [], [], []⟩, ⟨[], [], [], []⟩, ⟨[101], [], [], [4, 5]⟩, ⟨[101], [], [], [4, 5, 6]⟩, ⟨[], [], [], [0, 1, 2, 3, 4, 5, 6, 7]⟩, ⟨[], [], [], [0, 1, 2, 3, 4, 5, 6, 7, 8]⟩] Tryd.mixed rfl (by kernel_rfl) ⟨Ob.v rfl (fun _ _ h => by cases h) (fun _ _ _ => rfl) (fun e L' hL => JV.move rfl),
                                    Ob.v rfl (fun _ _ h => by cases h) (fun _ _ _ => rfl) (fun e L' hL => JV.move rfl),
                                    Ob.v rfl (fun _ _ h => by cases h) (fun _ _ _ => rfl) (fun e L' hL => JV.idxRo1 100 rfl rfl ((hL 100 (by decide)).trans rfl) Tryd.runUnderlying22 Tryd.sizeOf9 (by decide) (by omega)),
                                    Ob.v rfl (fun _ _ h => by cases h) (fun _ _ _ => rfl) (fun e L' hL => JV.loadR 100 rfl ((hL 100 (by decide)).trans rfl) Tryd.isAgg9 (getS _ _ (by omega))),
                                    Ob.v rfl (fun _ _ h => by cases h) (fun _ _ _ => rfl) (fun e L' hL => JV.move rfl),
                                    Ob.v rfl (fun _ _ h => by cases h) (fun _ _ _ => rfl) (fun e L' hL => JV.move rfl),
                                    Ob.v rfl (fun _ _ h => by cases h) (fun _ _ _ => rfl) (fun e L' hL => JV.idxRo1 101 rfl rfl ((hL 101 (by decide)).trans rfl) Tryd.runUnderlying22 Tryd.sizeOf9 (by decide) (by omega)),
                                    Ob.v rfl (fun _ _ h => by cases h) (fun _ _ _ => rfl) (fun e L' hL => JV.loadR 101 rfl ((hL 101 (by decide)).trans rfl) Tryd.isAgg9 (getS _ _ (by omega))),
                                    Ob.v rfl (fun _ _ h => by cases h) (fun _ _ _ => rfl) (fun e L' hL => JV.eqlS rfl rfl),
                                    Ob.v rfl (fun _ _ h => by cases h) (fun _ _ _ => rfl) (fun e L' hL => JV.assign rfl), trivial⟩ (fun ev8 => ?_)
                simp only [endF, endL, putF, List.nil_append, List.cons_append]
                refine JQ.n_block ?_
                refine JQ.n_then ?_
                refine JQ.region ?_
                refine JQ.v (JV.move rfl) rfl ?_
                refine JQ.v (JV.addN (b := 1) rfl rfl (by omega)) rfl ?_
                refine JQ.v (JV.assign rfl) rfl ?_
                refine JQ.nil ?_
                refine JQ.n_then ?_
                exact JQ.nextI (i.1 + 1, decide (ms1.getD i.1 [] = ms2.getD i.1 [])) (by exact ⟨by show i.1 + 1 ≤ _; omega, fun h => ⟨hb1, Pl.take_next hs6_3 hlt hb2 (of_decide_eq_true h)⟩, fun h h2 => of_decide_eq_false h (by rw [h2])⟩) (by show ms1.length - (i.1 + 1) < ms1.length - i.1; omega) (subk_cons rfl (subk_cons rfl (subk_cons rfl (subk_cons rfl (subk_cons rfl (subk_cons rfl subk_nil)))))) (subr_cons rfl (subr_cons rfl (subr_cons rfl (subr_cons rfl subr_nil))))
              · refine JQ.exit ?_
                refine JQ.e_then ?_
                refine JQ.e_then ?_
                refine JQ.e_here ?_
                refine JQ.n_then ?_
                refine JQ.seq ?_
                have hsame : i.2 = decide (ms1 = ms2) := by
                  cases hb : i.2 with
                  | false => exact (decide_eq_false (hi.2.2 hb)).symm
                  | true =>
                    first
                    | exact absurd (h51.symm.trans hb) (by decide)
                    | (obtain ⟨e1, e2⟩ := hi.2.1 hb; rw [List.take_of_length_le (by omega), List.take_of_length_le (by omega)] at e2; exact (decide_eq_true e2).symm)
                refine JQ.any [_, _, _, _, _, _, _] [fun _ => [], fun _ => [], fun _ => [], fun _ => [], _, fun _ => [], fun _ => []] [⟨[], [], [], []⟩, ⟨[100], [], [], [0]⟩, ⟨[100], [], [], [0, 1]⟩, ⟨[], [], [], []⟩, ⟨[100], [1], [], [3]⟩, ⟨[1], [], [4], [0, 1, 2, 3, 4]⟩, ⟨[], [], [4], [0, 1, 2, 3, 4, 5]⟩] Tryd.mixed rfl (by kernel_rfl) ⟨Ob.v rfl (fun _ _ h => by cases h) (fun _ _ _ => rfl) (fun e L' hL => JV.move rfl),
                                    Ob.v rfl (fun _ _ h => by cases h) (fun _ _ _ => rfl) (fun e L' hL => JV.idxRo1 100 (k := 0) rfl rfl ((hL 100 (by decide)).trans rfl) Tryd.runUnderlying22 Tryd.sizeOf9 (by decide) (by omega)),
                                    Ob.v rfl (fun _ _ h => by cases h) (fun _ _ _ => rfl) (fun e L' hL => JV.loadR 100 rfl ((hL 100 (by decide)).trans rfl) Tryd.isAgg9 (getS _ _ (by omega))),
                                    Ob.v rfl (fun _ _ h => by cases h) (fun _ _ _ => rfl) (fun e L' hL => JV.move rfl),
                                    Ob.val 1 rfl (fun _ _ h => by cases h) (fun _ _ _ => ⟨rfl, rfl⟩) (by decide) (fun e L' hL => JO.sliceRo 100 1 (us := (ms1.drop 1).map str) rfl ((hL 100 (by decide)).trans rfl) Tryd.runUnderlying22 Tryd.sizeOf9 (bnd_some (n := 1) rfl) rfl (by omega) (by omega) (by rw [← List.map_drop, List.take_of_length_le (by simp)]) (by decide)),
                                    Ob.v rfl (fun _ _ h => by cases h) (fun e e' he => by simp only [he 4 (by decide)]) (fun e L' hL => JV.callM Tryd.call15 (evs_cons rfl (evs_cons rfl evs_nil)) (fun w hw => rkin_spec (ms1.getD 0 []) (hf1.get 0) _ (ms1.drop 1) (Pl.few_drop hf1 1) w (by have h := hw.reads (id := 1) ((hL 1 (by decide)).trans rfl); rwa [show ms1.length - 1 = (ms1.drop 1).length from by simp <;> omega] at h))),
                                    Ob.v rfl (fun _ _ h => by cases h) (fun e e' he => by simp only [he 4 (by decide)]) (fun e L' hL => JV.assign rfl), trivial⟩ (fun ev9 => ?_)
                simp only [endF, endL, putF, List.nil_append, List.cons_append]
                refine JQ.n_then ?_
                refine JQ.seq ?_
                refine JQ.any [_, _, _, _, _, _, _] [fun _ => [], fun _ => [], fun _ => [], fun _ => [], _, fun _ => [], fun _ => []] [⟨[], [], [], []⟩, ⟨[101], [], [], [0]⟩, ⟨[101], [], [], [0, 1]⟩, ⟨[], [], [], []⟩, ⟨[101], [2], [], [3]⟩, ⟨[2], [], [4], [0, 1, 2, 3, 4]⟩, ⟨[], [], [4], [0, 1, 2, 3, 4, 5]⟩] Tryd.mixed rfl (by kernel_rfl) ⟨Ob.v rfl (fun _ _ h => by cases h) (fun _ _ _ => rfl) (fun e L' hL => JV.move rfl),
                                    Ob.v rfl (fun _ _ h => by cases h) (fun _ _ _ => rfl) (fun e L' hL => JV.idxRo1 101 (k := 0) rfl rfl ((hL 101 (by decide)).trans rfl) Tryd.runUnderlying22 Tryd.sizeOf9 (by decide) (by omega)),
                                    Ob.v rfl (fun _ _ h => by cases h) (fun _ _ _ => rfl) (fun e L' hL => JV.loadR 101 rfl ((hL 101 (by decide)).trans rfl) Tryd.isAgg9 (getS _ _ (by omega))),
                                    Ob.v rfl (fun _ _ h => by cases h) (fun _ _ _ => rfl) (fun e L' hL => JV.move rfl),
                                    Ob.val 2 rfl (fun _ _ h => by cases h) (fun _ _ _ => ⟨rfl, rfl⟩) (by decide) (fun e L' hL => JO.sliceRo 101 2 (us := (ms2.drop 1).map str) rfl ((hL 101 (by decide)).trans rfl) Tryd.runUnderlying22 Tryd.sizeOf9 (bnd_some (n := 1) rfl) rfl (by omega) (by omega) (by rw [← List.map_drop, List.take_of_length_le (by simp)]) (by decide)),
                                    Ob.v rfl (fun _ _ h => by cases h) (fun e e' he => by simp only [he 4 (by decide)]) (fun e L' hL => JV.callM Tryd.call15 (evs_cons rfl (evs_cons rfl evs_nil)) (fun w hw => rkin_spec (ms2.getD 0 []) (hf2.get 0) _ (ms2.drop 1) (Pl.few_drop hf2 1) w (by have h := hw.reads (id := 2) ((hL 2 (by decide)).trans rfl); rwa [show ms2.length - 1 = (ms2.drop 1).length from by simp <;> omega] at h))),
                                    Ob.v rfl (fun _ _ h => by cases h) (fun e e' he => by simp only [he 4 (by decide)]) (fun e L' hL => JV.assign rfl), trivial⟩ (fun ev10 => ?_)
                simp only [endF, endL, putF, List.nil_append, List.cons_append]
                refine JQ.n_then ?_
                refine JQ.seq ?_
                refine JQ.any [_, _, _, _, _, _, _, _] [fun _ => [], fun _ => [], fun _ => [], fun _ => [], fun _ => [], _, fun _ => [], fun _ => []] [⟨[], [], [], []⟩, ⟨[], [], [], []⟩, ⟨[100], [], [], [1]⟩, ⟨[100], [], [], [1, 2]⟩, ⟨[], [], [], []⟩, ⟨[100], [3], [], [4]⟩, ⟨[3, 901], [], [5], [0, 1, 2, 3, 4, 5]⟩, ⟨[], [], [5], [0, 1, 2, 3, 4, 5, 6]⟩] Tryd.mixed rfl (by kernel_rfl) ⟨Ob.v rfl (fun _ _ h => by cases h) (fun _ _ _ => rfl) (fun e L' hL => JV.move rfl),
                                    Ob.v rfl (fun _ _ h => by cases h) (fun _ _ _ => rfl) (fun e L' hL => JV.move rfl),
                                    Ob.v rfl (fun _ _ h => by cases h) (fun _ _ _ => rfl) (fun e L' hL => JV.idxRo1 100 (k := 0) rfl rfl ((hL 100 (by decide)).trans rfl) Tryd.runUnderlying22 Tryd.sizeOf9 (by decide) (by omega)),
                                    Ob.v rfl (fun _ _ h => by cases h) (fun _ _ _ => rfl) (fun e L' hL => JV.loadR 100 rfl ((hL 100 (by decide)).trans rfl) Tryd.isAgg9 (getS _ _ (by omega))),
                                    Ob.v rfl (fun _ _ h => by cases h) (fun _ _ _ => rfl) (fun e L' hL => JV.move rfl),
                                    Ob.val 3 rfl (fun _ _ h => by cases h) (fun _ _ _ => ⟨rfl, rfl⟩) (by decide) (fun e L' hL => JO.sliceRo 100 3 (us := (ms1.drop 1).map str) rfl ((hL 100 (by decide)).trans rfl) Tryd.runUnderlying22 Tryd.sizeOf9 (bnd_some (n := 1) rfl) rfl (by omega) (by omega) (by rw [← List.map_drop, List.take_of_length_le (by simp)]) (by decide)),
                                    Ob.v rfl (fun _ _ h => by cases h) (fun e e' he => by simp only [he 5 (by decide)]) (fun e L' hL => JV.callM Tryd.call11 (evs_cons rfl (evs_cons rfl (evs_cons rfl evs_nil))) (fun w hw => derive_spec k (ms1.getD 0 []) (by omega) (hf1.get 0) _ (ms1.drop 1) (Pl.few_drop hf1 1) w (hw.reads (id := 901) ((hL 901 (by decide)).trans rfl)) (by have h := hw.reads (id := 3) ((hL 3 (by decide)).trans rfl); rwa [show ms1.length - 1 = (ms1.drop 1).length from by simp <;> omega] at h))),
                                    Ob.v rfl (fun _ _ h => by cases h) (fun e e' he => by simp only [he 5 (by decide)]) (fun e L' hL => JV.assign rfl), trivial⟩ (fun ev11 => ?_)
                simp only [endF, endL, putF, List.nil_append, List.cons_append]
                refine JQ.n_then ?_
                refine JQ.seq ?_
                refine JQ.any [_, _, _, _, _, _, _, _] [fun _ => [], fun _ => [], fun _ => [], fun _ => [], fun _ => [], _, fun _ => [], fun _ => []] [⟨[], [], [], []⟩, ⟨[], [], [], []⟩, ⟨[101], [], [], [1]⟩, ⟨[101], [], [], [1, 2]⟩, ⟨[], [], [], []⟩, ⟨[101], [4], [], [4]⟩, ⟨[4, 901], [], [5], [0, 1, 2, 3, 4, 5]⟩, ⟨[], [], [5], [0, 1, 2, 3, 4, 5, 6]⟩] Tryd.mixed rfl (by kernel_rfl) ⟨Ob.v rfl (fun _ _ h => by cases h) (fun _ _ _ => rfl) (fun e L' hL => JV.move rfl),
                                    Ob.v rfl (fun _ _ h => by cases h) (fun _ _ _ => rfl) (fun e L' hL => JV.move rfl),
                                    Ob.v rfl (fun _ _ h => by cases h) (fun _ _ _ => rfl) (fun e L' hL => JV.idxRo1 101 (k := 0) rfl rfl ((hL 101 (by decide)).trans rfl) Tryd.runUnderlying22 Tryd.sizeOf9 (by decide) (by omega)),
                                    Ob.v rfl (fun _ _ h => by cases h) (fun _ _ _ => rfl) (fun e L' hL => JV.loadR 101 rfl ((hL 101 (by decide)).trans rfl) Tryd.isAgg9 (getS _ _ (by omega))),
                                    Ob.v rfl (fun _ _ h => by cases h) (fun _ _ _ => rfl) (fun e L' hL => JV.move rfl),
                                    Ob.val 4 rfl (fun _ _ h => by cases h) (fun _ _ _ => ⟨rfl, rfl⟩) (by decide) (fun e L' hL => JO.sliceRo 101 4 (us := (ms2.drop 1).map str) rfl ((hL 101 (by decide)).trans rfl) Tryd.runUnderlying22 Tryd.sizeOf9 (bnd_some (n := 1) rfl) rfl (by omega) (by omega) (by rw [← List.map_drop, List.take_of_length_le (by simp)]) (by decide)),
                                    Ob.v rfl (fun _ _ h => by cases h) (fun e e' he => by simp only [he 5 (by decide)]) (fun e L' hL => JV.callM Tryd.call11 (evs_cons rfl (evs_cons rfl (evs_cons rfl evs_nil))) (fun w hw => derive_spec k (ms2.getD 0 []) (by omega) (hf2.get 0) _ (ms2.drop 1) (Pl.few_drop hf2 1) w (hw.reads (id := 901) ((hL 901 (by decide)).trans rfl)) (by have h := hw.reads (id := 4) ((hL 4 (by decide)).trans rfl); rwa [show ms2.length - 1 = (ms2.drop 1).length from by simp <;> omega] at h))),
                                    Ob.v rfl (fun _ _ h => by cases h) (fun e e' he => by simp only [he 5 (by decide)]) (fun e L' hL => JV.assign rfl), trivial⟩ (fun ev12 => ?_)
                simp only [endF, endL, putF, List.nil_append, List.cons_append]
                refine JQ.n_then ?_
                refine JQ.seq ?_
                refine JQ.region ?_
                refine JQ.v (JV.move rfl) rfl ?_
                refine JQ.v (JV.move rfl) rfl ?_
                refine JQ.v (JV.callM Tryd.call16 (evs_cons rfl (evs_cons rfl evs_nil)) (fun w hw => rmac_spec k (Pl.kin (ms1.getD 0 []) (ms1.drop 1)) (by omega) (by have := Pl.kin_few (hf1.get 0) (Pl.few_drop hf1 1); omega) w (hw.reads (id := 900) rfl))) rfl ?_
                refine JQ.v (JV.move rfl) rfl ?_
                refine JQ.v (JV.move rfl) rfl ?_
                refine JQ.v (JV.callM Tryd.call16 (evs_cons rfl (evs_cons rfl evs_nil)) (fun w hw => rmac_spec k (Pl.kin (ms2.getD 0 []) (ms2.drop 1)) (by omega) (by have := Pl.kin_few (hf2.get 0) (Pl.few_drop hf2 1); omega) w (hw.reads (id := 900) rfl))) rfl ?_
                refine JQ.v (JV.eqlS (l := Pl.mac k (Pl.kin (ms1.getD 0 []) (ms1.drop 1))) (l' := Pl.mac k (Pl.kin (ms2.getD 0 []) (ms2.drop 1))) rfl rfl) rfl ?_
                refine JQ.v (JV.assign rfl) rfl ?_
                refine JQ.nil ?_
                refine JQ.n_then ?_
                refine JQ.seq ?_
                refine JQ.region ?_
                refine JQ.v (JV.move rfl) rfl ?_
                refine JQ.v (JV.move rfl) rfl ?_
                refine JQ.vg rfl rfl (JV.move rfl) rfl ?_
                refine JQ.vg rfl rfl (JV.move rfl) rfl ?_
                refine JQ.vg rfl rfl (JV.move rfl) rfl ?_
                refine JQ.vg rfl rfl (JV.eqlS (l := (Pl.kin (ms1.getD 0 []) (ms1.drop 1))) (l' := (Pl.kin (ms2.getD 0 []) (ms2.drop 1))) rfl rfl) rfl ?_
                refine JQ.vg rfl rfl (JV.bt (JV.eqlB rfl rfl Tryd.underlying4) (by rw [hsame]; simpa using ((Pl.kin_eq hf1 hf2 hp1 hp2)).symm)) rfl ?_
                refine JQ.v (JV.pickT rfl rfl) rfl ?_
                refine JQ.v (JV.move rfl) rfl ?_
                refine JQ.vg rfl rfl (JV.move rfl) rfl ?_
                refine JQ.vg rfl rfl (JV.move rfl) rfl ?_
                refine JQ.vg rfl rfl (JV.eqlS (l := Pl.derive k (ms1.getD 0 []) (ms1.drop 1)) (l' := Pl.derive k (ms2.getD 0 []) (ms2.drop 1)) rfl rfl) rfl ?_
                refine JQ.vg rfl rfl (JV.move rfl) rfl ?_
                refine JQ.vg rfl rfl (JV.bt (JV.eqlB rfl rfl Tryd.underlying4) (by simp [Pl.derive])) rfl ?_
                refine JQ.v (JV.pickT rfl rfl) rfl ?_
                refine JQ.v (JV.assign rfl) rfl ?_
                refine JQ.nil ?_
                refine JQ.n_then ?_
                refine JQ.ret ?_
                refine JQ.done1 Tryd.results5 rfl ?_
                exact fun w hw => ⟨rfl, hw.below⟩
            · refine JQ.v (JV.ff (JV.lssN rfl rfl) hs6_3) rfl ?_
              refine JQ.v (JV.move rfl) rfl ?_
              refine JQ.g0 rfl rfl rfl rfl ?_
              refine JQ.v (JV.pickF rfl rfl) rfl ?_
              refine JQ.nil ?_
              refine JQ.n_then ?_
              refine JQ.condF rfl ?_
              refine JQ.exit ?_
              refine JQ.e_then ?_
              refine JQ.e_then ?_
              refine JQ.e_here ?_
              refine JQ.n_then ?_
              refine JQ.seq ?_
              have hsame : i.2 = decide (ms1 = ms2) := by
                cases hb : i.2 with
                | false => exact (decide_eq_false (hi.2.2 hb)).symm
                | true =>
                  first
                  | exact absurd (h51.symm.trans hb) (by decide)
                  | (obtain ⟨e1, e2⟩ := hi.2.1 hb; rw [List.take_of_length_le (by omega), List.take_of_length_le (by omega)] at e2; exact (decide_eq_true e2).symm)
              refine JQ.any [_, _, _, _, _, _, _] [fun _ => [], fun _ => [], fun _ => [], fun _ => [], _, fun _ => [], fun _ => []] [⟨[], [], [], []⟩, ⟨[100], [], [], [0]⟩, ⟨[100], [], [], [0, 1]⟩, ⟨[], [], [], []⟩, ⟨[100], [1], [], [3]⟩, ⟨[1], [], [4], [0, 1, 2, 3, 4]⟩, ⟨[], [], [4], [0, 1, 2, 3, 4, 5]⟩] Tryd.mixed rfl (by kernel_rfl) ⟨Ob.v rfl (fun _ _ h => by cases h) (fun _ _ _ => rfl) (fun e L' hL => JV.move rfl),
                                Ob.v rfl (fun _ _ h => by cases h) (fun _ _ _ => rfl) (fun e L' hL => JV.idxRo1 100 (k := 0) rfl rfl ((hL 100 (by decide)).trans rfl) Tryd.runUnderlying22 Tryd.sizeOf9 (by decide) (by omega)),
                                Ob.v rfl (fun _ _ h => by cases h) (fun _ _ _ => rfl) (fun e L' hL => JV.loadR 100 rfl ((hL 100 (by decide)).trans rfl) Tryd.isAgg9 (getS _ _ (by omega))),
                                Ob.v rfl (fun _ _ h => by cases h) (fun _ _ _ => rfl) (fun e L' hL => JV.move rfl),
                                Ob.val 1 rfl (fun _ _ h => by cases h) (fun _ _ _ => ⟨rfl, rfl⟩) (by decide) (fun e L' hL => JO.sliceRo 100 1 (us := (ms1.drop 1).map str) rfl ((hL 100 (by decide)).trans rfl) Tryd.runUnderlying22 Tryd.sizeOf9 (bnd_some (n := 1) rfl) rfl (by omega) (by omega) (by rw [← List.map_drop, List.take_of_length_le (by simp)]) (by decide)),
                                Ob.v rfl (fun _ _ h => by cases h) (fun e e' he => by simp only [he 4 (by decide)]) (fun e L' hL => JV.callM Tryd.call15 (evs_cons rfl (evs_cons rfl evs_nil)) (fun w hw => rkin_spec (ms1.getD 0 []) (hf1.get 0) _ (ms1.drop 1) (Pl.few_drop hf1 1) w (by have h := hw.reads (id := 1) ((hL 1 (by decide)).trans rfl); rwa [show ms1.length - 1 = (ms1.drop 1).length from by simp <;> omega] at h))),
                                Ob.v rfl (fun _ _ h => by cases h) (fun e e' he => by simp only [he 4 (by decide)]) (fun e L' hL => JV.assign rfl), trivial⟩ (fun ev9 => ?_)
              simp only [endF, endL, putF, List.nil_append, List.cons_append]
              refine JQ.n_then ?_
              refine JQ.seq ?_
              refine JQ.any [_, _, _, _, _, _, _] [fun _ => [], fun _ => [], fun _ => [], fun _ => [], _, fun _ => [], fun _ => []] [⟨[], [], [], []⟩, ⟨[101], [], [], [0]⟩, ⟨[101], [], [], [0, 1]⟩, ⟨[], [], [], []⟩, ⟨[101], [2], [], [3]⟩, ⟨[2], [], [4], [0, 1, 2, 3, 4]⟩, ⟨[], [], [4], [0, 1, 2, 3, 4, 5]⟩] Tryd.mixed rfl (by kernel_rfl) ⟨Ob.v rfl (fun _ _ h => by cases h) (fun _ _ _ => rfl) (fun e L' hL => JV.move rfl),
                                Ob.v rfl (fun _ _ h => by cases h) (fun _ _ _ => rfl) (fun e L' hL => JV.idxRo1 101 (k := 0) rfl rfl ((hL 101 (by decide)).trans rfl) Tryd.runUnderlying22 Tryd.sizeOf9 (by decide) (by omega)),
                                Ob.v rfl (fun _ _ h => by cases h) (fun _ _ _ => rfl) (fun e L' hL => JV.loadR 101 rfl ((hL 101 (by decide)).trans rfl) Tryd.isAgg9 (getS _ _ (by omega))),
                                Ob.v rfl (fun _ _ h => by cases h) (fun _ _ _ => rfl) (fun e L' hL => JV.move rfl),
                                Ob.val 2 rfl (fun _ _ h => by cases h) (fun _ _ _ => ⟨rfl, rfl⟩) (by decide) (fun e L' hL => JO.sliceRo 101 2 (us := (ms2.drop 1).map str) rfl ((hL 101 (by decide)).trans rfl) Tryd.runUnderlying22 Tryd.sizeOf9 (bnd_some (n := 1) rfl) rfl (by omega) (by omega) (by rw [← List.map_drop, List.take_of_length_le (by simp)]) (by decide)),
                                Ob.v rfl (fun _ _ h => by cases h) (fun e e' he => by simp only [he 4 (by decide)]) (fun e L' hL => JV.callM Tryd.call15 (evs_cons rfl (evs_cons rfl evs_nil)) (fun w hw => rkin_spec (ms2.getD 0 []) (hf2.get 0) _ (ms2.drop 1) (Pl.few_drop hf2 1) w (by have h := hw.reads (id := 2) ((hL 2 (by decide)).trans rfl); rwa [show ms2.length - 1 = (ms2.drop 1).length from by simp <;> omega] at h))),
                                Ob.v rfl (fun _ _ h => by cases h) (fun e e' he => by simp only [he 4 (by decide)]) (fun e L' hL => JV.assign rfl), trivial⟩ (fun ev10 => ?_)
              simp only [endF, endL, putF, List.nil_append, List.cons_append]
              refine JQ.n_then ?_
              refine JQ.seq ?_
              refine JQ.any [_, _, _, _, _, _, _, _] [fun _ => [], fun _ => [], fun _ => [], fun _ => [], fun _ => [], _, fun _ => [], fun _ => []] [⟨[], [], [], []⟩, ⟨[], [], [], []⟩, ⟨[100], [], [], [1]⟩, ⟨[100], [], [], [1, 2]⟩, ⟨[], [], [], []⟩, ⟨[100], [3], [], [4]⟩, ⟨[3, 901], [], [5], [0, 1, 2, 3, 4, 5]⟩, ⟨[], [], [5], [0, 1, 2, 3, 4, 5, 6]⟩] Tryd.mixed rfl (by kernel_rfl) ⟨Ob.v rfl (fun _ _ h => by cases h) (fun _ _ _ => rfl) (fun e L' hL => JV.move rfl),
                                Ob.v rfl (fun _ _ h => by cases h) (fun _ _ _ => rfl) (fun e L' hL => JV.move rfl),
                                Ob.v rfl (fun _ _ h => by cases h) (fun _ _ _ => rfl) (fun e L' hL => JV.idxRo1 100 (k := 0) rfl rfl ((hL 100 (by decide)).trans rfl) Tryd.runUnderlying22 Tryd.sizeOf9 (by decide) (by omega)),
                                Ob.v rfl (fun _ _ h => by cases h) (fun _ _ _ => rfl) (fun e L' hL => JV.loadR 100 rfl ((hL 100 (by decide)).trans rfl) Tryd.isAgg9 (getS _ _ (by omega))),
                                Ob.v rfl (fun _ _ h => by cases h) (fun _ _ _ => rfl) (fun e L' hL => JV.move rfl),
                                Ob.val 3 rfl (fun _ _ h => by cases h) (fun _ _ _ => ⟨rfl, rfl⟩) (by decide) (fun e L' hL => JO.sliceRo 100 3 (us := (ms1.drop 1).map str) rfl ((hL 100 (by decide)).trans rfl) Tryd.runUnderlying22 Tryd.sizeOf9 (bnd_some (n := 1) rfl) rfl (by omega) (by omega) (by rw [← List.map_drop, List.take_of_length_le (by simp)]) (by decide)),
                                Ob.v rfl (fun _ _ h => by cases h) (fun e e' he => by simp only [he 5 (by decide)]) (fun e L' hL => JV.callM Tryd.call11 (evs_cons rfl (evs_cons rfl (evs_cons rfl evs_nil))) (fun w hw => derive_spec k (ms1.getD 0 []) (by omega) (hf1.get 0) _ (ms1.drop 1) (Pl.few_drop hf1 1) w (hw.reads (id := 901) ((hL 901 (by decide)).trans rfl)) (by have h := hw.reads (id := 3) ((hL 3 (by decide)).trans rfl); rwa [show ms1.length - 1 = (ms1.drop 1).length from by simp <;> omega] at h))),
                                Ob.v rfl (fun _ _ h => by cases h) (fun e e' he => by simp only [he 5 (by decide)]) (fun e L' hL => JV.assign rfl), trivial⟩ (fun ev11 => ?_)
              simp only [endF, endL, putF, List.nil_append, List.cons_append]
              refine JQ.n_then ?_
              refine JQ.seq ?_
              refine JQ.any [_, _, _, _, _, _, _, _] [fun _ => [], fun _ => [], fun _ => [], fun _ => [], fun _ => [], _, fun _ => [], fun _ => []] [⟨[], [], [], []⟩, ⟨[], [], [], []⟩, ⟨[101], [], [], [1]⟩, ⟨[101], [], [], [1, 2]⟩, ⟨[], [], [], []⟩, ⟨[101], [4], [], [4]⟩, ⟨[4, 901], [], [5], [0, 1, 2, 3, 4, 5]⟩, ⟨[], [], [5], [0, 1, 2, 3, 4, 5, 6]⟩] Tryd.mixed rfl (by kernel_rfl) ⟨Ob.v rfl (fun _ _ h => by cases h) (fun _ _ _ => rfl) (fun e L' hL => JV.move rfl),
                                Ob.v rfl (fun _ _ h => by cases h) (fun _ _ _ => rfl) (fun e L' hL => JV.move rfl),
                                Ob.v rfl (fun _ _ h => by cases h) (fun _ _ _ => rfl) (fun e L' hL => JV.idxRo1 101 (k := 0) rfl rfl ((hL 101 (by decide)).trans rfl) Tryd.runUnderlying22 Tryd.sizeOf9 (by decide) (by omega)),
                                Ob.v rfl (fun _ _ h => by cases h) (fun _ _ _ => rfl) (fun e L' hL => JV.loadR 101 rfl ((hL 101 (by decide)).trans rfl) Tryd.isAgg9 (getS _ _ (by omega))),
                                Ob.v rfl (fun _ _ h => by cases h) (fun _ _ _ => rfl) (fun e L' hL => JV.move rfl),
                                Ob.val 4 rfl (fun _ _ h => by cases h) (fun _ _ _ => ⟨rfl, rfl⟩) (by decide) (fun e L' hL => JO.sliceRo 101 4 (us := (ms2.drop 1).map str) rfl ((hL 101 (by decide)).trans rfl) Tryd.runUnderlying22 Tryd.sizeOf9 (bnd_some (n := 1) rfl) rfl (by omega) (by omega) (by rw [← List.map_drop, List.take_of_length_le (by simp)]) (by decide)),
                                Ob.v rfl (fun _ _ h => by cases h) (fun e e' he => by simp only [he 5 (by decide)]) (fun e L' hL => JV.callM Tryd.call11 (evs_cons rfl (evs_cons rfl (evs_cons rfl evs_nil))) (fun w hw => derive_spec k (ms2.getD 0 []) (by omega) (hf2.get 0) _ (ms2.drop 1) (Pl.few_drop hf2 1) w (hw.reads (id := 901) ((hL 901 (by decide)).trans rfl)) (by have h := hw.reads (id := 4) ((hL 4 (by decide)).trans rfl); rwa [show ms2.length - 1 = (ms2.drop 1).length from by simp <;> omega] at h))),
                                Ob.v rfl (fun _ _ h => by cases h) (fun e e' he => by simp only [he 5 (by decide)]) (fun e L' hL => JV.assign rfl), trivial⟩ (fun ev12 => ?_)
              simp only [endF, endL, putF, List.nil_append, List.cons_append]
              refine JQ.n_then ?_
              refine JQ.seq ?_
              refine JQ.region ?_
              refine JQ.v (JV.move rfl) rfl ?_
              refine JQ.v (JV.move rfl) rfl ?_
              refine JQ.v (JV.callM Tryd.call16 (evs_cons rfl (evs_cons rfl evs_nil)) (fun w hw => rmac_spec k (Pl.kin (ms1.getD 0 []) (ms1.drop 1)) (by omega) (by have := Pl.kin_few (hf1.get 0) (Pl.few_drop hf1 1); omega) w (hw.reads (id := 900) rfl))) rfl ?_
              refine JQ.v (JV.move rfl) rfl ?_
              refine JQ.v (JV.move rfl) rfl ?_
              refine JQ.v (JV.callM Tryd.call16 (evs_cons rfl (evs_cons rfl evs_nil)) (fun w hw => rmac_spec k (Pl.kin (ms2.getD 0 []) (ms2.drop 1)) (by omega) (by have := Pl.kin_few (hf2.get 0) (Pl.few_drop hf2 1); omega) w (hw.reads (id := 900) rfl))) rfl ?_
              refine JQ.v (JV.eqlS (l := Pl.mac k (Pl.kin (ms1.getD 0 []) (ms1.drop 1))) (l' := Pl.mac k (Pl.kin (ms2.getD 0 []) (ms2.drop 1))) rfl rfl) rfl ?_
              refine JQ.v (JV.assign rfl) rfl ?_
              refine JQ.nil ?_
              refine JQ.n_then ?_
              refine JQ.seq ?_
              refine JQ.region ?_
              refine JQ.v (JV.move rfl) rfl ?_
              refine JQ.v (JV.move rfl) rfl ?_
              refine JQ.vg rfl rfl (JV.move rfl) rfl ?_
              refine JQ.vg rfl rfl (JV.move rfl) rfl ?_
              refine JQ.vg rfl rfl (JV.move rfl) rfl ?_
              refine JQ.vg rfl rfl (JV.eqlS (l := (Pl.kin (ms1.getD 0 []) (ms1.drop 1))) (l' := (Pl.kin (ms2.getD 0 []) (ms2.drop 1))) rfl rfl) rfl ?_
              refine JQ.vg rfl rfl (JV.bt (JV.eqlB rfl rfl Tryd.underlying4) (by rw [hsame]; simpa using ((Pl.kin_eq hf1 hf2 hp1 hp2)).symm)) rfl ?_
              refine JQ.v (JV.pickT rfl rfl) rfl ?_
              refine JQ.v (JV.move rfl) rfl ?_
              refine JQ.vg rfl rfl (JV.move rfl) rfl ?_
              refine JQ.vg rfl rfl (JV.move rfl) rfl ?_
              refine JQ.vg rfl rfl (JV.eqlS (l := Pl.derive k (ms1.getD 0 []) (ms1.drop 1)) (l' := Pl.derive k (ms2.getD 0 []) (ms2.drop 1)) rfl rfl) rfl ?_
              refine JQ.vg rfl rfl (JV.move rfl) rfl ?_
              refine JQ.vg rfl rfl (JV.bt (JV.eqlB rfl rfl Tryd.underlying4) (by simp [Pl.derive])) rfl ?_
              refine JQ.v (JV.pickT rfl rfl) rfl ?_
              refine JQ.v (JV.assign rfl) rfl ?_
              refine JQ.nil ?_
              refine JQ.n_then ?_
              refine JQ.ret ?_
              refine JQ.done1 Tryd.results5 rfl ?_
              exact fun w hw => ⟨rfl, hw.below⟩
      · refine JQ.vg rfl rfl (JV.ff (JV.callM Tryd.call10 (evs_cons rfl evs_nil) (fun w hw => few_spec v2 ms2 (by omega) w (hw.reads (id := 101) rfl))) hs2_10) rfl ?_
        refine JQ.vg rfl rfl (JV.notB rfl) rfl ?_
        refine JQ.v (JV.pickF rfl rfl) rfl ?_
        refine JQ.v (JV.move rfl) rfl ?_
        refine JQ.g0 rfl rfl rfl rfl ?_
        refine JQ.g0 rfl rfl rfl rfl ?_
        refine JQ.g0 rfl rfl rfl rfl ?_
        refine JQ.v (JV.pickT rfl rfl) rfl ?_
        refine JQ.v (JV.move rfl) rfl ?_
        refine JQ.g0 rfl rfl rfl rfl ?_
        refine JQ.g0 rfl rfl rfl rfl ?_
        refine JQ.g0 rfl rfl rfl rfl ?_
        refine JQ.v (JV.pickT rfl rfl) rfl ?_
        refine JQ.nil ?_
        refine JQ.n_then ?_
        refine JQ.condT rfl ?_
        refine JQ.seq ?_
        refine JQ.region ?_
        refine JQ.v (JV.move rfl) rfl ?_
        refine JQ.v (JV.assign rfl) rfl ?_
        refine JQ.nil ?_
        refine JQ.n_then ?_
        refine JQ.ret ?_
        refine JQ.r_then ?_
        refine JQ.done1 Tryd.results5 rfl ?_
        exact fun w hw => ⟨rfl, hw.below⟩
    · refine JQ.vg rfl rfl (JV.ff (JV.callM Tryd.call10 (evs_cons rfl evs_nil) (fun w hw => few_spec v1 ms1 (by omega) w (hw.reads (id := 100) rfl))) hs2_5) rfl ?_
      refine JQ.vg rfl rfl (JV.notB rfl) rfl ?_
      refine JQ.v (JV.pickF rfl rfl) rfl ?_
      refine JQ.v (JV.move rfl) rfl ?_
      refine JQ.g0 rfl rfl rfl rfl ?_
      refine JQ.g0 rfl rfl rfl rfl ?_
      refine JQ.g0 rfl rfl rfl rfl ?_
      refine JQ.v (JV.pickT rfl rfl) rfl ?_
      refine JQ.v (JV.move rfl) rfl ?_
      refine JQ.g0 rfl rfl rfl rfl ?_
      refine JQ.g0 rfl rfl rfl rfl ?_
      refine JQ.g0 rfl rfl rfl rfl ?_
      refine JQ.v (JV.pickT rfl rfl) rfl ?_
      refine JQ.v (JV.move rfl) rfl ?_
      refine JQ.g0 rfl rfl rfl rfl ?_
      refine JQ.g0 rfl rfl rfl rfl ?_
      refine JQ.g0 rfl rfl rfl rfl ?_
      refine JQ.v (JV.pickT rfl rfl) rfl ?_
      refine JQ.nil ?_
      refine JQ.n_then ?_
      refine JQ.condT rfl ?_
      refine JQ.seq ?_
      refine JQ.region ?_
      refine JQ.v (JV.move rfl) rfl ?_
      refine JQ.v (JV.assign rfl) rfl ?_
      refine JQ.nil ?_
      refine JQ.n_then ?_
      refine JQ.ret ?_
      refine JQ.r_then ?_
      refine JQ.done1 Tryd.results5 rfl ?_
      exact fun w hw => ⟨rfl, hw.below⟩

set_option maxHeartbeats 2000000 in
theorem law_random (s : List UInt8) (n : Int) (w : World) (hG : Gl 1 (Pl.K.map u32) w) (hR : Gl 0 (Pl.K.map u32) w) :
    Calls Tryd.prog 6 #[str s, .int .i64 n] w fun e w' => e = .returned (.bool true) ∧ Below w.heap.size w w' := by
  
  refine enterA (vs := [_, _]) Tryd.func6 rfl 78 rfl [(901, .ro (gv 1 64) 1 64 (Pl.K.map u32)), (900, .ro (gv 0 64) 1 64 (Pl.K.map u32))] ((MemOk.start1 900 hR).addRo 901 hG (ro_cons ro_nil)) ?_
  refine JQ.seq ?_
  refine JQ.region ?_
  refine JQ.v (JV.assign rfl) rfl ?_
  refine JQ.nil ?_
  refine JQ.n_then ?_
  refine JQ.seq ?_
  refine JQ.region ?_
  refine JQ.v (JV.callM Tryd.call9 evs_nil (fun w hw => sanity_spec w (hw.reads (id := 901) rfl))) rfl ?_
  refine JQ.v (JV.assign rfl) rfl ?_
  refine JQ.nil ?_
  refine JQ.n_then ?_
  refine JQ.seq ?_
  refine JQ.seq ?_
  refine JQ.region ?_
  refine JQ.v (JV.move rfl) rfl ?_
  refine JQ.v (JV.lenStr rfl Tryd.runUnderlying9) rfl ?_
  by_cases hs2_2 : 400 < s.length
  · refine JQ.v (JV.tt (JV.gtrN (b := 400) rfl rfl) hs2_2) rfl ?_
    refine JQ.v (JV.move rfl) rfl ?_
    refine JQ.g0 rfl rfl rfl rfl ?_
    refine JQ.g0 rfl rfl rfl rfl ?_
    refine JQ.g0 rfl rfl rfl rfl ?_
    refine JQ.gu rfl rfl rfl ?_
    refine JQ.gu rfl rfl rfl ?_
    refine JQ.g0 rfl rfl rfl rfl ?_
    refine JQ.v (JV.pickT rfl rfl) rfl ?_
    refine JQ.nil ?_
    refine JQ.n_then ?_
    refine JQ.condT rfl ?_
    refine JQ.seq ?_
    refine JQ.region ?_
    refine JQ.v (JV.move rfl) rfl ?_
    refine JQ.v (JV.assign rfl) rfl ?_
    refine JQ.nil ?_
    refine JQ.n_then ?_
    refine JQ.ret ?_
    refine JQ.r_then ?_
    refine JQ.done1 Tryd.results6 rfl ?_
    exact fun w hw => ⟨rfl, hw.below⟩
  · refine JQ.v (JV.ff (JV.gtrN (b := 400) rfl rfl) hs2_2) rfl ?_
    refine JQ.v (JV.move rfl) rfl ?_
    refine JQ.vg rfl rfl (JV.move rfl) rfl ?_
    by_cases hs2_5 : 400 < n
    · refine JQ.vg rfl rfl (JV.tt (JV.gtr rfl rfl) hs2_5) rfl ?_
      refine JQ.vg rfl rfl (JV.move rfl) rfl ?_
      refine JQ.vg rfl rfl (JV.move rfl) rfl ?_
      by_cases hs2_8 : n ≤ 8000
      · refine JQ.vg rfl rfl (JV.tt (JV.leq rfl rfl) hs2_8) rfl ?_
        refine JQ.vg rfl rfl (JV.pickT rfl rfl) rfl ?_
        refine JQ.v (JV.pickF rfl rfl) rfl ?_
        refine JQ.nil ?_
        refine JQ.n_then ?_
        refine JQ.condT rfl ?_
        refine JQ.seq ?_
        refine JQ.region ?_
        refine JQ.v (JV.move rfl) rfl ?_
        refine JQ.v (JV.assign rfl) rfl ?_
        refine JQ.nil ?_
        refine JQ.n_then ?_
        refine JQ.ret ?_
        refine JQ.r_then ?_
        refine JQ.done1 Tryd.results6 rfl ?_
        exact fun w hw => ⟨rfl, hw.below⟩
      · refine JQ.vg rfl rfl (JV.ff (JV.leq rfl rfl) hs2_8) rfl ?_
        refine JQ.vg rfl rfl (JV.pickT rfl rfl) rfl ?_
        refine JQ.v (JV.pickF rfl rfl) rfl ?_
        refine JQ.nil ?_
        refine JQ.n_then ?_
        refine JQ.condF rfl ?_
        refine JQ.skip ?_
        refine JQ.n_then ?_
        refine JQ.seq ?_
        refine JQ.region ?_
        refine JQ.v (JV.move rfl) rfl ?_
        refine JQ.v (JV.build (v := .agg [str s].toArray) (evp_cons rfl evp_nil) (fun w => by kernel_rfl)) rfl ?_
        refine JQ.v (JV.callM Tryd.call17 (evs_cons rfl evs_nil) (fun w hw => next_spec s (by omega) w (hw.reads (id := 901) rfl))) rfl ?_
        refine JQ.v (JV.move rfl) rfl ?_
        refine JQ.v (JV.extract rfl rfl) rfl ?_
        refine JQ.v (JV.extract rfl rfl) rfl ?_
        refine JQ.x (JO.alloc 1 (zs := [str []]) Tryd.zeroValue33 rfl) rfl ?_
        intro i4_6
        refine JQ.v (JV.assign rfl) rfl ?_
        refine JQ.s (JO.storeV 1 rfl rfl rfl (us := [str (Pl.seed s)]) rfl Tryd.sizeOf33 rfl rfl) ?_
        refine JQ.nil ?_
        refine JQ.n_then ?_
        refine JQ.seq ?_
        refine JQ.region ?_
        refine JQ.v (JV.move rfl) rfl ?_
        refine JQ.v (JV.build (v := .agg [str s].toArray) (evp_cons rfl evp_nil) (fun w => by kernel_rfl)) rfl ?_
        refine JQ.v (JV.callM Tryd.call18 (evs_cons rfl evs_nil) (fun w hw => rnext_spec s (by omega) w (hw.reads (id := 900) rfl))) rfl ?_
        refine JQ.v (JV.move rfl) rfl ?_
        refine JQ.v (JV.extract rfl rfl) rfl ?_
        refine JQ.v (JV.extract rfl rfl) rfl ?_
        refine JQ.x (JO.alloc 2 (zs := [str []]) Tryd.zeroValue36 rfl) rfl ?_
        intro i5_6
        refine JQ.v (JV.assign rfl) rfl ?_
        refine JQ.s (JO.storeV 2 rfl rfl rfl (us := [str (Pl.seed s)]) rfl Tryd.sizeOf36 rfl rfl) ?_
        refine JQ.nil ?_
        refine JQ.n_then ?_
        refine JQ.seq ?_
        refine JQ.region ?_
        refine JQ.v (JV.move rfl) rfl ?_
        refine JQ.v (JV.build (v := .agg [str s].toArray) (evp_cons rfl evp_nil) (fun w => by kernel_rfl)) rfl ?_
        refine JQ.v (JV.move rfl) rfl ?_
        refine JQ.v (JV.callM Tryd.call19 (evs_cons rfl (evs_cons rfl evs_nil)) (fun w hw => bytesN_spec s (by omega) n w (hw.reads (id := 901) rfl))) rfl ?_
        refine JQ.v (JV.move rfl) rfl ?_
        refine JQ.v (JV.extract rfl rfl) rfl ?_
        refine JQ.v (JV.extract rfl rfl) rfl ?_
        refine JQ.x (JO.alloc 3 (zs := [str []]) Tryd.zeroValue33 rfl) rfl ?_
        intro i6_7
        refine JQ.v (JV.assign rfl) rfl ?_
        refine JQ.s (JO.storeV 3 rfl rfl rfl (us := [str (Pl.kbR s n)]) rfl Tryd.sizeOf33 rfl rfl) ?_
        refine JQ.nil ?_
        refine JQ.n_then ?_
        refine JQ.seq ?_
        refine JQ.region ?_
        refine JQ.v (JV.move rfl) rfl ?_
        refine JQ.v (JV.build (v := .agg [str s].toArray) (evp_cons rfl evp_nil) (fun w => by kernel_rfl)) rfl ?_
        refine JQ.v (JV.move rfl) rfl ?_
        refine JQ.v (JV.callM Tryd.call20 (evs_cons rfl (evs_cons rfl evs_nil)) (fun w hw => rbytesN_spec s (by omega) n w (hw.reads (id := 900) rfl))) rfl ?_
        refine JQ.v (JV.move rfl) rfl ?_
        refine JQ.v (JV.extract rfl rfl) rfl ?_
        refine JQ.v (JV.extract rfl rfl) rfl ?_
        refine JQ.x (JO.alloc 4 (zs := [str []]) Tryd.zeroValue36 rfl) rfl ?_
        intro i7_7
        refine JQ.v (JV.assign rfl) rfl ?_
        refine JQ.s (JO.storeV 4 rfl rfl rfl (us := [str (Pl.rbR s n)]) rfl Tryd.sizeOf36 rfl rfl) ?_
        refine JQ.nil ?_
        refine JQ.n_then ?_
        refine JQ.seq ?_
        refine JQ.region ?_
        refine JQ.v (JV.move rfl) rfl ?_
        refine JQ.v (JV.move rfl) rfl ?_
        refine JQ.vg rfl rfl (JV.move rfl) rfl ?_
        refine JQ.vg rfl rfl (JV.move rfl) rfl ?_
        refine JQ.vg rfl rfl (JV.tt (JV.eqlS (l := Pl.val s) (l' := Pl.val s) rfl rfl) (rfl)) rfl ?_
        refine JQ.v (JV.pickT rfl rfl) rfl ?_
        refine JQ.v (JV.move rfl) rfl ?_
        refine JQ.vg rfl rfl (JV.fieldAddrK (o := 0) rfl Tryd.runUnderlying33 rfl Tryd.sizeOf9 rfl rfl) rfl ?_
        refine JQ.vg rfl rfl (JV.load1 1 rfl rfl Tryd.isAgg9 (rfl)) rfl ?_
        refine JQ.vg rfl rfl (JV.fieldAddrK (o := 0) rfl Tryd.runUnderlying36 rfl Tryd.sizeOf9 rfl rfl) rfl ?_
        refine JQ.vg rfl rfl (JV.load1 2 rfl rfl Tryd.isAgg9 (rfl)) rfl ?_
        refine JQ.vg rfl rfl (JV.tt (JV.eqlS (l := Pl.seed s) (l' := Pl.seed s) rfl rfl) (rfl)) rfl ?_
        refine JQ.v (JV.pickT rfl rfl) rfl ?_
        refine JQ.v (JV.move rfl) rfl ?_
        refine JQ.vg rfl rfl (JV.move rfl) rfl ?_
        refine JQ.vg rfl rfl (JV.move rfl) rfl ?_
        refine JQ.vg rfl rfl (JV.tt (JV.eqlS (l := Pl.kbS s n) (l' := Pl.rbS s n) rfl rfl) (Pl.kbS_eq s n)) rfl ?_
        refine JQ.v (JV.pickT rfl rfl) rfl ?_
        refine JQ.v (JV.move rfl) rfl ?_
        refine JQ.vg rfl rfl (JV.fieldAddrK (o := 0) rfl Tryd.runUnderlying33 rfl Tryd.sizeOf9 rfl rfl) rfl ?_
        refine JQ.vg rfl rfl (JV.load1 3 rfl rfl Tryd.isAgg9 (rfl)) rfl ?_
        refine JQ.vg rfl rfl (JV.fieldAddrK (o := 0) rfl Tryd.runUnderlying36 rfl Tryd.sizeOf9 rfl rfl) rfl ?_
        refine JQ.vg rfl rfl (JV.load1 4 rfl rfl Tryd.isAgg9 (rfl)) rfl ?_
        refine JQ.vg rfl rfl (JV.tt (JV.eqlS (l := Pl.kbR s n) (l' := Pl.rbR s n) rfl rfl) (Pl.kbR_eq s n)) rfl ?_
        refine JQ.v (JV.pickT rfl rfl) rfl ?_
        refine JQ.v (JV.assign rfl) rfl ?_
        refine JQ.nil ?_
        refine JQ.n_then ?_
        refine JQ.ret ?_
        refine JQ.done1 Tryd.results6 rfl ?_
        exact fun w hw => ⟨rfl, hw.below⟩
    · refine JQ.vg rfl rfl (JV.ff (JV.gtr rfl rfl) hs2_5) rfl ?_
      refine JQ.vg rfl rfl (JV.move rfl) rfl ?_
      refine JQ.g0 rfl rfl rfl rfl ?_
      refine JQ.g0 rfl rfl rfl rfl ?_
      refine JQ.vg rfl rfl (JV.pickF rfl rfl) rfl ?_
      refine JQ.v (JV.pickF rfl rfl) rfl ?_
      refine JQ.nil ?_
      refine JQ.n_then ?_
      refine JQ.condF rfl ?_
      refine JQ.skip ?_
      refine JQ.n_then ?_
      refine JQ.seq ?_
      refine JQ.region ?_
      refine JQ.v (JV.move rfl) rfl ?_
      refine JQ.v (JV.build (v := .agg [str s].toArray) (evp_cons rfl evp_nil) (fun w => by kernel_rfl)) rfl ?_
      refine JQ.v (JV.callM Tryd.call17 (evs_cons rfl evs_nil) (fun w hw => next_spec s (by omega) w (hw.reads (id := 901) rfl))) rfl ?_
      refine JQ.v (JV.move rfl) rfl ?_
      refine JQ.v (JV.extract rfl rfl) rfl ?_
      refine JQ.v (JV.extract rfl rfl) rfl ?_
      refine JQ.x (JO.alloc 1 (zs := [str []]) Tryd.zeroValue33 rfl) rfl ?_
      intro i4_6
      refine JQ.v (JV.assign rfl) rfl ?_
      refine JQ.s (JO.storeV 1 rfl rfl rfl (us := [str (Pl.seed s)]) rfl Tryd.sizeOf33 rfl rfl) ?_
      refine JQ.nil ?_
      refine JQ.n_then ?_
      refine JQ.seq ?_
      refine JQ.region ?_
      refine JQ.v (JV.move rfl) rfl ?_
      refine JQ.v (JV.build (v := .agg [str s].toArray) (evp_cons rfl evp_nil) (fun w => by kernel_rfl)) rfl ?_
      refine JQ.v (JV.callM Tryd.call18 (evs_cons rfl evs_nil) (fun w hw => rnext_spec s (by omega) w (hw.reads (id := 900) rfl))) rfl ?_
      refine JQ.v (JV.move rfl) rfl ?_
      refine JQ.v (JV.extract rfl rfl) rfl ?_
      refine JQ.v (JV.extract rfl rfl) rfl ?_
      refine JQ.x (JO.alloc 2 (zs := [str []]) Tryd.zeroValue36 rfl) rfl ?_
      intro i5_6
      refine JQ.v (JV.assign rfl) rfl ?_
      refine JQ.s (JO.storeV 2 rfl rfl rfl (us := [str (Pl.seed s)]) rfl Tryd.sizeOf36 rfl rfl) ?_
      refine JQ.nil ?_
      refine JQ.n_then ?_
      refine JQ.seq ?_
      refine JQ.region ?_
      refine JQ.v (JV.move rfl) rfl ?_
      refine JQ.v (JV.build (v := .agg [str s].toArray) (evp_cons rfl evp_nil) (fun w => by kernel_rfl)) rfl ?_
      refine JQ.v (JV.move rfl) rfl ?_
      refine JQ.v (JV.callM Tryd.call19 (evs_cons rfl (evs_cons rfl evs_nil)) (fun w hw => bytesN_spec s (by omega) n w (hw.reads (id := 901) rfl))) rfl ?_
      refine JQ.v (JV.move rfl) rfl ?_
      refine JQ.v (JV.extract rfl rfl) rfl ?_
      refine JQ.v (JV.extract rfl rfl) rfl ?_
      refine JQ.x (JO.alloc 3 (zs := [str []]) Tryd.zeroValue33 rfl) rfl ?_
      intro i6_7
      refine JQ.v (JV.assign rfl) rfl ?_
      refine JQ.s (JO.storeV 3 rfl rfl rfl (us := [str (Pl.kbR s n)]) rfl Tryd.sizeOf33 rfl rfl) ?_
      refine JQ.nil ?_
      refine JQ.n_then ?_
      refine JQ.seq ?_
      refine JQ.region ?_
      refine JQ.v (JV.move rfl) rfl ?_
      refine JQ.v (JV.build (v := .agg [str s].toArray) (evp_cons rfl evp_nil) (fun w => by kernel_rfl)) rfl ?_
      refine JQ.v (JV.move rfl) rfl ?_
      refine JQ.v (JV.callM Tryd.call20 (evs_cons rfl (evs_cons rfl evs_nil)) (fun w hw => rbytesN_spec s (by omega) n w (hw.reads (id := 900) rfl))) rfl ?_
      refine JQ.v (JV.move rfl) rfl ?_
      refine JQ.v (JV.extract rfl rfl) rfl ?_
      refine JQ.v (JV.extract rfl rfl) rfl ?_
      refine JQ.x (JO.alloc 4 (zs := [str []]) Tryd.zeroValue36 rfl) rfl ?_
      intro i7_7
      refine JQ.v (JV.assign rfl) rfl ?_
      refine JQ.s (JO.storeV 4 rfl rfl rfl (us := [str (Pl.rbR s n)]) rfl Tryd.sizeOf36 rfl rfl) ?_
      refine JQ.nil ?_
      refine JQ.n_then ?_
      refine JQ.seq ?_
      refine JQ.region ?_
      refine JQ.v (JV.move rfl) rfl ?_
      refine JQ.v (JV.move rfl) rfl ?_
      refine JQ.vg rfl rfl (JV.move rfl) rfl ?_
      refine JQ.vg rfl rfl (JV.move rfl) rfl ?_
      refine JQ.vg rfl rfl (JV.tt (JV.eqlS (l := Pl.val s) (l' := Pl.val s) rfl rfl) (rfl)) rfl ?_
      refine JQ.v (JV.pickT rfl rfl) rfl ?_
      refine JQ.v (JV.move rfl) rfl ?_
      refine JQ.vg rfl rfl (JV.fieldAddrK (o := 0) rfl Tryd.runUnderlying33 rfl Tryd.sizeOf9 rfl rfl) rfl ?_
      refine JQ.vg rfl rfl (JV.load1 1 rfl rfl Tryd.isAgg9 (rfl)) rfl ?_
      refine JQ.vg rfl rfl (JV.fieldAddrK (o := 0) rfl Tryd.runUnderlying36 rfl Tryd.sizeOf9 rfl rfl) rfl ?_
      refine JQ.vg rfl rfl (JV.load1 2 rfl rfl Tryd.isAgg9 (rfl)) rfl ?_
      refine JQ.vg rfl rfl (JV.tt (JV.eqlS (l := Pl.seed s) (l' := Pl.seed s) rfl rfl) (rfl)) rfl ?_
      refine JQ.v (JV.pickT rfl rfl) rfl ?_
      refine JQ.v (JV.move rfl) rfl ?_
      refine JQ.vg rfl rfl (JV.move rfl) rfl ?_
      refine JQ.vg rfl rfl (JV.move rfl) rfl ?_
      refine JQ.vg rfl rfl (JV.tt (JV.eqlS (l := Pl.kbS s n) (l' := Pl.rbS s n) rfl rfl) (Pl.kbS_eq s n)) rfl ?_
      refine JQ.v (JV.pickT rfl rfl) rfl ?_
      refine JQ.v (JV.move rfl) rfl ?_
      refine JQ.vg rfl rfl (JV.fieldAddrK (o := 0) rfl Tryd.runUnderlying33 rfl Tryd.sizeOf9 rfl rfl) rfl ?_
      refine JQ.vg rfl rfl (JV.load1 3 rfl rfl Tryd.isAgg9 (rfl)) rfl ?_
      refine JQ.vg rfl rfl (JV.fieldAddrK (o := 0) rfl Tryd.runUnderlying36 rfl Tryd.sizeOf9 rfl rfl) rfl ?_
      refine JQ.vg rfl rfl (JV.load1 4 rfl rfl Tryd.isAgg9 (rfl)) rfl ?_
      refine JQ.vg rfl rfl (JV.tt (JV.eqlS (l := Pl.kbR s n) (l' := Pl.rbR s n) rfl rfl) (Pl.kbR_eq s n)) rfl ?_
      refine JQ.v (JV.pickT rfl rfl) rfl ?_
      refine JQ.v (JV.assign rfl) rfl ?_
      refine JQ.nil ?_
      refine JQ.n_then ?_
      refine JQ.ret ?_
      refine JQ.done1 Tryd.results6 rfl ?_
      exact fun w hw => ⟨rfl, hw.below⟩

set_option maxHeartbeats 2000000 in
theorem law_parts (s : List UInt8) (b n : Nat) (hb : b < 256) (hn : n < 256) (w : World) (hG : Gl 1 (Pl.K.map u32) w) :
    Calls Tryd.prog 7 #[str s, .int .u8 ((b : Nat) : Int), .int .u8 ((n : Nat) : Int)] w fun e w' => e = .returned (.bool true) ∧ Below w.heap.size w w' := by
  
  refine enterA (vs := [_, _, _]) Tryd.func7 rfl 72 rfl [(901, .ro (gv 1 64) 1 64 (Pl.K.map u32))] (MemOk.start1 901 hG) ?_
  refine JQ.seq ?_
  refine JQ.region ?_
  refine JQ.v (JV.assign rfl) rfl ?_
  refine JQ.nil ?_
  refine JQ.n_then ?_
  refine JQ.seq ?_
  refine JQ.region ?_
  refine JQ.v (JV.callM Tryd.call9 evs_nil (fun w hw => sanity_spec w (hw.reads (id := 901) rfl))) rfl ?_
  refine JQ.v (JV.assign rfl) rfl ?_
  refine JQ.nil ?_
  refine JQ.n_then ?_
  refine JQ.seq ?_
  refine JQ.seq ?_
  refine JQ.region ?_
  refine JQ.v (JV.move rfl) rfl ?_
  refine JQ.v (JV.lenStr rfl Tryd.runUnderlying9) rfl ?_
  by_cases hs2_2 : 400 < s.length
  · refine JQ.v (JV.tt (JV.gtrN (b := 400) rfl rfl) hs2_2) rfl ?_
    refine JQ.nil ?_
    refine JQ.n_then ?_
    refine JQ.condT rfl ?_
    refine JQ.seq ?_
    refine JQ.region ?_
    refine JQ.v (JV.move rfl) rfl ?_
    refine JQ.v (JV.assign rfl) rfl ?_
    refine JQ.nil ?_
    refine JQ.n_then ?_
    refine JQ.ret ?_
    refine JQ.r_then ?_
    refine JQ.done1 Tryd.results7 rfl ?_
    exact fun w hw => ⟨rfl, hw.below⟩
  · refine JQ.v (JV.ff (JV.gtrN (b := 400) rfl rfl) hs2_2) rfl ?_
    refine JQ.nil ?_
    refine JQ.n_then ?_
    refine JQ.condF rfl ?_
    refine JQ.skip ?_
    refine JQ.n_then ?_
    refine JQ.seq ?_
    refine JQ.region ?_
    refine JQ.v (JV.move rfl) rfl ?_
    refine JQ.v (JV.remN (b := 8) rfl rfl (by decide)) rfl ?_
    refine JQ.v (JV.convK Tryd.runUnderlying5 Tryd.runUnderlying3 rfl ((wrap_i64 (by omega)))) rfl ?_
    refine JQ.v (JV.mulN (a := 32) rfl rfl (by omega)) rfl ?_
    refine JQ.v (JV.assign rfl) rfl ?_
    refine JQ.nil ?_
    refine JQ.n_then ?_
    refine JQ.seq ?_
    refine JQ.region ?_
    refine JQ.v (JV.move rfl) rfl ?_
    refine JQ.v (JV.build (v := .agg [str s].toArray) (evp_cons rfl evp_nil) (fun w => by kernel_rfl)) rfl ?_
    refine JQ.v (JV.move rfl) rfl ?_
    refine JQ.v (JV.callM Tryd.call19 (evs_cons rfl (evs_cons rfl evs_nil)) (fun w hw => bytesN_spec s (by omega) ((32 * (b % 8) : Nat) : Int) w (hw.reads (id := 901) rfl))) rfl ?_
    refine JQ.v (JV.move rfl) rfl ?_
    refine JQ.v (JV.extract rfl rfl) rfl ?_
    refine JQ.v (JV.extract rfl rfl) rfl ?_
    refine JQ.x (JO.alloc 1 (zs := [str []]) Tryd.zeroValue33 rfl) rfl ?_
    intro i5_7
    refine JQ.v (JV.assign rfl) rfl ?_
    refine JQ.s (JO.storeV 1 rfl rfl rfl (us := [str (Pl.kbR s ((32 * (b % 8) : Nat) : Int))]) rfl Tryd.sizeOf33 rfl rfl) ?_
    refine JQ.nil ?_
    refine JQ.n_then ?_
    refine JQ.seq ?_
    refine JQ.region ?_
    refine JQ.v (JV.loadV 1 rfl rfl Tryd.isAgg33 Tryd.sizeOf33 rfl) rfl ?_
    refine JQ.v (JV.move rfl) rfl ?_
    refine JQ.v (JV.convK Tryd.runUnderlying5 Tryd.runUnderlying3 rfl ((wrap_i64 (by omega)))) rfl ?_
    refine JQ.v (JV.callM Tryd.call19 (evs_cons rfl (evs_cons rfl evs_nil)) (fun w hw => bytesN_spec (Pl.kbR s ((32 * (b % 8) : Nat) : Int)) (Pl.kbR_len (by omega) _) (n : Int) w (hw.reads (id := 901) rfl))) rfl ?_
    refine JQ.v (JV.move rfl) rfl ?_
    refine JQ.v (JV.extract rfl rfl) rfl ?_
    refine JQ.v (JV.extract rfl rfl) rfl ?_
    refine JQ.x (JO.alloc 2 (zs := [str []]) Tryd.zeroValue33 rfl) rfl ?_
    intro i6_7
    refine JQ.v (JV.assign rfl) rfl ?_
    refine JQ.s (JO.storeV 2 rfl rfl rfl (us := [str (Pl.kbR (Pl.kbR s ((32 * (b % 8) : Nat) : Int)) (n : Int))]) rfl Tryd.sizeOf33 rfl rfl) ?_
    refine JQ.nil ?_
    refine JQ.n_then ?_
    refine JQ.seq ?_
    refine JQ.region ?_
    refine JQ.v (JV.move rfl) rfl ?_
    refine JQ.v (JV.build (v := .agg [str s].toArray) (evp_cons rfl evp_nil) (fun w => by kernel_rfl)) rfl ?_
    refine JQ.v (JV.move rfl) rfl ?_
    refine JQ.v (JV.move rfl) rfl ?_
    refine JQ.v (JV.convK Tryd.runUnderlying5 Tryd.runUnderlying3 rfl ((wrap_i64 (by omega)))) rfl ?_
    refine JQ.v (JV.addN rfl rfl (by omega)) rfl ?_
    refine JQ.v (JV.callM Tryd.call19 (evs_cons rfl (evs_cons rfl evs_nil)) (fun w hw => bytesN_spec s (by omega) ((32 * (b % 8) + n : Nat) : Int) w (hw.reads (id := 901) rfl))) rfl ?_
    refine JQ.v (JV.move rfl) rfl ?_
    refine JQ.v (JV.extract rfl rfl) rfl ?_
    refine JQ.v (JV.extract rfl rfl) rfl ?_
    refine JQ.x (JO.alloc 3 (zs := [str []]) Tryd.zeroValue33 rfl) rfl ?_
    intro i7_10
    refine JQ.v (JV.assign rfl) rfl ?_
    refine JQ.s (JO.storeV 3 rfl rfl rfl (us := [str (Pl.kbR s ((32 * (b % 8) + n : Nat) : Int))]) rfl Tryd.sizeOf33 rfl rfl) ?_
    refine JQ.nil ?_
    refine JQ.n_then ?_
    refine JQ.seq ?_
    refine JQ.region ?_
    refine JQ.v (JV.move rfl) rfl ?_
    refine JQ.v (JV.move rfl) rfl ?_
    refine JQ.vg rfl rfl (JV.move rfl) rfl ?_
    refine JQ.vg rfl rfl (JV.move rfl) rfl ?_
    refine JQ.vg rfl rfl (JV.addS (l := Pl.kbS s ((32 * (b % 8) : Nat) : Int)) (l' := Pl.kbS (Pl.kbR s ((32 * (b % 8) : Nat) : Int)) (n : Int)) rfl rfl (by rw [Pl.kbS_len _ (by omega), Pl.kbS_len _ (by omega)]; omega)) rfl ?_
    refine JQ.vg rfl rfl (JV.move rfl) rfl ?_
    refine JQ.vg rfl rfl (JV.tt (JV.eqlS (l := Pl.kbS s ((32 * (b % 8) : Nat) : Int) ++ Pl.kbS (Pl.kbR s ((32 * (b % 8) : Nat) : Int)) (n : Int)) (l' := Pl.kbS s ((32 * (b % 8) + n : Nat) : Int)) rfl rfl) (Pl.kb_parts s (by omega))) rfl ?_
    refine JQ.v (JV.pickT rfl rfl) rfl ?_
    refine JQ.v (JV.move rfl) rfl ?_
    refine JQ.vg rfl rfl (JV.fieldAddrK (o := 0) rfl Tryd.runUnderlying33 rfl Tryd.sizeOf9 rfl rfl) rfl ?_
    refine JQ.vg rfl rfl (JV.load1 2 rfl rfl Tryd.isAgg9 (rfl)) rfl ?_
    refine JQ.vg rfl rfl (JV.fieldAddrK (o := 0) rfl Tryd.runUnderlying33 rfl Tryd.sizeOf9 rfl rfl) rfl ?_
    refine JQ.vg rfl rfl (JV.load1 3 rfl rfl Tryd.isAgg9 (rfl)) rfl ?_
    refine JQ.vg rfl rfl (JV.tt (JV.eqlS (l := Pl.kbR (Pl.kbR s ((32 * (b % 8) : Nat) : Int)) (n : Int)) (l' := Pl.kbR s ((32 * (b % 8) + n : Nat) : Int)) rfl rfl) (Pl.kbR_parts s (by omega))) rfl ?_
    refine JQ.v (JV.pickT rfl rfl) rfl ?_
    refine JQ.v (JV.move rfl) rfl ?_
    refine JQ.vg rfl rfl (JV.move rfl) rfl ?_
    refine JQ.vg rfl rfl (JV.lenStr (l := Pl.kbS s ((32 * (b % 8) + n : Nat) : Int)) rfl Tryd.runUnderlying9) rfl ?_
    refine JQ.vg rfl rfl (JV.move rfl) rfl ?_
    refine JQ.vg rfl rfl (JV.move rfl) rfl ?_
    refine JQ.vg rfl rfl (JV.convK Tryd.runUnderlying5 Tryd.runUnderlying3 rfl ((wrap_i64 (by omega)))) rfl ?_
    refine JQ.vg rfl rfl (JV.addN rfl rfl (by omega)) rfl ?_
    refine JQ.vg rfl rfl (JV.tt (JV.eqlN rfl rfl) (Pl.kbS_len s (by omega))) rfl ?_
    refine JQ.v (JV.pickT rfl rfl) rfl ?_
    refine JQ.v (JV.assign rfl) rfl ?_
    refine JQ.nil ?_
    refine JQ.n_then ?_
    refine JQ.ret ?_
    refine JQ.done1 Tryd.results7 rfl ?_
    exact fun w hw => ⟨rfl, hw.below⟩

set_option maxHeartbeats 2000000 in
theorem law_next (s : List UInt8) (b : Nat) (hb : b < 256) (w : World) (hG : Gl 1 (Pl.K.map u32) w) :
    Calls Tryd.prog 8 #[str s, .int .u8 ((b : Nat) : Int)] w fun e w' => e = .returned (.bool true) ∧ Below w.heap.size w w' := by
  
  refine enterA (vs := [_, _]) Tryd.func8 rfl 52 rfl [(901, .ro (gv 1 64) 1 64 (Pl.K.map u32))] (MemOk.start1 901 hG) ?_
  refine JQ.seq ?_
  refine JQ.region ?_
  refine JQ.v (JV.assign rfl) rfl ?_
  refine JQ.nil ?_
  refine JQ.n_then ?_
  refine JQ.seq ?_
  refine JQ.region ?_
  refine JQ.v (JV.callM Tryd.call9 evs_nil (fun w hw => sanity_spec w (hw.reads (id := 901) rfl))) rfl ?_
  refine JQ.v (JV.assign rfl) rfl ?_
  refine JQ.nil ?_
  refine JQ.n_then ?_
  refine JQ.seq ?_
  refine JQ.seq ?_
  refine JQ.region ?_
  refine JQ.v (JV.move rfl) rfl ?_
  refine JQ.v (JV.lenStr rfl Tryd.runUnderlying9) rfl ?_
  by_cases hs2_2 : 400 < s.length
  · refine JQ.v (JV.tt (JV.gtrN (b := 400) rfl rfl) hs2_2) rfl ?_
    refine JQ.nil ?_
    refine JQ.n_then ?_
    refine JQ.condT rfl ?_
    refine JQ.seq ?_
    refine JQ.region ?_
    refine JQ.v (JV.move rfl) rfl ?_
    refine JQ.v (JV.assign rfl) rfl ?_
    refine JQ.nil ?_
    refine JQ.n_then ?_
    refine JQ.ret ?_
    refine JQ.r_then ?_
    refine JQ.done1 Tryd.results8 rfl ?_
    exact fun w hw => ⟨rfl, hw.below⟩
  · refine JQ.v (JV.ff (JV.gtrN (b := 400) rfl rfl) hs2_2) rfl ?_
    refine JQ.nil ?_
    refine JQ.n_then ?_
    refine JQ.condF rfl ?_
    refine JQ.skip ?_
    refine JQ.n_then ?_
    refine JQ.seq ?_
    refine JQ.region ?_
    refine JQ.v (JV.move rfl) rfl ?_
    refine JQ.v (JV.build (v := .agg [str s].toArray) (evp_cons rfl evp_nil) (fun w => by kernel_rfl)) rfl ?_
    refine JQ.x (JO.alloc 1 (zs := [str []]) Tryd.zeroValue33 rfl) rfl ?_
    intro i4_2
    refine JQ.s (JO.storeV 1 rfl rfl rfl (us := [str s]) rfl Tryd.sizeOf33 rfl rfl) ?_
    refine JQ.nil ?_
    refine JQ.n_then ?_
    refine JQ.seq ?_
    refine JQ.region ?_
    refine JQ.v (JV.assign rfl) rfl ?_
    refine JQ.nilRow 7 9 1 ?_
    refine JQ.nil ?_
    refine JQ.n_then ?_
    refine JQ.seq ?_
    refine JQ.seq ?_
    refine JQ.region ?_
    refine JQ.v (JV.assign rfl) rfl ?_
    refine JQ.nil ?_
    refine JQ.n_then ?_
    refine JQ.block ?_
    refine JQ.loopI (ι := Nat × Value) (fun i => [(0, str s), (1, .int .u8 ((b : Nat) : Int)), (5, .bool true), (6, .pointer (some ⟨i4_2, 0, none⟩)), (7, i.2), (8, .int .i64 ((i.1 : Nat) : Int))]) (fun i => [(1, .cells i4_2 [str (Pl.seedN s i.1)] 33 (0, 0)), (7, .row i.2 9 1 i.1 ((List.replicate i.1 Pl.lseed).map str)), (901, .ro (gv 1 64) 1 64 (Pl.K.map u32))]) (fun i => i.1 ≤ b % 21) (fun i => b % 21 - i.1) (0, _) (Nat.zero_le _) (subk_cons rfl (subk_cons rfl (subk_cons rfl (subk_cons rfl (subk_cons rfl (subk_cons rfl subk_nil)))))) (subr_cons rfl (subr_cons rfl (subr_cons rfl subr_nil))) ?_
    intro i hi
    have hb21 := Nat.mod_lt b (show 0 < 21 by decide)
    refine JQ.seq ?_
    refine JQ.seq ?_
    refine JQ.region ?_
    refine JQ.v (JV.move rfl) rfl ?_
    refine JQ.v (JV.move rfl) rfl ?_
    refine JQ.v (JV.remN (b := 21) rfl rfl (by decide)) rfl ?_
    refine JQ.v (JV.convK Tryd.runUnderlying5 Tryd.runUnderlying3 rfl ((wrap_i64 (by omega)))) rfl ?_
    refine JQ.v (JV.lssN rfl rfl) rfl ?_
    refine JQ.nil ?_
    refine JQ.n_then ?_
    refine JQ.condP rfl (fun h24 => ?_) (fun h24 => ?_)
    · refine JQ.skip ?_
      refine JQ.n_then ?_
      refine JQ.seq ?_
      refine JQ.block ?_
      refine JQ.seq ?_
      refine JQ.region ?_
      refine JQ.v (JV.loadV 1 rfl rfl Tryd.isAgg33 Tryd.sizeOf33 rfl) rfl ?_
      refine JQ.v (JV.callM Tryd.call17 (evs_cons rfl evs_nil) (fun w hw => next_spec (Pl.seedN s i.1) (Pl.seedN_len (by omega) _) w (hw.reads (id := 901) rfl))) rfl ?_
      refine JQ.v (JV.move rfl) rfl ?_
      refine JQ.v (JV.extract rfl rfl) rfl ?_
      refine JQ.v (JV.extract rfl rfl) rfl ?_
      refine JQ.x (JO.alloc 8 (zs := [str []]) Tryd.zeroValue33 rfl) rfl ?_
      intro i9_5
      refine JQ.v (JV.assign rfl) rfl ?_
      refine JQ.s (JO.storeV 8 rfl rfl rfl (us := [str (Pl.seedN s (i.1 + 1))]) rfl Tryd.sizeOf33 rfl rfl) ?_
      refine JQ.nil ?_
      refine JQ.n_then ?_
      refine JQ.seq ?_
      refine JQ.region ?_
      refine JQ.v (JV.loadV 8 rfl rfl Tryd.isAgg33 Tryd.sizeOf33 rfl) rfl ?_
      refine JQ.s (JO.storeV 1 rfl rfl rfl (us := [str (Pl.seedN s (i.1 + 1))]) rfl Tryd.sizeOf33 rfl rfl) ?_
      refine JQ.nil ?_
      refine JQ.n_then ?_
      refine JQ.region ?_
      refine JQ.v (JV.move rfl) rfl ?_
      refine JQ.x (JO.buildSlice 9 (us := [str Pl.lseed]) (e := 9) (evp_cons rfl evp_nil) (fun w => by kernel_rfl)) rfl ?_
      intro i11_1
      refine JQ.x (JO.append 7 elem9 rfl rfl rfl (fun w hw => Src.ro Tryd.underlying22 (reads_cells (hw.blk (id := 9) rfl) (show (_ : List Value) = ([str Pl.lseed] : List Value) from rfl) rfl (by decide))) rfl (by omega) (by omega)) rfl ?_
      intro i11_2
      rw [show ((List.replicate i.1 Pl.lseed).map str ++ [str Pl.lseed]) = (List.replicate (i.1 + 1) Pl.lseed).map str from by rw [List.replicate_succ', List.map_append]; rfl]
      refine JQ.v (JV.assign rfl) rfl ?_
      refine JQ.nil ?_
      refine JQ.n_block ?_
      refine JQ.n_then ?_
      refine JQ.region ?_
      refine JQ.v (JV.move rfl) rfl ?_
      refine JQ.v (JV.addN (b := 1) rfl rfl (by omega)) rfl ?_
      refine JQ.v (JV.assign rfl) rfl ?_
      refine JQ.nil ?_
      refine JQ.n_then ?_
      exact JQ.nextI (i.1 + 1, i11_2) (by show i.1 + 1 ≤ b % 21; omega) (by show b % 21 - (i.1 + 1) < b % 21 - i.1; omega) (subk_cons rfl (subk_cons rfl (subk_cons rfl (subk_cons rfl (subk_cons rfl (subk_cons rfl subk_nil)))))) (subr_cons rfl (subr_cons rfl (subr_cons rfl subr_nil)))
    · refine JQ.exit ?_
      refine JQ.e_then ?_
      refine JQ.e_then ?_
      refine JQ.e_here ?_
      refine JQ.n_then ?_
      refine JQ.seq ?_
      refine JQ.region ?_
      refine JQ.v (JV.loadV 1 rfl rfl Tryd.isAgg33 Tryd.sizeOf33 rfl) rfl ?_
      refine JQ.v (JV.callM Tryd.call17 (evs_cons rfl evs_nil) (fun w hw => next_spec (Pl.seedN s i.1) (Pl.seedN_len (by omega) _) w (hw.reads (id := 901) rfl))) rfl ?_
      refine JQ.v (JV.move rfl) rfl ?_
      refine JQ.v (JV.extract rfl rfl) rfl ?_
      refine JQ.v (JV.extract rfl rfl) rfl ?_
      refine JQ.x (JO.alloc 8 (zs := [str []]) Tryd.zeroValue33 rfl) rfl ?_
      intro i12_5
      refine JQ.v (JV.assign rfl) rfl ?_
      refine JQ.s (JO.storeV 8 rfl rfl rfl (us := [str (Pl.seedN s (i.1 + 1))]) rfl Tryd.sizeOf33 rfl rfl) ?_
      refine JQ.nil ?_
      refine JQ.n_then ?_
      refine JQ.seq ?_
      refine JQ.region ?_
      refine JQ.v (JV.move rfl) rfl ?_
      refine JQ.x (JO.buildSlice 9 (us := [str Pl.lvalue]) (e := 9) (evp_cons rfl evp_nil) (fun w => by kernel_rfl)) rfl ?_
      intro i13_1
      refine JQ.x (JO.append 7 elem9 rfl rfl rfl (fun w hw => Src.ro Tryd.underlying22 (reads_cells (hw.blk (id := 9) rfl) (show (_ : List Value) = ([str Pl.lvalue] : List Value) from rfl) rfl (by decide))) rfl (by omega) (by omega)) rfl ?_
      intro i13_2
      rw [show ((List.replicate i.1 Pl.lseed).map str ++ [str Pl.lvalue]) = (List.replicate i.1 Pl.lseed ++ [Pl.lvalue]).map str from by rw [List.map_append]; rfl]
      refine JQ.v (JV.assign rfl) rfl ?_
      refine JQ.nil ?_
      refine JQ.n_then ?_
      refine JQ.seq ?_
      refine JQ.region ?_
      refine JQ.v (JV.move rfl) rfl ?_
      refine JQ.v (JV.move rfl) rfl ?_
      refine JQ.vg rfl rfl (JV.move rfl) rfl ?_
      refine JQ.vg rfl rfl (JV.move rfl) rfl ?_
      refine JQ.vg rfl rfl (JV.move rfl) rfl ?_
      refine JQ.vg rfl rfl (JV.callM Tryd.call13 (evs_cons rfl (evs_cons rfl evs_nil)) (fun w hw => path_spec s (by omega) _ (List.replicate i.1 Pl.lseed ++ [Pl.lvalue]) (Pl.few_seeds (by omega)) w (hw.reads (id := 901) rfl) (by have h := hw.readsRow (id := 7) rfl; rwa [show i.1 + 1 = (List.replicate i.1 Pl.lseed ++ [Pl.lvalue]).length from by simp] at h))) rfl ?_
      refine JQ.vg rfl rfl (JV.tt (JV.eqlS (l := Pl.val (Pl.seedN s i.1)) (l' := Pl.path s (List.replicate i.1 Pl.lseed ++ [Pl.lvalue])) rfl rfl) (Pl.val_path s i.1)) rfl ?_
      refine JQ.v (JV.pickT rfl rfl) rfl ?_
      refine JQ.v (JV.assign rfl) rfl ?_
      refine JQ.nil ?_
      refine JQ.n_then ?_
      refine JQ.ret ?_
      refine JQ.done1 Tryd.results8 rfl ?_
      exact fun w hw => ⟨rfl, hw.below⟩
end Go.Fw
end
