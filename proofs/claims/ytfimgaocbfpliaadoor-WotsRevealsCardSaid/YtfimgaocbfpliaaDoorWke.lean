/- Each law of the seat returns true, walked; the condition is that the tables read as they are laid. -/
import Derived.Test.YtfimgaocbfpliaaDoorWkd
import Derived.Test.YtfimgaocbfpliaaDoorProg
section
open Go.RowKit
set_option maxRecDepth 100000
set_option linter.unusedVariables false
set_option linter.unusedSimpArgs false
namespace Go.Fw
open Go.Proofs
theorem adv_split {c f m t : Int} {v : List UInt8} (h1 : ¬ c < 0) (h2 : ¬ 34 < c) (h3 : ¬ f < 0) (h4 : ¬ m < f) (h5 : ¬ t < m) (h6 : ¬ 15 < t) : Pl.adv c m t (Pl.adv c f m v) = Pl.adv c f t v := by
  obtain ⟨c, rfl⟩ : ∃ n : Nat, c = (n : Int) := ⟨c.toNat, by omega⟩
  obtain ⟨f, rfl⟩ : ∃ n : Nat, f = (n : Int) := ⟨f.toNat, by omega⟩
  obtain ⟨m, rfl⟩ : ∃ n : Nat, m = (n : Int) := ⟨m.toNat, by omega⟩
  obtain ⟨t, rfl⟩ : ∃ n : Nat, t = (n : Int) := ⟨t.toNat, by omega⟩
  exact Pl.adv_two (by omega) (by omega) (by omega) (by omega)
theorem chunk_set (s d : List UInt8) (i j : Nat) (hi : i < 35) (hj : j < 16) : (((Pl.chunk (Pl.sign s d) i).take j ++ List.replicate (16 - j) 0).map b8).set j (.int .u8 (((Pl.sign s d).getD (16 * i + j) 0).toNat : Int)) = ((Pl.chunk (Pl.sign s d) i).take (j + 1) ++ List.replicate (16 - (j + 1)) 0).map b8 := by
  have hl := Pl.chunk_len (Pl.sign_len s d) hi
  rw [setB, Pl.chunk_get (Pl.sign_len s d) hi hj, short_setG _ _ (by omega) hj]
theorem chunk_all (s d : List UInt8) (i j : Nat) (hi : i < 35) (hj : j = 16) : (Pl.chunk (Pl.sign s d) i).take j ++ List.replicate (16 - j) 0 = Pl.chunk (Pl.sign s d) i := by
  have hl := Pl.chunk_len (Pl.sign_len s d) hi
  subst hj
  rw [List.take_of_length_le (by omega), Nat.sub_self, List.replicate_zero, List.append_nil]
theorem lessN0 (a b : List UInt8) : Pl.lessN a b 0 = false := rfl
theorem sm0 (a : List UInt8) : Pl.sm a 0 = 0 := rfl
attribute [local irreducible] Pl.sign Pl.recK Pl.recE Pl.pubK Pl.digits Pl.dig Pl.adv Pl.verify Pl.lessN Pl.sm Pl.ends
set_option maxHeartbeats 4000000 in
theorem law_matches (s : List UInt8) (d : List UInt8) (hd : d.length = 16) (t : List UInt8) (p : List UInt8) (hp : p.length = 16) (w : World) (hG : Gl 1 (Pl.K.map u32) w) (hR : Gl 0 (Pl.K.map u32) w) :
    Calls Tryd.prog 3 #[str s, .agg ((d).map b8).toArray, str t, .agg ((p).map b8).toArray] w fun e w' => e = .returned (.bool true) ∧ Below w.heap.size w w' := by
  
  refine enterA (vs := [_, _, _, _]) Tryd.func3 rfl 79 rfl [(901, .ro (gv 1 64) 1 64 (Pl.K.map u32)), (900, .ro (gv 0 64) 1 64 (Pl.K.map u32))] ((MemOk.start1 900 hR).addRo 901 hG (ro_cons ro_nil)) ?_
  refine JQ.seq ?_
  refine JQ.region ?_
  refine JQ.x (JO.box 1 rfl rfl) rfl ?_
  intro i0_0
  refine JQ.x (JO.box 2 rfl rfl) rfl ?_
  intro i0_1
  refine JQ.v (JV.assign rfl) rfl ?_
  refine JQ.nil ?_
  refine JQ.n_then ?_
  refine JQ.seq ?_
  refine JQ.seq ?_
  refine JQ.region ?_
  refine JQ.v (JV.move rfl) rfl ?_
  refine JQ.v (JV.lenStr rfl Tryd.runUnderlying9) rfl ?_
  by_cases hs1_2 : 200 < s.length
  · refine JQ.v (JV.tt (JV.gtrN (b := 200) rfl rfl) hs1_2) rfl ?_
    refine JQ.v (JV.move rfl) rfl ?_
    refine JQ.g0 rfl rfl rfl rfl ?_
    refine JQ.g0 rfl rfl rfl rfl ?_
    refine JQ.g0 rfl rfl rfl rfl ?_
    refine JQ.v (JV.pickT rfl rfl) rfl ?_
    refine JQ.nil ?_
    refine JQ.n_then ?_
    refine JQ.condT rfl ?_
    refine JQ.seq ?_
    refine JQ.region ?_
    refine JQ.v (JV.callM Tryd.call9 evs_nil (fun w hw => sanity_spec w (hw.reads (id := 901) rfl))) rfl ?_
    refine JQ.v (JV.assign rfl) rfl ?_
    refine JQ.nil ?_
    refine JQ.n_then ?_
    refine JQ.ret ?_
    refine JQ.r_then ?_
    refine JQ.done1 Tryd.results3 rfl ?_
    exact fun w hw => ⟨rfl, hw.below⟩
  · refine JQ.v (JV.ff (JV.gtrN (b := 200) rfl rfl) hs1_2) rfl ?_
    refine JQ.v (JV.move rfl) rfl ?_
    refine JQ.vg rfl rfl (JV.move rfl) rfl ?_
    refine JQ.vg rfl rfl (JV.lenStr rfl Tryd.runUnderlying9) rfl ?_
    by_cases hs1_6 : 600 < t.length
    · refine JQ.vg rfl rfl (JV.tt (JV.gtrN (b := 600) rfl rfl) hs1_6) rfl ?_
      refine JQ.v (JV.pickF rfl rfl) rfl ?_
      refine JQ.nil ?_
      refine JQ.n_then ?_
      refine JQ.condT rfl ?_
      refine JQ.seq ?_
      refine JQ.region ?_
      refine JQ.v (JV.callM Tryd.call9 evs_nil (fun w hw => sanity_spec w (hw.reads (id := 901) rfl))) rfl ?_
      refine JQ.v (JV.assign rfl) rfl ?_
      refine JQ.nil ?_
      refine JQ.n_then ?_
      refine JQ.ret ?_
      refine JQ.r_then ?_
      refine JQ.done1 Tryd.results3 rfl ?_
      exact fun w hw => ⟨rfl, hw.below⟩
    · refine JQ.vg rfl rfl (JV.ff (JV.gtrN (b := 600) rfl rfl) hs1_6) rfl ?_
      refine JQ.v (JV.pickF rfl rfl) rfl ?_
      refine JQ.nil ?_
      refine JQ.n_then ?_
      refine JQ.condF rfl ?_
      refine JQ.skip ?_
      refine JQ.n_then ?_
      refine JQ.seq ?_
      refine JQ.region ?_
      refine JQ.v (JV.loadV 1 rfl rfl Tryd.isAgg23 Tryd.sizeOf23 (by rw [List.length_map, hd])) rfl ?_
      refine JQ.v (JV.move rfl) rfl ?_
      refine JQ.v (JV.callM Tryd.call10 (evs_cons rfl (evs_cons rfl evs_nil)) (fun w hw => recover_spec d hd t w (hw.reads (id := 901) rfl))) rfl ?_
      refine JQ.v (JV.move rfl) rfl ?_
      refine JQ.v (JV.extract rfl rfl) rfl ?_
      refine JQ.v (JV.extract rfl rfl) rfl ?_
      refine JQ.x (JO.alloc 3 (zs := ((List.replicate 16 0).map b8)) Tryd.zeroValue23 rfl) rfl ?_
      intro i3_6
      refine JQ.s (JO.storeV 3 rfl rfl rfl (us := (Pl.recK d t).map b8) (allB _) Tryd.sizeOf23 (by rw [List.length_map, Pl.recK_len]) rfl) ?_
      refine JQ.v (JV.assign rfl) rfl ?_
      refine JQ.nil ?_
      refine JQ.n_then ?_
      refine JQ.seq ?_
      refine JQ.region ?_
      refine JQ.v (JV.loadV 1 rfl rfl Tryd.isAgg23 Tryd.sizeOf23 (by rw [List.length_map, hd])) rfl ?_
      refine JQ.v (JV.move rfl) rfl ?_
      refine JQ.v (JV.callM Tryd.call11 (evs_cons rfl (evs_cons rfl evs_nil)) (fun w hw => rrecover_spec d hd t w (hw.reads (id := 900) rfl))) rfl ?_
      refine JQ.v (JV.move rfl) rfl ?_
      refine JQ.v (JV.extract rfl rfl) rfl ?_
      refine JQ.v (JV.extract rfl rfl) rfl ?_
      refine JQ.x (JO.alloc 4 (zs := ((List.replicate 16 0).map b8)) Tryd.zeroValue23 rfl) rfl ?_
      intro i4_6
      refine JQ.s (JO.storeV 4 rfl rfl rfl (us := (Pl.recK d t).map b8) (allB _) Tryd.sizeOf23 (by rw [List.length_map, Pl.recK_len]) rfl) ?_
      refine JQ.v (JV.assign rfl) rfl ?_
      refine JQ.nil ?_
      refine JQ.n_then ?_
      refine JQ.seq ?_
      refine JQ.any [_, _, _, _, _, _, _, _, _, _, _, _, _, _, _, _, _, _, _, _, _, _, _, _, _, _, _, _, _, _, _, _, _, _, _, _, _, _, _, _, _, _, _, _, _, _] [fun _ => [], fun _ => [], fun _ => [], _, fun _ => [], _, fun _ => [], fun _ => [], fun _ => [], fun _ => [], fun _ => [], fun _ => [], fun _ => [], fun _ => [], fun _ => [], fun _ => [], fun _ => [], fun _ => [], fun _ => [], fun _ => [], fun _ => [], fun _ => [], fun _ => [], fun _ => [], fun _ => [], fun _ => [], fun _ => [], fun _ => [], fun _ => [], fun _ => [], fun _ => [], fun _ => [], fun _ => [], fun _ => [], fun _ => [], fun _ => [], fun _ => [], fun _ => [], fun _ => [], fun _ => [], fun _ => [], fun _ => [], fun _ => [], fun _ => [], fun _ => [], fun _ => []] [⟨[901], [], [], []⟩, ⟨[], [], [], [0]⟩, ⟨[1], [], [], [0, 1]⟩, ⟨[], [50], [], [0, 1, 2]⟩, ⟨[1], [], [], [0, 1]⟩, ⟨[], [51], [], [0, 1, 2, 3, 4]⟩, ⟨[50, 51], [], [3, 5], [0, 1, 2, 3, 4, 5]⟩, ⟨[], [], [3, 5], [0, 1, 2, 3, 4, 5, 6]⟩, ⟨[], [], [3, 5], [0, 1, 2, 3, 4, 5, 6, 7]⟩, ⟨[], [], [], [0, 1, 2, 3, 4, 5, 6, 7, 8]⟩, ⟨[901], [], [], [0, 1, 2, 3, 4, 5, 6, 7, 8, 9]⟩, ⟨[], [], [], [0, 1, 2, 3, 4, 5, 6, 7, 8]⟩, ⟨[900], [], [], [0, 1, 2, 3, 4, 5, 6, 7, 8, 9, 10, 11]⟩, ⟨[], [], [], [0, 1, 2, 3, 4, 5, 6, 7, 8, 9, 10, 11, 12]⟩, ⟨[], [], [3, 5], [0, 1, 2, 3, 4, 5, 6, 7, 8, 9, 10, 11, 12, 13]⟩, ⟨[], [], [3, 5], [0, 1, 2, 3, 4, 5, 6, 7, 8, 9, 10, 11, 12, 13, 14]⟩, ⟨[], [], [], [0, 1, 2, 3, 4, 5, 6, 7, 8, 9, 10, 11, 12, 13, 14, 15]⟩, ⟨[1], [], [], [0, 1, 2, 3, 4, 5, 6, 7, 8, 9, 10, 11, 12, 13, 14, 15]⟩, ⟨[901], [], [], [0, 1, 2, 3, 4, 5, 6, 7, 8, 9, 10, 11, 12, 13, 14, 15, 16, 17]⟩, ⟨[], [], [], [0, 1, 2, 3, 4, 5, 6, 7, 8, 9, 10, 11, 12, 13, 14, 15]⟩, ⟨[1], [], [], [0, 1, 2, 3, 4, 5, 6, 7, 8, 9, 10, 11, 12, 13, 14, 15]⟩, ⟨[900], [], [], [0, 1, 2, 3, 4, 5, 6, 7, 8, 9, 10, 11, 12, 13, 14, 15, 16, 17, 18, 19, 20]⟩, ⟨[], [], [], [0, 1, 2, 3, 4, 5, 6, 7, 8, 9, 10, 11, 12, 13, 14, 15, 16, 17, 18, 19, 20, 21]⟩, ⟨[], [], [3, 5], [0, 1, 2, 3, 4, 5, 6, 7, 8, 9, 10, 11, 12, 13, 14, 15, 16, 17, 18, 19, 20, 21, 22]⟩, ⟨[], [], [3, 5], [0, 1, 2, 3, 4, 5, 6, 7, 8, 9, 10, 11, 12, 13, 14, 15, 16, 17, 18, 19, 20, 21, 22, 23]⟩, ⟨[3], [], [], [0, 1, 2, 3, 4, 5, 6, 7, 8, 9, 10, 11, 12, 13, 14, 15, 16, 17, 18, 19, 20, 21, 22, 23, 24]⟩, ⟨[4], [], [], [0, 1, 2, 3, 4, 5, 6, 7, 8, 9, 10, 11, 12, 13, 14, 15, 16, 17, 18, 19, 20, 21, 22, 23, 24]⟩, ⟨[], [], [], [0, 1, 2, 3, 4, 5, 6, 7, 8, 9, 10, 11, 12, 13, 14, 15, 16, 17, 18, 19, 20, 21, 22, 23, 24, 25, 26]⟩, ⟨[], [], [3, 5], [0, 1, 2, 3, 4, 5, 6, 7, 8, 9, 10, 11, 12, 13, 14, 15, 16, 17, 18, 19, 20, 21, 22, 23, 24, 25, 26, 27]⟩, ⟨[], [], [3, 5], [0, 1, 2, 3, 4, 5, 6, 7, 8, 9, 10, 11, 12, 13, 14, 15, 16, 17, 18, 19, 20, 21, 22, 23, 24, 25, 26, 27, 28]⟩, ⟨[], [], [], [0, 1, 2, 3, 4, 5, 6, 7, 8, 9, 10, 11, 12, 13, 14, 15, 16, 17, 18, 19, 20, 21, 22, 23, 24, 25, 26, 27, 28, 29]⟩, ⟨[], [], [], [0, 1, 2, 3, 4, 5, 6, 7, 8, 9, 10, 11, 12, 13, 14, 15, 16, 17, 18, 19, 20, 21, 22, 23, 24, 25, 26, 27, 28, 29]⟩, ⟨[], [], [], [0, 1, 2, 3, 4, 5, 6, 7, 8, 9, 10, 11, 12, 13, 14, 15, 16, 17, 18, 19, 20, 21, 22, 23, 24, 25, 26, 27, 28, 29, 30, 31]⟩, ⟨[], [], [3, 5], [0, 1, 2, 3, 4, 5, 6, 7, 8, 9, 10, 11, 12, 13, 14, 15, 16, 17, 18, 19, 20, 21, 22, 23, 24, 25, 26, 27, 28, 29, 30, 31, 32]⟩, ⟨[], [], [3, 5], [0, 1, 2, 3, 4, 5, 6, 7, 8, 9, 10, 11, 12, 13, 14, 15, 16, 17, 18, 19, 20, 21, 22, 23, 24, 25, 26, 27, 28, 29, 30, 31, 32, 33]⟩, ⟨[2], [], [], [0, 1, 2, 3, 4, 5, 6, 7, 8, 9, 10, 11, 12, 13, 14, 15, 16, 17, 18, 19, 20, 21, 22, 23, 24, 25, 26, 27, 28, 29, 30, 31, 32, 33, 34]⟩, ⟨[1], [], [], [0, 1, 2, 3, 4, 5, 6, 7, 8, 9, 10, 11, 12, 13, 14, 15, 16, 17, 18, 19, 20, 21, 22, 23, 24, 25, 26, 27, 28, 29, 30, 31, 32, 33, 34]⟩, ⟨[], [], [], [0, 1, 2, 3, 4, 5, 6, 7, 8, 9, 10, 11, 12, 13, 14, 15, 16, 17, 18, 19, 20, 21, 22, 23, 24, 25, 26, 27, 28, 29, 30, 31, 32, 33, 34]⟩, ⟨[901], [], [], [0, 1, 2, 3, 4, 5, 6, 7, 8, 9, 10, 11, 12, 13, 14, 15, 16, 17, 18, 19, 20, 21, 22, 23, 24, 25, 26, 27, 28, 29, 30, 31, 32, 33, 34, 35, 36, 37]⟩, ⟨[2], [], [], [0, 1, 2, 3, 4, 5, 6, 7, 8, 9, 10, 11, 12, 13, 14, 15, 16, 17, 18, 19, 20, 21, 22, 23, 24, 25, 26, 27, 28, 29, 30, 31, 32, 33, 34]⟩, ⟨[1], [], [], [0, 1, 2, 3, 4, 5, 6, 7, 8, 9, 10, 11, 12, 13, 14, 15, 16, 17, 18, 19, 20, 21, 22, 23, 24, 25, 26, 27, 28, 29, 30, 31, 32, 33, 34]⟩, ⟨[], [], [], [0, 1, 2, 3, 4, 5, 6, 7, 8, 9, 10, 11, 12, 13, 14, 15, 16, 17, 18, 19, 20, 21, 22, 23, 24, 25, 26, 27, 28, 29, 30, 31, 32, 33, 34]⟩, ⟨[900], [], [], [0, 1, 2, 3, 4, 5, 6, 7, 8, 9, 10, 11, 12, 13, 14, 15, 16, 17, 18, 19, 20, 21, 22, 23, 24, 25, 26, 27, 28, 29, 30, 31, 32, 33, 34, 35, 36, 37, 38, 39, 40, 41]⟩, ⟨[], [], [], [0, 1, 2, 3, 4, 5, 6, 7, 8, 9, 10, 11, 12, 13, 14, 15, 16, 17, 18, 19, 20, 21, 22, 23, 24, 25, 26, 27, 28, 29, 30, 31, 32, 33, 34, 35, 36, 37, 38, 39, 40, 41, 42]⟩, ⟨[], [], [3, 5], [0, 1, 2, 3, 4, 5, 6, 7, 8, 9, 10, 11, 12, 13, 14, 15, 16, 17, 18, 19, 20, 21, 22, 23, 24, 25, 26, 27, 28, 29, 30, 31, 32, 33, 34, 35, 36, 37, 38, 39, 40, 41, 42, 43]⟩, ⟨[], [], [3, 5], [0, 1, 2, 3, 4, 5, 6, 7, 8, 9, 10, 11, 12, 13, 14, 15, 16, 17, 18, 19, 20, 21, 22, 23, 24, 25, 26, 27, 28, 29, 30, 31, 32, 33, 34, 35, 36, 37, 38, 39, 40, 41, 42, 43, 44]⟩] Tryd.mixed rfl (by kernel_rfl) ⟨Ob.v rfl (fun _ _ h => by cases h) (fun _ _ _ => rfl) (fun e L' hL => JV.callM Tryd.call9 evs_nil (fun w hw => sanity_spec w (hw.reads (id := 901) ((hL 901 (by decide)).trans rfl)))),
                Ob.v rfl (fun _ _ h => by cases h) (fun _ _ _ => rfl) (fun e L' hL => JV.move rfl),
                Ob.vg rfl rfl (fun _ => rfl) (fun _ _ h => by cases h) (fun _ _ _ => rfl) (fun e L' hL => JV.loadV 1 rfl ((hL 1 (by decide)).trans rfl) Tryd.isAgg23 Tryd.sizeOf23 (by rw [List.length_map, hd])),
                Ob.valg 50 rfl rfl (fun _ => rfl) (fun _ _ h => by cases h) (fun _ _ _ => ⟨rfl, rfl⟩) (by decide) (fun e L' hL => JO.callRo 50 Tryd.call13 (evs_cons rfl evs_nil) (fun w hw => digits_spec d hd w)),
                Ob.vg rfl rfl (fun _ => rfl) (fun _ _ h => by cases h) (fun _ _ _ => rfl) (fun e L' hL => JV.loadV 1 rfl ((hL 1 (by decide)).trans rfl) Tryd.isAgg23 Tryd.sizeOf23 (by rw [List.length_map, hd])),
                Ob.valg 51 rfl rfl (fun _ => rfl) (fun _ _ h => by cases h) (fun _ _ _ => ⟨rfl, rfl⟩) (by decide) (fun e L' hL => JO.callRo 51 Tryd.call14 (evs_cons rfl evs_nil) (fun w hw => (rdigits_spec d hd w).mono fun e w' ⟨v, he, ho, hB⟩ => ⟨v, he, newRo_row ho, hB⟩)),
                Ob.vg rfl rfl (fun _ => rfl) (fun _ _ h => by cases h) (fun e e' he => by simp only [he 3 (by decide), he 5 (by decide)]) (fun e L' hL => JV.bt (JV.callM Tryd.call12 (evs_cons rfl (evs_cons rfl evs_nil)) (fun w hw => same_spec _ _ (Pl.digits d) (Pl.digits d) (by rw [Pl.digits_len]; decide) (by rw [Pl.digits_len]; decide) w (by rw [Pl.digits_len]; exact (hw.reads (id := 50) ((hL 50 (by decide)).trans rfl))) (by rw [Pl.digits_len]; exact (hw.reads (id := 51) ((hL 51 (by decide)).trans rfl))))) (decide_eq_true rfl)),
                Ob.v rfl (fun _ _ h => by cases h) (fun e e' he => by simp only [he 3 (by decide), he 5 (by decide)]) (fun e L' hL => JV.pickT rfl rfl),
                Ob.v rfl (fun _ _ h => by cases h) (fun e e' he => by simp only [he 3 (by decide), he 5 (by decide)]) (fun e L' hL => JV.move rfl),
                Ob.vg rfl rfl (fun _ => rfl) (fun _ _ h => by cases h) (fun _ _ _ => rfl) (fun e L' hL => JV.move rfl),
                Ob.vg rfl rfl (fun _ => rfl) (fun _ _ h => by cases h) (fun _ _ _ => rfl) (fun e L' hL => JV.callM Tryd.call15 (evs_cons rfl evs_nil) (fun w hw => public_spec s (by omega) w (hw.reads (id := 901) ((hL 901 (by decide)).trans rfl)))),
                Ob.vg rfl rfl (fun _ => rfl) (fun _ _ h => by cases h) (fun _ _ _ => rfl) (fun e L' hL => JV.move rfl),
                Ob.vg rfl rfl (fun _ => rfl) (fun _ _ h => by cases h) (fun _ _ _ => rfl) (fun e L' hL => JV.callM Tryd.call16 (evs_cons rfl evs_nil) (fun w hw => rpublic_spec s (by omega) w (hw.reads (id := 900) ((hL 900 (by decide)).trans rfl)))),
                Ob.vg rfl rfl (fun _ => rfl) (fun _ _ h => by cases h) (fun _ _ _ => rfl) (fun e L' hL => JV.tt (JV.eqlBytes (xs := Pl.pubK s) (ys := Pl.pubK s) rfl rfl Tryd.runUnderlying23 Tryd.underlying5 Tryd.sizeOf5 Tryd.isAgg5 Tryd.eqGuardType23 (Pl.pubK_len _) (Pl.pubK_len _)) (rfl)),
                Ob.v rfl (fun _ _ h => by cases h) (fun e e' he => by simp only [he 3 (by decide), he 5 (by decide)]) (fun e L' hL => JV.pickT rfl rfl),
                Ob.v rfl (fun _ _ h => by cases h) (fun e e' he => by simp only [he 3 (by decide), he 5 (by decide)]) (fun e L' hL => JV.move rfl),
                Ob.vg rfl rfl (fun _ => rfl) (fun _ _ h => by cases h) (fun _ _ _ => rfl) (fun e L' hL => JV.move rfl),
                Ob.vg rfl rfl (fun _ => rfl) (fun _ _ h => by cases h) (fun _ _ _ => rfl) (fun e L' hL => JV.loadV 1 rfl ((hL 1 (by decide)).trans rfl) Tryd.isAgg23 Tryd.sizeOf23 (by rw [List.length_map, hd])),
                Ob.vg rfl rfl (fun _ => rfl) (fun _ _ h => by cases h) (fun _ _ _ => rfl) (fun e L' hL => JV.callM Tryd.call17 (evs_cons rfl (evs_cons rfl evs_nil)) (fun w hw => sign_spec s (by omega) d hd w (hw.reads (id := 901) ((hL 901 (by decide)).trans rfl)))),
                Ob.vg rfl rfl (fun _ => rfl) (fun _ _ h => by cases h) (fun _ _ _ => rfl) (fun e L' hL => JV.move rfl),
                Ob.vg rfl rfl (fun _ => rfl) (fun _ _ h => by cases h) (fun _ _ _ => rfl) (fun e L' hL => JV.loadV 1 rfl ((hL 1 (by decide)).trans rfl) Tryd.isAgg23 Tryd.sizeOf23 (by rw [List.length_map, hd])),
                Ob.vg rfl rfl (fun _ => rfl) (fun _ _ h => by cases h) (fun _ _ _ => rfl) (fun e L' hL => JV.callM Tryd.call18 (evs_cons rfl (evs_cons rfl evs_nil)) (fun w hw => rsign_spec s (by omega) d hd w (hw.reads (id := 900) ((hL 900 (by decide)).trans rfl)))),
                Ob.vg rfl rfl (fun _ => rfl) (fun _ _ h => by cases h) (fun _ _ _ => rfl) (fun e L' hL => JV.tt (JV.eqlS (l := Pl.sign s d) (l' := Pl.sign s d) rfl rfl) (rfl)),
                Ob.v rfl (fun _ _ h => by cases h) (fun e e' he => by simp only [he 3 (by decide), he 5 (by decide)]) (fun e L' hL => JV.pickT rfl rfl),
                Ob.v rfl (fun _ _ h => by cases h) (fun e e' he => by simp only [he 3 (by decide), he 5 (by decide)]) (fun e L' hL => JV.move rfl),
                Ob.vg rfl rfl (fun _ => rfl) (fun _ _ h => by cases h) (fun _ _ _ => rfl) (fun e L' hL => JV.loadV 3 rfl ((hL 3 (by decide)).trans rfl) Tryd.isAgg23 Tryd.sizeOf23 (by rw [List.length_map, Pl.recK_len])),
                Ob.vg rfl rfl (fun _ => rfl) (fun _ _ h => by cases h) (fun _ _ _ => rfl) (fun e L' hL => JV.loadV 4 rfl ((hL 4 (by decide)).trans rfl) Tryd.isAgg23 Tryd.sizeOf23 (by rw [List.length_map, Pl.recK_len])),
                Ob.vg rfl rfl (fun _ => rfl) (fun _ _ h => by cases h) (fun _ _ _ => rfl) (fun e L' hL => JV.tt (JV.eqlBytes (xs := Pl.recK d t) (ys := Pl.recK d t) rfl rfl Tryd.runUnderlying23 Tryd.underlying5 Tryd.sizeOf5 Tryd.isAgg5 Tryd.eqGuardType23 (Pl.recK_len _ _) (Pl.recK_len _ _)) (rfl)),
                Ob.v rfl (fun _ _ h => by cases h) (fun e e' he => by simp only [he 3 (by decide), he 5 (by decide)]) (fun e L' hL => JV.pickT rfl rfl),
                Ob.v rfl (fun _ _ h => by cases h) (fun e e' he => by simp only [he 3 (by decide), he 5 (by decide)]) (fun e L' hL => JV.move rfl),
                Ob.vg rfl rfl (fun _ => rfl) (fun _ _ h => by cases h) (fun _ _ _ => rfl) (fun e L' hL => JV.move rfl),
                Ob.vg rfl rfl (fun _ => rfl) (fun _ _ h => by cases h) (fun _ _ _ => rfl) (fun e L' hL => JV.move rfl),
                Ob.vg rfl rfl (fun _ => rfl) (fun _ _ h => by cases h) (fun _ _ _ => rfl) (fun e L' hL => JV.tt (JV.eqlN rfl rfl) (rfl)),
                Ob.v rfl (fun _ _ h => by cases h) (fun e e' he => by simp only [he 3 (by decide), he 5 (by decide)]) (fun e L' hL => JV.pickT rfl rfl),
                Ob.v rfl (fun _ _ h => by cases h) (fun e e' he => by simp only [he 3 (by decide), he 5 (by decide)]) (fun e L' hL => JV.move rfl),
                Ob.vg rfl rfl (fun _ => rfl) (fun _ _ h => by cases h) (fun _ _ _ => rfl) (fun e L' hL => JV.loadV 2 rfl ((hL 2 (by decide)).trans rfl) Tryd.isAgg23 Tryd.sizeOf23 (by rw [List.length_map, hp])),
                Ob.vg rfl rfl (fun _ => rfl) (fun _ _ h => by cases h) (fun _ _ _ => rfl) (fun e L' hL => JV.loadV 1 rfl ((hL 1 (by decide)).trans rfl) Tryd.isAgg23 Tryd.sizeOf23 (by rw [List.length_map, hd])),
                Ob.vg rfl rfl (fun _ => rfl) (fun _ _ h => by cases h) (fun _ _ _ => rfl) (fun e L' hL => JV.move rfl),
                Ob.vg rfl rfl (fun _ => rfl) (fun _ _ h => by cases h) (fun _ _ _ => rfl) (fun e L' hL => JV.callM Tryd.call19 (evs_cons rfl (evs_cons rfl (evs_cons rfl evs_nil))) (fun w hw => verify_spec p hp d hd t w (hw.reads (id := 901) ((hL 901 (by decide)).trans rfl)))),
                Ob.vg rfl rfl (fun _ => rfl) (fun _ _ h => by cases h) (fun _ _ _ => rfl) (fun e L' hL => JV.loadV 2 rfl ((hL 2 (by decide)).trans rfl) Tryd.isAgg23 Tryd.sizeOf23 (by rw [List.length_map, hp])),
                Ob.vg rfl rfl (fun _ => rfl) (fun _ _ h => by cases h) (fun _ _ _ => rfl) (fun e L' hL => JV.loadV 1 rfl ((hL 1 (by decide)).trans rfl) Tryd.isAgg23 Tryd.sizeOf23 (by rw [List.length_map, hd])),
                Ob.vg rfl rfl (fun _ => rfl) (fun _ _ h => by cases h) (fun _ _ _ => rfl) (fun e L' hL => JV.move rfl),
                Ob.vg rfl rfl (fun _ => rfl) (fun _ _ h => by cases h) (fun _ _ _ => rfl) (fun e L' hL => JV.callM Tryd.call20 (evs_cons rfl (evs_cons rfl (evs_cons rfl evs_nil))) (fun w hw => rverify_spec p hp d hd t w (hw.reads (id := 900) ((hL 900 (by decide)).trans rfl)))),
                Ob.vg rfl rfl (fun _ => rfl) (fun _ _ h => by cases h) (fun _ _ _ => rfl) (fun e L' hL => JV.bt (JV.eqlB rfl rfl Tryd.underlying4) (beq_self_eq_true _)),
                Ob.v rfl (fun _ _ h => by cases h) (fun e e' he => by simp only [he 3 (by decide), he 5 (by decide)]) (fun e L' hL => JV.pickT rfl rfl),
                Ob.v rfl (fun _ _ h => by cases h) (fun e e' he => by simp only [he 3 (by decide), he 5 (by decide)]) (fun e L' hL => JV.assign rfl), trivial⟩ (fun ev5 => ?_)
      simp only [endF, endL, putF, List.nil_append, List.cons_append]
      refine JQ.n_then ?_
      refine JQ.ret ?_
      refine JQ.done1 Tryd.results3 rfl ?_
      exact fun w hw => ⟨rfl, hw.below⟩

set_option maxHeartbeats 4000000 in
theorem law_advance (c f m t : Int) (v : List UInt8) (hv : v.length = 16) (w : World) (hG : Gl 1 (Pl.K.map u32) w) (hR : Gl 0 (Pl.K.map u32) w) :
    Calls Tryd.prog 4 #[.int .i64 c, .int .i64 f, .int .i64 m, .int .i64 t, .agg ((v).map b8).toArray] w fun e w' => e = .returned (.bool true) ∧ Below w.heap.size w w' := by
  
  refine enterA (vs := [_, _, _, _, _]) Tryd.func4 rfl 65 rfl [(901, .ro (gv 1 64) 1 64 (Pl.K.map u32)), (900, .ro (gv 0 64) 1 64 (Pl.K.map u32))] ((MemOk.start1 900 hR).addRo 901 hG (ro_cons ro_nil)) ?_
  refine JQ.seq ?_
  refine JQ.region ?_
  refine JQ.x (JO.box 1 rfl rfl) rfl ?_
  intro i0_0
  refine JQ.v (JV.assign rfl) rfl ?_
  refine JQ.nil ?_
  refine JQ.n_then ?_
  refine JQ.seq ?_
  refine JQ.region ?_
  refine JQ.v (JV.move rfl) rfl ?_
  refine JQ.v (JV.move rfl) rfl ?_
  refine JQ.v (JV.move rfl) rfl ?_
  refine JQ.v (JV.loadV 1 rfl rfl Tryd.isAgg23 Tryd.sizeOf23 (by rw [List.length_map, hv])) rfl ?_
  refine JQ.v (JV.callM Tryd.call21 (evs_cons rfl (evs_cons rfl (evs_cons rfl (evs_cons rfl evs_nil)))) (fun w hw => adv_spec c f t v hv w (hw.reads (id := 901) rfl))) rfl ?_
  refine JQ.x (JO.alloc 2 (zs := ((List.replicate 16 0).map b8)) Tryd.zeroValue23 rfl) rfl ?_
  intro i1_5
  refine JQ.s (JO.storeV 2 rfl rfl rfl (us := (Pl.adv c f t v).map b8) (allB _) Tryd.sizeOf23 (by rw [List.length_map, (Pl.adv_len _ _ _ hv)]) rfl) ?_
  refine JQ.nil ?_
  refine JQ.n_then ?_
  refine JQ.seq ?_
  refine JQ.region ?_
  refine JQ.v (JV.move rfl) rfl ?_
  refine JQ.v (JV.move rfl) rfl ?_
  refine JQ.v (JV.move rfl) rfl ?_
  refine JQ.v (JV.move rfl) rfl ?_
  refine JQ.v (JV.move rfl) rfl ?_
  refine JQ.v (JV.move rfl) rfl ?_
  refine JQ.v (JV.loadV 1 rfl rfl Tryd.isAgg23 Tryd.sizeOf23 (by rw [List.length_map, hv])) rfl ?_
  refine JQ.v (JV.callM Tryd.call21 (evs_cons rfl (evs_cons rfl (evs_cons rfl (evs_cons rfl evs_nil)))) (fun w hw => adv_spec c f m v hv w (hw.reads (id := 901) rfl))) rfl ?_
  refine JQ.v (JV.callM Tryd.call21 (evs_cons rfl (evs_cons rfl (evs_cons rfl (evs_cons rfl evs_nil)))) (fun w hw => adv_spec c m t (Pl.adv c f m v) (Pl.adv_len _ _ _ hv) w (hw.reads (id := 901) rfl))) rfl ?_
  refine JQ.x (JO.alloc 3 (zs := ((List.replicate 16 0).map b8)) Tryd.zeroValue23 rfl) rfl ?_
  intro i2_9
  refine JQ.s (JO.storeV 3 rfl rfl rfl (us := (Pl.adv c m t (Pl.adv c f m v)).map b8) (allB _) Tryd.sizeOf23 (by rw [List.length_map, (Pl.adv_len _ _ _ (Pl.adv_len _ _ _ hv))]) rfl) ?_
  refine JQ.nil ?_
  refine JQ.n_then ?_
  refine JQ.seq ?_
  refine JQ.seq ?_
  refine JQ.any [_, _, _, _, _, _, _] [fun _ => [], fun _ => [], fun _ => [], fun _ => [], fun _ => [], fun _ => [], fun _ => []] [⟨[2], [], [], []⟩, ⟨[], [], [], []⟩, ⟨[], [], [], []⟩, ⟨[], [], [], []⟩, ⟨[1], [], [], []⟩, ⟨[900], [], [], [1, 2, 3, 4]⟩, ⟨[], [], [], [0, 1, 2, 3, 4, 5]⟩] Tryd.mixed rfl (by kernel_rfl) ⟨Ob.v rfl (fun _ _ h => by cases h) (fun _ _ _ => rfl) (fun e L' hL => JV.loadV 2 rfl ((hL 2 (by decide)).trans rfl) Tryd.isAgg23 Tryd.sizeOf23 (by rw [List.length_map, (Pl.adv_len _ _ _ hv)])),
        Ob.v rfl (fun _ _ h => by cases h) (fun _ _ _ => rfl) (fun e L' hL => JV.move rfl),
        Ob.v rfl (fun _ _ h => by cases h) (fun _ _ _ => rfl) (fun e L' hL => JV.move rfl),
        Ob.v rfl (fun _ _ h => by cases h) (fun _ _ _ => rfl) (fun e L' hL => JV.move rfl),
        Ob.v rfl (fun _ _ h => by cases h) (fun _ _ _ => rfl) (fun e L' hL => JV.loadV 1 rfl ((hL 1 (by decide)).trans rfl) Tryd.isAgg23 Tryd.sizeOf23 (by rw [List.length_map, hv])),
        Ob.v rfl (fun _ _ h => by cases h) (fun _ _ _ => rfl) (fun e L' hL => JV.callM Tryd.call22 (evs_cons rfl (evs_cons rfl (evs_cons rfl (evs_cons rfl evs_nil)))) (fun w hw => radv_spec c f t v hv w (hw.reads (id := 900) ((hL 900 (by decide)).trans rfl)))),
        Ob.v rfl (fun _ _ h => by cases h) (fun _ _ _ => rfl) (fun e L' hL => JV.ff (JV.neqBytes (xs := (Pl.adv c f t v)) (ys := (Pl.adv c f t v)) rfl rfl Tryd.runUnderlying23 Tryd.underlying5 Tryd.sizeOf5 Tryd.isAgg5 Tryd.eqGuardType23 (Pl.adv_len _ _ _ hv) (Pl.adv_len _ _ _ hv)) (fun h => h rfl)), trivial⟩ (fun ev3 => ?_)
  simp only [endF, endL, putF, List.nil_append, List.cons_append]
  refine JQ.n_then ?_
  refine JQ.condF rfl ?_
  refine JQ.skip ?_
  refine JQ.n_then ?_
  refine JQ.seq ?_
  refine JQ.seq ?_
  refine JQ.region ?_
  refine JQ.v (JV.move rfl) rfl ?_
  by_cases hs5_1 : c < 0
  · refine JQ.v (JV.tt (JV.lss rfl rfl) hs5_1) rfl ?_
    refine JQ.v (JV.move rfl) rfl ?_
    refine JQ.g0 rfl rfl rfl rfl ?_
    refine JQ.g0 rfl rfl rfl rfl ?_
    refine JQ.v (JV.pickT rfl rfl) rfl ?_
    refine JQ.v (JV.move rfl) rfl ?_
    refine JQ.g0 rfl rfl rfl rfl ?_
    refine JQ.g0 rfl rfl rfl rfl ?_
    refine JQ.v (JV.pickT rfl rfl) rfl ?_
    refine JQ.v (JV.move rfl) rfl ?_
    refine JQ.g0 rfl rfl rfl rfl ?_
    refine JQ.g0 rfl rfl rfl rfl ?_
    refine JQ.g0 rfl rfl rfl rfl ?_
    refine JQ.v (JV.pickT rfl rfl) rfl ?_
    refine JQ.v (JV.move rfl) rfl ?_
    refine JQ.g0 rfl rfl rfl rfl ?_
    refine JQ.g0 rfl rfl rfl rfl ?_
    refine JQ.g0 rfl rfl rfl rfl ?_
    refine JQ.v (JV.pickT rfl rfl) rfl ?_
    refine JQ.v (JV.move rfl) rfl ?_
    refine JQ.g0 rfl rfl rfl rfl ?_
    refine JQ.g0 rfl rfl rfl rfl ?_
    refine JQ.v (JV.pickT rfl rfl) rfl ?_
    refine JQ.nil ?_
    refine JQ.n_then ?_
    refine JQ.condT rfl ?_
    refine JQ.seq ?_
    refine JQ.region ?_
    refine JQ.v (JV.callM Tryd.call9 evs_nil (fun w hw => sanity_spec w (hw.reads (id := 901) rfl))) rfl ?_
    refine JQ.v (JV.assign rfl) rfl ?_
    refine JQ.nil ?_
    refine JQ.n_then ?_
    refine JQ.ret ?_
    refine JQ.r_then ?_
    refine JQ.done1 Tryd.results4 rfl ?_
    exact fun w hw => ⟨rfl, hw.below⟩
  · refine JQ.v (JV.ff (JV.lss rfl rfl) hs5_1) rfl ?_
    refine JQ.v (JV.move rfl) rfl ?_
    refine JQ.vg rfl rfl (JV.move rfl) rfl ?_
    by_cases hs5_4 : 34 < c
    · refine JQ.vg rfl rfl (JV.tt (JV.gtr rfl rfl) hs5_4) rfl ?_
      refine JQ.v (JV.pickF rfl rfl) rfl ?_
      refine JQ.v (JV.move rfl) rfl ?_
      refine JQ.g0 rfl rfl rfl rfl ?_
      refine JQ.g0 rfl rfl rfl rfl ?_
      refine JQ.v (JV.pickT rfl rfl) rfl ?_
      refine JQ.v (JV.move rfl) rfl ?_
      refine JQ.g0 rfl rfl rfl rfl ?_
      refine JQ.g0 rfl rfl rfl rfl ?_
      refine JQ.g0 rfl rfl rfl rfl ?_
      refine JQ.v (JV.pickT rfl rfl) rfl ?_
      refine JQ.v (JV.move rfl) rfl ?_
      refine JQ.g0 rfl rfl rfl rfl ?_
      refine JQ.g0 rfl rfl rfl rfl ?_
      refine JQ.g0 rfl rfl rfl rfl ?_
      refine JQ.v (JV.pickT rfl rfl) rfl ?_
      refine JQ.v (JV.move rfl) rfl ?_
      refine JQ.g0 rfl rfl rfl rfl ?_
      refine JQ.g0 rfl rfl rfl rfl ?_
      refine JQ.v (JV.pickT rfl rfl) rfl ?_
      refine JQ.nil ?_
      refine JQ.n_then ?_
      refine JQ.condT rfl ?_
      refine JQ.seq ?_
      refine JQ.region ?_
      refine JQ.v (JV.callM Tryd.call9 evs_nil (fun w hw => sanity_spec w (hw.reads (id := 901) rfl))) rfl ?_
      refine JQ.v (JV.assign rfl) rfl ?_
      refine JQ.nil ?_
      refine JQ.n_then ?_
      refine JQ.ret ?_
      refine JQ.r_then ?_
      refine JQ.done1 Tryd.results4 rfl ?_
      exact fun w hw => ⟨rfl, hw.below⟩
    · refine JQ.vg rfl rfl (JV.ff (JV.gtr rfl rfl) hs5_4) rfl ?_
      refine JQ.v (JV.pickF rfl rfl) rfl ?_
      refine JQ.v (JV.move rfl) rfl ?_
      refine JQ.vg rfl rfl (JV.move rfl) rfl ?_
      by_cases hs5_8 : f < 0
      · refine JQ.vg rfl rfl (JV.tt (JV.lss rfl rfl) hs5_8) rfl ?_
        refine JQ.v (JV.pickF rfl rfl) rfl ?_
        refine JQ.v (JV.move rfl) rfl ?_
        refine JQ.g0 rfl rfl rfl rfl ?_
        refine JQ.g0 rfl rfl rfl rfl ?_
        refine JQ.g0 rfl rfl rfl rfl ?_
        refine JQ.v (JV.pickT rfl rfl) rfl ?_
        refine JQ.v (JV.move rfl) rfl ?_
        refine JQ.g0 rfl rfl rfl rfl ?_
        refine JQ.g0 rfl rfl rfl rfl ?_
        refine JQ.g0 rfl rfl rfl rfl ?_
        refine JQ.v (JV.pickT rfl rfl) rfl ?_
        refine JQ.v (JV.move rfl) rfl ?_
        refine JQ.g0 rfl rfl rfl rfl ?_
        refine JQ.g0 rfl rfl rfl rfl ?_
        refine JQ.v (JV.pickT rfl rfl) rfl ?_
        refine JQ.nil ?_
        refine JQ.n_then ?_
        refine JQ.condT rfl ?_
        refine JQ.seq ?_
        refine JQ.region ?_
        refine JQ.v (JV.callM Tryd.call9 evs_nil (fun w hw => sanity_spec w (hw.reads (id := 901) rfl))) rfl ?_
        refine JQ.v (JV.assign rfl) rfl ?_
        refine JQ.nil ?_
        refine JQ.n_then ?_
        refine JQ.ret ?_
        refine JQ.r_then ?_
        refine JQ.done1 Tryd.results4 rfl ?_
        exact fun w hw => ⟨rfl, hw.below⟩
      · refine JQ.vg rfl rfl (JV.ff (JV.lss rfl rfl) hs5_8) rfl ?_
        refine JQ.v (JV.pickF rfl rfl) rfl ?_
        refine JQ.v (JV.move rfl) rfl ?_
        refine JQ.vg rfl rfl (JV.move rfl) rfl ?_
        refine JQ.vg rfl rfl (JV.move rfl) rfl ?_
        by_cases hs5_13 : m < f
        · refine JQ.vg rfl rfl (JV.tt (JV.lss rfl rfl) hs5_13) rfl ?_
          refine JQ.v (JV.pickF rfl rfl) rfl ?_
          refine JQ.v (JV.move rfl) rfl ?_
          refine JQ.g0 rfl rfl rfl rfl ?_
          refine JQ.g0 rfl rfl rfl rfl ?_
          refine JQ.g0 rfl rfl rfl rfl ?_
          refine JQ.v (JV.pickT rfl rfl) rfl ?_
          refine JQ.v (JV.move rfl) rfl ?_
          refine JQ.g0 rfl rfl rfl rfl ?_
          refine JQ.g0 rfl rfl rfl rfl ?_
          refine JQ.v (JV.pickT rfl rfl) rfl ?_
          refine JQ.nil ?_
          refine JQ.n_then ?_
          refine JQ.condT rfl ?_
          refine JQ.seq ?_
          refine JQ.region ?_
          refine JQ.v (JV.callM Tryd.call9 evs_nil (fun w hw => sanity_spec w (hw.reads (id := 901) rfl))) rfl ?_
          refine JQ.v (JV.assign rfl) rfl ?_
          refine JQ.nil ?_
          refine JQ.n_then ?_
          refine JQ.ret ?_
          refine JQ.r_then ?_
          refine JQ.done1 Tryd.results4 rfl ?_
          exact fun w hw => ⟨rfl, hw.below⟩
        · refine JQ.vg rfl rfl (JV.ff (JV.lss rfl rfl) hs5_13) rfl ?_
          refine JQ.v (JV.pickF rfl rfl) rfl ?_
          refine JQ.v (JV.move rfl) rfl ?_
          refine JQ.vg rfl rfl (JV.move rfl) rfl ?_
          refine JQ.vg rfl rfl (JV.move rfl) rfl ?_
          by_cases hs5_18 : t < m
          · refine JQ.vg rfl rfl (JV.tt (JV.lss rfl rfl) hs5_18) rfl ?_
            refine JQ.v (JV.pickF rfl rfl) rfl ?_
            refine JQ.v (JV.move rfl) rfl ?_
            refine JQ.g0 rfl rfl rfl rfl ?_
            refine JQ.g0 rfl rfl rfl rfl ?_
            refine JQ.v (JV.pickT rfl rfl) rfl ?_
            refine JQ.nil ?_
            refine JQ.n_then ?_
            refine JQ.condT rfl ?_
            refine JQ.seq ?_
            refine JQ.region ?_
            refine JQ.v (JV.callM Tryd.call9 evs_nil (fun w hw => sanity_spec w (hw.reads (id := 901) rfl))) rfl ?_
            refine JQ.v (JV.assign rfl) rfl ?_
            refine JQ.nil ?_
            refine JQ.n_then ?_
            refine JQ.ret ?_
            refine JQ.r_then ?_
            refine JQ.done1 Tryd.results4 rfl ?_
            exact fun w hw => ⟨rfl, hw.below⟩
          · refine JQ.vg rfl rfl (JV.ff (JV.lss rfl rfl) hs5_18) rfl ?_
            refine JQ.v (JV.pickF rfl rfl) rfl ?_
            refine JQ.v (JV.move rfl) rfl ?_
            refine JQ.vg rfl rfl (JV.move rfl) rfl ?_
            by_cases hs5_22 : 15 < t
            · refine JQ.vg rfl rfl (JV.tt (JV.gtr rfl rfl) hs5_22) rfl ?_
              refine JQ.v (JV.pickF rfl rfl) rfl ?_
              refine JQ.nil ?_
              refine JQ.n_then ?_
              refine JQ.condT rfl ?_
              refine JQ.seq ?_
              refine JQ.region ?_
              refine JQ.v (JV.callM Tryd.call9 evs_nil (fun w hw => sanity_spec w (hw.reads (id := 901) rfl))) rfl ?_
              refine JQ.v (JV.assign rfl) rfl ?_
              refine JQ.nil ?_
              refine JQ.n_then ?_
              refine JQ.ret ?_
              refine JQ.r_then ?_
              refine JQ.done1 Tryd.results4 rfl ?_
              exact fun w hw => ⟨rfl, hw.below⟩
            · refine JQ.vg rfl rfl (JV.ff (JV.gtr rfl rfl) hs5_22) rfl ?_
              refine JQ.v (JV.pickF rfl rfl) rfl ?_
              refine JQ.nil ?_
              refine JQ.n_then ?_
              refine JQ.condF rfl ?_
              refine JQ.skip ?_
              refine JQ.n_then ?_
              refine JQ.seq ?_
              refine JQ.region ?_
              refine JQ.v (JV.callM Tryd.call9 evs_nil (fun w hw => sanity_spec w (hw.reads (id := 901) rfl))) rfl ?_
              refine JQ.v (JV.move rfl) rfl ?_
              refine JQ.vg rfl rfl (JV.loadV 2 rfl rfl Tryd.isAgg23 Tryd.sizeOf23 (by rw [List.length_map, (Pl.adv_len _ _ _ hv)])) rfl ?_
              refine JQ.vg rfl rfl (JV.loadV 3 rfl rfl Tryd.isAgg23 Tryd.sizeOf23 (by rw [List.length_map, (Pl.adv_len _ _ _ (Pl.adv_len _ _ _ hv))])) rfl ?_
              refine JQ.vg rfl rfl (JV.tt (JV.eqlBytes (xs := (Pl.adv c f t v)) (ys := (Pl.adv c m t (Pl.adv c f m v))) rfl rfl Tryd.runUnderlying23 Tryd.underlying5 Tryd.sizeOf5 Tryd.isAgg5 Tryd.eqGuardType23 (Pl.adv_len _ _ _ hv) (Pl.adv_len _ _ _ (Pl.adv_len _ _ _ hv))) ((adv_split (by omega) (by omega) (by omega) (by omega) (by omega) (by omega)).symm)) rfl ?_
              refine JQ.v (JV.pickT rfl rfl) rfl ?_
              refine JQ.v (JV.assign rfl) rfl ?_
              refine JQ.nil ?_
              refine JQ.n_then ?_
              refine JQ.ret ?_
              refine JQ.done1 Tryd.results4 rfl ?_
              exact fun w hw => ⟨rfl, hw.below⟩

set_option maxHeartbeats 4000000 in
theorem law_verifies (s : List UInt8) (a : List UInt8) (ha : a.length = 16) (b : List UInt8) (hb : b.length = 16) (w : World) (hG : Gl 1 (Pl.K.map u32) w) (hR : Gl 0 (Pl.K.map u32) w) :
    Calls Tryd.prog 5 #[str s, .agg ((a).map b8).toArray, .agg ((b).map b8).toArray] w fun e w' => e = .returned (.bool true) ∧ Below w.heap.size w w' := by
  
  refine enterA (vs := [_, _, _]) Tryd.func5 rfl 46 rfl [(901, .ro (gv 1 64) 1 64 (Pl.K.map u32)), (900, .ro (gv 0 64) 1 64 (Pl.K.map u32))] ((MemOk.start1 900 hR).addRo 901 hG (ro_cons ro_nil)) ?_
  refine JQ.seq ?_
  refine JQ.region ?_
  refine JQ.x (JO.box 1 rfl rfl) rfl ?_
  intro i0_0
  refine JQ.x (JO.box 2 rfl rfl) rfl ?_
  intro i0_1
  refine JQ.v (JV.assign rfl) rfl ?_
  refine JQ.nil ?_
  refine JQ.n_then ?_
  refine JQ.seq ?_
  refine JQ.seq ?_
  refine JQ.region ?_
  refine JQ.v (JV.move rfl) rfl ?_
  refine JQ.v (JV.lenStr rfl Tryd.runUnderlying9) rfl ?_
  by_cases hs1_2 : 200 < s.length
  · refine JQ.v (JV.tt (JV.gtrN (b := 200) rfl rfl) hs1_2) rfl ?_
    refine JQ.nil ?_
    refine JQ.n_then ?_
    refine JQ.condT rfl ?_
    refine JQ.seq ?_
    refine JQ.region ?_
    refine JQ.v (JV.callM Tryd.call9 evs_nil (fun w hw => sanity_spec w (hw.reads (id := 901) rfl))) rfl ?_
    refine JQ.v (JV.assign rfl) rfl ?_
    refine JQ.nil ?_
    refine JQ.n_then ?_
    refine JQ.ret ?_
    refine JQ.r_then ?_
    refine JQ.done1 Tryd.results5 rfl ?_
    exact fun w hw => ⟨rfl, hw.below⟩
  · refine JQ.v (JV.ff (JV.gtrN (b := 200) rfl rfl) hs1_2) rfl ?_
    refine JQ.nil ?_
    refine JQ.n_then ?_
    refine JQ.condF rfl ?_
    refine JQ.skip ?_
    refine JQ.n_then ?_
    refine JQ.seq ?_
    refine JQ.region ?_
    refine JQ.v (JV.move rfl) rfl ?_
    refine JQ.v (JV.loadV 1 rfl rfl Tryd.isAgg23 Tryd.sizeOf23 (by rw [List.length_map, ha])) rfl ?_
    refine JQ.v (JV.callM Tryd.call17 (evs_cons rfl (evs_cons rfl evs_nil)) (fun w hw => sign_spec s (by omega) a ha w (hw.reads (id := 901) rfl))) rfl ?_
    refine JQ.v (JV.assign rfl) rfl ?_
    refine JQ.nil ?_
    refine JQ.n_then ?_
    refine JQ.seq ?_
    refine JQ.region ?_
    refine JQ.v (JV.move rfl) rfl ?_
    refine JQ.v (JV.callM Tryd.call15 (evs_cons rfl evs_nil) (fun w hw => public_spec s (by omega) w (hw.reads (id := 901) rfl))) rfl ?_
    refine JQ.x (JO.alloc 3 (zs := ((List.replicate 16 0).map b8)) Tryd.zeroValue23 rfl) rfl ?_
    intro i4_2
    refine JQ.s (JO.storeV 3 rfl rfl rfl (us := (Pl.pubK s).map b8) (allB _) Tryd.sizeOf23 (by rw [List.length_map, Pl.pubK_len]) rfl) ?_
    refine JQ.nil ?_
    refine JQ.n_then ?_
    refine JQ.seq ?_
    refine JQ.region ?_
    refine JQ.v (JV.loadV 3 rfl rfl Tryd.isAgg23 Tryd.sizeOf23 (by rw [List.length_map, Pl.pubK_len])) rfl ?_
    refine JQ.v (JV.loadV 1 rfl rfl Tryd.isAgg23 Tryd.sizeOf23 (by rw [List.length_map, ha])) rfl ?_
    refine JQ.v (JV.move rfl) rfl ?_
    refine JQ.v (JV.bt (JV.callM Tryd.call19 (evs_cons rfl (evs_cons rfl (evs_cons rfl evs_nil))) (fun w hw => verify_spec (Pl.pubK s) (Pl.pubK_len s) a ha (Pl.sign s a) w (hw.reads (id := 901) rfl))) (by rw [Pl.verify_ok ((Pl.recE_iff _).2 (Pl.sign_len _ _))]; exact decide_eq_true (Pl.rec_sign _ _))) rfl ?_
    refine JQ.v (JV.assign rfl) rfl ?_
    refine JQ.nil ?_
    refine JQ.n_then ?_
    refine JQ.seq ?_
    refine JQ.seq ?_
    refine JQ.region ?_
    refine JQ.v (JV.move rfl) rfl ?_
    refine JQ.v (JV.notB rfl) rfl ?_
    refine JQ.v (JV.move rfl) rfl ?_
    refine JQ.vg rfl rfl (JV.loadV 1 rfl rfl Tryd.isAgg23 Tryd.sizeOf23 (by rw [List.length_map, ha])) rfl ?_
    refine JQ.vg rfl rfl (JV.loadV 2 rfl rfl Tryd.isAgg23 Tryd.sizeOf23 (by rw [List.length_map, hb])) rfl ?_
    by_cases hs6_5 : a = b
    · refine JQ.vg rfl rfl (JV.tt (JV.eqlBytes (xs := a) (ys := b) rfl rfl Tryd.runUnderlying23 Tryd.underlying5 Tryd.sizeOf5 Tryd.isAgg5 Tryd.eqGuardType23 ha hb) hs6_5) rfl ?_
      refine JQ.v (JV.pickF rfl rfl) rfl ?_
      refine JQ.nil ?_
      refine JQ.n_then ?_
      refine JQ.condT rfl ?_
      refine JQ.seq ?_
      refine JQ.region ?_
      refine JQ.v (JV.move rfl) rfl ?_
      refine JQ.v (JV.move rfl) rfl ?_
      refine JQ.vg rfl rfl (JV.callM Tryd.call9 evs_nil (fun w hw => sanity_spec w (hw.reads (id := 901) rfl))) rfl ?_
      refine JQ.v (JV.pickT rfl rfl) rfl ?_
      refine JQ.v (JV.assign rfl) rfl ?_
      refine JQ.nil ?_
      refine JQ.n_then ?_
      refine JQ.ret ?_
      refine JQ.r_then ?_
      refine JQ.done1 Tryd.results5 rfl ?_
      exact fun w hw => ⟨rfl, hw.below⟩
    · refine JQ.vg rfl rfl (JV.ff (JV.eqlBytes (xs := a) (ys := b) rfl rfl Tryd.runUnderlying23 Tryd.underlying5 Tryd.sizeOf5 Tryd.isAgg5 Tryd.eqGuardType23 ha hb) hs6_5) rfl ?_
      refine JQ.v (JV.pickF rfl rfl) rfl ?_
      refine JQ.nil ?_
      refine JQ.n_then ?_
      refine JQ.condF rfl ?_
      refine JQ.skip ?_
      refine JQ.n_then ?_
      refine JQ.seq ?_
      refine JQ.any [_, _, _, _, _, _, _, _, _, _, _, _, _] [fun _ => [], fun _ => [], fun _ => [], fun _ => [], fun _ => [], fun _ => [], fun _ => [], fun _ => [], fun _ => [], fun _ => [], fun _ => [], fun _ => [], fun _ => []] [⟨[901], [], [], []⟩, ⟨[], [], [], [0]⟩, ⟨[3], [], [], [0, 1]⟩, ⟨[2], [], [], [0, 1]⟩, ⟨[], [], [], [0, 1]⟩, ⟨[901], [], [], [0, 1, 2, 3, 4]⟩, ⟨[3], [], [], [0, 1]⟩, ⟨[2], [], [], [0, 1]⟩, ⟨[], [], [], [0, 1]⟩, ⟨[900], [], [], [0, 1, 2, 3, 4, 5, 6, 7, 8]⟩, ⟨[], [], [], [0, 1, 2, 3, 4, 5, 6, 7, 8, 9]⟩, ⟨[], [], [], [0, 1, 2, 3, 4, 5, 6, 7, 8, 9, 10]⟩, ⟨[], [], [], [0, 1, 2, 3, 4, 5, 6, 7, 8, 9, 10, 11]⟩] Tryd.mixed rfl (by kernel_rfl) ⟨Ob.v rfl (fun _ _ h => by cases h) (fun _ _ _ => rfl) (fun e L' hL => JV.callM Tryd.call9 evs_nil (fun w hw => sanity_spec w (hw.reads (id := 901) ((hL 901 (by decide)).trans rfl)))),
                Ob.v rfl (fun _ _ h => by cases h) (fun _ _ _ => rfl) (fun e L' hL => JV.move rfl),
                Ob.vg rfl rfl (fun _ => rfl) (fun _ _ h => by cases h) (fun _ _ _ => rfl) (fun e L' hL => JV.loadV 3 rfl ((hL 3 (by decide)).trans rfl) Tryd.isAgg23 Tryd.sizeOf23 (by rw [List.length_map, Pl.pubK_len])),
                Ob.vg rfl rfl (fun _ => rfl) (fun _ _ h => by cases h) (fun _ _ _ => rfl) (fun e L' hL => JV.loadV 2 rfl ((hL 2 (by decide)).trans rfl) Tryd.isAgg23 Tryd.sizeOf23 (by rw [List.length_map, hb])),
                Ob.vg rfl rfl (fun _ => rfl) (fun _ _ h => by cases h) (fun _ _ _ => rfl) (fun e L' hL => JV.move rfl),
                Ob.vg rfl rfl (fun _ => rfl) (fun _ _ h => by cases h) (fun _ _ _ => rfl) (fun e L' hL => JV.callM Tryd.call19 (evs_cons rfl (evs_cons rfl (evs_cons rfl evs_nil))) (fun w hw => verify_spec (Pl.pubK s) (Pl.pubK_len s) b hb (Pl.sign s a) w (hw.reads (id := 901) ((hL 901 (by decide)).trans rfl)))),
                Ob.vg rfl rfl (fun _ => rfl) (fun _ _ h => by cases h) (fun _ _ _ => rfl) (fun e L' hL => JV.loadV 3 rfl ((hL 3 (by decide)).trans rfl) Tryd.isAgg23 Tryd.sizeOf23 (by rw [List.length_map, Pl.pubK_len])),
                Ob.vg rfl rfl (fun _ => rfl) (fun _ _ h => by cases h) (fun _ _ _ => rfl) (fun e L' hL => JV.loadV 2 rfl ((hL 2 (by decide)).trans rfl) Tryd.isAgg23 Tryd.sizeOf23 (by rw [List.length_map, hb])),
                Ob.vg rfl rfl (fun _ => rfl) (fun _ _ h => by cases h) (fun _ _ _ => rfl) (fun e L' hL => JV.move rfl),
                Ob.vg rfl rfl (fun _ => rfl) (fun _ _ h => by cases h) (fun _ _ _ => rfl) (fun e L' hL => JV.callM Tryd.call20 (evs_cons rfl (evs_cons rfl (evs_cons rfl evs_nil))) (fun w hw => rverify_spec (Pl.pubK s) (Pl.pubK_len s) b hb (Pl.sign s a) w (hw.reads (id := 900) ((hL 900 (by decide)).trans rfl)))),
                Ob.vg rfl rfl (fun _ => rfl) (fun _ _ h => by cases h) (fun _ _ _ => rfl) (fun e L' hL => JV.bt (JV.eqlB rfl rfl Tryd.underlying4) (beq_self_eq_true _)),
                Ob.v rfl (fun _ _ h => by cases h) (fun _ _ _ => rfl) (fun e L' hL => JV.pickT rfl rfl),
                Ob.v rfl (fun _ _ h => by cases h) (fun _ _ _ => rfl) (fun e L' hL => JV.assign rfl), trivial⟩ (fun ev8 => ?_)
      simp only [endF, endL, putF, List.nil_append, List.cons_append]
      refine JQ.n_then ?_
      refine JQ.ret ?_
      refine JQ.done1 Tryd.results5 rfl ?_
      exact fun w hw => ⟨rfl, hw.below⟩

set_option maxHeartbeats 4000000 in
theorem law_digits (a : List UInt8) (ha : a.length = 16) (b : List UInt8) (hb : b.length = 16) (w : World) (hG : Gl 1 (Pl.K.map u32) w) :
    Calls Tryd.prog 6 #[.agg ((a).map b8).toArray, .agg ((b).map b8).toArray] w fun e w' => e = .returned (.bool true) ∧ Below w.heap.size w w' := by
  
  refine enterA (vs := [_, _]) Tryd.func6 rfl 104 rfl [(901, .ro (gv 1 64) 1 64 (Pl.K.map u32))] (MemOk.start1 901 hG) ?_
  refine JQ.seq ?_
  refine JQ.region ?_
  refine JQ.x (JO.box 1 rfl rfl) rfl ?_
  intro i0_0
  refine JQ.x (JO.box 2 rfl rfl) rfl ?_
  intro i0_1
  refine JQ.v (JV.assign rfl) rfl ?_
  refine JQ.nil ?_
  refine JQ.n_then ?_
  refine JQ.seq ?_
  refine JQ.region ?_
  refine JQ.v (JV.loadV 1 rfl rfl Tryd.isAgg23 Tryd.sizeOf23 (by rw [List.length_map, ha])) rfl ?_
  refine JQ.x (JO.callRo 50 Tryd.call13 (evs_cons rfl evs_nil) (fun w hw => digits_spec a ha w)) rfl ?_
  intro i1_1
  refine JQ.v (JV.assign rfl) rfl ?_
  refine JQ.nil ?_
  refine JQ.n_then ?_
  refine JQ.seq ?_
  refine JQ.region ?_
  refine JQ.v (JV.loadV 2 rfl rfl Tryd.isAgg23 Tryd.sizeOf23 (by rw [List.length_map, hb])) rfl ?_
  refine JQ.x (JO.callRo 51 Tryd.call13 (evs_cons rfl evs_nil) (fun w hw => digits_spec b hb w)) rfl ?_
  intro i2_1
  refine JQ.v (JV.assign rfl) rfl ?_
  refine JQ.nil ?_
  refine JQ.n_then ?_
  refine JQ.seq ?_
  refine JQ.seq ?_
  refine JQ.region ?_
  refine JQ.v (JV.move rfl) rfl ?_
  refine JQ.v (JV.lenRo 50 rfl rfl Tryd.runUnderlying29) rfl ?_
  refine JQ.v (JV.ff (JV.neqN (b := 35) rfl rfl) (fun h => h rfl)) rfl ?_
  refine JQ.v (JV.move rfl) rfl ?_
  refine JQ.vg rfl rfl (JV.move rfl) rfl ?_
  refine JQ.vg rfl rfl (JV.lenRo 51 rfl rfl Tryd.runUnderlying29) rfl ?_
  refine JQ.vg rfl rfl (JV.ff (JV.neqN (b := 35) rfl rfl) (fun h => h rfl)) rfl ?_
  refine JQ.v (JV.pickF rfl rfl) rfl ?_
  refine JQ.nil ?_
  refine JQ.n_then ?_
  refine JQ.condF rfl ?_
  refine JQ.skip ?_
  refine JQ.n_then ?_
  refine JQ.seq ?_
  refine JQ.region ?_
  refine JQ.v (JV.assign rfl) rfl ?_
  refine JQ.nil ?_
  refine JQ.n_then ?_
  refine JQ.seq ?_
  refine JQ.region ?_
  refine JQ.v (JV.assign rfl) rfl ?_
  refine JQ.nil ?_
  refine JQ.n_then ?_
  refine JQ.seq ?_
  refine JQ.region ?_
  refine JQ.v (JV.assign rfl) rfl ?_
  refine JQ.nil ?_
  refine JQ.n_then ?_
  refine JQ.seq ?_
  refine JQ.seq ?_
  refine JQ.region ?_
  refine JQ.v (JV.assign rfl) rfl ?_
  refine JQ.nil ?_
  refine JQ.n_then ?_
  refine JQ.block ?_
  refine JQ.loopI (ι := Nat) (fun i => [(2, .pointer (some ⟨i0_0, 0, none⟩)), (3, .pointer (some ⟨i0_1, 0, none⟩)), (5, i1_1), (6, i2_1), (7, .bool (Pl.lessN a b i)), (8, .bool (Pl.lessN b a i)), (9, .int .i64 ((Pl.sm a i : Nat) : Int)), (10, .int .i64 ((i : Nat) : Int))]) (fun i => [(1, .cells i0_0 (a.map b8) 23 (0, 0)), (2, .cells i0_1 (b.map b8) 23 (0, 0)), (901, .ro (gv 1 64) 1 64 (Pl.K.map u32)), (50, .ro i1_1 1 35 ((Pl.digits a).map i64)), (51, .ro i2_1 1 35 ((Pl.digits b).map i64))]) (fun i => i ≤ 35) (fun i => 35 - i) 0 (by omega) (subk_cons rfl (subk_cons rfl (subk_cons rfl (subk_cons rfl (subk_cons (by rw [lessN0]; rfl) (subk_cons (by rw [lessN0]; rfl) (subk_cons (by rw [sm0]; rfl) (subk_cons rfl subk_nil)))))))) (subr_cons rfl (subr_cons rfl (subr_cons rfl (subr_cons rfl (subr_cons rfl subr_nil))))) ?_
  intro i hi
  refine JQ.seq ?_
  refine JQ.seq ?_
  refine JQ.region ?_
  refine JQ.v (JV.move rfl) rfl ?_
  refine JQ.v (JV.lssN (b := 35) rfl rfl) rfl ?_
  refine JQ.nil ?_
  refine JQ.n_then ?_
  refine JQ.condP rfl (fun h24 => ?_) (fun h24 => ?_)
  · refine JQ.skip ?_
    refine JQ.n_then ?_
    refine JQ.seq ?_
    refine JQ.block ?_
    refine JQ.seq ?_
    refine JQ.seq ?_
    refine JQ.region ?_
    refine JQ.v (JV.move rfl) rfl ?_
    refine JQ.v (JV.move rfl) rfl ?_
    refine JQ.v (JV.idxRo1 50 rfl rfl rfl Tryd.runUnderlying29 Tryd.sizeOf3 (by decide) (by omega)) rfl ?_
    refine JQ.v (JV.loadR 50 rfl rfl Tryd.isAgg3 (getDig a (by omega))) rfl ?_
    refine JQ.v (JV.ff (JV.lssN (b := 0) rfl rfl) (Nat.not_lt_zero _)) rfl ?_
    refine JQ.v (JV.move rfl) rfl ?_
    refine JQ.vg rfl rfl (JV.move rfl) rfl ?_
    refine JQ.vg rfl rfl (JV.move rfl) rfl ?_
    refine JQ.vg rfl rfl (JV.idxRo1 50 rfl rfl rfl Tryd.runUnderlying29 Tryd.sizeOf3 (by decide) (by omega)) rfl ?_
    refine JQ.vg rfl rfl (JV.loadR 50 rfl rfl Tryd.isAgg3 (getDig a (by omega))) rfl ?_
    refine JQ.vg rfl rfl (JV.ff (JV.gtrN (b := 15) rfl rfl) (by have := Pl.dig_le a i; omega)) rfl ?_
    refine JQ.v (JV.pickF rfl rfl) rfl ?_
    refine JQ.nil ?_
    refine JQ.n_then ?_
    refine JQ.condF rfl ?_
    refine JQ.skip ?_
    refine JQ.n_then ?_
    refine JQ.seq ?_
    cases hb13 : Pl.lessN a b i
    · refine JQ.any [_, _, _, _, _, _, _, _, _, _, _, _, _] [fun _ => [], fun _ => [], fun _ => [], fun _ => [], fun _ => [], fun _ => [], fun _ => [], fun _ => [], fun _ => [], fun _ => [], fun _ => [], fun _ => [], fun _ => []] [⟨[], [], [], []⟩, ⟨[], [], [], [0]⟩, ⟨[], [], [], [0, 1]⟩, ⟨[], [], [], [0, 1]⟩, ⟨[50], [], [], [0, 1, 2, 3]⟩, ⟨[50], [], [], [0, 1, 2, 3, 4]⟩, ⟨[], [], [], [0, 1]⟩, ⟨[], [], [], [0, 1]⟩, ⟨[51], [], [], [0, 1, 6, 7]⟩, ⟨[51], [], [], [0, 1, 6, 7, 8]⟩, ⟨[], [], [], [0, 1, 2, 3, 4, 5, 6, 7, 8, 9]⟩, ⟨[], [], [], [0, 1, 2, 3, 4, 5, 6, 7, 8, 9, 10]⟩, ⟨[], [], [], [0, 1, 2, 3, 4, 5, 6, 7, 8, 9, 10, 11]⟩] Tryd.mixed rfl (by kernel_rfl) ⟨Ob.v rfl (fun _ _ h => by cases h) (fun _ _ _ => rfl) (fun e L' hL => JV.move rfl),
                Ob.v rfl (fun _ _ h => by cases h) (fun _ _ _ => rfl) (fun e L' hL => JV.move rfl),
                Ob.vg rfl rfl (fun _ => rfl) (fun _ _ h => by cases h) (fun _ _ _ => rfl) (fun e L' hL => JV.move rfl),
                Ob.vg rfl rfl (fun _ => rfl) (fun _ _ h => by cases h) (fun _ _ _ => rfl) (fun e L' hL => JV.move rfl),
                Ob.vg rfl rfl (fun _ => rfl) (fun _ _ h => by cases h) (fun _ _ _ => rfl) (fun e L' hL => JV.idxRo1 50 rfl rfl ((hL 50 (by decide)).trans rfl) Tryd.runUnderlying29 Tryd.sizeOf3 (by decide) (by omega)),
                Ob.vg rfl rfl (fun _ => rfl) (fun _ _ h => by cases h) (fun _ _ _ => rfl) (fun e L' hL => JV.loadR 50 rfl ((hL 50 (by decide)).trans rfl) Tryd.isAgg3 (getDig a (by omega))),
                Ob.vg rfl rfl (fun _ => rfl) (fun _ _ h => by cases h) (fun _ _ _ => rfl) (fun e L' hL => JV.move rfl),
                Ob.vg rfl rfl (fun _ => rfl) (fun _ _ h => by cases h) (fun _ _ _ => rfl) (fun e L' hL => JV.move rfl),
                Ob.vg rfl rfl (fun _ => rfl) (fun _ _ h => by cases h) (fun _ _ _ => rfl) (fun e L' hL => JV.idxRo1 51 rfl rfl ((hL 51 (by decide)).trans rfl) Tryd.runUnderlying29 Tryd.sizeOf3 (by decide) (by omega)),
                Ob.vg rfl rfl (fun _ => rfl) (fun _ _ h => by cases h) (fun _ _ _ => rfl) (fun e L' hL => JV.loadR 51 rfl ((hL 51 (by decide)).trans rfl) Tryd.isAgg3 (getDig b (by omega))),
                Ob.vg rfl rfl (fun _ => rfl) (fun _ _ h => by cases h) (fun _ _ _ => rfl) (fun e L' hL => JV.lssN rfl rfl),
                Ob.v rfl (fun _ _ h => by cases h) (fun _ _ _ => rfl) (fun e L' hL => JV.pickF rfl rfl),
                Ob.v rfl (fun _ _ h => by cases h) (fun _ _ _ => rfl) (fun e L' hL => JV.assign rfl), trivial⟩ (fun ev13 => ?_)
      simp only [endF, endL, putF, List.nil_append, List.cons_append]
      refine JQ.n_then ?_
      refine JQ.seq ?_
      cases hb14 : Pl.lessN b a i
      · refine JQ.any [_, _, _, _, _, _, _, _, _, _, _, _, _] [fun _ => [], fun _ => [], fun _ => [], fun _ => [], fun _ => [], fun _ => [], fun _ => [], fun _ => [], fun _ => [], fun _ => [], fun _ => [], fun _ => [], fun _ => []] [⟨[], [], [], []⟩, ⟨[], [], [], [0]⟩, ⟨[], [], [], [0, 1]⟩, ⟨[], [], [], [0, 1]⟩, ⟨[50], [], [], [0, 1, 2, 3]⟩, ⟨[50], [], [], [0, 1, 2, 3, 4]⟩, ⟨[], [], [], [0, 1]⟩, ⟨[], [], [], [0, 1]⟩, ⟨[51], [], [], [0, 1, 6, 7]⟩, ⟨[51], [], [], [0, 1, 6, 7, 8]⟩, ⟨[], [], [], [0, 1, 2, 3, 4, 5, 6, 7, 8, 9]⟩, ⟨[], [], [], [0, 1, 2, 3, 4, 5, 6, 7, 8, 9, 10]⟩, ⟨[], [], [], [0, 1, 2, 3, 4, 5, 6, 7, 8, 9, 10, 11]⟩] Tryd.mixed rfl (by kernel_rfl) ⟨Ob.v rfl (fun _ _ h => by cases h) (fun _ _ _ => rfl) (fun e L' hL => JV.move rfl),
                    Ob.v rfl (fun _ _ h => by cases h) (fun _ _ _ => rfl) (fun e L' hL => JV.move rfl),
                    Ob.vg rfl rfl (fun _ => rfl) (fun _ _ h => by cases h) (fun _ _ _ => rfl) (fun e L' hL => JV.move rfl),
                    Ob.vg rfl rfl (fun _ => rfl) (fun _ _ h => by cases h) (fun _ _ _ => rfl) (fun e L' hL => JV.move rfl),
                    Ob.vg rfl rfl (fun _ => rfl) (fun _ _ h => by cases h) (fun _ _ _ => rfl) (fun e L' hL => JV.idxRo1 50 rfl rfl ((hL 50 (by decide)).trans rfl) Tryd.runUnderlying29 Tryd.sizeOf3 (by decide) (by omega)),
                    Ob.vg rfl rfl (fun _ => rfl) (fun _ _ h => by cases h) (fun _ _ _ => rfl) (fun e L' hL => JV.loadR 50 rfl ((hL 50 (by decide)).trans rfl) Tryd.isAgg3 (getDig a (by omega))),
                    Ob.vg rfl rfl (fun _ => rfl) (fun _ _ h => by cases h) (fun _ _ _ => rfl) (fun e L' hL => JV.move rfl),
                    Ob.vg rfl rfl (fun _ => rfl) (fun _ _ h => by cases h) (fun _ _ _ => rfl) (fun e L' hL => JV.move rfl),
                    Ob.vg rfl rfl (fun _ => rfl) (fun _ _ h => by cases h) (fun _ _ _ => rfl) (fun e L' hL => JV.idxRo1 51 rfl rfl ((hL 51 (by decide)).trans rfl) Tryd.runUnderlying29 Tryd.sizeOf3 (by decide) (by omega)),
                    Ob.vg rfl rfl (fun _ => rfl) (fun _ _ h => by cases h) (fun _ _ _ => rfl) (fun e L' hL => JV.loadR 51 rfl ((hL 51 (by decide)).trans rfl) Tryd.isAgg3 (getDig b (by omega))),
                    Ob.vg rfl rfl (fun _ => rfl) (fun _ _ h => by cases h) (fun _ _ _ => rfl) (fun e L' hL => JV.gtrN rfl rfl),
                    Ob.v rfl (fun _ _ h => by cases h) (fun _ _ _ => rfl) (fun e L' hL => JV.pickF rfl rfl),
                    Ob.v rfl (fun _ _ h => by cases h) (fun _ _ _ => rfl) (fun e L' hL => JV.assign rfl), trivial⟩ (fun ev14 => ?_)
        simp only [endF, endL, putF, List.nil_append, List.cons_append]
        refine JQ.n_then ?_
        refine JQ.seq ?_
        refine JQ.region ?_
        refine JQ.v (JV.move rfl) rfl ?_
        by_cases hs15_1 : i < 32
        · refine JQ.v (JV.tt (JV.lssN (b := 32) rfl rfl) hs15_1) rfl ?_
          refine JQ.nil ?_
          refine JQ.n_then ?_
          refine JQ.condT rfl ?_
          refine JQ.region ?_
          refine JQ.v (JV.move rfl) rfl ?_
          refine JQ.v (JV.addN (b := 15) rfl rfl (by have := Pl.sm_le a i; omega)) rfl ?_
          refine JQ.v (JV.move rfl) rfl ?_
          refine JQ.v (JV.move rfl) rfl ?_
          refine JQ.v (JV.idxRo1 50 rfl rfl rfl Tryd.runUnderlying29 Tryd.sizeOf3 (by decide) (by omega)) rfl ?_
          refine JQ.v (JV.loadR 50 rfl rfl Tryd.isAgg3 (getDig a (by omega))) rfl ?_
          refine JQ.v (JV.subN rfl rfl (by have := Pl.dig_le a i; have := Pl.sm_le a i; omega)) rfl ?_
          refine JQ.v (JV.assign rfl) rfl ?_
          refine JQ.nil ?_
          refine JQ.n_block ?_
          refine JQ.n_then ?_
          refine JQ.region ?_
          refine JQ.v (JV.move rfl) rfl ?_
          refine JQ.v (JV.addN (b := 1) rfl rfl (by omega)) rfl ?_
          refine JQ.v (JV.assign rfl) rfl ?_
          refine JQ.nil ?_
          refine JQ.n_then ?_
          exact JQ.nextI (i + 1) (by omega) (by omega) (subk_cons rfl (subk_cons rfl (subk_cons rfl (subk_cons rfl (subk_cons (by rw [Pl.lessN, hb13]; rfl) (subk_cons (by rw [Pl.lessN, hb14]; rfl) (subk_cons (by first | (rw [← Pl.sm_step a hs15_1]; rfl) | (rw [← Pl.sm_stay a hs15_1]; rfl)) (subk_cons rfl subk_nil)))))))) (subr_cons rfl (subr_cons rfl (subr_cons rfl (subr_cons rfl (subr_cons rfl subr_nil)))))
        · refine JQ.v (JV.ff (JV.lssN (b := 32) rfl rfl) hs15_1) rfl ?_
          refine JQ.nil ?_
          refine JQ.n_then ?_
          refine JQ.condF rfl ?_
          refine JQ.skip ?_
          refine JQ.n_block ?_
          refine JQ.n_then ?_
          refine JQ.region ?_
          refine JQ.v (JV.move rfl) rfl ?_
          refine JQ.v (JV.addN (b := 1) rfl rfl (by omega)) rfl ?_
          refine JQ.v (JV.assign rfl) rfl ?_
          refine JQ.nil ?_
          refine JQ.n_then ?_
          exact JQ.nextI (i + 1) (by omega) (by omega) (subk_cons rfl (subk_cons rfl (subk_cons rfl (subk_cons rfl (subk_cons (by rw [Pl.lessN, hb13]; rfl) (subk_cons (by rw [Pl.lessN, hb14]; rfl) (subk_cons (by first | (rw [← Pl.sm_step a hs15_1]; rfl) | (rw [← Pl.sm_stay a hs15_1]; rfl)) (subk_cons rfl subk_nil)))))))) (subr_cons rfl (subr_cons rfl (subr_cons rfl (subr_cons rfl (subr_cons rfl subr_nil)))))
      · refine JQ.any [_, _, (fun _ => undef), (fun _ => undef), (fun _ => undef), (fun _ => undef), (fun _ => undef), (fun _ => undef), (fun _ => undef), (fun _ => undef), (fun _ => undef), _, _] [fun _ => [], fun _ => [], (fun _ => []), (fun _ => []), (fun _ => []), (fun _ => []), (fun _ => []), (fun _ => []), (fun _ => []), (fun _ => []), (fun _ => []), fun _ => [], fun _ => []] [⟨[], [], [], []⟩, ⟨[], [], [], [0]⟩, ⟨[], [], [], [0, 1]⟩, ⟨[], [], [], [0, 1]⟩, ⟨[], [], [], [0, 1, 2, 3]⟩, ⟨[], [], [], [0, 1, 2, 3, 4]⟩, ⟨[], [], [], [0, 1]⟩, ⟨[], [], [], [0, 1]⟩, ⟨[], [], [], [0, 1, 6, 7]⟩, ⟨[], [], [], [0, 1, 6, 7, 8]⟩, ⟨[], [], [], [0, 1, 2, 3, 4, 5, 6, 7, 8, 9]⟩, ⟨[], [], [], [0, 1, 2, 3, 4, 5, 6, 7, 8, 9, 10]⟩, ⟨[], [], [], [0, 1, 2, 3, 4, 5, 6, 7, 8, 9, 10, 11]⟩] Tryd.mixed rfl (by kernel_rfl) ⟨Ob.v rfl (fun _ _ h => by cases h) (fun _ _ _ => rfl) (fun e L' hL => JV.move rfl),
                    Ob.v rfl (fun _ _ h => by cases h) (fun _ _ _ => rfl) (fun e L' hL => JV.move rfl),
                    Ob.g0 rfl rfl (fun _ => rfl) rfl (fun _ _ h => by cases h),
                    Ob.g0 rfl rfl (fun _ => rfl) rfl (fun _ _ h => by cases h),
                    Ob.g0 rfl rfl (fun _ => rfl) rfl (fun _ _ h => by cases h),
                    Ob.g0 rfl rfl (fun _ => rfl) rfl (fun _ _ h => by cases h),
                    Ob.g0 rfl rfl (fun _ => rfl) rfl (fun _ _ h => by cases h),
                    Ob.g0 rfl rfl (fun _ => rfl) rfl (fun _ _ h => by cases h),
                    Ob.g0 rfl rfl (fun _ => rfl) rfl (fun _ _ h => by cases h),
                    Ob.g0 rfl rfl (fun _ => rfl) rfl (fun _ _ h => by cases h),
                    Ob.g0 rfl rfl (fun _ => rfl) rfl (fun _ _ h => by cases h),
                    Ob.v rfl (fun _ _ h => by cases h) (fun _ _ _ => rfl) (fun e L' hL => JV.pickT rfl rfl),
                    Ob.v rfl (fun _ _ h => by cases h) (fun _ _ _ => rfl) (fun e L' hL => JV.assign rfl), trivial⟩ (fun ev14 => ?_)
        simp only [endF, endL, putF, List.nil_append, List.cons_append]
        refine JQ.n_then ?_
        refine JQ.seq ?_
        refine JQ.region ?_
        refine JQ.v (JV.move rfl) rfl ?_
        by_cases hs15_1 : i < 32
        · refine JQ.v (JV.tt (JV.lssN (b := 32) rfl rfl) hs15_1) rfl ?_
          refine JQ.nil ?_
          refine JQ.n_then ?_
          refine JQ.condT rfl ?_
          refine JQ.region ?_
          refine JQ.v (JV.move rfl) rfl ?_
          refine JQ.v (JV.addN (b := 15) rfl rfl (by have := Pl.sm_le a i; omega)) rfl ?_
          refine JQ.v (JV.move rfl) rfl ?_
          refine JQ.v (JV.move rfl) rfl ?_
          refine JQ.v (JV.idxRo1 50 rfl rfl rfl Tryd.runUnderlying29 Tryd.sizeOf3 (by decide) (by omega)) rfl ?_
          refine JQ.v (JV.loadR 50 rfl rfl Tryd.isAgg3 (getDig a (by omega))) rfl ?_
          refine JQ.v (JV.subN rfl rfl (by have := Pl.dig_le a i; have := Pl.sm_le a i; omega)) rfl ?_
          refine JQ.v (JV.assign rfl) rfl ?_
          refine JQ.nil ?_
          refine JQ.n_block ?_
          refine JQ.n_then ?_
          refine JQ.region ?_
          refine JQ.v (JV.move rfl) rfl ?_
          refine JQ.v (JV.addN (b := 1) rfl rfl (by omega)) rfl ?_
          refine JQ.v (JV.assign rfl) rfl ?_
          refine JQ.nil ?_
          refine JQ.n_then ?_
          exact JQ.nextI (i + 1) (by omega) (by omega) (subk_cons rfl (subk_cons rfl (subk_cons rfl (subk_cons rfl (subk_cons (by rw [Pl.lessN, hb13]; rfl) (subk_cons (by rw [Pl.lessN, hb14]; rfl) (subk_cons (by first | (rw [← Pl.sm_step a hs15_1]; rfl) | (rw [← Pl.sm_stay a hs15_1]; rfl)) (subk_cons rfl subk_nil)))))))) (subr_cons rfl (subr_cons rfl (subr_cons rfl (subr_cons rfl (subr_cons rfl subr_nil)))))
        · refine JQ.v (JV.ff (JV.lssN (b := 32) rfl rfl) hs15_1) rfl ?_
          refine JQ.nil ?_
          refine JQ.n_then ?_
          refine JQ.condF rfl ?_
          refine JQ.skip ?_
          refine JQ.n_block ?_
          refine JQ.n_then ?_
          refine JQ.region ?_
          refine JQ.v (JV.move rfl) rfl ?_
          refine JQ.v (JV.addN (b := 1) rfl rfl (by omega)) rfl ?_
          refine JQ.v (JV.assign rfl) rfl ?_
          refine JQ.nil ?_
          refine JQ.n_then ?_
          exact JQ.nextI (i + 1) (by omega) (by omega) (subk_cons rfl (subk_cons rfl (subk_cons rfl (subk_cons rfl (subk_cons (by rw [Pl.lessN, hb13]; rfl) (subk_cons (by rw [Pl.lessN, hb14]; rfl) (subk_cons (by first | (rw [← Pl.sm_step a hs15_1]; rfl) | (rw [← Pl.sm_stay a hs15_1]; rfl)) (subk_cons rfl subk_nil)))))))) (subr_cons rfl (subr_cons rfl (subr_cons rfl (subr_cons rfl (subr_cons rfl subr_nil)))))
    · refine JQ.any [_, _, (fun _ => undef), (fun _ => undef), (fun _ => undef), (fun _ => undef), (fun _ => undef), (fun _ => undef), (fun _ => undef), (fun _ => undef), (fun _ => undef), _, _] [fun _ => [], fun _ => [], (fun _ => []), (fun _ => []), (fun _ => []), (fun _ => []), (fun _ => []), (fun _ => []), (fun _ => []), (fun _ => []), (fun _ => []), fun _ => [], fun _ => []] [⟨[], [], [], []⟩, ⟨[], [], [], [0]⟩, ⟨[], [], [], [0, 1]⟩, ⟨[], [], [], [0, 1]⟩, ⟨[], [], [], [0, 1, 2, 3]⟩, ⟨[], [], [], [0, 1, 2, 3, 4]⟩, ⟨[], [], [], [0, 1]⟩, ⟨[], [], [], [0, 1]⟩, ⟨[], [], [], [0, 1, 6, 7]⟩, ⟨[], [], [], [0, 1, 6, 7, 8]⟩, ⟨[], [], [], [0, 1, 2, 3, 4, 5, 6, 7, 8, 9]⟩, ⟨[], [], [], [0, 1, 2, 3, 4, 5, 6, 7, 8, 9, 10]⟩, ⟨[], [], [], [0, 1, 2, 3, 4, 5, 6, 7, 8, 9, 10, 11]⟩] Tryd.mixed rfl (by kernel_rfl) ⟨Ob.v rfl (fun _ _ h => by cases h) (fun _ _ _ => rfl) (fun e L' hL => JV.move rfl),
                Ob.v rfl (fun _ _ h => by cases h) (fun _ _ _ => rfl) (fun e L' hL => JV.move rfl),
                Ob.g0 rfl rfl (fun _ => rfl) rfl (fun _ _ h => by cases h),
                Ob.g0 rfl rfl (fun _ => rfl) rfl (fun _ _ h => by cases h),
                Ob.g0 rfl rfl (fun _ => rfl) rfl (fun _ _ h => by cases h),
                Ob.g0 rfl rfl (fun _ => rfl) rfl (fun _ _ h => by cases h),
                Ob.g0 rfl rfl (fun _ => rfl) rfl (fun _ _ h => by cases h),
                Ob.g0 rfl rfl (fun _ => rfl) rfl (fun _ _ h => by cases h),
                Ob.g0 rfl rfl (fun _ => rfl) rfl (fun _ _ h => by cases h),
                Ob.g0 rfl rfl (fun _ => rfl) rfl (fun _ _ h => by cases h),
                Ob.g0 rfl rfl (fun _ => rfl) rfl (fun _ _ h => by cases h),
                Ob.v rfl (fun _ _ h => by cases h) (fun _ _ _ => rfl) (fun e L' hL => JV.pickT rfl rfl),
                Ob.v rfl (fun _ _ h => by cases h) (fun _ _ _ => rfl) (fun e L' hL => JV.assign rfl), trivial⟩ (fun ev13 => ?_)
      simp only [endF, endL, putF, List.nil_append, List.cons_append]
      refine JQ.n_then ?_
      refine JQ.seq ?_
      cases hb14 : Pl.lessN b a i
      · refine JQ.any [_, _, _, _, _, _, _, _, _, _, _, _, _] [fun _ => [], fun _ => [], fun _ => [], fun _ => [], fun _ => [], fun _ => [], fun _ => [], fun _ => [], fun _ => [], fun _ => [], fun _ => [], fun _ => [], fun _ => []] [⟨[], [], [], []⟩, ⟨[], [], [], [0]⟩, ⟨[], [], [], [0, 1]⟩, ⟨[], [], [], [0, 1]⟩, ⟨[50], [], [], [0, 1, 2, 3]⟩, ⟨[50], [], [], [0, 1, 2, 3, 4]⟩, ⟨[], [], [], [0, 1]⟩, ⟨[], [], [], [0, 1]⟩, ⟨[51], [], [], [0, 1, 6, 7]⟩, ⟨[51], [], [], [0, 1, 6, 7, 8]⟩, ⟨[], [], [], [0, 1, 2, 3, 4, 5, 6, 7, 8, 9]⟩, ⟨[], [], [], [0, 1, 2, 3, 4, 5, 6, 7, 8, 9, 10]⟩, ⟨[], [], [], [0, 1, 2, 3, 4, 5, 6, 7, 8, 9, 10, 11]⟩] Tryd.mixed rfl (by kernel_rfl) ⟨Ob.v rfl (fun _ _ h => by cases h) (fun _ _ _ => rfl) (fun e L' hL => JV.move rfl),
                    Ob.v rfl (fun _ _ h => by cases h) (fun _ _ _ => rfl) (fun e L' hL => JV.move rfl),
                    Ob.vg rfl rfl (fun _ => rfl) (fun _ _ h => by cases h) (fun _ _ _ => rfl) (fun e L' hL => JV.move rfl),
                    Ob.vg rfl rfl (fun _ => rfl) (fun _ _ h => by cases h) (fun _ _ _ => rfl) (fun e L' hL => JV.move rfl),
                    Ob.vg rfl rfl (fun _ => rfl) (fun _ _ h => by cases h) (fun _ _ _ => rfl) (fun e L' hL => JV.idxRo1 50 rfl rfl ((hL 50 (by decide)).trans rfl) Tryd.runUnderlying29 Tryd.sizeOf3 (by decide) (by omega)),
                    Ob.vg rfl rfl (fun _ => rfl) (fun _ _ h => by cases h) (fun _ _ _ => rfl) (fun e L' hL => JV.loadR 50 rfl ((hL 50 (by decide)).trans rfl) Tryd.isAgg3 (getDig a (by omega))),
                    Ob.vg rfl rfl (fun _ => rfl) (fun _ _ h => by cases h) (fun _ _ _ => rfl) (fun e L' hL => JV.move rfl),
                    Ob.vg rfl rfl (fun _ => rfl) (fun _ _ h => by cases h) (fun _ _ _ => rfl) (fun e L' hL => JV.move rfl),
                    Ob.vg rfl rfl (fun _ => rfl) (fun _ _ h => by cases h) (fun _ _ _ => rfl) (fun e L' hL => JV.idxRo1 51 rfl rfl ((hL 51 (by decide)).trans rfl) Tryd.runUnderlying29 Tryd.sizeOf3 (by decide) (by omega)),
                    Ob.vg rfl rfl (fun _ => rfl) (fun _ _ h => by cases h) (fun _ _ _ => rfl) (fun e L' hL => JV.loadR 51 rfl ((hL 51 (by decide)).trans rfl) Tryd.isAgg3 (getDig b (by omega))),
                    Ob.vg rfl rfl (fun _ => rfl) (fun _ _ h => by cases h) (fun _ _ _ => rfl) (fun e L' hL => JV.gtrN rfl rfl),
                    Ob.v rfl (fun _ _ h => by cases h) (fun _ _ _ => rfl) (fun e L' hL => JV.pickF rfl rfl),
                    Ob.v rfl (fun _ _ h => by cases h) (fun _ _ _ => rfl) (fun e L' hL => JV.assign rfl), trivial⟩ (fun ev14 => ?_)
        simp only [endF, endL, putF, List.nil_append, List.cons_append]
        refine JQ.n_then ?_
        refine JQ.seq ?_
        refine JQ.region ?_
        refine JQ.v (JV.move rfl) rfl ?_
        by_cases hs15_1 : i < 32
        · refine JQ.v (JV.tt (JV.lssN (b := 32) rfl rfl) hs15_1) rfl ?_
          refine JQ.nil ?_
          refine JQ.n_then ?_
          refine JQ.condT rfl ?_
          refine JQ.region ?_
          refine JQ.v (JV.move rfl) rfl ?_
          refine JQ.v (JV.addN (b := 15) rfl rfl (by have := Pl.sm_le a i; omega)) rfl ?_
          refine JQ.v (JV.move rfl) rfl ?_
          refine JQ.v (JV.move rfl) rfl ?_
          refine JQ.v (JV.idxRo1 50 rfl rfl rfl Tryd.runUnderlying29 Tryd.sizeOf3 (by decide) (by omega)) rfl ?_
          refine JQ.v (JV.loadR 50 rfl rfl Tryd.isAgg3 (getDig a (by omega))) rfl ?_
          refine JQ.v (JV.subN rfl rfl (by have := Pl.dig_le a i; have := Pl.sm_le a i; omega)) rfl ?_
          refine JQ.v (JV.assign rfl) rfl ?_
          refine JQ.nil ?_
          refine JQ.n_block ?_
          refine JQ.n_then ?_
          refine JQ.region ?_
          refine JQ.v (JV.move rfl) rfl ?_
          refine JQ.v (JV.addN (b := 1) rfl rfl (by omega)) rfl ?_
          refine JQ.v (JV.assign rfl) rfl ?_
          refine JQ.nil ?_
          refine JQ.n_then ?_
          exact JQ.nextI (i + 1) (by omega) (by omega) (subk_cons rfl (subk_cons rfl (subk_cons rfl (subk_cons rfl (subk_cons (by rw [Pl.lessN, hb13]; rfl) (subk_cons (by rw [Pl.lessN, hb14]; rfl) (subk_cons (by first | (rw [← Pl.sm_step a hs15_1]; rfl) | (rw [← Pl.sm_stay a hs15_1]; rfl)) (subk_cons rfl subk_nil)))))))) (subr_cons rfl (subr_cons rfl (subr_cons rfl (subr_cons rfl (subr_cons rfl subr_nil)))))
        · refine JQ.v (JV.ff (JV.lssN (b := 32) rfl rfl) hs15_1) rfl ?_
          refine JQ.nil ?_
          refine JQ.n_then ?_
          refine JQ.condF rfl ?_
          refine JQ.skip ?_
          refine JQ.n_block ?_
          refine JQ.n_then ?_
          refine JQ.region ?_
          refine JQ.v (JV.move rfl) rfl ?_
          refine JQ.v (JV.addN (b := 1) rfl rfl (by omega)) rfl ?_
          refine JQ.v (JV.assign rfl) rfl ?_
          refine JQ.nil ?_
          refine JQ.n_then ?_
          exact JQ.nextI (i + 1) (by omega) (by omega) (subk_cons rfl (subk_cons rfl (subk_cons rfl (subk_cons rfl (subk_cons (by rw [Pl.lessN, hb13]; rfl) (subk_cons (by rw [Pl.lessN, hb14]; rfl) (subk_cons (by first | (rw [← Pl.sm_step a hs15_1]; rfl) | (rw [← Pl.sm_stay a hs15_1]; rfl)) (subk_cons rfl subk_nil)))))))) (subr_cons rfl (subr_cons rfl (subr_cons rfl (subr_cons rfl (subr_cons rfl subr_nil)))))
      · refine JQ.any [_, _, (fun _ => undef), (fun _ => undef), (fun _ => undef), (fun _ => undef), (fun _ => undef), (fun _ => undef), (fun _ => undef), (fun _ => undef), (fun _ => undef), _, _] [fun _ => [], fun _ => [], (fun _ => []), (fun _ => []), (fun _ => []), (fun _ => []), (fun _ => []), (fun _ => []), (fun _ => []), (fun _ => []), (fun _ => []), fun _ => [], fun _ => []] [⟨[], [], [], []⟩, ⟨[], [], [], [0]⟩, ⟨[], [], [], [0, 1]⟩, ⟨[], [], [], [0, 1]⟩, ⟨[], [], [], [0, 1, 2, 3]⟩, ⟨[], [], [], [0, 1, 2, 3, 4]⟩, ⟨[], [], [], [0, 1]⟩, ⟨[], [], [], [0, 1]⟩, ⟨[], [], [], [0, 1, 6, 7]⟩, ⟨[], [], [], [0, 1, 6, 7, 8]⟩, ⟨[], [], [], [0, 1, 2, 3, 4, 5, 6, 7, 8, 9]⟩, ⟨[], [], [], [0, 1, 2, 3, 4, 5, 6, 7, 8, 9, 10]⟩, ⟨[], [], [], [0, 1, 2, 3, 4, 5, 6, 7, 8, 9, 10, 11]⟩] Tryd.mixed rfl (by kernel_rfl) ⟨Ob.v rfl (fun _ _ h => by cases h) (fun _ _ _ => rfl) (fun e L' hL => JV.move rfl),
                    Ob.v rfl (fun _ _ h => by cases h) (fun _ _ _ => rfl) (fun e L' hL => JV.move rfl),
                    Ob.g0 rfl rfl (fun _ => rfl) rfl (fun _ _ h => by cases h),
                    Ob.g0 rfl rfl (fun _ => rfl) rfl (fun _ _ h => by cases h),
                    Ob.g0 rfl rfl (fun _ => rfl) rfl (fun _ _ h => by cases h),
                    Ob.g0 rfl rfl (fun _ => rfl) rfl (fun _ _ h => by cases h),
                    Ob.g0 rfl rfl (fun _ => rfl) rfl (fun _ _ h => by cases h),
                    Ob.g0 rfl rfl (fun _ => rfl) rfl (fun _ _ h => by cases h),
                    Ob.g0 rfl rfl (fun _ => rfl) rfl (fun _ _ h => by cases h),
                    Ob.g0 rfl rfl (fun _ => rfl) rfl (fun _ _ h => by cases h),
                    Ob.g0 rfl rfl (fun _ => rfl) rfl (fun _ _ h => by cases h),
                    Ob.v rfl (fun _ _ h => by cases h) (fun _ _ _ => rfl) (fun e L' hL => JV.pickT rfl rfl),
                    Ob.v rfl (fun _ _ h => by cases h) (fun _ _ _ => rfl) (fun e L' hL => JV.assign rfl), trivial⟩ (fun ev14 => ?_)
        simp only [endF, endL, putF, List.nil_append, List.cons_append]
        refine JQ.n_then ?_
        refine JQ.seq ?_
        refine JQ.region ?_
        refine JQ.v (JV.move rfl) rfl ?_
        by_cases hs15_1 : i < 32
        · refine JQ.v (JV.tt (JV.lssN (b := 32) rfl rfl) hs15_1) rfl ?_
          refine JQ.nil ?_
          refine JQ.n_then ?_
          refine JQ.condT rfl ?_
          refine JQ.region ?_
          refine JQ.v (JV.move rfl) rfl ?_
          refine JQ.v (JV.addN (b := 15) rfl rfl (by have := Pl.sm_le a i; omega)) rfl ?_
          refine JQ.v (JV.move rfl) rfl ?_
          refine JQ.v (JV.move rfl) rfl ?_
          refine JQ.v (JV.idxRo1 50 rfl rfl rfl Tryd.runUnderlying29 Tryd.sizeOf3 (by decide) (by omega)) rfl ?_
          refine JQ.v (JV.loadR 50 rfl rfl Tryd.isAgg3 (getDig a (by omega))) rfl ?_
          refine JQ.v (JV.subN rfl rfl (by have := Pl.dig_le a i; have := Pl.sm_le a i; omega)) rfl ?_
          refine JQ.v (JV.assign rfl) rfl ?_
          refine JQ.nil ?_
          refine JQ.n_block ?_
          refine JQ.n_then ?_
          refine JQ.region ?_
          refine JQ.v (JV.move rfl) rfl ?_
          refine JQ.v (JV.addN (b := 1) rfl rfl (by omega)) rfl ?_
          refine JQ.v (JV.assign rfl) rfl ?_
          refine JQ.nil ?_
          refine JQ.n_then ?_
          exact JQ.nextI (i + 1) (by omega) (by omega) (subk_cons rfl (subk_cons rfl (subk_cons rfl (subk_cons rfl (subk_cons (by rw [Pl.lessN, hb13]; rfl) (subk_cons (by rw [Pl.lessN, hb14]; rfl) (subk_cons (by first | (rw [← Pl.sm_step a hs15_1]; rfl) | (rw [← Pl.sm_stay a hs15_1]; rfl)) (subk_cons rfl subk_nil)))))))) (subr_cons rfl (subr_cons rfl (subr_cons rfl (subr_cons rfl (subr_cons rfl subr_nil)))))
        · refine JQ.v (JV.ff (JV.lssN (b := 32) rfl rfl) hs15_1) rfl ?_
          refine JQ.nil ?_
          refine JQ.n_then ?_
          refine JQ.condF rfl ?_
          refine JQ.skip ?_
          refine JQ.n_block ?_
          refine JQ.n_then ?_
          refine JQ.region ?_
          refine JQ.v (JV.move rfl) rfl ?_
          refine JQ.v (JV.addN (b := 1) rfl rfl (by omega)) rfl ?_
          refine JQ.v (JV.assign rfl) rfl ?_
          refine JQ.nil ?_
          refine JQ.n_then ?_
          exact JQ.nextI (i + 1) (by omega) (by omega) (subk_cons rfl (subk_cons rfl (subk_cons rfl (subk_cons rfl (subk_cons (by rw [Pl.lessN, hb13]; rfl) (subk_cons (by rw [Pl.lessN, hb14]; rfl) (subk_cons (by first | (rw [← Pl.sm_step a hs15_1]; rfl) | (rw [← Pl.sm_stay a hs15_1]; rfl)) (subk_cons rfl subk_nil)))))))) (subr_cons rfl (subr_cons rfl (subr_cons rfl (subr_cons rfl (subr_cons rfl subr_nil)))))
  · refine JQ.exit ?_
    refine JQ.e_then ?_
    refine JQ.e_then ?_
    refine JQ.e_here ?_
    refine JQ.n_then ?_
    refine JQ.seq ?_
    obtain rfl : i = 35 := by omega
    refine JQ.any [_, _, _, _, _, _, _, _, _, _, _, _, _, _, _, _, _, _, _, _, _, _, _, _, _, _, _, _, _, _, _, _, _] [fun _ => [], fun _ => [], fun _ => [], fun _ => [], fun _ => [], fun _ => [], fun _ => [], fun _ => [], fun _ => [], fun _ => [], fun _ => [], fun _ => [], fun _ => [], fun _ => [], fun _ => [], fun _ => [], fun _ => [], fun _ => [], fun _ => [], fun _ => [], fun _ => [], fun _ => [], fun _ => [], fun _ => [], fun _ => [], fun _ => [], fun _ => [], fun _ => [], fun _ => [], fun _ => [], fun _ => [], fun _ => [], fun _ => []] [⟨[901], [], [], []⟩, ⟨[], [], [], [0]⟩, ⟨[], [], [], [0, 1]⟩, ⟨[], [], [], [0, 1]⟩, ⟨[50], [], [], [0, 1, 3]⟩, ⟨[50], [], [], [0, 1, 3, 4]⟩, ⟨[], [], [], [0, 1, 3, 4, 5]⟩, ⟨[], [], [], [0, 1]⟩, ⟨[50], [], [], [0, 1, 7]⟩, ⟨[50], [], [], [0, 1, 7, 8]⟩, ⟨[], [], [], [0, 1, 7, 8, 9]⟩, ⟨[], [], [], [0, 1, 3, 4, 5, 6, 7, 8, 9, 10]⟩, ⟨[], [], [], [0, 1]⟩, ⟨[50], [], [], [0, 1, 12]⟩, ⟨[50], [], [], [0, 1, 12, 13]⟩, ⟨[], [], [], [0, 1, 3, 4, 5, 6, 7, 8, 9, 10, 11, 12, 13, 14]⟩, ⟨[], [], [], [0, 1, 2, 3, 4, 5, 6, 7, 8, 9, 10, 11, 12, 13, 14, 15]⟩, ⟨[], [], [], [0, 1, 2, 3, 4, 5, 6, 7, 8, 9, 10, 11, 12, 13, 14, 15, 16]⟩, ⟨[], [], [], [0, 1, 2, 3, 4, 5, 6, 7, 8, 9, 10, 11, 12, 13, 14, 15, 16, 17]⟩, ⟨[], [], [], [0, 1, 2, 3, 4, 5, 6, 7, 8, 9, 10, 11, 12, 13, 14, 15, 16, 17, 18]⟩, ⟨[1], [], [], [0, 1, 2, 3, 4, 5, 6, 7, 8, 9, 10, 11, 12, 13, 14, 15, 16, 17, 18]⟩, ⟨[2], [], [], [0, 1, 2, 3, 4, 5, 6, 7, 8, 9, 10, 11, 12, 13, 14, 15, 16, 17, 18]⟩, ⟨[], [], [], [0, 1, 2, 3, 4, 5, 6, 7, 8, 9, 10, 11, 12, 13, 14, 15, 16, 17, 18, 20, 21]⟩, ⟨[], [], [], [0, 1, 2, 3, 4, 5, 6, 7, 8, 9, 10, 11, 12, 13, 14, 15, 16, 17, 18, 19, 20, 21, 22]⟩, ⟨[], [], [], [0, 1, 2, 3, 4, 5, 6, 7, 8, 9, 10, 11, 12, 13, 14, 15, 16, 17, 18, 19, 20, 21, 22, 23]⟩, ⟨[], [], [], [0, 1, 2, 3, 4, 5, 6, 7, 8, 9, 10, 11, 12, 13, 14, 15, 16, 17, 18, 19, 20, 21, 22, 23, 24]⟩, ⟨[], [], [], [0, 1, 2, 3, 4, 5, 6, 7, 8, 9, 10, 11, 12, 13, 14, 15, 16, 17, 18, 19, 20, 21, 22, 23, 24, 25]⟩, ⟨[1], [], [], [0, 1, 2, 3, 4, 5, 6, 7, 8, 9, 10, 11, 12, 13, 14, 15, 16, 17, 18, 19, 20, 21, 22, 23, 24, 25]⟩, ⟨[2], [], [], [0, 1, 2, 3, 4, 5, 6, 7, 8, 9, 10, 11, 12, 13, 14, 15, 16, 17, 18, 19, 20, 21, 22, 23, 24, 25]⟩, ⟨[], [], [], [0, 1, 2, 3, 4, 5, 6, 7, 8, 9, 10, 11, 12, 13, 14, 15, 16, 17, 18, 19, 20, 21, 22, 23, 24, 25, 27, 28]⟩, ⟨[], [], [], [0, 1, 2, 3, 4, 5, 6, 7, 8, 9, 10, 11, 12, 13, 14, 15, 16, 17, 18, 19, 20, 21, 22, 23, 24, 25, 26, 27, 28, 29]⟩, ⟨[], [], [], [0, 1, 2, 3, 4, 5, 6, 7, 8, 9, 10, 11, 12, 13, 14, 15, 16, 17, 18, 19, 20, 21, 22, 23, 24, 25, 26, 27, 28, 29, 30]⟩, ⟨[], [], [], [0, 1, 2, 3, 4, 5, 6, 7, 8, 9, 10, 11, 12, 13, 14, 15, 16, 17, 18, 19, 20, 21, 22, 23, 24, 25, 26, 27, 28, 29, 30, 31]⟩] Tryd.mixed rfl (by kernel_rfl) ⟨Ob.v rfl (fun _ _ h => by cases h) (fun _ _ _ => rfl) (fun e L' hL => JV.callM Tryd.call9 evs_nil (fun w hw => sanity_spec w (hw.reads (id := 901) ((hL 901 (by decide)).trans rfl)))),
            Ob.v rfl (fun _ _ h => by cases h) (fun _ _ _ => rfl) (fun e L' hL => JV.move rfl),
            Ob.vg rfl rfl (fun _ => rfl) (fun _ _ h => by cases h) (fun _ _ _ => rfl) (fun e L' hL => JV.move rfl),
            Ob.vg rfl rfl (fun _ => rfl) (fun _ _ h => by cases h) (fun _ _ _ => rfl) (fun e L' hL => JV.move rfl),
            Ob.vg rfl rfl (fun _ => rfl) (fun _ _ h => by cases h) (fun _ _ _ => rfl) (fun e L' hL => JV.idxRo1 50 (k := 32) rfl rfl ((hL 50 (by decide)).trans rfl) Tryd.runUnderlying29 Tryd.sizeOf3 (by decide) (by decide)),
            Ob.vg rfl rfl (fun _ => rfl) (fun _ _ h => by cases h) (fun _ _ _ => rfl) (fun e L' hL => JV.loadR 50 rfl ((hL 50 (by decide)).trans rfl) Tryd.isAgg3 (getDig a (by decide))),
            Ob.vg rfl rfl (fun _ => rfl) (fun _ _ h => by cases h) (fun _ _ _ => rfl) (fun e L' hL => JV.mulN (a := 256) rfl rfl (by have := Pl.dig_le a 32; omega)),
            Ob.vg rfl rfl (fun _ => rfl) (fun _ _ h => by cases h) (fun _ _ _ => rfl) (fun e L' hL => JV.move rfl),
            Ob.vg rfl rfl (fun _ => rfl) (fun _ _ h => by cases h) (fun _ _ _ => rfl) (fun e L' hL => JV.idxRo1 50 (k := 33) rfl rfl ((hL 50 (by decide)).trans rfl) Tryd.runUnderlying29 Tryd.sizeOf3 (by decide) (by decide)),
            Ob.vg rfl rfl (fun _ => rfl) (fun _ _ h => by cases h) (fun _ _ _ => rfl) (fun e L' hL => JV.loadR 50 rfl ((hL 50 (by decide)).trans rfl) Tryd.isAgg3 (getDig a (by decide))),
            Ob.vg rfl rfl (fun _ => rfl) (fun _ _ h => by cases h) (fun _ _ _ => rfl) (fun e L' hL => JV.mulN (a := 16) rfl rfl (by have := Pl.dig_le a 33; omega)),
            Ob.vg rfl rfl (fun _ => rfl) (fun _ _ h => by cases h) (fun _ _ _ => rfl) (fun e L' hL => JV.addN rfl rfl (by have := Pl.dig_le a 32; have := Pl.dig_le a 33; omega)),
            Ob.vg rfl rfl (fun _ => rfl) (fun _ _ h => by cases h) (fun _ _ _ => rfl) (fun e L' hL => JV.move rfl),
            Ob.vg rfl rfl (fun _ => rfl) (fun _ _ h => by cases h) (fun _ _ _ => rfl) (fun e L' hL => JV.idxRo1 50 (k := 34) rfl rfl ((hL 50 (by decide)).trans rfl) Tryd.runUnderlying29 Tryd.sizeOf3 (by decide) (by decide)),
            Ob.vg rfl rfl (fun _ => rfl) (fun _ _ h => by cases h) (fun _ _ _ => rfl) (fun e L' hL => JV.loadR 50 rfl ((hL 50 (by decide)).trans rfl) Tryd.isAgg3 (getDig a (by decide))),
            Ob.vg rfl rfl (fun _ => rfl) (fun _ _ h => by cases h) (fun _ _ _ => rfl) (fun e L' hL => JV.addN rfl rfl (by have := Pl.dig_le a 32; have := Pl.dig_le a 33; have := Pl.dig_le a 34; omega)),
            Ob.vg rfl rfl (fun _ => rfl) (fun _ _ h => by cases h) (fun _ _ _ => rfl) (fun e L' hL => JV.tt (JV.eqlN rfl rfl) (Pl.sm_end a)),
            Ob.v rfl (fun _ _ h => by cases h) (fun _ _ _ => rfl) (fun e L' hL => JV.pickT rfl rfl),
            Ob.v rfl (fun _ _ h => by cases h) (fun _ _ _ => rfl) (fun e L' hL => JV.move rfl),
            Ob.vg rfl rfl (fun _ => rfl) (fun _ _ h => by cases h) (fun _ _ _ => rfl) (fun e L' hL => JV.move rfl),
            Ob.vg rfl rfl (fun _ => rfl) (fun _ _ h => by cases h) (fun _ _ _ => rfl) (fun e L' hL => JV.loadV 1 rfl ((hL 1 (by decide)).trans rfl) Tryd.isAgg23 Tryd.sizeOf23 (by rw [List.length_map, ha])),
            Ob.vg rfl rfl (fun _ => rfl) (fun _ _ h => by cases h) (fun _ _ _ => rfl) (fun e L' hL => JV.loadV 2 rfl ((hL 2 (by decide)).trans rfl) Tryd.isAgg23 Tryd.sizeOf23 (by rw [List.length_map, hb])),
            Ob.vg rfl rfl (fun _ => rfl) (fun _ _ h => by cases h) (fun _ _ _ => rfl) (fun e L' hL => JV.neqBytes (xs := a) (ys := b) rfl rfl Tryd.runUnderlying23 Tryd.underlying5 Tryd.sizeOf5 Tryd.isAgg5 Tryd.eqGuardType23 ha hb),
            Ob.vg rfl rfl (fun _ => rfl) (fun _ _ h => by cases h) (fun _ _ _ => rfl) (fun e L' hL => JV.bt (JV.eqlB rfl rfl Tryd.underlying4) (by rw [Pl.less_ne ha hb]; exact beq_self_eq_true _)),
            Ob.v rfl (fun _ _ h => by cases h) (fun _ _ _ => rfl) (fun e L' hL => JV.pickT rfl rfl),
            Ob.v rfl (fun _ _ h => by cases h) (fun _ _ _ => rfl) (fun e L' hL => JV.move rfl),
            Ob.vg rfl rfl (fun _ => rfl) (fun _ _ h => by cases h) (fun _ _ _ => rfl) (fun e L' hL => JV.move rfl),
            Ob.vg rfl rfl (fun _ => rfl) (fun _ _ h => by cases h) (fun _ _ _ => rfl) (fun e L' hL => JV.loadV 1 rfl ((hL 1 (by decide)).trans rfl) Tryd.isAgg23 Tryd.sizeOf23 (by rw [List.length_map, ha])),
            Ob.vg rfl rfl (fun _ => rfl) (fun _ _ h => by cases h) (fun _ _ _ => rfl) (fun e L' hL => JV.loadV 2 rfl ((hL 2 (by decide)).trans rfl) Tryd.isAgg23 Tryd.sizeOf23 (by rw [List.length_map, hb])),
            Ob.vg rfl rfl (fun _ => rfl) (fun _ _ h => by cases h) (fun _ _ _ => rfl) (fun e L' hL => JV.neqBytes (xs := a) (ys := b) rfl rfl Tryd.runUnderlying23 Tryd.underlying5 Tryd.sizeOf5 Tryd.isAgg5 Tryd.eqGuardType23 ha hb),
            Ob.vg rfl rfl (fun _ => rfl) (fun _ _ h => by cases h) (fun _ _ _ => rfl) (fun e L' hL => JV.bt (JV.eqlB rfl rfl Tryd.underlying4) (by rw [Pl.less_ne hb ha, decide_eq_decide.2 ⟨Ne.symm, Ne.symm⟩]; exact beq_self_eq_true _)),
            Ob.v rfl (fun _ _ h => by cases h) (fun _ _ _ => rfl) (fun e L' hL => JV.pickT rfl rfl),
            Ob.v rfl (fun _ _ h => by cases h) (fun _ _ _ => rfl) (fun e L' hL => JV.assign rfl), trivial⟩ (fun ev17 => ?_)
    simp only [endF, endL, putF, List.nil_append, List.cons_append]
    refine JQ.n_then ?_
    refine JQ.ret ?_
    refine JQ.done1 Tryd.results6 rfl ?_
    exact fun w hw => ⟨rfl, hw.below⟩

set_option maxHeartbeats 4000000 in
theorem law_binds (a : List UInt8) (ha : a.length = 16) (s : List UInt8) (b : List UInt8) (hb : b.length = 16) (t : List UInt8) (w : World) (hG : Gl 1 (Pl.K.map u32) w) (hR : Gl 0 (Pl.K.map u32) w) :
    Calls Tryd.prog 7 #[.agg ((a).map b8).toArray, str s, .agg ((b).map b8).toArray, str t] w fun e w' => e = .returned (.bool true) ∧ Below w.heap.size w w' := by
  
  refine enterA (vs := [_, _, _, _]) Tryd.func7 rfl 80 rfl [(901, .ro (gv 1 64) 1 64 (Pl.K.map u32)), (900, .ro (gv 0 64) 1 64 (Pl.K.map u32))] ((MemOk.start1 900 hR).addRo 901 hG (ro_cons ro_nil)) ?_
  refine JQ.seq ?_
  refine JQ.region ?_
  refine JQ.x (JO.box 1 rfl rfl) rfl ?_
  intro i0_0
  refine JQ.x (JO.box 2 rfl rfl) rfl ?_
  intro i0_1
  refine JQ.v (JV.assign rfl) rfl ?_
  refine JQ.nil ?_
  refine JQ.n_then ?_
  refine JQ.seq ?_
  refine JQ.region ?_
  refine JQ.v (JV.loadV 1 rfl rfl Tryd.isAgg23 Tryd.sizeOf23 (by rw [List.length_map, ha])) rfl ?_
  refine JQ.v (JV.move rfl) rfl ?_
  refine JQ.v (JV.callM Tryd.call10 (evs_cons rfl (evs_cons rfl evs_nil)) (fun w hw => recover_spec a ha s w (hw.reads (id := 901) rfl))) rfl ?_
  refine JQ.v (JV.move rfl) rfl ?_
  refine JQ.v (JV.extract rfl rfl) rfl ?_
  refine JQ.v (JV.extract rfl rfl) rfl ?_
  refine JQ.x (JO.alloc 3 (zs := ((List.replicate 16 0).map b8)) Tryd.zeroValue23 rfl) rfl ?_
  intro i1_6
  refine JQ.s (JO.storeV 3 rfl rfl rfl (us := (Pl.recK a s).map b8) (allB _) Tryd.sizeOf23 (by rw [List.length_map, Pl.recK_len]) rfl) ?_
  refine JQ.v (JV.assign rfl) rfl ?_
  refine JQ.nil ?_
  refine JQ.n_then ?_
  refine JQ.seq ?_
  refine JQ.region ?_
  refine JQ.v (JV.loadV 2 rfl rfl Tryd.isAgg23 Tryd.sizeOf23 (by rw [List.length_map, hb])) rfl ?_
  refine JQ.v (JV.move rfl) rfl ?_
  refine JQ.v (JV.callM Tryd.call10 (evs_cons rfl (evs_cons rfl evs_nil)) (fun w hw => recover_spec b hb t w (hw.reads (id := 901) rfl))) rfl ?_
  refine JQ.v (JV.move rfl) rfl ?_
  refine JQ.v (JV.extract rfl rfl) rfl ?_
  refine JQ.v (JV.extract rfl rfl) rfl ?_
  refine JQ.x (JO.alloc 4 (zs := ((List.replicate 16 0).map b8)) Tryd.zeroValue23 rfl) rfl ?_
  intro i2_6
  refine JQ.s (JO.storeV 4 rfl rfl rfl (us := (Pl.recK b t).map b8) (allB _) Tryd.sizeOf23 (by rw [List.length_map, Pl.recK_len]) rfl) ?_
  refine JQ.v (JV.assign rfl) rfl ?_
  refine JQ.nil ?_
  refine JQ.n_then ?_
  refine JQ.seq ?_
  refine JQ.seq ?_
  refine JQ.region ?_
  refine JQ.v (JV.move rfl) rfl ?_
  by_cases hs3_1 : Pl.recE s ≠ 0
  · refine JQ.v (JV.tt (JV.neqN (b := 0) rfl rfl) hs3_1) rfl ?_
    refine JQ.v (JV.move rfl) rfl ?_
    refine JQ.g0 rfl rfl rfl rfl ?_
    refine JQ.g0 rfl rfl rfl rfl ?_
    refine JQ.v (JV.pickT rfl rfl) rfl ?_
    refine JQ.nil ?_
    refine JQ.n_then ?_
    refine JQ.condT rfl ?_
    refine JQ.seq ?_
    refine JQ.region ?_
    refine JQ.v (JV.callM Tryd.call9 evs_nil (fun w hw => sanity_spec w (hw.reads (id := 901) rfl))) rfl ?_
    refine JQ.v (JV.move rfl) rfl ?_
    refine JQ.vg rfl rfl (JV.move rfl) rfl ?_
    refine JQ.vg rfl rfl (JV.eqlN (b := 0) rfl rfl) rfl ?_
    refine JQ.vg rfl rfl (JV.move rfl) rfl ?_
    refine JQ.vg rfl rfl (JV.lenStr rfl Tryd.runUnderlying9) rfl ?_
    refine JQ.vg rfl rfl (JV.eqlN (b := 560) rfl rfl) rfl ?_
    refine JQ.vg rfl rfl (JV.bt (JV.eqlB rfl rfl Tryd.underlying4) (by rw [decide_eq_decide.2 (Pl.recE_iff s)]; exact beq_self_eq_true _)) rfl ?_
    refine JQ.v (JV.pickT rfl rfl) rfl ?_
    refine JQ.v (JV.move rfl) rfl ?_
    refine JQ.vg rfl rfl (JV.move rfl) rfl ?_
    refine JQ.vg rfl rfl (JV.eqlN (b := 0) rfl rfl) rfl ?_
    refine JQ.vg rfl rfl (JV.move rfl) rfl ?_
    refine JQ.vg rfl rfl (JV.lenStr rfl Tryd.runUnderlying9) rfl ?_
    refine JQ.vg rfl rfl (JV.eqlN (b := 560) rfl rfl) rfl ?_
    refine JQ.vg rfl rfl (JV.bt (JV.eqlB rfl rfl Tryd.underlying4) (by rw [decide_eq_decide.2 (Pl.recE_iff t)]; exact beq_self_eq_true _)) rfl ?_
    refine JQ.v (JV.pickT rfl rfl) rfl ?_
    refine JQ.v (JV.assign rfl) rfl ?_
    refine JQ.nil ?_
    refine JQ.n_then ?_
    refine JQ.ret ?_
    refine JQ.r_then ?_
    refine JQ.done1 Tryd.results7 rfl ?_
    exact fun w hw => ⟨rfl, hw.below⟩
  · refine JQ.v (JV.ff (JV.neqN (b := 0) rfl rfl) hs3_1) rfl ?_
    refine JQ.v (JV.move rfl) rfl ?_
    refine JQ.vg rfl rfl (JV.move rfl) rfl ?_
    by_cases hs3_4 : Pl.recE t ≠ 0
    · refine JQ.vg rfl rfl (JV.tt (JV.neqN (b := 0) rfl rfl) hs3_4) rfl ?_
      refine JQ.v (JV.pickF rfl rfl) rfl ?_
      refine JQ.nil ?_
      refine JQ.n_then ?_
      refine JQ.condT rfl ?_
      refine JQ.seq ?_
      refine JQ.region ?_
      refine JQ.v (JV.callM Tryd.call9 evs_nil (fun w hw => sanity_spec w (hw.reads (id := 901) rfl))) rfl ?_
      refine JQ.v (JV.move rfl) rfl ?_
      refine JQ.vg rfl rfl (JV.move rfl) rfl ?_
      refine JQ.vg rfl rfl (JV.eqlN (b := 0) rfl rfl) rfl ?_
      refine JQ.vg rfl rfl (JV.move rfl) rfl ?_
      refine JQ.vg rfl rfl (JV.lenStr rfl Tryd.runUnderlying9) rfl ?_
      refine JQ.vg rfl rfl (JV.eqlN (b := 560) rfl rfl) rfl ?_
      refine JQ.vg rfl rfl (JV.bt (JV.eqlB rfl rfl Tryd.underlying4) (by rw [decide_eq_decide.2 (Pl.recE_iff s)]; exact beq_self_eq_true _)) rfl ?_
      refine JQ.v (JV.pickT rfl rfl) rfl ?_
      refine JQ.v (JV.move rfl) rfl ?_
      refine JQ.vg rfl rfl (JV.move rfl) rfl ?_
      refine JQ.vg rfl rfl (JV.eqlN (b := 0) rfl rfl) rfl ?_
      refine JQ.vg rfl rfl (JV.move rfl) rfl ?_
      refine JQ.vg rfl rfl (JV.lenStr rfl Tryd.runUnderlying9) rfl ?_
      refine JQ.vg rfl rfl (JV.eqlN (b := 560) rfl rfl) rfl ?_
      refine JQ.vg rfl rfl (JV.bt (JV.eqlB rfl rfl Tryd.underlying4) (by rw [decide_eq_decide.2 (Pl.recE_iff t)]; exact beq_self_eq_true _)) rfl ?_
      refine JQ.v (JV.pickT rfl rfl) rfl ?_
      refine JQ.v (JV.assign rfl) rfl ?_
      refine JQ.nil ?_
      refine JQ.n_then ?_
      refine JQ.ret ?_
      refine JQ.r_then ?_
      refine JQ.done1 Tryd.results7 rfl ?_
      exact fun w hw => ⟨rfl, hw.below⟩
    · refine JQ.vg rfl rfl (JV.ff (JV.neqN (b := 0) rfl rfl) hs3_4) rfl ?_
      refine JQ.v (JV.pickF rfl rfl) rfl ?_
      refine JQ.nil ?_
      refine JQ.n_then ?_
      refine JQ.condF rfl ?_
      refine JQ.skip ?_
      refine JQ.n_then ?_
      refine JQ.seq ?_
      have hs560 := (Pl.recE_iff s).1 (Decidable.not_not.1 hs3_1)
      have ht560 := (Pl.recE_iff t).1 (Decidable.not_not.1 hs3_4)
      refine JQ.region ?_
      refine JQ.v (JV.loadV 1 rfl rfl Tryd.isAgg23 Tryd.sizeOf23 (by rw [List.length_map, ha])) rfl ?_
      refine JQ.v (JV.move rfl) rfl ?_
      refine JQ.v (JV.callM Tryd.call23 (evs_cons rfl (evs_cons rfl evs_nil)) (fun w hw => rends_spec a ha s hs560 w (hw.reads (id := 900) rfl))) rfl ?_
      refine JQ.v (JV.assign rfl) rfl ?_
      refine JQ.nil ?_
      refine JQ.n_then ?_
      refine JQ.seq ?_
      refine JQ.region ?_
      refine JQ.v (JV.loadV 2 rfl rfl Tryd.isAgg23 Tryd.sizeOf23 (by rw [List.length_map, hb])) rfl ?_
      refine JQ.v (JV.move rfl) rfl ?_
      refine JQ.v (JV.callM Tryd.call23 (evs_cons rfl (evs_cons rfl evs_nil)) (fun w hw => rends_spec b hb t ht560 w (hw.reads (id := 900) rfl))) rfl ?_
      refine JQ.v (JV.assign rfl) rfl ?_
      refine JQ.nil ?_
      refine JQ.n_then ?_
      refine JQ.seq ?_
      refine JQ.seq ?_
      refine JQ.region ?_
      refine JQ.v (JV.loadV 3 rfl rfl Tryd.isAgg23 Tryd.sizeOf23 (by rw [List.length_map, Pl.recK_len])) rfl ?_
      refine JQ.v (JV.loadV 4 rfl rfl Tryd.isAgg23 Tryd.sizeOf23 (by rw [List.length_map, Pl.recK_len])) rfl ?_
      by_cases hs7_2 : Pl.recK a s ≠ Pl.recK b t
      · refine JQ.v (JV.tt (JV.neqBytes (xs := Pl.recK a s) (ys := Pl.recK b t) rfl rfl Tryd.runUnderlying23 Tryd.underlying5 Tryd.sizeOf5 Tryd.isAgg5 Tryd.eqGuardType23 (Pl.recK_len _ _) (Pl.recK_len _ _)) hs7_2) rfl ?_
        refine JQ.nil ?_
        refine JQ.n_then ?_
        refine JQ.condT rfl ?_
        refine JQ.seq ?_
        refine JQ.region ?_
        refine JQ.v (JV.callM Tryd.call9 evs_nil (fun w hw => sanity_spec w (hw.reads (id := 901) rfl))) rfl ?_
        refine JQ.v (JV.move rfl) rfl ?_
        refine JQ.vg rfl rfl (JV.move rfl) rfl ?_
        refine JQ.vg rfl rfl (JV.move rfl) rfl ?_
        refine JQ.vg rfl rfl (JV.tt (JV.neqS (l := (Pl.ends a s)) (l' := (Pl.ends b t)) rfl rfl) (fun h => hs7_2 (by rw [Pl.recK_of hs560, Pl.recK_of ht560, h]))) rfl ?_
        refine JQ.v (JV.pickT rfl rfl) rfl ?_
        refine JQ.v (JV.assign rfl) rfl ?_
        refine JQ.nil ?_
        refine JQ.n_then ?_
        refine JQ.ret ?_
        refine JQ.r_then ?_
        refine JQ.done1 Tryd.results7 rfl ?_
        exact fun w hw => ⟨rfl, hw.below⟩
      · refine JQ.v (JV.ff (JV.neqBytes (xs := Pl.recK a s) (ys := Pl.recK b t) rfl rfl Tryd.runUnderlying23 Tryd.underlying5 Tryd.sizeOf5 Tryd.isAgg5 Tryd.eqGuardType23 (Pl.recK_len _ _) (Pl.recK_len _ _)) hs7_2) rfl ?_
        refine JQ.nil ?_
        refine JQ.n_then ?_
        refine JQ.condF rfl ?_
        refine JQ.skip ?_
        refine JQ.n_then ?_
        refine JQ.seq ?_
        refine JQ.region ?_
        refine JQ.v (JV.callM Tryd.call9 evs_nil (fun w hw => sanity_spec w (hw.reads (id := 901) rfl))) rfl ?_
        refine JQ.v (JV.move rfl) rfl ?_
        refine JQ.vg rfl rfl (JV.move rfl) rfl ?_
        refine JQ.vg rfl rfl (JV.move rfl) rfl ?_
        by_cases hs9_4 : (Pl.ends a s) = (Pl.ends b t)
        · refine JQ.vg rfl rfl (JV.tt (JV.eqlS (l := (Pl.ends a s)) (l' := (Pl.ends b t)) rfl rfl) hs9_4) rfl ?_
          refine JQ.vg rfl rfl (JV.move rfl) rfl ?_
          refine JQ.g0 rfl rfl rfl rfl ?_
          refine JQ.g0 rfl rfl rfl rfl ?_
          refine JQ.g0 rfl rfl rfl rfl ?_
          refine JQ.g0 rfl rfl rfl rfl ?_
          refine JQ.g0 rfl rfl rfl rfl ?_
          refine JQ.g0 rfl rfl rfl rfl ?_
          refine JQ.g0 rfl rfl rfl rfl ?_
          refine JQ.vg rfl rfl (JV.pickT rfl rfl) rfl ?_
          refine JQ.v (JV.pickT rfl rfl) rfl ?_
          refine JQ.v (JV.assign rfl) rfl ?_
          refine JQ.nil ?_
          refine JQ.n_then ?_
          refine JQ.ret ?_
          refine JQ.done1 Tryd.results7 rfl ?_
          exact fun w hw => ⟨rfl, hw.below⟩
        · refine JQ.vg rfl rfl (JV.ff (JV.eqlS (l := (Pl.ends a s)) (l' := (Pl.ends b t)) rfl rfl) hs9_4) rfl ?_
          refine JQ.vg rfl rfl (JV.move rfl) rfl ?_
          refine JQ.vg rfl rfl (JV.move rfl) rfl ?_
          refine JQ.xg rfl rfl (JO.buildSlice 5 (us := [str (Pl.ends a s)]) (e := 9) (evp_cons rfl evp_nil) (fun w => by kernel_rfl)) rfl ?_
          intro i9_7
          refine JQ.vg rfl rfl (JV.callM Tryd.call24 (evs_cons rfl (evs_cons rfl evs_nil)) (fun w hw => rof_spec 5 5 (by decide) _ [(Pl.ends a s)] (Pl.few1 (by rw [Pl.ends_len hs560]; decide)) w (hw.reads (id := 900) rfl) (reads_cells (hw.blk (id := 5) rfl) rfl rfl (by decide)))) rfl ?_
          refine JQ.vg rfl rfl (JV.move rfl) rfl ?_
          refine JQ.xg rfl rfl (JO.buildSlice 6 (us := [str (Pl.ends b t)]) (e := 9) (evp_cons rfl evp_nil) (fun w => by kernel_rfl)) rfl ?_
          intro i9_10
          refine JQ.vg rfl rfl (JV.callM Tryd.call24 (evs_cons rfl (evs_cons rfl evs_nil)) (fun w hw => rof_spec 5 5 (by decide) _ [(Pl.ends b t)] (Pl.few1 (by rw [Pl.ends_len ht560]; decide)) w (hw.reads (id := 900) rfl) (reads_cells (hw.blk (id := 6) rfl) rfl rfl (by decide)))) rfl ?_
          refine JQ.vg rfl rfl (JV.tt (JV.eqlBytes (xs := Pl.ofH 5 [(Pl.ends a s)]) (ys := Pl.ofH 5 [(Pl.ends b t)]) rfl rfl Tryd.runUnderlying23 Tryd.underlying5 Tryd.sizeOf5 Tryd.isAgg5 Tryd.eqGuardType23 (Pl.ofH_len _ _) (Pl.ofH_len _ _)) (by have h := Decidable.not_not.1 hs7_2; rwa [Pl.recK_of hs560, Pl.recK_of ht560] at h)) rfl ?_
          refine JQ.vg rfl rfl (JV.pickF rfl rfl) rfl ?_
          refine JQ.v (JV.pickT rfl rfl) rfl ?_
          refine JQ.v (JV.assign rfl) rfl ?_
          refine JQ.nil ?_
          refine JQ.n_then ?_
          refine JQ.ret ?_
          refine JQ.done1 Tryd.results7 rfl ?_
          exact fun w hw => ⟨rfl, hw.below⟩

set_option maxHeartbeats 4000000 in
theorem law_reveals (s : List UInt8) (a : List UInt8) (ha : a.length = 16) (b : List UInt8) (hb : b.length = 16) (w : World) (hG : Gl 1 (Pl.K.map u32) w) :
    Calls Tryd.prog 8 #[str s, .agg ((a).map b8).toArray, .agg ((b).map b8).toArray] w fun e w' => e = .returned (.bool true) ∧ Below w.heap.size w w' := by
  
  refine enterA (vs := [_, _, _]) Tryd.func8 rfl 102 rfl [(901, .ro (gv 1 64) 1 64 (Pl.K.map u32))] (MemOk.start1 901 hG) ?_
  refine JQ.seq ?_
  refine JQ.region ?_
  refine JQ.x (JO.box 1 rfl rfl) rfl ?_
  intro i0_0
  refine JQ.x (JO.box 2 rfl rfl) rfl ?_
  intro i0_1
  refine JQ.v (JV.assign rfl) rfl ?_
  refine JQ.nil ?_
  refine JQ.n_then ?_
  refine JQ.seq ?_
  refine JQ.seq ?_
  refine JQ.region ?_
  refine JQ.v (JV.move rfl) rfl ?_
  refine JQ.v (JV.lenStr rfl Tryd.runUnderlying9) rfl ?_
  by_cases hs1_2 : 200 < s.length
  · refine JQ.v (JV.tt (JV.gtrN (b := 200) rfl rfl) hs1_2) rfl ?_
    refine JQ.nil ?_
    refine JQ.n_then ?_
    refine JQ.condT rfl ?_
    refine JQ.seq ?_
    refine JQ.region ?_
    refine JQ.v (JV.callM Tryd.call9 evs_nil (fun w hw => sanity_spec w (hw.reads (id := 901) rfl))) rfl ?_
    refine JQ.v (JV.assign rfl) rfl ?_
    refine JQ.nil ?_
    refine JQ.n_then ?_
    refine JQ.ret ?_
    refine JQ.r_then ?_
    refine JQ.done1 Tryd.results8 rfl ?_
    exact fun w hw => ⟨rfl, hw.below⟩
  · refine JQ.v (JV.ff (JV.gtrN (b := 200) rfl rfl) hs1_2) rfl ?_
    refine JQ.nil ?_
    refine JQ.n_then ?_
    refine JQ.condF rfl ?_
    refine JQ.skip ?_
    refine JQ.n_then ?_
    refine JQ.seq ?_
    refine JQ.region ?_
    refine JQ.v (JV.move rfl) rfl ?_
    refine JQ.v (JV.loadV 1 rfl rfl Tryd.isAgg23 Tryd.sizeOf23 (by rw [List.length_map, ha])) rfl ?_
    refine JQ.v (JV.callM Tryd.call17 (evs_cons rfl (evs_cons rfl evs_nil)) (fun w hw => sign_spec s (by omega) a ha w (hw.reads (id := 901) rfl))) rfl ?_
    refine JQ.v (JV.assign rfl) rfl ?_
    refine JQ.nil ?_
    refine JQ.n_then ?_
    refine JQ.seq ?_
    refine JQ.region ?_
    refine JQ.v (JV.move rfl) rfl ?_
    refine JQ.v (JV.loadV 2 rfl rfl Tryd.isAgg23 Tryd.sizeOf23 (by rw [List.length_map, hb])) rfl ?_
    refine JQ.v (JV.callM Tryd.call17 (evs_cons rfl (evs_cons rfl evs_nil)) (fun w hw => sign_spec s (by omega) b hb w (hw.reads (id := 901) rfl))) rfl ?_
    refine JQ.v (JV.assign rfl) rfl ?_
    refine JQ.nil ?_
    refine JQ.n_then ?_
    refine JQ.seq ?_
    refine JQ.region ?_
    refine JQ.v (JV.loadV 1 rfl rfl Tryd.isAgg23 Tryd.sizeOf23 (by rw [List.length_map, ha])) rfl ?_
    refine JQ.x (JO.callRo 50 Tryd.call13 (evs_cons rfl evs_nil) (fun w hw => digits_spec a ha w)) rfl ?_
    intro i5_1
    refine JQ.v (JV.assign rfl) rfl ?_
    refine JQ.nil ?_
    refine JQ.n_then ?_
    refine JQ.seq ?_
    refine JQ.region ?_
    refine JQ.v (JV.loadV 2 rfl rfl Tryd.isAgg23 Tryd.sizeOf23 (by rw [List.length_map, hb])) rfl ?_
    refine JQ.x (JO.callRo 51 Tryd.call13 (evs_cons rfl evs_nil) (fun w hw => digits_spec b hb w)) rfl ?_
    intro i6_1
    refine JQ.v (JV.assign rfl) rfl ?_
    refine JQ.nil ?_
    refine JQ.n_then ?_
    refine JQ.seq ?_
    refine JQ.seq ?_
    refine JQ.region ?_
    refine JQ.v (JV.move rfl) rfl ?_
    refine JQ.v (JV.lenStr (l := (Pl.sign s a)) rfl Tryd.runUnderlying9) rfl ?_
    refine JQ.v (JV.ff (JV.neqN (b := 560) rfl rfl) (fun h => h (Pl.sign_len _ _))) rfl ?_
    refine JQ.v (JV.move rfl) rfl ?_
    refine JQ.vg rfl rfl (JV.move rfl) rfl ?_
    refine JQ.vg rfl rfl (JV.lenStr (l := (Pl.sign s b)) rfl Tryd.runUnderlying9) rfl ?_
    refine JQ.vg rfl rfl (JV.ff (JV.neqN (b := 560) rfl rfl) (fun h => h (Pl.sign_len _ _))) rfl ?_
    refine JQ.v (JV.pickF rfl rfl) rfl ?_
    refine JQ.v (JV.move rfl) rfl ?_
    refine JQ.vg rfl rfl (JV.move rfl) rfl ?_
    refine JQ.vg rfl rfl (JV.lenRo 50 rfl rfl Tryd.runUnderlying29) rfl ?_
    refine JQ.vg rfl rfl (JV.ff (JV.neqN (b := 35) rfl rfl) (fun h => h rfl)) rfl ?_
    refine JQ.v (JV.pickF rfl rfl) rfl ?_
    refine JQ.v (JV.move rfl) rfl ?_
    refine JQ.vg rfl rfl (JV.move rfl) rfl ?_
    refine JQ.vg rfl rfl (JV.lenRo 51 rfl rfl Tryd.runUnderlying29) rfl ?_
    refine JQ.vg rfl rfl (JV.ff (JV.neqN (b := 35) rfl rfl) (fun h => h rfl)) rfl ?_
    refine JQ.v (JV.pickF rfl rfl) rfl ?_
    refine JQ.nil ?_
    refine JQ.n_then ?_
    refine JQ.condF rfl ?_
    refine JQ.skip ?_
    refine JQ.n_then ?_
    refine JQ.seq ?_
    refine JQ.region ?_
    refine JQ.v (JV.assign rfl) rfl ?_
    refine JQ.nil ?_
    refine JQ.n_then ?_
    refine JQ.seq ?_
    refine JQ.seq ?_
    refine JQ.region ?_
    refine JQ.v (JV.assign rfl) rfl ?_
    refine JQ.nil ?_
    refine JQ.n_then ?_
    refine JQ.block ?_
    refine JQ.loopI (ι := Nat) (fun i => [(4, .pointer (some ⟨i0_0, 0, none⟩)), (5, .pointer (some ⟨i0_1, 0, none⟩)), (7, str (Pl.sign s a)), (8, str (Pl.sign s b)), (9, i5_1), (10, i6_1), (11, .bool (Pl.lessN b a i)), (12, .int .i64 ((i : Nat) : Int))]) (fun i => [(1, .cells i0_0 (a.map b8) 23 (0, 0)), (2, .cells i0_1 (b.map b8) 23 (0, 0)), (901, .ro (gv 1 64) 1 64 (Pl.K.map u32)), (50, .ro i5_1 1 35 ((Pl.digits a).map i64)), (51, .ro i6_1 1 35 ((Pl.digits b).map i64))]) (fun i => i ≤ 35) (fun i => 35 - i) 0 (by omega) (subk_cons rfl (subk_cons rfl (subk_cons rfl (subk_cons rfl (subk_cons rfl (subk_cons rfl (subk_cons (by rw [lessN0]; rfl) (subk_cons rfl subk_nil)))))))) (subr_cons rfl (subr_cons rfl (subr_cons rfl (subr_cons rfl (subr_cons rfl subr_nil))))) ?_
    intro i hi
    refine JQ.seq ?_
    refine JQ.seq ?_
    refine JQ.region ?_
    refine JQ.v (JV.move rfl) rfl ?_
    refine JQ.v (JV.lssN (b := 35) rfl rfl) rfl ?_
    refine JQ.nil ?_
    refine JQ.n_then ?_
    refine JQ.condP rfl (fun h49 => ?_) (fun h49 => ?_)
    · refine JQ.skip ?_
      refine JQ.n_then ?_
      refine JQ.seq ?_
      refine JQ.block ?_
      refine JQ.seq ?_
      refine JQ.seq ?_
      refine JQ.any [_, _, _, _, _, _, _, _, _] [fun _ => [], fun _ => [], fun _ => [], fun _ => [], fun _ => [], fun _ => [], fun _ => [], fun _ => [], fun _ => []] [⟨[], [], [], []⟩, ⟨[], [], [], []⟩, ⟨[51], [], [], [0, 1]⟩, ⟨[51], [], [], [0, 1, 2]⟩, ⟨[], [], [], []⟩, ⟨[], [], [], []⟩, ⟨[50], [], [], [4, 5]⟩, ⟨[50], [], [], [4, 5, 6]⟩, ⟨[], [], [], [0, 1, 2, 3, 4, 5, 6, 7]⟩] Tryd.mixed rfl (by kernel_rfl) ⟨Ob.v rfl (fun _ _ h => by cases h) (fun _ _ _ => rfl) (fun e L' hL => JV.move rfl),
                Ob.v rfl (fun _ _ h => by cases h) (fun _ _ _ => rfl) (fun e L' hL => JV.move rfl),
                Ob.v rfl (fun _ _ h => by cases h) (fun _ _ _ => rfl) (fun e L' hL => JV.idxRo1 51 rfl rfl ((hL 51 (by decide)).trans rfl) Tryd.runUnderlying29 Tryd.sizeOf3 (by decide) (by omega)),
                Ob.v rfl (fun _ _ h => by cases h) (fun _ _ _ => rfl) (fun e L' hL => JV.loadR 51 rfl ((hL 51 (by decide)).trans rfl) Tryd.isAgg3 (getDig b (by omega))),
                Ob.v rfl (fun _ _ h => by cases h) (fun _ _ _ => rfl) (fun e L' hL => JV.move rfl),
                Ob.v rfl (fun _ _ h => by cases h) (fun _ _ _ => rfl) (fun e L' hL => JV.move rfl),
                Ob.v rfl (fun _ _ h => by cases h) (fun _ _ _ => rfl) (fun e L' hL => JV.idxRo1 50 rfl rfl ((hL 50 (by decide)).trans rfl) Tryd.runUnderlying29 Tryd.sizeOf3 (by decide) (by omega)),
                Ob.v rfl (fun _ _ h => by cases h) (fun _ _ _ => rfl) (fun e L' hL => JV.loadR 50 rfl ((hL 50 (by decide)).trans rfl) Tryd.isAgg3 (getDig a (by omega))),
                Ob.v rfl (fun _ _ h => by cases h) (fun _ _ _ => rfl) (fun e L' hL => JV.lssN rfl rfl), trivial⟩ (fun ev13 => ?_)
      simp only [endF, endL, putF, List.nil_append, List.cons_append]
      refine JQ.n_then ?_
      refine JQ.condP rfl (fun h60 => ?_) (fun h60 => ?_)
      · refine JQ.seq ?_
        refine JQ.region ?_
        refine JQ.v (JV.assign rfl) rfl ?_
        refine JQ.nil ?_
        refine JQ.n_then ?_
        refine JQ.exit ?_
        refine JQ.e_then ?_
        refine JQ.e_here ?_
        refine JQ.n_then ?_
        refine JQ.region ?_
        refine JQ.v (JV.move rfl) rfl ?_
        refine JQ.v (JV.addN (b := 1) rfl rfl (by omega)) rfl ?_
        refine JQ.v (JV.assign rfl) rfl ?_
        refine JQ.nil ?_
        refine JQ.n_then ?_
        exact JQ.nextI (i + 1) (by omega) (by omega) (subk_cons rfl (subk_cons rfl (subk_cons rfl (subk_cons rfl (subk_cons rfl (subk_cons rfl (subk_cons (by rw [Pl.lessN]; first | (rw [decide_eq_true h60, Bool.or_true]; rfl) | (rw [decide_eq_false h60, Bool.or_false]; rfl)) (subk_cons rfl subk_nil)))))))) (subr_cons rfl (subr_cons rfl (subr_cons rfl (subr_cons rfl (subr_cons rfl subr_nil)))))
      · refine JQ.skip ?_
        refine JQ.n_then ?_
        refine JQ.seq ?_
        refine JQ.region ?_
        refine JQ.x (JO.alloc 3 (zs := ((List.replicate 16 0).map b8)) Tryd.zeroValue23 rfl) rfl ?_
        intro i15_0
        refine JQ.x (JO.alloc 4 (zs := ((List.replicate 16 0).map b8)) Tryd.zeroValue23 rfl) rfl ?_
        intro i15_1
        refine JQ.nil ?_
        refine JQ.n_then ?_
        refine JQ.seq ?_
        refine JQ.seq ?_
        refine JQ.region ?_
        refine JQ.v (JV.assign rfl) rfl ?_
        refine JQ.nil ?_
        refine JQ.n_then ?_
        refine JQ.block ?_
        refine JQ.loopI (ι := Nat) (fun j => [(4, .pointer (some ⟨i0_0, 0, none⟩)), (5, .pointer (some ⟨i0_1, 0, none⟩)), (7, str (Pl.sign s a)), (8, str (Pl.sign s b)), (9, i5_1), (10, i6_1), (11, .bool (Pl.lessN b a i)), (12, .int .i64 ((i : Nat) : Int)), (13, .pointer (some ⟨i15_0, 0, none⟩)), (14, .pointer (some ⟨i15_1, 0, none⟩)), (15, .int .i64 ((j : Nat) : Int))]) (fun j => [(1, .cells i0_0 (a.map b8) 23 (0, 0)), (2, .cells i0_1 (b.map b8) 23 (0, 0)), (901, .ro (gv 1 64) 1 64 (Pl.K.map u32)), (50, .ro i5_1 1 35 ((Pl.digits a).map i64)), (51, .ro i6_1 1 35 ((Pl.digits b).map i64)), (3, .cells i15_0 (((Pl.chunk (Pl.sign s a) i).take j ++ List.replicate (16 - j) 0).map b8) 23 (0, 0)), (4, .cells i15_1 (((Pl.chunk (Pl.sign s b) i).take j ++ List.replicate (16 - j) 0).map b8) 23 (0, 0))]) (fun j => j ≤ 16) (fun j => 16 - j) 0 (by omega) (subk_cons rfl (subk_cons rfl (subk_cons rfl (subk_cons rfl (subk_cons rfl (subk_cons rfl (subk_cons rfl (subk_cons rfl (subk_cons rfl (subk_cons rfl (subk_cons rfl subk_nil))))))))))) (subr_cons rfl (subr_cons rfl (subr_cons rfl (subr_cons rfl (subr_cons rfl (subr_cons rfl (subr_cons rfl subr_nil))))))) ?_
        intro j hj
        refine JQ.seq ?_
        refine JQ.seq ?_
        refine JQ.region ?_
        refine JQ.v (JV.move rfl) rfl ?_
        refine JQ.v (JV.lssN (b := 16) rfl rfl) rfl ?_
        refine JQ.nil ?_
        refine JQ.n_then ?_
        refine JQ.condP rfl (fun h62 => ?_) (fun h62 => ?_)
        · refine JQ.skip ?_
          refine JQ.n_then ?_
          refine JQ.seq ?_
          refine JQ.block ?_
          refine JQ.seq ?_
          refine JQ.region ?_
          refine JQ.v (JV.move rfl) rfl ?_
          refine JQ.v (JV.move rfl) rfl ?_
          refine JQ.v (JV.move rfl) rfl ?_
          refine JQ.v (JV.mulN (a := 16) rfl rfl (by omega)) rfl ?_
          refine JQ.v (JV.move rfl) rfl ?_
          refine JQ.v (JV.addN rfl rfl (by omega)) rfl ?_
          refine JQ.v (JV.idxStrD (l := (Pl.sign s a)) rfl rfl Tryd.runUnderlying9 (by rw [Pl.sign_len]; omega)) rfl ?_
          refine JQ.v (JV.idxArr0 rfl rfl Tryd.runUnderlying23 Tryd.sizeOf5 (by omega)) rfl ?_
          refine JQ.s (JO.store1 3 rfl rfl rfl rfl Tryd.sizeOf5 (by rw [List.length_map, List.length_append, List.length_take, List.length_replicate, (Pl.chunk_len (Pl.sign_len s a) (show i < 35 by omega))]; omega)) ?_
          rw [chunk_set s a i j (by omega) (by omega)]
          refine JQ.nil ?_
          refine JQ.n_then ?_
          refine JQ.region ?_
          refine JQ.v (JV.move rfl) rfl ?_
          refine JQ.v (JV.move rfl) rfl ?_
          refine JQ.v (JV.move rfl) rfl ?_
          refine JQ.v (JV.mulN (a := 16) rfl rfl (by omega)) rfl ?_
          refine JQ.v (JV.move rfl) rfl ?_
          refine JQ.v (JV.addN rfl rfl (by omega)) rfl ?_
          refine JQ.v (JV.idxStrD (l := (Pl.sign s b)) rfl rfl Tryd.runUnderlying9 (by rw [Pl.sign_len]; omega)) rfl ?_
          refine JQ.v (JV.idxArr0 rfl rfl Tryd.runUnderlying23 Tryd.sizeOf5 (by omega)) rfl ?_
          refine JQ.s (JO.store1 4 rfl rfl rfl rfl Tryd.sizeOf5 (by rw [List.length_map, List.length_append, List.length_take, List.length_replicate, (Pl.chunk_len (Pl.sign_len s b) (show i < 35 by omega))]; omega)) ?_
          rw [chunk_set s b i j (by omega) (by omega)]
          refine JQ.nil ?_
          refine JQ.n_block ?_
          refine JQ.n_then ?_
          refine JQ.region ?_
          refine JQ.v (JV.move rfl) rfl ?_
          refine JQ.v (JV.addN (b := 1) rfl rfl (by omega)) rfl ?_
          refine JQ.v (JV.assign rfl) rfl ?_
          refine JQ.nil ?_
          refine JQ.n_then ?_
          exact JQ.nextI (j + 1) (by omega) (by omega) (subk_cons rfl (subk_cons rfl (subk_cons rfl (subk_cons rfl (subk_cons rfl (subk_cons rfl (subk_cons rfl (subk_cons rfl (subk_cons rfl (subk_cons rfl (subk_cons rfl subk_nil))))))))))) (subr_cons rfl (subr_cons rfl (subr_cons rfl (subr_cons rfl (subr_cons rfl (subr_cons rfl (subr_cons rfl subr_nil)))))))
        · refine JQ.exit ?_
          refine JQ.e_then ?_
          refine JQ.e_then ?_
          refine JQ.e_here ?_
          refine JQ.n_then ?_
          refine JQ.seq ?_
          rw [chunk_all s a i j (by omega) (by omega), chunk_all s b i j (by omega) (by omega)]
          refine JQ.any [_, _, _, _, _, _, _, _, _, _, _, _, _] [fun _ => [], fun _ => [], fun _ => [], fun _ => [], fun _ => [], fun _ => [], fun _ => [], fun _ => [], fun _ => [], fun _ => [], fun _ => [], fun _ => [], fun _ => []] [⟨[], [], [], []⟩, ⟨[], [], [], []⟩, ⟨[], [], [], []⟩, ⟨[50], [], [], [1, 2]⟩, ⟨[50], [], [], [1, 2, 3]⟩, ⟨[], [], [], []⟩, ⟨[], [], [], []⟩, ⟨[51], [], [], [5, 6]⟩, ⟨[51], [], [], [5, 6, 7]⟩, ⟨[3], [], [], []⟩, ⟨[901], [], [], [0, 1, 2, 3, 4, 5, 6, 7, 8, 9]⟩, ⟨[4], [], [], []⟩, ⟨[], [], [], [0, 1, 2, 3, 4, 5, 6, 7, 8, 9, 10, 11]⟩] Tryd.mixed rfl (by kernel_rfl) ⟨Ob.v rfl (fun _ _ h => by cases h) (fun _ _ _ => rfl) (fun e L' hL => JV.move rfl),
                        Ob.v rfl (fun _ _ h => by cases h) (fun _ _ _ => rfl) (fun e L' hL => JV.move rfl),
                        Ob.v rfl (fun _ _ h => by cases h) (fun _ _ _ => rfl) (fun e L' hL => JV.move rfl),
                        Ob.v rfl (fun _ _ h => by cases h) (fun _ _ _ => rfl) (fun e L' hL => JV.idxRo1 50 rfl rfl ((hL 50 (by decide)).trans rfl) Tryd.runUnderlying29 Tryd.sizeOf3 (by decide) (by omega)),
                        Ob.v rfl (fun _ _ h => by cases h) (fun _ _ _ => rfl) (fun e L' hL => JV.loadR 50 rfl ((hL 50 (by decide)).trans rfl) Tryd.isAgg3 (getDig a (by omega))),
                        Ob.v rfl (fun _ _ h => by cases h) (fun _ _ _ => rfl) (fun e L' hL => JV.move rfl),
                        Ob.v rfl (fun _ _ h => by cases h) (fun _ _ _ => rfl) (fun e L' hL => JV.move rfl),
                        Ob.v rfl (fun _ _ h => by cases h) (fun _ _ _ => rfl) (fun e L' hL => JV.idxRo1 51 rfl rfl ((hL 51 (by decide)).trans rfl) Tryd.runUnderlying29 Tryd.sizeOf3 (by decide) (by omega)),
                        Ob.v rfl (fun _ _ h => by cases h) (fun _ _ _ => rfl) (fun e L' hL => JV.loadR 51 rfl ((hL 51 (by decide)).trans rfl) Tryd.isAgg3 (getDig b (by omega))),
                        Ob.v rfl (fun _ _ h => by cases h) (fun _ _ _ => rfl) (fun e L' hL => JV.loadV 3 rfl ((hL 3 (by decide)).trans rfl) Tryd.isAgg23 Tryd.sizeOf23 (by rw [List.length_map, (Pl.chunk_len (Pl.sign_len s a) (show i < 35 by omega))])),
                        Ob.v rfl (fun _ _ h => by cases h) (fun _ _ _ => rfl) (fun e L' hL => JV.callM Tryd.call21 (evs_cons rfl (evs_cons rfl (evs_cons rfl (evs_cons rfl evs_nil)))) (fun w hw => adv_spec i ((Pl.dig a i : Nat) : Int) ((Pl.dig b i : Nat) : Int) (Pl.chunk (Pl.sign s a) i) (Pl.chunk_len (Pl.sign_len s a) (show i < 35 by omega)) w (hw.reads (id := 901) ((hL 901 (by decide)).trans rfl)))),
                        Ob.v rfl (fun _ _ h => by cases h) (fun _ _ _ => rfl) (fun e L' hL => JV.loadV 4 rfl ((hL 4 (by decide)).trans rfl) Tryd.isAgg23 Tryd.sizeOf23 (by rw [List.length_map, (Pl.chunk_len (Pl.sign_len s b) (show i < 35 by omega))])),
                        Ob.v rfl (fun _ _ h => by cases h) (fun _ _ _ => rfl) (fun e L' hL => JV.ff (JV.neqBytes (xs := (Pl.adv (i : Int) ((Pl.dig a i : Nat) : Int) ((Pl.dig b i : Nat) : Int) (Pl.chunk (Pl.sign s a) i))) (ys := Pl.chunk (Pl.sign s b) i) rfl rfl Tryd.runUnderlying23 Tryd.underlying5 Tryd.sizeOf5 Tryd.isAgg5 Tryd.eqGuardType23 (Pl.adv_len _ _ _ (Pl.chunk_len (Pl.sign_len s a) (show i < 35 by omega))) (Pl.chunk_len (Pl.sign_len s b) (show i < 35 by omega))) (fun h => h (Pl.sig_adv s a b (by omega) (by omega)))), trivial⟩ (fun ev21 => ?_)
          simp only [endF, endL, putF, List.nil_append, List.cons_append]
          refine JQ.n_then ?_
          refine JQ.condF rfl ?_
          refine JQ.skip ?_
          refine JQ.n_block ?_
          refine JQ.n_then ?_
          refine JQ.region ?_
          refine JQ.v (JV.move rfl) rfl ?_
          refine JQ.v (JV.addN (b := 1) rfl rfl (by omega)) rfl ?_
          refine JQ.v (JV.assign rfl) rfl ?_
          refine JQ.nil ?_
          refine JQ.n_then ?_
          exact JQ.nextI (i + 1) (by omega) (by omega) (subk_cons rfl (subk_cons rfl (subk_cons rfl (subk_cons rfl (subk_cons rfl (subk_cons rfl (subk_cons (by rw [Pl.lessN]; first | (rw [decide_eq_true h60, Bool.or_true]; rfl) | (rw [decide_eq_false h60, Bool.or_false]; rfl)) (subk_cons rfl subk_nil)))))))) (subr_cons rfl (subr_cons rfl (subr_cons rfl (subr_cons rfl (subr_cons rfl subr_nil)))))
    · refine JQ.exit ?_
      refine JQ.e_then ?_
      refine JQ.e_then ?_
      refine JQ.e_here ?_
      refine JQ.n_then ?_
      refine JQ.seq ?_
      refine JQ.region ?_
      refine JQ.v (JV.callM Tryd.call9 evs_nil (fun w hw => sanity_spec w (hw.reads (id := 901) rfl))) rfl ?_
      refine JQ.v (JV.move rfl) rfl ?_
      refine JQ.vg rfl rfl (JV.move rfl) rfl ?_
      refine JQ.vg rfl rfl (JV.loadV 1 rfl rfl Tryd.isAgg23 Tryd.sizeOf23 (by rw [List.length_map, ha])) rfl ?_
      refine JQ.vg rfl rfl (JV.loadV 2 rfl rfl Tryd.isAgg23 Tryd.sizeOf23 (by rw [List.length_map, hb])) rfl ?_
      refine JQ.vg rfl rfl (JV.neqBytes (xs := a) (ys := b) rfl rfl Tryd.runUnderlying23 Tryd.underlying5 Tryd.sizeOf5 Tryd.isAgg5 Tryd.eqGuardType23 ha hb) rfl ?_
      refine JQ.vg rfl rfl (JV.bt (JV.eqlB rfl rfl Tryd.underlying4) (by rw [show i = 35 from by omega, Pl.less_ne hb ha, decide_eq_decide.2 ⟨Ne.symm, Ne.symm⟩]; exact beq_self_eq_true _)) rfl ?_
      refine JQ.v (JV.pickT rfl rfl) rfl ?_
      refine JQ.v (JV.assign rfl) rfl ?_
      refine JQ.nil ?_
      refine JQ.n_then ?_
      refine JQ.ret ?_
      refine JQ.done1 Tryd.results8 rfl ?_
      exact fun w hw => ⟨rfl, hw.below⟩
end Go.Fw
end
