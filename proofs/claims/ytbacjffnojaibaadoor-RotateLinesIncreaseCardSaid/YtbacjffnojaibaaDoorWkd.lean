/- What the functions of tables and policies compute, walked; the condition is that the tables read as they are laid. -/
import Derived.Test.YtbacjffnojaibaaDoorWkc
import Derived.Test.YtbacjffnojaibaaDoorFwd
import Derived.Test.YtbacjffnojaibaaDoorProg
section
open Go.RowKit
set_option maxRecDepth 100000
set_option linter.unusedVariables false
set_option linter.unusedSimpArgs false
namespace Go.Fw
open Go.Proofs
def tcs (ts : List Pl.Typ) : List Value := ts.flatMap tc
def rcs (rs : List Pl.Rule) : List Value := rs.flatMap rcl
theorem fm_drop {α : Type} {f : α → List Value} {n : Nat} (hf : ∀ a, (f a).length = n) : ∀ (l : List α) (i : Nat), (l.flatMap f).drop (i * n) = (l.drop i).flatMap f
  | [], i => by simp
  | a :: l, 0 => by simp
  | a :: l, i + 1 => by
    rw [List.flatMap_cons, List.drop_append, hf, show (i + 1) * n - n = i * n from by rw [Nat.add_mul]; omega, List.drop_of_length_le (by rw [hf, Nat.add_mul]; omega), List.nil_append, fm_drop hf l i, List.drop_succ_cons]
theorem fm_at {α : Type} {f : α → List Value} {n : Nat} (hf : ∀ a, (f a).length = n) (l : List α) (z : α) {i : Nat} (h : i < l.length) : ((l.flatMap f).drop (i * n)).take n = f (l.getD i z) := by
  rw [fm_drop hf, List.drop_eq_getElem_cons h, List.flatMap_cons, List.take_append_of_le_length (by rw [hf]; exact Nat.le_refl _), List.take_of_length_le (by rw [hf]; exact Nat.le_refl _), List.getD_eq_getElem?_getD, List.getElem?_eq_getElem h]
  rfl
theorem fm_get {α : Type} {f : α → List Value} {n : Nat} (hf : ∀ a, (f a).length = n) (l : List α) (z : α) {i o : Nat} (h : i < l.length) (ho : o < n) : (l.flatMap f)[i * n + o]? = (f (l.getD i z))[o]? := by
  rw [← fm_at hf l z h, List.getElem?_take_of_lt ho, List.getElem?_drop]
theorem tf0 (ts : List Pl.Typ) {i : Nat} (h : i < ts.length) : (tcs ts)[i * 3 + 0]? = some (str (Pl.tyAt ts i).name) := fm_get (f := tc) (fun _ => rfl) ts Pl.tyZ h (by decide)
theorem tf1 (ts : List Pl.Typ) {i : Nat} (h : i < ts.length) : (tcs ts)[i * 3 + 1]? = some (iv (Pl.tyAt ts i).flags) := fm_get (f := tc) (fun _ => rfl) ts Pl.tyZ h (by decide)
theorem tf2 (ts : List Pl.Typ) {i : Nat} (h : i < ts.length) : (tcs ts)[i * 3 + 2]? = some (iv (Pl.tyAt ts i).life) := fm_get (f := tc) (fun _ => rfl) ts Pl.tyZ h (by decide)
theorem rc_at (rs : List Pl.Rule) {i : Nat} (h : i < rs.length) : ((rcs rs).drop (i * 3)).take 3 = rcl (Pl.ruleAt rs i) := fm_at (f := rcl) (fun _ => rfl) rs _ h
theorem isTy_nat {ts : List Pl.Typ} {t : Int} (h : Pl.isTy ts t = true) : ∃ k : Nat, k < ts.length ∧ t = k := by
  simp only [Pl.isTy, Bool.and_eq_true, decide_eq_true_eq] at h
  exact ⟨t.toNat, by omega, by omega⟩
/-- valid tables -/
def vtl (n : Int) : Int → List Pl.Key → Bool
  | _, [] => true
  | last, k :: ks => vkR k && (decide (last < k.id) && (decide (k.id < n) && (decide (k.par < n) && vtl n k.id ks)))
def vtab (n : Int) (ks : List Pl.Key) : Bool := decide (ks.length ≤ 4096) && (Pl.within n 1 2147483647 && vtl n 0 ks)
theorem drop_at {ks : List Pl.Key} {i : Nat} (h : i < ks.length) : ks.drop i = Pl.at_ ks i :: ks.drop (i + 1) := by
  rw [List.drop_eq_getElem_cons h, Pl.at_, List.getD_eq_getElem?_getD, List.getElem?_eq_getElem h]; rfl
theorem vt_step {n last : Int} {ks : List Pl.Key} {i : Nat} (h : i < ks.length) : vtl n last (ks.drop i) = (vkR (Pl.at_ ks i) && (decide (last < (Pl.at_ ks i).id) && (decide ((Pl.at_ ks i).id < n) && (decide ((Pl.at_ ks i).par < n) && vtl n (Pl.at_ ks i).id (ks.drop (i + 1)))))) := by
  rw [drop_at h, vtl]
def fewN (t : Pl.Typ) : Bool := decide (t.name.length ≤ 40)
def fewP (ts : List Pl.Typ) (rs : List Pl.Rule) (nq : Nat) : Bool := decide (ts.length ≤ 40) && (decide (rs.length ≤ 100) && (decide (nq ≤ 40) && ts.all fewN))
def fewT (ts : List Pl.Typ) (rs : List Pl.Rule) (nq : Nat) (n : Int) (ks : List Pl.Key) : Bool := fewP ts rs nq && (decide (ks.length ≤ 30) && vtab n ks)
theorem few_step {ts : List Pl.Typ} {i : Nat} (h : i < ts.length) : (ts.drop i).all fewN = (decide ((Pl.tyAt ts i).name.length ≤ 40) && (ts.drop (i + 1)).all fewN) := by
  rw [List.drop_eq_getElem_cons h, List.all_cons, Pl.tyAt, List.getD_eq_getElem?_getD, List.getElem?_eq_getElem h]; rfl
def sameT (n m : Int) (ks ls : List Pl.Key) : Bool := decide (n = m) && decide (ks = ls)
theorem keys_ext {ks ls : List Pl.Key} (h : ks.length = ls.length) (hj : ∀ j, j < ks.length → Pl.at_ ks j = Pl.at_ ls j) : ks = ls := by
  refine List.ext_getElem h fun j h1 h2 => ?_
  have := hj j h1
  rwa [Pl.at_, Pl.at_, List.getD_eq_getElem?_getD, List.getD_eq_getElem?_getD, List.getElem?_eq_getElem h1, List.getElem?_eq_getElem h2] at this
theorem ints_ext {ks ls : List Int} (h : ks.length = ls.length) (hj : ∀ j, j < ks.length → ks.getD j 0 = ls.getD j 0) : ks = ls := by
  refine List.ext_getElem h fun j h1 h2 => ?_
  have := hj j h1
  rwa [List.getD_eq_getElem?_getD, List.getD_eq_getElem?_getD, List.getElem?_eq_getElem h1, List.getElem?_eq_getElem h2] at this
theorem fill_step {i : Nat} {a z : Value} (h : i < 32) : (List.replicate i a ++ List.replicate (32 - i) z).set i a = List.replicate (i + 1) a ++ List.replicate (32 - (i + 1)) z := by
  rw [List.set_append_right _ _ (by simp), List.length_replicate, Nat.sub_self, show 32 - i = (32 - (i + 1)) + 1 from by omega, List.replicate_succ, List.set_cons_zero, List.replicate_succ' (n := i), List.append_assoc]; rfl
/-- two keys -/
theorem str_beq (a b : List UInt8) : (a == b) = decide (a = b) := by rw [Bool.eq_iff_iff]; simp
theorem run_eqKey (a b : Pl.Key) (w : World) : (Op.equalIn 10000 34 (.agg (kc a).toArray) (.agg (kc b).toArray)).run Tryd.prog w = .ok (decide (a = b)) w := by
  have hf : Tryd.prog.fieldsOf 34 = #[⟨"Id", 3, 0, false, "", "", 0⟩, ⟨"Type", 3, 1, false, "", "", 8⟩, ⟨"Value", 9, 2, false, "", "", 16⟩, ⟨"Uses", 3, 3, false, "", "", 32⟩, ⟨"Start", 3, 4, false, "", "", 40⟩, ⟨"End", 3, 5, false, "", "", 48⟩, ⟨"Version", 3, 6, false, "", "", 56⟩, ⟨"Parent", 3, 7, false, "", "", 64⟩, ⟨"Raw", 4, 8, false, "", "", 72⟩] := by
    unfold Program.fieldsOf; rw [Tryd.underlying34]
  have hpI : ∀ (cs : Array Value) (o : Nat) (v : Value) (w : World), cs[o]? = some v → (part 3 cs o).run Tryd.prog w = .ok v w := fun cs o v w h => by simp [part, Tryd.isAgg3, h]
  have hpS : ∀ (cs : Array Value) (o : Nat) (v : Value) (w : World), cs[o]? = some v → (part 9 cs o).run Tryd.prog w = .ok v w := fun cs o v w h => by simp [part, Tryd.isAgg9, h]
  have hpB : ∀ (cs : Array Value) (o : Nat) (v : Value) (w : World), cs[o]? = some v → (part 4 cs o).run Tryd.prog w = .ok v w := fun cs o v w h => by simp [part, Tryd.isAgg4, h]
  have hI : ∀ (a b : Int) (w : World), (Op.equalIn 9999 3 (iv a) (iv b)).run Tryd.prog w = .ok (a == b) w := fun a b w => run_equalIn_int w 9998 3 .i64 .i64 a b Tryd.underlying3
  have hS : ∀ (a b : List UInt8) (w : World), (Op.equalIn 9999 9 (str a) (str b)).run Tryd.prog w = .ok (a == b) w := fun a b w => by
    have := run_equalIn_string w 9998 9 ⟨a.toArray⟩ ⟨b.toArray⟩ Tryd.underlying9
    rw [ByteArray.toList_eq, ByteArray.toList_eq] at this
    simpa [str] using this
  have hB : ∀ (a b : Bool) (w : World), (Op.equalIn 9999 4 (.bool a) (.bool b)).run Tryd.prog w = .ok (a == b) w := fun a b w => run_equalIn_bool w 9998 4 a b Tryd.underlying4
  rw [run_equalIn_struct w 9999 34 _ _ (by rw [hf]; exact Tryd.underlying34) Tryd.stoodInHeld34, hf]
  obtain ⟨a0, a1, a2, a3, a4, a5, a6, a7, a8⟩ := a
  obtain ⟨b0, b1, b2, b3, b4, b5, b6, b7, b8⟩ := b
  simp only [kc]
  simp [Op.eqFields, part, Tryd.isAgg3, Tryd.isAgg9, Tryd.isAgg4, hI, hS, hB]
  by_cases h0 : a0 = b0 <;> by_cases h1 : a1 = b1 <;> by_cases h2 : a2 = b2 <;> by_cases h3 : a3 = b3 <;> simp [h0, h1, h2, h3]
  by_cases h4 : a4 = b4 <;> by_cases h5 : a5 = b5 <;> by_cases h6 : a6 = b6 <;> by_cases h7 : a7 = b7 <;> by_cases h8 : a8 = b8 <;> simp [h4, h5, h6, h7, h8]
section
variable {w0 : World} {F : FL} {L : ML} {dst : Option Tmp} {ty u' : TypeId} {pos : String} {af : Array Edge} {gd : Option (Nat × Bool)} {x y : Operand} {a b : Pl.Key}
theorem JV.eqlKey (hx : evk F x = some (.agg (kc a).toArray)) (hy : evk F y = some (.agg (kc b).toArray)) : JV Tryd.prog w0 F L ⟨dst, .binOp .eql 34 x y u', ty, pos, af, gd⟩ (.bool (decide (a = b))) := by
  refine JV.of fun A w hF hL => ?_
  have e1 := hF.at hx (by simp [Op.operands]); have e2 := hF.at hy (by simp [Op.operands])
  have hr : (Op.equal 34 (.agg (kc a).toArray) (.agg (kc b).toArray)).run Tryd.prog w = .ok (decide (a = b)) w := run_eqKey a b w
  simp only [execOp, e1, e2, Sem.run_bind, run_eqGuard_agg _ _ _ Tryd.eqGuardType34, Result.andThen_ok, binOp, hr, Sem.run_pure]
theorem JV.neqKey (hx : evk F x = some (.agg (kc a).toArray)) (hy : evk F y = some (.agg (kc b).toArray)) : JV Tryd.prog w0 F L ⟨dst, .binOp .neq 34 x y u', ty, pos, af, gd⟩ (.bool (!decide (a = b))) := by
  refine JV.of fun A w hF hL => ?_
  have e1 := hF.at hx (by simp [Op.operands]); have e2 := hF.at hy (by simp [Op.operands])
  have hr : (Op.equal 34 (.agg (kc a).toArray) (.agg (kc b).toArray)).run Tryd.prog w = .ok (decide (a = b)) w := run_eqKey a b w
  simp only [execOp, e1, e2, Sem.run_bind, run_eqGuard_agg _ _ _ Tryd.eqGuardType34, Result.andThen_ok, binOp, hr, Sem.run_pure]
end
attribute [local irreducible] kcs tcs rcs Pl.ix Pl.lb Pl.getE Pl.fnd Pl.nextO Pl.at_ Pl.line Pl.tyAt Pl.isTy
theorem vtab_spec (n : Int) (kv : Value) (ks : List Pl.Key) (hl : ks.length ≤ 9223372036854775807) (w : World) (hr : Reads w kv 9 ks.length (kcs ks)) :
    Calls Tryd.prog 29 #[.agg [iv n, kv].toArray] w fun e w' => e = .returned (.bool (vtab n ks)) ∧ Below w.heap.size w w' := by
  
  refine enterA (vs := [_]) Tryd.func29 rfl 55 rfl [(100, .ro kv 9 ks.length (kcs ks))] (MemOk.start1 100 hr) ?_
  refine JQ.seq ?_
  refine JQ.region ?_
  refine JQ.x (JO.box 1 rfl rfl) rfl ?_
  intro i0_0
  refine JQ.v (JV.assign rfl) rfl ?_
  refine JQ.nil ?_
  refine JQ.n_then ?_
  refine JQ.seq ?_
  refine JQ.seq ?_
  refine JQ.region ?_
  refine JQ.v (JV.fieldAddrK (o := 1) rfl Tryd.runUnderlying29 rfl Tryd.sizeOf27 rfl rfl) rfl ?_
  refine JQ.v (JV.load1 1 rfl rfl Tryd.isAgg27 (rfl)) rfl ?_
  refine JQ.v (JV.lenRo 100 rfl rfl Tryd.runUnderlying27) rfl ?_
  refine JQ.v (JV.gtrN (b := 4096) rfl rfl) rfl ?_
  refine JQ.vb (JV.move rfl) rfl (fun g1_4 => ?_) (fun g1_4 => ?_)
  · refine JQ.g0 rfl rfl rfl rfl ?_
    refine JQ.g0 rfl rfl rfl rfl ?_
    refine JQ.g0 rfl rfl rfl rfl ?_
    refine JQ.g0 rfl rfl rfl rfl ?_
    refine JQ.v (JV.pickT rfl rfl) rfl ?_
    refine JQ.nil ?_
    refine JQ.n_then ?_
    refine JQ.condT rfl ?_
    refine JQ.seq ?_
    refine JQ.region ?_
    refine JQ.v (JV.assign rfl) rfl ?_
    refine JQ.nil ?_
    refine JQ.n_then ?_
    refine JQ.ret ?_
    refine JQ.r_then ?_
    refine JQ.done1 Tryd.results29 rfl ?_
    exact fun w hw => ⟨by simp at g1_4; simp [vtab]; intros; omega, hw.below⟩
  · refine JQ.vg rfl rfl (JV.fieldAddrK (o := 0) rfl Tryd.runUnderlying29 rfl Tryd.sizeOf3 rfl rfl) rfl ?_
    refine JQ.vg rfl rfl (JV.load1 1 rfl rfl Tryd.isAgg3 (rfl)) rfl ?_
    refine JQ.vg rfl rfl (JV.call Tryd.call52 (evs_cons rfl (evs_cons rfl (evs_cons rfl evs_nil))) (rwithin_pure _ _ _)) rfl ?_
    refine JQ.vg rfl rfl (JV.notB rfl) rfl ?_
    refine JQ.v (JV.pickF rfl rfl) rfl ?_
    refine JQ.nil ?_
    refine JQ.n_then ?_
    refine JQ.cond rfl (fun h16 => ?_) (fun h16 => ?_)
    · refine JQ.seq ?_
      refine JQ.region ?_
      refine JQ.v (JV.assign rfl) rfl ?_
      refine JQ.nil ?_
      refine JQ.n_then ?_
      refine JQ.ret ?_
      refine JQ.r_then ?_
      refine JQ.done1 Tryd.results29 rfl ?_
      exact fun w hw => ⟨by simp at h16; simp [vtab, h16], hw.below⟩
    · refine JQ.skip ?_
      refine JQ.n_then ?_
      refine JQ.seq ?_
      have hgo : (decide (ks.length ≤ 4096) && (Pl.within n 1 2147483647 && vtl n 0 ks)) = vtl n 0 ks := by simp at h16 g1_4; rw [decide_eq_true (by omega), h16]; rfl
      refine JQ.region ?_
      refine JQ.v (JV.assign rfl) rfl ?_
      refine JQ.nil ?_
      refine JQ.n_then ?_
      refine JQ.seq ?_
      refine JQ.seq ?_
      refine JQ.region ?_
      refine JQ.v (JV.assign rfl) rfl ?_
      refine JQ.nil ?_
      refine JQ.n_then ?_
      refine JQ.block ?_
      refine JQ.loopI (ι := Nat × Int) (fun i => [(1, .pointer (some ⟨i0_0, 0, none⟩)), (3, iv i.2), (4, .int .i64 ((i.1 : Nat) : Int))]) (fun i => [(1, .cells i0_0 [iv n, kv] 29 (0, 0)), (100, .ro kv 9 ks.length (kcs ks))]) (fun i => i.1 ≤ ks.length ∧ vtl n 0 ks = vtl n i.2 (ks.drop i.1)) (fun i => ks.length - i.1) (0, 0) ⟨Nat.zero_le _, rfl⟩ (subk_cons rfl (subk_cons rfl (subk_cons rfl subk_nil))) (subr_cons rfl (subr_cons rfl subr_nil)) ?_
      rintro ⟨i, last⟩ ⟨hi1, hi2⟩
      dsimp only at hi1 hi2
      show JQ _ _ [(1, .pointer (some ⟨i0_0, 0, none⟩)), (3, iv last), (4, .int .i64 ((i : Nat) : Int))] [(1, .cells i0_0 [iv n, kv] 29 (0, 0)), (100, .ro kv 9 ks.length (kcs ks))] _
      refine JQ.seq ?_
      refine JQ.seq ?_
      refine JQ.region ?_
      refine JQ.v (JV.move rfl) rfl ?_
      refine JQ.v (JV.fieldAddrK (o := 1) rfl Tryd.runUnderlying29 rfl Tryd.sizeOf27 rfl rfl) rfl ?_
      refine JQ.v (JV.load1 1 rfl rfl Tryd.isAgg27 (rfl)) rfl ?_
      refine JQ.v (JV.lenRo 100 rfl rfl Tryd.runUnderlying27) rfl ?_
      refine JQ.v (JV.lssN rfl rfl) rfl ?_
      refine JQ.nil ?_
      refine JQ.n_then ?_
      refine JQ.condP rfl (fun h21 => ?_) (fun h21 => ?_)
      · refine JQ.skip ?_
        refine JQ.n_then ?_
        refine JQ.seq ?_
        refine JQ.block ?_
        refine JQ.seq ?_
        refine JQ.region ?_
        refine JQ.v (JV.fieldAddrK (o := 1) rfl Tryd.runUnderlying29 rfl Tryd.sizeOf27 rfl rfl) rfl ?_
        refine JQ.v (JV.load1 1 rfl rfl Tryd.isAgg27 (rfl)) rfl ?_
        refine JQ.v (JV.move rfl) rfl ?_
        refine JQ.v (JV.idxRo 100 rfl rfl rfl Tryd.runUnderlying27 Tryd.sizeOf34 (by decide) (by omega)) rfl ?_
        refine JQ.v (JV.loadRA 100 rfl rfl Tryd.isAgg34 Tryd.sizeOf34 (us := kc (Pl.at_ ks i)) (kc_at ks (by omega)) rfl (by decide)) rfl ?_
        refine JQ.x (JO.alloc 2 (zs := (kc Pl.Key.zero)) Tryd.zeroValue34 rfl) rfl ?_
        intro i7_5
        refine JQ.s (JO.storeV 2 rfl rfl rfl (us := kc (Pl.at_ ks i)) rfl Tryd.sizeOf34 rfl rfl) ?_
        refine JQ.nil ?_
        refine JQ.n_then ?_
        refine JQ.seq ?_
        refine JQ.region ?_
        refine JQ.v (JV.loadV 2 rfl rfl Tryd.isAgg34 Tryd.sizeOf34 rfl) rfl ?_
        refine JQ.v (JV.call Tryd.call53 (evs_cons rfl evs_nil) (rvalid_pure _)) rfl ?_
        refine JQ.v (JV.assign rfl) rfl ?_
        refine JQ.nil ?_
        refine JQ.n_then ?_
        refine JQ.seq ?_
        refine JQ.seq ?_
        refine JQ.region ?_
        refine JQ.v (JV.move rfl) rfl ?_
        refine JQ.v (JV.notB rfl) rfl ?_
        refine JQ.vb (JV.move rfl) rfl (fun g9_2 => ?_) (fun g9_2 => ?_)
        · refine JQ.g0 rfl rfl rfl rfl ?_
          refine JQ.g0 rfl rfl rfl rfl ?_
          refine JQ.g0 rfl rfl rfl rfl ?_
          refine JQ.g0 rfl rfl rfl rfl ?_
          refine JQ.v (JV.pickT rfl rfl) rfl ?_
          refine JQ.v (JV.move rfl) rfl ?_
          refine JQ.g0 rfl rfl rfl rfl ?_
          refine JQ.g0 rfl rfl rfl rfl ?_
          refine JQ.g0 rfl rfl rfl rfl ?_
          refine JQ.g0 rfl rfl rfl rfl ?_
          refine JQ.g0 rfl rfl rfl rfl ?_
          refine JQ.v (JV.pickT rfl rfl) rfl ?_
          refine JQ.v (JV.move rfl) rfl ?_
          refine JQ.g0 rfl rfl rfl rfl ?_
          refine JQ.g0 rfl rfl rfl rfl ?_
          refine JQ.g0 rfl rfl rfl rfl ?_
          refine JQ.g0 rfl rfl rfl rfl ?_
          refine JQ.g0 rfl rfl rfl rfl ?_
          refine JQ.v (JV.pickT rfl rfl) rfl ?_
          refine JQ.nil ?_
          refine JQ.n_then ?_
          refine JQ.condT rfl ?_
          refine JQ.seq ?_
          refine JQ.region ?_
          refine JQ.v (JV.assign rfl) rfl ?_
          refine JQ.nil ?_
          refine JQ.n_then ?_
          refine JQ.ret ?_
          refine JQ.r_then ?_
          refine JQ.r_block ?_
          refine JQ.r_then ?_
          refine JQ.r_then ?_
          refine JQ.r_block ?_
          refine JQ.r_then ?_
          refine JQ.done1 Tryd.results29 rfl ?_
          exact fun w hw => ⟨by rw [vtab, hgo, hi2, vt_step (by omega)]; simp at g9_2; first | (simp [g9_2]; done) | (simp; intros; omega), hw.below⟩
        · refine JQ.vg rfl rfl (JV.fieldAddrK (o := 0) rfl Tryd.runUnderlying34 rfl Tryd.sizeOf3 rfl rfl) rfl ?_
          refine JQ.vg rfl rfl (JV.load1 2 rfl rfl Tryd.isAgg3 (rfl)) rfl ?_
          refine JQ.vg rfl rfl (JV.move rfl) rfl ?_
          refine JQ.vg rfl rfl (JV.leq rfl rfl) rfl ?_
          refine JQ.v (JV.pickF rfl rfl) rfl ?_
          refine JQ.vb (JV.move rfl) rfl (fun g9_8 => ?_) (fun g9_8 => ?_)
          · refine JQ.g0 rfl rfl rfl rfl ?_
            refine JQ.g0 rfl rfl rfl rfl ?_
            refine JQ.g0 rfl rfl rfl rfl ?_
            refine JQ.g0 rfl rfl rfl rfl ?_
            refine JQ.g0 rfl rfl rfl rfl ?_
            refine JQ.v (JV.pickT rfl rfl) rfl ?_
            refine JQ.v (JV.move rfl) rfl ?_
            refine JQ.g0 rfl rfl rfl rfl ?_
            refine JQ.g0 rfl rfl rfl rfl ?_
            refine JQ.g0 rfl rfl rfl rfl ?_
            refine JQ.g0 rfl rfl rfl rfl ?_
            refine JQ.g0 rfl rfl rfl rfl ?_
            refine JQ.v (JV.pickT rfl rfl) rfl ?_
            refine JQ.nil ?_
            refine JQ.n_then ?_
            refine JQ.condT rfl ?_
            refine JQ.seq ?_
            refine JQ.region ?_
            refine JQ.v (JV.assign rfl) rfl ?_
            refine JQ.nil ?_
            refine JQ.n_then ?_
            refine JQ.ret ?_
            refine JQ.r_then ?_
            refine JQ.r_block ?_
            refine JQ.r_then ?_
            refine JQ.r_then ?_
            refine JQ.r_block ?_
            refine JQ.r_then ?_
            refine JQ.done1 Tryd.results29 rfl ?_
            exact fun w hw => ⟨by rw [vtab, hgo, hi2, vt_step (by omega)]; simp at g9_2 g9_8; first | (simp [g9_2]; done) | (simp; intros; omega), hw.below⟩
          · refine JQ.vg rfl rfl (JV.fieldAddrK (o := 0) rfl Tryd.runUnderlying34 rfl Tryd.sizeOf3 rfl rfl) rfl ?_
            refine JQ.vg rfl rfl (JV.load1 2 rfl rfl Tryd.isAgg3 (rfl)) rfl ?_
            refine JQ.vg rfl rfl (JV.fieldAddrK (o := 0) rfl Tryd.runUnderlying29 rfl Tryd.sizeOf3 rfl rfl) rfl ?_
            refine JQ.vg rfl rfl (JV.load1 1 rfl rfl Tryd.isAgg3 (rfl)) rfl ?_
            refine JQ.vg rfl rfl (JV.geq rfl rfl) rfl ?_
            refine JQ.v (JV.pickF rfl rfl) rfl ?_
            refine JQ.vb (JV.move rfl) rfl (fun g9_15 => ?_) (fun g9_15 => ?_)
            · refine JQ.g0 rfl rfl rfl rfl ?_
              refine JQ.g0 rfl rfl rfl rfl ?_
              refine JQ.g0 rfl rfl rfl rfl ?_
              refine JQ.g0 rfl rfl rfl rfl ?_
              refine JQ.g0 rfl rfl rfl rfl ?_
              refine JQ.v (JV.pickT rfl rfl) rfl ?_
              refine JQ.nil ?_
              refine JQ.n_then ?_
              refine JQ.condT rfl ?_
              refine JQ.seq ?_
              refine JQ.region ?_
              refine JQ.v (JV.assign rfl) rfl ?_
              refine JQ.nil ?_
              refine JQ.n_then ?_
              refine JQ.ret ?_
              refine JQ.r_then ?_
              refine JQ.r_block ?_
              refine JQ.r_then ?_
              refine JQ.r_then ?_
              refine JQ.r_block ?_
              refine JQ.r_then ?_
              refine JQ.done1 Tryd.results29 rfl ?_
              exact fun w hw => ⟨by rw [vtab, hgo, hi2, vt_step (by omega)]; simp at g9_2 g9_8 g9_15; first | (simp [g9_2]; done) | (simp; intros; omega), hw.below⟩
            · refine JQ.vg rfl rfl (JV.fieldAddrK (o := 7) rfl Tryd.runUnderlying34 rfl Tryd.sizeOf3 rfl rfl) rfl ?_
              refine JQ.vg rfl rfl (JV.load1 2 rfl rfl Tryd.isAgg3 (rfl)) rfl ?_
              refine JQ.vg rfl rfl (JV.fieldAddrK (o := 0) rfl Tryd.runUnderlying29 rfl Tryd.sizeOf3 rfl rfl) rfl ?_
              refine JQ.vg rfl rfl (JV.load1 1 rfl rfl Tryd.isAgg3 (rfl)) rfl ?_
              refine JQ.vg rfl rfl (JV.geq rfl rfl) rfl ?_
              refine JQ.v (JV.pickF rfl rfl) rfl ?_
              refine JQ.nil ?_
              refine JQ.n_then ?_
              refine JQ.cond rfl (fun h52 => ?_) (fun h52 => ?_)
              · refine JQ.seq ?_
                refine JQ.region ?_
                refine JQ.v (JV.assign rfl) rfl ?_
                refine JQ.nil ?_
                refine JQ.n_then ?_
                refine JQ.ret ?_
                refine JQ.r_then ?_
                refine JQ.r_block ?_
                refine JQ.r_then ?_
                refine JQ.r_then ?_
                refine JQ.r_block ?_
                refine JQ.r_then ?_
                refine JQ.done1 Tryd.results29 rfl ?_
                exact fun w hw => ⟨by rw [vtab, hgo, hi2, vt_step (by omega)]; simp at g9_2 g9_8 g9_15 h52; first | (simp [g9_2]; done) | (simp; intros; omega), hw.below⟩
              · refine JQ.skip ?_
                refine JQ.n_then ?_
                refine JQ.region ?_
                refine JQ.v (JV.fieldAddrK (o := 0) rfl Tryd.runUnderlying34 rfl Tryd.sizeOf3 rfl rfl) rfl ?_
                refine JQ.v (JV.load1 2 rfl rfl Tryd.isAgg3 (rfl)) rfl ?_
                refine JQ.v (JV.assign rfl) rfl ?_
                refine JQ.nil ?_
                refine JQ.n_block ?_
                refine JQ.n_then ?_
                refine JQ.region ?_
                refine JQ.v (JV.move rfl) rfl ?_
                refine JQ.v (JV.addN (b := 1) rfl rfl (by omega)) rfl ?_
                refine JQ.v (JV.assign rfl) rfl ?_
                refine JQ.nil ?_
                refine JQ.n_then ?_
                exact JQ.nextI (i + 1, (Pl.at_ ks i).id) ⟨by show i + 1 ≤ _; omega, by rw [hi2, vt_step (by omega)]; simp at g9_2 g9_8 g9_15 h52; simp [g9_2, g9_8, g9_15, h52]⟩ (by show _ - (i + 1) < _ - i; omega) (subk_cons rfl (subk_cons rfl (subk_cons rfl subk_nil))) (subr_cons rfl (subr_cons rfl subr_nil))
      · refine JQ.exit ?_
        refine JQ.e_then ?_
        refine JQ.e_then ?_
        refine JQ.e_here ?_
        refine JQ.n_then ?_
        refine JQ.seq ?_
        refine JQ.region ?_
        refine JQ.v (JV.assign rfl) rfl ?_
        refine JQ.nil ?_
        refine JQ.n_then ?_
        refine JQ.ret ?_
        refine JQ.done1 Tryd.results29 rfl ?_
        exact fun w hw => ⟨by rw [vtab, hgo, hi2, List.drop_of_length_le (by omega)]; rfl, hw.below⟩

theorem few_spec (pn : List UInt8) (tv rv qv : Value) (ts : List Pl.Typ) (rs : List Pl.Rule) (nq : Nat) (qx : List Value) (w : World) (ht : Reads w tv 3 ts.length (tcs ts)) (hru : Reads w rv 3 rs.length (rcs rs)) (hq : Reads w qv 5 nq qx) :
    Calls Tryd.prog 31 #[.agg [str pn, tv, rv, qv].toArray] w fun e w' => e = .returned (.bool (fewP ts rs nq)) ∧ Below w.heap.size w w' := by
  
  refine enterA (vs := [_]) Tryd.func31 rfl 35 rfl [(101, .ro tv 3 ts.length (tcs ts)), (102, .ro rv 3 rs.length (rcs rs)), (103, .ro qv 5 nq qx)] (((MemOk.start1 103 hq).addRo 102 hru (ro_cons ro_nil)).addRo 101 ht (ro_cons (ro_cons ro_nil))) ?_
  refine JQ.seq ?_
  refine JQ.region ?_
  refine JQ.x (JO.box 1 rfl rfl) rfl ?_
  intro i0_0
  refine JQ.v (JV.assign rfl) rfl ?_
  refine JQ.nil ?_
  refine JQ.n_then ?_
  refine JQ.seq ?_
  refine JQ.seq ?_
  refine JQ.region ?_
  refine JQ.v (JV.fieldAddrK (o := 1) rfl Tryd.runUnderlying26 rfl Tryd.sizeOf22 rfl rfl) rfl ?_
  refine JQ.v (JV.load1 1 rfl rfl Tryd.isAgg22 (rfl)) rfl ?_
  refine JQ.v (JV.lenRo 101 rfl rfl Tryd.runUnderlying22) rfl ?_
  refine JQ.v (JV.gtrN (b := 40) rfl rfl) rfl ?_
  refine JQ.vb (JV.move rfl) rfl (fun g1_4 => ?_) (fun g1_4 => ?_)
  · refine JQ.g0 rfl rfl rfl rfl ?_
    refine JQ.g0 rfl rfl rfl rfl ?_
    refine JQ.g0 rfl rfl rfl rfl ?_
    refine JQ.g0 rfl rfl rfl rfl ?_
    refine JQ.v (JV.pickT rfl rfl) rfl ?_
    refine JQ.v (JV.move rfl) rfl ?_
    refine JQ.g0 rfl rfl rfl rfl ?_
    refine JQ.g0 rfl rfl rfl rfl ?_
    refine JQ.g0 rfl rfl rfl rfl ?_
    refine JQ.g0 rfl rfl rfl rfl ?_
    refine JQ.v (JV.pickT rfl rfl) rfl ?_
    refine JQ.nil ?_
    refine JQ.n_then ?_
    refine JQ.condT rfl ?_
    refine JQ.seq ?_
    refine JQ.region ?_
    refine JQ.v (JV.assign rfl) rfl ?_
    refine JQ.nil ?_
    refine JQ.n_then ?_
    refine JQ.ret ?_
    refine JQ.r_then ?_
    refine JQ.done1 Tryd.results31 rfl ?_
    exact fun w hw => ⟨by simp at g1_4; simp [fewP]; intros; omega, hw.below⟩
  · refine JQ.vg rfl rfl (JV.fieldAddrK (o := 2) rfl Tryd.runUnderlying26 rfl Tryd.sizeOf23 rfl rfl) rfl ?_
    refine JQ.vg rfl rfl (JV.load1 1 rfl rfl Tryd.isAgg23 (rfl)) rfl ?_
    refine JQ.vg rfl rfl (JV.lenRo 102 rfl rfl Tryd.runUnderlying23) rfl ?_
    refine JQ.vg rfl rfl (JV.gtrN (b := 100) rfl rfl) rfl ?_
    refine JQ.v (JV.pickF rfl rfl) rfl ?_
    refine JQ.vb (JV.move rfl) rfl (fun g1_10 => ?_) (fun g1_10 => ?_)
    · refine JQ.g0 rfl rfl rfl rfl ?_
      refine JQ.g0 rfl rfl rfl rfl ?_
      refine JQ.g0 rfl rfl rfl rfl ?_
      refine JQ.g0 rfl rfl rfl rfl ?_
      refine JQ.v (JV.pickT rfl rfl) rfl ?_
      refine JQ.nil ?_
      refine JQ.n_then ?_
      refine JQ.condT rfl ?_
      refine JQ.seq ?_
      refine JQ.region ?_
      refine JQ.v (JV.assign rfl) rfl ?_
      refine JQ.nil ?_
      refine JQ.n_then ?_
      refine JQ.ret ?_
      refine JQ.r_then ?_
      refine JQ.done1 Tryd.results31 rfl ?_
      exact fun w hw => ⟨by simp at g1_10; simp [fewP]; intros; omega, hw.below⟩
    · refine JQ.vg rfl rfl (JV.fieldAddrK (o := 3) rfl Tryd.runUnderlying26 rfl Tryd.sizeOf24 rfl rfl) rfl ?_
      refine JQ.vg rfl rfl (JV.load1 1 rfl rfl Tryd.isAgg24 (rfl)) rfl ?_
      refine JQ.vg rfl rfl (JV.lenRo 103 rfl rfl Tryd.runUnderlying24) rfl ?_
      refine JQ.vg rfl rfl (JV.gtrN (b := 40) rfl rfl) rfl ?_
      refine JQ.v (JV.pickF rfl rfl) rfl ?_
      refine JQ.nil ?_
      refine JQ.n_then ?_
      refine JQ.cond rfl (fun h19 => ?_) (fun h19 => ?_)
      · refine JQ.seq ?_
        refine JQ.region ?_
        refine JQ.v (JV.assign rfl) rfl ?_
        refine JQ.nil ?_
        refine JQ.n_then ?_
        refine JQ.ret ?_
        refine JQ.r_then ?_
        refine JQ.done1 Tryd.results31 rfl ?_
        exact fun w hw => ⟨by simp at h19; simp [fewP]; intros; omega, hw.below⟩
      · refine JQ.skip ?_
        refine JQ.n_then ?_
        refine JQ.seq ?_
        refine JQ.seq ?_
        simp at g1_4 g1_10 h19
        have hgo : fewP ts rs nq = ts.all fewN := by simp [fewP, g1_4, g1_10, h19]
        refine JQ.region ?_
        refine JQ.v (JV.assign rfl) rfl ?_
        refine JQ.nil ?_
        refine JQ.n_then ?_
        refine JQ.block ?_
        refine JQ.loopI (ι := Nat) (fun i => [(1, .pointer (some ⟨i0_0, 0, none⟩)), (3, .int .i64 ((i : Nat) : Int))]) (fun i => [(1, .cells i0_0 [str pn, tv, rv, qv] 26 (0, 0)), (101, .ro tv 3 ts.length (tcs ts)), (102, .ro rv 3 rs.length (rcs rs)), (103, .ro qv 5 nq qx)]) (fun i => i ≤ ts.length ∧ ts.all fewN = (ts.drop i).all fewN) (fun i => ts.length - i) 0 ⟨Nat.zero_le _, rfl⟩ (subk_cons rfl (subk_cons rfl subk_nil)) (subr_cons rfl (subr_cons rfl (subr_cons rfl (subr_cons rfl subr_nil)))) ?_
        rintro i ⟨hi1, hi2⟩
        refine JQ.seq ?_
        refine JQ.seq ?_
        refine JQ.region ?_
        refine JQ.v (JV.move rfl) rfl ?_
        refine JQ.v (JV.fieldAddrK (o := 1) rfl Tryd.runUnderlying26 rfl Tryd.sizeOf22 rfl rfl) rfl ?_
        refine JQ.v (JV.load1 1 rfl rfl Tryd.isAgg22 (rfl)) rfl ?_
        refine JQ.v (JV.lenRo 101 rfl rfl Tryd.runUnderlying22) rfl ?_
        refine JQ.v (JV.lssN rfl rfl) rfl ?_
        refine JQ.nil ?_
        refine JQ.n_then ?_
        refine JQ.condP rfl (fun h24 => ?_) (fun h24 => ?_)
        · refine JQ.skip ?_
          refine JQ.n_then ?_
          refine JQ.seq ?_
          refine JQ.block ?_
          refine JQ.seq ?_
          refine JQ.region ?_
          refine JQ.v (JV.fieldAddrK (o := 1) rfl Tryd.runUnderlying26 rfl Tryd.sizeOf22 rfl rfl) rfl ?_
          refine JQ.v (JV.load1 1 rfl rfl Tryd.isAgg22 (rfl)) rfl ?_
          refine JQ.v (JV.move rfl) rfl ?_
          refine JQ.v (JV.idxRo 101 rfl rfl rfl Tryd.runUnderlying22 Tryd.sizeOf51 (by decide) (by omega)) rfl ?_
          refine JQ.v (JV.fieldAddrRo 101 rfl rfl (by omega) (by decide) Tryd.runUnderlying51 rfl Tryd.sizeOf9 rfl) rfl ?_
          refine JQ.v (JV.loadR 101 rfl rfl Tryd.isAgg9 (tf0 ts (by omega))) rfl ?_
          refine JQ.v (JV.lenStr rfl Tryd.runUnderlying9) rfl ?_
          refine JQ.v (JV.gtrN (b := 40) rfl rfl) rfl ?_
          refine JQ.nil ?_
          refine JQ.n_then ?_
          refine JQ.condP rfl (fun h34 => ?_) (fun h34 => ?_)
          · refine JQ.seq ?_
            refine JQ.region ?_
            refine JQ.v (JV.assign rfl) rfl ?_
            refine JQ.nil ?_
            refine JQ.n_then ?_
            refine JQ.ret ?_
            refine JQ.r_block ?_
            refine JQ.r_then ?_
            refine JQ.r_then ?_
            refine JQ.r_block ?_
            refine JQ.r_then ?_
            refine JQ.done1 Tryd.results31 rfl ?_
            exact fun w hw => ⟨by rw [hgo, hi2, few_step (by omega)]; simp; intros; omega, hw.below⟩
          · refine JQ.skip ?_
            refine JQ.n_block ?_
            refine JQ.n_then ?_
            refine JQ.region ?_
            refine JQ.v (JV.move rfl) rfl ?_
            refine JQ.v (JV.addN (b := 1) rfl rfl (by omega)) rfl ?_
            refine JQ.v (JV.assign rfl) rfl ?_
            refine JQ.nil ?_
            refine JQ.n_then ?_
            exact JQ.nextI (i + 1) ⟨by omega, by rw [hi2, few_step (by omega), decide_eq_true (by omega), Bool.true_and]⟩ (by omega) (subk_cons rfl (subk_cons rfl subk_nil)) (subr_cons rfl (subr_cons rfl (subr_cons rfl (subr_cons rfl subr_nil))))
        · refine JQ.exit ?_
          refine JQ.e_then ?_
          refine JQ.e_then ?_
          refine JQ.e_here ?_
          refine JQ.n_then ?_
          refine JQ.seq ?_
          refine JQ.region ?_
          refine JQ.v (JV.assign rfl) rfl ?_
          refine JQ.nil ?_
          refine JQ.n_then ?_
          refine JQ.ret ?_
          refine JQ.done1 Tryd.results31 rfl ?_
          exact fun w hw => ⟨by rw [hgo, hi2, List.drop_of_length_le (by omega)]; rfl, hw.below⟩

theorem few35_spec (pn : List UInt8) (tv rv qv : Value) (ts : List Pl.Typ) (rs : List Pl.Rule) (nq : Nat) (qx : List Value) (n : Int) (kv : Value) (ks : List Pl.Key) (hl : ks.length ≤ 9223372036854775807) (w : World) (ht : Reads w tv 3 ts.length (tcs ts)) (hru : Reads w rv 3 rs.length (rcs rs)) (hq : Reads w qv 5 nq qx) (hr : Reads w kv 9 ks.length (kcs ks)) :
    Calls Tryd.prog 10 #[.agg [str pn, tv, rv, qv].toArray, .agg [iv n, kv].toArray] w fun e w' => e = .returned (.bool (fewT ts rs nq n ks)) ∧ Below w.heap.size w w' := by
  
  refine enterA (vs := [_, _]) Tryd.func10 rfl 16 rfl [(101, .ro tv 3 ts.length (tcs ts)), (102, .ro rv 3 rs.length (rcs rs)), (103, .ro qv 5 nq qx), (100, .ro kv 9 ks.length (kcs ks))] ((((MemOk.start1 100 hr).addRo 103 hq (ro_cons ro_nil)).addRo 102 hru (ro_cons (ro_cons ro_nil))).addRo 101 ht (ro_cons (ro_cons (ro_cons ro_nil)))) ?_
  refine JQ.seq ?_
  refine JQ.region ?_
  refine JQ.x (JO.box 1 rfl rfl) rfl ?_
  intro i0_0
  refine JQ.x (JO.box 2 rfl rfl) rfl ?_
  intro i0_1
  refine JQ.v (JV.assign rfl) rfl ?_
  refine JQ.nil ?_
  refine JQ.n_then ?_
  refine JQ.seq ?_
  refine JQ.seq ?_
  refine JQ.region ?_
  refine JQ.v (JV.loadV 1 rfl rfl Tryd.isAgg26 Tryd.sizeOf26 rfl) rfl ?_
  refine JQ.v (JV.callM Tryd.call31 (evs_cons rfl evs_nil) (fun w hw => few_spec pn tv rv qv ts rs nq qx w (hw.reads (id := 101) rfl) (hw.reads (id := 102) rfl) (hw.reads (id := 103) rfl))) rfl ?_
  refine JQ.v (JV.notB rfl) rfl ?_
  refine JQ.vb (JV.move rfl) rfl (fun g1_3 => ?_) (fun g1_3 => ?_)
  · refine JQ.g0 rfl rfl rfl rfl ?_
    refine JQ.g0 rfl rfl rfl rfl ?_
    refine JQ.g0 rfl rfl rfl rfl ?_
    refine JQ.g0 rfl rfl rfl rfl ?_
    refine JQ.v (JV.pickT rfl rfl) rfl ?_
    refine JQ.nil ?_
    refine JQ.n_then ?_
    refine JQ.condT rfl ?_
    refine JQ.seq ?_
    refine JQ.region ?_
    refine JQ.v (JV.assign rfl) rfl ?_
    refine JQ.nil ?_
    refine JQ.n_then ?_
    refine JQ.ret ?_
    refine JQ.r_then ?_
    refine JQ.done1 Tryd.results10 rfl ?_
    exact fun w hw => ⟨by simp at g1_3; simp [fewT, g1_3], hw.below⟩
  · refine JQ.vg rfl rfl (JV.fieldAddrK (o := 1) rfl Tryd.runUnderlying29 rfl Tryd.sizeOf27 rfl rfl) rfl ?_
    refine JQ.vg rfl rfl (JV.load1 2 rfl rfl Tryd.isAgg27 (rfl)) rfl ?_
    refine JQ.vg rfl rfl (JV.lenRo 100 rfl rfl Tryd.runUnderlying27) rfl ?_
    refine JQ.vg rfl rfl (JV.gtrN (b := 30) rfl rfl) rfl ?_
    refine JQ.v (JV.pickF rfl rfl) rfl ?_
    refine JQ.nil ?_
    refine JQ.n_then ?_
    refine JQ.condP rfl (fun h13 => ?_) (fun h13 => ?_)
    · refine JQ.seq ?_
      refine JQ.region ?_
      refine JQ.v (JV.assign rfl) rfl ?_
      refine JQ.nil ?_
      refine JQ.n_then ?_
      refine JQ.ret ?_
      refine JQ.r_then ?_
      refine JQ.done1 Tryd.results10 rfl ?_
      exact fun w hw => ⟨by simp [fewT]; omega, hw.below⟩
    · refine JQ.skip ?_
      refine JQ.n_then ?_
      refine JQ.seq ?_
      refine JQ.region ?_
      refine JQ.v (JV.loadV 2 rfl rfl Tryd.isAgg29 Tryd.sizeOf29 rfl) rfl ?_
      refine JQ.v (JV.callM Tryd.call29 (evs_cons rfl evs_nil) (fun w hw => vtab_spec n kv ks hl w (hw.reads (id := 100) rfl))) rfl ?_
      refine JQ.v (JV.assign rfl) rfl ?_
      refine JQ.nil ?_
      refine JQ.n_then ?_
      refine JQ.ret ?_
      refine JQ.done1 Tryd.results10 rfl ?_
      exact fun w hw => ⟨by simp at g1_3; simp [fewT, g1_3]; omega, hw.below⟩

theorem same27_spec (n m : Int) (kv lv : Value) (ks ls : List Pl.Key) (hl : ks.length ≤ 4611686018427387904) (hl2 : ls.length ≤ 4611686018427387904) (w : World) (hr : Reads w kv 9 ks.length (kcs ks)) (hr2 : Reads w lv 9 ls.length (kcs ls)) :
    Calls Tryd.prog 19 #[.agg [iv n, kv].toArray, .agg [iv m, lv].toArray] w fun e w' => e = .returned (.bool (sameT n m ks ls)) ∧ Below w.heap.size w w' := by
  
  refine enterA (vs := [_, _]) Tryd.func19 rfl 38 rfl [(100, .ro kv 9 ks.length (kcs ks)), (104, .ro lv 9 ls.length (kcs ls))] ((MemOk.start1 104 hr2).addRo 100 hr (ro_cons ro_nil)) ?_
  refine JQ.seq ?_
  refine JQ.region ?_
  refine JQ.x (JO.box 1 rfl rfl) rfl ?_
  intro i0_0
  refine JQ.x (JO.box 2 rfl rfl) rfl ?_
  intro i0_1
  refine JQ.v (JV.assign rfl) rfl ?_
  refine JQ.nil ?_
  refine JQ.n_then ?_
  refine JQ.seq ?_
  refine JQ.seq ?_
  refine JQ.region ?_
  refine JQ.v (JV.fieldAddrK (o := 0) rfl Tryd.runUnderlying29 rfl Tryd.sizeOf3 rfl rfl) rfl ?_
  refine JQ.v (JV.load1 1 rfl rfl Tryd.isAgg3 (rfl)) rfl ?_
  refine JQ.v (JV.fieldAddrK (o := 0) rfl Tryd.runUnderlying29 rfl Tryd.sizeOf3 rfl rfl) rfl ?_
  refine JQ.v (JV.load1 2 rfl rfl Tryd.isAgg3 (rfl)) rfl ?_
  refine JQ.v (JV.neqI rfl rfl) rfl ?_
  refine JQ.vb (JV.move rfl) rfl (fun g1_5 => ?_) (fun g1_5 => ?_)
  · refine JQ.g0 rfl rfl rfl rfl ?_
    refine JQ.g0 rfl rfl rfl rfl ?_
    refine JQ.g0 rfl rfl rfl rfl ?_
    refine JQ.g0 rfl rfl rfl rfl ?_
    refine JQ.g0 rfl rfl rfl rfl ?_
    refine JQ.g0 rfl rfl rfl rfl ?_
    refine JQ.g0 rfl rfl rfl rfl ?_
    refine JQ.v (JV.pickT rfl rfl) rfl ?_
    refine JQ.nil ?_
    refine JQ.n_then ?_
    refine JQ.condT rfl ?_
    refine JQ.seq ?_
    refine JQ.region ?_
    refine JQ.v (JV.assign rfl) rfl ?_
    refine JQ.nil ?_
    refine JQ.n_then ?_
    refine JQ.ret ?_
    refine JQ.r_then ?_
    refine JQ.done1 Tryd.results19 rfl ?_
    exact fun w hw => ⟨by simp at g1_5; simp [sameT, g1_5], hw.below⟩
  · refine JQ.vg rfl rfl (JV.fieldAddrK (o := 1) rfl Tryd.runUnderlying29 rfl Tryd.sizeOf27 rfl rfl) rfl ?_
    refine JQ.vg rfl rfl (JV.load1 1 rfl rfl Tryd.isAgg27 (rfl)) rfl ?_
    refine JQ.vg rfl rfl (JV.lenRo 100 rfl rfl Tryd.runUnderlying27) rfl ?_
    refine JQ.vg rfl rfl (JV.fieldAddrK (o := 1) rfl Tryd.runUnderlying29 rfl Tryd.sizeOf27 rfl rfl) rfl ?_
    refine JQ.vg rfl rfl (JV.load1 2 rfl rfl Tryd.isAgg27 (rfl)) rfl ?_
    refine JQ.vg rfl rfl (JV.lenRo 104 rfl rfl Tryd.runUnderlying27) rfl ?_
    refine JQ.vg rfl rfl (JV.neqN rfl rfl) rfl ?_
    refine JQ.v (JV.pickF rfl rfl) rfl ?_
    refine JQ.nil ?_
    refine JQ.n_then ?_
    refine JQ.cond rfl (fun h19 => ?_) (fun h19 => ?_)
    · refine JQ.seq ?_
      refine JQ.region ?_
      refine JQ.v (JV.assign rfl) rfl ?_
      refine JQ.nil ?_
      refine JQ.n_then ?_
      refine JQ.ret ?_
      refine JQ.r_then ?_
      refine JQ.done1 Tryd.results19 rfl ?_
      exact fun w hw => ⟨by simp at h19; simp [sameT]; intro _ e; rw [e] at h19; exact h19 rfl, hw.below⟩
    · refine JQ.skip ?_
      refine JQ.n_then ?_
      refine JQ.seq ?_
      refine JQ.seq ?_
      have hlen : ks.length = ls.length := by simp at h19; omega
      refine JQ.region ?_
      refine JQ.v (JV.assign rfl) rfl ?_
      refine JQ.nil ?_
      refine JQ.n_then ?_
      refine JQ.block ?_
      refine JQ.loopI (ι := Nat) (fun i => [(2, .pointer (some ⟨i0_0, 0, none⟩)), (3, .pointer (some ⟨i0_1, 0, none⟩)), (5, .int .i64 ((i : Nat) : Int))]) (fun i => [(1, .cells i0_0 [iv n, kv] 29 (0, 0)), (2, .cells i0_1 [iv m, lv] 29 (0, 0)), (100, .ro kv 9 ks.length (kcs ks)), (104, .ro lv 9 ls.length (kcs ls))]) (fun i => i ≤ ks.length ∧ ∀ j, j < i → Pl.at_ ks j = Pl.at_ ls j) (fun i => ks.length - i) 0 ⟨Nat.zero_le _, fun j h => absurd h (Nat.not_lt_zero _)⟩ (subk_cons rfl (subk_cons rfl (subk_cons rfl subk_nil))) (subr_cons rfl (subr_cons rfl (subr_cons rfl (subr_cons rfl subr_nil)))) ?_
      rintro i ⟨hi1, hi2⟩
      refine JQ.seq ?_
      refine JQ.seq ?_
      refine JQ.region ?_
      refine JQ.v (JV.move rfl) rfl ?_
      refine JQ.v (JV.fieldAddrK (o := 1) rfl Tryd.runUnderlying29 rfl Tryd.sizeOf27 rfl rfl) rfl ?_
      refine JQ.v (JV.load1 1 rfl rfl Tryd.isAgg27 (rfl)) rfl ?_
      refine JQ.v (JV.lenRo 100 rfl rfl Tryd.runUnderlying27) rfl ?_
      refine JQ.v (JV.lssN rfl rfl) rfl ?_
      refine JQ.nil ?_
      refine JQ.n_then ?_
      refine JQ.condP rfl (fun h24 => ?_) (fun h24 => ?_)
      · refine JQ.skip ?_
        refine JQ.n_then ?_
        refine JQ.seq ?_
        refine JQ.block ?_
        refine JQ.seq ?_
        refine JQ.any [_, _, _, _, _, _, _, _, _, _, _] [fun _ => [], fun _ => [], fun _ => [], fun _ => [], fun _ => [], fun _ => [], fun _ => [], fun _ => [], fun _ => [], fun _ => [], fun _ => []] [⟨[], [], [], []⟩, ⟨[1], [], [], [0]⟩, ⟨[], [], [], []⟩, ⟨[100], [], [], [0, 1, 2]⟩, ⟨[100], [], [], [0, 1, 2, 3]⟩, ⟨[], [], [], []⟩, ⟨[2], [], [], [5]⟩, ⟨[], [], [], []⟩, ⟨[104], [], [], [5, 6, 7]⟩, ⟨[104], [], [], [5, 6, 7, 8]⟩, ⟨[], [], [], [0, 1, 2, 3, 4, 5, 6, 7, 8, 9]⟩] Tryd.mixed rfl (by kernel_rfl) ⟨Ob.v rfl (fun _ _ h => by cases h) (fun _ _ _ => rfl) (fun e L' hL => JV.fieldAddrK (o := 1) rfl Tryd.runUnderlying29 rfl Tryd.sizeOf27 rfl rfl),
                    Ob.v rfl (fun _ _ h => by cases h) (fun _ _ _ => rfl) (fun e L' hL => JV.load1 1 rfl ((hL 1 (by decide)).trans rfl) Tryd.isAgg27 (rfl)),
                    Ob.v rfl (fun _ _ h => by cases h) (fun _ _ _ => rfl) (fun e L' hL => JV.move rfl),
                    Ob.v rfl (fun _ _ h => by cases h) (fun _ _ _ => rfl) (fun e L' hL => JV.idxRo 100 rfl rfl ((hL 100 (by decide)).trans rfl) Tryd.runUnderlying27 Tryd.sizeOf34 (by decide) (by omega)),
                    Ob.v rfl (fun _ _ h => by cases h) (fun _ _ _ => rfl) (fun e L' hL => JV.loadRA 100 rfl ((hL 100 (by decide)).trans rfl) Tryd.isAgg34 Tryd.sizeOf34 (us := kc (Pl.at_ ks i)) (kc_at ks (by omega)) rfl (by decide)),
                    Ob.v rfl (fun _ _ h => by cases h) (fun _ _ _ => rfl) (fun e L' hL => JV.fieldAddrK (o := 1) rfl Tryd.runUnderlying29 rfl Tryd.sizeOf27 rfl rfl),
                    Ob.v rfl (fun _ _ h => by cases h) (fun _ _ _ => rfl) (fun e L' hL => JV.load1 2 rfl ((hL 2 (by decide)).trans rfl) Tryd.isAgg27 (rfl)),
                    Ob.v rfl (fun _ _ h => by cases h) (fun _ _ _ => rfl) (fun e L' hL => JV.move rfl),
                    Ob.v rfl (fun _ _ h => by cases h) (fun _ _ _ => rfl) (fun e L' hL => JV.idxRo 104 rfl rfl ((hL 104 (by decide)).trans rfl) Tryd.runUnderlying27 Tryd.sizeOf34 (by decide) (by omega)),
                    Ob.v rfl (fun _ _ h => by cases h) (fun _ _ _ => rfl) (fun e L' hL => JV.loadRA 104 rfl ((hL 104 (by decide)).trans rfl) Tryd.isAgg34 Tryd.sizeOf34 (us := kc (Pl.at_ ls i)) (kc_at ls (by omega)) rfl (by decide)),
                    Ob.v rfl (fun _ _ h => by cases h) (fun _ _ _ => rfl) (fun e L' hL => JV.neqKey rfl rfl), trivial⟩ (fun ev6 => ?_)
        simp only [endF, endL, putF, List.nil_append, List.cons_append]
        refine JQ.n_then ?_
        refine JQ.cond rfl (fun h37 => ?_) (fun h37 => ?_)
        · refine JQ.seq ?_
          refine JQ.region ?_
          refine JQ.v (JV.assign rfl) rfl ?_
          refine JQ.nil ?_
          refine JQ.n_then ?_
          refine JQ.ret ?_
          refine JQ.r_block ?_
          refine JQ.r_then ?_
          refine JQ.r_then ?_
          refine JQ.r_block ?_
          refine JQ.r_then ?_
          refine JQ.done1 Tryd.results19 rfl ?_
          exact fun w hw => ⟨by simp at h37; simp [sameT]; intro _ e; rw [e] at h37; exact h37 rfl, hw.below⟩
        · refine JQ.skip ?_
          refine JQ.n_block ?_
          refine JQ.n_then ?_
          refine JQ.region ?_
          refine JQ.v (JV.move rfl) rfl ?_
          refine JQ.v (JV.addN (b := 1) rfl rfl (by omega)) rfl ?_
          refine JQ.v (JV.assign rfl) rfl ?_
          refine JQ.nil ?_
          refine JQ.n_then ?_
          exact JQ.nextI (i + 1) ⟨by omega, fun j h => by rcases Nat.lt_or_ge j i with h2 | h2; exact hi2 j h2; rw [show j = i from by omega]; simpa using h37⟩ (by omega) (subk_cons rfl (subk_cons rfl (subk_cons rfl subk_nil))) (subr_cons rfl (subr_cons rfl (subr_cons rfl (subr_cons rfl subr_nil))))
      · refine JQ.exit ?_
        refine JQ.e_then ?_
        refine JQ.e_then ?_
        refine JQ.e_here ?_
        refine JQ.n_then ?_
        refine JQ.seq ?_
        refine JQ.region ?_
        refine JQ.v (JV.assign rfl) rfl ?_
        refine JQ.nil ?_
        refine JQ.n_then ?_
        refine JQ.ret ?_
        refine JQ.done1 Tryd.results19 rfl ?_
        exact fun w hw => ⟨by simp at g1_5; simp [sameT, g1_5]; exact keys_ext hlen (fun j hj => hi2 j (by omega)), hw.below⟩

theorem same14_spec (lv mv : Value) (ls ms : List Int) (hl : ls.length ≤ 4611686018427387904) (hl2 : ms.length ≤ 4611686018427387904) (w : World) (hr : Reads w lv 1 ls.length (ls.map iv)) (hr2 : Reads w mv 1 ms.length (ms.map iv)) :
    Calls Tryd.prog 24 #[lv, mv] w fun e w' => e = .returned (.bool (decide (ls = ms))) ∧ Below w.heap.size w w' := by
  
  refine enterA (vs := [_, _]) Tryd.func24 rfl 26 rfl [(105, .ro lv 1 ls.length (ls.map iv)), (106, .ro mv 1 ms.length (ms.map iv))] ((MemOk.start1 106 hr2).addRo 105 hr (ro_cons ro_nil)) ?_
  refine JQ.seq ?_
  refine JQ.region ?_
  refine JQ.v (JV.assign rfl) rfl ?_
  refine JQ.nil ?_
  refine JQ.n_then ?_
  refine JQ.seq ?_
  refine JQ.seq ?_
  refine JQ.region ?_
  refine JQ.v (JV.move rfl) rfl ?_
  refine JQ.v (JV.lenRo 105 rfl rfl Tryd.runUnderlying44) rfl ?_
  refine JQ.v (JV.move rfl) rfl ?_
  refine JQ.v (JV.lenRo 106 rfl rfl Tryd.runUnderlying44) rfl ?_
  refine JQ.v (JV.neqN rfl rfl) rfl ?_
  refine JQ.nil ?_
  refine JQ.n_then ?_
  refine JQ.condP rfl (fun h10 => ?_) (fun h10 => ?_)
  · refine JQ.seq ?_
    refine JQ.region ?_
    refine JQ.v (JV.assign rfl) rfl ?_
    refine JQ.nil ?_
    refine JQ.n_then ?_
    refine JQ.ret ?_
    refine JQ.r_then ?_
    refine JQ.done1 Tryd.results24 rfl ?_
    exact fun w hw => ⟨by rw [decide_eq_false (fun e => h10 (by rw [e]))], hw.below⟩
  · refine JQ.skip ?_
    refine JQ.n_then ?_
    refine JQ.seq ?_
    refine JQ.seq ?_
    have hlen : ls.length = ms.length := by omega
    refine JQ.region ?_
    refine JQ.v (JV.assign rfl) rfl ?_
    refine JQ.nil ?_
    refine JQ.n_then ?_
    refine JQ.block ?_
    refine JQ.loopI (ι := Nat) (fun i => [(0, lv), (1, mv), (5, .int .i64 ((i : Nat) : Int))]) (fun i => [(105, .ro lv 1 ls.length (ls.map iv)), (106, .ro mv 1 ms.length (ms.map iv))]) (fun i => i ≤ ls.length ∧ ∀ j, j < i → ls.getD j 0 = ms.getD j 0) (fun i => ls.length - i) 0 ⟨Nat.zero_le _, fun j h => absurd h (Nat.not_lt_zero _)⟩ (subk_cons rfl (subk_cons rfl (subk_cons rfl subk_nil))) (subr_cons rfl (subr_cons rfl subr_nil)) ?_
    rintro i ⟨hi1, hi2⟩
    refine JQ.seq ?_
    refine JQ.seq ?_
    refine JQ.region ?_
    refine JQ.v (JV.move rfl) rfl ?_
    refine JQ.v (JV.move rfl) rfl ?_
    refine JQ.v (JV.lenRo 105 rfl rfl Tryd.runUnderlying44) rfl ?_
    refine JQ.v (JV.lssN rfl rfl) rfl ?_
    refine JQ.nil ?_
    refine JQ.n_then ?_
    refine JQ.condP rfl (fun h14 => ?_) (fun h14 => ?_)
    · refine JQ.skip ?_
      refine JQ.n_then ?_
      refine JQ.seq ?_
      refine JQ.block ?_
      refine JQ.seq ?_
      refine JQ.any [_, _, _, _, _, _, _, _, _] [fun _ => [], fun _ => [], fun _ => [], fun _ => [], fun _ => [], fun _ => [], fun _ => [], fun _ => [], fun _ => []] [⟨[], [], [], []⟩, ⟨[], [], [], []⟩, ⟨[105], [], [], [0, 1]⟩, ⟨[105], [], [], [0, 1, 2]⟩, ⟨[], [], [], []⟩, ⟨[], [], [], []⟩, ⟨[106], [], [], [4, 5]⟩, ⟨[106], [], [], [4, 5, 6]⟩, ⟨[], [], [], [0, 1, 2, 3, 4, 5, 6, 7]⟩] Tryd.mixed rfl (by kernel_rfl) ⟨Ob.v rfl (fun _ _ h => by cases h) (fun _ _ _ => rfl) (fun e L' hL => JV.move rfl),
                Ob.v rfl (fun _ _ h => by cases h) (fun _ _ _ => rfl) (fun e L' hL => JV.move rfl),
                Ob.v rfl (fun _ _ h => by cases h) (fun _ _ _ => rfl) (fun e L' hL => JV.idxRo1 105 rfl rfl ((hL 105 (by decide)).trans rfl) Tryd.runUnderlying44 Tryd.sizeOf3 (by decide) (by omega)),
                Ob.v rfl (fun _ _ h => by cases h) (fun _ _ _ => rfl) (fun e L' hL => JV.loadR 105 rfl ((hL 105 (by decide)).trans rfl) Tryd.isAgg3 (ivs_at (by omega))),
                Ob.v rfl (fun _ _ h => by cases h) (fun _ _ _ => rfl) (fun e L' hL => JV.move rfl),
                Ob.v rfl (fun _ _ h => by cases h) (fun _ _ _ => rfl) (fun e L' hL => JV.move rfl),
                Ob.v rfl (fun _ _ h => by cases h) (fun _ _ _ => rfl) (fun e L' hL => JV.idxRo1 106 rfl rfl ((hL 106 (by decide)).trans rfl) Tryd.runUnderlying44 Tryd.sizeOf3 (by decide) (by omega)),
                Ob.v rfl (fun _ _ h => by cases h) (fun _ _ _ => rfl) (fun e L' hL => JV.loadR 106 rfl ((hL 106 (by decide)).trans rfl) Tryd.isAgg3 (ivs_at (by omega))),
                Ob.v rfl (fun _ _ h => by cases h) (fun _ _ _ => rfl) (fun e L' hL => JV.neqI rfl rfl), trivial⟩ (fun ev6 => ?_)
      simp only [endF, endL, putF, List.nil_append, List.cons_append]
      refine JQ.n_then ?_
      refine JQ.condP rfl (fun h25 => ?_) (fun h25 => ?_)
      · refine JQ.seq ?_
        refine JQ.region ?_
        refine JQ.v (JV.assign rfl) rfl ?_
        refine JQ.nil ?_
        refine JQ.n_then ?_
        refine JQ.ret ?_
        refine JQ.r_block ?_
        refine JQ.r_then ?_
        refine JQ.r_then ?_
        refine JQ.r_block ?_
        refine JQ.r_then ?_
        refine JQ.done1 Tryd.results24 rfl ?_
        exact fun w hw => ⟨by rw [decide_eq_false (fun e => h25 (by rw [e]))], hw.below⟩
      · refine JQ.skip ?_
        refine JQ.n_block ?_
        refine JQ.n_then ?_
        refine JQ.region ?_
        refine JQ.v (JV.move rfl) rfl ?_
        refine JQ.v (JV.addN (b := 1) rfl rfl (by omega)) rfl ?_
        refine JQ.v (JV.assign rfl) rfl ?_
        refine JQ.nil ?_
        refine JQ.n_then ?_
        exact JQ.nextI (i + 1) ⟨by omega, fun j h => by rcases Nat.lt_or_ge j i with h2 | h2; exact hi2 j h2; rw [show j = i from by omega]; exact Decidable.not_not.1 h25⟩ (by omega) (subk_cons rfl (subk_cons rfl (subk_cons rfl subk_nil))) (subr_cons rfl (subr_cons rfl subr_nil))
    · refine JQ.exit ?_
      refine JQ.e_then ?_
      refine JQ.e_then ?_
      refine JQ.e_here ?_
      refine JQ.n_then ?_
      refine JQ.seq ?_
      refine JQ.region ?_
      refine JQ.v (JV.assign rfl) rfl ?_
      refine JQ.nil ?_
      refine JQ.n_then ?_
      refine JQ.ret ?_
      refine JQ.done1 Tryd.results24 rfl ?_
      exact fun w hw => ⟨by rw [decide_eq_true (ints_ext hlen (fun j hj => hi2 j (by omega)))], hw.below⟩

theorem exists_spec (pn : List UInt8) (tv rv qv : Value) (ts : List Pl.Typ) (rs : List Pl.Rule) (t : Int) (w : World) (ht : Reads w tv 3 ts.length (tcs ts)) :
    Calls Tryd.prog 68 #[.agg [str pn, tv, rv, qv].toArray, iv t] w fun e w' => e = .returned (.bool (Pl.isTy ts t)) ∧ Below w.heap.size w w' := by
  
  refine enterA (vs := [_, _]) Tryd.func68 rfl 14 rfl [(101, .ro tv 3 ts.length (tcs ts))] (MemOk.start1 101 ht) ?_
  refine JQ.seq ?_
  refine JQ.region ?_
  refine JQ.x (JO.box 1 rfl rfl) rfl ?_
  intro i0_0
  refine JQ.v (JV.assign rfl) rfl ?_
  refine JQ.nil ?_
  refine JQ.n_then ?_
  refine JQ.seq ?_
  refine JQ.region ?_
  refine JQ.v (JV.move rfl) rfl ?_
  refine JQ.v (JV.geq rfl rfl) rfl ?_
  refine JQ.vb (JV.move rfl) rfl (fun g1_2 => ?_) (fun g1_2 => ?_)
  · refine JQ.vg rfl rfl (JV.move rfl) rfl ?_
    refine JQ.vg rfl rfl (JV.fieldAddrK (o := 1) rfl Tryd.runUnderlying26 rfl Tryd.sizeOf22 rfl rfl) rfl ?_
    refine JQ.vg rfl rfl (JV.load1 1 rfl rfl Tryd.isAgg22 (rfl)) rfl ?_
    refine JQ.vg rfl rfl (JV.lenRo 101 rfl rfl Tryd.runUnderlying22) rfl ?_
    refine JQ.vg rfl rfl (JV.lss rfl rfl) rfl ?_
    refine JQ.v (JV.pickT rfl rfl) rfl ?_
    refine JQ.v (JV.assign rfl) rfl ?_
    refine JQ.nil ?_
    refine JQ.n_then ?_
    refine JQ.ret ?_
    refine JQ.done1 Tryd.results68 rfl ?_
    exact fun w hw => ⟨by simp at g1_2; first | (simp [Pl.isTy, g1_2]; done) | (simp [Pl.isTy]; intros; omega), hw.below⟩
  · refine JQ.g0 rfl rfl rfl rfl ?_
    refine JQ.g0 rfl rfl rfl rfl ?_
    refine JQ.g0 rfl rfl rfl rfl ?_
    refine JQ.g0 rfl rfl rfl rfl ?_
    refine JQ.g0 rfl rfl rfl rfl ?_
    refine JQ.v (JV.pickF rfl rfl) rfl ?_
    refine JQ.v (JV.assign rfl) rfl ?_
    refine JQ.nil ?_
    refine JQ.n_then ?_
    refine JQ.ret ?_
    refine JQ.done1 Tryd.results68 rfl ?_
    exact fun w hw => ⟨by simp at g1_2; first | (simp [Pl.isTy, g1_2]; done) | (simp [Pl.isTy]; intros; omega), hw.below⟩

theorem is_spec (pn : List UInt8) (tv rv qv : Value) (ts : List Pl.Typ) (rs : List Pl.Rule) (t : Int) (w : World) (ht : Reads w tv 3 ts.length (tcs ts)) :
    Calls Tryd.prog 41 #[.agg [str pn, tv, rv, qv].toArray, iv t] w fun e w' => e = .returned (.bool (Pl.isTy ts t)) ∧ Below w.heap.size w w' := by
  
  refine enterA (vs := [_, _]) Tryd.func41 rfl 14 rfl [(101, .ro tv 3 ts.length (tcs ts))] (MemOk.start1 101 ht) ?_
  refine JQ.seq ?_
  refine JQ.region ?_
  refine JQ.x (JO.box 1 rfl rfl) rfl ?_
  intro i0_0
  refine JQ.v (JV.assign rfl) rfl ?_
  refine JQ.nil ?_
  refine JQ.n_then ?_
  refine JQ.seq ?_
  refine JQ.region ?_
  refine JQ.v (JV.move rfl) rfl ?_
  refine JQ.v (JV.geq rfl rfl) rfl ?_
  refine JQ.vb (JV.move rfl) rfl (fun g1_2 => ?_) (fun g1_2 => ?_)
  · refine JQ.vg rfl rfl (JV.move rfl) rfl ?_
    refine JQ.vg rfl rfl (JV.fieldAddrK (o := 1) rfl Tryd.runUnderlying26 rfl Tryd.sizeOf22 rfl rfl) rfl ?_
    refine JQ.vg rfl rfl (JV.load1 1 rfl rfl Tryd.isAgg22 (rfl)) rfl ?_
    refine JQ.vg rfl rfl (JV.lenRo 101 rfl rfl Tryd.runUnderlying22) rfl ?_
    refine JQ.vg rfl rfl (JV.lss rfl rfl) rfl ?_
    refine JQ.v (JV.pickT rfl rfl) rfl ?_
    refine JQ.v (JV.assign rfl) rfl ?_
    refine JQ.nil ?_
    refine JQ.n_then ?_
    refine JQ.ret ?_
    refine JQ.done1 Tryd.results41 rfl ?_
    exact fun w hw => ⟨by simp at g1_2; first | (simp [Pl.isTy, g1_2]; done) | (simp [Pl.isTy]; intros; omega), hw.below⟩
  · refine JQ.g0 rfl rfl rfl rfl ?_
    refine JQ.g0 rfl rfl rfl rfl ?_
    refine JQ.g0 rfl rfl rfl rfl ?_
    refine JQ.g0 rfl rfl rfl rfl ?_
    refine JQ.g0 rfl rfl rfl rfl ?_
    refine JQ.v (JV.pickF rfl rfl) rfl ?_
    refine JQ.v (JV.assign rfl) rfl ?_
    refine JQ.nil ?_
    refine JQ.n_then ?_
    refine JQ.ret ?_
    refine JQ.done1 Tryd.results41 rfl ?_
    exact fun w hw => ⟨by simp at g1_2; first | (simp [Pl.isTy, g1_2]; done) | (simp [Pl.isTy]; intros; omega), hw.below⟩

theorem has_spec (pn : List UInt8) (tv rv qv : Value) (ts : List Pl.Typ) (rs : List Pl.Rule) (t f : Int) (w : World) (ht : Reads w tv 3 ts.length (tcs ts)) :
    Calls Tryd.prog 49 #[.agg [str pn, tv, rv, qv].toArray, iv t, iv f] w fun e w' => e = .returned (.bool (Pl.isTy ts t && decide (ib .andNot f (Pl.tyOf ts t).flags = 0))) ∧ Below w.heap.size w w' := by
  
  refine enterA (vs := [_, _, _]) Tryd.func49 rfl 20 rfl [(101, .ro tv 3 ts.length (tcs ts))] (MemOk.start1 101 ht) ?_
  refine JQ.seq ?_
  refine JQ.region ?_
  refine JQ.x (JO.box 1 rfl rfl) rfl ?_
  intro i0_0
  refine JQ.v (JV.assign rfl) rfl ?_
  refine JQ.nil ?_
  refine JQ.n_then ?_
  refine JQ.seq ?_
  refine JQ.region ?_
  refine JQ.v (JV.loadV 1 rfl rfl Tryd.isAgg26 Tryd.sizeOf26 rfl) rfl ?_
  refine JQ.v (JV.move rfl) rfl ?_
  refine JQ.v (JV.callM Tryd.call68 (evs_cons rfl (evs_cons rfl evs_nil)) (fun w hw => exists_spec pn tv rv qv ts rs t w (hw.reads (id := 101) rfl))) rfl ?_
  refine JQ.vb (JV.move rfl) rfl (fun g1_3 => ?_) (fun g1_3 => ?_)
  · obtain ⟨t, ht2, rfl⟩ := isTy_nat g1_3
    refine JQ.vg rfl rfl (JV.move rfl) rfl ?_
    refine JQ.vg rfl rfl (JV.fieldAddrK (o := 1) rfl Tryd.runUnderlying26 rfl Tryd.sizeOf22 rfl rfl) rfl ?_
    refine JQ.vg rfl rfl (JV.load1 1 rfl rfl Tryd.isAgg22 (rfl)) rfl ?_
    refine JQ.vg rfl rfl (JV.move rfl) rfl ?_
    refine JQ.vg rfl rfl (JV.idxRo 101 rfl rfl rfl Tryd.runUnderlying22 Tryd.sizeOf51 (by decide) (by omega)) rfl ?_
    refine JQ.vg rfl rfl (JV.fieldAddrRo 101 rfl rfl (by omega) (by decide) Tryd.runUnderlying51 rfl Tryd.sizeOf3 rfl) rfl ?_
    refine JQ.vg rfl rfl (JV.loadR 101 rfl rfl Tryd.isAgg3 (tf1 ts (by omega))) rfl ?_
    refine JQ.vg rfl rfl (JV.call Tryd.call57 (evs_cons rfl (evs_cons rfl evs_nil)) (subset_pure _ _)) rfl ?_
    refine JQ.v (JV.pickT rfl rfl) rfl ?_
    refine JQ.v (JV.assign rfl) rfl ?_
    refine JQ.nil ?_
    refine JQ.n_then ?_
    refine JQ.ret ?_
    refine JQ.done1 Tryd.results49 rfl ?_
    exact fun w hw => ⟨by first | (simp [g1_3]; done) | (simp [g1_3, Pl.tyOf]; first | done | rfl | congr), hw.below⟩
  · refine JQ.g0 rfl rfl rfl rfl ?_
    refine JQ.g0 rfl rfl rfl rfl ?_
    refine JQ.g0 rfl rfl rfl rfl ?_
    refine JQ.g0 rfl rfl rfl rfl ?_
    refine JQ.g0 rfl rfl rfl rfl ?_
    refine JQ.g0 rfl rfl rfl rfl ?_
    refine JQ.g0 rfl rfl rfl rfl ?_
    refine JQ.g0 rfl rfl rfl rfl ?_
    refine JQ.v (JV.pickF rfl rfl) rfl ?_
    refine JQ.v (JV.assign rfl) rfl ?_
    refine JQ.nil ?_
    refine JQ.n_then ?_
    refine JQ.ret ?_
    refine JQ.done1 Tryd.results49 rfl ?_
    exact fun w hw => ⟨by first | (simp [g1_3]; done) | (simp [g1_3, Pl.tyOf]; first | done | rfl | congr), hw.below⟩

theorem rhas_spec (pn : List UInt8) (tv rv qv : Value) (ts : List Pl.Typ) (rs : List Pl.Rule) (t f : Int) (w : World) (ht : Reads w tv 3 ts.length (tcs ts)) :
    Calls Tryd.prog 51 #[.agg [str pn, tv, rv, qv].toArray, iv t, iv f] w fun e w' => e = .returned (.bool (Pl.isTy ts t && decide (ib .and f (Pl.tyOf ts t).flags = f))) ∧ Below w.heap.size w w' := by
  
  refine enterA (vs := [_, _, _]) Tryd.func51 rfl 20 rfl [(101, .ro tv 3 ts.length (tcs ts))] (MemOk.start1 101 ht) ?_
  refine JQ.seq ?_
  refine JQ.region ?_
  refine JQ.x (JO.box 1 rfl rfl) rfl ?_
  intro i0_0
  refine JQ.v (JV.assign rfl) rfl ?_
  refine JQ.nil ?_
  refine JQ.n_then ?_
  refine JQ.seq ?_
  refine JQ.region ?_
  refine JQ.v (JV.loadV 1 rfl rfl Tryd.isAgg26 Tryd.sizeOf26 rfl) rfl ?_
  refine JQ.v (JV.move rfl) rfl ?_
  refine JQ.v (JV.callM Tryd.call41 (evs_cons rfl (evs_cons rfl evs_nil)) (fun w hw => is_spec pn tv rv qv ts rs t w (hw.reads (id := 101) rfl))) rfl ?_
  refine JQ.vb (JV.move rfl) rfl (fun g1_3 => ?_) (fun g1_3 => ?_)
  · obtain ⟨t, ht2, rfl⟩ := isTy_nat g1_3
    refine JQ.vg rfl rfl (JV.move rfl) rfl ?_
    refine JQ.vg rfl rfl (JV.fieldAddrK (o := 1) rfl Tryd.runUnderlying26 rfl Tryd.sizeOf22 rfl rfl) rfl ?_
    refine JQ.vg rfl rfl (JV.load1 1 rfl rfl Tryd.isAgg22 (rfl)) rfl ?_
    refine JQ.vg rfl rfl (JV.move rfl) rfl ?_
    refine JQ.vg rfl rfl (JV.idxRo 101 rfl rfl rfl Tryd.runUnderlying22 Tryd.sizeOf51 (by decide) (by omega)) rfl ?_
    refine JQ.vg rfl rfl (JV.fieldAddrRo 101 rfl rfl (by omega) (by decide) Tryd.runUnderlying51 rfl Tryd.sizeOf3 rfl) rfl ?_
    refine JQ.vg rfl rfl (JV.loadR 101 rfl rfl Tryd.isAgg3 (tf1 ts (by omega))) rfl ?_
    refine JQ.vg rfl rfl (JV.call Tryd.call16 (evs_cons rfl (evs_cons rfl evs_nil)) (rsubset_pure _ _)) rfl ?_
    refine JQ.v (JV.pickT rfl rfl) rfl ?_
    refine JQ.v (JV.assign rfl) rfl ?_
    refine JQ.nil ?_
    refine JQ.n_then ?_
    refine JQ.ret ?_
    refine JQ.done1 Tryd.results51 rfl ?_
    exact fun w hw => ⟨by first | (simp [g1_3]; done) | (simp [g1_3, Pl.tyOf]; first | done | rfl | congr), hw.below⟩
  · refine JQ.g0 rfl rfl rfl rfl ?_
    refine JQ.g0 rfl rfl rfl rfl ?_
    refine JQ.g0 rfl rfl rfl rfl ?_
    refine JQ.g0 rfl rfl rfl rfl ?_
    refine JQ.g0 rfl rfl rfl rfl ?_
    refine JQ.g0 rfl rfl rfl rfl ?_
    refine JQ.g0 rfl rfl rfl rfl ?_
    refine JQ.g0 rfl rfl rfl rfl ?_
    refine JQ.v (JV.pickF rfl rfl) rfl ?_
    refine JQ.v (JV.assign rfl) rfl ?_
    refine JQ.nil ?_
    refine JQ.n_then ?_
    refine JQ.ret ?_
    refine JQ.done1 Tryd.results51 rfl ?_
    exact fun w hw => ⟨by first | (simp [g1_3]; done) | (simp [g1_3, Pl.tyOf]; first | done | rfl | congr), hw.below⟩

theorem value_spec (c : UInt8) (w : World) :
    Calls Tryd.prog 30 #[b8 c] w fun e w' => e = .returned (str (List.replicate 32 c)) ∧ Below w.heap.size w w' := by
  
  refine enterA (vs := [_]) Tryd.func30 rfl 16 rfl [] (MemOk.start w) ?_
  refine JQ.seq ?_
  refine JQ.region ?_
  refine JQ.v (JV.assign rfl) rfl ?_
  refine JQ.nil ?_
  refine JQ.n_then ?_
  refine JQ.seq ?_
  refine JQ.region ?_
  refine JQ.x (JO.makeSlice 7 (i := Tryd.t5) (n := 32) (size := 1) (cs := List.replicate 32 (b8 0)) rfl rfl Tryd.underlying30 (by kernel_rfl) rfl rfl (by decide) (by decide) (by decide) (by decide) (by kernel_rfl)) rfl ?_
  intro i1_0
  refine JQ.v (JV.assign rfl) rfl ?_
  refine JQ.nil ?_
  refine JQ.n_then ?_
  refine JQ.seq ?_
  refine JQ.seq ?_
  refine JQ.region ?_
  refine JQ.v (JV.assign rfl) rfl ?_
  refine JQ.nil ?_
  refine JQ.n_then ?_
  refine JQ.block ?_
  refine JQ.loopI (ι := Nat) (fun i => [(0, b8 c), (3, .slice (some ⟨i1_0, 0, none⟩) 32 32), (4, .int .i64 ((i : Nat) : Int))]) (fun i => [(7, .cells i1_0 (List.replicate i (b8 c) ++ List.replicate (32 - i) (b8 0)) 5 (0, 0))]) (fun i => i ≤ 32) (fun i => 32 - i) 0 (Nat.zero_le _) (subk_cons rfl (subk_cons rfl (subk_cons rfl subk_nil))) (subr_cons rfl subr_nil) ?_
  intro i hi
  refine JQ.seq ?_
  refine JQ.seq ?_
  refine JQ.region ?_
  refine JQ.v (JV.move rfl) rfl ?_
  refine JQ.v (JV.lssN (b := 32) rfl rfl) rfl ?_
  refine JQ.nil ?_
  refine JQ.n_then ?_
  refine JQ.condP rfl (fun h7 => ?_) (fun h7 => ?_)
  · refine JQ.skip ?_
    refine JQ.n_then ?_
    refine JQ.seq ?_
    refine JQ.block ?_
    refine JQ.region ?_
    refine JQ.v (JV.move rfl) rfl ?_
    refine JQ.v (JV.move rfl) rfl ?_
    refine JQ.v (JV.move rfl) rfl ?_
    refine JQ.v (JV.idxSlC rfl rfl Tryd.runUnderlying30 Tryd.sizeOf5 (by omega)) rfl ?_
    refine JQ.s (JO.store1 7 rfl rfl rfl rfl Tryd.sizeOf5 (by show 0 + i * 1 < _; simp; omega)) ?_
    refine JQ.nil ?_
    refine JQ.n_block ?_
    refine JQ.n_then ?_
    refine JQ.region ?_
    refine JQ.v (JV.move rfl) rfl ?_
    refine JQ.v (JV.addN (b := 1) rfl rfl (by omega)) rfl ?_
    refine JQ.v (JV.assign rfl) rfl ?_
    refine JQ.nil ?_
    refine JQ.n_then ?_
    exact JQ.nextI (i + 1) (by omega) (by omega) (subk_cons rfl (subk_cons rfl (subk_cons rfl subk_nil))) (subr_cons (by show some (Res.cells _ (List.set _ (0 + i * 1) _) _ _) = _; rw [Nat.zero_add, Nat.mul_one, fill_step (by omega)]) subr_nil)
  · refine JQ.exit ?_
    refine JQ.e_then ?_
    refine JQ.e_then ?_
    refine JQ.e_here ?_
    refine JQ.n_then ?_
    refine JQ.seq ?_
    have e32 : i = 32 := by omega
    subst e32
    refine JQ.region ?_
    refine JQ.v (JV.move rfl) rfl ?_
    refine JQ.v (JV.bytesStrA 7 (l := List.replicate 32 c) Tryd.runUnderlying30 Tryd.runUnderlying5 Tryd.runUnderlying9 rfl rfl rfl rfl (by decide)) rfl ?_
    refine JQ.v (JV.assign rfl) rfl ?_
    refine JQ.nil ?_
    refine JQ.n_then ?_
    refine JQ.ret ?_
    refine JQ.done1 Tryd.results30 rfl ?_
    exact fun w hw => ⟨rfl, hw.below⟩
end Go.Fw
end
section
open Go.RowKit
set_option maxRecDepth 100000
set_option linter.unusedVariables false
set_option linter.unusedSimpArgs false
namespace Go.Fw
open Go.Proofs
theorem JV.known {P : Program} {w0 : World} {F : FL} {L : ML} {o : Oper} {b c : Bool} (h : JV P w0 F L o (.bool b)) (e : b = c) : JV P w0 F L o (.bool c) := e ▸ h
def byRule : List Value := [iv 1, iv 128, iv 512, iv 2, iv 128, iv 0, iv 3, iv 128, iv 512, iv 4, iv 128, iv 0, iv 5, iv 256, iv 0]
def brc (j : Nat) : List Value := [iv (Pl.br j).1, iv (Pl.br j).2.1, iv (Pl.br j).2.2]
theorem br_at {j : Nat} (h : j < 5) : (byRule.drop (j * 3)).take 3 = brc j := by
  rcases j with _ | _ | _ | _ | _ | j
  · rfl
  · rfl
  · rfl
  · rfl
  · rfl
  · omega
theorem kcs_all (ks : List Pl.Key) : (kcs ks).all Value.oneCell' = true := by
  induction ks with
  | nil => rfl
  | cons k ks ih => rw [kcs_cons, List.all_append, ih]; rfl
theorem elem34 : Elem Tryd.prog 27 34 9 80 := ⟨Tryd.underlying27, ⟨Tryd.t34, _, by kernel_rfl, rfl, rfl, rfl, rfl⟩, by decide⟩
theorem reads_sl {w : World} {v : Value} {s n : Nat} {xs : List Value} (h : Reads w v s n xs) : ∃ aa c, v = .slice aa n c := by obtain ⟨_, a, c, e, _⟩ := h; exact ⟨a, c, e⟩
theorem reads_sln {w : World} {v : Value} {s n : Nat} {xs : List Value} (h : Reads w v s n xs) : ∃ aa c, v = .slice aa n c := reads_sl h
theorem reads_some {w : World} {v : Value} {ks : List Pl.Key} (h : Reads w v 9 ks.length (kcs ks)) (h0 : 0 < ks.length) : ∃ ad c, v = .slice (some ad) ks.length c := by
  obtain ⟨hl, a, c, rfl, _, h3⟩ := h
  rcases h3 with h3 | ⟨ad, rfl, _⟩
  · rw [h3] at hl; simp at hl; omega
  · exact ⟨ad, c, rfl⟩
theorem Reads.clip {w : World} {aa : Option Addr} {s n c : Nat} {xs : List Value} (h : Reads w (.slice aa n c) s n xs) : Reads w (.slice aa n n) s n xs := by
  obtain ⟨hl, a, c', e, hc, h3⟩ := h
  cases e
  exact ⟨hl, aa, n, rfl, ⟨Nat.le_refl _, hc.2⟩, h3⟩
theorem reads_cells9 {w : World} {b n s : Nat} {us cs : List Value} {e : TypeId} {fz : Nat × Nat} (hb : w.heap[b]? = some (.cells cs.toArray e fz)) (hu : cs = us) (hn : us.length = n * s) (hm : n ≤ 9223372036854775807) : Reads w (.slice (some ⟨b, 0, none⟩) n n) s n us := by
  subst hu
  refine ⟨hn, _, n, rfl, ⟨Nat.le_refl _, hm⟩, .inr ⟨_, rfl, rfl, fun j v hj => ?_⟩⟩
  rw [add_plain, cell_of_blk hb, Nat.zero_add]; exact hj
theorem kcs_append (a b : List Pl.Key) : kcs (a ++ b) = kcs a ++ kcs b := by unfold kcs; rw [List.flatMap_append]
theorem kcs_take (ks : List Pl.Key) {i : Nat} (h : i ≤ ks.length) : (kcs ks).take (i * 9) = kcs (ks.take i) := by
  have e : kcs ks = kcs (ks.take i) ++ kcs (ks.drop i) := by rw [← kcs_append, List.take_append_drop]
  have hl : (kcs (ks.take i)).length = i * 9 := by rw [kcs_len, List.length_take, Nat.min_eq_left h]
  rw [e, List.take_append_of_le_length (by omega), List.take_of_length_le (by omega)]
theorem kcs_set (ks : List Pl.Key) {i : Nat} (k : Pl.Key) (h : i < ks.length) : kcs (ks.set i k) = (kcs ks).take (i * 9) ++ kc k ++ (kcs ks).drop (i * 9 + 9) := by
  rw [List.set_eq_take_append_cons_drop, if_pos h, kcs_append, kcs_cons, kcs_take ks (by omega), show i * 9 + 9 = (i + 1) * 9 from by omega, kcs_drop, List.append_assoc]
theorem put_take {ks : List Pl.Key} {i : Nat} {k : Pl.Key} {cs : List Value} (h : i < ks.length) (ht : cs.take (ks.length * 9) = kcs ks) : (cs.take (0 + i * 9) ++ kc k ++ cs.drop (0 + i * 9 + 9)).take (ks.length * 9) = kcs (ks.set i k) := by
  have hl : ks.length * 9 ≤ cs.length := by have := congrArg List.length ht; rw [List.length_take, kcs_len] at this; omega
  have hk : (kc k).length = 9 := rfl
  rw [kcs_set ks k h, Nat.zero_add, ← ht, List.take_take, Nat.min_eq_left (by omega), List.take_append, List.take_of_length_le (by simp [hk]; omega), List.drop_take]
  congr 2
  simp [hk]; omega
def withId (n : Int) (k : Pl.Key) : Pl.Key := { k with id := n }
def alE (ks : List Pl.Key) (id uses now : Int) : Int := if Pl.getE ks id ≠ 0 then Pl.getE ks id else if (!Pl.live (Pl.getK ks id) now) = true then 13 else if ib .andNot uses (Pl.getK ks id).uses ≠ 0 then 10 else 0
def alK (ks : List Pl.Key) (id uses now : Int) : Pl.Key := if alE ks id uses now = 0 then Pl.getK ks id else Pl.Key.zero
def addT (n : Int) (ks : List Pl.Key) (k : Pl.Key) : Pl.Tab := if 2147483647 ≤ n then ⟨0, []⟩ else ⟨n + 1, ks ++ [withId n k]⟩
def addI (n : Int) : Int := if 2147483647 ≤ n then 0 else n
def addE (n : Int) : Int := if 2147483647 ≤ n then 2 else 0
theorem u0G (ts : List Pl.Typ) (rs : List Pl.Rule) (t : Nat) : ib .and (Pl.tyAt ts t).flags 60 = toI (Pl.outG ts rs (t : Int) 0) := rfl
theorem u0R (ts : List Pl.Typ) (rs : List Pl.Rule) (t : Nat) : ib .and (Pl.tyAt ts t).flags 60 = toI (Pl.outR ts rs (t : Int) 0) := rfl
theorem owns_add {w' : World} {N : Nat} {v : Value} {ks : List Pl.Key} {k : Pl.Key} {n : Int} (h : w'.ownsRow N 34 9 v (ks.length + 1) (kcs ks ++ kc k)) : w'.ownsRow N 34 9 v (Pl.Tab.keys ⟨n, ks ++ [k]⟩).length (kcs (Pl.Tab.keys ⟨n, ks ++ [k]⟩)) := by
  show w'.ownsRow N 34 9 v (ks ++ [k]).length (kcs (ks ++ [k]))
  have e : kcs (ks ++ [k]) = kcs ks ++ kc k := by rw [kcs_append, kcs_cons]; simp [kcs]
  rw [List.length_append, e]
  exact h
theorem owns_knil (N : Nat) (w' : World) : w'.ownsRow N 34 9 (.slice none 0 0) (Pl.Tab.keys ⟨0, []⟩).length (kcs (Pl.Tab.keys ⟨0, []⟩)) := ⟨rfl, .inl ⟨rfl, rfl⟩⟩
theorem newRo_knil (w w' : World) : NewRo w (.slice none 0 0) 9 (Pl.Tab.keys ⟨0, []⟩).length (kcs (Pl.Tab.keys ⟨0, []⟩)) w' := newRo_nil w w' 9
attribute [local irreducible] kcs tcs rcs Pl.ix Pl.lb Pl.getE Pl.fnd Pl.nextO Pl.at_ Pl.line Pl.tyAt Pl.isTy Pl.outG Pl.outR
set_option maxHeartbeats 1000000 in
theorem uses_spec (pn : List UInt8) (tv rv qv : Value) (ts : List Pl.Typ) (rs : List Pl.Rule) (htl : ts.length ≤ 1048576) (hrl : rs.length ≤ 1048576) (t : Int) (w : World) (ht : Reads w tv 3 ts.length (tcs ts)) (hru : Reads w rv 3 rs.length (rcs rs)) (hB : Gl 0 byRule w) :
    Calls Tryd.prog 58 #[.agg [str pn, tv, rv, qv].toArray, iv t] w fun e w' => e = .returned (iv (Pl.usesG ts rs t)) ∧ Below w.heap.size w w' := by
  
  refine enterA (vs := [_, _]) Tryd.func58 rfl 56 rfl [(900, .ro (gv 0 15) 1 15 byRule), (101, .ro tv 3 ts.length (tcs ts)), (102, .ro rv 3 rs.length (rcs rs))] (((MemOk.start1 102 hru).addRo 101 ht (ro_cons ro_nil)).addRo 900 hB (ro_cons (ro_cons ro_nil))) ?_
  refine JQ.seq ?_
  refine JQ.region ?_
  refine JQ.x (JO.box 1 rfl rfl) rfl ?_
  intro i0_0
  refine JQ.v (JV.assign rfl) rfl ?_
  refine JQ.nil ?_
  refine JQ.n_then ?_
  refine JQ.seq ?_
  refine JQ.seq ?_
  refine JQ.region ?_
  refine JQ.v (JV.loadV 1 rfl rfl Tryd.isAgg26 Tryd.sizeOf26 rfl) rfl ?_
  refine JQ.v (JV.move rfl) rfl ?_
  refine JQ.v (JV.callM Tryd.call68 (evs_cons rfl (evs_cons rfl evs_nil)) (fun w hw => exists_spec pn tv rv qv ts rs t w (hw.reads (id := 101) rfl))) rfl ?_
  refine JQ.v (JV.notB rfl) rfl ?_
  refine JQ.nil ?_
  refine JQ.n_then ?_
  refine JQ.cond rfl (fun h13 => ?_) (fun h13 => ?_)
  · refine JQ.seq ?_
    refine JQ.region ?_
    refine JQ.v (JV.assign rfl) rfl ?_
    refine JQ.nil ?_
    refine JQ.n_then ?_
    refine JQ.ret ?_
    refine JQ.r_then ?_
    refine JQ.done1 Tryd.results58 rfl ?_
    exact fun w hw => ⟨by rw [Pl.usesG, if_neg (by simpa using h13)], hw.below⟩
  · refine JQ.skip ?_
    refine JQ.n_then ?_
    refine JQ.seq ?_
    obtain ⟨t, ht2, rfl⟩ := isTy_nat (by simpa using h13)
    refine JQ.region ?_
    refine JQ.v (JV.fieldAddrK (o := 1) rfl Tryd.runUnderlying26 rfl Tryd.sizeOf22 rfl rfl) rfl ?_
    refine JQ.v (JV.load1 1 rfl rfl Tryd.isAgg22 (rfl)) rfl ?_
    refine JQ.v (JV.move rfl) rfl ?_
    refine JQ.v (JV.idxRo 101 rfl rfl rfl Tryd.runUnderlying22 Tryd.sizeOf51 (by decide) (by omega)) rfl ?_
    refine JQ.v (JV.fieldAddrRo 101 rfl rfl (by omega) (by decide) Tryd.runUnderlying51 rfl Tryd.sizeOf3 rfl) rfl ?_
    refine JQ.v (JV.loadR 101 rfl rfl Tryd.isAgg3 (tf1 ts (by omega))) rfl ?_
    refine JQ.v (JV.bitI (by decide) rfl rfl) rfl ?_
    rw [u0G ts rs t]
    refine JQ.v (JV.assign rfl) rfl ?_
    refine JQ.nil ?_
    refine JQ.n_then ?_
    refine JQ.seq ?_
    refine JQ.seq ?_
    refine JQ.region ?_
    refine JQ.v (JV.fieldAddrK (o := 2) rfl Tryd.runUnderlying26 rfl Tryd.sizeOf23 rfl rfl) rfl ?_
    refine JQ.v (JV.load1 1 rfl rfl Tryd.isAgg23 (rfl)) rfl ?_
    refine JQ.v (JV.lenRo 102 rfl rfl Tryd.runUnderlying23) rfl ?_
    refine JQ.v (JV.move rfl) rfl ?_
    refine JQ.nil ?_
    refine JQ.n_then ?_
    refine JQ.block ?_
    refine JQ.loopI (ι := Nat) (fun i => [(1, iv (t : Int)), (2, .pointer (some ⟨i0_0, 0, none⟩)), (5, iv (toI (Pl.outG ts rs (t : Int) i))), (22, rv), (23, .int .i64 ((rs.length : Nat) : Int)), (24, .int .i64 ((i : Nat) : Int))]) (fun i => [(1, .cells i0_0 [str pn, tv, rv, qv] 26 (0, 0)), (101, .ro tv 3 ts.length (tcs ts)), (102, .ro rv 3 rs.length (rcs rs)), (900, .ro (gv 0 15) 1 15 byRule)]) (fun i => i ≤ rs.length) (fun i => rs.length - i) 0 (Nat.zero_le _) (subk_cons rfl (subk_cons rfl (subk_cons rfl (subk_cons rfl (subk_cons rfl (subk_cons rfl subk_nil)))))) (subr_cons rfl (subr_cons rfl (subr_cons rfl (subr_cons rfl subr_nil)))) ?_
    intro i hi
    refine JQ.seq ?_
    refine JQ.region ?_
    refine JQ.v (JV.lssN rfl rfl) rfl ?_
    refine JQ.nil ?_
    refine JQ.n_then ?_
    refine JQ.seq ?_
    refine JQ.condP rfl (fun h25 => ?_) (fun h25 => ?_)
    · refine JQ.skip ?_
      refine JQ.n_then ?_
      refine JQ.seq ?_
      refine JQ.block ?_
      refine JQ.seq ?_
      refine JQ.region ?_
      refine JQ.v (JV.idxRo 102 rfl rfl rfl Tryd.runUnderlying23 Tryd.sizeOf88 (by decide) (by omega)) rfl ?_
      refine JQ.v (JV.loadRA 102 rfl rfl Tryd.isAgg88 Tryd.sizeOf88 (us := rcl (Pl.ruleAt rs i)) (rc_at rs (by omega)) rfl (by decide)) rfl ?_
      refine JQ.x (JO.alloc 2 (zs := [iv 0, iv 0, iv 0]) Tryd.zeroValue88 rfl) rfl ?_
      intro i6_2
      refine JQ.s (JO.storeV 2 rfl rfl rfl (us := rcl (Pl.ruleAt rs i)) rfl Tryd.sizeOf88 rfl rfl) ?_
      refine JQ.nil ?_
      refine JQ.n_then ?_
      refine JQ.seq ?_
      refine JQ.region ?_
      refine JQ.v (JV.loadGA 900 rfl rfl Tryd.isAgg115 Tryd.sizeOf115 rfl (by decide)) rfl ?_
      refine JQ.v (JV.move rfl) rfl ?_
      refine JQ.nil ?_
      refine JQ.n_then ?_
      refine JQ.block ?_
      refine JQ.loopI (ι := Nat) (fun j => [(1, iv (t : Int)), (2, .pointer (some ⟨i0_0, 0, none⟩)), (5, iv (toI (Pl.inn (t : Int) (Pl.ruleAt rs i) (Pl.outG ts rs (t : Int) i) j))), (7, .pointer (some ⟨i6_2, 0, none⟩)), (22, rv), (23, .int .i64 ((rs.length : Nat) : Int)), (24, .int .i64 ((i : Nat) : Int)), (28, .agg byRule.toArray), (29, .int .i64 ((j : Nat) : Int))]) (fun j => [(1, .cells i0_0 [str pn, tv, rv, qv] 26 (0, 0)), (2, .cells i6_2 (rcl (Pl.ruleAt rs i)) 88 (0, 0)), (101, .ro tv 3 ts.length (tcs ts)), (102, .ro rv 3 rs.length (rcs rs)), (900, .ro (gv 0 15) 1 15 byRule)]) (fun j => j ≤ 5) (fun j => 5 - j) 0 (Nat.zero_le _) (subk_cons rfl (subk_cons rfl (subk_cons rfl (subk_cons rfl (subk_cons rfl (subk_cons rfl (subk_cons rfl (subk_cons rfl (subk_cons rfl subk_nil))))))))) (subr_cons rfl (subr_cons rfl (subr_cons rfl (subr_cons rfl (subr_cons rfl subr_nil))))) ?_
      intro j hj
      refine JQ.seq ?_
      refine JQ.region ?_
      refine JQ.v (JV.lssN (b := 5) rfl rfl) rfl ?_
      refine JQ.nil ?_
      refine JQ.n_then ?_
      refine JQ.seq ?_
      refine JQ.condP rfl (fun h30 => ?_) (fun h30 => ?_)
      · refine JQ.skip ?_
        refine JQ.n_then ?_
        refine JQ.seq ?_
        refine JQ.block ?_
        refine JQ.seq ?_
        refine JQ.region ?_
        refine JQ.v (JV.idxAggA (us := brc j) rfl rfl Tryd.runUnderlying115 Tryd.sizeOf114 Tryd.isAgg114 (by omega) (br_at (by omega))) rfl ?_
        refine JQ.x (JO.alloc 3 (zs := [iv 0, iv 0, iv 0]) Tryd.zeroValue114 rfl) rfl ?_
        intro i9_1
        refine JQ.s (JO.storeV 3 rfl rfl rfl (us := brc j) rfl Tryd.sizeOf114 rfl rfl) ?_
        refine JQ.nil ?_
        refine JQ.n_then ?_
        refine JQ.seq ?_
        refine JQ.seq ?_
        refine JQ.region ?_
        refine JQ.v (JV.fieldAddrK (o := 0) rfl Tryd.runUnderlying114 rfl Tryd.sizeOf3 rfl rfl) rfl ?_
        refine JQ.v (JV.load1 3 rfl rfl Tryd.isAgg3 (rfl)) rfl ?_
        refine JQ.v (JV.fieldAddrK (o := 0) rfl Tryd.runUnderlying88 rfl Tryd.sizeOf3 rfl rfl) rfl ?_
        refine JQ.v (JV.load1 2 rfl rfl Tryd.isAgg3 (rfl)) rfl ?_
        refine JQ.v (JV.neqI rfl rfl) rfl ?_
        refine JQ.nil ?_
        refine JQ.n_then ?_
        refine JQ.condP rfl (fun h36 => ?_) (fun h36 => ?_)
        · refine JQ.exit ?_
          refine JQ.e_then ?_
          refine JQ.e_here ?_
          refine JQ.n_then ?_
          refine JQ.region ?_
          refine JQ.v (JV.addN (b := 1) rfl rfl (by omega)) rfl ?_
          refine JQ.v (JV.move rfl) rfl ?_
          refine JQ.nil ?_
          refine JQ.n_then ?_
          exact JQ.nextI (j + 1) (by omega) (by omega) (subk_cons rfl (subk_cons rfl (subk_cons (show some (iv (toI _)) = some (iv (toI _)) from by rw [Pl.inn, Pl.eG]; first | (simp [h36]; done) | (simp [Decidable.not_not.1 h36]; done)) (subk_cons rfl (subk_cons rfl (subk_cons rfl (subk_cons rfl (subk_cons rfl (subk_cons rfl subk_nil))))))))) (subr_cons rfl (subr_cons rfl (subr_cons rfl (subr_cons rfl (subr_cons rfl subr_nil)))))
        · refine JQ.skip ?_
          refine JQ.n_then ?_
          refine JQ.seq ?_
          refine JQ.seq ?_
          refine JQ.region ?_
          refine JQ.v (JV.fieldAddrK (o := 1) rfl Tryd.runUnderlying88 rfl Tryd.sizeOf3 rfl rfl) rfl ?_
          refine JQ.v (JV.load1 2 rfl rfl Tryd.isAgg3 (rfl)) rfl ?_
          refine JQ.v (JV.move rfl) rfl ?_
          refine JQ.v (JV.eqlI rfl rfl) rfl ?_
          refine JQ.nil ?_
          refine JQ.n_then ?_
          refine JQ.condP rfl (fun h40 => ?_) (fun h40 => ?_)
          · refine JQ.region ?_
            refine JQ.v (JV.move rfl) rfl ?_
            refine JQ.v (JV.fieldAddrK (o := 1) rfl Tryd.runUnderlying114 rfl Tryd.sizeOf3 rfl rfl) rfl ?_
            refine JQ.v (JV.load1 3 rfl rfl Tryd.isAgg3 (rfl)) rfl ?_
            refine JQ.v (JV.bitI (by decide) rfl rfl) rfl ?_
            rw [ib_or]
            refine JQ.v (JV.assign rfl) rfl ?_
            refine JQ.nil ?_
            refine JQ.n_then ?_
            refine JQ.seq ?_
            refine JQ.region ?_
            refine JQ.v (JV.fieldAddrK (o := 2) rfl Tryd.runUnderlying88 rfl Tryd.sizeOf3 rfl rfl) rfl ?_
            refine JQ.v (JV.load1 2 rfl rfl Tryd.isAgg3 (rfl)) rfl ?_
            refine JQ.v (JV.move rfl) rfl ?_
            refine JQ.v (JV.eqlI rfl rfl) rfl ?_
            refine JQ.nil ?_
            refine JQ.n_then ?_
            refine JQ.condP rfl (fun h48 => ?_) (fun h48 => ?_)
            · refine JQ.region ?_
              refine JQ.v (JV.move rfl) rfl ?_
              refine JQ.v (JV.fieldAddrK (o := 2) rfl Tryd.runUnderlying114 rfl Tryd.sizeOf3 rfl rfl) rfl ?_
              refine JQ.v (JV.load1 3 rfl rfl Tryd.isAgg3 (rfl)) rfl ?_
              refine JQ.v (JV.bitI (by decide) rfl rfl) rfl ?_
              rw [ib_or]
              refine JQ.v (JV.assign rfl) rfl ?_
              refine JQ.nil ?_
              refine JQ.n_block ?_
              refine JQ.n_then ?_
              refine JQ.region ?_
              refine JQ.v (JV.addN (b := 1) rfl rfl (by omega)) rfl ?_
              refine JQ.v (JV.move rfl) rfl ?_
              refine JQ.nil ?_
              refine JQ.n_then ?_
              exact JQ.nextI (j + 1) (by omega) (by omega) (subk_cons rfl (subk_cons rfl (subk_cons (show some (iv (toI _)) = some (iv (toI _)) from by rw [Pl.inn, Pl.eG]; first | (simp [h36, h40, h48]; done) | (simp [Decidable.not_not.1 h36, h40, h48]; done)) (subk_cons rfl (subk_cons rfl (subk_cons rfl (subk_cons rfl (subk_cons rfl (subk_cons rfl subk_nil))))))))) (subr_cons rfl (subr_cons rfl (subr_cons rfl (subr_cons rfl (subr_cons rfl subr_nil)))))
            · refine JQ.skip ?_
              refine JQ.n_block ?_
              refine JQ.n_then ?_
              refine JQ.region ?_
              refine JQ.v (JV.addN (b := 1) rfl rfl (by omega)) rfl ?_
              refine JQ.v (JV.move rfl) rfl ?_
              refine JQ.nil ?_
              refine JQ.n_then ?_
              exact JQ.nextI (j + 1) (by omega) (by omega) (subk_cons rfl (subk_cons rfl (subk_cons (show some (iv (toI _)) = some (iv (toI _)) from by rw [Pl.inn, Pl.eG]; first | (simp [h36, h40, h48]; done) | (simp [Decidable.not_not.1 h36, h40, h48]; done)) (subk_cons rfl (subk_cons rfl (subk_cons rfl (subk_cons rfl (subk_cons rfl (subk_cons rfl subk_nil))))))))) (subr_cons rfl (subr_cons rfl (subr_cons rfl (subr_cons rfl (subr_cons rfl subr_nil)))))
          · refine JQ.skip ?_
            refine JQ.n_then ?_
            refine JQ.seq ?_
            refine JQ.region ?_
            refine JQ.v (JV.fieldAddrK (o := 2) rfl Tryd.runUnderlying88 rfl Tryd.sizeOf3 rfl rfl) rfl ?_
            refine JQ.v (JV.load1 2 rfl rfl Tryd.isAgg3 (rfl)) rfl ?_
            refine JQ.v (JV.move rfl) rfl ?_
            refine JQ.v (JV.eqlI rfl rfl) rfl ?_
            refine JQ.nil ?_
            refine JQ.n_then ?_
            refine JQ.condP rfl (fun h48 => ?_) (fun h48 => ?_)
            · refine JQ.region ?_
              refine JQ.v (JV.move rfl) rfl ?_
              refine JQ.v (JV.fieldAddrK (o := 2) rfl Tryd.runUnderlying114 rfl Tryd.sizeOf3 rfl rfl) rfl ?_
              refine JQ.v (JV.load1 3 rfl rfl Tryd.isAgg3 (rfl)) rfl ?_
              refine JQ.v (JV.bitI (by decide) rfl rfl) rfl ?_
              rw [ib_or]
              refine JQ.v (JV.assign rfl) rfl ?_
              refine JQ.nil ?_
              refine JQ.n_block ?_
              refine JQ.n_then ?_
              refine JQ.region ?_
              refine JQ.v (JV.addN (b := 1) rfl rfl (by omega)) rfl ?_
              refine JQ.v (JV.move rfl) rfl ?_
              refine JQ.nil ?_
              refine JQ.n_then ?_
              exact JQ.nextI (j + 1) (by omega) (by omega) (subk_cons rfl (subk_cons rfl (subk_cons (show some (iv (toI _)) = some (iv (toI _)) from by rw [Pl.inn, Pl.eG]; first | (simp [h36, h40, h48]; done) | (simp [Decidable.not_not.1 h36, h40, h48]; done)) (subk_cons rfl (subk_cons rfl (subk_cons rfl (subk_cons rfl (subk_cons rfl (subk_cons rfl subk_nil))))))))) (subr_cons rfl (subr_cons rfl (subr_cons rfl (subr_cons rfl (subr_cons rfl subr_nil)))))
            · refine JQ.skip ?_
              refine JQ.n_block ?_
              refine JQ.n_then ?_
              refine JQ.region ?_
              refine JQ.v (JV.addN (b := 1) rfl rfl (by omega)) rfl ?_
              refine JQ.v (JV.move rfl) rfl ?_
              refine JQ.nil ?_
              refine JQ.n_then ?_
              exact JQ.nextI (j + 1) (by omega) (by omega) (subk_cons rfl (subk_cons rfl (subk_cons (show some (iv (toI _)) = some (iv (toI _)) from by rw [Pl.inn, Pl.eG]; first | (simp [h36, h40, h48]; done) | (simp [Decidable.not_not.1 h36, h40, h48]; done)) (subk_cons rfl (subk_cons rfl (subk_cons rfl (subk_cons rfl (subk_cons rfl (subk_cons rfl subk_nil))))))))) (subr_cons rfl (subr_cons rfl (subr_cons rfl (subr_cons rfl (subr_cons rfl subr_nil)))))
      · have e5 : j = 5 := by omega
        subst e5
        refine JQ.exit ?_
        refine JQ.e_then ?_
        refine JQ.e_then ?_
        refine JQ.e_here ?_
        refine JQ.n_block ?_
        refine JQ.n_then ?_
        refine JQ.region ?_
        refine JQ.v (JV.addN (b := 1) rfl rfl (by omega)) rfl ?_
        refine JQ.v (JV.move rfl) rfl ?_
        refine JQ.nil ?_
        refine JQ.n_then ?_
        exact JQ.nextI (i + 1) (by omega) (by omega) (subk_cons rfl (subk_cons rfl (subk_cons (show some (iv (toI _)) = some (iv (toI _)) from by rw [Pl.outG]) (subk_cons rfl (subk_cons rfl (subk_cons rfl subk_nil)))))) (subr_cons rfl (subr_cons rfl (subr_cons rfl (subr_cons rfl subr_nil))))
    · have er : i = rs.length := by omega
      subst er
      refine JQ.exit ?_
      refine JQ.e_then ?_
      refine JQ.e_then ?_
      refine JQ.e_here ?_
      refine JQ.n_then ?_
      refine JQ.seq ?_
      refine JQ.region ?_
      refine JQ.v (JV.move rfl) rfl ?_
      refine JQ.v (JV.assign rfl) rfl ?_
      refine JQ.nil ?_
      refine JQ.n_then ?_
      refine JQ.ret ?_
      refine JQ.done1 Tryd.results58 rfl ?_
      exact fun w hw => ⟨by rw [Pl.usesG, if_pos (by simpa using h13)], hw.below⟩

set_option maxHeartbeats 1000000 in
theorem ruses_spec (pn : List UInt8) (tv rv qv : Value) (ts : List Pl.Typ) (rs : List Pl.Rule) (htl : ts.length ≤ 1048576) (hrl : rs.length ≤ 1048576) (t : Int) (w : World) (ht : Reads w tv 3 ts.length (tcs ts)) (hru : Reads w rv 3 rs.length (rcs rs)) :
    Calls Tryd.prog 17 #[.agg [str pn, tv, rv, qv].toArray, iv t] w fun e w' => e = .returned (iv (Pl.usesR ts rs t)) ∧ Below w.heap.size w w' := by
  
  refine enterA (vs := [_, _]) Tryd.func17 rfl 75 rfl [(101, .ro tv 3 ts.length (tcs ts)), (102, .ro rv 3 rs.length (rcs rs))] ((MemOk.start1 102 hru).addRo 101 ht (ro_cons ro_nil)) ?_
  refine JQ.seq ?_
  refine JQ.region ?_
  refine JQ.x (JO.box 1 rfl rfl) rfl ?_
  intro i0_0
  refine JQ.v (JV.assign rfl) rfl ?_
  refine JQ.nil ?_
  refine JQ.n_then ?_
  refine JQ.seq ?_
  refine JQ.seq ?_
  refine JQ.region ?_
  refine JQ.v (JV.loadV 1 rfl rfl Tryd.isAgg26 Tryd.sizeOf26 rfl) rfl ?_
  refine JQ.v (JV.move rfl) rfl ?_
  refine JQ.v (JV.callM Tryd.call41 (evs_cons rfl (evs_cons rfl evs_nil)) (fun w hw => is_spec pn tv rv qv ts rs t w (hw.reads (id := 101) rfl))) rfl ?_
  refine JQ.v (JV.notB rfl) rfl ?_
  refine JQ.nil ?_
  refine JQ.n_then ?_
  refine JQ.cond rfl (fun h11 => ?_) (fun h11 => ?_)
  · refine JQ.seq ?_
    refine JQ.region ?_
    refine JQ.v (JV.assign rfl) rfl ?_
    refine JQ.nil ?_
    refine JQ.n_then ?_
    refine JQ.ret ?_
    refine JQ.r_then ?_
    refine JQ.done1 Tryd.results17 rfl ?_
    exact fun w hw => ⟨by rw [Pl.usesR, if_neg (by simpa using h11)], hw.below⟩
  · refine JQ.skip ?_
    refine JQ.n_then ?_
    refine JQ.seq ?_
    obtain ⟨t, ht2, rfl⟩ := isTy_nat (by simpa using h11)
    refine JQ.region ?_
    refine JQ.v (JV.fieldAddrK (o := 1) rfl Tryd.runUnderlying26 rfl Tryd.sizeOf22 rfl rfl) rfl ?_
    refine JQ.v (JV.load1 1 rfl rfl Tryd.isAgg22 (rfl)) rfl ?_
    refine JQ.v (JV.move rfl) rfl ?_
    refine JQ.v (JV.idxRo 101 rfl rfl rfl Tryd.runUnderlying22 Tryd.sizeOf51 (by decide) (by omega)) rfl ?_
    refine JQ.v (JV.fieldAddrRo 101 rfl rfl (by omega) (by decide) Tryd.runUnderlying51 rfl Tryd.sizeOf3 rfl) rfl ?_
    refine JQ.v (JV.loadR 101 rfl rfl Tryd.isAgg3 (tf1 ts (by omega))) rfl ?_
    refine JQ.v (JV.bitI (by decide) rfl rfl) rfl ?_
    rw [u0R ts rs t]
    refine JQ.v (JV.assign rfl) rfl ?_
    refine JQ.nil ?_
    refine JQ.n_then ?_
    refine JQ.seq ?_
    refine JQ.seq ?_
    refine JQ.region ?_
    refine JQ.v (JV.assign rfl) rfl ?_
    refine JQ.nil ?_
    refine JQ.n_then ?_
    refine JQ.block ?_
    refine JQ.loopI (ι := Nat) (fun i => [(1, iv (t : Int)), (2, .pointer (some ⟨i0_0, 0, none⟩)), (5, iv (toI (Pl.outR ts rs (t : Int) i))), (6, .int .i64 ((i : Nat) : Int))]) (fun i => [(1, .cells i0_0 [str pn, tv, rv, qv] 26 (0, 0)), (101, .ro tv 3 ts.length (tcs ts)), (102, .ro rv 3 rs.length (rcs rs))]) (fun i => i ≤ rs.length) (fun i => rs.length - i) 0 (Nat.zero_le _) (subk_cons rfl (subk_cons rfl (subk_cons rfl (subk_cons rfl subk_nil)))) (subr_cons rfl (subr_cons rfl (subr_cons rfl subr_nil))) ?_
    intro i hi
    refine JQ.seq ?_
    refine JQ.seq ?_
    refine JQ.region ?_
    refine JQ.v (JV.move rfl) rfl ?_
    refine JQ.v (JV.fieldAddrK (o := 2) rfl Tryd.runUnderlying26 rfl Tryd.sizeOf23 rfl rfl) rfl ?_
    refine JQ.v (JV.load1 1 rfl rfl Tryd.isAgg23 (rfl)) rfl ?_
    refine JQ.v (JV.lenRo 102 rfl rfl Tryd.runUnderlying23) rfl ?_
    refine JQ.v (JV.lssN rfl rfl) rfl ?_
    refine JQ.nil ?_
    refine JQ.n_then ?_
    refine JQ.condP rfl (fun h23 => ?_) (fun h23 => ?_)
    · refine JQ.skip ?_
      refine JQ.n_then ?_
      refine JQ.seq ?_
      refine JQ.block ?_
      refine JQ.seq ?_
      refine JQ.region ?_
      refine JQ.v (JV.fieldAddrK (o := 2) rfl Tryd.runUnderlying26 rfl Tryd.sizeOf23 rfl rfl) rfl ?_
      refine JQ.v (JV.load1 1 rfl rfl Tryd.isAgg23 (rfl)) rfl ?_
      refine JQ.v (JV.move rfl) rfl ?_
      refine JQ.v (JV.idxRo 102 rfl rfl rfl Tryd.runUnderlying23 Tryd.sizeOf88 (by decide) (by omega)) rfl ?_
      refine JQ.v (JV.loadRA 102 rfl rfl Tryd.isAgg88 Tryd.sizeOf88 (us := rcl (Pl.ruleAt rs i)) (rc_at rs (by omega)) rfl (by decide)) rfl ?_
      refine JQ.x (JO.alloc 2 (zs := [iv 0, iv 0, iv 0]) Tryd.zeroValue88 rfl) rfl ?_
      intro i7_5
      refine JQ.s (JO.storeV 2 rfl rfl rfl (us := rcl (Pl.ruleAt rs i)) rfl Tryd.sizeOf88 rfl rfl) ?_
      refine JQ.nil ?_
      refine JQ.n_then ?_
      refine JQ.seq ?_
      refine JQ.seq ?_
      refine JQ.region ?_
      refine JQ.v (JV.fieldAddrK (o := 1) rfl Tryd.runUnderlying88 rfl Tryd.sizeOf3 rfl rfl) rfl ?_
      refine JQ.v (JV.load1 2 rfl rfl Tryd.isAgg3 (rfl)) rfl ?_
      refine JQ.v (JV.move rfl) rfl ?_
      refine JQ.v (JV.eqlI rfl rfl) rfl ?_
      refine JQ.vb (JV.move rfl) rfl (fun g8_4 => ?_) (fun g8_4 => ?_)
      · refine JQ.vg rfl rfl (JV.fieldAddrK (o := 0) rfl Tryd.runUnderlying88 rfl Tryd.sizeOf3 rfl rfl) rfl ?_
        refine JQ.vg rfl rfl (JV.load1 2 rfl rfl Tryd.isAgg3 (rfl)) rfl ?_
        refine JQ.vg rfl rfl (JV.geq rfl rfl) rfl ?_
        refine JQ.v (JV.pickT rfl rfl) rfl ?_
        refine JQ.vb (JV.move rfl) rfl (fun g8_9 => ?_) (fun g8_9 => ?_)
        · refine JQ.vg rfl rfl (JV.fieldAddrK (o := 0) rfl Tryd.runUnderlying88 rfl Tryd.sizeOf3 rfl rfl) rfl ?_
          refine JQ.vg rfl rfl (JV.load1 2 rfl rfl Tryd.isAgg3 (rfl)) rfl ?_
          refine JQ.vg rfl rfl (JV.leq rfl rfl) rfl ?_
          refine JQ.v (JV.pickT rfl rfl) rfl ?_
          refine JQ.nil ?_
          refine JQ.n_then ?_
          refine JQ.condP rfl (fun h44 => ?_) (fun h44 => ?_)
          · refine JQ.region ?_
            refine JQ.v (JV.move rfl) rfl ?_
            refine JQ.v (JV.bitI (by decide) rfl rfl) rfl ?_
            rw [ib_or]
            refine JQ.v (JV.assign rfl) rfl ?_
            refine JQ.nil ?_
            refine JQ.n_then ?_
            refine JQ.seq ?_
            refine JQ.seq ?_
            refine JQ.region ?_
            refine JQ.v (JV.fieldAddrK (o := 1) rfl Tryd.runUnderlying88 rfl Tryd.sizeOf3 rfl rfl) rfl ?_
            refine JQ.v (JV.load1 2 rfl rfl Tryd.isAgg3 (rfl)) rfl ?_
            refine JQ.v (JV.move rfl) rfl ?_
            refine JQ.v (JV.eqlI rfl rfl) rfl ?_
            refine JQ.vb (JV.move rfl) rfl (fun g10_4 => ?_) (fun g10_4 => ?_)
            · refine JQ.vg rfl rfl (JV.fieldAddrK (o := 0) rfl Tryd.runUnderlying88 rfl Tryd.sizeOf3 rfl rfl) rfl ?_
              refine JQ.vg rfl rfl (JV.load1 2 rfl rfl Tryd.isAgg3 (rfl)) rfl ?_
              refine JQ.vg rfl rfl (JV.eqlI rfl rfl) rfl ?_
              refine JQ.v (JV.pickT rfl rfl) rfl ?_
              refine JQ.nil ?_
              refine JQ.n_then ?_
              refine JQ.condP rfl (fun h55 => ?_) (fun h55 => ?_)
              · refine JQ.region ?_
                refine JQ.v (JV.move rfl) rfl ?_
                refine JQ.v (JV.bitI (by decide) rfl rfl) rfl ?_
                rw [ib_or]
                refine JQ.v (JV.assign rfl) rfl ?_
                refine JQ.nil ?_
                refine JQ.n_then ?_
                refine JQ.seq ?_
                refine JQ.region ?_
                refine JQ.v (JV.fieldAddrK (o := 2) rfl Tryd.runUnderlying88 rfl Tryd.sizeOf3 rfl rfl) rfl ?_
                refine JQ.v (JV.load1 2 rfl rfl Tryd.isAgg3 (rfl)) rfl ?_
                refine JQ.v (JV.move rfl) rfl ?_
                refine JQ.v (JV.eqlI rfl rfl) rfl ?_
                refine JQ.vb (JV.move rfl) rfl (fun g12_4 => ?_) (fun g12_4 => ?_)
                · refine JQ.vg rfl rfl (JV.fieldAddrK (o := 0) rfl Tryd.runUnderlying88 rfl Tryd.sizeOf3 rfl rfl) rfl ?_
                  refine JQ.vg rfl rfl (JV.load1 2 rfl rfl Tryd.isAgg3 (rfl)) rfl ?_
                  refine JQ.vg rfl rfl (JV.eqlI rfl rfl) rfl ?_
                  refine JQ.vbg rfl rfl (JV.move rfl) rfl (fun g12_8 => ?_) (fun g12_8 => ?_)
                  · refine JQ.g0 rfl rfl rfl rfl ?_
                    refine JQ.g0 rfl rfl rfl rfl ?_
                    refine JQ.g0 rfl rfl rfl rfl ?_
                    refine JQ.vg rfl rfl (JV.pickT rfl rfl) rfl ?_
                    refine JQ.v (JV.pickT rfl rfl) rfl ?_
                    refine JQ.nil ?_
                    refine JQ.n_then ?_
                    refine JQ.condT rfl ?_
                    refine JQ.region ?_
                    refine JQ.v (JV.move rfl) rfl ?_
                    refine JQ.v (JV.bitI (by decide) rfl rfl) rfl ?_
                    rw [ib_or]
                    refine JQ.v (JV.assign rfl) rfl ?_
                    refine JQ.nil ?_
                    refine JQ.n_block ?_
                    refine JQ.n_then ?_
                    refine JQ.region ?_
                    refine JQ.v (JV.move rfl) rfl ?_
                    refine JQ.v (JV.addN (b := 1) rfl rfl (by omega)) rfl ?_
                    refine JQ.v (JV.assign rfl) rfl ?_
                    refine JQ.nil ?_
                    refine JQ.n_then ?_
                    exact JQ.nextI (i + 1) (by omega) (by omega) (subk_cons rfl (subk_cons rfl (subk_cons (show some (iv (toI _)) = some (iv (toI _)) from by first | (exfalso; simp only [decide_eq_true_eq, decide_eq_false_iff_not] at g8_4 g8_9 g10_4 g12_4 g12_8; omega) | (rw [Pl.outR, Pl.r3, Pl.r2, Pl.r1]; simp [g8_4, g8_9, g10_4, g12_4, g12_8, h44, h55]; done)) (subk_cons rfl subk_nil)))) (subr_cons rfl (subr_cons rfl (subr_cons rfl subr_nil)))
                  · refine JQ.vg rfl rfl (JV.fieldAddrK (o := 0) rfl Tryd.runUnderlying88 rfl Tryd.sizeOf3 rfl rfl) rfl ?_
                    refine JQ.vg rfl rfl (JV.load1 2 rfl rfl Tryd.isAgg3 (rfl)) rfl ?_
                    refine JQ.vg rfl rfl (JV.eqlI rfl rfl) rfl ?_
                    refine JQ.vg rfl rfl (JV.pickF rfl rfl) rfl ?_
                    refine JQ.v (JV.pickT rfl rfl) rfl ?_
                    refine JQ.nil ?_
                    refine JQ.n_then ?_
                    refine JQ.condP rfl (fun h71 => ?_) (fun h71 => ?_)
                    · refine JQ.region ?_
                      refine JQ.v (JV.move rfl) rfl ?_
                      refine JQ.v (JV.bitI (by decide) rfl rfl) rfl ?_
                      rw [ib_or]
                      refine JQ.v (JV.assign rfl) rfl ?_
                      refine JQ.nil ?_
                      refine JQ.n_block ?_
                      refine JQ.n_then ?_
                      refine JQ.region ?_
                      refine JQ.v (JV.move rfl) rfl ?_
                      refine JQ.v (JV.addN (b := 1) rfl rfl (by omega)) rfl ?_
                      refine JQ.v (JV.assign rfl) rfl ?_
                      refine JQ.nil ?_
                      refine JQ.n_then ?_
                      exact JQ.nextI (i + 1) (by omega) (by omega) (subk_cons rfl (subk_cons rfl (subk_cons (show some (iv (toI _)) = some (iv (toI _)) from by first | (exfalso; simp only [decide_eq_true_eq, decide_eq_false_iff_not] at g8_4 g8_9 g10_4 g12_4 g12_8; omega) | (rw [Pl.outR, Pl.r3, Pl.r2, Pl.r1]; simp [g8_4, g8_9, g10_4, g12_4, g12_8, h44, h55, h71]; done)) (subk_cons rfl subk_nil)))) (subr_cons rfl (subr_cons rfl (subr_cons rfl subr_nil)))
                    · refine JQ.skip ?_
                      refine JQ.n_block ?_
                      refine JQ.n_then ?_
                      refine JQ.region ?_
                      refine JQ.v (JV.move rfl) rfl ?_
                      refine JQ.v (JV.addN (b := 1) rfl rfl (by omega)) rfl ?_
                      refine JQ.v (JV.assign rfl) rfl ?_
                      refine JQ.nil ?_
                      refine JQ.n_then ?_
                      exact JQ.nextI (i + 1) (by omega) (by omega) (subk_cons rfl (subk_cons rfl (subk_cons (show some (iv (toI _)) = some (iv (toI _)) from by first | (exfalso; simp only [decide_eq_true_eq, decide_eq_false_iff_not] at g8_4 g8_9 g10_4 g12_4 g12_8; omega) | (rw [Pl.outR, Pl.r3, Pl.r2, Pl.r1]; simp [g8_4, g8_9, g10_4, g12_4, g12_8, h44, h55, h71]; done)) (subk_cons rfl subk_nil)))) (subr_cons rfl (subr_cons rfl (subr_cons rfl subr_nil)))
                · refine JQ.g0 rfl rfl rfl rfl ?_
                  refine JQ.g0 rfl rfl rfl rfl ?_
                  refine JQ.g0 rfl rfl rfl rfl ?_
                  refine JQ.g0 rfl rfl rfl rfl ?_
                  refine JQ.gu rfl rfl rfl ?_
                  refine JQ.gu rfl rfl rfl ?_
                  refine JQ.gu rfl rfl rfl ?_
                  refine JQ.g0 rfl rfl rfl rfl ?_
                  refine JQ.v (JV.pickF rfl rfl) rfl ?_
                  refine JQ.nil ?_
                  refine JQ.n_then ?_
                  refine JQ.condF rfl ?_
                  refine JQ.skip ?_
                  refine JQ.n_block ?_
                  refine JQ.n_then ?_
                  refine JQ.region ?_
                  refine JQ.v (JV.move rfl) rfl ?_
                  refine JQ.v (JV.addN (b := 1) rfl rfl (by omega)) rfl ?_
                  refine JQ.v (JV.assign rfl) rfl ?_
                  refine JQ.nil ?_
                  refine JQ.n_then ?_
                  exact JQ.nextI (i + 1) (by omega) (by omega) (subk_cons rfl (subk_cons rfl (subk_cons (show some (iv (toI _)) = some (iv (toI _)) from by first | (exfalso; simp only [decide_eq_true_eq, decide_eq_false_iff_not] at g8_4 g8_9 g10_4 g12_4; omega) | (rw [Pl.outR, Pl.r3, Pl.r2, Pl.r1]; simp [g8_4, g8_9, g10_4, g12_4, h44, h55]; done)) (subk_cons rfl subk_nil)))) (subr_cons rfl (subr_cons rfl (subr_cons rfl subr_nil)))
              · refine JQ.skip ?_
                refine JQ.n_then ?_
                refine JQ.seq ?_
                refine JQ.region ?_
                refine JQ.v (JV.fieldAddrK (o := 2) rfl Tryd.runUnderlying88 rfl Tryd.sizeOf3 rfl rfl) rfl ?_
                refine JQ.v (JV.load1 2 rfl rfl Tryd.isAgg3 (rfl)) rfl ?_
                refine JQ.v (JV.move rfl) rfl ?_
                refine JQ.v (JV.eqlI rfl rfl) rfl ?_
                refine JQ.vb (JV.move rfl) rfl (fun g12_4 => ?_) (fun g12_4 => ?_)
                · refine JQ.vg rfl rfl (JV.fieldAddrK (o := 0) rfl Tryd.runUnderlying88 rfl Tryd.sizeOf3 rfl rfl) rfl ?_
                  refine JQ.vg rfl rfl (JV.load1 2 rfl rfl Tryd.isAgg3 (rfl)) rfl ?_
                  refine JQ.vg rfl rfl (JV.eqlI rfl rfl) rfl ?_
                  refine JQ.vbg rfl rfl (JV.move rfl) rfl (fun g12_8 => ?_) (fun g12_8 => ?_)
                  · refine JQ.g0 rfl rfl rfl rfl ?_
                    refine JQ.g0 rfl rfl rfl rfl ?_
                    refine JQ.g0 rfl rfl rfl rfl ?_
                    refine JQ.vg rfl rfl (JV.pickT rfl rfl) rfl ?_
                    refine JQ.v (JV.pickT rfl rfl) rfl ?_
                    refine JQ.nil ?_
                    refine JQ.n_then ?_
                    refine JQ.condT rfl ?_
                    refine JQ.region ?_
                    refine JQ.v (JV.move rfl) rfl ?_
                    refine JQ.v (JV.bitI (by decide) rfl rfl) rfl ?_
                    rw [ib_or]
                    refine JQ.v (JV.assign rfl) rfl ?_
                    refine JQ.nil ?_
                    refine JQ.n_block ?_
                    refine JQ.n_then ?_
                    refine JQ.region ?_
                    refine JQ.v (JV.move rfl) rfl ?_
                    refine JQ.v (JV.addN (b := 1) rfl rfl (by omega)) rfl ?_
                    refine JQ.v (JV.assign rfl) rfl ?_
                    refine JQ.nil ?_
                    refine JQ.n_then ?_
                    exact JQ.nextI (i + 1) (by omega) (by omega) (subk_cons rfl (subk_cons rfl (subk_cons (show some (iv (toI _)) = some (iv (toI _)) from by first | (exfalso; simp only [decide_eq_true_eq, decide_eq_false_iff_not] at g8_4 g8_9 g10_4 g12_4 g12_8; omega) | (rw [Pl.outR, Pl.r3, Pl.r2, Pl.r1]; simp [g8_4, g8_9, g10_4, g12_4, g12_8, h44, h55]; done)) (subk_cons rfl subk_nil)))) (subr_cons rfl (subr_cons rfl (subr_cons rfl subr_nil)))
                  · refine JQ.vg rfl rfl (JV.fieldAddrK (o := 0) rfl Tryd.runUnderlying88 rfl Tryd.sizeOf3 rfl rfl) rfl ?_
                    refine JQ.vg rfl rfl (JV.load1 2 rfl rfl Tryd.isAgg3 (rfl)) rfl ?_
                    refine JQ.vg rfl rfl (JV.eqlI rfl rfl) rfl ?_
                    refine JQ.vg rfl rfl (JV.pickF rfl rfl) rfl ?_
                    refine JQ.v (JV.pickT rfl rfl) rfl ?_
                    refine JQ.nil ?_
                    refine JQ.n_then ?_
                    refine JQ.condP rfl (fun h71 => ?_) (fun h71 => ?_)
                    · refine JQ.region ?_
                      refine JQ.v (JV.move rfl) rfl ?_
                      refine JQ.v (JV.bitI (by decide) rfl rfl) rfl ?_
                      rw [ib_or]
                      refine JQ.v (JV.assign rfl) rfl ?_
                      refine JQ.nil ?_
                      refine JQ.n_block ?_
                      refine JQ.n_then ?_
                      refine JQ.region ?_
                      refine JQ.v (JV.move rfl) rfl ?_
                      refine JQ.v (JV.addN (b := 1) rfl rfl (by omega)) rfl ?_
                      refine JQ.v (JV.assign rfl) rfl ?_
                      refine JQ.nil ?_
                      refine JQ.n_then ?_
                      exact JQ.nextI (i + 1) (by omega) (by omega) (subk_cons rfl (subk_cons rfl (subk_cons (show some (iv (toI _)) = some (iv (toI _)) from by first | (exfalso; simp only [decide_eq_true_eq, decide_eq_false_iff_not] at g8_4 g8_9 g10_4 g12_4 g12_8; omega) | (rw [Pl.outR, Pl.r3, Pl.r2, Pl.r1]; simp [g8_4, g8_9, g10_4, g12_4, g12_8, h44, h55, h71]; done)) (subk_cons rfl subk_nil)))) (subr_cons rfl (subr_cons rfl (subr_cons rfl subr_nil)))
                    · refine JQ.skip ?_
                      refine JQ.n_block ?_
                      refine JQ.n_then ?_
                      refine JQ.region ?_
                      refine JQ.v (JV.move rfl) rfl ?_
                      refine JQ.v (JV.addN (b := 1) rfl rfl (by omega)) rfl ?_
                      refine JQ.v (JV.assign rfl) rfl ?_
                      refine JQ.nil ?_
                      refine JQ.n_then ?_
                      exact JQ.nextI (i + 1) (by omega) (by omega) (subk_cons rfl (subk_cons rfl (subk_cons (show some (iv (toI _)) = some (iv (toI _)) from by first | (exfalso; simp only [decide_eq_true_eq, decide_eq_false_iff_not] at g8_4 g8_9 g10_4 g12_4 g12_8; omega) | (rw [Pl.outR, Pl.r3, Pl.r2, Pl.r1]; simp [g8_4, g8_9, g10_4, g12_4, g12_8, h44, h55, h71]; done)) (subk_cons rfl subk_nil)))) (subr_cons rfl (subr_cons rfl (subr_cons rfl subr_nil)))
                · refine JQ.g0 rfl rfl rfl rfl ?_
                  refine JQ.g0 rfl rfl rfl rfl ?_
                  refine JQ.g0 rfl rfl rfl rfl ?_
                  refine JQ.g0 rfl rfl rfl rfl ?_
                  refine JQ.gu rfl rfl rfl ?_
                  refine JQ.gu rfl rfl rfl ?_
                  refine JQ.gu rfl rfl rfl ?_
                  refine JQ.g0 rfl rfl rfl rfl ?_
                  refine JQ.v (JV.pickF rfl rfl) rfl ?_
                  refine JQ.nil ?_
                  refine JQ.n_then ?_
                  refine JQ.condF rfl ?_
                  refine JQ.skip ?_
                  refine JQ.n_block ?_
                  refine JQ.n_then ?_
                  refine JQ.region ?_
                  refine JQ.v (JV.move rfl) rfl ?_
                  refine JQ.v (JV.addN (b := 1) rfl rfl (by omega)) rfl ?_
                  refine JQ.v (JV.assign rfl) rfl ?_
                  refine JQ.nil ?_
                  refine JQ.n_then ?_
                  exact JQ.nextI (i + 1) (by omega) (by omega) (subk_cons rfl (subk_cons rfl (subk_cons (show some (iv (toI _)) = some (iv (toI _)) from by first | (exfalso; simp only [decide_eq_true_eq, decide_eq_false_iff_not] at g8_4 g8_9 g10_4 g12_4; omega) | (rw [Pl.outR, Pl.r3, Pl.r2, Pl.r1]; simp [g8_4, g8_9, g10_4, g12_4, h44, h55]; done)) (subk_cons rfl subk_nil)))) (subr_cons rfl (subr_cons rfl (subr_cons rfl subr_nil)))
            · refine JQ.g0 rfl rfl rfl rfl ?_
              refine JQ.g0 rfl rfl rfl rfl ?_
              refine JQ.g0 rfl rfl rfl rfl ?_
              refine JQ.v (JV.pickF rfl rfl) rfl ?_
              refine JQ.nil ?_
              refine JQ.n_then ?_
              refine JQ.condF rfl ?_
              refine JQ.skip ?_
              refine JQ.n_then ?_
              refine JQ.seq ?_
              refine JQ.region ?_
              refine JQ.v (JV.fieldAddrK (o := 2) rfl Tryd.runUnderlying88 rfl Tryd.sizeOf3 rfl rfl) rfl ?_
              refine JQ.v (JV.load1 2 rfl rfl Tryd.isAgg3 (rfl)) rfl ?_
              refine JQ.v (JV.move rfl) rfl ?_
              refine JQ.v (JV.eqlI rfl rfl) rfl ?_
              refine JQ.vb (JV.move rfl) rfl (fun g12_4 => ?_) (fun g12_4 => ?_)
              · refine JQ.vg rfl rfl (JV.fieldAddrK (o := 0) rfl Tryd.runUnderlying88 rfl Tryd.sizeOf3 rfl rfl) rfl ?_
                refine JQ.vg rfl rfl (JV.load1 2 rfl rfl Tryd.isAgg3 (rfl)) rfl ?_
                refine JQ.vg rfl rfl (JV.eqlI rfl rfl) rfl ?_
                refine JQ.vbg rfl rfl (JV.move rfl) rfl (fun g12_8 => ?_) (fun g12_8 => ?_)
                · refine JQ.g0 rfl rfl rfl rfl ?_
                  refine JQ.g0 rfl rfl rfl rfl ?_
                  refine JQ.g0 rfl rfl rfl rfl ?_
                  refine JQ.vg rfl rfl (JV.pickT rfl rfl) rfl ?_
                  refine JQ.v (JV.pickT rfl rfl) rfl ?_
                  refine JQ.nil ?_
                  refine JQ.n_then ?_
                  refine JQ.condT rfl ?_
                  refine JQ.region ?_
                  refine JQ.v (JV.move rfl) rfl ?_
                  refine JQ.v (JV.bitI (by decide) rfl rfl) rfl ?_
                  rw [ib_or]
                  refine JQ.v (JV.assign rfl) rfl ?_
                  refine JQ.nil ?_
                  refine JQ.n_block ?_
                  refine JQ.n_then ?_
                  refine JQ.region ?_
                  refine JQ.v (JV.move rfl) rfl ?_
                  refine JQ.v (JV.addN (b := 1) rfl rfl (by omega)) rfl ?_
                  refine JQ.v (JV.assign rfl) rfl ?_
                  refine JQ.nil ?_
                  refine JQ.n_then ?_
                  exact JQ.nextI (i + 1) (by omega) (by omega) (subk_cons rfl (subk_cons rfl (subk_cons (show some (iv (toI _)) = some (iv (toI _)) from by first | (exfalso; simp only [decide_eq_true_eq, decide_eq_false_iff_not] at g8_4 g8_9 g10_4 g12_4 g12_8; omega) | (rw [Pl.outR, Pl.r3, Pl.r2, Pl.r1]; simp [g8_4, g8_9, g10_4, g12_4, g12_8, h44]; done)) (subk_cons rfl subk_nil)))) (subr_cons rfl (subr_cons rfl (subr_cons rfl subr_nil)))
                · refine JQ.vg rfl rfl (JV.fieldAddrK (o := 0) rfl Tryd.runUnderlying88 rfl Tryd.sizeOf3 rfl rfl) rfl ?_
                  refine JQ.vg rfl rfl (JV.load1 2 rfl rfl Tryd.isAgg3 (rfl)) rfl ?_
                  refine JQ.vg rfl rfl (JV.eqlI rfl rfl) rfl ?_
                  refine JQ.vg rfl rfl (JV.pickF rfl rfl) rfl ?_
                  refine JQ.v (JV.pickT rfl rfl) rfl ?_
                  refine JQ.nil ?_
                  refine JQ.n_then ?_
                  refine JQ.condP rfl (fun h71 => ?_) (fun h71 => ?_)
                  · refine JQ.region ?_
                    refine JQ.v (JV.move rfl) rfl ?_
                    refine JQ.v (JV.bitI (by decide) rfl rfl) rfl ?_
                    rw [ib_or]
                    refine JQ.v (JV.assign rfl) rfl ?_
                    refine JQ.nil ?_
                    refine JQ.n_block ?_
                    refine JQ.n_then ?_
                    refine JQ.region ?_
                    refine JQ.v (JV.move rfl) rfl ?_
                    refine JQ.v (JV.addN (b := 1) rfl rfl (by omega)) rfl ?_
                    refine JQ.v (JV.assign rfl) rfl ?_
                    refine JQ.nil ?_
                    refine JQ.n_then ?_
                    exact JQ.nextI (i + 1) (by omega) (by omega) (subk_cons rfl (subk_cons rfl (subk_cons (show some (iv (toI _)) = some (iv (toI _)) from by first | (exfalso; simp only [decide_eq_true_eq, decide_eq_false_iff_not] at g8_4 g8_9 g10_4 g12_4 g12_8; omega) | (rw [Pl.outR, Pl.r3, Pl.r2, Pl.r1]; simp [g8_4, g8_9, g10_4, g12_4, g12_8, h44, h71]; done)) (subk_cons rfl subk_nil)))) (subr_cons rfl (subr_cons rfl (subr_cons rfl subr_nil)))
                  · refine JQ.skip ?_
                    refine JQ.n_block ?_
                    refine JQ.n_then ?_
                    refine JQ.region ?_
                    refine JQ.v (JV.move rfl) rfl ?_
                    refine JQ.v (JV.addN (b := 1) rfl rfl (by omega)) rfl ?_
                    refine JQ.v (JV.assign rfl) rfl ?_
                    refine JQ.nil ?_
                    refine JQ.n_then ?_
                    exact JQ.nextI (i + 1) (by omega) (by omega) (subk_cons rfl (subk_cons rfl (subk_cons (show some (iv (toI _)) = some (iv (toI _)) from by first | (exfalso; simp only [decide_eq_true_eq, decide_eq_false_iff_not] at g8_4 g8_9 g10_4 g12_4 g12_8; omega) | (rw [Pl.outR, Pl.r3, Pl.r2, Pl.r1]; simp [g8_4, g8_9, g10_4, g12_4, g12_8, h44, h71]; done)) (subk_cons rfl subk_nil)))) (subr_cons rfl (subr_cons rfl (subr_cons rfl subr_nil)))
              · refine JQ.g0 rfl rfl rfl rfl ?_
                refine JQ.g0 rfl rfl rfl rfl ?_
                refine JQ.g0 rfl rfl rfl rfl ?_
                refine JQ.g0 rfl rfl rfl rfl ?_
                refine JQ.gu rfl rfl rfl ?_
                refine JQ.gu rfl rfl rfl ?_
                refine JQ.gu rfl rfl rfl ?_
                refine JQ.g0 rfl rfl rfl rfl ?_
                refine JQ.v (JV.pickF rfl rfl) rfl ?_
                refine JQ.nil ?_
                refine JQ.n_then ?_
                refine JQ.condF rfl ?_
                refine JQ.skip ?_
                refine JQ.n_block ?_
                refine JQ.n_then ?_
                refine JQ.region ?_
                refine JQ.v (JV.move rfl) rfl ?_
                refine JQ.v (JV.addN (b := 1) rfl rfl (by omega)) rfl ?_
                refine JQ.v (JV.assign rfl) rfl ?_
                refine JQ.nil ?_
                refine JQ.n_then ?_
                exact JQ.nextI (i + 1) (by omega) (by omega) (subk_cons rfl (subk_cons rfl (subk_cons (show some (iv (toI _)) = some (iv (toI _)) from by first | (exfalso; simp only [decide_eq_true_eq, decide_eq_false_iff_not] at g8_4 g8_9 g10_4 g12_4; omega) | (rw [Pl.outR, Pl.r3, Pl.r2, Pl.r1]; simp [g8_4, g8_9, g10_4, g12_4, h44]; done)) (subk_cons rfl subk_nil)))) (subr_cons rfl (subr_cons rfl (subr_cons rfl subr_nil)))
          · refine JQ.skip ?_
            refine JQ.n_then ?_
            refine JQ.seq ?_
            refine JQ.seq ?_
            refine JQ.region ?_
            refine JQ.v (JV.fieldAddrK (o := 1) rfl Tryd.runUnderlying88 rfl Tryd.sizeOf3 rfl rfl) rfl ?_
            refine JQ.v (JV.load1 2 rfl rfl Tryd.isAgg3 (rfl)) rfl ?_
            refine JQ.v (JV.move rfl) rfl ?_
            refine JQ.v (JV.eqlI rfl rfl) rfl ?_
            refine JQ.vb (JV.move rfl) rfl (fun g10_4 => ?_) (fun g10_4 => ?_)
            · refine JQ.vg rfl rfl (JV.fieldAddrK (o := 0) rfl Tryd.runUnderlying88 rfl Tryd.sizeOf3 rfl rfl) rfl ?_
              refine JQ.vg rfl rfl (JV.load1 2 rfl rfl Tryd.isAgg3 (rfl)) rfl ?_
              refine JQ.vg rfl rfl (JV.eqlI rfl rfl) rfl ?_
              refine JQ.v (JV.pickT rfl rfl) rfl ?_
              refine JQ.nil ?_
              refine JQ.n_then ?_
              refine JQ.condP rfl (fun h55 => ?_) (fun h55 => ?_)
              · refine JQ.region ?_
                refine JQ.v (JV.move rfl) rfl ?_
                refine JQ.v (JV.bitI (by decide) rfl rfl) rfl ?_
                rw [ib_or]
                refine JQ.v (JV.assign rfl) rfl ?_
                refine JQ.nil ?_
                refine JQ.n_then ?_
                refine JQ.seq ?_
                refine JQ.region ?_
                refine JQ.v (JV.fieldAddrK (o := 2) rfl Tryd.runUnderlying88 rfl Tryd.sizeOf3 rfl rfl) rfl ?_
                refine JQ.v (JV.load1 2 rfl rfl Tryd.isAgg3 (rfl)) rfl ?_
                refine JQ.v (JV.move rfl) rfl ?_
                refine JQ.v (JV.eqlI rfl rfl) rfl ?_
                refine JQ.vb (JV.move rfl) rfl (fun g12_4 => ?_) (fun g12_4 => ?_)
                · refine JQ.vg rfl rfl (JV.fieldAddrK (o := 0) rfl Tryd.runUnderlying88 rfl Tryd.sizeOf3 rfl rfl) rfl ?_
                  refine JQ.vg rfl rfl (JV.load1 2 rfl rfl Tryd.isAgg3 (rfl)) rfl ?_
                  refine JQ.vg rfl rfl (JV.eqlI rfl rfl) rfl ?_
                  refine JQ.vbg rfl rfl (JV.move rfl) rfl (fun g12_8 => ?_) (fun g12_8 => ?_)
                  · refine JQ.g0 rfl rfl rfl rfl ?_
                    refine JQ.g0 rfl rfl rfl rfl ?_
                    refine JQ.g0 rfl rfl rfl rfl ?_
                    refine JQ.vg rfl rfl (JV.pickT rfl rfl) rfl ?_
                    refine JQ.v (JV.pickT rfl rfl) rfl ?_
                    refine JQ.nil ?_
                    refine JQ.n_then ?_
                    refine JQ.condT rfl ?_
                    refine JQ.region ?_
                    refine JQ.v (JV.move rfl) rfl ?_
                    refine JQ.v (JV.bitI (by decide) rfl rfl) rfl ?_
                    rw [ib_or]
                    refine JQ.v (JV.assign rfl) rfl ?_
                    refine JQ.nil ?_
                    refine JQ.n_block ?_
                    refine JQ.n_then ?_
                    refine JQ.region ?_
                    refine JQ.v (JV.move rfl) rfl ?_
                    refine JQ.v (JV.addN (b := 1) rfl rfl (by omega)) rfl ?_
                    refine JQ.v (JV.assign rfl) rfl ?_
                    refine JQ.nil ?_
                    refine JQ.n_then ?_
                    exact JQ.nextI (i + 1) (by omega) (by omega) (subk_cons rfl (subk_cons rfl (subk_cons (show some (iv (toI _)) = some (iv (toI _)) from by first | (exfalso; simp only [decide_eq_true_eq, decide_eq_false_iff_not] at g8_4 g8_9 g10_4 g12_4 g12_8; omega) | (rw [Pl.outR, Pl.r3, Pl.r2, Pl.r1]; simp [g8_4, g8_9, g10_4, g12_4, g12_8, h44, h55]; done)) (subk_cons rfl subk_nil)))) (subr_cons rfl (subr_cons rfl (subr_cons rfl subr_nil)))
                  · refine JQ.vg rfl rfl (JV.fieldAddrK (o := 0) rfl Tryd.runUnderlying88 rfl Tryd.sizeOf3 rfl rfl) rfl ?_
                    refine JQ.vg rfl rfl (JV.load1 2 rfl rfl Tryd.isAgg3 (rfl)) rfl ?_
                    refine JQ.vg rfl rfl (JV.eqlI rfl rfl) rfl ?_
                    refine JQ.vg rfl rfl (JV.pickF rfl rfl) rfl ?_
                    refine JQ.v (JV.pickT rfl rfl) rfl ?_
                    refine JQ.nil ?_
                    refine JQ.n_then ?_
                    refine JQ.condP rfl (fun h71 => ?_) (fun h71 => ?_)
                    · refine JQ.region ?_
                      refine JQ.v (JV.move rfl) rfl ?_
                      refine JQ.v (JV.bitI (by decide) rfl rfl) rfl ?_
                      rw [ib_or]
                      refine JQ.v (JV.assign rfl) rfl ?_
                      refine JQ.nil ?_
                      refine JQ.n_block ?_
                      refine JQ.n_then ?_
                      refine JQ.region ?_
                      refine JQ.v (JV.move rfl) rfl ?_
                      refine JQ.v (JV.addN (b := 1) rfl rfl (by omega)) rfl ?_
                      refine JQ.v (JV.assign rfl) rfl ?_
                      refine JQ.nil ?_
                      refine JQ.n_then ?_
                      exact JQ.nextI (i + 1) (by omega) (by omega) (subk_cons rfl (subk_cons rfl (subk_cons (show some (iv (toI _)) = some (iv (toI _)) from by first | (exfalso; simp only [decide_eq_true_eq, decide_eq_false_iff_not] at g8_4 g8_9 g10_4 g12_4 g12_8; omega) | (rw [Pl.outR, Pl.r3, Pl.r2, Pl.r1]; simp [g8_4, g8_9, g10_4, g12_4, g12_8, h44, h55, h71]; done)) (subk_cons rfl subk_nil)))) (subr_cons rfl (subr_cons rfl (subr_cons rfl subr_nil)))
                    · refine JQ.skip ?_
                      refine JQ.n_block ?_
                      refine JQ.n_then ?_
                      refine JQ.region ?_
                      refine JQ.v (JV.move rfl) rfl ?_
                      refine JQ.v (JV.addN (b := 1) rfl rfl (by omega)) rfl ?_
                      refine JQ.v (JV.assign rfl) rfl ?_
                      refine JQ.nil ?_
                      refine JQ.n_then ?_
                      exact JQ.nextI (i + 1) (by omega) (by omega) (subk_cons rfl (subk_cons rfl (subk_cons (show some (iv (toI _)) = some (iv (toI _)) from by first | (exfalso; simp only [decide_eq_true_eq, decide_eq_false_iff_not] at g8_4 g8_9 g10_4 g12_4 g12_8; omega) | (rw [Pl.outR, Pl.r3, Pl.r2, Pl.r1]; simp [g8_4, g8_9, g10_4, g12_4, g12_8, h44, h55, h71]; done)) (subk_cons rfl subk_nil)))) (subr_cons rfl (subr_cons rfl (subr_cons rfl subr_nil)))
                · refine JQ.g0 rfl rfl rfl rfl ?_
                  refine JQ.g0 rfl rfl rfl rfl ?_
                  refine JQ.g0 rfl rfl rfl rfl ?_
                  refine JQ.g0 rfl rfl rfl rfl ?_
                  refine JQ.gu rfl rfl rfl ?_
                  refine JQ.gu rfl rfl rfl ?_
                  refine JQ.gu rfl rfl rfl ?_
                  refine JQ.g0 rfl rfl rfl rfl ?_
                  refine JQ.v (JV.pickF rfl rfl) rfl ?_
                  refine JQ.nil ?_
                  refine JQ.n_then ?_
                  refine JQ.condF rfl ?_
                  refine JQ.skip ?_
                  refine JQ.n_block ?_
                  refine JQ.n_then ?_
                  refine JQ.region ?_
                  refine JQ.v (JV.move rfl) rfl ?_
                  refine JQ.v (JV.addN (b := 1) rfl rfl (by omega)) rfl ?_
                  refine JQ.v (JV.assign rfl) rfl ?_
                  refine JQ.nil ?_
                  refine JQ.n_then ?_
                  exact JQ.nextI (i + 1) (by omega) (by omega) (subk_cons rfl (subk_cons rfl (subk_cons (show some (iv (toI _)) = some (iv (toI _)) from by first | (exfalso; simp only [decide_eq_true_eq, decide_eq_false_iff_not] at g8_4 g8_9 g10_4 g12_4; omega) | (rw [Pl.outR, Pl.r3, Pl.r2, Pl.r1]; simp [g8_4, g8_9, g10_4, g12_4, h44, h55]; done)) (subk_cons rfl subk_nil)))) (subr_cons rfl (subr_cons rfl (subr_cons rfl subr_nil)))
              · refine JQ.skip ?_
                refine JQ.n_then ?_
                refine JQ.seq ?_
                refine JQ.region ?_
                refine JQ.v (JV.fieldAddrK (o := 2) rfl Tryd.runUnderlying88 rfl Tryd.sizeOf3 rfl rfl) rfl ?_
                refine JQ.v (JV.load1 2 rfl rfl Tryd.isAgg3 (rfl)) rfl ?_
                refine JQ.v (JV.move rfl) rfl ?_
                refine JQ.v (JV.eqlI rfl rfl) rfl ?_
                refine JQ.vb (JV.move rfl) rfl (fun g12_4 => ?_) (fun g12_4 => ?_)
                · refine JQ.vg rfl rfl (JV.fieldAddrK (o := 0) rfl Tryd.runUnderlying88 rfl Tryd.sizeOf3 rfl rfl) rfl ?_
                  refine JQ.vg rfl rfl (JV.load1 2 rfl rfl Tryd.isAgg3 (rfl)) rfl ?_
                  refine JQ.vg rfl rfl (JV.eqlI rfl rfl) rfl ?_
                  refine JQ.vbg rfl rfl (JV.move rfl) rfl (fun g12_8 => ?_) (fun g12_8 => ?_)
                  · refine JQ.g0 rfl rfl rfl rfl ?_
                    refine JQ.g0 rfl rfl rfl rfl ?_
                    refine JQ.g0 rfl rfl rfl rfl ?_
                    refine JQ.vg rfl rfl (JV.pickT rfl rfl) rfl ?_
                    refine JQ.v (JV.pickT rfl rfl) rfl ?_
                    refine JQ.nil ?_
                    refine JQ.n_then ?_
                    refine JQ.condT rfl ?_
                    refine JQ.region ?_
                    refine JQ.v (JV.move rfl) rfl ?_
                    refine JQ.v (JV.bitI (by decide) rfl rfl) rfl ?_
                    rw [ib_or]
                    refine JQ.v (JV.assign rfl) rfl ?_
                    refine JQ.nil ?_
                    refine JQ.n_block ?_
                    refine JQ.n_then ?_
                    refine JQ.region ?_
                    refine JQ.v (JV.move rfl) rfl ?_
                    refine JQ.v (JV.addN (b := 1) rfl rfl (by omega)) rfl ?_
                    refine JQ.v (JV.assign rfl) rfl ?_
                    refine JQ.nil ?_
                    refine JQ.n_then ?_
                    exact JQ.nextI (i + 1) (by omega) (by omega) (subk_cons rfl (subk_cons rfl (subk_cons (show some (iv (toI _)) = some (iv (toI _)) from by first | (exfalso; simp only [decide_eq_true_eq, decide_eq_false_iff_not] at g8_4 g8_9 g10_4 g12_4 g12_8; omega) | (rw [Pl.outR, Pl.r3, Pl.r2, Pl.r1]; simp [g8_4, g8_9, g10_4, g12_4, g12_8, h44, h55]; done)) (subk_cons rfl subk_nil)))) (subr_cons rfl (subr_cons rfl (subr_cons rfl subr_nil)))
                  · refine JQ.vg rfl rfl (JV.fieldAddrK (o := 0) rfl Tryd.runUnderlying88 rfl Tryd.sizeOf3 rfl rfl) rfl ?_
                    refine JQ.vg rfl rfl (JV.load1 2 rfl rfl Tryd.isAgg3 (rfl)) rfl ?_
                    refine JQ.vg rfl rfl (JV.eqlI rfl rfl) rfl ?_
                    refine JQ.vg rfl rfl (JV.pickF rfl rfl) rfl ?_
                    refine JQ.v (JV.pickT rfl rfl) rfl ?_
                    refine JQ.nil ?_
                    refine JQ.n_then ?_
                    refine JQ.condP rfl (fun h71 => ?_) (fun h71 => ?_)
                    · refine JQ.region ?_
                      refine JQ.v (JV.move rfl) rfl ?_
                      refine JQ.v (JV.bitI (by decide) rfl rfl) rfl ?_
                      rw [ib_or]
                      refine JQ.v (JV.assign rfl) rfl ?_
                      refine JQ.nil ?_
                      refine JQ.n_block ?_
                      refine JQ.n_then ?_
                      refine JQ.region ?_
                      refine JQ.v (JV.move rfl) rfl ?_
                      refine JQ.v (JV.addN (b := 1) rfl rfl (by omega)) rfl ?_
                      refine JQ.v (JV.assign rfl) rfl ?_
                      refine JQ.nil ?_
                      refine JQ.n_then ?_
                      exact JQ.nextI (i + 1) (by omega) (by omega) (subk_cons rfl (subk_cons rfl (subk_cons (show some (iv (toI _)) = some (iv (toI _)) from by first | (exfalso; simp only [decide_eq_true_eq, decide_eq_false_iff_not] at g8_4 g8_9 g10_4 g12_4 g12_8; omega) | (rw [Pl.outR, Pl.r3, Pl.r2, Pl.r1]; simp [g8_4, g8_9, g10_4, g12_4, g12_8, h44, h55, h71]; done)) (subk_cons rfl subk_nil)))) (subr_cons rfl (subr_cons rfl (subr_cons rfl subr_nil)))
                    · refine JQ.skip ?_
                      refine JQ.n_block ?_
                      refine JQ.n_then ?_
                      refine JQ.region ?_
                      refine JQ.v (JV.move rfl) rfl ?_
                      refine JQ.v (JV.addN (b := 1) rfl rfl (by omega)) rfl ?_
                      refine JQ.v (JV.assign rfl) rfl ?_
                      refine JQ.nil ?_
                      refine JQ.n_then ?_
                      exact JQ.nextI (i + 1) (by omega) (by omega) (subk_cons rfl (subk_cons rfl (subk_cons (show some (iv (toI _)) = some (iv (toI _)) from by first | (exfalso; simp only [decide_eq_true_eq, decide_eq_false_iff_not] at g8_4 g8_9 g10_4 g12_4 g12_8; omega) | (rw [Pl.outR, Pl.r3, Pl.r2, Pl.r1]; simp [g8_4, g8_9, g10_4, g12_4, g12_8, h44, h55, h71]; done)) (subk_cons rfl subk_nil)))) (subr_cons rfl (subr_cons rfl (subr_cons rfl subr_nil)))
                · refine JQ.g0 rfl rfl rfl rfl ?_
                  refine JQ.g0 rfl rfl rfl rfl ?_
                  refine JQ.g0 rfl rfl rfl rfl ?_
                  refine JQ.g0 rfl rfl rfl rfl ?_
                  refine JQ.gu rfl rfl rfl ?_
                  refine JQ.gu rfl rfl rfl ?_
                  refine JQ.gu rfl rfl rfl ?_
                  refine JQ.g0 rfl rfl rfl rfl ?_
                  refine JQ.v (JV.pickF rfl rfl) rfl ?_
                  refine JQ.nil ?_
                  refine JQ.n_then ?_
                  refine JQ.condF rfl ?_
                  refine JQ.skip ?_
                  refine JQ.n_block ?_
                  refine JQ.n_then ?_
                  refine JQ.region ?_
                  refine JQ.v (JV.move rfl) rfl ?_
                  refine JQ.v (JV.addN (b := 1) rfl rfl (by omega)) rfl ?_
                  refine JQ.v (JV.assign rfl) rfl ?_
                  refine JQ.nil ?_
                  refine JQ.n_then ?_
                  exact JQ.nextI (i + 1) (by omega) (by omega) (subk_cons rfl (subk_cons rfl (subk_cons (show some (iv (toI _)) = some (iv (toI _)) from by first | (exfalso; simp only [decide_eq_true_eq, decide_eq_false_iff_not] at g8_4 g8_9 g10_4 g12_4; omega) | (rw [Pl.outR, Pl.r3, Pl.r2, Pl.r1]; simp [g8_4, g8_9, g10_4, g12_4, h44, h55]; done)) (subk_cons rfl subk_nil)))) (subr_cons rfl (subr_cons rfl (subr_cons rfl subr_nil)))
            · refine JQ.g0 rfl rfl rfl rfl ?_
              refine JQ.g0 rfl rfl rfl rfl ?_
              refine JQ.g0 rfl rfl rfl rfl ?_
              refine JQ.v (JV.pickF rfl rfl) rfl ?_
              refine JQ.nil ?_
              refine JQ.n_then ?_
              refine JQ.condF rfl ?_
              refine JQ.skip ?_
              refine JQ.n_then ?_
              refine JQ.seq ?_
              refine JQ.region ?_
              refine JQ.v (JV.fieldAddrK (o := 2) rfl Tryd.runUnderlying88 rfl Tryd.sizeOf3 rfl rfl) rfl ?_
              refine JQ.v (JV.load1 2 rfl rfl Tryd.isAgg3 (rfl)) rfl ?_
              refine JQ.v (JV.move rfl) rfl ?_
              refine JQ.v (JV.eqlI rfl rfl) rfl ?_
              refine JQ.vb (JV.move rfl) rfl (fun g12_4 => ?_) (fun g12_4 => ?_)
              · refine JQ.vg rfl rfl (JV.fieldAddrK (o := 0) rfl Tryd.runUnderlying88 rfl Tryd.sizeOf3 rfl rfl) rfl ?_
                refine JQ.vg rfl rfl (JV.load1 2 rfl rfl Tryd.isAgg3 (rfl)) rfl ?_
                refine JQ.vg rfl rfl (JV.eqlI rfl rfl) rfl ?_
                refine JQ.vbg rfl rfl (JV.move rfl) rfl (fun g12_8 => ?_) (fun g12_8 => ?_)
                · refine JQ.g0 rfl rfl rfl rfl ?_
                  refine JQ.g0 rfl rfl rfl rfl ?_
                  refine JQ.g0 rfl rfl rfl rfl ?_
                  refine JQ.vg rfl rfl (JV.pickT rfl rfl) rfl ?_
                  refine JQ.v (JV.pickT rfl rfl) rfl ?_
                  refine JQ.nil ?_
                  refine JQ.n_then ?_
                  refine JQ.condT rfl ?_
                  refine JQ.region ?_
                  refine JQ.v (JV.move rfl) rfl ?_
                  refine JQ.v (JV.bitI (by decide) rfl rfl) rfl ?_
                  rw [ib_or]
                  refine JQ.v (JV.assign rfl) rfl ?_
                  refine JQ.nil ?_
                  refine JQ.n_block ?_
                  refine JQ.n_then ?_
                  refine JQ.region ?_
                  refine JQ.v (JV.move rfl) rfl ?_
                  refine JQ.v (JV.addN (b := 1) rfl rfl (by omega)) rfl ?_
                  refine JQ.v (JV.assign rfl) rfl ?_
                  refine JQ.nil ?_
                  refine JQ.n_then ?_
                  exact JQ.nextI (i + 1) (by omega) (by omega) (subk_cons rfl (subk_cons rfl (subk_cons (show some (iv (toI _)) = some (iv (toI _)) from by first | (exfalso; simp only [decide_eq_true_eq, decide_eq_false_iff_not] at g8_4 g8_9 g10_4 g12_4 g12_8; omega) | (rw [Pl.outR, Pl.r3, Pl.r2, Pl.r1]; simp [g8_4, g8_9, g10_4, g12_4, g12_8, h44]; done)) (subk_cons rfl subk_nil)))) (subr_cons rfl (subr_cons rfl (subr_cons rfl subr_nil)))
                · refine JQ.vg rfl rfl (JV.fieldAddrK (o := 0) rfl Tryd.runUnderlying88 rfl Tryd.sizeOf3 rfl rfl) rfl ?_
                  refine JQ.vg rfl rfl (JV.load1 2 rfl rfl Tryd.isAgg3 (rfl)) rfl ?_
                  refine JQ.vg rfl rfl (JV.eqlI rfl rfl) rfl ?_
                  refine JQ.vg rfl rfl (JV.pickF rfl rfl) rfl ?_
                  refine JQ.v (JV.pickT rfl rfl) rfl ?_
                  refine JQ.nil ?_
                  refine JQ.n_then ?_
                  refine JQ.condP rfl (fun h71 => ?_) (fun h71 => ?_)
                  · refine JQ.region ?_
                    refine JQ.v (JV.move rfl) rfl ?_
                    refine JQ.v (JV.bitI (by decide) rfl rfl) rfl ?_
                    rw [ib_or]
                    refine JQ.v (JV.assign rfl) rfl ?_
                    refine JQ.nil ?_
                    refine JQ.n_block ?_
                    refine JQ.n_then ?_
                    refine JQ.region ?_
                    refine JQ.v (JV.move rfl) rfl ?_
                    refine JQ.v (JV.addN (b := 1) rfl rfl (by omega)) rfl ?_
                    refine JQ.v (JV.assign rfl) rfl ?_
                    refine JQ.nil ?_
                    refine JQ.n_then ?_
                    exact JQ.nextI (i + 1) (by omega) (by omega) (subk_cons rfl (subk_cons rfl (subk_cons (show some (iv (toI _)) = some (iv (toI _)) from by first | (exfalso; simp only [decide_eq_true_eq, decide_eq_false_iff_not] at g8_4 g8_9 g10_4 g12_4 g12_8; omega) | (rw [Pl.outR, Pl.r3, Pl.r2, Pl.r1]; simp [g8_4, g8_9, g10_4, g12_4, g12_8, h44, h71]; done)) (subk_cons rfl subk_nil)))) (subr_cons rfl (subr_cons rfl (subr_cons rfl subr_nil)))
                  · refine JQ.skip ?_
                    refine JQ.n_block ?_
                    refine JQ.n_then ?_
                    refine JQ.region ?_
                    refine JQ.v (JV.move rfl) rfl ?_
                    refine JQ.v (JV.addN (b := 1) rfl rfl (by omega)) rfl ?_
                    refine JQ.v (JV.assign rfl) rfl ?_
                    refine JQ.nil ?_
                    refine JQ.n_then ?_
                    exact JQ.nextI (i + 1) (by omega) (by omega) (subk_cons rfl (subk_cons rfl (subk_cons (show some (iv (toI _)) = some (iv (toI _)) from by first | (exfalso; simp only [decide_eq_true_eq, decide_eq_false_iff_not] at g8_4 g8_9 g10_4 g12_4 g12_8; omega) | (rw [Pl.outR, Pl.r3, Pl.r2, Pl.r1]; simp [g8_4, g8_9, g10_4, g12_4, g12_8, h44, h71]; done)) (subk_cons rfl subk_nil)))) (subr_cons rfl (subr_cons rfl (subr_cons rfl subr_nil)))
              · refine JQ.g0 rfl rfl rfl rfl ?_
                refine JQ.g0 rfl rfl rfl rfl ?_
                refine JQ.g0 rfl rfl rfl rfl ?_
                refine JQ.g0 rfl rfl rfl rfl ?_
                refine JQ.gu rfl rfl rfl ?_
                refine JQ.gu rfl rfl rfl ?_
                refine JQ.gu rfl rfl rfl ?_
                refine JQ.g0 rfl rfl rfl rfl ?_
                refine JQ.v (JV.pickF rfl rfl) rfl ?_
                refine JQ.nil ?_
                refine JQ.n_then ?_
                refine JQ.condF rfl ?_
                refine JQ.skip ?_
                refine JQ.n_block ?_
                refine JQ.n_then ?_
                refine JQ.region ?_
                refine JQ.v (JV.move rfl) rfl ?_
                refine JQ.v (JV.addN (b := 1) rfl rfl (by omega)) rfl ?_
                refine JQ.v (JV.assign rfl) rfl ?_
                refine JQ.nil ?_
                refine JQ.n_then ?_
                exact JQ.nextI (i + 1) (by omega) (by omega) (subk_cons rfl (subk_cons rfl (subk_cons (show some (iv (toI _)) = some (iv (toI _)) from by first | (exfalso; simp only [decide_eq_true_eq, decide_eq_false_iff_not] at g8_4 g8_9 g10_4 g12_4; omega) | (rw [Pl.outR, Pl.r3, Pl.r2, Pl.r1]; simp [g8_4, g8_9, g10_4, g12_4, h44]; done)) (subk_cons rfl subk_nil)))) (subr_cons rfl (subr_cons rfl (subr_cons rfl subr_nil)))
        · refine JQ.g0 rfl rfl rfl rfl ?_
          refine JQ.g0 rfl rfl rfl rfl ?_
          refine JQ.g0 rfl rfl rfl rfl ?_
          refine JQ.v (JV.pickF rfl rfl) rfl ?_
          refine JQ.nil ?_
          refine JQ.n_then ?_
          refine JQ.condF rfl ?_
          refine JQ.skip ?_
          refine JQ.n_then ?_
          refine JQ.seq ?_
          refine JQ.seq ?_
          refine JQ.region ?_
          refine JQ.v (JV.fieldAddrK (o := 1) rfl Tryd.runUnderlying88 rfl Tryd.sizeOf3 rfl rfl) rfl ?_
          refine JQ.v (JV.load1 2 rfl rfl Tryd.isAgg3 (rfl)) rfl ?_
          refine JQ.v (JV.move rfl) rfl ?_
          refine JQ.v (JV.eqlI rfl rfl) rfl ?_
          refine JQ.vb (JV.move rfl) rfl (fun g10_4 => ?_) (fun g10_4 => ?_)
          · refine JQ.vg rfl rfl (JV.fieldAddrK (o := 0) rfl Tryd.runUnderlying88 rfl Tryd.sizeOf3 rfl rfl) rfl ?_
            refine JQ.vg rfl rfl (JV.load1 2 rfl rfl Tryd.isAgg3 (rfl)) rfl ?_
            refine JQ.vg rfl rfl (JV.eqlI rfl rfl) rfl ?_
            refine JQ.v (JV.pickT rfl rfl) rfl ?_
            refine JQ.nil ?_
            refine JQ.n_then ?_
            refine JQ.condP rfl (fun h55 => ?_) (fun h55 => ?_)
            · refine JQ.region ?_
              refine JQ.v (JV.move rfl) rfl ?_
              refine JQ.v (JV.bitI (by decide) rfl rfl) rfl ?_
              rw [ib_or]
              refine JQ.v (JV.assign rfl) rfl ?_
              refine JQ.nil ?_
              refine JQ.n_then ?_
              refine JQ.seq ?_
              refine JQ.region ?_
              refine JQ.v (JV.fieldAddrK (o := 2) rfl Tryd.runUnderlying88 rfl Tryd.sizeOf3 rfl rfl) rfl ?_
              refine JQ.v (JV.load1 2 rfl rfl Tryd.isAgg3 (rfl)) rfl ?_
              refine JQ.v (JV.move rfl) rfl ?_
              refine JQ.v (JV.eqlI rfl rfl) rfl ?_
              refine JQ.vb (JV.move rfl) rfl (fun g12_4 => ?_) (fun g12_4 => ?_)
              · refine JQ.vg rfl rfl (JV.fieldAddrK (o := 0) rfl Tryd.runUnderlying88 rfl Tryd.sizeOf3 rfl rfl) rfl ?_
                refine JQ.vg rfl rfl (JV.load1 2 rfl rfl Tryd.isAgg3 (rfl)) rfl ?_
                refine JQ.vg rfl rfl (JV.eqlI rfl rfl) rfl ?_
                refine JQ.vbg rfl rfl (JV.move rfl) rfl (fun g12_8 => ?_) (fun g12_8 => ?_)
                · refine JQ.g0 rfl rfl rfl rfl ?_
                  refine JQ.g0 rfl rfl rfl rfl ?_
                  refine JQ.g0 rfl rfl rfl rfl ?_
                  refine JQ.vg rfl rfl (JV.pickT rfl rfl) rfl ?_
                  refine JQ.v (JV.pickT rfl rfl) rfl ?_
                  refine JQ.nil ?_
                  refine JQ.n_then ?_
                  refine JQ.condT rfl ?_
                  refine JQ.region ?_
                  refine JQ.v (JV.move rfl) rfl ?_
                  refine JQ.v (JV.bitI (by decide) rfl rfl) rfl ?_
                  rw [ib_or]
                  refine JQ.v (JV.assign rfl) rfl ?_
                  refine JQ.nil ?_
                  refine JQ.n_block ?_
                  refine JQ.n_then ?_
                  refine JQ.region ?_
                  refine JQ.v (JV.move rfl) rfl ?_
                  refine JQ.v (JV.addN (b := 1) rfl rfl (by omega)) rfl ?_
                  refine JQ.v (JV.assign rfl) rfl ?_
                  refine JQ.nil ?_
                  refine JQ.n_then ?_
                  exact JQ.nextI (i + 1) (by omega) (by omega) (subk_cons rfl (subk_cons rfl (subk_cons (show some (iv (toI _)) = some (iv (toI _)) from by first | (exfalso; simp only [decide_eq_true_eq, decide_eq_false_iff_not] at g8_4 g8_9 g10_4 g12_4 g12_8; omega) | (rw [Pl.outR, Pl.r3, Pl.r2, Pl.r1]; simp [g8_4, g8_9, g10_4, g12_4, g12_8, h55]; done)) (subk_cons rfl subk_nil)))) (subr_cons rfl (subr_cons rfl (subr_cons rfl subr_nil)))
                · refine JQ.vg rfl rfl (JV.fieldAddrK (o := 0) rfl Tryd.runUnderlying88 rfl Tryd.sizeOf3 rfl rfl) rfl ?_
                  refine JQ.vg rfl rfl (JV.load1 2 rfl rfl Tryd.isAgg3 (rfl)) rfl ?_
                  refine JQ.vg rfl rfl (JV.eqlI rfl rfl) rfl ?_
                  refine JQ.vg rfl rfl (JV.pickF rfl rfl) rfl ?_
                  refine JQ.v (JV.pickT rfl rfl) rfl ?_
                  refine JQ.nil ?_
                  refine JQ.n_then ?_
                  refine JQ.condP rfl (fun h71 => ?_) (fun h71 => ?_)
                  · refine JQ.region ?_
                    refine JQ.v (JV.move rfl) rfl ?_
                    refine JQ.v (JV.bitI (by decide) rfl rfl) rfl ?_
                    rw [ib_or]
                    refine JQ.v (JV.assign rfl) rfl ?_
                    refine JQ.nil ?_
                    refine JQ.n_block ?_
                    refine JQ.n_then ?_
                    refine JQ.region ?_
                    refine JQ.v (JV.move rfl) rfl ?_
                    refine JQ.v (JV.addN (b := 1) rfl rfl (by omega)) rfl ?_
                    refine JQ.v (JV.assign rfl) rfl ?_
                    refine JQ.nil ?_
                    refine JQ.n_then ?_
                    exact JQ.nextI (i + 1) (by omega) (by omega) (subk_cons rfl (subk_cons rfl (subk_cons (show some (iv (toI _)) = some (iv (toI _)) from by first | (exfalso; simp only [decide_eq_true_eq, decide_eq_false_iff_not] at g8_4 g8_9 g10_4 g12_4 g12_8; omega) | (rw [Pl.outR, Pl.r3, Pl.r2, Pl.r1]; simp [g8_4, g8_9, g10_4, g12_4, g12_8, h55, h71]; done)) (subk_cons rfl subk_nil)))) (subr_cons rfl (subr_cons rfl (subr_cons rfl subr_nil)))
                  · refine JQ.skip ?_
                    refine JQ.n_block ?_
                    refine JQ.n_then ?_
                    refine JQ.region ?_
                    refine JQ.v (JV.move rfl) rfl ?_
                    refine JQ.v (JV.addN (b := 1) rfl rfl (by omega)) rfl ?_
                    refine JQ.v (JV.assign rfl) rfl ?_
                    refine JQ.nil ?_
                    refine JQ.n_then ?_
                    exact JQ.nextI (i + 1) (by omega) (by omega) (subk_cons rfl (subk_cons rfl (subk_cons (show some (iv (toI _)) = some (iv (toI _)) from by first | (exfalso; simp only [decide_eq_true_eq, decide_eq_false_iff_not] at g8_4 g8_9 g10_4 g12_4 g12_8; omega) | (rw [Pl.outR, Pl.r3, Pl.r2, Pl.r1]; simp [g8_4, g8_9, g10_4, g12_4, g12_8, h55, h71]; done)) (subk_cons rfl subk_nil)))) (subr_cons rfl (subr_cons rfl (subr_cons rfl subr_nil)))
              · refine JQ.g0 rfl rfl rfl rfl ?_
                refine JQ.g0 rfl rfl rfl rfl ?_
                refine JQ.g0 rfl rfl rfl rfl ?_
                refine JQ.g0 rfl rfl rfl rfl ?_
                refine JQ.gu rfl rfl rfl ?_
                refine JQ.gu rfl rfl rfl ?_
                refine JQ.gu rfl rfl rfl ?_
                refine JQ.g0 rfl rfl rfl rfl ?_
                refine JQ.v (JV.pickF rfl rfl) rfl ?_
                refine JQ.nil ?_
                refine JQ.n_then ?_
                refine JQ.condF rfl ?_
                refine JQ.skip ?_
                refine JQ.n_block ?_
                refine JQ.n_then ?_
                refine JQ.region ?_
                refine JQ.v (JV.move rfl) rfl ?_
                refine JQ.v (JV.addN (b := 1) rfl rfl (by omega)) rfl ?_
                refine JQ.v (JV.assign rfl) rfl ?_
                refine JQ.nil ?_
                refine JQ.n_then ?_
                exact JQ.nextI (i + 1) (by omega) (by omega) (subk_cons rfl (subk_cons rfl (subk_cons (show some (iv (toI _)) = some (iv (toI _)) from by first | (exfalso; simp only [decide_eq_true_eq, decide_eq_false_iff_not] at g8_4 g8_9 g10_4 g12_4; omega) | (rw [Pl.outR, Pl.r3, Pl.r2, Pl.r1]; simp [g8_4, g8_9, g10_4, g12_4, h55]; done)) (subk_cons rfl subk_nil)))) (subr_cons rfl (subr_cons rfl (subr_cons rfl subr_nil)))
            · refine JQ.skip ?_
              refine JQ.n_then ?_
              refine JQ.seq ?_
              refine JQ.region ?_
              refine JQ.v (JV.fieldAddrK (o := 2) rfl Tryd.runUnderlying88 rfl Tryd.sizeOf3 rfl rfl) rfl ?_
              refine JQ.v (JV.load1 2 rfl rfl Tryd.isAgg3 (rfl)) rfl ?_
              refine JQ.v (JV.move rfl) rfl ?_
              refine JQ.v (JV.eqlI rfl rfl) rfl ?_
              refine JQ.vb (JV.move rfl) rfl (fun g12_4 => ?_) (fun g12_4 => ?_)
              · refine JQ.vg rfl rfl (JV.fieldAddrK (o := 0) rfl Tryd.runUnderlying88 rfl Tryd.sizeOf3 rfl rfl) rfl ?_
                refine JQ.vg rfl rfl (JV.load1 2 rfl rfl Tryd.isAgg3 (rfl)) rfl ?_
                refine JQ.vg rfl rfl (JV.eqlI rfl rfl) rfl ?_
                refine JQ.vbg rfl rfl (JV.move rfl) rfl (fun g12_8 => ?_) (fun g12_8 => ?_)
                · refine JQ.g0 rfl rfl rfl rfl ?_
                  refine JQ.g0 rfl rfl rfl rfl ?_
                  refine JQ.g0 rfl rfl rfl rfl ?_
                  refine JQ.vg rfl rfl (JV.pickT rfl rfl) rfl ?_
                  refine JQ.v (JV.pickT rfl rfl) rfl ?_
                  refine JQ.nil ?_
                  refine JQ.n_then ?_
                  refine JQ.condT rfl ?_
                  refine JQ.region ?_
                  refine JQ.v (JV.move rfl) rfl ?_
                  refine JQ.v (JV.bitI (by decide) rfl rfl) rfl ?_
                  rw [ib_or]
                  refine JQ.v (JV.assign rfl) rfl ?_
                  refine JQ.nil ?_
                  refine JQ.n_block ?_
                  refine JQ.n_then ?_
                  refine JQ.region ?_
                  refine JQ.v (JV.move rfl) rfl ?_
                  refine JQ.v (JV.addN (b := 1) rfl rfl (by omega)) rfl ?_
                  refine JQ.v (JV.assign rfl) rfl ?_
                  refine JQ.nil ?_
                  refine JQ.n_then ?_
                  exact JQ.nextI (i + 1) (by omega) (by omega) (subk_cons rfl (subk_cons rfl (subk_cons (show some (iv (toI _)) = some (iv (toI _)) from by first | (exfalso; simp only [decide_eq_true_eq, decide_eq_false_iff_not] at g8_4 g8_9 g10_4 g12_4 g12_8; omega) | (rw [Pl.outR, Pl.r3, Pl.r2, Pl.r1]; simp [g8_4, g8_9, g10_4, g12_4, g12_8, h55]; done)) (subk_cons rfl subk_nil)))) (subr_cons rfl (subr_cons rfl (subr_cons rfl subr_nil)))
                · refine JQ.vg rfl rfl (JV.fieldAddrK (o := 0) rfl Tryd.runUnderlying88 rfl Tryd.sizeOf3 rfl rfl) rfl ?_
                  refine JQ.vg rfl rfl (JV.load1 2 rfl rfl Tryd.isAgg3 (rfl)) rfl ?_
                  refine JQ.vg rfl rfl (JV.eqlI rfl rfl) rfl ?_
                  refine JQ.vg rfl rfl (JV.pickF rfl rfl) rfl ?_
                  refine JQ.v (JV.pickT rfl rfl) rfl ?_
                  refine JQ.nil ?_
                  refine JQ.n_then ?_
                  refine JQ.condP rfl (fun h71 => ?_) (fun h71 => ?_)
                  · refine JQ.region ?_
                    refine JQ.v (JV.move rfl) rfl ?_
                    refine JQ.v (JV.bitI (by decide) rfl rfl) rfl ?_
                    rw [ib_or]
                    refine JQ.v (JV.assign rfl) rfl ?_
                    refine JQ.nil ?_
                    refine JQ.n_block ?_
                    refine JQ.n_then ?_
                    refine JQ.region ?_
                    refine JQ.v (JV.move rfl) rfl ?_
                    refine JQ.v (JV.addN (b := 1) rfl rfl (by omega)) rfl ?_
                    refine JQ.v (JV.assign rfl) rfl ?_
                    refine JQ.nil ?_
                    refine JQ.n_then ?_
                    exact JQ.nextI (i + 1) (by omega) (by omega) (subk_cons rfl (subk_cons rfl (subk_cons (show some (iv (toI _)) = some (iv (toI _)) from by first | (exfalso; simp only [decide_eq_true_eq, decide_eq_false_iff_not] at g8_4 g8_9 g10_4 g12_4 g12_8; omega) | (rw [Pl.outR, Pl.r3, Pl.r2, Pl.r1]; simp [g8_4, g8_9, g10_4, g12_4, g12_8, h55, h71]; done)) (subk_cons rfl subk_nil)))) (subr_cons rfl (subr_cons rfl (subr_cons rfl subr_nil)))
                  · refine JQ.skip ?_
                    refine JQ.n_block ?_
                    refine JQ.n_then ?_
                    refine JQ.region ?_
                    refine JQ.v (JV.move rfl) rfl ?_
                    refine JQ.v (JV.addN (b := 1) rfl rfl (by omega)) rfl ?_
                    refine JQ.v (JV.assign rfl) rfl ?_
                    refine JQ.nil ?_
                    refine JQ.n_then ?_
                    exact JQ.nextI (i + 1) (by omega) (by omega) (subk_cons rfl (subk_cons rfl (subk_cons (show some (iv (toI _)) = some (iv (toI _)) from by first | (exfalso; simp only [decide_eq_true_eq, decide_eq_false_iff_not] at g8_4 g8_9 g10_4 g12_4 g12_8; omega) | (rw [Pl.outR, Pl.r3, Pl.r2, Pl.r1]; simp [g8_4, g8_9, g10_4, g12_4, g12_8, h55, h71]; done)) (subk_cons rfl subk_nil)))) (subr_cons rfl (subr_cons rfl (subr_cons rfl subr_nil)))
              · refine JQ.g0 rfl rfl rfl rfl ?_
                refine JQ.g0 rfl rfl rfl rfl ?_
                refine JQ.g0 rfl rfl rfl rfl ?_
                refine JQ.g0 rfl rfl rfl rfl ?_
                refine JQ.gu rfl rfl rfl ?_
                refine JQ.gu rfl rfl rfl ?_
                refine JQ.gu rfl rfl rfl ?_
                refine JQ.g0 rfl rfl rfl rfl ?_
                refine JQ.v (JV.pickF rfl rfl) rfl ?_
                refine JQ.nil ?_
                refine JQ.n_then ?_
                refine JQ.condF rfl ?_
                refine JQ.skip ?_
                refine JQ.n_block ?_
                refine JQ.n_then ?_
                refine JQ.region ?_
                refine JQ.v (JV.move rfl) rfl ?_
                refine JQ.v (JV.addN (b := 1) rfl rfl (by omega)) rfl ?_
                refine JQ.v (JV.assign rfl) rfl ?_
                refine JQ.nil ?_
                refine JQ.n_then ?_
                exact JQ.nextI (i + 1) (by omega) (by omega) (subk_cons rfl (subk_cons rfl (subk_cons (show some (iv (toI _)) = some (iv (toI _)) from by first | (exfalso; simp only [decide_eq_true_eq, decide_eq_false_iff_not] at g8_4 g8_9 g10_4 g12_4; omega) | (rw [Pl.outR, Pl.r3, Pl.r2, Pl.r1]; simp [g8_4, g8_9, g10_4, g12_4, h55]; done)) (subk_cons rfl subk_nil)))) (subr_cons rfl (subr_cons rfl (subr_cons rfl subr_nil)))
          · refine JQ.g0 rfl rfl rfl rfl ?_
            refine JQ.g0 rfl rfl rfl rfl ?_
            refine JQ.g0 rfl rfl rfl rfl ?_
            refine JQ.v (JV.pickF rfl rfl) rfl ?_
            refine JQ.nil ?_
            refine JQ.n_then ?_
            refine JQ.condF rfl ?_
            refine JQ.skip ?_
            refine JQ.n_then ?_
            refine JQ.seq ?_
            refine JQ.region ?_
            refine JQ.v (JV.fieldAddrK (o := 2) rfl Tryd.runUnderlying88 rfl Tryd.sizeOf3 rfl rfl) rfl ?_
            refine JQ.v (JV.load1 2 rfl rfl Tryd.isAgg3 (rfl)) rfl ?_
            refine JQ.v (JV.move rfl) rfl ?_
            refine JQ.v (JV.eqlI rfl rfl) rfl ?_
            refine JQ.vb (JV.move rfl) rfl (fun g12_4 => ?_) (fun g12_4 => ?_)
            · refine JQ.vg rfl rfl (JV.fieldAddrK (o := 0) rfl Tryd.runUnderlying88 rfl Tryd.sizeOf3 rfl rfl) rfl ?_
              refine JQ.vg rfl rfl (JV.load1 2 rfl rfl Tryd.isAgg3 (rfl)) rfl ?_
              refine JQ.vg rfl rfl (JV.eqlI rfl rfl) rfl ?_
              refine JQ.vbg rfl rfl (JV.move rfl) rfl (fun g12_8 => ?_) (fun g12_8 => ?_)
              · refine JQ.g0 rfl rfl rfl rfl ?_
                refine JQ.g0 rfl rfl rfl rfl ?_
                refine JQ.g0 rfl rfl rfl rfl ?_
                refine JQ.vg rfl rfl (JV.pickT rfl rfl) rfl ?_
                refine JQ.v (JV.pickT rfl rfl) rfl ?_
                refine JQ.nil ?_
                refine JQ.n_then ?_
                refine JQ.condT rfl ?_
                refine JQ.region ?_
                refine JQ.v (JV.move rfl) rfl ?_
                refine JQ.v (JV.bitI (by decide) rfl rfl) rfl ?_
                rw [ib_or]
                refine JQ.v (JV.assign rfl) rfl ?_
                refine JQ.nil ?_
                refine JQ.n_block ?_
                refine JQ.n_then ?_
                refine JQ.region ?_
                refine JQ.v (JV.move rfl) rfl ?_
                refine JQ.v (JV.addN (b := 1) rfl rfl (by omega)) rfl ?_
                refine JQ.v (JV.assign rfl) rfl ?_
                refine JQ.nil ?_
                refine JQ.n_then ?_
                exact JQ.nextI (i + 1) (by omega) (by omega) (subk_cons rfl (subk_cons rfl (subk_cons (show some (iv (toI _)) = some (iv (toI _)) from by first | (exfalso; simp only [decide_eq_true_eq, decide_eq_false_iff_not] at g8_4 g8_9 g10_4 g12_4 g12_8; omega) | (rw [Pl.outR, Pl.r3, Pl.r2, Pl.r1]; simp [g8_4, g8_9, g10_4, g12_4, g12_8]; done)) (subk_cons rfl subk_nil)))) (subr_cons rfl (subr_cons rfl (subr_cons rfl subr_nil)))
              · refine JQ.vg rfl rfl (JV.fieldAddrK (o := 0) rfl Tryd.runUnderlying88 rfl Tryd.sizeOf3 rfl rfl) rfl ?_
                refine JQ.vg rfl rfl (JV.load1 2 rfl rfl Tryd.isAgg3 (rfl)) rfl ?_
                refine JQ.vg rfl rfl (JV.eqlI rfl rfl) rfl ?_
                refine JQ.vg rfl rfl (JV.pickF rfl rfl) rfl ?_
                refine JQ.v (JV.pickT rfl rfl) rfl ?_
                refine JQ.nil ?_
                refine JQ.n_then ?_
                refine JQ.condP rfl (fun h71 => ?_) (fun h71 => ?_)
                · refine JQ.region ?_
                  refine JQ.v (JV.move rfl) rfl ?_
                  refine JQ.v (JV.bitI (by decide) rfl rfl) rfl ?_
                  rw [ib_or]
                  refine JQ.v (JV.assign rfl) rfl ?_
                  refine JQ.nil ?_
                  refine JQ.n_block ?_
                  refine JQ.n_then ?_
                  refine JQ.region ?_
                  refine JQ.v (JV.move rfl) rfl ?_
                  refine JQ.v (JV.addN (b := 1) rfl rfl (by omega)) rfl ?_
                  refine JQ.v (JV.assign rfl) rfl ?_
                  refine JQ.nil ?_
                  refine JQ.n_then ?_
                  exact JQ.nextI (i + 1) (by omega) (by omega) (subk_cons rfl (subk_cons rfl (subk_cons (show some (iv (toI _)) = some (iv (toI _)) from by first | (exfalso; simp only [decide_eq_true_eq, decide_eq_false_iff_not] at g8_4 g8_9 g10_4 g12_4 g12_8; omega) | (rw [Pl.outR, Pl.r3, Pl.r2, Pl.r1]; simp [g8_4, g8_9, g10_4, g12_4, g12_8, h71]; done)) (subk_cons rfl subk_nil)))) (subr_cons rfl (subr_cons rfl (subr_cons rfl subr_nil)))
                · refine JQ.skip ?_
                  refine JQ.n_block ?_
                  refine JQ.n_then ?_
                  refine JQ.region ?_
                  refine JQ.v (JV.move rfl) rfl ?_
                  refine JQ.v (JV.addN (b := 1) rfl rfl (by omega)) rfl ?_
                  refine JQ.v (JV.assign rfl) rfl ?_
                  refine JQ.nil ?_
                  refine JQ.n_then ?_
                  exact JQ.nextI (i + 1) (by omega) (by omega) (subk_cons rfl (subk_cons rfl (subk_cons (show some (iv (toI _)) = some (iv (toI _)) from by first | (exfalso; simp only [decide_eq_true_eq, decide_eq_false_iff_not] at g8_4 g8_9 g10_4 g12_4 g12_8; omega) | (rw [Pl.outR, Pl.r3, Pl.r2, Pl.r1]; simp [g8_4, g8_9, g10_4, g12_4, g12_8, h71]; done)) (subk_cons rfl subk_nil)))) (subr_cons rfl (subr_cons rfl (subr_cons rfl subr_nil)))
            · refine JQ.g0 rfl rfl rfl rfl ?_
              refine JQ.g0 rfl rfl rfl rfl ?_
              refine JQ.g0 rfl rfl rfl rfl ?_
              refine JQ.g0 rfl rfl rfl rfl ?_
              refine JQ.gu rfl rfl rfl ?_
              refine JQ.gu rfl rfl rfl ?_
              refine JQ.gu rfl rfl rfl ?_
              refine JQ.g0 rfl rfl rfl rfl ?_
              refine JQ.v (JV.pickF rfl rfl) rfl ?_
              refine JQ.nil ?_
              refine JQ.n_then ?_
              refine JQ.condF rfl ?_
              refine JQ.skip ?_
              refine JQ.n_block ?_
              refine JQ.n_then ?_
              refine JQ.region ?_
              refine JQ.v (JV.move rfl) rfl ?_
              refine JQ.v (JV.addN (b := 1) rfl rfl (by omega)) rfl ?_
              refine JQ.v (JV.assign rfl) rfl ?_
              refine JQ.nil ?_
              refine JQ.n_then ?_
              exact JQ.nextI (i + 1) (by omega) (by omega) (subk_cons rfl (subk_cons rfl (subk_cons (show some (iv (toI _)) = some (iv (toI _)) from by first | (exfalso; simp only [decide_eq_true_eq, decide_eq_false_iff_not] at g8_4 g8_9 g10_4 g12_4; omega) | (rw [Pl.outR, Pl.r3, Pl.r2, Pl.r1]; simp [g8_4, g8_9, g10_4, g12_4]; done)) (subk_cons rfl subk_nil)))) (subr_cons rfl (subr_cons rfl (subr_cons rfl subr_nil)))
      · refine JQ.g0 rfl rfl rfl rfl ?_
        refine JQ.g0 rfl rfl rfl rfl ?_
        refine JQ.g0 rfl rfl rfl rfl ?_
        refine JQ.v (JV.pickF rfl rfl) rfl ?_
        refine JQ.v (JV.move rfl) rfl ?_
        refine JQ.g0 rfl rfl rfl rfl ?_
        refine JQ.g0 rfl rfl rfl rfl ?_
        refine JQ.g0 rfl rfl rfl rfl ?_
        refine JQ.v (JV.pickF rfl rfl) rfl ?_
        refine JQ.nil ?_
        refine JQ.n_then ?_
        refine JQ.condF rfl ?_
        refine JQ.skip ?_
        refine JQ.n_then ?_
        refine JQ.seq ?_
        refine JQ.seq ?_
        refine JQ.region ?_
        refine JQ.v (JV.fieldAddrK (o := 1) rfl Tryd.runUnderlying88 rfl Tryd.sizeOf3 rfl rfl) rfl ?_
        refine JQ.v (JV.load1 2 rfl rfl Tryd.isAgg3 (rfl)) rfl ?_
        refine JQ.v (JV.move rfl) rfl ?_
        refine JQ.v (JV.eqlI rfl rfl) rfl ?_
        refine JQ.vb (JV.move rfl) rfl (fun g10_4 => ?_) (fun g10_4 => ?_)
        · refine JQ.vg rfl rfl (JV.fieldAddrK (o := 0) rfl Tryd.runUnderlying88 rfl Tryd.sizeOf3 rfl rfl) rfl ?_
          refine JQ.vg rfl rfl (JV.load1 2 rfl rfl Tryd.isAgg3 (rfl)) rfl ?_
          refine JQ.vg rfl rfl (JV.eqlI rfl rfl) rfl ?_
          refine JQ.v (JV.pickT rfl rfl) rfl ?_
          refine JQ.nil ?_
          refine JQ.n_then ?_
          refine JQ.condP rfl (fun h55 => ?_) (fun h55 => ?_)
          · refine JQ.region ?_
            refine JQ.v (JV.move rfl) rfl ?_
            refine JQ.v (JV.bitI (by decide) rfl rfl) rfl ?_
            rw [ib_or]
            refine JQ.v (JV.assign rfl) rfl ?_
            refine JQ.nil ?_
            refine JQ.n_then ?_
            refine JQ.seq ?_
            refine JQ.region ?_
            refine JQ.v (JV.fieldAddrK (o := 2) rfl Tryd.runUnderlying88 rfl Tryd.sizeOf3 rfl rfl) rfl ?_
            refine JQ.v (JV.load1 2 rfl rfl Tryd.isAgg3 (rfl)) rfl ?_
            refine JQ.v (JV.move rfl) rfl ?_
            refine JQ.v (JV.eqlI rfl rfl) rfl ?_
            refine JQ.vb (JV.move rfl) rfl (fun g12_4 => ?_) (fun g12_4 => ?_)
            · refine JQ.vg rfl rfl (JV.fieldAddrK (o := 0) rfl Tryd.runUnderlying88 rfl Tryd.sizeOf3 rfl rfl) rfl ?_
              refine JQ.vg rfl rfl (JV.load1 2 rfl rfl Tryd.isAgg3 (rfl)) rfl ?_
              refine JQ.vg rfl rfl (JV.eqlI rfl rfl) rfl ?_
              refine JQ.vbg rfl rfl (JV.move rfl) rfl (fun g12_8 => ?_) (fun g12_8 => ?_)
              · refine JQ.g0 rfl rfl rfl rfl ?_
                refine JQ.g0 rfl rfl rfl rfl ?_
                refine JQ.g0 rfl rfl rfl rfl ?_
                refine JQ.vg rfl rfl (JV.pickT rfl rfl) rfl ?_
                refine JQ.v (JV.pickT rfl rfl) rfl ?_
                refine JQ.nil ?_
                refine JQ.n_then ?_
                refine JQ.condT rfl ?_
                refine JQ.region ?_
                refine JQ.v (JV.move rfl) rfl ?_
                refine JQ.v (JV.bitI (by decide) rfl rfl) rfl ?_
                rw [ib_or]
                refine JQ.v (JV.assign rfl) rfl ?_
                refine JQ.nil ?_
                refine JQ.n_block ?_
                refine JQ.n_then ?_
                refine JQ.region ?_
                refine JQ.v (JV.move rfl) rfl ?_
                refine JQ.v (JV.addN (b := 1) rfl rfl (by omega)) rfl ?_
                refine JQ.v (JV.assign rfl) rfl ?_
                refine JQ.nil ?_
                refine JQ.n_then ?_
                exact JQ.nextI (i + 1) (by omega) (by omega) (subk_cons rfl (subk_cons rfl (subk_cons (show some (iv (toI _)) = some (iv (toI _)) from by first | (exfalso; simp only [decide_eq_true_eq, decide_eq_false_iff_not] at g8_4 g10_4 g12_4 g12_8; omega) | (rw [Pl.outR, Pl.r3, Pl.r2, Pl.r1]; simp [g8_4, g10_4, g12_4, g12_8, h55]; done)) (subk_cons rfl subk_nil)))) (subr_cons rfl (subr_cons rfl (subr_cons rfl subr_nil)))
              · refine JQ.vg rfl rfl (JV.fieldAddrK (o := 0) rfl Tryd.runUnderlying88 rfl Tryd.sizeOf3 rfl rfl) rfl ?_
                refine JQ.vg rfl rfl (JV.load1 2 rfl rfl Tryd.isAgg3 (rfl)) rfl ?_
                refine JQ.vg rfl rfl (JV.eqlI rfl rfl) rfl ?_
                refine JQ.vg rfl rfl (JV.pickF rfl rfl) rfl ?_
                refine JQ.v (JV.pickT rfl rfl) rfl ?_
                refine JQ.nil ?_
                refine JQ.n_then ?_
                refine JQ.condP rfl (fun h71 => ?_) (fun h71 => ?_)
                · refine JQ.region ?_
                  refine JQ.v (JV.move rfl) rfl ?_
                  refine JQ.v (JV.bitI (by decide) rfl rfl) rfl ?_
                  rw [ib_or]
                  refine JQ.v (JV.assign rfl) rfl ?_
                  refine JQ.nil ?_
                  refine JQ.n_block ?_
                  refine JQ.n_then ?_
                  refine JQ.region ?_
                  refine JQ.v (JV.move rfl) rfl ?_
                  refine JQ.v (JV.addN (b := 1) rfl rfl (by omega)) rfl ?_
                  refine JQ.v (JV.assign rfl) rfl ?_
                  refine JQ.nil ?_
                  refine JQ.n_then ?_
                  exact JQ.nextI (i + 1) (by omega) (by omega) (subk_cons rfl (subk_cons rfl (subk_cons (show some (iv (toI _)) = some (iv (toI _)) from by first | (exfalso; simp only [decide_eq_true_eq, decide_eq_false_iff_not] at g8_4 g10_4 g12_4 g12_8; omega) | (rw [Pl.outR, Pl.r3, Pl.r2, Pl.r1]; simp [g8_4, g10_4, g12_4, g12_8, h55, h71]; done)) (subk_cons rfl subk_nil)))) (subr_cons rfl (subr_cons rfl (subr_cons rfl subr_nil)))
                · refine JQ.skip ?_
                  refine JQ.n_block ?_
                  refine JQ.n_then ?_
                  refine JQ.region ?_
                  refine JQ.v (JV.move rfl) rfl ?_
                  refine JQ.v (JV.addN (b := 1) rfl rfl (by omega)) rfl ?_
                  refine JQ.v (JV.assign rfl) rfl ?_
                  refine JQ.nil ?_
                  refine JQ.n_then ?_
                  exact JQ.nextI (i + 1) (by omega) (by omega) (subk_cons rfl (subk_cons rfl (subk_cons (show some (iv (toI _)) = some (iv (toI _)) from by first | (exfalso; simp only [decide_eq_true_eq, decide_eq_false_iff_not] at g8_4 g10_4 g12_4 g12_8; omega) | (rw [Pl.outR, Pl.r3, Pl.r2, Pl.r1]; simp [g8_4, g10_4, g12_4, g12_8, h55, h71]; done)) (subk_cons rfl subk_nil)))) (subr_cons rfl (subr_cons rfl (subr_cons rfl subr_nil)))
            · refine JQ.g0 rfl rfl rfl rfl ?_
              refine JQ.g0 rfl rfl rfl rfl ?_
              refine JQ.g0 rfl rfl rfl rfl ?_
              refine JQ.g0 rfl rfl rfl rfl ?_
              refine JQ.gu rfl rfl rfl ?_
              refine JQ.gu rfl rfl rfl ?_
              refine JQ.gu rfl rfl rfl ?_
              refine JQ.g0 rfl rfl rfl rfl ?_
              refine JQ.v (JV.pickF rfl rfl) rfl ?_
              refine JQ.nil ?_
              refine JQ.n_then ?_
              refine JQ.condF rfl ?_
              refine JQ.skip ?_
              refine JQ.n_block ?_
              refine JQ.n_then ?_
              refine JQ.region ?_
              refine JQ.v (JV.move rfl) rfl ?_
              refine JQ.v (JV.addN (b := 1) rfl rfl (by omega)) rfl ?_
              refine JQ.v (JV.assign rfl) rfl ?_
              refine JQ.nil ?_
              refine JQ.n_then ?_
              exact JQ.nextI (i + 1) (by omega) (by omega) (subk_cons rfl (subk_cons rfl (subk_cons (show some (iv (toI _)) = some (iv (toI _)) from by first | (exfalso; simp only [decide_eq_true_eq, decide_eq_false_iff_not] at g8_4 g10_4 g12_4; omega) | (rw [Pl.outR, Pl.r3, Pl.r2, Pl.r1]; simp [g8_4, g10_4, g12_4, h55]; done)) (subk_cons rfl subk_nil)))) (subr_cons rfl (subr_cons rfl (subr_cons rfl subr_nil)))
          · refine JQ.skip ?_
            refine JQ.n_then ?_
            refine JQ.seq ?_
            refine JQ.region ?_
            refine JQ.v (JV.fieldAddrK (o := 2) rfl Tryd.runUnderlying88 rfl Tryd.sizeOf3 rfl rfl) rfl ?_
            refine JQ.v (JV.load1 2 rfl rfl Tryd.isAgg3 (rfl)) rfl ?_
            refine JQ.v (JV.move rfl) rfl ?_
            refine JQ.v (JV.eqlI rfl rfl) rfl ?_
            refine JQ.vb (JV.move rfl) rfl (fun g12_4 => ?_) (fun g12_4 => ?_)
            · refine JQ.vg rfl rfl (JV.fieldAddrK (o := 0) rfl Tryd.runUnderlying88 rfl Tryd.sizeOf3 rfl rfl) rfl ?_
              refine JQ.vg rfl rfl (JV.load1 2 rfl rfl Tryd.isAgg3 (rfl)) rfl ?_
              refine JQ.vg rfl rfl (JV.eqlI rfl rfl) rfl ?_
              refine JQ.vbg rfl rfl (JV.move rfl) rfl (fun g12_8 => ?_) (fun g12_8 => ?_)
              · refine JQ.g0 rfl rfl rfl rfl ?_
                refine JQ.g0 rfl rfl rfl rfl ?_
                refine JQ.g0 rfl rfl rfl rfl ?_
                refine JQ.vg rfl rfl (JV.pickT rfl rfl) rfl ?_
                refine JQ.v (JV.pickT rfl rfl) rfl ?_
                refine JQ.nil ?_
                refine JQ.n_then ?_
                refine JQ.condT rfl ?_
                refine JQ.region ?_
                refine JQ.v (JV.move rfl) rfl ?_
                refine JQ.v (JV.bitI (by decide) rfl rfl) rfl ?_
                rw [ib_or]
                refine JQ.v (JV.assign rfl) rfl ?_
                refine JQ.nil ?_
                refine JQ.n_block ?_
                refine JQ.n_then ?_
                refine JQ.region ?_
                refine JQ.v (JV.move rfl) rfl ?_
                refine JQ.v (JV.addN (b := 1) rfl rfl (by omega)) rfl ?_
                refine JQ.v (JV.assign rfl) rfl ?_
                refine JQ.nil ?_
                refine JQ.n_then ?_
                exact JQ.nextI (i + 1) (by omega) (by omega) (subk_cons rfl (subk_cons rfl (subk_cons (show some (iv (toI _)) = some (iv (toI _)) from by first | (exfalso; simp only [decide_eq_true_eq, decide_eq_false_iff_not] at g8_4 g10_4 g12_4 g12_8; omega) | (rw [Pl.outR, Pl.r3, Pl.r2, Pl.r1]; simp [g8_4, g10_4, g12_4, g12_8, h55]; done)) (subk_cons rfl subk_nil)))) (subr_cons rfl (subr_cons rfl (subr_cons rfl subr_nil)))
              · refine JQ.vg rfl rfl (JV.fieldAddrK (o := 0) rfl Tryd.runUnderlying88 rfl Tryd.sizeOf3 rfl rfl) rfl ?_
                refine JQ.vg rfl rfl (JV.load1 2 rfl rfl Tryd.isAgg3 (rfl)) rfl ?_
                refine JQ.vg rfl rfl (JV.eqlI rfl rfl) rfl ?_
                refine JQ.vg rfl rfl (JV.pickF rfl rfl) rfl ?_
                refine JQ.v (JV.pickT rfl rfl) rfl ?_
                refine JQ.nil ?_
                refine JQ.n_then ?_
                refine JQ.condP rfl (fun h71 => ?_) (fun h71 => ?_)
                · refine JQ.region ?_
                  refine JQ.v (JV.move rfl) rfl ?_
                  refine JQ.v (JV.bitI (by decide) rfl rfl) rfl ?_
                  rw [ib_or]
                  refine JQ.v (JV.assign rfl) rfl ?_
                  refine JQ.nil ?_
                  refine JQ.n_block ?_
                  refine JQ.n_then ?_
                  refine JQ.region ?_
                  refine JQ.v (JV.move rfl) rfl ?_
                  refine JQ.v (JV.addN (b := 1) rfl rfl (by omega)) rfl ?_
                  refine JQ.v (JV.assign rfl) rfl ?_
                  refine JQ.nil ?_
                  refine JQ.n_then ?_
                  exact JQ.nextI (i + 1) (by omega) (by omega) (subk_cons rfl (subk_cons rfl (subk_cons (show some (iv (toI _)) = some (iv (toI _)) from by first | (exfalso; simp only [decide_eq_true_eq, decide_eq_false_iff_not] at g8_4 g10_4 g12_4 g12_8; omega) | (rw [Pl.outR, Pl.r3, Pl.r2, Pl.r1]; simp [g8_4, g10_4, g12_4, g12_8, h55, h71]; done)) (subk_cons rfl subk_nil)))) (subr_cons rfl (subr_cons rfl (subr_cons rfl subr_nil)))
                · refine JQ.skip ?_
                  refine JQ.n_block ?_
                  refine JQ.n_then ?_
                  refine JQ.region ?_
                  refine JQ.v (JV.move rfl) rfl ?_
                  refine JQ.v (JV.addN (b := 1) rfl rfl (by omega)) rfl ?_
                  refine JQ.v (JV.assign rfl) rfl ?_
                  refine JQ.nil ?_
                  refine JQ.n_then ?_
                  exact JQ.nextI (i + 1) (by omega) (by omega) (subk_cons rfl (subk_cons rfl (subk_cons (show some (iv (toI _)) = some (iv (toI _)) from by first | (exfalso; simp only [decide_eq_true_eq, decide_eq_false_iff_not] at g8_4 g10_4 g12_4 g12_8; omega) | (rw [Pl.outR, Pl.r3, Pl.r2, Pl.r1]; simp [g8_4, g10_4, g12_4, g12_8, h55, h71]; done)) (subk_cons rfl subk_nil)))) (subr_cons rfl (subr_cons rfl (subr_cons rfl subr_nil)))
            · refine JQ.g0 rfl rfl rfl rfl ?_
              refine JQ.g0 rfl rfl rfl rfl ?_
              refine JQ.g0 rfl rfl rfl rfl ?_
              refine JQ.g0 rfl rfl rfl rfl ?_
              refine JQ.gu rfl rfl rfl ?_
              refine JQ.gu rfl rfl rfl ?_
              refine JQ.gu rfl rfl rfl ?_
              refine JQ.g0 rfl rfl rfl rfl ?_
              refine JQ.v (JV.pickF rfl rfl) rfl ?_
              refine JQ.nil ?_
              refine JQ.n_then ?_
              refine JQ.condF rfl ?_
              refine JQ.skip ?_
              refine JQ.n_block ?_
              refine JQ.n_then ?_
              refine JQ.region ?_
              refine JQ.v (JV.move rfl) rfl ?_
              refine JQ.v (JV.addN (b := 1) rfl rfl (by omega)) rfl ?_
              refine JQ.v (JV.assign rfl) rfl ?_
              refine JQ.nil ?_
              refine JQ.n_then ?_
              exact JQ.nextI (i + 1) (by omega) (by omega) (subk_cons rfl (subk_cons rfl (subk_cons (show some (iv (toI _)) = some (iv (toI _)) from by first | (exfalso; simp only [decide_eq_true_eq, decide_eq_false_iff_not] at g8_4 g10_4 g12_4; omega) | (rw [Pl.outR, Pl.r3, Pl.r2, Pl.r1]; simp [g8_4, g10_4, g12_4, h55]; done)) (subk_cons rfl subk_nil)))) (subr_cons rfl (subr_cons rfl (subr_cons rfl subr_nil)))
        · refine JQ.g0 rfl rfl rfl rfl ?_
          refine JQ.g0 rfl rfl rfl rfl ?_
          refine JQ.g0 rfl rfl rfl rfl ?_
          refine JQ.v (JV.pickF rfl rfl) rfl ?_
          refine JQ.nil ?_
          refine JQ.n_then ?_
          refine JQ.condF rfl ?_
          refine JQ.skip ?_
          refine JQ.n_then ?_
          refine JQ.seq ?_
          refine JQ.region ?_
          refine JQ.v (JV.fieldAddrK (o := 2) rfl Tryd.runUnderlying88 rfl Tryd.sizeOf3 rfl rfl) rfl ?_
          refine JQ.v (JV.load1 2 rfl rfl Tryd.isAgg3 (rfl)) rfl ?_
          refine JQ.v (JV.move rfl) rfl ?_
          refine JQ.v (JV.eqlI rfl rfl) rfl ?_
          refine JQ.vb (JV.move rfl) rfl (fun g12_4 => ?_) (fun g12_4 => ?_)
          · refine JQ.vg rfl rfl (JV.fieldAddrK (o := 0) rfl Tryd.runUnderlying88 rfl Tryd.sizeOf3 rfl rfl) rfl ?_
            refine JQ.vg rfl rfl (JV.load1 2 rfl rfl Tryd.isAgg3 (rfl)) rfl ?_
            refine JQ.vg rfl rfl (JV.eqlI rfl rfl) rfl ?_
            refine JQ.vbg rfl rfl (JV.move rfl) rfl (fun g12_8 => ?_) (fun g12_8 => ?_)
            · refine JQ.g0 rfl rfl rfl rfl ?_
              refine JQ.g0 rfl rfl rfl rfl ?_
              refine JQ.g0 rfl rfl rfl rfl ?_
              refine JQ.vg rfl rfl (JV.pickT rfl rfl) rfl ?_
              refine JQ.v (JV.pickT rfl rfl) rfl ?_
              refine JQ.nil ?_
              refine JQ.n_then ?_
              refine JQ.condT rfl ?_
              refine JQ.region ?_
              refine JQ.v (JV.move rfl) rfl ?_
              refine JQ.v (JV.bitI (by decide) rfl rfl) rfl ?_
              rw [ib_or]
              refine JQ.v (JV.assign rfl) rfl ?_
              refine JQ.nil ?_
              refine JQ.n_block ?_
              refine JQ.n_then ?_
              refine JQ.region ?_
              refine JQ.v (JV.move rfl) rfl ?_
              refine JQ.v (JV.addN (b := 1) rfl rfl (by omega)) rfl ?_
              refine JQ.v (JV.assign rfl) rfl ?_
              refine JQ.nil ?_
              refine JQ.n_then ?_
              exact JQ.nextI (i + 1) (by omega) (by omega) (subk_cons rfl (subk_cons rfl (subk_cons (show some (iv (toI _)) = some (iv (toI _)) from by first | (exfalso; simp only [decide_eq_true_eq, decide_eq_false_iff_not] at g8_4 g10_4 g12_4 g12_8; omega) | (rw [Pl.outR, Pl.r3, Pl.r2, Pl.r1]; simp [g8_4, g10_4, g12_4, g12_8]; done)) (subk_cons rfl subk_nil)))) (subr_cons rfl (subr_cons rfl (subr_cons rfl subr_nil)))
            · refine JQ.vg rfl rfl (JV.fieldAddrK (o := 0) rfl Tryd.runUnderlying88 rfl Tryd.sizeOf3 rfl rfl) rfl ?_
              refine JQ.vg rfl rfl (JV.load1 2 rfl rfl Tryd.isAgg3 (rfl)) rfl ?_
              refine JQ.vg rfl rfl (JV.eqlI rfl rfl) rfl ?_
              refine JQ.vg rfl rfl (JV.pickF rfl rfl) rfl ?_
              refine JQ.v (JV.pickT rfl rfl) rfl ?_
              refine JQ.nil ?_
              refine JQ.n_then ?_
              refine JQ.condP rfl (fun h71 => ?_) (fun h71 => ?_)
              · refine JQ.region ?_
                refine JQ.v (JV.move rfl) rfl ?_
                refine JQ.v (JV.bitI (by decide) rfl rfl) rfl ?_
                rw [ib_or]
                refine JQ.v (JV.assign rfl) rfl ?_
                refine JQ.nil ?_
                refine JQ.n_block ?_
                refine JQ.n_then ?_
                refine JQ.region ?_
                refine JQ.v (JV.move rfl) rfl ?_
                refine JQ.v (JV.addN (b := 1) rfl rfl (by omega)) rfl ?_
                refine JQ.v (JV.assign rfl) rfl ?_
                refine JQ.nil ?_
                refine JQ.n_then ?_
                exact JQ.nextI (i + 1) (by omega) (by omega) (subk_cons rfl (subk_cons rfl (subk_cons (show some (iv (toI _)) = some (iv (toI _)) from by first | (exfalso; simp only [decide_eq_true_eq, decide_eq_false_iff_not] at g8_4 g10_4 g12_4 g12_8; omega) | (rw [Pl.outR, Pl.r3, Pl.r2, Pl.r1]; simp [g8_4, g10_4, g12_4, g12_8, h71]; done)) (subk_cons rfl subk_nil)))) (subr_cons rfl (subr_cons rfl (subr_cons rfl subr_nil)))
              · refine JQ.skip ?_
                refine JQ.n_block ?_
                refine JQ.n_then ?_
                refine JQ.region ?_
                refine JQ.v (JV.move rfl) rfl ?_
                refine JQ.v (JV.addN (b := 1) rfl rfl (by omega)) rfl ?_
                refine JQ.v (JV.assign rfl) rfl ?_
                refine JQ.nil ?_
                refine JQ.n_then ?_
                exact JQ.nextI (i + 1) (by omega) (by omega) (subk_cons rfl (subk_cons rfl (subk_cons (show some (iv (toI _)) = some (iv (toI _)) from by first | (exfalso; simp only [decide_eq_true_eq, decide_eq_false_iff_not] at g8_4 g10_4 g12_4 g12_8; omega) | (rw [Pl.outR, Pl.r3, Pl.r2, Pl.r1]; simp [g8_4, g10_4, g12_4, g12_8, h71]; done)) (subk_cons rfl subk_nil)))) (subr_cons rfl (subr_cons rfl (subr_cons rfl subr_nil)))
          · refine JQ.g0 rfl rfl rfl rfl ?_
            refine JQ.g0 rfl rfl rfl rfl ?_
            refine JQ.g0 rfl rfl rfl rfl ?_
            refine JQ.g0 rfl rfl rfl rfl ?_
            refine JQ.gu rfl rfl rfl ?_
            refine JQ.gu rfl rfl rfl ?_
            refine JQ.gu rfl rfl rfl ?_
            refine JQ.g0 rfl rfl rfl rfl ?_
            refine JQ.v (JV.pickF rfl rfl) rfl ?_
            refine JQ.nil ?_
            refine JQ.n_then ?_
            refine JQ.condF rfl ?_
            refine JQ.skip ?_
            refine JQ.n_block ?_
            refine JQ.n_then ?_
            refine JQ.region ?_
            refine JQ.v (JV.move rfl) rfl ?_
            refine JQ.v (JV.addN (b := 1) rfl rfl (by omega)) rfl ?_
            refine JQ.v (JV.assign rfl) rfl ?_
            refine JQ.nil ?_
            refine JQ.n_then ?_
            exact JQ.nextI (i + 1) (by omega) (by omega) (subk_cons rfl (subk_cons rfl (subk_cons (show some (iv (toI _)) = some (iv (toI _)) from by first | (exfalso; simp only [decide_eq_true_eq, decide_eq_false_iff_not] at g8_4 g10_4 g12_4; omega) | (rw [Pl.outR, Pl.r3, Pl.r2, Pl.r1]; simp [g8_4, g10_4, g12_4]; done)) (subk_cons rfl subk_nil)))) (subr_cons rfl (subr_cons rfl (subr_cons rfl subr_nil)))
    · have er : i = rs.length := by omega
      subst er
      refine JQ.exit ?_
      refine JQ.e_then ?_
      refine JQ.e_then ?_
      refine JQ.e_here ?_
      refine JQ.n_then ?_
      refine JQ.seq ?_
      refine JQ.region ?_
      refine JQ.v (JV.move rfl) rfl ?_
      refine JQ.v (JV.assign rfl) rfl ?_
      refine JQ.nil ?_
      refine JQ.n_then ?_
      refine JQ.ret ?_
      refine JQ.done1 Tryd.results17 rfl ?_
      exact fun w hw => ⟨by rw [Pl.usesR, if_pos (by simpa using h11)], hw.below⟩

theorem clone_spec0 (ad : Addr) (cc : Nat) (ks : List Pl.Key) (hl : ks.length ≤ 1048576) (h0 : 0 < ks.length) (w : World) (hr : Reads w (.slice (some ad) ks.length cc) 9 ks.length (kcs ks)) :
    Calls Tryd.prog 61 #[(.slice (some ad) ks.length cc)] w fun e w' => ∃ v, e = .returned v ∧ w'.ownsRow w.heap.size 34 9 v ks.length (kcs ks) ∧ Below w.heap.size w w' := by
  
  refine enterA (vs := [_]) Tryd.func61 rfl 8 rfl [(100, .ro (.slice (some ad) ks.length cc) 9 ks.length (kcs ks))] (MemOk.start1 100 hr) ?_
  refine JQ.seq ?_
  refine JQ.region ?_
  refine JQ.v (JV.assign rfl) rfl ?_
  refine JQ.nil ?_
  refine JQ.n_then ?_
  refine JQ.seq ?_
  refine JQ.seq ?_
  refine JQ.region ?_
  refine JQ.v (JV.move rfl) rfl ?_
  refine JQ.v (JV.eqlSlN (aa := some ad) rfl rfl Tryd.underlying27) rfl ?_
  refine JQ.nil ?_
  refine JQ.n_then ?_
  refine JQ.condF rfl ?_
  refine JQ.skip ?_
  refine JQ.n_then ?_
  refine JQ.seq ?_
  refine JQ.region ?_
  refine JQ.x (JO.buildSlice 5 (us := []) (e := 34) evp_nil (fun w => by kernel_rfl)) rfl ?_
  intro i3_0
  refine JQ.rowOf 5 (b := i3_0) (us := []) (n := 0) (esz := 9) rfl rfl (by decide) ?_
  refine JQ.v (JV.move rfl) rfl ?_
  refine JQ.x (JO.append 5 (m := ks.length) elem34 rfl rfl rfl (fun w hw => Src.rd Tryd.underlying27 (hw.reads (id := 100) rfl)) (kcs_all ks) (by omega) (by omega)) rfl ?_
  intro i3_2
  refine JQ.v (JV.assign rfl) rfl ?_
  refine JQ.nil ?_
  refine JQ.n_then ?_
  refine JQ.ret ?_
  refine JQ.done1 Tryd.results61 rfl ?_
  exact fun w hw => ⟨_, rfl, by have h := hw.ok 5 _ rfl; rw [Nat.zero_add] at h; exact h, hw.below⟩

theorem clone_spec (kv : Value) (ks : List Pl.Key) (hl : ks.length ≤ 1048576) (h0 : 0 < ks.length) (w : World) (hr : Reads w kv 9 ks.length (kcs ks)) : Calls Tryd.prog 61 #[kv] w fun e w' => ∃ v, e = .returned v ∧ w'.ownsRow w.heap.size 34 9 v ks.length (kcs ks) ∧ Below w.heap.size w w' := by
  obtain ⟨ad, cc, rfl⟩ := reads_some hr h0
  exact clone_spec0 ad cc ks hl h0 w hr

theorem clip_pure (aa : Option Addr) (n c : Nat) (hc : n ≤ c) :
    Pure Tryd.prog 62 #[.slice aa n c] (.slice aa n n) := by
  intro w
  refine enterA (vs := [_]) Tryd.func62 rfl 9 rfl [] (MemOk.start w) ?_
  refine JQ.seq ?_
  refine JQ.region ?_
  refine JQ.v (JV.assign rfl) rfl ?_
  refine JQ.nil ?_
  refine JQ.n_then ?_
  refine JQ.seq ?_
  refine JQ.region ?_
  refine JQ.v (JV.move rfl) rfl ?_
  refine JQ.v (JV.move rfl) rfl ?_
  refine JQ.v (JV.lenSl rfl Tryd.runUnderlying27) rfl ?_
  refine JQ.v (JV.move rfl) rfl ?_
  refine JQ.v (JV.lenSl rfl Tryd.runUnderlying27) rfl ?_
  refine JQ.v (JV.clip rfl rfl rfl Tryd.runUnderlying27 Tryd.sizeOf34 hc) rfl ?_
  refine JQ.v (JV.assign rfl) rfl ?_
  refine JQ.nil ?_
  refine JQ.n_then ?_
  refine JQ.ret ?_
  refine JQ.done1 Tryd.results62 rfl ?_
  exact fun w hw => ⟨rfl, hw.below⟩

theorem put_spec (n : Int) (kv : Value) (ks : List Pl.Key) (hl : ks.length ≤ 1048576) (hs : Pl.incr ks) (k : Pl.Key) (hvk : vkG k = true) (hpar : k.par < n) (hix : Pl.ix ks k.id < ks.length) (w : World) (hr : Reads w kv 9 ks.length (kcs ks)) :
    Calls Tryd.prog 36 #[.agg [iv n, kv].toArray, .agg (kc k).toArray] w fun e w' => ∃ v, e = .returned (.tuple #[.agg [iv n, v].toArray, iv 0]) ∧ NewRo w v 9 ks.length (kcs (ks.set (Pl.ix ks k.id) k)) w' ∧ Below w.heap.size w w' := by
  
  refine enterA (vs := [_, _]) Tryd.func36 rfl 40 rfl [(100, .ro kv 9 ks.length (kcs ks))] (MemOk.start1 100 hr) ?_
  refine JQ.seq ?_
  refine JQ.region ?_
  refine JQ.x (JO.box 1 rfl rfl) rfl ?_
  intro i0_0
  refine JQ.x (JO.box 2 rfl rfl) rfl ?_
  intro i0_1
  refine JQ.x (JO.alloc 3 (zs := [iv 0, .slice none 0 0]) Tryd.zeroValue29 rfl) rfl ?_
  intro i0_2
  refine JQ.v (JV.assign rfl) rfl ?_
  refine JQ.nil ?_
  refine JQ.n_then ?_
  refine JQ.seq ?_
  refine JQ.seq ?_
  refine JQ.region ?_
  refine JQ.v (JV.loadV 2 rfl rfl Tryd.isAgg34 Tryd.sizeOf34 rfl) rfl ?_
  refine JQ.v (JV.known (c := true) (JV.call Tryd.call60 (evs_cons rfl evs_nil) (valid_pure _)) (hvk)) rfl ?_
  refine JQ.v (JV.notB rfl) rfl ?_
  refine JQ.v (JV.move rfl) rfl ?_
  refine JQ.vg rfl rfl (JV.fieldAddrK (o := 7) rfl Tryd.runUnderlying34 rfl Tryd.sizeOf3 rfl rfl) rfl ?_
  refine JQ.vg rfl rfl (JV.load1 2 rfl rfl Tryd.isAgg3 (rfl)) rfl ?_
  refine JQ.vg rfl rfl (JV.fieldAddrK (o := 0) rfl Tryd.runUnderlying29 rfl Tryd.sizeOf3 rfl rfl) rfl ?_
  refine JQ.vg rfl rfl (JV.load1 1 rfl rfl Tryd.isAgg3 (rfl)) rfl ?_
  refine JQ.vg rfl rfl (JV.known (c := false) (JV.geq rfl rfl) (decide_eq_false (by omega))) rfl ?_
  refine JQ.v (JV.pickF rfl rfl) rfl ?_
  refine JQ.nil ?_
  refine JQ.n_then ?_
  refine JQ.condF rfl ?_
  refine JQ.skip ?_
  refine JQ.n_then ?_
  refine JQ.seq ?_
  refine JQ.region ?_
  refine JQ.v (JV.loadV 1 rfl rfl Tryd.isAgg29 Tryd.sizeOf29 rfl) rfl ?_
  refine JQ.v (JV.fieldAddrK (o := 0) rfl Tryd.runUnderlying34 rfl Tryd.sizeOf3 rfl rfl) rfl ?_
  refine JQ.v (JV.load1 2 rfl rfl Tryd.isAgg3 (rfl)) rfl ?_
  refine JQ.v (JV.callM Tryd.call32 (evs_cons rfl (evs_cons rfl evs_nil)) (fun w hw => find_spec n kv ks (by omega) hs k.id w (hw.reads (id := 100) rfl))) rfl ?_
  rw [if_pos hix, Pl.getE, if_pos hix]
  refine JQ.v (JV.move rfl) rfl ?_
  refine JQ.v (JV.extract rfl rfl) rfl ?_
  refine JQ.v (JV.extract rfl rfl) rfl ?_
  refine JQ.v (JV.assign rfl) rfl ?_
  refine JQ.v (JV.assign rfl) rfl ?_
  refine JQ.nil ?_
  refine JQ.n_then ?_
  refine JQ.seq ?_
  refine JQ.seq ?_
  refine JQ.region ?_
  refine JQ.v (JV.move rfl) rfl ?_
  refine JQ.v (JV.neqI rfl rfl) rfl ?_
  refine JQ.nil ?_
  refine JQ.n_then ?_
  refine JQ.condP rfl (fun h27 => ?_) (fun h27 => ?_)
  · exact absurd rfl h27
  · refine JQ.skip ?_
    refine JQ.n_then ?_
    refine JQ.seq ?_
    refine JQ.region ?_
    refine JQ.v (JV.fieldAddrK (o := 1) rfl Tryd.runUnderlying29 rfl Tryd.sizeOf27 rfl rfl) rfl ?_
    refine JQ.v (JV.load1 1 rfl rfl Tryd.isAgg27 (rfl)) rfl ?_
    refine JQ.x (JO.callRowS 55 Tryd.call61 (evs_cons rfl evs_nil) (fun w hw => clone_spec kv ks hl (by omega) w (hw.reads (id := 100) rfl))) rfl ?_
    intro i6_2
    refine JQ.v (JV.fieldAddrK (o := 1) rfl Tryd.runUnderlying29 rfl Tryd.sizeOf27 rfl rfl) rfl ?_
    refine JQ.s (JO.store1R 1 55 rfl rfl rfl rfl Tryd.sizeOf27 (Nat.le_of_ble_eq_true rfl)) ?_
    refine JQ.nil ?_
    refine JQ.n_then ?_
    refine JQ.seq ?_
    refine JQ.cellsOf 55 rfl (by omega) (fun g cap cs hcv hcap hmx hcl htk => ?_)
    rw [hcv]
    refine JQ.region ?_
    refine JQ.v (JV.fieldAddrK (o := 1) rfl Tryd.runUnderlying29 rfl Tryd.sizeOf27 rfl rfl) rfl ?_
    refine JQ.v (JV.load1 1 rfl rfl Tryd.isAgg27 (rfl)) rfl ?_
    refine JQ.v (JV.move rfl) rfl ?_
    refine JQ.v (JV.loadV 2 rfl rfl Tryd.isAgg34 Tryd.sizeOf34 rfl) rfl ?_
    refine JQ.v (JV.idxSlC rfl rfl Tryd.runUnderlying27 Tryd.sizeOf34 hix) rfl ?_
    refine JQ.s (JO.storeA 55 rfl rfl rfl (us := kc k) rfl Tryd.sizeOf34 rfl (by show 0 + Pl.ix ks k.id * 9 + 9 ≤ _; rw [hcl]; omega)) ?_
    refine JQ.nil ?_
    refine JQ.n_then ?_
    refine JQ.seq ?_
    refine JQ.region ?_
    refine JQ.v (JV.loadV 1 rfl rfl Tryd.isAgg29 Tryd.sizeOf29 rfl) rfl ?_
    refine JQ.s (JO.storeV 3 rfl rfl rfl rfl Tryd.sizeOf29 rfl rfl) ?_
    refine JQ.v (JV.assign rfl) rfl ?_
    refine JQ.nil ?_
    refine JQ.n_then ?_
    refine JQ.ret ?_
    refine JQ.doneCT 3 Tryd.results36 rfl rfl rfl Tryd.isAgg29 Tryd.sizeOf29 rfl ?_
    exact fun w hw => ⟨_, rfl, newRo_cellsC hw (id := 55) rfl (put_take hix htk) (by rw [kcs_len, List.length_set]) hcap (by omega), hw.below⟩

theorem rput_spec (n : Int) (kv : Value) (ks : List Pl.Key) (hl : ks.length ≤ 1048576) (hs : Pl.incr ks) (k : Pl.Key) (hvk : vkR k = true) (hpar : k.par < n) (hix : Pl.ix ks k.id < ks.length) (w : World) (hr : Reads w kv 9 ks.length (kcs ks)) :
    Calls Tryd.prog 45 #[.agg [iv n, kv].toArray, .agg (kc k).toArray] w fun e w' => ∃ v, e = .returned (.tuple #[.agg [iv n, v].toArray, iv 0]) ∧ NewRo w v 9 ks.length (kcs (ks.set (Pl.ix ks k.id) k)) w' ∧ Below w.heap.size w w' := by
  
  refine enterA (vs := [_, _]) Tryd.func45 rfl 40 rfl [(100, .ro kv 9 ks.length (kcs ks))] (MemOk.start1 100 hr) ?_
  refine JQ.seq ?_
  refine JQ.region ?_
  refine JQ.x (JO.box 1 rfl rfl) rfl ?_
  intro i0_0
  refine JQ.x (JO.box 2 rfl rfl) rfl ?_
  intro i0_1
  refine JQ.x (JO.alloc 3 (zs := [iv 0, .slice none 0 0]) Tryd.zeroValue29 rfl) rfl ?_
  intro i0_2
  refine JQ.v (JV.assign rfl) rfl ?_
  refine JQ.nil ?_
  refine JQ.n_then ?_
  refine JQ.seq ?_
  refine JQ.region ?_
  refine JQ.v (JV.loadV 2 rfl rfl Tryd.isAgg34 Tryd.sizeOf34 rfl) rfl ?_
  refine JQ.v (JV.known (c := true) (JV.call Tryd.call53 (evs_cons rfl evs_nil) (rvalid_pure _)) (hvk)) rfl ?_
  refine JQ.v (JV.assign rfl) rfl ?_
  refine JQ.nil ?_
  refine JQ.n_then ?_
  refine JQ.seq ?_
  refine JQ.seq ?_
  refine JQ.region ?_
  refine JQ.v (JV.move rfl) rfl ?_
  refine JQ.v (JV.notB rfl) rfl ?_
  refine JQ.v (JV.move rfl) rfl ?_
  refine JQ.vg rfl rfl (JV.fieldAddrK (o := 7) rfl Tryd.runUnderlying34 rfl Tryd.sizeOf3 rfl rfl) rfl ?_
  refine JQ.vg rfl rfl (JV.load1 2 rfl rfl Tryd.isAgg3 (rfl)) rfl ?_
  refine JQ.vg rfl rfl (JV.fieldAddrK (o := 0) rfl Tryd.runUnderlying29 rfl Tryd.sizeOf3 rfl rfl) rfl ?_
  refine JQ.vg rfl rfl (JV.load1 1 rfl rfl Tryd.isAgg3 (rfl)) rfl ?_
  refine JQ.vg rfl rfl (JV.known (c := false) (JV.geq rfl rfl) (decide_eq_false (by omega))) rfl ?_
  refine JQ.v (JV.pickF rfl rfl) rfl ?_
  refine JQ.nil ?_
  refine JQ.n_then ?_
  refine JQ.condF rfl ?_
  refine JQ.skip ?_
  refine JQ.n_then ?_
  refine JQ.seq ?_
  refine JQ.region ?_
  refine JQ.v (JV.loadV 1 rfl rfl Tryd.isAgg29 Tryd.sizeOf29 rfl) rfl ?_
  refine JQ.v (JV.fieldAddrK (o := 0) rfl Tryd.runUnderlying34 rfl Tryd.sizeOf3 rfl rfl) rfl ?_
  refine JQ.v (JV.load1 2 rfl rfl Tryd.isAgg3 (rfl)) rfl ?_
  refine JQ.v (JV.callM Tryd.call65 (evs_cons rfl (evs_cons rfl evs_nil)) (fun w hw => at_spec n kv ks (by omega) k.id w (hw.reads (id := 100) rfl))) rfl ?_
  rw [if_pos hix]
  refine JQ.v (JV.assign rfl) rfl ?_
  refine JQ.nil ?_
  refine JQ.n_then ?_
  refine JQ.seq ?_
  refine JQ.seq ?_
  refine JQ.region ?_
  refine JQ.v (JV.move rfl) rfl ?_
  refine JQ.v (JV.lssN (b := 0) rfl rfl) rfl ?_
  refine JQ.nil ?_
  refine JQ.n_then ?_
  refine JQ.condP rfl (fun h26 => ?_) (fun h26 => ?_)
  · exact absurd h26 (by omega)
  · refine JQ.skip ?_
    refine JQ.n_then ?_
    refine JQ.seq ?_
    refine JQ.region ?_
    refine JQ.v (JV.assign rfl) rfl ?_
    refine JQ.nilRow 55 34 9 ?_
    refine JQ.nil ?_
    refine JQ.n_then ?_
    refine JQ.seq ?_
    refine JQ.region ?_
    refine JQ.v (JV.move rfl) rfl ?_
    refine JQ.v (JV.fieldAddrK (o := 1) rfl Tryd.runUnderlying29 rfl Tryd.sizeOf27 rfl rfl) rfl ?_
    refine JQ.v (JV.load1 1 rfl rfl Tryd.isAgg27 (rfl)) rfl ?_
    refine JQ.x (JO.appendS 55 (m := ks.length) elem34 rfl rfl rfl (fun w hw => Src.rd Tryd.underlying27 (hw.reads (id := 100) rfl)) (kcs_all ks) (by omega) (by omega)) rfl ?_
    intro i8_3
    rw [Nat.zero_add, List.nil_append]
    refine JQ.v (JV.assign rfl) rfl ?_
    refine JQ.nil ?_
    refine JQ.n_then ?_
    refine JQ.seq ?_
    refine JQ.cellsOf 55 rfl (by omega) (fun g cap cs hcv hcap hmx hcl htk => ?_)
    rw [hcv]
    refine JQ.region ?_
    refine JQ.v (JV.move rfl) rfl ?_
    refine JQ.v (JV.move rfl) rfl ?_
    refine JQ.v (JV.loadV 2 rfl rfl Tryd.isAgg34 Tryd.sizeOf34 rfl) rfl ?_
    refine JQ.v (JV.idxSlC rfl rfl Tryd.runUnderlying27 Tryd.sizeOf34 hix) rfl ?_
    refine JQ.s (JO.storeA 55 rfl rfl rfl (us := kc k) rfl Tryd.sizeOf34 rfl (by show 0 + Pl.ix ks k.id * 9 + 9 ≤ _; rw [hcl]; omega)) ?_
    refine JQ.nil ?_
    refine JQ.n_then ?_
    refine JQ.seq ?_
    refine JQ.region ?_
    refine JQ.v (JV.fieldAddrK (o := 0) rfl Tryd.runUnderlying29 rfl Tryd.sizeOf3 rfl rfl) rfl ?_
    refine JQ.v (JV.load1 1 rfl rfl Tryd.isAgg3 (rfl)) rfl ?_
    refine JQ.v (JV.move rfl) rfl ?_
    refine JQ.v (JV.build (v := .agg [iv n, .slice (some ⟨g, 0, none⟩) ks.length cap].toArray) (evp_cons rfl (evp_cons rfl evp_nil)) (fun w => by kernel_rfl)) rfl ?_
    refine JQ.s (JO.storeV 3 rfl rfl rfl rfl Tryd.sizeOf29 rfl rfl) ?_
    refine JQ.v (JV.assign rfl) rfl ?_
    refine JQ.nil ?_
    refine JQ.n_then ?_
    refine JQ.ret ?_
    refine JQ.doneCT 3 Tryd.results45 rfl rfl rfl Tryd.isAgg29 Tryd.sizeOf29 rfl ?_
    exact fun w hw => ⟨_, rfl, newRo_cellsC hw (id := 55) rfl (put_take hix htk) (by rw [kcs_len, List.length_set]) hcap (by omega), hw.below⟩

theorem kadd_spec0 (n : Int) (aa : Option Addr) (cc : Nat) (ks : List Pl.Key) (hcc : ks.length ≤ cc) (hl : ks.length < 4096) (k : Pl.Key) (hvk : vkG k = true) (hpar : k.par < n) (hn0 : 0 ≤ n) (w : World) (hr : Reads w (.slice aa ks.length cc) 9 ks.length (kcs ks)) :
    Calls Tryd.prog 37 #[.agg [iv n, (.slice aa ks.length cc)].toArray, .agg (kc k).toArray] w fun e w' => ∃ v, e = .returned (.tuple #[.agg [iv (addT n ks k).next, v].toArray, iv (addI n), iv (addE n)]) ∧ w'.ownsRow w.heap.size 34 9 v (addT n ks k).keys.length (kcs (addT n ks k).keys) ∧ Below w.heap.size w w' := by
  
  refine enterA (vs := [_, _]) Tryd.func37 rfl 45 rfl [(100, .ro (.slice aa ks.length cc) 9 ks.length (kcs ks))] (MemOk.start1 100 hr) ?_
  refine JQ.seq ?_
  refine JQ.region ?_
  refine JQ.x (JO.box 1 rfl rfl) rfl ?_
  intro i0_0
  refine JQ.x (JO.box 2 rfl rfl) rfl ?_
  intro i0_1
  refine JQ.x (JO.alloc 3 (zs := [iv 0, .slice none 0 0]) Tryd.zeroValue29 rfl) rfl ?_
  intro i0_2
  refine JQ.v (JV.assign rfl) rfl ?_
  refine JQ.v (JV.assign rfl) rfl ?_
  refine JQ.nil ?_
  refine JQ.n_then ?_
  refine JQ.seq ?_
  refine JQ.block ?_
  refine JQ.seq ?_
  refine JQ.region ?_
  refine JQ.v (JV.loadV 2 rfl rfl Tryd.isAgg34 Tryd.sizeOf34 rfl) rfl ?_
  refine JQ.v (JV.known (c := true) (JV.call Tryd.call60 (evs_cons rfl evs_nil) (valid_pure _)) (hvk)) rfl ?_
  refine JQ.v (JV.notB rfl) rfl ?_
  refine JQ.v (JV.move rfl) rfl ?_
  refine JQ.vg rfl rfl (JV.fieldAddrK (o := 7) rfl Tryd.runUnderlying34 rfl Tryd.sizeOf3 rfl rfl) rfl ?_
  refine JQ.vg rfl rfl (JV.load1 2 rfl rfl Tryd.isAgg3 (rfl)) rfl ?_
  refine JQ.vg rfl rfl (JV.fieldAddrK (o := 0) rfl Tryd.runUnderlying29 rfl Tryd.sizeOf3 rfl rfl) rfl ?_
  refine JQ.vg rfl rfl (JV.load1 1 rfl rfl Tryd.isAgg3 (rfl)) rfl ?_
  refine JQ.vg rfl rfl (JV.known (c := false) (JV.geq rfl rfl) (decide_eq_false (by omega))) rfl ?_
  refine JQ.v (JV.pickF rfl rfl) rfl ?_
  refine JQ.v (JV.assign rfl) rfl ?_
  refine JQ.nil ?_
  refine JQ.n_then ?_
  refine JQ.condF rfl ?_
  refine JQ.seq ?_
  refine JQ.region ?_
  refine JQ.v (JV.fieldAddrK (o := 1) rfl Tryd.runUnderlying29 rfl Tryd.sizeOf27 rfl rfl) rfl ?_
  refine JQ.v (JV.load1 1 rfl rfl Tryd.isAgg27 (rfl)) rfl ?_
  refine JQ.v (JV.lenRo 100 rfl rfl Tryd.runUnderlying27) rfl ?_
  refine JQ.v (JV.known (c := false) (JV.geqN (b := 4096) rfl rfl) (decide_eq_false (by omega))) rfl ?_
  refine JQ.v (JV.move rfl) rfl ?_
  refine JQ.vg rfl rfl (JV.fieldAddrK (o := 0) rfl Tryd.runUnderlying29 rfl Tryd.sizeOf3 rfl rfl) rfl ?_
  refine JQ.vg rfl rfl (JV.load1 1 rfl rfl Tryd.isAgg3 (rfl)) rfl ?_
  refine JQ.vg rfl rfl (JV.geq rfl rfl) rfl ?_
  refine JQ.v (JV.pickF rfl rfl) rfl ?_
  refine JQ.v (JV.assign rfl) rfl ?_
  refine JQ.nil ?_
  refine JQ.n_then ?_
  refine JQ.cond rfl (fun h19 => ?_) (fun h19 => ?_)
  · have h19b : 2147483647 ≤ n := of_decide_eq_true h19
    refine JQ.seq ?_
    refine JQ.region ?_
    refine JQ.v (JV.build (v := .agg [iv 0, .slice none 0 0].toArray) evp_nil (fun w => by kernel_rfl)) rfl ?_
    refine JQ.s (JO.storeV 3 rfl rfl rfl rfl Tryd.sizeOf29 rfl rfl) ?_
    refine JQ.v (JV.assign rfl) rfl ?_
    refine JQ.v (JV.assign rfl) rfl ?_
    refine JQ.nil ?_
    refine JQ.n_then ?_
    refine JQ.ret ?_
    refine JQ.r_block ?_
    refine JQ.r_then ?_
    refine JQ.doneCTT 3 Tryd.results37 rfl rfl rfl rfl Tryd.isAgg29 Tryd.sizeOf29 rfl ?_
    exact fun w hw => ⟨.slice none 0 0, by rw [addT, addI, addE, if_pos h19b, if_pos h19b, if_pos h19b], by rw [addT, if_pos h19b]; exact owns_knil _ _, hw.below⟩
  · have h19b : ¬ 2147483647 ≤ n := of_decide_eq_false h19
    refine JQ.skip ?_
    refine JQ.n_block ?_
    refine JQ.n_then ?_
    refine JQ.seq ?_
    refine JQ.region ?_
    refine JQ.v (JV.fieldAddrK (o := 0) rfl Tryd.runUnderlying29 rfl Tryd.sizeOf3 rfl rfl) rfl ?_
    refine JQ.v (JV.load1 1 rfl rfl Tryd.isAgg3 (rfl)) rfl ?_
    refine JQ.v (JV.fieldAddrK (o := 0) rfl Tryd.runUnderlying34 rfl Tryd.sizeOf3 rfl rfl) rfl ?_
    refine JQ.s (JO.store1 2 rfl rfl rfl rfl Tryd.sizeOf3 (Nat.le_of_ble_eq_true rfl)) ?_
    refine JQ.nil ?_
    refine JQ.n_then ?_
    refine JQ.seq ?_
    refine JQ.any [_, _, _, _, _, _, _, _, _, _, _, _, _, _, _] [fun _ => [], fun _ => [], fun _ => [], fun _ => [], fun _ => [], fun _ => [], fun _ => [], _, _, fun _ => [], fun _ => [], fun _ => [], _, fun _ => [], fun _ => []] [⟨[], [], [], []⟩, ⟨[1], [], [], [0]⟩, ⟨[], [], [], [0, 1]⟩, ⟨[], [], [], []⟩, ⟨[1], [], [], [3]⟩, ⟨[100], [], [], [3, 4]⟩, ⟨[2], [], [], []⟩, ⟨[], [4], [], [6]⟩, ⟨[100, 4], [56], [7], [3, 4, 5, 6, 7]⟩, ⟨[], [], [7, 8], [0, 1, 2, 3, 4, 5, 6, 7, 8]⟩, ⟨[], [], [], []⟩, ⟨[2], [], [], [10]⟩, ⟨[], [3], [7, 8], [0, 1, 2, 3, 4, 5, 6, 7, 8, 9]⟩, ⟨[], [], [], [0, 1, 2, 3, 4, 5, 6, 7, 8, 9, 10, 11, 12]⟩, ⟨[], [], [], [0, 1, 2, 3, 4, 5, 6, 7, 8, 9, 10, 11, 12, 13]⟩] Tryd.mixed rfl (by kernel_rfl) ⟨Ob.v rfl (fun _ _ h => by cases h) (fun _ _ _ => rfl) (fun e L' hL => JV.fieldAddrK (o := 0) rfl Tryd.runUnderlying29 rfl Tryd.sizeOf3 rfl rfl),
            Ob.v rfl (fun _ _ h => by cases h) (fun _ _ _ => rfl) (fun e L' hL => JV.load1 1 rfl ((hL 1 (by decide)).trans rfl) Tryd.isAgg3 (rfl)),
            Ob.v rfl (fun _ _ h => by cases h) (fun _ _ _ => rfl) (fun e L' hL => JV.addI rfl rfl (by omega)),
            Ob.v rfl (fun _ _ h => by cases h) (fun _ _ _ => rfl) (fun e L' hL => JV.fieldAddrK (o := 1) rfl Tryd.runUnderlying29 rfl Tryd.sizeOf27 rfl rfl),
            Ob.v rfl (fun _ _ h => by cases h) (fun _ _ _ => rfl) (fun e L' hL => JV.load1 1 rfl ((hL 1 (by decide)).trans rfl) Tryd.isAgg27 (rfl)),
            Ob.v rfl (fun _ _ h => by cases h) (fun _ _ _ => rfl) (fun e L' hL => JV.call Tryd.call62 (evs_cons rfl evs_nil) (clip_pure _ _ _ hcc)),
            Ob.v rfl (fun _ _ h => by cases h) (fun _ _ _ => rfl) (fun e L' hL => JV.loadV 2 rfl ((hL 2 (by decide)).trans rfl) Tryd.isAgg34 Tryd.sizeOf34 rfl),
            Ob.nb 4 rfl (fun _ _ h => by cases h) (fun _ _ _ => ⟨rfl, rfl⟩) (by decide) (fun e L' hL => JO.buildSlice 4 (us := (kc (withId n k))) (e := 34) (evp_cons rfl evp_nil) (fun w => by kernel_rfl)),
            Ob.val 56 rfl (fun _ _ h => by cases h) (fun e e' he => by constructor <;> (funext z; first | rfl | simp only [he 7 (by decide)])) (by decide) (fun e L' hL => JO.appendFull 56 0 elem34 rfl rfl (fun w hw => (hw.reads (id := 100) ((hL 100 (by decide)).trans rfl)).clip) (fun w hw => Src.ro Tryd.underlying27 (reads_cells9 (hw.blk (id := 4) ((hL 4 (by decide)).trans rfl)) rfl rfl (by decide))) rfl (by omega) (by omega) (by decide)),
            Ob.v rfl (fun _ _ h => by cases h) (fun e e' he => by first | rfl | simp only [he 7 (by decide), he 8 (by decide)]) (fun e L' hL => JV.build (v := (.agg [iv (n + 1), slv (e 8).2.2 (ks.length + 1)].toArray)) (evp_cons rfl (evp_cons rfl evp_nil)) (fun w => by kernel_rfl)),
            Ob.v rfl (fun _ _ h => by cases h) (fun _ _ _ => rfl) (fun e L' hL => JV.fieldAddrK (o := 0) rfl Tryd.runUnderlying34 rfl Tryd.sizeOf3 rfl rfl),
            Ob.v rfl (fun _ _ h => by cases h) (fun _ _ _ => rfl) (fun e L' hL => JV.load1 2 rfl ((hL 2 (by decide)).trans rfl) Tryd.isAgg3 (rfl)),
            Ob.s 3 rfl (fun _ _ h => by cases h) (fun e e' he => by first | rfl | simp only [he 7 (by decide), he 8 (by decide)]) (fun e L' hL => JO.storeV 3 rfl ((hL 3 (by decide)).trans rfl) rfl rfl Tryd.sizeOf29 rfl rfl),
            Ob.v rfl (fun _ _ h => by cases h) (fun _ _ _ => rfl) (fun e L' hL => JV.assign rfl),
            Ob.v rfl (fun _ _ h => by cases h) (fun _ _ _ => rfl) (fun e L' hL => JV.assign rfl), trivial⟩ (fun ev6 => ?_)
    simp only [endF, endL, putF, List.nil_append, List.cons_append]
    refine JQ.n_then ?_
    refine JQ.ret ?_
    refine JQ.doneCTT 3 Tryd.results37 rfl rfl rfl rfl Tryd.isAgg29 Tryd.sizeOf29 rfl ?_
    exact fun w hw => ⟨_, by rw [addT, addI, addE, if_neg h19b, if_neg h19b, if_neg h19b], by rw [addT, if_neg h19b]; exact owns_add (hw.ok 56 _ rfl), hw.below⟩

theorem kadd_spec (n : Int) (kv : Value) (ks : List Pl.Key) (hl : ks.length < 4096) (k : Pl.Key) (hvk : vkG k = true) (hpar : k.par < n) (hn0 : 0 ≤ n) (w : World) (hr : Reads w kv 9 ks.length (kcs ks)) : Calls Tryd.prog 37 #[.agg [iv n, kv].toArray, .agg (kc k).toArray] w fun e w' => ∃ v, e = .returned (.tuple #[.agg [iv (addT n ks k).next, v].toArray, iv (addI n), iv (addE n)]) ∧ w'.ownsRow w.heap.size 34 9 v (addT n ks k).keys.length (kcs (addT n ks k).keys) ∧ Below w.heap.size w w' := by
  obtain ⟨aa, cc, rfl⟩ := reads_sln hr
  exact kadd_spec0 n aa cc ks hr.cap hl k hvk hpar hn0 w hr

theorem rkadd_spec0 (n : Int) (aa : Option Addr) (cc : Nat) (ks : List Pl.Key) (hcc : ks.length ≤ cc) (hl : ks.length < 4096) (k : Pl.Key) (hvk : vkR k = true) (hpar : k.par < n) (hn0 : 0 ≤ n) (w : World) (hr : Reads w (.slice aa ks.length cc) 9 ks.length (kcs ks)) :
    Calls Tryd.prog 46 #[.agg [iv n, (.slice aa ks.length cc)].toArray, .agg (kc k).toArray] w fun e w' => ∃ v, e = .returned (.agg [iv (addT n ks k).next, v, iv (addI n), iv (addE n)].toArray) ∧ w'.ownsRow w.heap.size 34 9 v (addT n ks k).keys.length (kcs (addT n ks k).keys) ∧ Below w.heap.size w w' := by
  
  refine enterA (vs := [_, _]) Tryd.func46 rfl 47 rfl [(100, .ro (.slice aa ks.length cc) 9 ks.length (kcs ks))] (MemOk.start1 100 hr) ?_
  refine JQ.seq ?_
  refine JQ.region ?_
  refine JQ.x (JO.box 1 rfl rfl) rfl ?_
  intro i0_0
  refine JQ.x (JO.box 2 rfl rfl) rfl ?_
  intro i0_1
  refine JQ.x (JO.alloc 3 (zs := [iv 0, .slice none 0 0, iv 0, iv 0]) Tryd.zeroValue93 rfl) rfl ?_
  intro i0_2
  refine JQ.nil ?_
  refine JQ.n_then ?_
  refine JQ.seq ?_
  refine JQ.region ?_
  refine JQ.v (JV.loadV 2 rfl rfl Tryd.isAgg34 Tryd.sizeOf34 rfl) rfl ?_
  refine JQ.v (JV.known (c := true) (JV.call Tryd.call53 (evs_cons rfl evs_nil) (rvalid_pure _)) (hvk)) rfl ?_
  refine JQ.v (JV.assign rfl) rfl ?_
  refine JQ.nil ?_
  refine JQ.n_then ?_
  refine JQ.seq ?_
  refine JQ.seq ?_
  refine JQ.region ?_
  refine JQ.v (JV.move rfl) rfl ?_
  refine JQ.v (JV.notB rfl) rfl ?_
  refine JQ.v (JV.move rfl) rfl ?_
  refine JQ.vg rfl rfl (JV.fieldAddrK (o := 7) rfl Tryd.runUnderlying34 rfl Tryd.sizeOf3 rfl rfl) rfl ?_
  refine JQ.vg rfl rfl (JV.load1 2 rfl rfl Tryd.isAgg3 (rfl)) rfl ?_
  refine JQ.vg rfl rfl (JV.fieldAddrK (o := 0) rfl Tryd.runUnderlying29 rfl Tryd.sizeOf3 rfl rfl) rfl ?_
  refine JQ.vg rfl rfl (JV.load1 1 rfl rfl Tryd.isAgg3 (rfl)) rfl ?_
  refine JQ.vg rfl rfl (JV.known (c := false) (JV.geq rfl rfl) (decide_eq_false (by omega))) rfl ?_
  refine JQ.v (JV.pickF rfl rfl) rfl ?_
  refine JQ.nil ?_
  refine JQ.n_then ?_
  refine JQ.condF rfl ?_
  refine JQ.skip ?_
  refine JQ.n_then ?_
  refine JQ.seq ?_
  refine JQ.seq ?_
  refine JQ.region ?_
  refine JQ.v (JV.fieldAddrK (o := 1) rfl Tryd.runUnderlying29 rfl Tryd.sizeOf27 rfl rfl) rfl ?_
  refine JQ.v (JV.load1 1 rfl rfl Tryd.isAgg27 (rfl)) rfl ?_
  refine JQ.v (JV.lenRo 100 rfl rfl Tryd.runUnderlying27) rfl ?_
  refine JQ.v (JV.known (c := false) (JV.geqN (b := 4096) rfl rfl) (decide_eq_false (by omega))) rfl ?_
  refine JQ.v (JV.move rfl) rfl ?_
  refine JQ.vg rfl rfl (JV.fieldAddrK (o := 0) rfl Tryd.runUnderlying29 rfl Tryd.sizeOf3 rfl rfl) rfl ?_
  refine JQ.vg rfl rfl (JV.load1 1 rfl rfl Tryd.isAgg3 (rfl)) rfl ?_
  refine JQ.vg rfl rfl (JV.geq rfl rfl) rfl ?_
  refine JQ.v (JV.pickF rfl rfl) rfl ?_
  refine JQ.nil ?_
  refine JQ.n_then ?_
  refine JQ.cond rfl (fun h27 => ?_) (fun h27 => ?_)
  · have h27b : 2147483647 ≤ n := of_decide_eq_true h27
    refine JQ.seq ?_
    refine JQ.region ?_
    refine JQ.v (JV.build (v := .agg [iv 0, .slice none 0 0, iv 0, iv 2].toArray) (evp_cons rfl evp_nil) (fun w => by kernel_rfl)) rfl ?_
    refine JQ.s (JO.storeV 3 rfl rfl rfl rfl Tryd.sizeOf93 rfl rfl) ?_
    refine JQ.nil ?_
    refine JQ.n_then ?_
    refine JQ.ret ?_
    refine JQ.r_then ?_
    refine JQ.doneC 3 Tryd.results46 rfl rfl Tryd.isAgg93 Tryd.sizeOf93 rfl ?_
    exact fun w hw => ⟨.slice none 0 0, by rw [addT, addI, addE, if_pos h27b, if_pos h27b, if_pos h27b], by rw [addT, if_pos h27b]; exact owns_knil _ _, hw.below⟩
  · have h27b : ¬ 2147483647 ≤ n := of_decide_eq_false h27
    refine JQ.skip ?_
    refine JQ.n_then ?_
    refine JQ.seq ?_
    refine JQ.region ?_
    refine JQ.v (JV.fieldAddrK (o := 0) rfl Tryd.runUnderlying29 rfl Tryd.sizeOf3 rfl rfl) rfl ?_
    refine JQ.v (JV.load1 1 rfl rfl Tryd.isAgg3 (rfl)) rfl ?_
    refine JQ.v (JV.fieldAddrK (o := 0) rfl Tryd.runUnderlying34 rfl Tryd.sizeOf3 rfl rfl) rfl ?_
    refine JQ.s (JO.store1 2 rfl rfl rfl rfl Tryd.sizeOf3 (Nat.le_of_ble_eq_true rfl)) ?_
    refine JQ.nil ?_
    refine JQ.n_then ?_
    refine JQ.seq ?_
    refine JQ.region ?_
    refine JQ.v (JV.assign rfl) rfl ?_
    refine JQ.nilRow 55 34 9 ?_
    refine JQ.nil ?_
    refine JQ.n_then ?_
    refine JQ.seq ?_
    refine JQ.region ?_
    refine JQ.v (JV.move rfl) rfl ?_
    refine JQ.v (JV.fieldAddrK (o := 1) rfl Tryd.runUnderlying29 rfl Tryd.sizeOf27 rfl rfl) rfl ?_
    refine JQ.v (JV.load1 1 rfl rfl Tryd.isAgg27 (rfl)) rfl ?_
    refine JQ.x (JO.appendS 55 (m := ks.length) elem34 rfl rfl rfl (fun w hw => Src.rd Tryd.underlying27 (hw.reads (id := 100) rfl)) (kcs_all ks) (by omega) (by omega)) rfl ?_
    intro i8_3
    rw [Nat.zero_add, List.nil_append]
    refine JQ.v (JV.assign rfl) rfl ?_
    refine JQ.nil ?_
    refine JQ.n_then ?_
    refine JQ.seq ?_
    refine JQ.any [_, _, _, _, _, _, _, _, _, _, _, _] [fun _ => [], fun _ => [], fun _ => [], fun _ => [], fun _ => [], _, _, fun _ => [], fun _ => [], fun _ => [], fun _ => [], _] [⟨[], [], [], []⟩, ⟨[1], [], [], [0]⟩, ⟨[], [], [], [0, 1]⟩, ⟨[], [], [], []⟩, ⟨[2], [], [], []⟩, ⟨[], [4], [], [4]⟩, ⟨[4], [55], [5], [3, 4, 5]⟩, ⟨[], [], [5, 6], [0, 1, 2, 3, 4, 5, 6]⟩, ⟨[], [], [], []⟩, ⟨[2], [], [], [8]⟩, ⟨[], [], [5, 6], [0, 1, 2, 3, 4, 5, 6, 7, 8, 9]⟩, ⟨[], [3], [5, 6], [0, 1, 2, 3, 4, 5, 6, 7, 8, 9, 10]⟩] Tryd.mixed rfl (by kernel_rfl) ⟨Ob.v rfl (fun _ _ h => by cases h) (fun _ _ _ => rfl) (fun e L' hL => JV.fieldAddrK (o := 0) rfl Tryd.runUnderlying29 rfl Tryd.sizeOf3 rfl rfl),
            Ob.v rfl (fun _ _ h => by cases h) (fun _ _ _ => rfl) (fun e L' hL => JV.load1 1 rfl ((hL 1 (by decide)).trans rfl) Tryd.isAgg3 (rfl)),
            Ob.v rfl (fun _ _ h => by cases h) (fun _ _ _ => rfl) (fun e L' hL => JV.addI rfl rfl (by omega)),
            Ob.v rfl (fun _ _ h => by cases h) (fun _ _ _ => rfl) (fun e L' hL => JV.move rfl),
            Ob.v rfl (fun _ _ h => by cases h) (fun _ _ _ => rfl) (fun e L' hL => JV.loadV 2 rfl ((hL 2 (by decide)).trans rfl) Tryd.isAgg34 Tryd.sizeOf34 rfl),
            Ob.nb 4 rfl (fun _ _ h => by cases h) (fun _ _ _ => ⟨rfl, rfl⟩) (by decide) (fun e L' hL => JO.buildSlice 4 (us := (kc (withId n k))) (e := 34) (evp_cons rfl evp_nil) (fun w => by kernel_rfl)),
            Ob.val 55 rfl (fun _ _ h => by cases h) (fun e e' he => by constructor <;> (funext z; first | rfl | simp only [he 5 (by decide)])) (by decide) (fun e L' hL => JO.appendS 55 (m := 1) elem34 rfl rfl ((hL 55 (by decide)).trans rfl) (fun w hw => Src.ro Tryd.underlying27 (reads_cells9 (hw.blk (id := 4) ((hL 4 (by decide)).trans rfl)) rfl rfl (by decide))) rfl (by omega) (by omega)),
            Ob.v rfl (fun _ _ h => by cases h) (fun e e' he => by first | rfl | simp only [he 5 (by decide), he 6 (by decide)]) (fun e L' hL => JV.build (v := (.agg [iv (n + 1), slv (e 6).2.2 (ks.length + 1)].toArray)) (evp_cons rfl (evp_cons rfl evp_nil)) (fun w => by kernel_rfl)),
            Ob.v rfl (fun _ _ h => by cases h) (fun _ _ _ => rfl) (fun e L' hL => JV.fieldAddrK (o := 0) rfl Tryd.runUnderlying34 rfl Tryd.sizeOf3 rfl rfl),
            Ob.v rfl (fun _ _ h => by cases h) (fun _ _ _ => rfl) (fun e L' hL => JV.load1 2 rfl ((hL 2 (by decide)).trans rfl) Tryd.isAgg3 (rfl)),
            Ob.v rfl (fun _ _ h => by cases h) (fun e e' he => by first | rfl | simp only [he 5 (by decide), he 6 (by decide)]) (fun e L' hL => JV.build (v := (.agg [iv (n + 1), slv (e 6).2.2 (ks.length + 1), iv n, iv 0].toArray)) (evp_cons rfl (evp_cons rfl evp_nil)) (fun w => by kernel_rfl)),
            Ob.s 3 rfl (fun _ _ h => by cases h) (fun e e' he => by first | rfl | simp only [he 5 (by decide), he 6 (by decide)]) (fun e L' hL => JO.storeV 3 rfl ((hL 3 (by decide)).trans rfl) rfl rfl Tryd.sizeOf93 rfl rfl), trivial⟩ (fun ev9 => ?_)
    simp only [endF, endL, putF, List.nil_append, List.cons_append]
    refine JQ.n_then ?_
    refine JQ.ret ?_
    refine JQ.doneC 3 Tryd.results46 rfl rfl Tryd.isAgg93 Tryd.sizeOf93 rfl ?_
    exact fun w hw => ⟨_, by rw [addT, addI, addE, if_neg h27b, if_neg h27b, if_neg h27b], by rw [addT, if_neg h27b]; exact owns_add (hw.ok 55 _ rfl), hw.below⟩

theorem rkadd_spec (n : Int) (kv : Value) (ks : List Pl.Key) (hl : ks.length < 4096) (k : Pl.Key) (hvk : vkR k = true) (hpar : k.par < n) (hn0 : 0 ≤ n) (w : World) (hr : Reads w kv 9 ks.length (kcs ks)) : Calls Tryd.prog 46 #[.agg [iv n, kv].toArray, .agg (kc k).toArray] w fun e w' => ∃ v, e = .returned (.agg [iv (addT n ks k).next, v, iv (addI n), iv (addE n)].toArray) ∧ w'.ownsRow w.heap.size 34 9 v (addT n ks k).keys.length (kcs (addT n ks k).keys) ∧ Below w.heap.size w w' := by
  obtain ⟨aa, cc, rfl⟩ := reads_sln hr
  exact rkadd_spec0 n aa cc ks hr.cap hl k hvk hpar hn0 w hr

theorem allowed_spec (n : Int) (kv : Value) (ks : List Pl.Key) (hl : ks.length ≤ 1048576) (hs : Pl.incr ks) (id uses now : Int) (w : World) (hr : Reads w kv 9 ks.length (kcs ks)) :
    Calls Tryd.prog 15 #[.agg [iv n, kv].toArray, iv id, iv uses, iv now] w fun e w' => e = .returned (.tuple #[.agg (kc (alK ks id uses now)).toArray, iv (alE ks id uses now)]) ∧ Below w.heap.size w w' := by
  
  refine enterA (vs := [_, _, _, _]) Tryd.func15 rfl 37 rfl [(100, .ro kv 9 ks.length (kcs ks))] (MemOk.start1 100 hr) ?_
  refine JQ.seq ?_
  refine JQ.region ?_
  refine JQ.x (JO.box 1 rfl rfl) rfl ?_
  intro i0_0
  refine JQ.x (JO.alloc 2 (zs := (kc Pl.Key.zero)) Tryd.zeroValue34 rfl) rfl ?_
  intro i0_1
  refine JQ.v (JV.assign rfl) rfl ?_
  refine JQ.nil ?_
  refine JQ.n_then ?_
  refine JQ.seq ?_
  refine JQ.region ?_
  refine JQ.v (JV.loadV 1 rfl rfl Tryd.isAgg29 Tryd.sizeOf29 rfl) rfl ?_
  refine JQ.v (JV.move rfl) rfl ?_
  refine JQ.v (JV.callM Tryd.call11 (evs_cons rfl (evs_cons rfl evs_nil)) (fun w hw => get_spec n kv ks (by omega) hs id w (hw.reads (id := 100) rfl))) rfl ?_
  refine JQ.v (JV.move rfl) rfl ?_
  refine JQ.v (JV.extract rfl rfl) rfl ?_
  refine JQ.v (JV.extract rfl rfl) rfl ?_
  refine JQ.x (JO.alloc 3 (zs := (kc Pl.Key.zero)) Tryd.zeroValue34 rfl) rfl ?_
  intro i1_6
  refine JQ.s (JO.storeV 3 rfl rfl rfl (us := kc (Pl.getK ks id)) rfl Tryd.sizeOf34 rfl rfl) ?_
  refine JQ.v (JV.assign rfl) rfl ?_
  refine JQ.nil ?_
  refine JQ.n_then ?_
  refine JQ.seq ?_
  refine JQ.block ?_
  refine JQ.seq ?_
  refine JQ.region ?_
  refine JQ.v (JV.move rfl) rfl ?_
  refine JQ.v (JV.neqI rfl rfl) rfl ?_
  refine JQ.v (JV.assign rfl) rfl ?_
  refine JQ.nil ?_
  refine JQ.n_then ?_
  refine JQ.condP rfl (fun h18 => ?_) (fun h18 => ?_)
  · refine JQ.seq ?_
    refine JQ.region ?_
    refine JQ.v (JV.build (v := .agg (kc Pl.Key.zero).toArray) evp_nil (fun w => by kernel_rfl)) rfl ?_
    refine JQ.v (JV.move rfl) rfl ?_
    refine JQ.s (JO.storeV 2 rfl rfl rfl (us := kc Pl.Key.zero) rfl Tryd.sizeOf34 rfl rfl) ?_
    refine JQ.v (JV.assign rfl) rfl ?_
    refine JQ.nil ?_
    refine JQ.n_then ?_
    refine JQ.ret ?_
    refine JQ.r_block ?_
    refine JQ.r_then ?_
    refine JQ.doneCT 2 Tryd.results15 rfl rfl rfl Tryd.isAgg34 Tryd.sizeOf34 rfl ?_
    exact fun w hw => ⟨by have e : alE ks id uses now = Pl.getE ks id := (by rw [alE, if_pos h18]); rw [alK, e, if_neg h18]; rfl, hw.below⟩
  · refine JQ.seq ?_
    refine JQ.region ?_
    refine JQ.v (JV.loadV 3 rfl rfl Tryd.isAgg34 Tryd.sizeOf34 rfl) rfl ?_
    refine JQ.v (JV.move rfl) rfl ?_
    refine JQ.v (JV.call Tryd.call40 (evs_cons rfl (evs_cons rfl evs_nil)) (live_pure _ _)) rfl ?_
    refine JQ.v (JV.notB rfl) rfl ?_
    refine JQ.v (JV.assign rfl) rfl ?_
    refine JQ.nil ?_
    refine JQ.n_then ?_
    refine JQ.cond rfl (fun h23 => ?_) (fun h23 => ?_)
    · refine JQ.seq ?_
      refine JQ.region ?_
      refine JQ.v (JV.build (v := .agg (kc Pl.Key.zero).toArray) evp_nil (fun w => by kernel_rfl)) rfl ?_
      refine JQ.s (JO.storeV 2 rfl rfl rfl (us := kc Pl.Key.zero) rfl Tryd.sizeOf34 rfl rfl) ?_
      refine JQ.v (JV.assign rfl) rfl ?_
      refine JQ.nil ?_
      refine JQ.n_then ?_
      refine JQ.ret ?_
      refine JQ.r_block ?_
      refine JQ.r_then ?_
      refine JQ.doneCT 2 Tryd.results15 rfl rfl rfl Tryd.isAgg34 Tryd.sizeOf34 rfl ?_
      exact fun w hw => ⟨by have e : alE ks id uses now = 13 := (by rw [alE, if_neg h18, if_pos h23]); rw [alK, e, if_neg (by decide)], hw.below⟩
    · refine JQ.seq ?_
      refine JQ.region ?_
      refine JQ.v (JV.move rfl) rfl ?_
      refine JQ.v (JV.fieldAddrK (o := 3) rfl Tryd.runUnderlying34 rfl Tryd.sizeOf3 rfl rfl) rfl ?_
      refine JQ.v (JV.load1 3 rfl rfl Tryd.isAgg3 (rfl)) rfl ?_
      refine JQ.v (JV.bitI (by decide) rfl rfl) rfl ?_
      refine JQ.v (JV.neqI rfl rfl) rfl ?_
      refine JQ.v (JV.assign rfl) rfl ?_
      refine JQ.nil ?_
      refine JQ.n_then ?_
      refine JQ.condP rfl (fun h29 => ?_) (fun h29 => ?_)
      · refine JQ.seq ?_
        refine JQ.region ?_
        refine JQ.v (JV.build (v := .agg (kc Pl.Key.zero).toArray) evp_nil (fun w => by kernel_rfl)) rfl ?_
        refine JQ.s (JO.storeV 2 rfl rfl rfl (us := kc Pl.Key.zero) rfl Tryd.sizeOf34 rfl rfl) ?_
        refine JQ.v (JV.assign rfl) rfl ?_
        refine JQ.nil ?_
        refine JQ.n_then ?_
        refine JQ.ret ?_
        refine JQ.r_block ?_
        refine JQ.r_then ?_
        refine JQ.doneCT 2 Tryd.results15 rfl rfl rfl Tryd.isAgg34 Tryd.sizeOf34 rfl ?_
        exact fun w hw => ⟨by have e : alE ks id uses now = 10 := (by rw [alE, if_neg h18, if_neg (by rw [h23]; decide), if_pos h29]); rw [alK, e, if_neg (by decide)], hw.below⟩
      · refine JQ.skip ?_
        refine JQ.n_block ?_
        refine JQ.n_then ?_
        refine JQ.seq ?_
        refine JQ.region ?_
        refine JQ.v (JV.loadV 3 rfl rfl Tryd.isAgg34 Tryd.sizeOf34 rfl) rfl ?_
        refine JQ.s (JO.storeV 2 rfl rfl rfl (us := kc (Pl.getK ks id)) rfl Tryd.sizeOf34 rfl rfl) ?_
        refine JQ.v (JV.assign rfl) rfl ?_
        refine JQ.nil ?_
        refine JQ.n_then ?_
        refine JQ.ret ?_
        refine JQ.doneCT 2 Tryd.results15 rfl rfl rfl Tryd.isAgg34 Tryd.sizeOf34 rfl ?_
        exact fun w hw => ⟨by have e : alE ks id uses now = 0 := (by rw [alE, if_neg h18, if_neg (by rw [h23]; decide), if_neg h29]); rw [alK, e, if_pos rfl], hw.below⟩
end Go.Fw
end
