/- Rules for a frame of any kind, for a range over a function, and for calls that turn their caller's memory; no condition. -/
import Derived.Test.YtbacjffnojaibaaDoorFwb
import Derived.OrdersIn
import Derived.TacticsIn
import Derived.RangeFuncRecord
import Derived.Deep.LoopGhost
import Derived.Lib.Builder
import Derived.Lib.UnsafeStr
section
open Go.RowKit
set_option linter.unusedVariables false
set_option linter.unusedSimpArgs false
set_option linter.unusedSectionVars false
namespace Go.Fw

/-! THE SAME RULES FOR A FRAME OF ANY KIND: of a function, or of a round of a range over a function (RO: the loop's record). dm: the marks among the deferred calls. -/
def fo (RO : Option Nat) : Fence := { Fence.wide with round := RO }
theorem callsIn_fo {RO : Option Nat} {P : Program} {f : FuncId} {args : Array Value} {w : World} {R : Ending → World → Prop} (h : Calls P f args w R) : CallsIn (fo RO) 0 P f args w R :=
  (show CallsIn Fence.wide 0 P f args w R from callsIn_wide.2 h)
theorem calls_fo {RO : Option Nat} {P : Program} {f : FuncId} {args : Array Value} {w : World} {R : Ending → World → Prop} (h : CallsIn (fo RO) 0 P f args w R) : Calls P f args w R :=
  callsIn_wide.1 (show CallsIn Fence.wide 0 P f args w R from h)

theorem Yields.wpIn {RO : Option Nat} {P : Program} {o : Oper} {a : Act} {w : World} {R : Value → World → Prop} {next : Act → World → Prop} {Q : Exit → Act → World → Prop}
    (h : Yields P o a w R) (hn : ∀ v w', R v w' → next (a.put o.dst v) w') : o.wpIn (fo RO) 0 P a w next Q := by
  refine ⟨fun _ _ => trivial, ?_⟩
  have hs : o.semAt (fo RO).round a.eval = execOp a.eval o := by
    refine Oper.semAt_eq _ _ _ fun c hc => ?_
    unfold Yields at h
    simp only [execOp, hc, Sem.run_bind] at h
    cases hr : (resolve a.eval c o.type).run P w with
    | ok d w' => simp [hr] at h
    | halt x w' => simp [hr] at h
  rw [hs]
  unfold Yields at h
  generalize (execOp a.eval o).run P w = r at *
  cases r with
  | ok n w' =>
    cases n <;> simp only [Oper.uponIn] at h ⊢
    case value v => exact hn v w' h
    case skip => exact hn _ w' h
    case enter f args =>
      refine ⟨(fun h => by cases h), (callsIn_fo h).mono fun e w'' => ?_⟩
      rintro ⟨v, rfl, hr⟩
      exact hn v w'' hr
  | halt x w' => exact h.elim

def JI (dm : List Deferred) (w0 : World) (sz : Nat) (F : FL) (L : ML) (K : Act → World → Prop) : Prop :=
  ∀ a w, a.tmps.size = sz → a.defers = dm → FrOk F a → MemOk w0 L w → K a w

section
variable {P : Program} {w0 : World} {sz : Nat} {F : FL} {L : ML} {ops : Array Oper} {Q : Exit → Act → World → Prop} {rest : List Oper}
  {d : Nat} {op : Op} {ty : TypeId} {pos : String} {af : Array Edge} {RO : Option Nat} {dm : List Deferred}
/-- The next operation, in the order of the text: one value. -/
theorem JI.v {v : Value} (h : JV P w0 F L ⟨some d, op, ty, pos, af, none⟩ v) (hd : Nat.blt d sz = true)
    (k : JI dm w0 sz ((d, v) :: F) L (wpListIn (fo RO) 0 P ops Q rest)) : JI dm w0 sz F L (wpListIn (fo RO) 0 P ops Q (⟨some d, op, ty, pos, af, none⟩ :: rest)) := by
  intro a w hs hdf hF hL
  unfold wpListIn
  rw [if_pos (wanted_none _ rfl _)]
  refine (h a w (hF.on _) hL).wpIn ?_
  rintro v' w' ⟨rfl, hL'⟩
  have hd' : d < a.tmps.size := by rw [hs]; simpa using hd
  exact k _ w' (by rw [size_put]; exact hs) (by rw [defers_put]; exact hdf) (hF.put hd' _) hL'

/-- .. a value and a memory that hang on what was chosen. -/
theorem JI.x {ι : Sort _} {v : ι → Value} {L' : ι → ML} (h : JO P w0 F L ⟨some d, op, ty, pos, af, none⟩ (fun v' w' => ∃ i, v' = v i ∧ MemOk w0 (L' i) w')) (hd : Nat.blt d sz = true)
    (k : ∀ i, JI dm w0 sz ((d, v i) :: F) (L' i) (wpListIn (fo RO) 0 P ops Q rest)) : JI dm w0 sz F L (wpListIn (fo RO) 0 P ops Q (⟨some d, op, ty, pos, af, none⟩ :: rest)) := by
  intro a w hs hdf hF hL
  unfold wpListIn
  rw [if_pos (wanted_none _ rfl _)]
  refine (h a w (hF.on _) hL).wpIn ?_
  rintro v' w' ⟨i, rfl, hL'⟩
  have hd' : d < a.tmps.size := by rw [hs]; simpa using hd
  exact k i _ w' (by rw [size_put]; exact hs) (by rw [defers_put]; exact hdf) (hF.put hd' _) hL'

/-- .. a store: no slot. -/
theorem JI.s {L' : ML} (h : JO P w0 F L ⟨none, op, ty, pos, af, none⟩ (fun u w' => u = undef ∧ MemOk w0 L' w'))
    (k : JI dm w0 sz F L' (wpListIn (fo RO) 0 P ops Q rest)) : JI dm w0 sz F L (wpListIn (fo RO) 0 P ops Q (⟨none, op, ty, pos, af, none⟩ :: rest)) := by
  intro a w hs hdf hF hL
  unfold wpListIn
  rw [if_pos (wanted_none _ rfl _)]
  refine (h a w (hF.on _) hL).wpIn ?_
  rintro v' w' ⟨_, hL'⟩
  exact k _ w' hs hdf hF hL'

/-- A guarded operation whose guard is met. -/
theorem JI.vg {v : Value} {j dj : Nat} {b : Bool} (hj : (ops[j]?).bind (·.dst) = some dj) (hb : lk F dj = some (.bool b)) (h : JV P w0 F L ⟨some d, op, ty, pos, af, some (j, b)⟩ v) (hd : Nat.blt d sz = true)
    (k : JI dm w0 sz ((d, v) :: F) L (wpListIn (fo RO) 0 P ops Q rest)) : JI dm w0 sz F L (wpListIn (fo RO) 0 P ops Q (⟨some d, op, ty, pos, af, some (j, b)⟩ :: rest)) := by
  intro a w hs hdf hF hL
  unfold wpListIn
  rw [if_pos (by simp [Region.wanted, yielded_of hj hF hb])]
  refine (h a w (hF.on _) hL).wpIn ?_
  rintro v' w' ⟨rfl, hL'⟩
  have hd' : d < a.tmps.size := by rw [hs]; simpa using hd
  exact k _ w' (by rw [size_put]; exact hs) (by rw [defers_put]; exact hdf) (hF.put hd' _) hL'
theorem JI.xg {ι : Sort _} {v : ι → Value} {L' : ι → ML} {j dj : Nat} {b : Bool} (hj : (ops[j]?).bind (·.dst) = some dj) (hb : lk F dj = some (.bool b))
    (h : JO P w0 F L ⟨some d, op, ty, pos, af, some (j, b)⟩ (fun v' w' => ∃ i, v' = v i ∧ MemOk w0 (L' i) w')) (hd : Nat.blt d sz = true)
    (k : ∀ i, JI dm w0 sz ((d, v i) :: F) (L' i) (wpListIn (fo RO) 0 P ops Q rest)) : JI dm w0 sz F L (wpListIn (fo RO) 0 P ops Q (⟨some d, op, ty, pos, af, some (j, b)⟩ :: rest)) := by
  intro a w hs hdf hF hL
  unfold wpListIn
  rw [if_pos (by simp [Region.wanted, yielded_of hj hF hb])]
  refine (h a w (hF.on _) hL).wpIn ?_
  rintro v' w' ⟨i, rfl, hL'⟩
  have hd' : d < a.tmps.size := by rw [hs]; simpa using hd
  exact k i _ w' (by rw [size_put]; exact hs) (by rw [defers_put]; exact hdf) (hF.put hd' _) hL'
/-- .. is not met. -/
theorem JI.g0 {j dj : Nat} {b c : Bool} (hj : (ops[j]?).bind (·.dst) = some dj) (hb : lk F dj = some (.bool b)) (hbc : (b == c) = false) (hd : Nat.blt d sz = true)
    (k : JI dm w0 sz ((d, undef) :: F) L (wpListIn (fo RO) 0 P ops Q rest)) : JI dm w0 sz F L (wpListIn (fo RO) 0 P ops Q (⟨some d, op, ty, pos, af, some (j, c)⟩ :: rest)) := by
  intro a w hs hdf hF hL
  unfold wpListIn
  rw [if_neg (by simp only [Region.wanted, yielded_of hj hF hb]; cases b <;> cases c <;> first | (cases hbc; done) | decide)]
  have hd' : d < a.tmps.size := by rw [hs]; simpa using hd
  exact ⟨fun _ _ => trivial, k _ w (by rw [size_put]; exact hs) (by rw [defers_put]; exact hdf) (hF.put hd' _) hL⟩

theorem JI.nil (h : JI dm w0 sz F L (Q .normal)) : JI dm w0 sz F L (wpListIn (fo RO) 0 P ops Q []) := h
theorem JI.region {id : Nat} {l : List Oper} (h : JI dm w0 sz F L (wpListIn (fo RO) 0 P l.toArray Q l)) : JI dm w0 sz F L ((Code.region id l.toArray false).wpIn (fo RO) 0 P Q) :=
  fun a w h1 h2 h3 h4 => wpIn_region_lit (h a w h1 h2 h3 h4)
theorem JI.seq {x y : Code} (h : JI dm w0 sz F L (x.wpIn (fo RO) 0 P (Exit.then (y.wpIn (fo RO) 0 P Q) Q))) : JI dm w0 sz F L ((Code.seq x y).wpIn (fo RO) 0 P Q) :=
  fun a w h1 h2 h3 h4 => wpIn_seq (h a w h1 h2 h3 h4)
theorem JI.skip (h : JI dm w0 sz F L (Q .normal)) : JI dm w0 sz F L (Code.skip.wpIn (fo RO) 0 P Q) := fun a w h1 h2 h3 h4 => wpIn_skip (h a w h1 h2 h3 h4)
theorem JI.exit {id : Nat} (h : JI dm w0 sz F L (Q (.exit id))) : JI dm w0 sz F L ((Code.exit id).wpIn (fo RO) 0 P Q) := fun a w h1 h2 h3 h4 => wpIn_exit (h a w h1 h2 h3 h4)
theorem JI.ret (h : JI dm w0 sz F L (Q .ret)) : JI dm w0 sz F L (Code.ret.wpIn (fo RO) 0 P Q) := fun a w h1 h2 h3 h4 => wpIn_ret (h a w h1 h2 h3 h4)
theorem JI.block {id : Nat} {c : Code} (h : JI dm w0 sz F L (c.wpIn (fo RO) 0 P (Exit.inBlock id Q))) : JI dm w0 sz F L ((Code.block id c).wpIn (fo RO) 0 P Q) :=
  fun a w h1 h2 h3 h4 => wpIn_block (h a w h1 h2 h3 h4)
theorem JI.cond {c : Operand} {x y : Code} {b : Bool} (hc : evk F c = some (.bool b)) (ht : b = true → JI dm w0 sz F L (x.wpIn (fo RO) 0 P Q)) (hf : b = false → JI dm w0 sz F L (y.wpIn (fo RO) 0 P Q)) : JI dm w0 sz F L ((Code.cond c x y).wpIn (fo RO) 0 P Q) :=
  fun a w h1 h2 h3 h4 => wpIn_cond_split (h3.eval hc) (fun e => ht e a w h1 h2 h3 h4) (fun e => hf e a w h1 h2 h3 h4)
theorem JI.condT {c : Operand} {x y : Code} (hc : evk F c = some (.bool true)) (ht : JI dm w0 sz F L (x.wpIn (fo RO) 0 P Q)) : JI dm w0 sz F L ((Code.cond c x y).wpIn (fo RO) 0 P Q) :=
  fun a w h1 h2 h3 h4 => wpIn_cond_true (h3.eval hc) (ht a w h1 h2 h3 h4)
theorem JI.condF {c : Operand} {x y : Code} (hc : evk F c = some (.bool false)) (hf : JI dm w0 sz F L (y.wpIn (fo RO) 0 P Q)) : JI dm w0 sz F L ((Code.cond c x y).wpIn (fo RO) 0 P Q) :=
  fun a w h1 h2 h3 h4 => wpIn_cond_false (h3.eval hc) (hf a w h1 h2 h3 h4)
theorem JI.condP {c : Operand} {x y : Code} {p : Prop} {hp : Decidable p} (hc : evk F c = some (.bool (decide p))) (ht : p → JI dm w0 sz F L (x.wpIn (fo RO) 0 P Q)) (hf : ¬ p → JI dm w0 sz F L (y.wpIn (fo RO) 0 P Q)) : JI dm w0 sz F L ((Code.cond c x y).wpIn (fo RO) 0 P Q) :=
  JI.cond hc (fun h => ht (of_decide_eq_true h)) (fun h => hf (of_decide_eq_false h))

-- where a way ends
variable {K : Act → World → Prop}
theorem JI.n_then (h : JI dm w0 sz F L K) : JI dm w0 sz F L (Exit.then K Q .normal) := h
theorem JI.n_block {id : Nat} (h : JI dm w0 sz F L (Q .normal)) : JI dm w0 sz F L (Exit.inBlock id Q .normal) := h
theorem JI.e_then {id : Nat} (h : JI dm w0 sz F L (Q (.exit id))) : JI dm w0 sz F L (Exit.then K Q (.exit id)) := h
theorem JI.e_here {id : Nat} (h : JI dm w0 sz F L (Q .normal)) : JI dm w0 sz F L (Exit.inBlock id Q (.exit id)) := by
  intro a w h1 h2 h3 h4
  simp only [Exit.inBlock, if_true]
  exact h a w h1 h2 h3 h4
theorem JI.e_block {id id' : Nat} (hne : Nat.beq id id' = false) (h : JI dm w0 sz F L (Q (.exit id))) : JI dm w0 sz F L (Exit.inBlock id' Q (.exit id)) := by
  intro a w h1 h2 h3 h4
  simp only [Exit.inBlock]
  rw [if_neg (fun e => by subst e; rw [Nat.beq_refl] at hne; cases hne)]
  exact h a w h1 h2 h3 h4
theorem JI.r_then (h : JI dm w0 sz F L (Q .ret)) : JI dm w0 sz F L (Exit.then K Q .ret) := h
theorem JI.r_block {id : Nat} (h : JI dm w0 sz F L (Q .ret)) : JI dm w0 sz F L (Exit.inBlock id Q .ret) := h

end
section
variable {P : Program} {Q : Exit → Act → World → Prop}

theorem wpIn_loop_ghost {F : Fence} {n : Nat} {c : Code} {a : Act} {w : World} (I : Nat → Act → World → Prop) (m0 : Nat) (h0 : I m0 a w)
    (round : ∀ m a w, I m a w → c.wpIn F n P (Exit.then (fun a' w' => ∃ m', m' < m ∧ I m' a' w') Q) a w) : (Code.loop c).wpIn F n P Q a w := by
  intro b k cs hro hb hr
  have key : ∀ j a w, I j a w → ∃ e a' w', Q e a' w' ∧ ArrivesIn (Machine.fenced P F) P (lone (b.atR a (.code c :: .inLoop c :: k)) cs w) b k cs e a' w' := by
    intro j
    induction j using Nat.strongRecOn with
    | _ j ih =>
      intro a w hI
      obtain ⟨e, a₁, w₁, hq, harr⟩ := round j a w hI b (.inLoop c :: k) cs hro hb hr
      cases e with
      | normal =>
        obtain ⟨m', hlt, hI₁⟩ := hq
        obtain ⟨e₂, a₂, w₂, hq₂, harr₂⟩ := ih m' hlt a₁ w₁ hI₁
        exact ⟨e₂, a₂, w₂, hq₂, .of_steps (StepsIn.trans harr (.one (fenced_calm hb hr rfl) stepR_inLoop)) harr₂⟩
      | exit id => exact ⟨_, a₁, w₁, hq, .pass (x := .inLoop c) rfl (fun _ _ => .inl (by simp)) harr⟩
      | goto l => exact ⟨_, a₁, w₁, hq, .pass (x := .inLoop c) rfl (fun _ _ => .inl (by simp)) harr⟩
      | ret => exact ⟨_, a₁, w₁, hq, .pass (x := .inLoop c) rfl (fun _ _ => .inl (by simp)) harr⟩
      | panic ch => exact ⟨_, a₁, w₁, hq, .pass (x := .inLoop c) rfl (fun _ _ => .inl (by simp)) harr⟩
      | outgrown => exact ⟨_, a₁, w₁, hq, .pass (x := .inLoop c) rfl (fun _ _ => .inl (by simp)) harr⟩
  obtain ⟨e, a', w', hq, harr⟩ := key _ a w h0
  exact ⟨e, a', w', hq, .of_steps (.one (fenced_calm hb hr rfl) stepR_loop) harr⟩
end
section
variable {P : Program} {w0 : World} {sz : Nat} {F : FL} {L : ML} {Q : Exit → Act → World → Prop} {K : Act → World → Prop} {RO : Option Nat} {dm : List Deferred}
theorem JI.loopI {ι : Type} {c : Code} (Fi : ι → FL) (Li : ι → ML) (I : ι → Prop) (m : ι → Nat) (i0 : ι) (hI : I i0) (hF : ∀ k v, lk (Fi i0) k = some v → lk F k = some v) (hL : ∀ i r, lr (Li i0) i = some r → lr L i = some r)
    (round : ∀ i, I i → JI dm w0 sz (Fi i) (Li i) (c.wpIn (fo RO) 0 P (Exit.then (fun a w => ∃ j, m j < m i ∧ I j ∧ a.tmps.size = sz ∧ a.defers = dm ∧ FrOk (Fi j) a ∧ MemOk w0 (Li j) w) Q))) :
    JI dm w0 sz F L ((Code.loop c).wpIn (fo RO) 0 P Q) := by
  intro a w h1 h2 h3 h4
  refine wpIn_loop_ghost (fun n a w => ∃ i, m i = n ∧ I i ∧ a.tmps.size = sz ∧ a.defers = dm ∧ FrOk (Fi i) a ∧ MemOk w0 (Li i) w) (m i0) ⟨i0, rfl, hI, h1, h2, h3.sub hF, h4.sub hL⟩ ?_
  rintro n a w ⟨i, rfl, hi, h1, h2, h3, h4⟩
  refine wpIn_mono (round i hi a w h1 h2 h3 h4) ?_
  intro e a' w' hq
  cases e with
  | normal => obtain ⟨j, hj, r⟩ := hq; exact ⟨m j, hj, j, rfl, r⟩
  | _ => exact hq
theorem JI.nextI {ι : Type} {Fi : ι → FL} {Li : ι → ML} {I : ι → Prop} {m : ι → Nat} {i : ι} (j : ι) (hI : I j) (hm : m j < m i) (hF : ∀ k v, lk (Fi j) k = some v → lk F k = some v) (hL : ∀ i r, lr (Li j) i = some r → lr L i = some r) :
    JI dm w0 sz F L (fun a w => ∃ j, m j < m i ∧ I j ∧ a.tmps.size = sz ∧ a.defers = dm ∧ FrOk (Fi j) a ∧ MemOk w0 (Li j) w) :=
  fun _ _ h1 h2 h3 h4 => ⟨j, hm, hI, h1, h2, h3.sub hF, h4.sub hL⟩
/-- What a piece of code comes to, told once; its ways meet again behind it. -/
theorem JI.cut {c : Code} {F' : FL} {L' : ML} (h : ∀ K', JI dm w0 sz F' L' K' → JI dm w0 sz F L (c.wpIn (fo RO) 0 P (Exit.then K' Q))) (k : JI dm w0 sz F' L' K) : JI dm w0 sz F L (c.wpIn (fo RO) 0 P (Exit.then K Q)) := h K k
theorem JI.r_scope (h : JI dm w0 sz F L (Q .ret)) : JI dm w0 sz F L (Exit.noGoto Q .ret) := h
theorem JI.n_scope (h : JI dm w0 sz F L (Q .normal)) : JI dm w0 sz F L (Exit.noGoto Q .normal) := h
theorem JI.e_scope {id : Nat} (h : JI dm w0 sz F L (Q (.exit id))) : JI dm w0 sz F L (Exit.noGoto Q (.exit id)) := h
theorem JI.label {l : Nat} (h : JI dm w0 sz F L (Q .normal)) : JI dm w0 sz F L ((Code.label l).wpIn (fo RO) 0 P Q) := fun a w h1 h2 h3 h4 => wpIn_label (h a w h1 h2 h3 h4)

end
section
variable {P : Program} {w0 : World} {sz : Nat} {RO : Option Nat} {dm : List Deferred}
def InvI (dm : List Deferred) (w0 : World) (sz : Nat) (ops : List Oper) (V : Nat → Env → Value) (A : Nat → Env → ML) (F : FL) (L : ML) (S : Nat → Bool) (e : Env) (a : Act) (w : World) : Prop :=
  a.tmps.size = sz ∧ a.defers = dm ∧ FrOk (frN (fun k => (ops[k]?).bind (·.dst)) V S e ops.length F) a ∧ MemOk w0 (meN A S e ops.length L) w

theorem Good.stepI {ops : List Oper} {V : Nat → Env → Value} {A : Nat → Env → ML} {M : Nat → Spec} {F : FL} {L : ML} (G : Good P w0 ops V A M F L) (hdst : ∀ (i : Nat) (o : Oper) (d : Nat), ops[i]? = some o → o.dst = some d → d < sz) {S : Nat → Bool}
    (closed : ∀ j o, ops[j]? = some o → S j = true → ∀ e ∈ o.after, Region.binds .any e = true → S e.on = true) {i : Nat} {o : Oper} (hi : ops[i]? = some o) (hiS : S i = false)
    (hdeps : ∀ e ∈ o.after, Region.binds .any e = true → S e.on = true) {e : Env} {a : Act} {w : World} (inv : InvI dm w0 sz ops V A F L S e a w) {K : Act → World → Prop} {Q : Exit → Act → World → Prop}
    (hK : ∀ e' a' w', InvI dm w0 sz ops V A F L (fun j => S j || j == i) e' a' w' → K a' w') : wpOpIn (fo RO) 0 P ops.toArray Q i K a w := by
  obtain ⟨hs, hdf, hF, hL⟩ := inv
  have hilt : i < ops.length := (List.getElem?_eq_some_iff.1 hi).1
  have hanc := ancS G closed i o hi hdeps
  -- whoever is not ordered with i is free
  have before : ∀ j oj, j < i → ops[j]? = some oj → S j = false → freeOf ops oj o (M j) (M i) = true := fun j oj hj hoj hSj => by
    rcases G.free j i oj o hj hoj hi with h | h
    · have := hanc j h; rw [hSj] at this; cases this
    · exact h
  have behind : ∀ j oj, i < j → ops[j]? = some oj → S j = true → freeOf ops o oj (M i) (M j) = true := fun j oj hj hoj hSj => by
    rcases G.free i j o oj hj hi hoj with h | h
    · have := ancS G closed j oj hoj (closed j oj hoj hSj) i h; rw [hiS] at this; cases this
    · exact h
  have look : ∀ t ∈ looks ops o, lk (frN (fun k => (ops[k]?).bind (·.dst)) V S e ops.length F) t = lk (frN (fun k => (ops[k]?).bind (·.dst)) V (fun _ => true) e i F) t := by
    intro t ht
    rw [show ops.length = i + (ops.length - i) from by omega, frN_stop]
    · refine frN_same i (fun j hj hd => ?_) (fun _ _ _ => rfl)
      cases hSj : S j with
      | true => rfl
      | false =>
        have hoj : ops[j]? = some (ops[j]'(by omega)) := List.getElem?_eq_getElem (by omega)
        rw [hoj] at hd
        exact absurd ht ((freeOf_spec (before j _ hj hoj hSj)).1 t hd).1
    · intro j h1 h2 hSj hd
      have hne : i ≠ j := fun h => by subst h; rw [hiS] at hSj; cases hSj
      have hoj : ops[j]? = some (ops[j]'(by omega)) := List.getElem?_eq_getElem (by omega)
      rw [hoj] at hd
      exact (freeOf_spec (behind j _ (by omega) hoj hSj)).2.1 t hd ht
  have ob := G.ob i o hi
  have idn : ∀ j oj, ops[j]? = some oj → ∀ x id, id ∉ (M j).wr → lr (A j x) id = none := fun j oj hoj => (G.ob j oj hoj).ids
  have mem : ∀ id, id ∈ (M i).rd ∨ id ∈ (M i).wr → lr (meN A S e ops.length L) id = lr (meN A (fun _ => true) e i L) id := by
    intro id hid
    rw [show ops.length = i + (ops.length - i) from by omega, meN_stop]
    · refine meN_same i (fun j hj => ?_) (fun _ _ _ => .inl rfl)
      cases hSj : S j with
      | true => exact .inl rfl
      | false =>
        have hoj : ops[j]? = some (ops[j]'(by omega)) := List.getElem?_eq_getElem (by omega)
        have hn : id ∉ (M j).wr := fun hw => by
          have := (freeOf_spec (before j _ hj hoj hSj)).2.2.1 id hw
          rcases hid with h | h
          · exact this.1 h
          · exact this.2 h
        exact .inr ⟨idn j _ hoj _ _ hn, idn j _ hoj _ _ hn⟩
    · intro j h1 h2 hSj
      have hne : i ≠ j := fun h => by subst h; rw [hiS] at hSj; cases hSj
      have hoj : ops[j]? = some (ops[j]'(by omega)) := List.getElem?_eq_getElem (by omega)
      refine idn j _ hoj _ _ fun hw => ?_
      have hf := freeOf_spec (behind j _ (by omega) hoj hSj)
      rcases hid with h | h
      · exact hf.2.2.2 id hw h
      · exact (hf.2.2.1 id h).2 hw
  obtain ⟨r, hr, hT, hN⟩ := ob.go e _ mem
  -- the values of those that have come up stay as they are
  have keep : ∀ c j, S j = true → j < ops.length → V j e = V j (upd e i c) ∧ A j e = A j (upd e i c) := by
    intro c j hSj hj
    have hoj : ops[j]? = some (ops[j]'hj) := List.getElem?_eq_getElem hj
    refine (G.ob j _ hoj).dep _ _ fun k hk => ?_
    have : k ≠ i := fun h => by
      subst h
      rcases hk with rfl | hk
      · rw [hiS] at hSj; cases hSj
      · have := ancS G closed j _ hoj (closed j _ hoj hSj) k (G.ch j _ hoj k hk)
        rw [hiS] at this; cases this
    rw [upd_ne e this]
  have fin : ∀ c w', MemOk w0 (A i (upd e i c) ++ meN A S e ops.length L) w' → InvI dm w0 sz ops V A F L (fun j => S j || j == i) (upd e i c) (a.put o.dst (V i (upd e i c))) w' := by
    intro c w' hM
    refine ⟨by rw [size_put]; exact hs, by rw [defers_put]; exact hdf, ?_, ?_⟩
    · intro t v ht
      have key : lk (frN (fun k => (ops[k]?).bind (·.dst)) V (fun j => S j || j == i) (upd e i c) ops.length F) t = if o.dst = some t then some (V i (upd e i c)) else lk (frN (fun k => (ops[k]?).bind (·.dst)) V S e ops.length F) t := by
        by_cases hd : o.dst = some t
        · rw [if_pos hd, show ops.length = (i + 1) + (ops.length - (i + 1)) from by omega, frN_stop]
          · simp only [frN, beq_self_eq_true, Bool.or_true, if_true]
            rw [lk_putF, hi]
            simp [hd]
          · intro j h1 h2 hSj hdj
            have hoj : ops[j]? = some (ops[j]'(by omega)) := List.getElem?_eq_getElem (by omega)
            have hne : (j == i) = false := by simp; omega
            simp only [hne, Bool.or_false] at hSj
            rw [hoj] at hdj
            exact ((freeOf_spec (behind j _ (by omega) hoj hSj)).1 t hd).2 hdj
        · rw [if_neg hd]
          refine (frN_same ops.length (fun j hj hdj => ?_) (fun j hj hSj => (keep c j hSj hj).1)).symm
          have : (j == i) = false := by
            rw [beq_eq_false_iff_ne]
            intro h; subst h; rw [hi] at hdj; exact hd hdj
          simp [this]
      rw [key] at ht
      have hoi : ∀ d, o.dst = some d → d < a.tmps.size := fun d hd => by rw [hs]; exact hdst i o d hi hd
      cases hod : o.dst with
      | none =>
        rw [hod] at ht
        simp only [Act.put]
        exact hF t v (by simpa using ht)
      | some d =>
        rw [hod] at ht
        have := (hF.put (hoi d hod) (V i (upd e i c))) t v (by rw [lk_cons]; simpa using ht)
        simpa [Act.put] using this
    · refine hM.sub fun id r hr => ?_
      have key : lr (meN A (fun j => S j || j == i) (upd e i c) ops.length L) id = lr (A i (upd e i c) ++ meN A S e ops.length L) id := by
        rw [lr_append]
        have hsame : lr (meN A (fun j => S j || j == i) (upd e i c) i L) id = lr (meN A S e i L) id := by
          refine (meN_same i (fun j hj => .inl ?_) (fun j hj hSj => .inl (keep c j hSj (by omega)).2)).symm
          have : (j == i) = false := by simp; omega
          simp [this]
        by_cases hw : id ∈ (M i).wr
        · have st : ∀ (m : Nat) (S' : Nat → Bool) (x : Env), (∀ j, i < j → j < ops.length → S' j = true → S j = true) → lr (meN A S' x ops.length L) id = lr (meN A S' x (i + 1) L) id := by
            intro m S' x hS'
            rw [show ops.length = (i + 1) + (ops.length - (i + 1)) from by omega, meN_stop]
            intro j h1 h2 hSj
            have hoj : ops[j]? = some (ops[j]'(by omega)) := List.getElem?_eq_getElem (by omega)
            exact idn j _ hoj _ _ ((freeOf_spec (behind j _ (by omega) hoj (hS' j (by omega) (by omega) hSj))).2.2.1 id hw).2
          rw [st 0 _ _ (fun j h1 h2 h3 => by have : (j == i) = false := by simp; omega
                                             simpa [this] using h3), st 0 S e (fun _ _ _ h => h)]
          simp only [meN, hiS, beq_self_eq_true, Bool.or_true, if_true, Bool.false_eq_true, if_false]
          rw [lr_append, hsame]
        · have hn : ∀ x, lr (A i x) id = none := fun x => idn i o hi x id hw
          rw [hn, Option.none_or]
          refine (meN_same ops.length (fun j hj => ?_) (fun j hj hSj => .inl (keep c j hSj hj).2)).symm
          by_cases hji : j = i
          · subst hji; exact .inr ⟨hn _, hn _⟩
          · refine .inl ?_
            have : (j == i) = false := by simpa using hji
            simp [this]
      rw [← key]; exact hr
  unfold wpOpIn
  have hi' : ops.toArray[i]? = some o := by simpa using hi
  rw [hi']
  have hwant : Region.wanted o (yielded ops.toArray a.tmps) = r := by
    unfold runs at hr
    unfold Region.wanted
    cases hg : o.guard with
    | none => rw [hg] at hr; simp only at hr; exact hr.symm
    | some p =>
      obtain ⟨j, c⟩ := p
      rw [hg] at hr
      simp only at hr
      obtain ⟨dj, b, h1, h2, h3⟩ := hr
      have hmem : dj ∈ looks ops o := by
        unfold looks
        rw [hg]
        simp [h1]
      have hl := look dj hmem
      rw [h2] at hl
      have h1' : (ops.toArray[j]?).bind (·.dst) = some dj := by simpa using h1
      simp only [yielded_of h1' hF hl, h3]
      cases b <;> cases c <;> rfl
  simp only [hwant]
  cases r with
  | true =>
    simp only [if_true]
    refine ((hT rfl) a w ?_ hL).wpIn ?_
    · intro x hx v hv
      refine hF.eval (x := x) ?_
      cases x with
      | tmp t =>
        have hmem : t ∈ looks ops o := by
          unfold looks
          refine List.mem_append_left _ (List.mem_filterMap.2 ⟨.tmp t, by simpa using hx, rfl⟩)
        simp only [evk] at hv ⊢
        rw [look t hmem]; exact hv
      | _ => exact hv
    · rintro v w' ⟨c, rfl, hM⟩
      exact hK _ _ _ (fin c w' hM)
  | false =>
    obtain ⟨hv, ha⟩ := hN rfl
    have := fin (e i) w (by rw [upd_self, ha]; exact hL)
    rw [upd_self, hv] at this
    simp only [Bool.false_eq_true, if_false]
    exact ⟨fun _ _ => trivial, hK _ _ _ this⟩

theorem Good.anyI {ops : List Oper} {V : Nat → Env → Value} {A : Nat → Env → ML} {M : Nat → Spec} {F : FL} {L : ML} (G : Good P w0 ops V A M F L) (hdst : ∀ (i : Nat) (o : Oper) (d : Nat), ops[i]? = some o → o.dst = some d → d < sz) {Q : Exit → Act → World → Prop}
    (hQ : ∀ e a w, InvI dm w0 sz ops V A F L (fun _ => true) e a w → Q .normal a w) : ∀ (fuel : Nat) (listed : Array Bool), listed.size = ops.length → ((List.range ops.length).filter fun i => !listed.getD i false).length ≤ fuel →
    (∀ j o, ops[j]? = some o → listed.getD j false = true → ∀ e ∈ o.after, Region.binds .any e = true → listed.getD e.on false = true) →
    ∀ e a w, InvI dm w0 sz ops V A F L (fun j => listed.getD j false) e a w → wpAnyIn (fo RO) 0 P .any ops.toArray Q fuel listed a w := by
  intro fuel
  have full : ∀ (listed : Array Bool), listed.size = ops.length → (∀ j, j < ops.length → listed.getD j false = true) → ∀ e a w, InvI dm w0 sz ops V A F L (fun j => listed.getD j false) e a w → Q .normal a w := by
    intro listed hsz hall e a w inv
    obtain ⟨h1, h2, h3, h4⟩ := inv
    refine hQ e a w ⟨h1, h2, ?_, ?_⟩
    · intro t v ht
      exact h3 t v (by rw [frN_same (S' := fun _ => true) (e' := e) ops.length (fun j hj _ => hall j hj) (fun _ _ _ => rfl)]; exact ht)
    · refine h4.sub fun id r hr => ?_
      rw [meN_same (S' := fun _ => true) (e' := e) ops.length (fun j hj => .inl (hall j hj)) (fun _ _ _ => .inl rfl)]; exact hr
  have stuck : ∀ (listed : Array Bool), listed.size = ops.length → Region.ready .any ops.toArray listed = [] → ∀ j, j < ops.length → listed.getD j false = true := by
    intro listed hsz hr j
    induction j using Nat.strongRecOn with
    | _ j ih =>
      intro hj
      cases hl : listed.getD j false with
      | true => rfl
      | false =>
        have hoj : ops[j]? = some (ops[j]'hj) := List.getElem?_eq_getElem hj
        have : j ∈ Region.ready .any ops.toArray listed := mem_ready.2 ⟨by simp [hsz, hj] at hl ⊢; exact hl, ops[j]'hj, by simp, fun e he hb => ih e.on (G.back j _ hoj e he hb) (by have := G.back j _ hoj e he hb; omega)⟩
        rw [hr] at this; cases this
  induction fuel with
  | zero =>
    intro listed hsz hc closed e a w inv
    have hall : ∀ j, j < ops.length → listed.getD j false = true := by
      intro j hj
      cases hl : listed.getD j false with
      | true => rfl
      | false =>
        have hm : j ∈ (List.range ops.length).filter fun i => !listed.getD i false := List.mem_filter.2 ⟨List.mem_range.2 hj, by simp [hl]⟩
        have := List.length_pos_of_mem hm
        omega
    refine ⟨?_, full listed hsz hall e a w inv⟩
    rw [List.eq_nil_iff_forall_not_mem]
    intro j hj
    obtain ⟨h1, o, ho, _⟩ := mem_ready.1 hj
    have hj' : j < ops.length := by have := (Array.getElem?_eq_some_iff.1 ho).1; simpa using this
    have h2 := hall j hj'
    simp [hsz, hj'] at h1 h2
    rw [h1] at h2; cases h2
  | succ fuel ih =>
    intro listed hsz hc closed e a w inv
    refine ⟨fun hr => full listed hsz (stuck listed hsz hr) e a w inv, fun i hi => ?_⟩
    obtain ⟨h1, o, ho, hdeps⟩ := mem_ready.1 hi
    have ho' : ops[i]? = some o := by simpa using ho
    have hilt : i < ops.length := (List.getElem?_eq_some_iff.1 ho').1
    have hiS : listed.getD i false = false := by simp [hsz, hilt] at h1 ⊢; exact h1
    have hset : ∀ j, (listed.setIfInBounds i true).getD j false = (listed.getD j false || j == i) := by
      intro j
      simp only [Array.getD_eq_getD_getElem?, Array.getElem?_setIfInBounds]
      by_cases hji : i = j
      · subst hji; simp [hsz, hilt]
      · rw [if_neg hji]
        have : (j == i) = false := by simp; omega
        simp [this]
    refine G.stepI hdst closed ho' hiS hdeps inv fun e' a' w' inv' => ?_
    refine ih _ (by simpa using hsz) ?_ ?_ e' a' w' ?_
    · have hm : i ∈ (List.range ops.length).filter fun i => !listed.getD i false := List.mem_filter.2 ⟨List.mem_range.2 hilt, by simp [hiS]⟩
      have hsub : ((List.range ops.length).filter fun j => !(listed.setIfInBounds i true).getD j false) = ((List.range ops.length).filter fun j => !listed.getD j false).erase i := by
        rw [List.Nodup.erase_eq_filter (List.Nodup.sublist List.filter_sublist List.nodup_range), List.filter_filter]
        apply List.filter_congr
        intro j _
        rw [hset]
        cases listed.getD j false <;> cases h : (j == i) <;> simp_all
      rw [hsub, List.length_erase_of_mem hm]
      omega
    · intro j oj hoj hj ed hed hb
      rw [hset] at hj ⊢
      by_cases hji : j = i
      · subst hji
        rw [ho'] at hoj
        cases hoj
        rw [hdeps ed hed hb]; rfl
      · have : (j == i) = false := by simpa using hji
        rw [this, Bool.or_false] at hj
        rw [closed j oj hoj hj ed hed hb]; rfl
    · have : (fun j => (listed.setIfInBounds i true).getD j false) = fun j => listed.getD j false || j == i := funext hset
      rw [this]; exact inv'

/-- A REGION THAT DRAWS ITS ORDER. -/
theorem JI.any {ops : List Oper} {F : FL} {L : ML} {Q : Exit → Act → World → Prop} {id : Nat} (V : List (Env → Value)) (A : List (Env → ML)) (M : List Spec) (hm : P.follows .mixedOrders = true) (hd : dstOk sz ops = true) (hc : chk ops M = true)
    (hob : RObs P w0 ops 0 ops V A M (fun _ => F) (fun _ => L)) (hk : ∀ e : Env, JI dm w0 sz (endF ops V e F) (endL A e L) (Q .normal)) : JI dm w0 sz F L ((Code.region id ops.toArray true).wpIn (fo RO) 0 P Q) := by
  have hlen := obs_len ops V A M 0 _ _ hob
  have G : Good P w0 ops (Vn V) (An A) (Mn M) F L := by
    have hrow : ∀ (j : Nat) (o : Oper), ops[j]? = some o → ∃ sj, M[j]? = some sj ∧ Mn M j = sj ∧ (o.after.all fun e => !Region.binds .any e || decide (e.on < j)) = true ∧
      (sj.an.all fun i => direct o i || (List.range j).any fun k => direct o k && (match M[k]? with | some sk => sk.an.contains i | none => false)) = true ∧
      (sj.ch.all fun c => sj.an.contains c) = true ∧ ∀ i, i < j → ∃ oi si, ops[i]? = some oi ∧ M[i]? = some si ∧ (sj.an.contains i || freeOf ops oi o si sj) = true := by
      intro j o hj
      have hlt : j < ops.length := (List.getElem?_eq_some_iff.1 hj).1
      have h := List.all_eq_true.1 hc j (List.mem_range.2 hlt)
      simp only [hj] at h
      cases hM : M[j]? with
      | none => rw [hM] at h; cases h
      | some sj =>
        rw [hM] at h
        simp only [Bool.and_eq_true] at h
        obtain ⟨⟨⟨h1, h2⟩, h3⟩, h4⟩ := h
        refine ⟨sj, rfl, by simp [Mn, hM], h1, h2, h3, fun i hi => ?_⟩
        have h5 := List.all_eq_true.1 h4 i (List.mem_range.2 hi)
        cases hoi : ops[i]? with
        | none => rw [hoi] at h5; cases h5
        | some oi =>
          cases hMi : M[i]? with
          | none => rw [hoi, hMi] at h5; cases h5
          | some si => rw [hoi, hMi] at h5; exact ⟨oi, si, rfl, rfl, h5⟩
    have dir : ∀ (o : Oper) (i : Nat), direct o i = true → ∃ e ∈ o.after, Region.binds .any e = true ∧ e.on = i := by
      intro o i h
      obtain ⟨e, he, hb⟩ := Array.any_eq_true'.1 h
      simp only [Bool.and_eq_true, beq_iff_eq] at hb
      exact ⟨e, he, hb.1, hb.2⟩
    refine ⟨fun i o hi => ?_, fun j o hj e he hb => ?_, fun j o hj i hi => ?_, fun j o hj c hc' => ?_, fun i j oi oj hij hi hj => ?_⟩
    · have := obs_at ops V A M 0 _ _ hob i o hi
      rw [Nat.zero_add] at this
      exact this
    · obtain ⟨sj, _, _, h1, _⟩ := hrow j o hj
      have := Array.all_eq_true_iff_forall_mem.1 h1 e he
      simpa [hb] using this
    · obtain ⟨sj, _, hs, _, h2, _⟩ := hrow j o hj
      rw [hs] at hi
      have h3 := List.all_eq_true.1 h2 i hi
      rw [Bool.or_eq_true] at h3
      rcases h3 with h3 | h3
      · exact .inl (dir o i h3)
      · obtain ⟨k, hk1, hk2⟩ := List.any_eq_true.1 h3
        rw [Bool.and_eq_true] at hk2
        refine .inr ⟨k, List.mem_range.1 hk1, dir o k hk2.1, ?_⟩
        cases hMk : M[k]? with
        | none => rw [hMk] at hk2; cases hk2.2
        | some sk => rw [hMk] at hk2; simp only [Mn, hMk, Option.getD_some]; simpa using hk2.2
    · obtain ⟨sj, _, hs, _, _, h3, _⟩ := hrow j o hj
      rw [hs] at hc' ⊢
      simpa using List.all_eq_true.1 h3 c hc'
    · obtain ⟨sj, hMj, hs, _, _, _, h4⟩ := hrow j oj hj
      obtain ⟨oi', si, h5, h6, h7⟩ := h4 i hij
      rw [hi] at h5; cases h5
      rw [hs, show Mn M i = si from by simp [Mn, h6]]
      rw [Bool.or_eq_true] at h7
      rcases h7 with h7 | h7
      · exact .inl (by simpa using h7)
      · exact .inr h7
  intro a w h1 h2 h3 h4
  refine wpIn_region_any hm ?_
  have hdr : MemOk w0 L { w with drawn := w.drawn + 1 } := ⟨⟨h4.below.os, h4.below.tape, h4.below.output, h4.below.size, h4.below.block⟩, fun i r hr => Res.keep (h4.ok i r hr) fun _ _ => rfl, h4.apart⟩
  have hnone : ∀ (k : Nat) (x : Env), frN (fun k => (ops[k]?).bind (·.dst)) (Vn V) (fun _ => false) x k F = F := by
    intro k x
    induction k with
    | zero => rfl
    | succ k ih => simp [frN, ih]
  have hnoneL : ∀ (k : Nat) (x : Env), meN (An A) (fun _ => false) x k L = L := by
    intro k x
    induction k with
    | zero => rfl
    | succ k ih => simp [meN, ih]
  have hrep : (fun j => (Array.replicate ops.length false).getD j false) = fun _ => false := funext fun j => by
    rcases Nat.lt_or_ge j ops.length with h | h <;> simp [h]
  have key := G.anyI (RO := RO) (sz := sz) (Q := Q) (fun i o d hi hod => by
    have hb := List.all_eq_true.1 hd o (List.mem_of_getElem? hi)
    rw [hod] at hb
    simpa using hb) (fun e a w inv => by
      obtain ⟨i1, i2, i3, i4⟩ := inv
      refine hk e a w i1 i2 ?_ ?_
      · rw [endF_eq ops V e F hlen.1]; exact i3
      · rw [endL_eq A e L, hlen.2]; exact i4) ops.length (Array.replicate ops.length false) (by simp) (by
        have h0 := List.length_filter_le (fun i => !(Array.replicate ops.length false).getD i false) (List.range ops.length)
        rwa [List.length_range] at h0) (fun j o _ hj => by
          rw [show (Array.replicate ops.length false).getD j false = false from congrFun hrep j] at hj; cases hj)
      (fun _ => (0, 0, undef)) a { w with drawn := w.drawn + 1 } ⟨h1, h2, by rw [hrep, hnone]; exact h3, by rw [hrep, hnoneL]; exact hdr⟩
  simpa using key

/-! ### one operation's look -/
variable {ops : List Oper} {k : Nat} {o : Oper} {F : Env → FL} {L : Env → ML}
end
end Go.Fw
end
section
open Go.RowKit
set_option linter.unusedVariables false
set_option linter.unusedSimpArgs false
set_option linter.unusedSectionVars false
namespace Go.Fw

/-! A RANGE OVER A FUNCTION: the statement, a round, the call of yield, the function's end with the mark. -/
def recOf (fn : FuncId) (T : Array Value) (ps : Array Tmp) (assign body : Code) (D : Nat) (st : LoopState) (pe : Option Code) : Loop :=
  { state := st, pending := pe, fn, tmps := T, params := ps, assign, body, defers := D }
/-- rc is the loop's record, by its state and the pending jump -/
def RC (rc : LoopState → Option Code → Loop) (fn : FuncId) (T : Array Value) (ps : Array Tmp) (assign body : Code) (D : Nat) : Prop := ∀ st pe, rc st pe = recOf fn T ps assign body D st pe
abbrev yv (l : Nat) : Value := .func (.yield l) #[] #[]
def mark (D : Nat) : Deferred := { target := .collected D, args := #[] }

section
variable {P : Program} {w0 : World} {sz : Nat} {F : FL} {L : ML} {Q : Exit → Act → World → Prop} {K : Act → World → Prop} {RO : Option Nat} {dm : List Deferred}

theorem MemOk.newObj {w : World} (h : MemOk w0 L w) (id : Nat) (o : Obj) : MemOk w0 ((id, .obj w.heap.size o) :: L) (w.alloc o) :=
  h.put (grown_push w _) (.inl rfl) ⟨h.below.size, heap_push w _⟩ (.inr (.inr ⟨_, rfl, Nat.le_refl _⟩))
theorem MemOk.obj {w : World} (h : MemOk w0 L w) {id b : Nat} {o : Obj} (hr : lr L id = some (.obj b o)) : w.heap[b]? = some o := (h.ok id _ hr).2
theorem MemOk.putObj {w : World} (h : MemOk w0 L w) {id b : Nat} {o : Obj} (hr : lr L id = some (.obj b o)) (o' : Obj) : MemOk w0 ((id, .obj b o') :: L) (w.putObj b o') := by
  have hh := h.ok id _ hr
  refine h.put (old := some b) ⟨rfl, rfl, rfl, by simp, fun k _ hk => World.putObj_heap_other (fun e => hk (by simp [e]))⟩ (.inr ⟨_, hr, rfl, rfl⟩) ⟨hh.1, World.putObj_heap_same (Array.getElem?_eq_some_iff.1 hh.2).1⟩ (.inr (.inl ⟨rfl, by simp⟩))

/-- The statement, where no other range over a function stands around it. -/
theorem JI.range {g : Operand} {ps : Array Tmp} {assign body : Code} {gf : FuncId} {fs us : List Value} (idR idD : Nat) (hg : evk F g = some (.func (.func gf) fs.toArray us.toArray)) (hb : HasBody P gf)
    {ι : Type} (L' : ι → ML) (st : ι → LoopState) (pe : ι → Option Code) (hst : ∀ i, st i ≠ .busy)
    (call : ∀ (fn l D : Nat) (T : Array Value) (rc : LoopState → Option Code → Loop), RC rc fn T ps assign body D → T.size = sz → FrOk F ⟨T, []⟩ → ∀ w, MemOk w0 ((idR, .obj l (.loop (rc .ready none))) :: (idD, .obj D (.deferred (some []))) :: L) w →
      Calls P gf (fs ++ [yv l] ++ us).toArray w fun e w' => ∃ v, e = .returned v ∧ ∃ i, MemOk w0 ((idR, .obj l (.loop (rc (st i) (pe i)))) :: (idD, .obj D (.deferred (some []))) :: L' i) w')
    (on : ∀ (i : ι) (D l : Nat) (o : Obj), pe i = none → JI (mark D :: dm) w0 sz F ((idR, .obj l o) :: (idD, .obj D (.deferred (some []))) :: L' i) (Q .normal))
    (jump : ∀ (i : ι) (D l : Nat) (o : Obj) (c : Code), pe i = some c → JI (mark D :: dm) w0 sz F ((idR, .obj l o) :: (idD, .obj D (.deferred (some []))) :: L' i) (c.wpIn (fo none) 0 P Q)) :
    JI dm w0 sz F L ((Code.rangeFunc g ps assign body).wpIn (fo none) 0 P Q) := by
  intro a w hs hdf hF hL
  refine wpIn_rangeFunc ?_
  intro fn _
  have hM := (hL.newObj idD (.deferred (some []))).newObj idR (.loop (recOf fn a.tmps ps assign body w.heap.size .ready none))
  have hsz : (w.alloc (.deferred (some []))).heap.size = w.heap.size + 1 := by simp
  rw [hsz] at hM
  have e2 := hF.eval hg
  obtain ⟨d, hres, hinv⟩ : ∃ d : Deferred, (resolve a.eval (rangeCall g (w.heap.size + 1)) 0).run P ((w.alloc (.deferred (some []))).alloc (.loop (recOf fn a.tmps ps assign body w.heap.size .ready none))) = .ok d ((w.alloc (.deferred (some []))).alloc (.loop (recOf fn a.tmps ps assign body w.heap.size .ready none))) ∧
      (invoke d.target d.args).run P ((w.alloc (.deferred (some []))).alloc (.loop (recOf fn a.tmps ps assign body w.heap.size .ready none))) = .ok (.enter gf (fs ++ [yv (w.heap.size + 1)] ++ us).toArray) ((w.alloc (.deferred (some []))).alloc (.loop (recOf fn a.tmps ps assign body w.heap.size .ready none))) := by
    refine ⟨{ target := .fn (.func gf) us.toArray, args := (fs ++ [yv (w.heap.size + 1)]).toArray }, ?_, ?_⟩
    · have e3 : a.eval (.const (.func (.yield (w.heap.size + 1)) #[] #[])) = .func (.yield (w.heap.size + 1)) #[] #[] := rfl
      simp only [resolve, rangeCall, Sem.run_bind, Sem.run_pure, e2]
      simp [Deferred.ofValue, e3]
    · simp only [invoke]
      simp [hb _ _]
  refine ⟨w.heap.size + 1, [mark w.heap.size], _, d, _, gf, _, _, run_enterLoop_outer fn a.tmps ps assign body, hres, fun _ _ => trivial, hinv, (fun h => by cases h), ?_⟩
  refine callsIn_fo ((call fn (w.heap.size + 1) w.heap.size a.tmps (recOf fn a.tmps ps assign body w.heap.size) (fun _ _ => rfl) hs hF _ hM).mono ?_)
  rintro e w' ⟨v, rfl, i, hi⟩
  have hl := hi.obj (id := idR) (by rw [lr_cons, if_pos rfl])
  have hE := run_endLoop (P := P) hl (hst i)
  have hi' := hi.putObj (id := idR) (b := w.heap.size + 1) (by rw [lr_cons, if_pos rfl]) (.loop { recOf fn a.tmps ps assign body w.heap.size (st i) (pe i) with state := .exhausted })
  obtain ⟨o, w4, hE', hi2⟩ : ∃ o w4, (Instr.endLoop (w.heap.size + 1)).run P w' = .ok (pe i) w4 ∧ MemOk w0 ((idR, .obj (w.heap.size + 1) o) :: (idD, .obj w.heap.size (.deferred (some []))) :: L' i) w4 :=
    ⟨_, _, hE, hi'.sub fun j r hj => by
      rw [lr_cons] at hj ⊢
      split at hj
      · rename_i e; rw [if_pos e]; exact hj
      · rename_i e; rw [if_neg e, lr_cons, if_neg e]; exact hj⟩
  refine ⟨_, _, hE', ?_⟩
  cases hp : pe i with
  | none => exact on i w.heap.size _ _ hp { a with defers := mark w.heap.size :: a.defers } _ hs (by simp [hdf]) (fun k v h => hF k v h) hi2
  | some c => exact jump i w.heap.size _ _ c hp { a with defers := mark w.heap.size :: a.defers } _ hs (by simp [hdf]) (fun k v h => hF k v h) hi2

/-! ### a round -/
def Begin (P : Program) (l : Nat) (body : Code) (R : Ending → World → Prop) (a : Act) (w : World) : Prop :=
  ∃ w₂, (Instr.beginRound l).run P w = .ok () w₂ ∧ body.wpIn (fo (some l)) 0 P (roundPost P l R) a w₂
theorem roundI {l : Nat} {f : FuncId} {T : Array Value} {assign body : Code} {w : World} {R : Ending → World → Prop} (hs : T.size = sz) (hF : FrOk F ⟨T, []⟩) (hL : MemOk w0 L w)
    (h : JI [] w0 sz F L (assign.wpIn (fo (some l)) 0 P (Exit.then (Begin P l body R) (fun _ _ _ => False)))) : RoundIn (fo RO) 0 P l f T assign body w R :=
  show RoundIn (fo none) 0 P l f T assign body w R from roundIn_of_wpIn (F := fo none) (n := 0) trivial (h ⟨T, []⟩ w hs rfl hF hL)
variable {rc : LoopState → Option Code → Loop} {fn D : Nat} {T : Array Value} {ps : Array Tmp} {assign body : Code}
theorem JI.begin {l : Nat} {body' : Code} {R : Ending → World → Prop} (id : Nat) (hrc : RC rc fn T ps assign body D) (hr : lr L id = some (.obj l (.loop (rc .ready none))))
    (k : JI dm w0 sz F ((id, .obj l (.loop (rc .busy none))) :: L) (body'.wpIn (fo (some l)) 0 P (roundPost P l R))) : JI dm w0 sz F L (Begin P l body' R) := by
  intro a w h1 h2 h3 h4
  have := h4.obj hr
  have hk := h4.putObj hr (.loop (rc .busy none))
  rw [hrc] at this
  refine ⟨_, run_beginRound this rfl, k a _ h1 h2 h3 ?_⟩
  rw [hrc] at hk ⊢
  exact hk
theorem JI.endN {l : Nat} {R : Ending → World → Prop} (id : Nat) (hrc : RC rc fn T ps assign body D) (hr : lr L id = some (.obj l (.loop (rc .busy none))))
    (k : ∀ w, MemOk w0 ((id, .obj l (.loop (rc .ready none))) :: L) w → R (.returned (.bool true)) w) : JI dm w0 sz F L (roundPost P l R .normal) := by
  intro a w h1 h2 h3 h4
  have := h4.obj hr
  have hk := h4.putObj hr (.loop (rc .ready none))
  rw [hrc] at this
  refine ⟨_, _, run_endRound none this, k _ ?_⟩
  rw [hrc] at hk ⊢
  exact hk
theorem JI.endR {l : Nat} {R : Ending → World → Prop} (id : Nat) (hrc : RC rc fn T ps assign body D) (hr : lr L id = some (.obj l (.loop (rc .busy none))))
    (k : ∀ w, MemOk w0 ((id, .obj l (.loop (rc .done (some .ret)))) :: L) w → R (.returned (.bool false)) w) : JI dm w0 sz F L (roundPost P l R .ret) := by
  intro a w h1 h2 h3 h4
  have := h4.obj hr
  have hk := h4.putObj hr (.loop (rc .done (some .ret)))
  rw [hrc] at this
  refine ⟨_, _, run_endRound (some .ret) this, k _ ?_⟩
  rw [hrc] at hk ⊢
  exact hk
theorem JI.endE {l x : Nat} {R : Ending → World → Prop} (id : Nat) (hrc : RC rc fn T ps assign body D) (hr : lr L id = some (.obj l (.loop (rc .busy none))))
    (k : ∀ w, MemOk w0 ((id, .obj l (.loop (rc .done (some (.exit x))))) :: L) w → R (.returned (.bool false)) w) : JI dm w0 sz F L (roundPost P l R (.exit x)) := by
  intro a w h1 h2 h3 h4
  have := h4.obj hr
  have hk := h4.putObj hr (.loop (rc .done (some (.exit x))))
  rw [hrc] at this
  refine ⟨_, _, run_endRound (some (.exit x)) this, k _ ?_⟩
  rw [hrc] at hk ⊢
  exact hk

/-! ### the call of yield -/
/-- the slots of a round: the record's, with yield's arguments in the parameters -/
def zipT (ps : Array Tmp) (vs : Array Value) (T : Array Value) : Array Value := (ps.zip vs).foldl (fun tmps (t, a) => tmps.setIfInBounds t a) T
theorem zipT_size (ps : Array Tmp) (vs : Array Value) (T : Array Value) : (zipT ps vs T).size = T.size := by
  unfold zipT
  refine Array.foldl_induction (motive := fun _ (x : Array Value) => x.size = T.size) rfl ?_
  intro i b h
  simpa using h
theorem frOk_zip0 (h : FrOk F ⟨T, []⟩) : FrOk F ⟨zipT #[] #[] T, []⟩ := by simpa [zipT] using h
theorem frOk_zip1 {p : Tmp} {u : Value} (h : FrOk F ⟨T, []⟩) (hp : p < T.size) : FrOk ((p, u) :: F) ⟨zipT #[p] #[u] T, []⟩ := by
  have := h.put (d := p) hp u
  simpa [zipT, Act.put] using this
theorem frOk_zip2 {p q : Tmp} {u v : Value} (h : FrOk F ⟨T, []⟩) (hp : p < T.size) (hq : q < T.size) : FrOk ((q, v) :: (p, u) :: F) ⟨zipT #[p, q] #[u, v] T, []⟩ := by
  have h1 := h.put (d := p) hp u
  have h2 := h1.put (d := q) (by simpa [Act.put] using hq) v
  simpa [zipT, Act.put] using h2

variable {ops : Array Oper} {rest : List Oper} {d : Nat} {ty : TypeId} {pos : String} {af : Array Edge}
theorem JI.yield {l : Nat} {y : Operand} {xs : List Operand} {vs : List Value} {ats : Array TypeId} (id : Nat) (hrc : RC rc fn T ps assign body D) (hy : evk F y = some (.func (.yield l) #[] #[])) (hxs : evs F xs vs)
    (hr : lr L id = some (.obj l (.loop (rc .ready none)))) (hps : vs.length = ps.size) {ι : Sort _} {vr : ι → Value} {L' : ι → ML}
    (round : ∀ w, MemOk w0 L w → RoundIn (fo RO) 0 P l fn (zipT ps vs.toArray T) assign body w fun e w' => ∃ v, e = .returned v ∧ ∃ i, v = vr i ∧ MemOk w0 (L' i) w')
    (hd : Nat.blt d sz = true) (k : ∀ i, JI dm w0 sz ((d, vr i) :: F) (L' i) (wpListIn (fo RO) 0 P ops Q rest)) :
    JI dm w0 sz F L (wpListIn (fo RO) 0 P ops Q (⟨some d, .call ⟨.value y, xs.toArray, ats⟩, ty, pos, af, none⟩ :: rest)) := by
  intro a w hs hdf hF hL
  unfold wpListIn
  rw [if_pos (wanted_none _ rfl _)]
  have he : xs.map a.eval = vs := evs_eval (o := ⟨some d, .call ⟨.value y, xs.toArray, ats⟩, ty, pos, af, none⟩) (hF.on _) hxs (fun z hz => by simp [Op.operands, Call.operands, hz])
  have e1 : (xs.toArray.map a.eval) = vs.toArray := by rw [← he]; simp
  have e2 := hF.eval hy
  refine ⟨fun _ _ => trivial, ?_⟩
  have hrun : ((⟨some d, .call ⟨.value y, xs.toArray, ats⟩, ty, pos, af, none⟩ : Oper).semAt (fo RO).round a.eval).run P w = .ok (.round l fn (zipT ps vs.toArray T) assign body) w := by
    rw [Oper.semAt_eq _ _ _ (fun c h => by cases h)]
    simp only [execOp, resolve, e1, Sem.run_bind, e2]
    have ho := hL.obj hr
    rw [hrc] at ho
    have hy := run_yield (P := P) (args := vs.toArray) ho (by simpa [recOf] using hps)
    simp [Deferred.ofValue, invoke]
    exact hy
  rw [hrun]
  simp only [Oper.uponIn]
  refine ⟨(fun h => by cases h), (round w hL).mono ?_⟩
  rintro e w' ⟨v, rfl, i, rfl, hM⟩
  have hd' : d < a.tmps.size := by rw [hs]; simpa using hd
  exact k i _ w' (by rw [size_put]; exact hs) (by rw [defers_put]; exact hdf) (hF.put hd' _) hM

/-! ### begin and end of a function -/
theorem enterM {f : FuncId} {fn : Func} {c : Code} {vs : List Value} {w : World} {R : Ending → World → Prop} (hf : P.funcs[f]? = some fn) (hb : fn.body = some c)
    (sz : Nat) (hsz : Nat.max vs.length fn.ntmps = sz) (L : ML) (hL : MemOk w0 L w)
    (h : JI [] w0 sz (argF vs 0) L (c.wpIn (fo none) 0 P (bodyPostM (fo none) 0 P fn R))) : Calls P f vs.toArray w R := by
  refine calls_fo (callsIn_of_wp_marks (F := fo none) (n := 0) hf hb trivial (h _ w ?_ rfl ?_ hL))
  · simp only [Array.size_append, Array.size_replicate]
    rw [← hsz]
    show _ = max _ _
    simp only [List.size_toArray]
    omega
  · intro k v hk
    have := (argF_lk vs 0 k v hk).2
    simp only [Nat.sub_zero] at this
    have hlt : k < vs.length := (List.getElem?_eq_some_iff.1 this).1
    show (vs.toArray ++ _)[k]? = _
    rw [Array.getElem?_append_left (by simpa using hlt)]
    simpa using this
/-- .. on a memory that is not the call's own: a function that is ranged over, or a callee whose memory its caller keeps on owning. -/
theorem enterB {f : FuncId} {fn : Func} {c : Code} {vs : List Value} {w : World} {R : Ending → World → Prop} (hf : P.funcs[f]? = some fn) (hb : fn.body = some c)
    (sz : Nat) (hsz : Nat.max vs.length fn.ntmps = sz) (L : ML) (hL : MemOk w0 L w)
    (h : JQ w0 sz (argF vs 0) L (c.wp P (bodyPost P fn R))) : Calls P f vs.toArray w R := by
  refine calls_of_wp hf hb (h _ w ?_ rfl ?_ hL)
  · simp only [Array.size_append, Array.size_replicate]
    rw [← hsz]
    show _ = max _ _
    simp only [List.size_toArray]
    omega
  · intro k v hk
    have := (argF_lk vs 0 k v hk).2
    simp only [Nat.sub_zero] at this
    have hlt : k < vs.length := (List.getElem?_eq_some_iff.1 this).1
    show (vs.toArray ++ _)[k]? = _
    rw [Array.getElem?_append_left (by simpa using hlt)]
    simpa using this
theorem JI.ends {fn : Func} {R : Ending → World → Prop} (h : JQ w0 sz F L (bodyPost P fn R .ret)) : JI [] w0 sz F L (bodyPostM (fo none) 0 P fn R .ret) := by
  intro a w h1 h2 h3 h4
  obtain ⟨_, hh⟩ := h a w h1 h2 h3 h4
  show LeavesInM _ _ _ _ _ _ _ _ _
  rw [h2]
  exact hh
theorem JI.endsM {fn : Func} {R : Ending → World → Prop} {D : Nat} (id : Nat) (hr : lr L id = some (.obj D (.deferred (some [])))) (h : JQ w0 sz F ((id, .obj D (.deferred none)) :: L) (bodyPost P fn R .ret)) : JI [mark D] w0 sz F L (bodyPostM (fo none) 0 P fn R .ret) := by
  intro a w h1 h2 h3 h4
  obtain ⟨_, hh⟩ := h { a with defers := [] } _ h1 rfl (fun k v hk => h3 k v hk) (h4.putObj hr (.deferred none))
  show LeavesInM _ _ _ _ _ _ _ _ _
  rw [h2]
  exact ⟨by simp, .inl ⟨D, _, rfl, run_takeDeferred (h4.obj hr), hh⟩⟩
theorem JI.to_ret {fn : Func} {R : Ending → World → Prop} (h : JI dm w0 sz F L (bodyPostM (fo none) 0 P fn R .ret)) : JI dm w0 sz F L (bodyPostM (fo none) 0 P fn R .normal) := h
theorem JI.nilRow (id : Nat) (e : TypeId) (esz : Nat) (h : JI dm w0 sz F ((id, .row (.slice none 0 0) e esz 0 []) :: L) K) : JI dm w0 sz F L K :=
  fun a w h1 h2 h3 h4 => h a w h1 h2 h3 (h4.nilRow id e esz)
theorem JI.rowOf {e : TypeId} (id : Nat) {b n esz : Nat} {us : List Value} (hr : lr L id = some (.cells b us e (0, 0))) (hn : us.length = n * esz) (hm : n ≤ 140737488355328) (h : JI dm w0 sz F ((id, .row (.slice (some ⟨b, 0, none⟩) n n) e esz n us) :: L) K) : JI dm w0 sz F L K :=
  fun a w h1 h2 h3 h4 => h a w h1 h2 h3 (h4.rowOf id hr hn hm rfl)
theorem JI.roOf {v : Value} {e : TypeId} (id : Nat) {n esz : Nat} {xs : List Value} (hr : lr L id = some (.row v e esz n xs)) (h : JI dm w0 sz F ((id, .ro v esz n xs) :: L) K) : JI dm w0 sz F L K :=
  fun a w h1 h2 h3 h4 => h a w h1 h2 h3 (h4.roOf hr)
end
end Go.Fw
end
section
open Go.RowKit
set_option linter.unusedVariables false
set_option linter.unusedSimpArgs false
set_option linter.unusedSectionVars false
namespace Go.Fw
section
variable {P : Program} {w0 : World} {F : FL} {L : ML} {dst : Option Tmp} {ty : TypeId} {pos : String} {af : Array Edge} {gd : Option (Nat × Bool)}
variable {T t te s d u' : TypeId} {x y : Operand} {a : Addr} {b : Nat} {j : TypeInfo} {v : Value} {cs : List Value} {e : TypeId} {fz : Nat × Nat} {l : List UInt8}

/-- a library function without a body -/
theorem JV.ext {f : FuncId} {xs : List Operand} {ats : Array TypeId} {vs : List Value} (hxs : evs F xs vs) (h : ∀ w, (callFunc f vs.toArray).run P w = .ok (.value v) w) :
    JV P w0 F L ⟨dst, .call ⟨.value (.func f), xs.toArray, ats⟩, ty, pos, af, gd⟩ v := by
  refine JV.of fun A w hF hL => ?_
  have he : xs.map A.eval = vs := evs_eval hF hxs (fun z hz => by simp [Op.operands, Call.operands, hz])
  have e1 : (xs.toArray.map A.eval) = vs.toArray := by rw [← he]; simp
  have e2 : A.eval (.func f) = .func (.func f) #[] #[] := rfl
  simp only [execOp, resolve, e1, Sem.run_bind]
  rw [e2]
  simp [Deferred.ofValue, invoke, h]
theorem run_eqGuard_ptr (op : BinOp) (p q : Option Addr) (w : World) : (eqGuard op T x y (.pointer p) (.pointer q)).run P w = .ok () w := by
  unfold eqGuard; split <;> simp
theorem JV.eqlPN (hx : evk F x = some (.pointer none)) (hy : evk F y = some (.pointer none)) (hp : P.underlying T = some (.pointer te)) :
    JV P w0 F L ⟨dst, .binOp .eql T x y u', ty, pos, af, gd⟩ (.bool true) := by
  refine JV.of fun A w hF hL => ?_
  have e1 := hF.at hx (by simp [Op.operands]); have e2 := hF.at hy (by simp [Op.operands])
  have hr : (Op.equal T (.pointer none) (.pointer none)).run P w = .ok true w := by
    have h : ∀ d : Nat, (Op.equalIn (d + 1) T (.pointer none) (.pointer none)).run P w = .ok true w := fun d => by simp [Op.equalIn, run_underlying hp]
    exact h 9999
  simp only [execOp, e1, e2, Sem.run_bind, run_eqGuard_ptr, Result.andThen_ok, binOp, hr, Sem.run_pure]
theorem JV.eqlPS (hx : evk F x = some (.pointer (some a))) (hy : evk F y = some (.pointer none)) (hp : P.underlying T = some (.pointer te)) :
    JV P w0 F L ⟨dst, .binOp .eql T x y u', ty, pos, af, gd⟩ (.bool false) := by
  refine JV.of fun A w hF hL => ?_
  have e1 := hF.at hx (by simp [Op.operands]); have e2 := hF.at hy (by simp [Op.operands])
  have hr : (Op.equal T (.pointer (some a)) (.pointer none)).run P w = .ok false w := by
    have h : ∀ d : Nat, (Op.equalIn (d + 1) T (.pointer (some a)) (.pointer none)).run P w = .ok false w := fun d => by simp [Op.equalIn, run_underlying hp]
    exact h 9999
  simp only [execOp, e1, e2, Sem.run_bind, run_eqGuard_ptr, Result.andThen_ok, binOp, hr, Sem.run_pure]
theorem JV.neqPP (hx : evk F x = some (.pointer (some a))) (hy : evk F y = some (.pointer (some a))) (hp : P.underlying T = some (.pointer te)) (hte : P.info? te = some j) :
    JV P w0 F L ⟨dst, .binOp .neq T x y u', ty, pos, af, gd⟩ (.bool false) := by
  refine JV.of fun A w hF hL => ?_
  have e1 := hF.at hx (by simp [Op.operands]); have e2 := hF.at hy (by simp [Op.operands])
  have hr := Lib.run_neq_ptr_same (P := P) w a hp hte
  simp only [execOp, e1, e2, Sem.run_bind, run_eqGuard_ptr, Result.andThen_ok, hr, Sem.run_pure]
theorem MemOk.shape {w : World} (h : MemOk w0 L w) {id : Nat} (hr : lr L id = some (.cells b cs e fz)) : w.shape? b = some (e, cs.length) := by
  have := h.blk hr
  simp [World.shape?, this]
theorem JV.toUnsafe (id : Nat) (hx : evk F x = some (.pointer (some ⟨b, 0, none⟩))) (hr : lr L id = some (.cells b cs e fz)) (hs : P.underlying s = some (.pointer t)) (hd : P.underlying d = some .unsafePointer) (ht : P.info? t = some j) (hj : j.size ≠ 0) (h0 : 0 < cs.length) :
    JV P w0 F L ⟨dst, .convert s d x, ty, pos, af, gd⟩ (.pointer (some ⟨b, 0, none⟩)) := by
  refine JV.of fun A w hF hL => ?_
  have e1 := hF.at hx (by simp [Op.operands])
  have := Lib.run_to_unsafe (P := P) w ⟨b, 0, none⟩ hs hd ht hj (hL.shape hr) h0
  simp [execOp, e1, this]
theorem JV.fromUnsafe (id : Nat) (hx : evk F x = some (.pointer (some ⟨b, 0, none⟩))) (hr : lr L id = some (.cells b cs e fz)) (hs : P.underlying s = some .unsafePointer) (hd : P.underlying d = some (.pointer t)) (ht : P.info? t = some j) (hl : liesAt P P.depth e (cs.length / P.cellsOf e) 0 t 1 = true) :
    JV P w0 F L ⟨dst, .convert s d x, ty, pos, af, gd⟩ (.pointer (some ⟨b, 0, none⟩)) := by
  refine JV.of fun A w hF hL => ?_
  have e1 := hF.at hx (by simp [Op.operands])
  have := Lib.run_from_unsafe (P := P) w ⟨b, 0, none⟩ hs hd ht (hL.shape hr) hl
  simp [execOp, e1, this]
/-- what an owned row that is not empty lies in -/
theorem MemOk.rowBlk {w : World} (h : MemOk w0 L w) {id n sz : Nat} {xs : List Value} (hr : lr L id = some (.row v e sz n xs)) (h0 : 0 < n) :
    ∃ g cap cur, v = .slice (some ⟨g, 0, none⟩) n cap ∧ w0.heap.size ≤ g ∧ w.heap[g]? = some (.cells cur e (0, 0)) ∧ n ≤ cap ∧ cap ≤ maxLen ∧ cur.size = cap * sz ∧ cur.toList.take (n * sz) = xs := by
  rcases own_block_cases (h.ok id _ hr) with ⟨_, hn, _⟩ | h
  · omega
  · exact h
theorem JV.sliceData (id : Nat) {n sz : Nat} {xs : List Value} {ats : Array TypeId} (hx : evk F x = some v) (hr : lr L id = some (.row v e sz n xs)) (h0 : 0 < n) :
    JV P w0 F L ⟨dst, .call ⟨.builtin .unsafeSliceData, #[x], ats⟩, ty, pos, af, gd⟩ (ptrOf v 0) := by
  refine JV.of fun A w hF hL => ?_
  have e1 := hF.at hx (by simp [Op.operands, Call.operands])
  obtain ⟨g, cap, cur, rfl, _, _, hnc, _⟩ := hL.rowBlk hr h0
  have := Lib.run_unsafeSliceData_row (P := P) w ats ty ⟨g, 0, none⟩ n cap (by omega)
  simp [execOp, resolve, invoke, builtin, e1, this, ptrOf, add_plain]
theorem freeze_heap {w : World} {g : Nat} {cur : Array Value} {fz : Nat × Nat} (hg : w.heap[g]? = some (.cells cur e fz)) (n : Nat) : ∃ fz', (w.freeze ⟨g, 0, none⟩ n).heap[g]? = some (.cells cur e fz') := by
  unfold World.freeze
  split
  · exact ⟨_, hg⟩
  · exact ⟨_, by simp [Array.getElem?_modify, hg]; rfl⟩
theorem freeze_grown (w : World) (g n : Nat) : w.grownBy (w.freeze ⟨g, 0, none⟩ n) (some g) := by
  unfold World.freeze
  split
  · exact ⟨rfl, rfl, rfl, Nat.le_refl _, fun _ _ _ => rfl⟩
  · exact ⟨rfl, rfl, rfl, by simp, fun k _ hk => by simp only [Array.getElem?_modify]; rw [if_neg (fun h => hk (by simp [h]))]⟩
theorem JO.unsafeStr (id : Nat) {pt it : TypeId} (hx : evk F x = some (ptrOf v 0)) (hy : evk F y = some (.int .i64 (l.length : Int))) (hr : lr L id = some (.row v e 1 l.length (l.map b8))) (h0 : 0 < l.length)
    (hp : P.underlying pt = some (.pointer e)) (hc : P.cellsOf e = 1) :
    JO P w0 F L ⟨dst, .call ⟨.builtin .unsafeString, #[x, y], #[pt, it]⟩, ty, pos, af, gd⟩ (fun v' w' => ∃ _ : Unit, v' = str l ∧ MemOk w0 ((id, .ro v 1 l.length (l.map b8)) :: L) w') := by
  intro A w hF hL
  have e1 := hF.at hx (by simp [Op.operands, Call.operands])
  have e2 := hF.at hy (by simp [Op.operands, Call.operands])
  obtain ⟨g, cap, cur, rfl, hgN, hg, hnc, hcm, hcs, ht⟩ := hL.rowBlk hr h0
  simp only [ptrOf, add_plain] at e1
  have hcell : ∀ j u, (l.map b8)[j]? = some u → ∀ fz (w' : World), w'.heap[g]? = some (.cells cur e fz) → w'.cell? ⟨g, 0 + j, none⟩ = some u := by
    intro j u hj fz w' hw'
    rw [← ht] at hj
    have hlt : j < l.length * 1 := by
      have := (List.getElem?_eq_some_iff.1 hj).1
      simp at this; omega
    rw [List.getElem?_take_of_lt hlt] at hj
    simp only [World.cell?, hw']
    simpa using hj
  have hrun := Lib.run_unsafeString_row (P := P) w pt it ty e hp hc g cur.size (by simp [World.shape?, hg]) l (by rintro rfl; simp at h0) (by omega) (by unfold maxLen at hcm; omega) (fun j z hz => by
    rw [add_plain]
    exact hcell j _ (by rw [List.getElem?_map, hz]; rfl) _ w hg)
  refine Yields.of_run (v := str l) (w' := w.freeze ⟨g, 0, none⟩ l.length) ?_ ⟨(), rfl, ?_⟩
  · simp only [Nat.zero_add, Nat.add_zero] at e1
    simp [execOp, resolve, invoke, builtin, e1, e2, hrun, str]
  · obtain ⟨fz', hf⟩ := freeze_heap hg l.length
    refine hL.put (freeze_grown w g l.length) (.inr ⟨_, hr, rfl, rfl⟩) ⟨by simp, _, cap, rfl, ⟨hnc, by unfold maxLen at hcm; omega⟩, .inr ⟨_, rfl, rfl, fun j u hj => by rw [add_plain]; exact hcell j u hj _ _ hf⟩⟩ (.inr (.inl ⟨?_, by simp⟩))
    cases hl : l.map b8 with
    | nil => simp at hl; subst hl; simp at h0
    | cons _ _ => rfl
end
end Go.Fw
namespace Go.Fw
section
variable {P : Program} {w0 : World} {F : FL} {L : ML} {dst : Option Tmp} {ty : TypeId} {pos : String} {af : Array Edge} {gd : Option (Nat × Bool)}
theorem MemOk.dup {w : World} (h : MemOk w0 L w) {id : Nat} {r : Res} (hr : lr L id = some r) : MemOk w0 ((id, r) :: L) w :=
  h.sub fun i s hi => by
    rw [lr_cons] at hi
    split at hi
    · rename_i e; subst e; rw [hr]; exact hi
    · exact hi
/-- A call that turns memory of the caller's. -/
theorem JO.callC {ι : Sort _} {f : FuncId} {xs : List Operand} {ats : Array TypeId} {vs : List Value} {vr : ι → Value} {L' : ι → ML} (hb : HasBody P f) (hxs : evs F xs vs)
    (h : ∀ w, MemOk w0 L w → Calls P f vs.toArray w fun e w' => ∃ i, e = .returned (vr i) ∧ MemOk w0 (L' i) w') :
    JO P w0 F L ⟨dst, .call ⟨.value (.func f), xs.toArray, ats⟩, ty, pos, af, gd⟩ (fun v' w' => ∃ i, v' = vr i ∧ MemOk w0 (L' i) w') :=
  JO.call hb hxs fun w hw => (h w hw).mono fun _ _ ⟨i, he, hM⟩ => ⟨_, he, i, rfl, hM⟩
variable {ops : List Oper} {k : Nat} {o : Oper} {Fe : Env → FL} {Le : Env → ML}
theorem Ob.mem2 {v : Env → Value → Value} {r1 r2 : Env → Value → Res} {rd ch an : List Nat} (id1 id2 : Nat) (hg : o.guard = none) (hs : ∀ cs b, o.op ≠ .select cs b) (hv : ∀ e e' : Env, (∀ j, j ∈ ch → e j = e' j) → v e = v e' ∧ r1 e = r1 e' ∧ r2 e = r2 e') (hk : k ∉ ch)
    (h : ∀ (e : Env) (L' : ML), (∀ i, i ∈ id1 :: id2 :: rd → lr L' i = lr (Le e) i) → JO P w0 (Fe e) L' o (fun u w' => ∃ c : Value, u = v e c ∧ MemOk w0 ((id1, r1 e c) :: (id2, r2 e c) :: L') w')) :
    Ob P w0 ops k o (fun e => v e (e k).2.2) (fun e => [(id1, r1 e (e k).2.2), (id2, r2 e (e k).2.2)]) ⟨rd, [id1, id2], ch, an⟩ Fe Le where
  dep e e' he := by
    have h1 := hv e e' fun j hj => he j (.inr hj)
    rw [h1.1, h1.2.1, h1.2.2, he k (.inl rfl)]; exact ⟨rfl, rfl⟩
  ids e i hi := by rw [lr_cons, if_neg (fun h => hi (by simp [h])), lr_cons, if_neg (fun h => hi (by simp [h]))]; rfl
  sel := hs
  go e L' hL' := ⟨true, by simp [runs, hg], fun _ a w hF hL => (h e L' (fun i hi => by
      rcases List.mem_cons.1 hi with rfl | hi
      · exact hL' i (.inr (by simp))
      · rcases List.mem_cons.1 hi with rfl | hi
        · exact hL' i (.inr (by simp))
        · exact hL' i (.inl hi)) a w hF hL).mono fun u w' ⟨c, hu, hM⟩ => ⟨(0, 0, c), by
      have h1 := hv e (upd e k (0, 0, c)) fun j hj => (upd_ne e (by rintro rfl; exact hk hj) _).symm
      rw [← h1.1, ← h1.2.1, ← h1.2.2, upd_same]
      exact ⟨hu, hM⟩⟩, (fun h => by cases h)⟩
end
end Go.Fw
namespace Go.Fw
section
variable {P : Program} {w0 : World} {F : FL} {L : ML} {dst : Option Tmp} {ty : TypeId} {pos : String} {af : Array Edge} {gd : Option (Nat × Bool)}
variable {T : TypeId} {x y : Operand} {b off : Nat} {u : Value} {cs : List Value} {e : TypeId}
theorem MemOk.rowOne {w : World} (h : MemOk w0 L w) {id n sz : Nat} {e' : TypeId} {xs : List Value} (hr : lr L id = some (.row u e' sz n xs)) : u.oneCell' = true := by
  rcases own_block_cases (h.ok id _ hr) with ⟨rfl, _⟩ | ⟨g, cap, cur, rfl, _⟩ <;> rfl
/-- The value of an owned row is laid into a variable. -/
theorem JO.store1R (id idW : Nat) {e' : TypeId} {sz n : Nat} {xs : List Value} (hx : evk F x = some (.pointer (some ⟨b, off, none⟩))) (hr : lr L id = some (.cells b cs e (0, 0))) (hy : evk F y = some u) (hW : lr L idW = some (.row u e' sz n xs)) (hsz : ∀ w, (sizeOf T).run P w = .ok 1 w) (hlt : off < cs.length) :
    JO P w0 F L ⟨dst, .store T x y, ty, pos, af, gd⟩ (fun z w' => z = undef ∧ MemOk w0 ((id, .cells b (cs.set off u) e (0, 0)) :: L) w') :=
  fun a w hF hL => JO.store1 id hx hr hy (hL.rowOne hW) hsz hlt a w hF hL
end
end Go.Fw
namespace Go.Fw
section
variable {P : Program} {w0 : World} {F : FL} {L : ML} {dst : Option Tmp} {ty : TypeId} {pos : String} {af : Array Edge} {gd : Option (Nat × Bool)} {x y : Operand}
/-- A call that reads what its caller owns and leaves it as it is. -/
theorem JV.callK {f : FuncId} {xs : List Operand} {ats : Array TypeId} {vs : List Value} {v : Value} (hb : HasBody P f) (hxs : evs F xs vs)
    (h : ∀ w, MemOk w0 L w → Calls P f vs.toArray w fun e w' => e = .returned v ∧ MemOk w0 L w') :
    JV P w0 F L ⟨dst, .call ⟨.value (.func f), xs.toArray, ats⟩, ty, pos, af, gd⟩ v :=
  JO.call hb hxs fun w hw => (h w hw).mono fun _ _ ⟨he, hM⟩ => ⟨_, he, rfl, hM⟩
theorem JV.minN {k : IntKind} {a b : Nat} {ats : Array TypeId} (hx : evk F x = some (.int k (a : Int))) (hy : evk F y = some (.int k (b : Int))) : JV P w0 F L ⟨dst, .call ⟨.builtin .min, #[x, y], ats⟩, ty, pos, af, gd⟩ (.int k ((min a b : Nat) : Int)) := by
  have h := JV.min2 (P := P) (w0 := w0) (L := L) (dst := dst) (ty := ty) (pos := pos) (af := af) (gd := gd) (ats := ats) hx hy
  have e : (if (b : Int) < (a : Int) then (b : Int) else (a : Int)) = ((min a b : Nat) : Int) := by split <;> omega
  rwa [e] at h
/-- a new range's memory: what is told again -/
theorem JI.weaken' {dm : List Deferred} {sz : Nat} {K : Act → World → Prop} {L' : ML} (hL : ∀ i r, lr L' i = some r → lr L i = some r) (h : JI dm w0 sz F L' K) : JI dm w0 sz F L K :=
  fun a w h1 h2 h3 h4 => h a w h1 h2 h3 (h4.sub hL)
end
end Go.Fw
namespace Go.Fw
section
variable {P : Program} {w0 : World} {ops : List Oper} {k : Nat} {o : Oper} {Fe : Env → FL} {Le : Env → ML}
/-- .. on a value, guarded, the guard met -/
theorem Ob.valg {v : Env → Value → Value} {r : Env → Value → Res} {rd ch an : List Nat} {j dj : Nat} {b : Bool} (id : Nat) (hg : o.guard = some (j, b)) (hj : (ops[j]?).bind (·.dst) = some dj) (hb : ∀ e, lk (Fe e) dj = some (.bool b)) (hs : ∀ cs b, o.op ≠ .select cs b) (hv : ∀ e e' : Env, (∀ j, j ∈ ch → e j = e' j) → v e = v e' ∧ r e = r e') (hk : k ∉ ch)
    (h : ∀ (e : Env) (L' : ML), (∀ i, i ∈ id :: rd → lr L' i = lr (Le e) i) → JO P w0 (Fe e) L' o (fun u w' => ∃ b : Value, u = v e b ∧ MemOk w0 ((id, r e b) :: L') w')) : Ob P w0 ops k o (fun e => v e (e k).2.2) (fun e => [(id, r e (e k).2.2)]) ⟨rd, [id], ch, an⟩ Fe Le where
  dep e e' he := by
    have h1 := hv e e' fun j hj => he j (.inr hj)
    rw [h1.1, h1.2, he k (.inl rfl)]; exact ⟨rfl, rfl⟩
  ids e i hi := by rw [lr_cons, if_neg (fun h => hi (by simp [h]))]; rfl
  sel := hs
  go e L' hL' := ⟨true, by simp only [runs, hg]; exact ⟨dj, b, hj, hb e, by simp⟩, fun _ a w hF hL => (h e L' (fun i hi => by
      rcases List.mem_cons.1 hi with rfl | hi
      · exact hL' i (.inr (by simp))
      · exact hL' i (.inl hi)) a w hF hL).mono fun u w' ⟨c, hu, hM⟩ => ⟨(0, 0, c), by
      have h1 := hv e (upd e k (0, 0, c)) fun j hj => (upd_ne e (by rintro rfl; exact hk hj) _).symm
      rw [← h1.1, ← h1.2, upd_same]
      exact ⟨hu, hM⟩⟩, (fun h => by cases h)⟩
end
end Go.Fw
namespace Go.Fw
section
variable {P : Program} {w0 : World} {sz : Nat} {F : FL} {L : ML} {ops : Array Oper} {Q : Exit → Act → World → Prop} {rest : List Oper} {d : Nat} {op : Op} {ty : TypeId} {pos : String} {af : Array Edge} {RO : Option Nat} {dm : List Deferred}
theorem yielded_undef {j dj : Nat} {a : Act} (hj : (ops[j]?).bind (·.dst) = some dj) (hF : FrOk F a) (hb : lk F dj = some undef) : yielded ops a.tmps j = none := by
  unfold yielded
  rw [hj]
  simp [hF dj _ hb, undef]
/-- .. whose guard did not come up itself. -/
theorem JQ.gu {j dj : Nat} {c : Bool} (hj : (ops[j]?).bind (·.dst) = some dj) (hb : lk F dj = some undef) (hd : Nat.blt d sz = true)
    (k : JQ w0 sz ((d, undef) :: F) L (wpList P ops Q rest)) : JQ w0 sz F L (wpList P ops Q (⟨some d, op, ty, pos, af, some (j, c)⟩ :: rest)) := by
  intro a w hs hdf hF hL
  unfold wpList
  rw [if_neg (by simp [Region.wanted, yielded_undef hj hF hb])]
  have hd' : d < a.tmps.size := by rw [hs]; simpa using hd
  exact k _ w (by rw [size_put]; exact hs) (by rw [defers_put]; exact hdf) (hF.put hd' _) hL
end
end Go.Fw
end
section
open Go.RowKit
set_option linter.unusedVariables false
set_option linter.unusedSimpArgs false
set_option linter.unusedSectionVars false
namespace Go.Fw
/-- v is new since w, and reads so in w'. -/
def NewRo (w : World) (v : Value) (sz n : Nat) (xs : List Value) (w' : World) : Prop := Reads w' v sz n xs ∧ ∀ b, (Res.ro v sz n xs).blk = some b → w.heap.size ≤ b
section
variable {P : Program} {w0 : World} {sz : Nat} {F : FL} {L : ML} {K : Act → World → Prop} {dst : Option Tmp} {ty : TypeId} {pos : String} {af : Array Edge} {gd : Option (Nat × Bool)}
theorem MemOk.newRo {w w' : World} (h : MemOk w0 L w) (hb : Below w.heap.size w w') (id : Nat) {v : Value} {s n : Nat} {xs : List Value} (hn : NewRo w v s n xs w') : MemOk w0 ((id, .ro v s n xs) :: L) w' := by
  refine (h.grow hb).view hn.1 fun j r hj hr hw => ?_
  have hr' := h.ok j r hr
  cases hb1 : (Res.ro v s n xs).blk with
  | none => exact .inl hb1
  | some b =>
    have h1 := hn.2 b hb1
    refine .inr fun e => ?_
    have h2 := Res.blk_lt hr' (b := b) (by rw [← e, hb1])
    omega
/-- A call that hands back something new that is read only from then on. -/
theorem JO.callRo (id : Nat) {f : FuncId} {xs : List Operand} {ats : Array TypeId} {vs : List Value} {s n : Nat} {us : List Value} (hb : HasBody P f) (hxs : evs F xs vs)
    (h : ∀ w, MemOk w0 L w → Calls P f vs.toArray w fun e w' => ∃ v, e = .returned v ∧ NewRo w v s n us w' ∧ Below w.heap.size w w') :
    JO P w0 F L ⟨dst, .call ⟨.value (.func f), xs.toArray, ats⟩, ty, pos, af, gd⟩ (fun v' w' => ∃ i : Value, v' = i ∧ MemOk w0 ((id, .ro i s n us) :: L) w') :=
  JO.call hb hxs fun w hw => (h w hw).mono fun _ _ ⟨v, he, hn, hB⟩ => ⟨_, he, _, rfl, hw.newRo hB id hn⟩
theorem newRo_cells {w w' : World} {L : ML} (h : MemOk w L w') {id : Nat} {b n : Nat} {us : List Value} {e : TypeId} {fz : Nat × Nat} (hr : lr L id = some (.cells b us e fz)) (hn : us.length = n) (hm : n ≤ 9223372036854775807) : NewRo w (.slice (some ⟨b, 0, none⟩) n n) 1 n us w' := by
  refine ⟨reads_cells (h.blk hr) (by rw [List.drop_zero]; exact List.take_of_length_le (by omega)) hn ⟨Nat.le_refl _, hm⟩, fun b' hb => ?_⟩
  have := h.ge hr
  cases us with
  | nil => simp [Res.blk] at hb
  | cons u us => simp only [Res.blk, Value.ownBlock, Option.some.injEq] at hb; omega
theorem newRo_row {w w' : World} {v : Value} {e : TypeId} {s n : Nat} {us : List Value} (h : w'.ownsRow w.heap.size e s v n us) : NewRo w v s n us w' := by
  refine ⟨reads_row' h, fun b hb => ?_⟩
  rcases own_block_cases h with ⟨rfl, rfl, rfl⟩ | ⟨g, cap, cur, rfl, hg, _⟩
  · simp [Res.blk] at hb
  · cases us with
    | nil => simp [Res.blk] at hb
    | cons u us => simp only [Res.blk, Value.ownBlock, Option.some.injEq] at hb; omega
/-- A variable of the call's own that is not written any more, as a slice. -/
theorem MemOk.roCells {w : World} (h : MemOk w0 L w) {id : Nat} {b n : Nat} {us : List Value} {e : TypeId} {fz : Nat × Nat} (hr : lr L id = some (.cells b us e fz)) (hn : us.length = n) (hm : n ≤ 9223372036854775807) : MemOk w0 ((id, .ro (.slice (some ⟨b, 0, none⟩) n n) 1 n us) :: L) w := by
  have hrd : Reads w (.slice (some ⟨b, 0, none⟩) n n) 1 n us := reads_cells (h.blk hr) (by rw [List.drop_zero]; exact List.take_of_length_le (by omega)) hn ⟨Nat.le_refl _, hm⟩
  have hg : w.grownBy w none := ⟨rfl, rfl, rfl, Nat.le_refl _, fun _ _ _ => rfl⟩
  cases us with
  | nil => exact h.put (old := none) hg (.inl rfl) hrd (.inl rfl)
  | cons u us => exact h.put (old := some b) ⟨rfl, rfl, rfl, Nat.le_refl _, fun _ _ _ => rfl⟩ (.inr ⟨_, hr, rfl, rfl⟩) hrd (.inr (.inl ⟨rfl, by simp⟩))
theorem JQ.roCells (id : Nat) {b n : Nat} {us : List Value} {e : TypeId} {fz : Nat × Nat} (hr : lr L id = some (.cells b us e fz)) (hn : us.length = n) (hm : n ≤ 9223372036854775807) (h : JQ w0 sz F ((id, .ro (.slice (some ⟨b, 0, none⟩) n n) 1 n us) :: L) K) : JQ w0 sz F L K :=
  fun a w h1 h2 h3 h4 => h a w h1 h2 h3 (h4.roCells hr hn hm)
end
end Go.Fw
namespace Go.Fw
section
variable {P : Program} {w0 : World} {F : FL} {L : ML} {dst : Option Tmp} {ty : TypeId} {pos : String} {af : Array Edge} {gd : Option (Nat × Bool)}
variable {T : TypeId} {x y : Operand} {b off : Nat} {u : Value} {cs : List Value} {e : TypeId}
theorem MemOk.roOne {w : World} (h : MemOk w0 L w) {id n sz : Nat} {xs : List Value} (hr : lr L id = some (.ro u sz n xs)) : u.oneCell' = true := by
  obtain ⟨_, a, c, rfl, _⟩ := h.reads hr; rfl
/-- The value of a slice that is read only is laid into a variable. -/
theorem JO.store1O (id idW : Nat) {sz n : Nat} {xs : List Value} (hx : evk F x = some (.pointer (some ⟨b, off, none⟩))) (hr : lr L id = some (.cells b cs e (0, 0))) (hy : evk F y = some u) (hW : lr L idW = some (.ro u sz n xs)) (hsz : ∀ w, (sizeOf T).run P w = .ok 1 w) (hlt : off < cs.length) :
    JO P w0 F L ⟨dst, .store T x y, ty, pos, af, gd⟩ (fun z w' => z = undef ∧ MemOk w0 ((id, .cells b (cs.set off u) e (0, 0)) :: L) w') :=
  fun a w hF hL => JO.store1 id hx hr hy (hL.roOne hW) hsz hlt a w hF hL
theorem shr_fits {n : Nat} (h : n ≤ 255) : -9223372036854775808 ≤ (n : Int) ∧ (n : Int) ≤ 9223372036854775807 := by omega
end
end Go.Fw
end
section
open Go.RowKit
set_option linter.unusedVariables false
set_option linter.unusedSimpArgs false
set_option linter.unusedSectionVars false
namespace Go.Fw
/-- an int -/
abbrev iv (n : Int) : Value := .int .i64 n
/-- the bits of two ints -/
def ibv (op : BinOp) (a b : BitVec 64) : BitVec 64 := match op with | .and => a &&& b | .or => a ||| b | .xor => a ^^^ b | .andNot => a &&& ~~~b | _ => 0
def ib (op : BinOp) (x y : Int) : Int := IntKind.i64.wrap ((ibv op (BitVec.ofInt 64 x) (BitVec.ofInt 64 y)).toNat : Int)
section
variable {P : Program} {w0 : World} {sz : Nat} {F : FL} {L : ML} {dst : Option Tmp} {ty : TypeId} {pos : String} {af : Array Edge} {gd : Option (Nat × Bool)}
variable {T t u' : TypeId} {x y : Operand} {m n : Int} {v : Value}
theorem JV.bitI {op : BinOp} (hop : op = .and ∨ op = .or ∨ op = .xor ∨ op = .andNot) (hx : evk F x = some (.int .i64 m)) (hy : evk F y = some (.int .i64 n)) :
    JV P w0 F L ⟨dst, .binOp op t x y u', ty, pos, af, gd⟩ (.int .i64 (ib op m n)) :=
  JV.bin hx hy fun w => by
    rcases hop with rfl | rfl | rfl | rfl <;> first | rfl | (simp only [binOp]; rfl) | (simp only [binOp, Op.intBits, Sem.run_pure]; rfl)
theorem JV.max2 {k : IntKind} {ats : Array TypeId} (hx : evk F x = some (.int k m)) (hy : evk F y = some (.int k n)) : JV P w0 F L ⟨dst, .call ⟨.builtin .max, #[x, y], ats⟩, ty, pos, af, gd⟩ (.int k (if m < n then n else m)) := by
  refine JV.of fun a w hF hL => ?_
  have e1 := hF.at hx (by simp [Op.operands, Call.operands]); have e2 := hF.at hy (by simp [Op.operands, Call.operands])
  simp [execOp, resolve, invoke, builtin, Builtin.max_, Builtin.max2, e1, e2]
/-- the address of a field of an element of what is read only -/
theorem JV.fieldAddrRo (id : Nat) {fs : Array Field} {i k s c : Nat} {f : Field} {n : Nat} {xs : List Value} (hx : evk F x = some (ptrOf v k)) (hr : lr L id = some (.ro v s c xs)) (h0 : 0 < c) (h1 : 0 < s) (hT : ∀ w, (underlying T).run P w = .ok (.struct fs) w) (hf : fs[i]? = some f)
    (hsz : ∀ w, (sizeOf f.type).run P w = .ok n w) (hn : (n == 0) = false) : JV P w0 F L ⟨dst, .fieldAddr T x i, ty, pos, af, gd⟩ (ptrOf v (k + f.offset)) := by
  refine JV.of fun a w hF hL => ?_
  have e1 := hF.at hx (by simp [Op.operands])
  obtain ⟨hl, aa, cc, rfl, _, h3⟩ := hL.reads hr
  have hpos : 0 < xs.length := by rw [hl]; exact Nat.mul_pos h0 h1
  rcases h3 with rfl | ⟨ad, rfl, hs, _⟩
  · simp at hpos
  · simp only [ptrOf] at e1 ⊢
    have hn' : n ≠ 0 := by simpa using hn
    simp [execOp, Instr.fieldAt, e1, hT, hf, Instr.sureAddr, fieldPlace, hsz, hn', addr_add_add _ hs]
/-- A call that hands back, within its result, something new that is read only from then on. -/
theorem JO.callNew (id : Nat) {f : FuncId} {xs : List Operand} {ats : Array TypeId} {vs : List Value} {s n : Nat} {us : List Value} (vr : Value → Value) (hb : HasBody P f) (hxs : evs F xs vs)
    (h : ∀ w, MemOk w0 L w → Calls P f vs.toArray w fun e w' => ∃ v, e = .returned (vr v) ∧ NewRo w v s n us w' ∧ Below w.heap.size w w') :
    JO P w0 F L ⟨dst, .call ⟨.value (.func f), xs.toArray, ats⟩, ty, pos, af, gd⟩ (fun v' w' => ∃ i : Value, v' = vr i ∧ MemOk w0 ((id, .ro i s n us) :: L) w') :=
  JO.call hb hxs fun w hw => (h w hw).mono fun _ _ ⟨v, he, hn, hB⟩ => ⟨_, he, _, rfl, hw.newRo hB id hn⟩
theorem newRo_nil (w w' : World) (s : Nat) : NewRo w (.slice none 0 0) s 0 [] w' :=
  ⟨⟨by simp, none, 0, rfl, ⟨Nat.le_refl _, by decide⟩, .inl rfl⟩, fun b hb => by simp [Res.blk] at hb⟩

/-! ### an operation whose truth is asked for -/
variable {ops : Array Oper} {Q : Exit → Act → World → Prop} {rest : List Oper} {d : Nat} {op : Op}
theorem JQ.vb {b : Bool} (h : JV P w0 F L ⟨some d, op, ty, pos, af, none⟩ (.bool b)) (hd : Nat.blt d sz = true)
    (kt : b = true → JQ w0 sz ((d, .bool true) :: F) L (wpList P ops Q rest)) (kf : b = false → JQ w0 sz ((d, .bool false) :: F) L (wpList P ops Q rest)) : JQ w0 sz F L (wpList P ops Q (⟨some d, op, ty, pos, af, none⟩ :: rest)) := by
  refine JQ.v h hd ?_
  cases b
  · exact kf rfl
  · exact kt rfl
theorem JQ.vbg {b c : Bool} {j dj : Nat} (hj : (ops[j]?).bind (·.dst) = some dj) (hb : lk F dj = some (.bool c)) (h : JV P w0 F L ⟨some d, op, ty, pos, af, some (j, c)⟩ (.bool b)) (hd : Nat.blt d sz = true)
    (kt : b = true → JQ w0 sz ((d, .bool true) :: F) L (wpList P ops Q rest)) (kf : b = false → JQ w0 sz ((d, .bool false) :: F) L (wpList P ops Q rest)) : JQ w0 sz F L (wpList P ops Q (⟨some d, op, ty, pos, af, some (j, c)⟩ :: rest)) := by
  refine JQ.vg hj hb h hd ?_
  cases b
  · exact kf rfl
  · exact kt rfl
variable {RO : Option Nat} {dm : List Deferred}
theorem JI.vb {b : Bool} (h : JV P w0 F L ⟨some d, op, ty, pos, af, none⟩ (.bool b)) (hd : Nat.blt d sz = true)
    (kt : b = true → JI dm w0 sz ((d, .bool true) :: F) L (wpListIn (fo RO) 0 P ops Q rest)) (kf : b = false → JI dm w0 sz ((d, .bool false) :: F) L (wpListIn (fo RO) 0 P ops Q rest)) : JI dm w0 sz F L (wpListIn (fo RO) 0 P ops Q (⟨some d, op, ty, pos, af, none⟩ :: rest)) := by
  refine JI.v h hd ?_
  cases b
  · exact kf rfl
  · exact kt rfl
theorem JI.vbg {b c : Bool} {j dj : Nat} (hj : (ops[j]?).bind (·.dst) = some dj) (hb : lk F dj = some (.bool c)) (h : JV P w0 F L ⟨some d, op, ty, pos, af, some (j, c)⟩ (.bool b)) (hd : Nat.blt d sz = true)
    (kt : b = true → JI dm w0 sz ((d, .bool true) :: F) L (wpListIn (fo RO) 0 P ops Q rest)) (kf : b = false → JI dm w0 sz ((d, .bool false) :: F) L (wpListIn (fo RO) 0 P ops Q rest)) : JI dm w0 sz F L (wpListIn (fo RO) 0 P ops Q (⟨some d, op, ty, pos, af, some (j, c)⟩ :: rest)) := by
  refine JI.vg hj hb h hd ?_
  cases b
  · exact kf rfl
  · exact kt rfl
/-- s == nil -/
theorem JV.eqlSlN {aa : Option Addr} {l c : Nat} {e : TypeId} (hx : evk F x = some (.slice aa l c)) (hy : evk F y = some (.slice none 0 0)) (hT : P.underlying T = some (.slice e)) :
    JV P w0 F L ⟨dst, .binOp .eql T x y u', ty, pos, af, gd⟩ (.bool aa.isNone) := by
  refine JV.of fun A w hF hL => ?_
  have e1 := hF.at hx (by simp [Op.operands]); have e2 := hF.at hy (by simp [Op.operands])
  have hg : (eqGuard .eql T x y (.slice aa l c) (.slice none 0 0)).run P w = .ok () w := by unfold eqGuard; split <;> simp
  have hr : (Op.equal T (.slice aa l c) (.slice none 0 0)).run P w = .ok aa.isNone w := by
    have h : ∀ D : Nat, (Op.equalIn (D + 1) T (.slice aa l c) (.slice none 0 0)).run P w = .ok aa.isNone w := fun D => by
      cases aa <;> simp [Op.equalIn, run_underlying hT]
    exact h 9999
  simp only [execOp, e1, e2, Sem.run_bind, hg, Result.andThen_ok, binOp, hr, Sem.run_pure]
end
end Go.Fw
namespace Go.Fw
section
variable {P : Program} {w0 : World} {sz : Nat} {F : FL} {L : ML}
theorem JQ.doneCC1 (i1 i2 : Nat) {fn : Func} {R : Ending → World → Prop} {s1 s2 : Tmp} {T1 T2 : TypeId} {b1 b2 : Nat} {u1 u2 : Value} {e1 e2 : TypeId} {f1 f2 : Nat × Nat} (hr : fn.results = #[.cell s1 T1, .cell s2 T2]) (h1 : lk F s1 = some (.pointer (some ⟨b1, 0, none⟩))) (h2 : lk F s2 = some (.pointer (some ⟨b2, 0, none⟩)))
    (m1 : lr L i1 = some (.cells b1 [u1] e1 f1)) (m2 : lr L i2 = some (.cells b2 [u2] e2 f2)) (a1 : ∀ w, (isAgg T1).run P w = .ok false w) (a2 : ∀ w, (isAgg T2).run P w = .ok false w) (h : ∀ w, MemOk w0 L w → R (.returned (.tuple #[u1, u2])) w) : JQ w0 sz F L (bodyPost P fn R .ret) := by
  refine JQ.done (v := .tuple #[u1, u2]) (fun a w hF hL => ?_) h
  have c1 : w.cell? ⟨b1, 0, none⟩ = some u1 := by rw [cell_of_blk (hL.blk m1)]; rfl
  have c2 : w.cell? ⟨b2, 0, none⟩ = some u2 := by rw [cell_of_blk (hL.blk m2)]; rfl
  have k1 := hF s1 _ h1
  have k2 := hF s2 _ h2
  simp [results, hr, k1, k2, loadVar, a1, a2, c1, c2, asAddr]
end
end Go.Fw
namespace Go.Fw
section
variable {P : Program} {w0 : World} {sz : Nat} {F : FL} {L : ML} {Q : Exit → Act → World → Prop} {RO : Option Nat} {dm : List Deferred}
variable {rc : LoopState → Option Code → Loop} {fn D : Nat} {T : Array Value} {ps : Array Tmp} {assign body : Code}
variable {ops : Array Oper} {rest : List Oper} {d : Nat} {ty : TypeId} {pos : String} {af : Array Edge}
/-- The call of yield, guarded, the guard met. -/
theorem JI.yieldg {l : Nat} {y : Operand} {xs : List Operand} {vs : List Value} {ats : Array TypeId} {j dj : Nat} {c : Bool} (id : Nat) (hj : (ops[j]?).bind (·.dst) = some dj) (hb : lk F dj = some (.bool c)) (hrc : RC rc fn T ps assign body D) (hy : evk F y = some (.func (.yield l) #[] #[])) (hxs : evs F xs vs)
    (hr : lr L id = some (.obj l (.loop (rc .ready none)))) (hps : vs.length = ps.size) {ι : Sort _} {vr : ι → Value} {L' : ι → ML}
    (round : ∀ w, MemOk w0 L w → RoundIn (fo RO) 0 P l fn (zipT ps vs.toArray T) assign body w fun e w' => ∃ v, e = .returned v ∧ ∃ i, v = vr i ∧ MemOk w0 (L' i) w')
    (hd : Nat.blt d sz = true) (k : ∀ i, JI dm w0 sz ((d, vr i) :: F) (L' i) (wpListIn (fo RO) 0 P ops Q rest)) :
    JI dm w0 sz F L (wpListIn (fo RO) 0 P ops Q (⟨some d, .call ⟨.value y, xs.toArray, ats⟩, ty, pos, af, some (j, c)⟩ :: rest)) := by
  intro a w hs hdf hF hL
  have h0 := JI.yield (ops := ops) (ty := ty) (pos := pos) (af := af) (ats := ats) (dm := dm) (Q := Q) (rest := rest) id hrc hy hxs hr hps round hd k a w hs hdf hF hL
  unfold wpListIn at h0 ⊢
  rw [if_pos (wanted_none _ rfl _)] at h0
  rw [if_pos (by simp [Region.wanted, yielded_of hj hF hb])]
  exact h0
end
end Go.Fw
end
