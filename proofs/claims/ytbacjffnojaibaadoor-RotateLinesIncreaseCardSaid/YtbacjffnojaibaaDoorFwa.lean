/- A frame in which a function of the program is walked step by step: rules for each operation, proved from the model; no condition. -/
import Derived.WalkKit
import Derived.Orders
import Derived.Deep.Quiet
import Derived.Deep.LoopGhost
import Derived.Laws.CopyRow
import Derived.Laws.IdiomStrings
import Derived.Laws.BytesArg
import Derived.KernelRfl
section
open Go.RowKit
namespace Go.Fw

/-- What is known of a frame's slots: the newest entry of a slot counts. -/
def lk : List (Nat × Value) → Nat → Option Value
  | [], _ => none
  | (d, v) :: r, k => bif Nat.beq d k then some v else lk r k

/-- What the call owns or may read. -/
inductive Res where
  | cells (b : Nat) (cs : List Value) (e : TypeId) (fz : Nat × Nat)
  | row (v : Value) (e : TypeId) (sz : Nat) (n : Nat) (xs : List Value)
  | ro (v : Value) (sz : Nat) (n : Nat) (xs : List Value)
  | obj (b : Nat) (o : Obj)

def lr : List (Nat × Res) → Nat → Option Res
  | [], _ => none
  | (d, v) :: r, k => bif Nat.beq d k then some v else lr r k

/-- The slice value v has n elements of sz cells, which hold xs. -/
def Reads (w : World) (v : Value) (sz n : Nat) (xs : List Value) : Prop :=
  xs.length = n * sz ∧ ∃ a c, v = .slice a n c ∧ (n ≤ c ∧ n ≤ 9223372036854775807) ∧ (xs = [] ∨ ∃ ad, a = some ad ∧ ad.spot = none ∧ ∀ j u, xs[j]? = some u → w.cell? (ad.add j) = some u)

def Res.blk : Res → Option Nat
  | .cells b _ _ _ => some b
  | .row v _ _ _ _ => v.ownBlock
  | .ro v _ _ xs => match xs with | [] => none | _ :: _ => v.ownBlock
  | .obj b _ => some b
def Res.wr : Res → Bool
  | .ro .. => false
  | _ => true
def Res.ok (N : Nat) (w : World) : Res → Prop
  | .cells b cs e fz => N ≤ b ∧ w.heap[b]? = some (.cells cs.toArray e fz)
  | .row v e sz n xs => w.ownsRow N e sz v n xs
  | .ro v sz n xs => Reads w v sz n xs
  | .obj b o => N ≤ b ∧ w.heap[b]? = some o

def apart (r s : Res) : Prop := r.blk = none ∨ r.blk ≠ s.blk

structure MemOk (w0 : World) (L : List (Nat × Res)) (w : World) : Prop where
  below : Below w0.heap.size w0 w
  ok : ∀ i r, lr L i = some r → r.ok w0.heap.size w
  apart : ∀ i j r s, i ≠ j → lr L i = some r → lr L j = some s → (r.wr = true ∨ s.wr = true) → Fw.apart r s

theorem Res.blk_lt {N : Nat} {w : World} {r : Res} (h : r.ok N w) {b : Nat} (hb : r.blk = some b) : b < w.heap.size := by
  cases r with
  | cells b' cs e fz =>
    simp only [Res.blk, Option.some.injEq] at hb
    subst hb
    exact (Array.getElem?_eq_some_iff.1 h.2).1
  | row v e sz n xs =>
    obtain ⟨_, h2⟩ := h
    rcases h2 with ⟨rfl, _⟩ | ⟨g, cap, cur, rfl, _, hh, _⟩
    · simp [Res.blk, Value.ownBlock] at hb
    · simp only [Res.blk, Value.ownBlock, Option.some.injEq] at hb
      subst hb
      exact (Array.getElem?_eq_some_iff.1 hh).1
  | ro v sz n xs =>
    obtain ⟨_, a, c, rfl, _, h3⟩ := h
    cases xs with
    | nil => simp [Res.blk] at hb
    | cons x xs =>
      rcases h3 with h3 | ⟨ad, rfl, _, hc⟩
      · cases h3
      · simp only [Res.blk, Value.ownBlock, Option.some.injEq] at hb
        subst hb
        have := hc 0 x (by simp)
        exact World.block_lt_of_cell? w ad (by simpa [Addr.add] using this)
  | obj b' o =>
    simp only [Res.blk, Option.some.injEq] at hb
    subst hb
    exact (Array.getElem?_eq_some_iff.1 h.2).1

theorem Res.keep {N : Nat} {w w' : World} {r : Res} (h : r.ok N w) (hb : ∀ b, r.blk = some b → w'.heap[b]? = w.heap[b]?) : r.ok N w' := by
  cases r with
  | cells b cs e fz => exact ⟨h.1, by rw [hb b rfl]; exact h.2⟩
  | row v e sz n xs =>
    obtain ⟨h1, h2⟩ := h
    refine ⟨h1, ?_⟩
    rcases h2 with h2 | ⟨g, cap, cur, rfl, hg, hh, h3⟩
    · exact .inl h2
    · exact .inr ⟨g, cap, cur, rfl, hg, by rw [hb g rfl]; exact hh, h3⟩
  | ro v sz n xs =>
    obtain ⟨h0, a, c, rfl, hn, h3⟩ := h
    refine ⟨h0, a, c, rfl, hn, ?_⟩
    cases xs with
    | nil => exact .inl rfl
    | cons x xs =>
      rcases h3 with h3 | ⟨ad, rfl, hs, hc⟩
      · cases h3
      · refine .inr ⟨ad, rfl, hs, fun j u hj => ?_⟩
        rw [← hc j u hj]
        have := hb ad.block rfl
        apply World.cell?_of_block
        unfold Addr.add
        split <;> exact this
  | obj b o => exact ⟨h.1, by rw [hb b rfl]; exact h.2⟩

theorem Res.wr_ge {N : Nat} {w : World} {r : Res} (h : r.ok N w) (hw : r.wr = true) {b : Nat} (hb : r.blk = some b) : N ≤ b := by
  cases r with
  | cells b' cs e fz => simp only [Res.blk, Option.some.injEq] at hb; subst hb; exact h.1
  | row v e sz n xs =>
    obtain ⟨_, h2⟩ := h
    rcases h2 with ⟨rfl, _⟩ | ⟨g, cap, cur, rfl, hg, hh, _⟩
    · simp [Res.blk, Value.ownBlock] at hb
    · simp only [Res.blk, Value.ownBlock, Option.some.injEq] at hb
      subst hb; exact hg
  | ro v sz n xs => cases hw
  | obj b' o => simp only [Res.blk, Option.some.injEq] at hb; subst hb; exact h.1

theorem beq_ne {i j : Nat} (h : i ≠ j) : Nat.beq i j = false := by
  cases hb : Nat.beq i j with
  | false => rfl
  | true => exact absurd (Nat.eq_of_beq_eq_true hb) h

theorem lr_cons (i : Nat) (r : Res) (L : List (Nat × Res)) (j : Nat) : lr ((i, r) :: L) j = if i = j then some r else lr L j := by
  simp only [lr]
  by_cases h : i = j
  · subst h; rw [if_pos rfl, Nat.beq_refl]; rfl
  · rw [if_neg h, beq_ne h]; rfl

theorem lk_cons (i : Nat) (v : Value) (L : List (Nat × Value)) (j : Nat) : lk ((i, v) :: L) j = if i = j then some v else lk L j := by
  simp only [lk]
  by_cases h : i = j
  · subst h; rw [if_pos rfl, Nat.beq_refl]; rfl
  · rw [if_neg h, beq_ne h]; rfl

/-- The memory grew; nothing that was there has turned. -/
theorem MemOk.grow {w0 w w' : World} {L : List (Nat × Res)} (h : MemOk w0 L w) (hb : Below w.heap.size w w') : MemOk w0 L w' :=
  ⟨h.below.trans (hb.mono h.below.size), fun i r hr => Res.keep (h.ok i r hr) fun b e => hb.block b (Res.blk_lt (h.ok i r hr) e), h.apart⟩

/-- One resource is turned, or a new one is laid. -/
theorem MemOk.put {w0 w w' : World} {L : List (Nat × Res)} (h : MemOk w0 L w) {id : Nat} {r' : Res} {old : Option Nat} (hg : w.grownBy w' old)
    (hold : old = none ∨ ∃ r, lr L id = some r ∧ r.wr = true ∧ old = r.blk) (hr : r'.ok w0.heap.size w')
    (hb : r'.blk = none ∨ (r'.blk = old ∧ old ≠ none) ∨ ∃ b, r'.blk = some b ∧ w.heap.size ≤ b) : MemOk w0 ((id, r') :: L) w' := by
  have hold_ge : ∀ b, old = some b → w0.heap.size ≤ b := by
    intro b hb'
    rcases hold with e | ⟨r, h1, h2, h3⟩
    · rw [e] at hb'; cases hb'
    · exact Res.wr_ge (h.ok id r h1) h2 (h3 ▸ hb')
  have other : ∀ j s, j ≠ id → lr L j = some s → ∀ b, s.blk = some b → some b ≠ old := by
    intro j s hj hs b hb' e
    rcases hold with e' | ⟨r, h1, h2, h3⟩
    · rw [e'] at e; cases e
    · rcases h.apart j id s r hj hs h1 (.inr h2) with a | a
      · rw [a] at hb'; cases hb'
      · exact a (by rw [hb', e, h3])
  refine ⟨⟨hg.os.trans h.below.os, hg.tape.trans h.below.tape, hg.output.trans h.below.output, Nat.le_trans h.below.size hg.size, fun k hk => ?_⟩, ?_, ?_⟩
  · rw [hg.block k (Nat.lt_of_lt_of_le hk h.below.size) (fun e => by have := hold_ge k e.symm; omega)]
    exact h.below.block k hk
  · intro i r hi
    rw [lr_cons] at hi
    split at hi
    · cases hi; exact hr
    · rename_i hne
      exact Res.keep (h.ok i r hi) fun b e => hg.block b (Res.blk_lt (h.ok i r hi) e) (other i r (Ne.symm hne) hi b e)
  · have key : ∀ j s, j ≠ id → lr L j = some s → Fw.apart r' s ∧ Fw.apart s r' := by
      intro j s hj hs
      rcases hb with e | ⟨e, ne⟩ | ⟨b, e, hge⟩
      · refine ⟨.inl e, ?_⟩
        cases hsb : s.blk with
        | none => exact .inl hsb
        | some b => exact .inr (by rw [hsb, e]; simp)
      · cases hsb : s.blk with
        | none => exact ⟨.inr (by rw [hsb, e]; exact ne), .inl hsb⟩
        | some b =>
          have := other j s hj hs b hsb
          exact ⟨.inr (by rw [hsb, e]; exact this.symm), .inr (by rw [hsb, e]; exact this)⟩
      · cases hsb : s.blk with
        | none => exact ⟨.inr (by rw [hsb, e]; simp), .inl hsb⟩
        | some b' =>
          have := Res.blk_lt (h.ok j s hs) hsb
          have hne : b ≠ b' := by omega
          exact ⟨.inr (by rw [hsb, e]; simpa using hne), .inr (by rw [hsb, e]; simpa using hne.symm)⟩
    intro i j r s hij hi hj hw
    rw [lr_cons] at hi hj
    split at hi
    · split at hj
      · omega
      · rename_i h1 h2; cases hi; exact (key j s (Ne.symm h2) hj).1
    · split at hj
      · rename_i h1 h2; cases hj; exact (key i r (Ne.symm h1) hi).2
      · exact h.apart i j r s hij hi hj hw

/-- Fewer resources. -/
theorem MemOk.sub {w0 w : World} {L L' : List (Nat × Res)} (h : MemOk w0 L w) (hs : ∀ i r, lr L' i = some r → lr L i = some r) : MemOk w0 L' w :=
  ⟨h.below, fun i r hi => h.ok i r (hs i r hi), fun i j r s hij hi hj => h.apart i j r s hij (hs i r hi) (hs j s hj)⟩

/-- What may be read only, laid beside what there is. -/
theorem MemOk.view {w0 w : World} {L : List (Nat × Res)} (h : MemOk w0 L w) {id : Nat} {v : Value} {sz n : Nat} {xs : List Value} (hr : Reads w v sz n xs)
    (hb : ∀ j s, j ≠ id → lr L j = some s → s.wr = true → Fw.apart (.ro v sz n xs) s) : MemOk w0 ((id, .ro v sz n xs) :: L) w := by
  refine ⟨h.below, ?_, ?_⟩
  · intro i r hi
    rw [lr_cons] at hi
    split at hi
    · cases hi; exact hr
    · exact h.ok i r hi
  · intro i j r s hij hi hj hw
    rw [lr_cons] at hi hj
    split at hi
    · split at hj
      · omega
      · rename_i h1 h2; cases hi
        rcases hw with hw | hw
        · cases hw
        · exact hb j s (Ne.symm h2) hj hw
    · split at hj
      · rename_i h1 h2; cases hj
        rcases hw with hw | hw
        · rcases hb i r (Ne.symm h1) hi hw with a | a
          · cases hrb : r.blk with
            | none => exact .inl hrb
            | some b => exact .inr (by rw [hrb, a]; simp)
          · exact .inr (Ne.symm a)
        · cases hw
      · exact h.apart i j r s hij hi hj hw

theorem MemOk.start (w0 : World) : MemOk w0 [] w0 := ⟨Below.refl _ _, fun _ _ h => (by cases h), fun _ _ _ _ _ h => (by cases h)⟩

end Go.Fw
end
section
open Go.RowKit
namespace Go.Fw

abbrev FL := List (Nat × Value)
abbrev ML := List (Nat × Res)

def evk (F : FL) : Operand → Option Value
  | .tmp t => lk F t
  | .const v => some v
  | .global g => some (.pointer (some ⟨g, 0, none⟩))
  | .func f => some (.func (.func f) #[] #[])

def FrOk (F : FL) (a : Act) : Prop := ∀ k v, lk F k = some v → a.tmps[k]? = some v
/-- The operands of o have in a the values that F tells. -/
def FrOn (o : Oper) (F : FL) (a : Act) : Prop := ∀ x ∈ o.op.operands, ∀ v, evk F x = some v → a.eval x = v

theorem FrOk.eval {F : FL} {a : Act} (h : FrOk F a) {x : Operand} {v : Value} (hx : evk F x = some v) : a.eval x = v := by
  cases x with
  | tmp t => simp [Act.eval, h t v hx]
  | const c => simpa [evk, Act.eval] using hx
  | global g => simpa [evk, Act.eval] using hx
  | func f => simpa [evk, Act.eval] using hx
theorem FrOk.on {F : FL} {a : Act} (h : FrOk F a) (o : Oper) : FrOn o F a := fun _ _ _ hv => h.eval hv
theorem FrOk.put {F : FL} {a : Act} (h : FrOk F a) {d : Nat} (hd : d < a.tmps.size) (v : Value) : FrOk ((d, v) :: F) (a.put (some d) v) := by
  intro k u hk
  rw [lk_cons] at hk
  simp only [Act.put, Array.getElem?_setIfInBounds]
  by_cases e : d = k
  · rw [if_pos e] at hk ⊢
    cases hk
    rw [if_pos hd]
  · rw [if_neg e] at hk ⊢
    exact h k u hk
theorem FrOk.sub {F F' : FL} {a : Act} (h : FrOk F a) (hs : ∀ k v, lk F' k = some v → lk F k = some v) : FrOk F' a := fun k v hk => h k v (hs k v hk)

def Yields (P : Program) (o : Oper) (a : Act) (w : World) (R : Value → World → Prop) : Prop :=
  match (execOp a.eval o).run P w with
  | .ok (.value v) w' => R v w'
  | .ok .skip w' => R undef w'
  | .ok (.enter f args) w' => Calls P f args w' (fun e w'' => ∃ v, e = .returned v ∧ R v w'')
  | _ => False

theorem Yields.wp {P : Program} {o : Oper} {a : Act} {w : World} {R : Value → World → Prop} {next : Act → World → Prop} {Q : Exit → Act → World → Prop}
    (h : Yields P o a w R) (hn : ∀ v w', R v w' → next (a.put o.dst v) w') : o.wp P a w next Q := by
  unfold Yields at h
  unfold Oper.wp
  generalize (execOp a.eval o).run P w = r at *
  cases r with
  | ok n w' =>
    cases n <;> simp only [Oper.upon] at h ⊢
    case value v => exact hn v w' h
    case skip => exact hn _ w' h
    case enter f args =>
      refine h.mono fun e w'' => ?_
      rintro ⟨v, rfl, hr⟩
      exact hn v w'' hr
  | halt x w' => exact h.elim

theorem Yields.mono {P : Program} {o : Oper} {a : Act} {w : World} {R R' : Value → World → Prop} (h : Yields P o a w R) (hr : ∀ v w', R v w' → R' v w') : Yields P o a w R' := by
  unfold Yields at *
  generalize (execOp a.eval o).run P w = r at *
  cases r with
  | ok n w' =>
    cases n <;> simp only at h ⊢
    case value v => exact hr _ _ h
    case skip => exact hr _ _ h
    case enter f args => exact h.mono fun e w'' ⟨v, he, h⟩ => ⟨v, he, hr _ _ h⟩
  | halt x w' => exact h.elim

theorem Yields.of_run {P : Program} {o : Oper} {a : Act} {w w' : World} {R : Value → World → Prop} {v : Value} (h : (execOp a.eval o).run P w = .ok (.value v) w') (hr : R v w') : Yields P o a w R := by
  unfold Yields; rw [h]; exact hr
theorem Yields.of_skip {P : Program} {o : Oper} {a : Act} {w w' : World} {R : Value → World → Prop} (h : (execOp a.eval o).run P w = .ok .skip w') (hr : R undef w') : Yields P o a w R := by
  unfold Yields; rw [h]; exact hr
theorem Yields.of_enter {P : Program} {o : Oper} {a : Act} {w w' : World} {R : Value → World → Prop} {f : FuncId} {args : Array Value} (h : (execOp a.eval o).run P w = .ok (.enter f args) w')
    (hr : Calls P f args w' (fun e w'' => ∃ v, e = .returned v ∧ R v w'')) : Yields P o a w R := by
  unfold Yields; rw [h]; exact hr

/-- What one operation yields, wherever the slots of its operands are as F tells and the memory is as L tells. -/
def JO (P : Program) (w0 : World) (F : FL) (L : ML) (o : Oper) (R : Value → World → Prop) : Prop :=
  ∀ a w, FrOn o F a → MemOk w0 L w → Yields P o a w R
/-- One value; the memory is as L tells. -/
abbrev JV (P : Program) (w0 : World) (F : FL) (L : ML) (o : Oper) (v : Value) : Prop := JO P w0 F L o (fun v' w' => v' = v ∧ MemOk w0 L w')

def JQ (w0 : World) (sz : Nat) (F : FL) (L : ML) (K : Act → World → Prop) : Prop :=
  ∀ a w, a.tmps.size = sz → a.defers = [] → FrOk F a → MemOk w0 L w → K a w

theorem size_put (a : Act) (d : Option Tmp) (v : Value) : (a.put d v).tmps.size = a.tmps.size := by cases d <;> simp [Act.put]
theorem defers_put (a : Act) (d : Option Tmp) (v : Value) : (a.put d v).defers = a.defers := by cases d <;> simp [Act.put]

section
variable {P : Program} {w0 : World} {sz : Nat} {F : FL} {L : ML} {ops : Array Oper} {Q : Exit → Act → World → Prop} {rest : List Oper}
  {d : Nat} {op : Op} {ty : TypeId} {pos : String} {af : Array Edge}

theorem wanted_none (o : Oper) (h : o.guard = none) (y : Nat → Option Bool) : Region.wanted o y = true := by simp [Region.wanted, h]

/-- The next operation, in the order of the text: one value. -/
theorem JQ.v {v : Value} (h : JV P w0 F L ⟨some d, op, ty, pos, af, none⟩ v) (hd : Nat.blt d sz = true)
    (k : JQ w0 sz ((d, v) :: F) L (wpList P ops Q rest)) : JQ w0 sz F L (wpList P ops Q (⟨some d, op, ty, pos, af, none⟩ :: rest)) := by
  intro a w hs hdf hF hL
  unfold wpList
  rw [if_pos (wanted_none _ rfl _)]
  refine .inl ((h a w (hF.on _) hL).wp ?_)
  rintro v' w' ⟨rfl, hL'⟩
  have hd' : d < a.tmps.size := by rw [hs]; simpa using hd
  exact k _ w' (by rw [size_put]; exact hs) (by rw [defers_put]; exact hdf) (hF.put hd' _) hL'

/-- .. a value and a memory that hang on what was chosen. -/
theorem JQ.x {ι : Sort _} {v : ι → Value} {L' : ι → ML} (h : JO P w0 F L ⟨some d, op, ty, pos, af, none⟩ (fun v' w' => ∃ i, v' = v i ∧ MemOk w0 (L' i) w')) (hd : Nat.blt d sz = true)
    (k : ∀ i, JQ w0 sz ((d, v i) :: F) (L' i) (wpList P ops Q rest)) : JQ w0 sz F L (wpList P ops Q (⟨some d, op, ty, pos, af, none⟩ :: rest)) := by
  intro a w hs hdf hF hL
  unfold wpList
  rw [if_pos (wanted_none _ rfl _)]
  refine .inl ((h a w (hF.on _) hL).wp ?_)
  rintro v' w' ⟨i, rfl, hL'⟩
  have hd' : d < a.tmps.size := by rw [hs]; simpa using hd
  exact k i _ w' (by rw [size_put]; exact hs) (by rw [defers_put]; exact hdf) (hF.put hd' _) hL'

/-- .. a store: no slot. -/
theorem JQ.s {L' : ML} (h : JO P w0 F L ⟨none, op, ty, pos, af, none⟩ (fun u w' => u = undef ∧ MemOk w0 L' w'))
    (k : JQ w0 sz F L' (wpList P ops Q rest)) : JQ w0 sz F L (wpList P ops Q (⟨none, op, ty, pos, af, none⟩ :: rest)) := by
  intro a w hs hdf hF hL
  unfold wpList
  rw [if_pos (wanted_none _ rfl _)]
  refine .inl ((h a w (hF.on _) hL).wp ?_)
  rintro v' w' ⟨_, hL'⟩
  exact k _ w' hs hdf hF hL'

theorem yielded_of {j dj : Nat} {b : Bool} {a : Act} (hj : (ops[j]?).bind (·.dst) = some dj) (hF : FrOk F a) (hb : lk F dj = some (.bool b)) : yielded ops a.tmps j = some b := by
  unfold yielded
  rw [hj]
  simp [hF dj _ hb]

/-- A guarded operation whose guard is met. -/
theorem JQ.vg {v : Value} {j dj : Nat} {b : Bool} (hj : (ops[j]?).bind (·.dst) = some dj) (hb : lk F dj = some (.bool b)) (h : JV P w0 F L ⟨some d, op, ty, pos, af, some (j, b)⟩ v) (hd : Nat.blt d sz = true)
    (k : JQ w0 sz ((d, v) :: F) L (wpList P ops Q rest)) : JQ w0 sz F L (wpList P ops Q (⟨some d, op, ty, pos, af, some (j, b)⟩ :: rest)) := by
  intro a w hs hdf hF hL
  unfold wpList
  rw [if_pos (by simp [Region.wanted, yielded_of hj hF hb])]
  refine .inl ((h a w (hF.on _) hL).wp ?_)
  rintro v' w' ⟨rfl, hL'⟩
  have hd' : d < a.tmps.size := by rw [hs]; simpa using hd
  exact k _ w' (by rw [size_put]; exact hs) (by rw [defers_put]; exact hdf) (hF.put hd' _) hL'
theorem JQ.xg {ι : Sort _} {v : ι → Value} {L' : ι → ML} {j dj : Nat} {b : Bool} (hj : (ops[j]?).bind (·.dst) = some dj) (hb : lk F dj = some (.bool b))
    (h : JO P w0 F L ⟨some d, op, ty, pos, af, some (j, b)⟩ (fun v' w' => ∃ i, v' = v i ∧ MemOk w0 (L' i) w')) (hd : Nat.blt d sz = true)
    (k : ∀ i, JQ w0 sz ((d, v i) :: F) (L' i) (wpList P ops Q rest)) : JQ w0 sz F L (wpList P ops Q (⟨some d, op, ty, pos, af, some (j, b)⟩ :: rest)) := by
  intro a w hs hdf hF hL
  unfold wpList
  rw [if_pos (by simp [Region.wanted, yielded_of hj hF hb])]
  refine .inl ((h a w (hF.on _) hL).wp ?_)
  rintro v' w' ⟨i, rfl, hL'⟩
  have hd' : d < a.tmps.size := by rw [hs]; simpa using hd
  exact k i _ w' (by rw [size_put]; exact hs) (by rw [defers_put]; exact hdf) (hF.put hd' _) hL'
/-- .. is not met. -/
theorem JQ.g0 {j dj : Nat} {b c : Bool} (hj : (ops[j]?).bind (·.dst) = some dj) (hb : lk F dj = some (.bool b)) (hbc : (b == c) = false) (hd : Nat.blt d sz = true)
    (k : JQ w0 sz ((d, undef) :: F) L (wpList P ops Q rest)) : JQ w0 sz F L (wpList P ops Q (⟨some d, op, ty, pos, af, some (j, c)⟩ :: rest)) := by
  intro a w hs hdf hF hL
  unfold wpList
  rw [if_neg (by simp only [Region.wanted, yielded_of hj hF hb]; cases b <;> cases c <;> first | (cases hbc; done) | decide)]
  have hd' : d < a.tmps.size := by rw [hs]; simpa using hd
  exact k _ w (by rw [size_put]; exact hs) (by rw [defers_put]; exact hdf) (hF.put hd' _) hL

theorem JQ.nil (h : JQ w0 sz F L (Q .normal)) : JQ w0 sz F L (wpList P ops Q []) := h
theorem JQ.region {id : Nat} {l : List Oper} (h : JQ w0 sz F L (wpList P l.toArray Q l)) : JQ w0 sz F L ((Code.region id l.toArray false).wp P Q) :=
  fun a w h1 h2 h3 h4 => wp_region_lit (h a w h1 h2 h3 h4)
theorem JQ.seq {x y : Code} (h : JQ w0 sz F L (x.wp P (Exit.then (y.wp P Q) Q))) : JQ w0 sz F L ((Code.seq x y).wp P Q) :=
  fun a w h1 h2 h3 h4 => wp_seq (h a w h1 h2 h3 h4)
theorem JQ.skip (h : JQ w0 sz F L (Q .normal)) : JQ w0 sz F L (Code.skip.wp P Q) := fun a w h1 h2 h3 h4 => wp_skip (h a w h1 h2 h3 h4)
theorem JQ.exit {id : Nat} (h : JQ w0 sz F L (Q (.exit id))) : JQ w0 sz F L ((Code.exit id).wp P Q) := fun a w h1 h2 h3 h4 => wp_exit (h a w h1 h2 h3 h4)
theorem JQ.ret (h : JQ w0 sz F L (Q .ret)) : JQ w0 sz F L (Code.ret.wp P Q) := fun a w h1 h2 h3 h4 => wp_ret (h a w h1 h2 h3 h4)
theorem JQ.block {id : Nat} {c : Code} (h : JQ w0 sz F L (c.wp P (Exit.inBlock id Q))) : JQ w0 sz F L ((Code.block id c).wp P Q) :=
  fun a w h1 h2 h3 h4 => wp_block (h a w h1 h2 h3 h4)
theorem JQ.cond {c : Operand} {x y : Code} {b : Bool} (hc : evk F c = some (.bool b)) (ht : b = true → JQ w0 sz F L (x.wp P Q)) (hf : b = false → JQ w0 sz F L (y.wp P Q)) : JQ w0 sz F L ((Code.cond c x y).wp P Q) :=
  fun a w h1 h2 h3 h4 => wp_cond_split (h3.eval hc) (fun e => ht e a w h1 h2 h3 h4) (fun e => hf e a w h1 h2 h3 h4)
theorem JQ.condT {c : Operand} {x y : Code} (hc : evk F c = some (.bool true)) (ht : JQ w0 sz F L (x.wp P Q)) : JQ w0 sz F L ((Code.cond c x y).wp P Q) :=
  fun a w h1 h2 h3 h4 => wp_cond_true (h3.eval hc) (ht a w h1 h2 h3 h4)
theorem JQ.condF {c : Operand} {x y : Code} (hc : evk F c = some (.bool false)) (hf : JQ w0 sz F L (y.wp P Q)) : JQ w0 sz F L ((Code.cond c x y).wp P Q) :=
  fun a w h1 h2 h3 h4 => wp_cond_false (h3.eval hc) (hf a w h1 h2 h3 h4)
theorem JQ.condP {c : Operand} {x y : Code} {p : Prop} {hp : Decidable p} (hc : evk F c = some (.bool (decide p))) (ht : p → JQ w0 sz F L (x.wp P Q)) (hf : ¬ p → JQ w0 sz F L (y.wp P Q)) : JQ w0 sz F L ((Code.cond c x y).wp P Q) :=
  JQ.cond hc (fun h => ht (of_decide_eq_true h)) (fun h => hf (of_decide_eq_false h))

-- where a way ends
variable {K : Act → World → Prop}
theorem JQ.n_then (h : JQ w0 sz F L K) : JQ w0 sz F L (Exit.then K Q .normal) := h
theorem JQ.n_block {id : Nat} (h : JQ w0 sz F L (Q .normal)) : JQ w0 sz F L (Exit.inBlock id Q .normal) := h
theorem JQ.e_then {id : Nat} (h : JQ w0 sz F L (Q (.exit id))) : JQ w0 sz F L (Exit.then K Q (.exit id)) := h
theorem JQ.e_here {id : Nat} (h : JQ w0 sz F L (Q .normal)) : JQ w0 sz F L (Exit.inBlock id Q (.exit id)) := by
  intro a w h1 h2 h3 h4
  simp only [Exit.inBlock, if_true]
  exact h a w h1 h2 h3 h4
theorem JQ.e_block {id id' : Nat} (hne : Nat.beq id id' = false) (h : JQ w0 sz F L (Q (.exit id))) : JQ w0 sz F L (Exit.inBlock id' Q (.exit id)) := by
  intro a w h1 h2 h3 h4
  simp only [Exit.inBlock]
  rw [if_neg (fun e => by subst e; rw [Nat.beq_refl] at hne; cases hne)]
  exact h a w h1 h2 h3 h4
theorem JQ.r_then (h : JQ w0 sz F L (Q .ret)) : JQ w0 sz F L (Exit.then K Q .ret) := h
theorem JQ.r_block {id : Nat} (h : JQ w0 sz F L (Q .ret)) : JQ w0 sz F L (Exit.inBlock id Q .ret) := h

/-- The function's end: one result in a slot. -/
theorem JQ.done1 {fn : Func} {R : Ending → World → Prop} {t : Tmp} {v : Value} (hr : fn.results = #[.tmp t]) (hv : lk F t = some v) (h : ∀ w, MemOk w0 L w → R (.returned v) w) :
    JQ w0 sz F L (bodyPost P fn R .ret) := by
  intro a w h1 h2 h3 h4
  refine ⟨h2, v, ?_, h w h4⟩
  rw [results_tmp hr]
  simp [h3 t v hv]
theorem JQ.done {fn : Func} {R : Ending → World → Prop} {v : Value} (hr : ∀ (a : Act) w, FrOk F a → MemOk w0 L w → (results fn a.tmps).run P w = .ok v w) (h : ∀ w, MemOk w0 L w → R (.returned v) w) :
    JQ w0 sz F L (bodyPost P fn R .ret) :=
  fun a w _ h2 h3 h4 => ⟨h2, v, hr a w h3 h4, h w h4⟩
theorem JQ.to_ret {fn : Func} {R : Ending → World → Prop} (h : JQ w0 sz F L (bodyPost P fn R .ret)) : JQ w0 sz F L (bodyPost P fn R .normal) := h

/-- What is told: fewer slots, fewer resources. -/
theorem JQ.weaken {F' : FL} {L' : ML} (hF : ∀ k v, lk F' k = some v → lk F k = some v) (hL : ∀ i r, lr L' i = some r → lr L i = some r) (h : JQ w0 sz F' L' K) : JQ w0 sz F L K :=
  fun a w h1 h2 h3 h4 => h a w h1 h2 (h3.sub hF) (h4.sub hL)

/-- A loop: its head's slots and memory, by an index; each round lowers the measure. -/
theorem JQ.loop {ι : Sort _} {c : Code} (Fi : ι → FL) (Li : ι → ML) (m : ι → Nat) (i0 : ι) (hF : ∀ k v, lk (Fi i0) k = some v → lk F k = some v) (hL : ∀ i r, lr (Li i0) i = some r → lr L i = some r)
    (round : ∀ i, JQ w0 sz (Fi i) (Li i) (c.wp P (Exit.then (fun a w => ∃ j, m j < m i ∧ a.tmps.size = sz ∧ a.defers = [] ∧ FrOk (Fi j) a ∧ MemOk w0 (Li j) w) Q))) :
    JQ w0 sz F L ((Code.loop c).wp P Q) := by
  intro a w h1 h2 h3 h4
  refine wp_loop_ghost (fun n a w => ∃ i, m i = n ∧ a.tmps.size = sz ∧ a.defers = [] ∧ FrOk (Fi i) a ∧ MemOk w0 (Li i) w) (m i0) ⟨i0, rfl, h1, h2, h3.sub hF, h4.sub hL⟩ ?_
  rintro n a w ⟨i, rfl, h1, h2, h3, h4⟩
  refine wp_mono (round i a w h1 h2 h3 h4) ?_
  intro e a' w' hq
  cases e with
  | normal => obtain ⟨j, hj, r⟩ := hq; exact ⟨m j, hj, j, rfl, r⟩
  | _ => exact hq
theorem JQ.next {ι : Sort _} {Fi : ι → FL} {Li : ι → ML} {m : ι → Nat} {i : ι} (j : ι) (hm : m j < m i) (hF : ∀ k v, lk (Fi j) k = some v → lk F k = some v) (hL : ∀ i r, lr (Li j) i = some r → lr L i = some r) :
    JQ w0 sz F L (fun a w => ∃ j, m j < m i ∧ a.tmps.size = sz ∧ a.defers = [] ∧ FrOk (Fi j) a ∧ MemOk w0 (Li j) w) :=
  fun _ _ h1 h2 h3 h4 => ⟨j, hm, h1, h2, h3.sub hF, h4.sub hL⟩
end

/-- How fewer slots are shown: one row an entry. -/
theorem subk_nil {F : FL} : ∀ k v, lk [] k = some v → lk F k = some v := fun _ _ h => by cases h
theorem subk_cons {F F' : FL} {d : Nat} {u : Value} (h : lk F d = some u) (r : ∀ k v, lk F' k = some v → lk F k = some v) : ∀ k v, lk ((d, u) :: F') k = some v → lk F k = some v := by
  intro k v hk
  rw [lk_cons] at hk
  split at hk
  · rename_i e; subst e; rw [h]; exact hk
  · exact r k v hk
theorem subr_nil {L : ML} : ∀ k v, lr [] k = some v → lr L k = some v := fun _ _ h => by cases h
theorem subr_cons {L L' : ML} {d : Nat} {u : Res} (h : lr L d = some u) (r : ∀ k v, lr L' k = some v → lr L k = some v) : ∀ k v, lr ((d, u) :: L') k = some v → lr L k = some v := by
  intro k v hk
  rw [lr_cons] at hk
  split at hk
  · rename_i e; subst e; rw [h]; exact hk
  · exact r k v hk

/-- A function's walk begins. -/
theorem enter {P : Program} {f : FuncId} {fn : Func} {c : Code} {args : Array Value} {w : World} {R : Ending → World → Prop} (hf : P.funcs[f]? = some fn) (hb : fn.body = some c)
    (F : FL) (L : ML) (sz : Nat) (hsz : Nat.max args.size fn.ntmps = sz) (hF : ∀ k v, lk F k = some v → (args ++ Array.replicate (fn.ntmps - args.size) undef)[k]? = some v) (hL : MemOk w L w)
    (h : JQ w sz F L (c.wp P (bodyPost P fn R))) : Calls P f args w R := by
  refine calls_of_wp hf hb (h _ w ?_ rfl hF hL)
  simp only [Array.size_append, Array.size_replicate]
  rw [← hsz]
  show _ = max _ _
  omega

end Go.Fw
namespace Go.Fw
def argF : List Value → Nat → FL
  | [], _ => []
  | v :: r, i => (i, v) :: argF r (i + 1)
theorem argF_lk : ∀ (l : List Value) (i k : Nat) (v : Value), lk (argF l i) k = some v → i ≤ k ∧ l[k - i]? = some v
  | [], _, _, _, h => by cases h
  | u :: r, i, k, v, h => by
    simp only [argF] at h
    rw [lk_cons] at h
    split at h
    · rename_i e; subst e; cases h; simp
    · have := argF_lk r (i + 1) k v h
      refine ⟨by omega, ?_⟩
      rw [show k - i = (k - (i + 1)) + 1 from by omega]
      simpa using this.2
/-- A function's walk begins: the parameters lie in the first slots. -/
theorem enterA {P : Program} {f : FuncId} {fn : Func} {c : Code} {vs : List Value} {w : World} {R : Ending → World → Prop} (hf : P.funcs[f]? = some fn) (hb : fn.body = some c)
    (sz : Nat) (hsz : Nat.max vs.length fn.ntmps = sz) (L : ML) (hL : MemOk w L w)
    (h : JQ w sz (argF vs 0) L (c.wp P (bodyPost P fn R))) : Calls P f vs.toArray w R := by
  refine enter hf hb (argF vs 0) L sz (by simpa using hsz) ?_ hL h
  intro k v hk
  have := (argF_lk vs 0 k v hk).2
  simp only [Nat.sub_zero] at this
  have hlt : k < vs.length := (List.getElem?_eq_some_iff.1 this).1
  rw [Array.getElem?_append_left (by simpa using hlt)]
  simpa using this
end Go.Fw
end
section
open Go.RowKit
namespace Go.Fw

section
variable {P : Program} {w0 : World} {F : FL} {L : ML} {dst : Option Tmp} {ty : TypeId} {pos : String} {af : Array Edge} {gd : Option (Nat × Bool)}

theorem FrOn.at {o : Oper} {a : Act} (h : FrOn o F a) {x : Operand} {v : Value} (hx : evk F x = some v) (hm : x ∈ o.op.operands) : a.eval x = v := h x hm v hx

theorem JV.of {o : Oper} {v : Value} (h : ∀ a w, FrOn o F a → MemOk w0 L w → (execOp a.eval o).run P w = .ok (.value v) w) : JV P w0 F L o v :=
  fun a w hF hL => Yields.of_run (h a w hF hL) ⟨rfl, hL⟩

theorem JV.move {x : Operand} {v : Value} (hx : evk F x = some v) : JV P w0 F L ⟨dst, .move x, ty, pos, af, gd⟩ v :=
  JV.of fun a w hF _ => by have := hF.at hx (by simp [Op.operands]); simp [execOp, this]
theorem JV.assign {x : Operand} {v : Value} (hx : evk F x = some v) : JV P w0 F L ⟨dst, .assign x, ty, pos, af, gd⟩ v :=
  JV.of fun a w hF _ => by have := hF.at hx (by simp [Op.operands]); simp [execOp, this]
theorem JV.pickT {c x y : Operand} {v : Value} (hc : evk F c = some (.bool true)) (hx : evk F x = some v) : JV P w0 F L ⟨dst, .pick c x y, ty, pos, af, gd⟩ v :=
  JV.of fun a w hF _ => by
    have h1 := hF.at hc (by simp [Op.operands]); have h2 := hF.at hx (by simp [Op.operands]); simp [execOp, h1, h2, asBool]
theorem JV.pickF {c x y : Operand} {v : Value} (hc : evk F c = some (.bool false)) (hy : evk F y = some v) : JV P w0 F L ⟨dst, .pick c x y, ty, pos, af, gd⟩ v :=
  JV.of fun a w hF _ => by
    have h1 := hF.at hc (by simp [Op.operands]); have h2 := hF.at hy (by simp [Op.operands]); simp [execOp, h1, h2, asBool]
theorem JV.nilFn {x : Operand} {f : FuncId} {c1 c2 : Array Value} (hx : evk F x = some (.func (.func f) c1 c2)) : JV P w0 F L ⟨dst, .nilCheck x, ty, pos, af, gd⟩ (.func (.func f) c1 c2) :=
  JV.of fun a w hF _ => by have := hF.at hx (by simp [Op.operands]); simp [execOp, this]
theorem JV.nilPtr {x : Operand} {p : Addr} (hx : evk F x = some (.pointer (some p))) : JV P w0 F L ⟨dst, .nilCheck x, ty, pos, af, gd⟩ (.pointer (some p)) :=
  JV.of fun a w hF _ => by have := hF.at hx (by simp [Op.operands]); simp [execOp, this]
theorem JV.extract {x : Operand} {vs : Array Value} {i : Nat} {v : Value} (hx : evk F x = some (.tuple vs)) (hv : vs[i]? = some v) : JV P w0 F L ⟨dst, .extract x i, ty, pos, af, gd⟩ v :=
  JV.of fun a w hF _ => by have := hF.at hx (by simp [Op.operands]); simp [execOp, this, Instr.extract, hv]

/-! ### whole numbers -/
theorem run_eqGuard_int (op : BinOp) (t : TypeId) (x y : Operand) (k k' : IntKind) (m n : Int) (w : World) : (eqGuard op t x y (.int k m) (.int k' n)).run P w = .ok () w := by
  unfold eqGuard; split <;> simp
theorem JV.bin {op : BinOp} {t u : TypeId} {x y : Operand} {k k' : IntKind} {m n : Int} {v : Value} (hx : evk F x = some (.int k m)) (hy : evk F y = some (.int k' n))
    (h : ∀ w, (binOp op t (.int k m) (.int k' n)).run P w = .ok v w) : JV P w0 F L ⟨dst, .binOp op t x y u, ty, pos, af, gd⟩ v :=
  JV.of fun a w hF _ => by
    have h1 := hF.at hx (by simp [Op.operands]); have h2 := hF.at hy (by simp [Op.operands]); simp [execOp, h1, h2, run_eqGuard_int, h]

variable {t u : TypeId} {x y : Operand} {m n : Int}

theorem JV.addW {k : IntKind} (hx : evk F x = some (.int k m)) (hy : evk F y = some (.int k n)) : JV P w0 F L ⟨dst, .binOp .add t x y u, ty, pos, af, gd⟩ (.int k (k.wrap (m + n))) :=
  JV.bin hx hy fun w => by cases k <;> simp [binOp, Op.intArith]
theorem JV.subW {k : IntKind} (hx : evk F x = some (.int k m)) (hy : evk F y = some (.int k n)) : JV P w0 F L ⟨dst, .binOp .sub t x y u, ty, pos, af, gd⟩ (.int k (k.wrap (m - n))) :=
  JV.bin hx hy fun w => by cases k <;> simp [binOp, Op.intArith]
theorem JV.mulW {k : IntKind} (hx : evk F x = some (.int k m)) (hy : evk F y = some (.int k n)) : JV P w0 F L ⟨dst, .binOp .mul t x y u, ty, pos, af, gd⟩ (.int k (k.wrap (m * n))) :=
  JV.bin hx hy fun w => by cases k <;> simp [binOp, Op.intArith]

theorem wrap_i64 {n : Int} (h : -9223372036854775808 ≤ n ∧ n ≤ 9223372036854775807) : IntKind.i64.wrap n = n := by
  unfold IntKind.wrap
  simp [IntKind.bits, IntKind.signed]
  omega
theorem wrap_u64 {n : Int} (h : 0 ≤ n ∧ n < 18446744073709551616) : IntKind.u64.wrap n = n := by
  unfold IntKind.wrap; simp [IntKind.bits, IntKind.signed]; omega
theorem wrap_u32 {n : Int} (h : 0 ≤ n ∧ n < 4294967296) : IntKind.u32.wrap n = n := by
  unfold IntKind.wrap; simp [IntKind.bits, IntKind.signed]; omega
theorem wrap_u8 {n : Int} (h : 0 ≤ n ∧ n < 256) : IntKind.u8.wrap n = n := by
  unfold IntKind.wrap; simp [IntKind.bits, IntKind.signed]; omega
theorem wrap_u32_mod (n : Int) : IntKind.u32.wrap n = n % 4294967296 := by
  unfold IntKind.wrap; simp [IntKind.bits, IntKind.signed]
theorem wrap_u8_mod (n : Int) : IntKind.u8.wrap n = n % 256 := by
  unfold IntKind.wrap; simp [IntKind.bits, IntKind.signed]
theorem wrap_u64_mod (n : Int) : IntKind.u64.wrap n = n % 18446744073709551616 := by
  unfold IntKind.wrap; simp [IntKind.bits, IntKind.signed]

/-- ints in range: no wrap -/
theorem JV.addI (hx : evk F x = some (.int .i64 m)) (hy : evk F y = some (.int .i64 n)) (h : -9223372036854775808 ≤ m + n ∧ m + n ≤ 9223372036854775807) :
    JV P w0 F L ⟨dst, .binOp .add t x y u, ty, pos, af, gd⟩ (.int .i64 (m + n)) := by have := JV.addW (P := P) (w0 := w0) (L := L) (dst := dst) (ty := ty) (pos := pos) (af := af) (gd := gd) (t := t) (u := u) hx hy; rwa [wrap_i64 h] at this
theorem JV.subI (hx : evk F x = some (.int .i64 m)) (hy : evk F y = some (.int .i64 n)) (h : -9223372036854775808 ≤ m - n ∧ m - n ≤ 9223372036854775807) :
    JV P w0 F L ⟨dst, .binOp .sub t x y u, ty, pos, af, gd⟩ (.int .i64 (m - n)) := by have := JV.subW (P := P) (w0 := w0) (L := L) (dst := dst) (ty := ty) (pos := pos) (af := af) (gd := gd) (t := t) (u := u) hx hy; rwa [wrap_i64 h] at this
theorem JV.mulI (hx : evk F x = some (.int .i64 m)) (hy : evk F y = some (.int .i64 n)) (h : -9223372036854775808 ≤ m * n ∧ m * n ≤ 9223372036854775807) :
    JV P w0 F L ⟨dst, .binOp .mul t x y u, ty, pos, af, gd⟩ (.int .i64 (m * n)) := by have := JV.mulW (P := P) (w0 := w0) (L := L) (dst := dst) (ty := ty) (pos := pos) (af := af) (gd := gd) (t := t) (u := u) hx hy; rwa [wrap_i64 h] at this

theorem JV.lss {k : IntKind} (hx : evk F x = some (.int k m)) (hy : evk F y = some (.int k n)) : JV P w0 F L ⟨dst, .binOp .lss t x y u, ty, pos, af, gd⟩ (.bool (decide (m < n))) :=
  JV.bin hx hy fun w => by simp [binOp, Op.intCmp]
theorem JV.leq {k : IntKind} (hx : evk F x = some (.int k m)) (hy : evk F y = some (.int k n)) : JV P w0 F L ⟨dst, .binOp .leq t x y u, ty, pos, af, gd⟩ (.bool (decide (m ≤ n))) :=
  JV.bin hx hy fun w => by simp [binOp, Op.intCmp]
theorem JV.gtr {k : IntKind} (hx : evk F x = some (.int k m)) (hy : evk F y = some (.int k n)) : JV P w0 F L ⟨dst, .binOp .gtr t x y u, ty, pos, af, gd⟩ (.bool (decide (n < m))) :=
  JV.bin hx hy fun w => by simp [binOp, Op.intCmp]
theorem JV.geq {k : IntKind} (hx : evk F x = some (.int k m)) (hy : evk F y = some (.int k n)) : JV P w0 F L ⟨dst, .binOp .geq t x y u, ty, pos, af, gd⟩ (.bool (decide (n ≤ m))) :=
  JV.bin hx hy fun w => by simp [binOp, Op.intCmp]
theorem JV.eqlI {k : IntKind} (hx : evk F x = some (.int k m)) (hy : evk F y = some (.int k n)) : JV P w0 F L ⟨dst, .binOp .eql t x y u, ty, pos, af, gd⟩ (.bool (decide (m = n))) :=
  JV.bin hx hy fun w => by simp [binOp, Op.intCmp]; rw [Bool.eq_iff_iff]; simp
theorem JV.neqI {k : IntKind} (hx : evk F x = some (.int k m)) (hy : evk F y = some (.int k n)) : JV P w0 F L ⟨dst, .binOp .neq t x y u, ty, pos, af, gd⟩ (.bool (decide (m ≠ n))) :=
  JV.bin hx hy fun w => by simp [binOp, Op.intCmp, bne]; rw [Bool.eq_iff_iff]; simp
theorem JV.remI {k : IntKind} (hx : evk F x = some (.int k m)) (hy : evk F y = some (.int k n)) (hm : 0 ≤ m) (hn : 0 < n) : JV P w0 F L ⟨dst, .binOp .rem t x y u, ty, pos, af, gd⟩ (.int k (m % n)) :=
  JV.bin hx hy fun w => by
    have h0 : n ≠ 0 := by omega
    simp [binOp, Op.intDiv, h0, Int.tmod_eq_emod_of_nonneg hm]
theorem JV.quoI (hx : evk F x = some (.int .i64 m)) (hy : evk F y = some (.int .i64 n)) (hm : 0 ≤ m ∧ m ≤ 9223372036854775807) (hn : 0 < n) : JV P w0 F L ⟨dst, .binOp .quo t x y u, ty, pos, af, gd⟩ (.int .i64 (m / n)) :=
  JV.bin hx hy fun w => by
    have h0 : n ≠ 0 := by omega
    have h1 : 0 ≤ m / n := Int.ediv_nonneg hm.1 (by omega)
    have h2 : m / n ≤ m := Int.ediv_le_self _ hm.1
    simp [binOp, Op.intDiv, h0, Int.tdiv_eq_ediv_of_nonneg hm.1, wrap_i64 (n := m / n) ⟨by omega, by omega⟩]
theorem JV.quoU8 (hx : evk F x = some (.int .u8 m)) (hy : evk F y = some (.int .u8 n)) (hm : 0 ≤ m ∧ m < 256) (hn : 0 < n) : JV P w0 F L ⟨dst, .binOp .quo t x y u, ty, pos, af, gd⟩ (.int .u8 (m / n)) :=
  JV.bin hx hy fun w => by
    have h0 : n ≠ 0 := by omega
    have h1 : 0 ≤ m / n := Int.ediv_nonneg hm.1 (by omega)
    have h2 : m / n ≤ m := Int.ediv_le_self _ hm.1
    simp [binOp, Op.intDiv, h0, Int.tdiv_eq_ediv_of_nonneg hm.1, wrap_u8 (n := m / n) ⟨by omega, by omega⟩]

/-! ### bits: natural numbers below 2^bits -/
def natBits (op : BinOp) (a b : Nat) : Nat :=
  match op with
  | .and => a &&& b
  | .or => a ||| b
  | .xor => a ^^^ b
  | _ => 0
theorem ofInt_nat (k a : Nat) : BitVec.ofInt k (a : Int) = BitVec.ofNat k a := by simp
theorem wrap_nat (k : IntKind) (hk : k.signed = false) (a : Nat) (h : a < 2 ^ k.bits) : k.wrap (a : Int) = a := by
  cases k <;> simp [IntKind.signed] at hk <;> simp [IntKind.bits] at h
  · exact wrap_u8 (by omega)
  · unfold IntKind.wrap; simp [IntKind.bits, IntKind.signed]; omega
  · exact wrap_u32 (by omega)
  · exact wrap_u64 (by omega)
theorem JV.bits {op : BinOp} {k : IntKind} {a b : Nat} (hop : op = .and ∨ op = .or ∨ op = .xor) (hk : k.signed = false) (hx : evk F x = some (.int k (a : Int))) (hy : evk F y = some (.int k (b : Int)))
    (ha : a < 2 ^ k.bits) (hb : b < 2 ^ k.bits) : JV P w0 F L ⟨dst, .binOp op t x y u, ty, pos, af, gd⟩ (.int k ((natBits op a b : Nat) : Int)) :=
  JV.bin hx hy fun w => by
    have e1 : BitVec.ofInt k.bits (a : Int) = BitVec.ofNat k.bits a := by simp
    have e2 : BitVec.ofInt k.bits (b : Int) = BitVec.ofNat k.bits b := by simp
    rcases hop with rfl | rfl | rfl
    · have h1 : a &&& b < 2 ^ k.bits := Nat.and_lt_two_pow _ hb
      have e3 : (BitVec.ofNat k.bits a &&& BitVec.ofNat k.bits b).toNat = a &&& b := by simp [Nat.mod_eq_of_lt ha, Nat.mod_eq_of_lt hb]
      simp only [binOp, Op.intBits, e1, e2, e3, natBits, wrap_nat k hk _ h1]; simp
    · have h1 : a ||| b < 2 ^ k.bits := Nat.or_lt_two_pow ha hb
      have e3 : (BitVec.ofNat k.bits a ||| BitVec.ofNat k.bits b).toNat = a ||| b := by simp [Nat.mod_eq_of_lt ha, Nat.mod_eq_of_lt hb]
      simp only [binOp, Op.intBits, e1, e2, e3, natBits, wrap_nat k hk _ h1]; simp
    · have h1 : a ^^^ b < 2 ^ k.bits := Nat.xor_lt_two_pow ha hb
      have e3 : (BitVec.ofNat k.bits a ^^^ BitVec.ofNat k.bits b).toNat = a ^^^ b := by simp [Nat.mod_eq_of_lt ha, Nat.mod_eq_of_lt hb]
      simp only [binOp, Op.intBits, e1, e2, e3, natBits, wrap_nat k hk _ h1]; simp

/-- Shifts by a count that is not negative. -/
theorem JV.shl {k k' : IntKind} {a b : Nat} (hk : k.signed = false) (hx : evk F x = some (.int k (a : Int))) (hy : evk F y = some (.int k' (b : Int))) (hb : b ≤ k.bits) :
    JV P w0 F L ⟨dst, .binOp .shl t x y u, ty, pos, af, gd⟩ (.int k ((a * 2 ^ b % 2 ^ k.bits : Nat) : Int)) :=
  JV.bin hx hy fun w => by
    have h0 : ¬ ((b : Int) < 0) := by omega
    have h1 : min (b : Int).toNat k.bits = b := by simp; omega
    have h2 : k.wrap ((a : Int) * 2 ^ b) = ((a * 2 ^ b % 2 ^ k.bits : Nat) : Int) := by
      have h3 : (a : Int) * 2 ^ b = ((a * 2 ^ b : Nat) : Int) := by simp
      rw [h3]
      generalize a * 2 ^ b = z
      cases k <;> simp [IntKind.signed] at hk <;> simp [IntKind.wrap, IntKind.bits, IntKind.signed]
    simp only [binOp, Op.shift, if_neg h0, h1, h2]; simp
theorem JV.shr {k k' : IntKind} {a b : Nat} (hx : evk F x = some (.int k (a : Int))) (hy : evk F y = some (.int k' (b : Int))) (hb : b ≤ k.bits) :
    JV P w0 F L ⟨dst, .binOp .shr t x y u, ty, pos, af, gd⟩ (.int k ((a / 2 ^ b : Nat) : Int)) :=
  JV.bin hx hy fun w => by
    have h0 : ¬ ((b : Int) < 0) := by omega
    have h1 : min (b : Int).toNat k.bits = b := by simp; omega
    have h2 : (a : Int).fdiv (2 ^ b) = ((a / 2 ^ b : Nat) : Int) := by
      rw [Int.fdiv_eq_ediv_of_nonneg _ (by exact Int.le_of_lt (Int.pow_pos (by decide)))]; simp
    simp only [binOp, Op.shift, if_neg h0, h1, h2]; simp

/-- + and - of unsigned numbers, as natural numbers -/
theorem JV.addU {k : IntKind} {a b : Nat} (hk : k.signed = false) (hx : evk F x = some (.int k (a : Int))) (hy : evk F y = some (.int k (b : Int))) :
    JV P w0 F L ⟨dst, .binOp .add t x y u, ty, pos, af, gd⟩ (.int k (((a + b) % 2 ^ k.bits : Nat) : Int)) := by
  have h := JV.addW (P := P) (w0 := w0) (L := L) (dst := dst) (ty := ty) (pos := pos) (af := af) (gd := gd) (t := t) (u := u) hx hy
  have e : k.wrap ((a : Int) + b) = (((a + b) % 2 ^ k.bits : Nat) : Int) := by
    cases k <;> simp [IntKind.signed] at hk <;> simp [IntKind.wrap, IntKind.bits, IntKind.signed]
  rwa [e] at h
theorem JV.mulU {k : IntKind} {a b : Nat} (hk : k.signed = false) (hx : evk F x = some (.int k (a : Int))) (hy : evk F y = some (.int k (b : Int))) :
    JV P w0 F L ⟨dst, .binOp .mul t x y u, ty, pos, af, gd⟩ (.int k (((a * b) % 2 ^ k.bits : Nat) : Int)) := by
  have h := JV.mulW (P := P) (w0 := w0) (L := L) (dst := dst) (ty := ty) (pos := pos) (af := af) (gd := gd) (t := t) (u := u) hx hy
  have e : k.wrap ((a : Int) * b) = (((a * b) % 2 ^ k.bits : Nat) : Int) := by
    cases k <;> simp [IntKind.signed] at hk <;> simp [IntKind.wrap, IntKind.bits, IntKind.signed]
  rwa [e] at h

/-! ### unary, conversions -/
theorem JV.negW {k : IntKind} (hx : evk F x = some (.int k n)) : JV P w0 F L ⟨dst, .unOp .neg t x, ty, pos, af, gd⟩ (.int k (k.wrap (0 - n))) :=
  JV.of fun a w hF _ => by have := hF.at hx (by simp [Op.operands]); simp [execOp, this, Op.unary, Op.intArith]
theorem JV.negI (hx : evk F x = some (.int .i64 n)) (h : -9223372036854775808 ≤ - n ∧ - n ≤ 9223372036854775807) : JV P w0 F L ⟨dst, .unOp .neg t x, ty, pos, af, gd⟩ (.int .i64 (- n)) := by
  have h' := JV.negW (P := P) (w0 := w0) (L := L) (dst := dst) (ty := ty) (pos := pos) (af := af) (gd := gd) (t := t) hx
  have e : (0 : Int) - n = - n := by omega
  rwa [e, wrap_i64 h] at h'
theorem JV.notB {b : Bool} (hx : evk F x = some (.bool b)) : JV P w0 F L ⟨dst, .unOp .not t x, ty, pos, af, gd⟩ (.bool (!b)) :=
  JV.of fun a w hF _ => by have := hF.at hx (by simp [Op.operands]); simp [execOp, this, Op.unary]
/-- ^x of an unsigned number -/
theorem JV.notU {k : IntKind} {a : Nat} (hk : k.signed = false) (hx : evk F x = some (.int k (a : Int))) (ha : a < 2 ^ k.bits) :
    JV P w0 F L ⟨dst, .unOp .xor t x, ty, pos, af, gd⟩ (.int k (((2 ^ k.bits - 1) ^^^ a : Nat) : Int)) :=
  JV.of fun A w hF _ => by
    have h0 := hF.at hx (by simp [Op.operands])
    have hm : k.max = ((2 ^ k.bits - 1 : Nat) : Int) := by cases k <;> simp [IntKind.signed] at hk <;> rfl
    have hp : 2 ^ k.bits - 1 < 2 ^ k.bits := by have := Nat.two_pow_pos k.bits; omega
    have h1 : (2 ^ k.bits - 1) ^^^ a < 2 ^ k.bits := Nat.xor_lt_two_pow hp ha
    have e1 : BitVec.ofInt k.bits ((2 ^ k.bits - 1 : Nat) : Int) = BitVec.ofNat k.bits (2 ^ k.bits - 1) := BitVec.ofInt_natCast ..
    have e2 : BitVec.ofInt k.bits (a : Int) = BitVec.ofNat k.bits a := BitVec.ofInt_natCast ..
    have e3 : (BitVec.ofNat k.bits (2 ^ k.bits - 1) ^^^ BitVec.ofNat k.bits a).toNat = (2 ^ k.bits - 1) ^^^ a := by
      rw [BitVec.toNat_xor, BitVec.toNat_ofNat, BitVec.toNat_ofNat, Nat.mod_eq_of_lt hp, Nat.mod_eq_of_lt ha]
    simp only [execOp, h0, Op.unary, hk, Bool.false_eq_true, if_false, hm, Op.intBits, e1, e2, e3, wrap_nat k hk _ h1]; simp
theorem JV.convW {s d : TypeId} {k k' : IntKind} {D : TypeDesc} (hs : ∀ w, (underlying s).run P w = .ok D w) (hd : ∀ w, (underlying d).run P w = .ok (.int k) w) (hx : evk F x = some (.int k' n)) :
    JV P w0 F L ⟨dst, .convert s d x, ty, pos, af, gd⟩ (.int k (k.wrap n)) :=
  JV.of fun a w hF _ => by have := hF.at hx (by simp [Op.operands]); simp [execOp, this, convert, hs, hd, Conv.intToInt]
theorem JV.convU {s d : TypeId} {k k' : IntKind} {D : TypeDesc} {c : Nat} (hs : ∀ w, (underlying s).run P w = .ok D w) (hd : ∀ w, (underlying d).run P w = .ok (.int k) w) (hk : k.signed = false) (hx : evk F x = some (.int k' (c : Int))) :
    JV P w0 F L ⟨dst, .convert s d x, ty, pos, af, gd⟩ (.int k ((c % 2 ^ k.bits : Nat) : Int)) := by
  have h := JV.convW (P := P) (w0 := w0) (L := L) (dst := dst) (ty := ty) (pos := pos) (af := af) (gd := gd) hs hd hx
  have e : k.wrap (c : Int) = ((c % 2 ^ k.bits : Nat) : Int) := by
    cases k <;> simp [IntKind.signed] at hk <;> simp [IntKind.wrap, IntKind.bits, IntKind.signed]
  rwa [e] at h

/-! ### calls -/
/-- A Go function that hands back one value, whatever the memory, and makes memory of its own alone. -/
def Pure (P : Program) (f : FuncId) (args : Array Value) (v : Value) : Prop := ∀ w, Calls P f args w fun e w' => e = .returned v ∧ Below w.heap.size w w'

abbrev HasBody (P : Program) (f : FuncId) : Prop := ∀ (args : Array Value) (w : World), (callFunc f args).run P w = .ok (.enter f args) w

def evs (F : FL) (xs : List Operand) (vs : List Value) : Prop := xs.map (evk F) = vs.map some

theorem evs_nil : evs F [] [] := rfl
theorem evs_cons {x : Operand} {v : Value} {xs : List Operand} {vs : List Value} (h : evk F x = some v) (r : evs F xs vs) : evs F (x :: xs) (v :: vs) := by unfold evs at *; simp [h, r]
theorem evs_eval {o : Oper} {a : Act} (hF : FrOn o F a) : ∀ {xs : List Operand} {vs : List Value}, evs F xs vs → (∀ x ∈ xs, x ∈ o.op.operands) → xs.map a.eval = vs
  | [], vs, h, _ => by cases vs <;> simp_all [evs]
  | x :: xs, [], h, _ => by simp [evs] at h
  | x :: xs, v :: vs, h, hm => by
    simp only [evs, List.map_cons, List.cons.injEq] at h
    simp only [List.map_cons]
    rw [hF x (hm x (by simp)) v h.1, evs_eval hF h.2 fun z hz => hm z (by simp [hz])]

theorem JO.call {f : FuncId} {xs : List Operand} {ats : Array TypeId} {vs : List Value} {R : Value → World → Prop} (hb : HasBody P f) (hxs : evs F xs vs)
    (h : ∀ w, MemOk w0 L w → Calls P f vs.toArray w (fun e w' => ∃ v, e = .returned v ∧ R v w')) : JO P w0 F L ⟨dst, .call ⟨.value (.func f), xs.toArray, ats⟩, ty, pos, af, gd⟩ R := by
  intro a w hF hL
  have he : xs.map a.eval = vs := evs_eval hF hxs (fun z hz => by simp [Op.operands, Call.operands, hz])
  refine Yields.of_enter (f := f) (args := vs.toArray) (w' := w) ?_ (h w hL)
  have e1 : (xs.toArray.map a.eval) = vs.toArray := by rw [← he]; simp
  simp only [execOp, resolve, e1, Sem.run_bind]
  have e2 : a.eval (.func f) = .func (.func f) #[] #[] := rfl
  rw [e2]
  simp [Deferred.ofValue, invoke, hb _ _]

theorem JV.call {f : FuncId} {xs : List Operand} {ats : Array TypeId} {vs : List Value} {v : Value} (hb : HasBody P f) (hxs : evs F xs vs) (h : Pure P f vs.toArray v) :
    JV P w0 F L ⟨dst, .call ⟨.value (.func f), xs.toArray, ats⟩, ty, pos, af, gd⟩ v :=
  JO.call hb hxs fun w hL => (h w).mono fun _ _ ⟨he, hw⟩ => ⟨v, he, rfl, hL.grow hw⟩
/-- .. where the value hangs on what the memory holds. -/
theorem JV.callM {f : FuncId} {xs : List Operand} {ats : Array TypeId} {vs : List Value} {v : Value} (hb : HasBody P f) (hxs : evs F xs vs)
    (h : ∀ w, MemOk w0 L w → Calls P f vs.toArray w fun e w' => e = .returned v ∧ Below w.heap.size w w') :
    JV P w0 F L ⟨dst, .call ⟨.value (.func f), xs.toArray, ats⟩, ty, pos, af, gd⟩ v :=
  JO.call hb hxs fun w hL => (h w hL).mono fun _ _ ⟨he, hw⟩ => ⟨v, he, rfl, hL.grow hw⟩
end
end Go.Fw
end
section
open Go.RowKit
set_option linter.unusedVariables false
set_option linter.unusedSimpArgs false
set_option linter.unusedSectionVars false
namespace Go.Fw

/-- a string of bytes; a byte -/
def str (l : List UInt8) : Value := .string ⟨l.toArray⟩
def b8 (b : UInt8) : Value := .int .u8 (b.toNat : Int)
def u32 (n : Nat) : Value := .int .u32 (n : Int)

/-- The address of cell k behind a slice's begin. -/
def ptrOf (v : Value) (k : Nat) : Value := match v with | .slice (some ad) _ _ => .pointer (some (ad.add k)) | _ => .pointer none

theorem cell_of_blk {w : World} {b : Nat} {cs : List Value} {e : TypeId} {fz : Nat × Nat} (h : w.heap[b]? = some (.cells cs.toArray e fz)) (k : Nat) : w.cell? ⟨b, k, none⟩ = cs[k]? := by
  simp [World.cell?, h]
theorem add_plain (g o j : Nat) : (⟨g, o, none⟩ : Addr).add j = ⟨g, o + j, none⟩ := by unfold Addr.add; split <;> simp_all

section
variable {P : Program} {w0 : World} {F : FL} {L : ML} {dst : Option Tmp} {ty : TypeId} {pos : String} {af : Array Edge} {gd : Option (Nat × Bool)}
variable {T : TypeId} {x y : Operand} {b off : Nat} {cs : List Value} {e : TypeId} {fz : Nat × Nat} {u v : Value} {id : Nat}

theorem MemOk.blk {w : World} (h : MemOk w0 L w) (hr : lr L id = some (.cells b cs e fz)) : w.heap[b]? = some (.cells cs.toArray e fz) := (h.ok id _ hr).2
theorem MemOk.ge {w : World} (h : MemOk w0 L w) (hr : lr L id = some (.cells b cs e fz)) : w0.heap.size ≤ b := (h.ok id _ hr).1

/-! ### new variables -/
theorem heap_push (w : World) (o : Obj) : ({ w with heap := w.heap.push o } : World).heap[w.heap.size]? = some o := by simp
theorem grown_push (w : World) (o : Obj) : w.grownBy { w with heap := w.heap.push o } none :=
  ⟨rfl, rfl, rfl, by simp, fun k hk _ => by simp only [Array.getElem?_push]; rw [if_neg (by omega)]⟩
theorem MemOk.new {w : World} (h : MemOk w0 L w) (id : Nat) (cs : List Value) (e : TypeId) : MemOk w0 ((id, .cells w.heap.size cs e (0, 0)) :: L) { w with heap := w.heap.push (.cells cs.toArray e) } :=
  h.put (grown_push w _) (.inl rfl) ⟨h.below.size, heap_push w _⟩ (.inr (.inr ⟨_, rfl, Nat.le_refl _⟩))
theorem MemOk.drew {w : World} (h : MemOk w0 L w) : MemOk w0 L { w with drawn := w.drawn + 1 } :=
  ⟨⟨h.below.os, h.below.tape, h.below.output, h.below.size, h.below.block⟩, fun i r hr => Res.keep (h.ok i r hr) fun _ _ => rfl, h.apart⟩

theorem JO.alloc (id : Nat) {zs : List Value} {z : Value} (hz : ∀ w, (zeroValue T).run P w = .ok z w) (hzs : z.cells = zs.toArray) :
    JO P w0 F L ⟨dst, .alloc T, ty, pos, af, gd⟩ (fun v' w' => ∃ b : Nat, v' = .pointer (some ⟨b, 0, none⟩) ∧ MemOk w0 ((id, .cells b zs T (0, 0)) :: L) w') := by
  intro a w hF hL
  refine Yields.of_run (v := .pointer (some ⟨w.heap.size, 0, none⟩)) (w' := { w with heap := w.heap.push (.cells zs.toArray T) }) ?_ ⟨_, rfl, hL.new id zs T⟩
  simp [execOp, Instr.alloc, hz, newVar, newRow, hzs]
theorem JO.box (id : Nat) {zs : List Value} {z : Value} (hx : evk F x = some z) (hzs : z.cells = zs.toArray) :
    JO P w0 F L ⟨dst, .box T x, ty, pos, af, gd⟩ (fun v' w' => ∃ b : Nat, v' = .pointer (some ⟨b, 0, none⟩) ∧ MemOk w0 ((id, .cells b zs T (0, 0)) :: L) w') := by
  intro a w hF hL
  have h1 := hF.at hx (by simp [Op.operands])
  refine Yields.of_run (v := .pointer (some ⟨w.heap.size, 0, none⟩)) (w' := { w with heap := w.heap.push (.cells zs.toArray T) }) ?_ ⟨_, rfl, hL.new id zs T⟩
  simp [execOp, Instr.box, h1, newVar, newRow, hzs]

/-! ### loads -/
theorem JV.load1 (id : Nat) (hx : evk F x = some (.pointer (some ⟨b, off, none⟩))) (hr : lr L id = some (.cells b cs e fz)) (hag : ∀ w, (isAgg T).run P w = .ok false w) (hu : cs[off]? = some u) :
    JV P w0 F L ⟨dst, .load T x, ty, pos, af, gd⟩ u := by
  refine JV.of fun a w hF hL => ?_
  have h1 := hF.at hx (by simp [Op.operands])
  have hc : w.cell? ⟨b, off, none⟩ = some u := by rw [cell_of_blk (hL.blk hr)]; exact hu
  simp [execOp, Instr.loadAt, h1, Instr.sureAddr, loadVar, hag, hc]
theorem JV.loadA (id : Nat) {n : Nat} {us : List Value} (hx : evk F x = some (.pointer (some ⟨b, off, none⟩))) (hr : lr L id = some (.cells b cs e fz)) (hag : ∀ w, (isAgg T).run P w = .ok true w) (hsz : ∀ w, (sizeOf T).run P w = .ok n w)
    (hu : (cs.drop off).take n = us) (hn : us.length = n) :
    JV P w0 F L ⟨dst, .load T x, ty, pos, af, gd⟩ (.agg us.toArray) := by
  refine JV.of fun a w hF hL => ?_
  have h1 := hF.at hx (by simp [Op.operands])
  have hl := run_loadCells_list (P := P) w ⟨b, off, none⟩ us (fun j v hj => by
    rw [add_plain, cell_of_blk (hL.blk hr), ← hj, ← hu]
    have hlt : j < n := by rw [← hn]; exact (List.getElem?_eq_some_iff.1 hj).1
    rw [List.getElem?_take_of_lt hlt, List.getElem?_drop])
  rw [hn] at hl
  simp [execOp, Instr.loadAt, h1, Instr.sureAddr, loadVar, hag, hsz, hl]
/-- A whole variable. -/
theorem JV.loadV (id : Nat) {n : Nat} (hx : evk F x = some (.pointer (some ⟨b, 0, none⟩))) (hr : lr L id = some (.cells b cs e fz)) (hag : ∀ w, (isAgg T).run P w = .ok true w) (hsz : ∀ w, (sizeOf T).run P w = .ok n w)
    (hn : cs.length = n) : JV P w0 F L ⟨dst, .load T x, ty, pos, af, gd⟩ (.agg cs.toArray) :=
  JV.loadA id hx hr hag hsz (by rw [List.drop_zero]; exact List.take_of_length_le (by omega)) hn

theorem Reads.cell {w : World} {v : Value} {sz n : Nat} {xs : List Value} (h : Reads w v sz n xs) {j : Nat} {u : Value} (hj : xs[j]? = some u) : ∃ ad l c, v = .slice (some ad) l c ∧ ad.spot = none ∧ w.cell? (ad.add j) = some u := by
  obtain ⟨_, a, c, rfl, _, h3⟩ := h
  rcases h3 with rfl | ⟨ad, rfl, hs, hc⟩
  · cases hj
  · exact ⟨ad, n, c, rfl, hs, hc j u hj⟩
theorem MemOk.reads {w : World} (h : MemOk w0 L w) {sz n : Nat} {xs : List Value} (hr : lr L id = some (.ro v sz n xs)) : Reads w v sz n xs := h.ok id _ hr

theorem addr_add_add (ad : Addr) (hs : ad.spot = none) (i j : Nat) : (ad.add i).add j = ad.add (i + j) := by
  obtain ⟨bb, o, s⟩ := ad
  cases hs
  rw [add_plain, add_plain, add_plain, Nat.add_assoc]

/-- A cell of what is read only. -/
theorem JV.loadR (id : Nat) {sz n k : Nat} {xs : List Value} (hx : evk F x = some (ptrOf v k)) (hr : lr L id = some (.ro v sz n xs)) (hag : ∀ w, (isAgg T).run P w = .ok false w) (hu : xs[k]? = some u) :
    JV P w0 F L ⟨dst, .load T x, ty, pos, af, gd⟩ u := by
  refine JV.of fun a w hF hL => ?_
  have h1 := hF.at hx (by simp [Op.operands])
  obtain ⟨ad, l, c, rfl, _, hc⟩ := (hL.reads hr).cell hu
  simp only [ptrOf] at h1
  simp [execOp, Instr.loadAt, h1, Instr.sureAddr, loadVar, hag, hc]
theorem JV.loadRA (id : Nat) {sz n k m : Nat} {xs us : List Value} (hx : evk F x = some (ptrOf v k)) (hr : lr L id = some (.ro v sz n xs)) (hag : ∀ w, (isAgg T).run P w = .ok true w) (hsz : ∀ w, (sizeOf T).run P w = .ok m w)
    (hu : (xs.drop k).take m = us) (hn : us.length = m) (h0 : 0 < m) : JV P w0 F L ⟨dst, .load T x, ty, pos, af, gd⟩ (.agg us.toArray) := by
  refine JV.of fun a w hF hL => ?_
  have h1 := hF.at hx (by simp [Op.operands])
  have hlen : k + m ≤ xs.length := by
    have : us.length = min m (xs.length - k) := by rw [← hu]; simp
    omega
  obtain ⟨ad, l, c, rfl, hs, _⟩ := (hL.reads hr).cell (j := k) (u := xs[k]'(by omega)) (by simp)
  simp only [ptrOf] at h1
  have hl := run_loadCells_list (P := P) w (ad.add k) us (fun j v hj => by
    have hlt : j < m := by rw [← hn]; exact (List.getElem?_eq_some_iff.1 hj).1
    have hj' : xs[k + j]? = some v := by rw [← hj, ← hu, List.getElem?_take_of_lt hlt, List.getElem?_drop]
    obtain ⟨ad', l', c', e', _, hc⟩ := (hL.reads hr).cell hj'
    cases e'
    rw [addr_add_add _ hs]; exact hc)
  rw [hn] at hl
  simp [execOp, Instr.loadAt, h1, Instr.sureAddr, loadVar, hag, hsz, hl]

/-! ### stores -/
theorem setCell_cells {w : World} (hb : w.heap[b]? = some (.cells cs.toArray e fz)) (k : Nat) (u : Value) : (w.setCell ⟨b, k, none⟩ u).heap[b]? = some (.cells (cs.set k u).toArray e fz) := by
  simp [World.setCell, Array.getElem?_modify, hb]
theorem grown_setCell (w : World) (b k : Nat) (u : Value) : w.grownBy (w.setCell ⟨b, k, none⟩ u) (some b) :=
  ⟨rfl, rfl, rfl, by simp, fun j _ hj => Below.heap_setCell _ _ _ _ (fun e => hj (by simp [e]))⟩
theorem grown_setRow (w : World) (g : Nat) (c : Array Value) : w.grownBy (w.setRow g c) (some g) :=
  ⟨rfl, rfl, rfl, by simp, fun k _ hk => setRow_other w g k c (fun e => hk (by simp [e]))⟩

theorem JO.store1 (id : Nat) (hx : evk F x = some (.pointer (some ⟨b, off, none⟩))) (hr : lr L id = some (.cells b cs e (0, 0))) (hy : evk F y = some u) (h1 : u.oneCell' = true) (hsz : ∀ w, (sizeOf T).run P w = .ok 1 w) (hlt : off < cs.length) :
    JO P w0 F L ⟨dst, .store T x y, ty, pos, af, gd⟩ (fun z w' => z = undef ∧ MemOk w0 ((id, .cells b (cs.set off u) e (0, 0)) :: L) w') := by
  intro a w hF hL
  have e1 := hF.at hx (by simp [Op.operands])
  have e2 := hF.at hy (by simp [Op.operands])
  have hb := hL.blk hr
  refine Yields.of_skip (w' := w.setCell ⟨b, off, none⟩ u) ?_ ?_
  · have hc : w.cell? ⟨b, off, none⟩ = some (cs[off]'hlt) := by rw [cell_of_blk hb]; simp
    have hfz : w.frozen? ⟨b, off, none⟩ = false := by simp [World.frozen?, hb]
    have hcl : u.cells = #[u] := by cases u <;> first | rfl | (cases h1; done)
    simp [execOp, Instr.storeAt, e1, e2, Instr.sureAddr, storeVar, hsz, hcl, storeCells, Addr.add, run_store _ _ _ _ _ h1, hc, hfz]
  · exact ⟨rfl, hL.put (grown_setCell w b off u) (.inr ⟨_, hr, rfl, rfl⟩) ⟨hL.ge hr, setCell_cells hb off u⟩ (.inr (.inl ⟨rfl, by simp⟩))⟩
/-- Several cells at once: an array, a struct. -/
theorem JO.storeA (id : Nat) {n : Nat} {us : List Value} (hx : evk F x = some (.pointer (some ⟨b, off, none⟩))) (hr : lr L id = some (.cells b cs e (0, 0))) (hy : evk F y = some (.agg us.toArray)) (h1 : us.all Value.oneCell' = true)
    (hsz : ∀ w, (sizeOf T).run P w = .ok n w) (hn : us.length = n) (hlt : off + n ≤ cs.length) :
    JO P w0 F L ⟨dst, .store T x y, ty, pos, af, gd⟩ (fun z w' => z = undef ∧ MemOk w0 ((id, .cells b (cs.take off ++ us ++ cs.drop (off + n)) e (0, 0)) :: L) w') := by
  intro a w hF hL
  have e1 := hF.at hx (by simp [Op.operands])
  have e2 := hF.at hy (by simp [Op.operands])
  have hb := hL.blk hr
  refine Yields.of_skip (w' := w.setRow b (cs.take off ++ us ++ cs.drop (off + n)).toArray) ?_ ?_
  · have hst := run_storeCells_at P b off e us 0 cs.toArray w hb (by simp; omega) (by simpa using h1)
    simp only [Nat.add_zero] at hst
    simp only [hn] at hst
    generalize (cs.take off ++ us ++ cs.drop (off + n)).toArray = R at hst ⊢
    simp [execOp, Instr.storeAt, e1, e2, Instr.sureAddr, storeVar, hsz, Value.cells, hn, hst]
  · exact ⟨rfl, hL.put (grown_setRow w b _) (.inr ⟨_, hr, rfl, rfl⟩) ⟨hL.ge hr, setRow_heap w b _ _ e _ hb⟩ (.inr (.inl ⟨rfl, by simp⟩))⟩
theorem JO.storeV (id : Nat) {n : Nat} {us : List Value} (hx : evk F x = some (.pointer (some ⟨b, 0, none⟩))) (hr : lr L id = some (.cells b cs e (0, 0))) (hy : evk F y = some (.agg us.toArray)) (h1 : us.all Value.oneCell' = true)
    (hsz : ∀ w, (sizeOf T).run P w = .ok n w) (hn : us.length = n) (hlt : cs.length = n) :
    JO P w0 F L ⟨dst, .store T x y, ty, pos, af, gd⟩ (fun z w' => z = undef ∧ MemOk w0 ((id, .cells b us e (0, 0)) :: L) w') := by
  have h := JO.storeA (P := P) (w0 := w0) (dst := dst) (ty := ty) (pos := pos) (af := af) (gd := gd) id hx hr hy h1 hsz hn (by omega)
  have e1 : cs.take 0 ++ us ++ cs.drop (0 + n) = us := by simp [← hlt]
  rwa [e1] at h

/-! ### addresses -/
theorem JV.fieldAddr {fs : Array Field} {i : Nat} {f : Field} {n : Nat} (hx : evk F x = some (.pointer (some ⟨b, off, none⟩))) (hT : ∀ w, (underlying T).run P w = .ok (.struct fs) w) (hf : fs[i]? = some f)
    (hsz : ∀ w, (sizeOf f.type).run P w = .ok n w) (hn : (n == 0) = false) : JV P w0 F L ⟨dst, .fieldAddr T x i, ty, pos, af, gd⟩ (.pointer (some ⟨b, off + f.offset, none⟩)) := by
  refine JV.of fun a w hF hL => ?_
  have h1 := hF.at hx (by simp [Op.operands])
  have hn' : n ≠ 0 := by simpa using hn
  simp [execOp, Instr.fieldAt, h1, hT, hf, Instr.sureAddr, fieldPlace, hsz, hn', add_plain]
theorem JV.fieldAddrR {fs : Array Field} {i k : Nat} {f : Field} {n : Nat} {ad : Addr} {l c : Nat} (hx : evk F x = some (ptrOf v k)) (hv : v = .slice (some ad) l c) (hs : ad.spot = none) (hT : ∀ w, (underlying T).run P w = .ok (.struct fs) w) (hf : fs[i]? = some f)
    (hsz : ∀ w, (sizeOf f.type).run P w = .ok n w) (hn : (n == 0) = false) : JV P w0 F L ⟨dst, .fieldAddr T x i, ty, pos, af, gd⟩ (ptrOf v (k + f.offset)) := by
  subst hv
  refine JV.of fun a w hF hL => ?_
  have h1 := hF.at hx (by simp [Op.operands])
  simp only [ptrOf] at h1 ⊢
  have hn' : n ≠ 0 := by simpa using hn
  simp [execOp, Instr.fieldAt, h1, hT, hf, Instr.sureAddr, fieldPlace, hsz, hn', addr_add_add _ hs]
theorem JV.idxArr {n k sz : Nat} {el : TypeId} {kk : IntKind} (hx : evk F x = some (.pointer (some ⟨b, off, none⟩))) (hy : evk F y = some (.int kk (k : Int))) (hT : ∀ w, (underlying T).run P w = .ok (.array n el) w) (hsz : ∀ w, (sizeOf el).run P w = .ok sz w) (hk : k < n) :
    JV P w0 F L ⟨dst, .indexAddr T x y, ty, pos, af, gd⟩ (.pointer (some ⟨b, off + k * sz, none⟩)) := by
  refine JV.of fun a w hF hL => ?_
  have h1 := hF.at hx (by simp [Op.operands]); have h2 := hF.at hy (by simp [Op.operands])
  have hk' : (0 : Int) ≤ (k : Int) ∧ (k : Int) < (n : Int) := ⟨by omega, by omega⟩
  simp [execOp, Instr.indexAt, h1, h2, asIntOf, hT, Instr.sureAddr, hsz, hk, add_plain]
/-- an element's address in what is read only, or owned -/
theorem JV.idxSl {n m k sz : Nat} {el : TypeId} {kk : IntKind} {ad : Addr} {c : Nat} (hx : evk F x = some (.slice (some ad) m c)) (hy : evk F y = some (.int kk (k : Int))) (hT : ∀ w, (underlying T).run P w = .ok (.slice el) w) (hsz : ∀ w, (sizeOf el).run P w = .ok sz w) (hk : k < m) :
    JV P w0 F L ⟨dst, .indexAddr T x y, ty, pos, af, gd⟩ (.pointer (some (ad.add (k * sz)))) := by
  refine JV.of fun a w hF hL => ?_
  have h1 := hF.at hx (by simp [Op.operands]); have h2 := hF.at hy (by simp [Op.operands])
  simp [execOp, Instr.indexAt, h1, h2, asIntOf, hT, hsz, hk]
theorem JV.idxRo (id : Nat) {n k sz sz' : Nat} {xs : List Value} {el : TypeId} {kk : IntKind} (hx : evk F x = some v) (hy : evk F y = some (.int kk (k : Int))) (hr : lr L id = some (.ro v sz' n xs)) (hT : ∀ w, (underlying T).run P w = .ok (.slice el) w) (hsz : ∀ w, (sizeOf el).run P w = .ok sz w)
    (h0 : 0 < sz') (hk : k < n) : JV P w0 F L ⟨dst, .indexAddr T x y, ty, pos, af, gd⟩ (ptrOf v (k * sz)) := by
  refine JV.of fun a w hF hL => ?_
  have h1 := hF.at hx (by simp [Op.operands]); have h2 := hF.at hy (by simp [Op.operands])
  obtain ⟨hl, aa, c, rfl, _, h3⟩ := hL.reads hr
  have hpos : 0 < xs.length := by rw [hl]; exact Nat.mul_pos (by omega) h0
  rcases h3 with rfl | ⟨ad, rfl, hs, _⟩
  · simp at hpos
  · simp [execOp, Instr.indexAt, h1, h2, asIntOf, hT, hsz, hk, ptrOf]

/-! ### len -/
theorem goIntN (n : Nat) : goInt n = .int .i64 (n : Int) := rfl
theorem JV.lenStr {t : TypeId} {l : List UInt8} (hx : evk F x = some (str l)) (ht : ∀ w, (underlying t).run P w = .ok .string w) : JV P w0 F L ⟨dst, .call ⟨.builtin .len, #[x], #[t]⟩, ty, pos, af, gd⟩ (.int .i64 (l.length : Int)) := by
  refine JV.of fun a w hF hL => ?_
  have h1 := hF.at hx (by simp [Op.operands, Call.operands])
  simp [execOp, resolve, invoke, builtin, Builtin.len_, h1, str, ht]
  rfl
theorem JV.lenSl {t el : TypeId} {aa : Option Addr} {n c : Nat} (hx : evk F x = some (.slice aa n c)) (ht : ∀ w, (underlying t).run P w = .ok (.slice el) w) : JV P w0 F L ⟨dst, .call ⟨.builtin .len, #[x], #[t]⟩, ty, pos, af, gd⟩ (.int .i64 (n : Int)) := by
  refine JV.of fun a w hF hL => ?_
  have h1 := hF.at hx (by simp [Op.operands, Call.operands])
  simp [execOp, resolve, invoke, builtin, Builtin.len_, h1, ht, goInt]
theorem JV.lenRo (id : Nat) {t el : TypeId} {sz n : Nat} {xs : List Value} (hx : evk F x = some v) (hr : lr L id = some (.ro v sz n xs)) (ht : ∀ w, (underlying t).run P w = .ok (.slice el) w) : JV P w0 F L ⟨dst, .call ⟨.builtin .len, #[x], #[t]⟩, ty, pos, af, gd⟩ (.int .i64 (n : Int)) := by
  refine JV.of fun a w hF hL => ?_
  have h1 := hF.at hx (by simp [Op.operands, Call.operands])
  obtain ⟨_, aa, c, rfl, _⟩ := hL.reads hr
  simp [execOp, resolve, invoke, builtin, Builtin.len_, h1, ht, goInt]
theorem JV.lenRow (id : Nat) {t el e' : TypeId} {sz n : Nat} {xs : List Value} (hx : evk F x = some v) (hr : lr L id = some (.row v e' sz n xs)) (ht : ∀ w, (underlying t).run P w = .ok (.slice el) w) : JV P w0 F L ⟨dst, .call ⟨.builtin .len, #[x], #[t]⟩, ty, pos, af, gd⟩ (.int .i64 (n : Int)) := by
  refine JV.of fun a w hF hL => ?_
  have h1 := hF.at hx (by simp [Op.operands, Call.operands])
  rcases (hL.ok id _ hr).2 with ⟨rfl, rfl⟩ | ⟨g, cap, cur, rfl, _⟩ <;> simp [execOp, resolve, invoke, builtin, Builtin.len_, h1, ht, goInt]
theorem JV.lenArr {t el : TypeId} {n : Nat} (hx : evk F x = some v) (ht : ∀ w, (underlying t).run P w = .ok (.array n el) w) : JV P w0 F L ⟨dst, .call ⟨.builtin .len, #[x], #[t]⟩, ty, pos, af, gd⟩ (.int .i64 (n : Int)) := by
  refine JV.of fun a w hF hL => ?_
  have h1 := hF.at hx (by simp [Op.operands, Call.operands])
  simp [execOp, resolve, invoke, builtin, Builtin.len_, h1, ht, goInt]
end
end Go.Fw
end
section
open Go.RowKit
set_option linter.unusedVariables false
set_option linter.unusedSimpArgs false
set_option linter.unusedSectionVars false
namespace Go.Fw

section
variable {P : Program} {w0 : World} {F : FL} {L : ML} {dst : Option Tmp} {ty : TypeId} {pos : String} {af : Array Edge} {gd : Option (Nat × Bool)}
variable {T t u' : TypeId} {x y : Operand} {b off : Nat} {cs : List Value} {e : TypeId} {fz : Nat × Nat} {u v : Value} {id : Nat} {l l' : List UInt8}

/-! ### strings -/
theorem str_inj (l l' : List UInt8) : (ByteArray.toList ⟨l.toArray⟩ == ByteArray.toList ⟨l'.toArray⟩) = decide (l = l') := by
  have key : ∀ s : ByteArray, s.toList = s.data.toList := fun s => ByteArray.toList_eq s
  rw [key, key, Bool.eq_iff_iff]; simp
theorem run_eqGuard_str (op : BinOp) (t : TypeId) (x y : Operand) (k k' : ByteArray) (w : World) : (eqGuard op t x y (.string k) (.string k')).run P w = .ok () w := by
  unfold eqGuard; split <;> simp
theorem JV.binS {op : BinOp} {s s' : ByteArray} (hx : evk F x = some (.string s)) (hy : evk F y = some (.string s'))
    (h : ∀ w, (binOp op t (.string s) (.string s')).run P w = .ok v w) : JV P w0 F L ⟨dst, .binOp op t x y u', ty, pos, af, gd⟩ v :=
  JV.of fun a w hF _ => by
    have h1 := hF.at hx (by simp [Op.operands]); have h2 := hF.at hy (by simp [Op.operands]); simp [execOp, h1, h2, run_eqGuard_str, h]
theorem JV.eqlS (hx : evk F x = some (str l)) (hy : evk F y = some (str l')) : JV P w0 F L ⟨dst, .binOp .eql t x y u', ty, pos, af, gd⟩ (.bool (decide (l = l'))) :=
  JV.binS hx hy fun w => by simp only [binOp, Op.stringOp, str_inj]; rfl
theorem JV.neqS (hx : evk F x = some (str l)) (hy : evk F y = some (str l')) : JV P w0 F L ⟨dst, .binOp .neq t x y u', ty, pos, af, gd⟩ (.bool (decide (l ≠ l'))) :=
  JV.binS hx hy fun w => by simp only [binOp, Op.stringOp, str_inj, decide_not]; rfl
theorem JV.addS (hx : evk F x = some (str l)) (hy : evk F y = some (str l')) (h : l.length + l'.length ≤ 9223372036854775807) : JV P w0 F L ⟨dst, .binOp .add t x y u', ty, pos, af, gd⟩ (str (l ++ l')) :=
  JV.binS hx hy fun w => by
    have e1 : ¬ ((((⟨l.toArray⟩ : ByteArray).size + (⟨l'.toArray⟩ : ByteArray).size : Nat) : Int) > IntKind.i64.max) := by
      show ¬ (((l.toArray.size + l'.toArray.size : Nat) : Int) > 9223372036854775807)
      simp only [List.size_toArray]; omega
    have e2 : (⟨l.toArray⟩ : ByteArray) ++ ⟨l'.toArray⟩ = ⟨(l ++ l').toArray⟩ := by apply ByteArray.ext; simp
    simp only [binOp, Op.stringOp]
    rw [if_neg e1, e2]
    rfl
theorem JV.idxStr {k : Nat} {kk : IntKind} (hx : evk F x = some (str l)) (hy : evk F y = some (.int kk (k : Int))) (hT : ∀ w, (underlying T).run P w = .ok .string w) (hk : k < l.length) :
    JV P w0 F L ⟨dst, .index T x y, ty, pos, af, gd⟩ (b8 l[k]) := by
  refine JV.of fun a w hF hL => ?_
  have h1 := hF.at hx (by simp [Op.operands]); have h2 := hF.at hy (by simp [Op.operands])
  have h3 : (⟨l.toArray⟩ : ByteArray)[k]? = some l[k] := by
    show (if h : k < (⟨l.toArray⟩ : ByteArray).size then some _ else none) = _
    rw [dif_pos (show k < (⟨l.toArray⟩ : ByteArray).size from (by show k < l.toArray.size; simpa using hk))]
    rfl
  simp [execOp, Instr.index, h1, h2, asIntOf, hT, str, h3, b8]
/-- an array's element, by value -/
theorem JV.idxAgg {k n : Nat} {el : TypeId} {kk : IntKind} (hx : evk F x = some (.agg cs.toArray)) (hy : evk F y = some (.int kk (k : Int))) (hT : ∀ w, (underlying T).run P w = .ok (.array n el) w) (hsz : ∀ w, (sizeOf el).run P w = .ok 1 w) (hag : ∀ w, (isAgg el).run P w = .ok false w)
    (hk : k < n) (hu : cs[k]? = some u) : JV P w0 F L ⟨dst, .index T x y, ty, pos, af, gd⟩ u := by
  refine JV.of fun a w hF hL => ?_
  have h1 := hF.at hx (by simp [Op.operands]); have h2 := hF.at hy (by simp [Op.operands])
  simp [execOp, Instr.index, h1, h2, asIntOf, hT, hk, hsz, part, hag, hu]
theorem JV.field {fs : Array Field} {f : Field} {i : Nat} (hx : evk F x = some (.agg cs.toArray)) (hT : ∀ w, (underlying T).run P w = .ok (.struct fs) w) (hf : fs[i]? = some f) (hag : ∀ w, (isAgg f.type).run P w = .ok false w) (hu : cs[f.offset]? = some u) :
    JV P w0 F L ⟨dst, .field T x i, ty, pos, af, gd⟩ u := by
  refine JV.of fun a w hF hL => ?_
  have h1 := hF.at hx (by simp [Op.operands])
  simp [execOp, Instr.field, h1, hT, hf, asAgg, part, hag, hu]
theorem JV.fieldA {fs : Array Field} {f : Field} {i n : Nat} {us : List Value} (hx : evk F x = some (.agg cs.toArray)) (hT : ∀ w, (underlying T).run P w = .ok (.struct fs) w) (hf : fs[i]? = some f) (hag : ∀ w, (isAgg f.type).run P w = .ok true w)
    (hsz : ∀ w, (sizeOf f.type).run P w = .ok n w) (hu : (cs.drop f.offset).take n = us) :
    JV P w0 F L ⟨dst, .field T x i, ty, pos, af, gd⟩ (.agg us.toArray) := by
  refine JV.of fun a w hF hL => ?_
  have h1 := hF.at hx (by simp [Op.operands])
  have h2 : cs.toArray.extract f.offset (f.offset + n) = us.toArray := by rw [← hu]; simp
  simp [execOp, Instr.field, h1, hT, hf, asAgg, part, hag, hsz, hu]

/-! ### slices -/
/-- the bounds of a slice expression: from lo to hi -/
def bnd (F : FL) (o : Option Operand) (d n : Nat) : Prop := match o with | none => n = d | some x => ∃ k, evk F x = some (.int k (n : Int))
theorem bnd_some {x : Operand} {d n : Nat} {k : IntKind} (h : evk F x = some (.int k (n : Int))) : bnd F (some x) d n := ⟨k, h⟩
theorem run_sliceBounds {isSlice : Bool} {len cap lo hi : Nat} {o : Oper} {a : Act} (hF : FrOn o F a) {ol oh : Option Operand} (hl : bnd F ol 0 lo) (hh : bnd F oh len hi) (hol : ∀ x ∈ ol, x ∈ o.op.operands) (hoh : ∀ x ∈ oh, x ∈ o.op.operands)
    (h1 : lo ≤ hi) (h2 : hi ≤ cap) (w : World) : (Instr.sliceBounds isSlice len cap (ol.map a.eval) (oh.map a.eval) none).run P w = .ok (lo, hi, cap) w := by
  cases oh with
  | none =>
    simp only [bnd] at hh; subst hh
    cases ol with
    | none => simp only [bnd] at hl; subst hl; simp [Instr.sliceBounds]
    | some xl =>
      obtain ⟨k, hk⟩ := hl
      have e := hF xl (hol xl (by simp)) _ hk
      simp [Instr.sliceBounds, Instr.sliceBound, e, asIntOf, h1]
  | some xh =>
    obtain ⟨kh, hkh⟩ := hh
    have eh := hF xh (hoh xh (by simp)) _ hkh
    cases ol with
    | none => simp only [bnd] at hl; subst hl; simp [Instr.sliceBounds, Instr.sliceBound, eh, asIntOf, h2]
    | some xl =>
      obtain ⟨k, hk⟩ := hl
      have e := hF xl (hol xl (by simp)) _ hk
      simp [Instr.sliceBounds, Instr.sliceBound, e, eh, asIntOf, h1, h2]
/-- of an array variable -/
theorem JV.sliceArr {n lo hi sz : Nat} {el : TypeId} {ol oh : Option Operand} (hx : evk F x = some (.pointer (some ⟨b, off, none⟩))) (hT : ∀ w, (underlying T).run P w = .ok (.array n el) w) (hsz : ∀ w, (sizeOf el).run P w = .ok sz w)
    (hl : bnd F ol 0 lo) (hh : bnd F oh n hi) (h1 : lo ≤ hi) (h2 : hi ≤ n) (h3 : lo < n ∨ lo = 0) : JV P w0 F L ⟨dst, .slice T x ol oh none, ty, pos, af, gd⟩ (.slice (some ⟨b, off + lo * sz, none⟩) (hi - lo) (n - lo)) := by
  refine JV.of fun a w hF hL => ?_
  have e1 := hF.at hx (by simp [Op.operands])
  have hb := run_sliceBounds (P := P) (isSlice := false) hF hl hh (fun z hz => by simp [Op.operands]; cases ol <;> simp_all) (fun z hz => by simp [Op.operands]; cases oh <;> simp_all) h1 h2 w
  have e3 : (if n = lo then (⟨b, off, none⟩ : Addr) else (⟨b, off, none⟩ : Addr).add (lo * sz)) = ⟨b, off + lo * sz, none⟩ := by
    split
    · rename_i hh; rcases h3 with h3 | h3
      · omega
      · subst h3; simp
    · rw [add_plain]
  simp only [execOp, Instr.sliceAt, hT, e1, Instr.sureAddr, Sem.run_bind, Result.andThen_ok, Sem.run_pure, Option.map_none, hb, hsz, e3]
/-- of a slice whose address is written out -/
theorem JV.sliceSl {n c lo hi sz : Nat} {el : TypeId} {ol oh : Option Operand} {ad : Addr} (hx : evk F x = some (.slice (some ad) n c)) (hT : ∀ w, (underlying T).run P w = .ok (.slice el) w) (hsz : ∀ w, (sizeOf el).run P w = .ok sz w)
    (hl : bnd F ol 0 lo) (hh : bnd F oh n hi) (h1 : lo ≤ hi) (h2 : hi ≤ c) (h3 : lo < c ∨ lo = 0) (hs : ad.spot = none) : JV P w0 F L ⟨dst, .slice T x ol oh none, ty, pos, af, gd⟩ (.slice (some (ad.add (lo * sz))) (hi - lo) (c - lo)) := by
  refine JV.of fun a w hF hL => ?_
  have e1 := hF.at hx (by simp [Op.operands])
  have hb := run_sliceBounds (P := P) (isSlice := true) hF hl hh (fun z hz => by simp [Op.operands]; cases ol <;> simp_all) (fun z hz => by simp [Op.operands]; cases oh <;> simp_all) h1 h2 w
  have e3 : (if c = lo then some ad else (some ad).map (·.add (lo * sz))) = some (ad.add (lo * sz)) := by
    split
    · rename_i hh; rcases h3 with h3 | h3
      · omega
      · subst h3; simp [Addr.add]
    · rfl
  simp only [execOp, Instr.sliceAt, Instr.slice, hT, e1, Sem.run_bind, Result.andThen_ok, Sem.run_pure, Option.map_none, hb, hsz, e3]
theorem JV.sliceStr {lo hi : Nat} {ol oh : Option Operand} (hx : evk F x = some (str l)) (hT : ∀ w, (underlying T).run P w = .ok .string w)
    (hl : bnd F ol 0 lo) (hh : bnd F oh l.length hi) (h1 : lo ≤ hi) (h2 : hi ≤ l.length) : JV P w0 F L ⟨dst, .slice T x ol oh none, ty, pos, af, gd⟩ (str ((l.drop lo).take (hi - lo))) := by
  refine JV.of fun a w hF hL => ?_
  have e1 := hF.at hx (by simp [Op.operands])
  have hb := run_sliceBounds (P := P) (isSlice := false) hF hl hh (fun z hz => by simp [Op.operands]; cases ol <;> simp_all) (fun z hz => by simp [Op.operands]; cases oh <;> simp_all) h1 h2 w
  have e4 : (⟨l.toArray⟩ : ByteArray).size = l.length := by show l.toArray.size = _; simp
  have e5 : (⟨l.toArray⟩ : ByteArray).extract lo hi = ⟨((l.drop lo).take (hi - lo)).toArray⟩ := by apply ByteArray.ext; simp
  simp only [execOp, Instr.sliceAt, Instr.slice, hT, e1, str, Sem.run_bind, Result.andThen_ok, Sem.run_pure, Option.map_none, e4, hb, e5, Option.isSome_none, Bool.false_eq_true, if_false]
theorem JV.toArr {n m c : Nat} {el : TypeId} {ad : Option Addr} (hx : evk F x = some (.slice ad m c)) (hT : ∀ w, (underlying T).run P w = .ok (.array n el) w) (h : n ≤ m) : JV P w0 F L ⟨dst, .sliceToArrayPointer T x, ty, pos, af, gd⟩ (.pointer ad) := by
  refine JV.of fun a w hF hL => ?_
  have e1 := hF.at hx (by simp [Op.operands])
  have h' : ¬ m < n := by omega
  simp [execOp, Instr.arrayAt, hT, e1, h']

/-! ### conversions between strings and bytes -/
theorem reads_cells {w : World} {lo n c : Nat} {us : List Value} (hb : w.heap[b]? = some (.cells cs.toArray e fz)) (hu : (cs.drop lo).take n = us) (hn : us.length = n) (hm : n ≤ c ∧ n ≤ 9223372036854775807) : Reads w (.slice (some ⟨b, lo, none⟩) n c) 1 n us := by
  refine ⟨by omega, _, c, rfl, hm, .inr ⟨_, rfl, rfl, fun j v hj => ?_⟩⟩
  rw [add_plain, cell_of_blk hb, ← hj, ← hu]
  have hlt : j < n := by rw [← hn]; exact (List.getElem?_eq_some_iff.1 hj).1
  rw [List.getElem?_take_of_lt hlt, List.getElem?_drop]
theorem run_bytesStr {src d el : TypeId} {n : Nat} (hs : ∀ w, (underlying src).run P w = .ok (.slice el) w) (he : ∀ w, (underlying el).run P w = .ok (.int .u8) w) (hd : ∀ w, (underlying d).run P w = .ok .string w) {w : World}
    (h : Reads w v 1 n (l.map b8)) : (convert src d v).run P w = .ok (str l) w := by
  obtain ⟨h0, aa, c, rfl, _, h3⟩ := h
  have hn : n = l.length := by simpa using h0.symm
  subst hn
  cases aa with
  | none =>
    have : l = [] := by
      rcases h3 with h3 | ⟨ad, e, _⟩
      · simpa using h3
      · cases e
    subst this
    simp [convert, hs, he, hd, Conv.bytesToString, str]
    rfl
  | some ad =>
    have hl : (loadCells ad l.length).run P w = .ok ((l.map (fun b => (b.toNat : Int))).map (Value.int .u8)).toArray w := by
      have h5 := run_loadCells_list (P := P) w ad (l.map b8) (fun j v hj => by
        rcases h3 with h3 | ⟨ad', e, _, hc⟩
        · have : l = [] := by simpa using h3
          subst this; cases hj
        · cases e; exact hc j v hj)
      have e6 : (l.map (fun b => (b.toNat : Int))).map (Value.int .u8) = l.map b8 := by simp [b8]
      rw [e6]; simpa using h5
    have h7 := run_bytesToString (P := P) w ad l.length c _ hl
    have e8 : ∀ (m : List UInt8) (r : ByteArray), (m.map (fun b => (b.toNat : Int))).foldl (fun r n => r.push (UInt8.ofNat n.toNat)) r = ⟨(r.data.toList ++ m).toArray⟩ := by
      intro m
      induction m with
      | nil => intro r; simp
      | cons b m ih =>
        intro r
        simp only [List.map_cons, List.foldl_cons]
        rw [ih]
        simp [ByteArray.push]
    rw [e8] at h7
    simp only [convert, hs, he, hd, Sem.run_bind, Result.andThen_ok]
    rw [h7]
    rfl
theorem JV.bytesStr (id : Nat) {src d el : TypeId} {n : Nat} (hs : ∀ w, (underlying src).run P w = .ok (.slice el) w) (he : ∀ w, (underlying el).run P w = .ok (.int .u8) w) (hd : ∀ w, (underlying d).run P w = .ok .string w)
    (hx : evk F x = some v) (hr : lr L id = some (.ro v 1 n (l.map b8))) : JV P w0 F L ⟨dst, .convert src d x, ty, pos, af, gd⟩ (str l) := by
  refine JV.of fun a w hF hL => ?_
  have e1 := hF.at hx (by simp [Op.operands])
  have := run_bytesStr (P := P) hs he hd (hL.reads hr)
  simp [execOp, e1, this]
/-- of a part of an array variable -/
theorem JV.bytesStrA (id : Nat) {src d el : TypeId} {lo n c : Nat} (hs : ∀ w, (underlying src).run P w = .ok (.slice el) w) (he : ∀ w, (underlying el).run P w = .ok (.int .u8) w) (hd : ∀ w, (underlying d).run P w = .ok .string w)
    (hx : evk F x = some (.slice (some ⟨b, lo, none⟩) n c)) (hr : lr L id = some (.cells b cs e fz)) (hu : (cs.drop lo).take n = l.map b8) (hn : l.length = n) (hm : n ≤ c ∧ n ≤ 9223372036854775807) : JV P w0 F L ⟨dst, .convert src d x, ty, pos, af, gd⟩ (str l) := by
  refine JV.of fun a w hF hL => ?_
  have e1 := hF.at hx (by simp [Op.operands])
  have := run_bytesStr (P := P) (l := l) hs he hd (reads_cells (c := c) (hL.blk hr) hu (by simpa using hn) hm)
  simp [execOp, e1, this]
theorem reads_row {w : World} {N n : Nat} {xs : List Value} (h : w.ownsRow N e 1 v n xs) : Reads w v 1 n xs := by
  obtain ⟨h1, h2⟩ := h
  rcases h2 with ⟨rfl, rfl⟩ | ⟨g, cap, cur, rfl, hg, hh, hnc, hcm, hsz, ht⟩
  · exact ⟨h1, none, 0, rfl, ⟨by omega, by omega⟩, .inl (by simpa using h1)⟩
  · refine ⟨h1, _, cap, rfl, ⟨hnc, by unfold maxLen at hcm; omega⟩, .inr ⟨_, rfl, rfl, fun j u hj => ?_⟩⟩
    rw [add_plain]
    have hlt : j < n := by have := (List.getElem?_eq_some_iff.1 hj).1; omega
    simp only [World.cell?, hh]
    rw [← ht] at hj
    rw [List.getElem?_take_of_lt (by omega)] at hj
    simpa using hj
theorem reads_row' {w : World} {N n sz : Nat} {xs : List Value} (h : w.ownsRow N e sz v n xs) : Reads w v sz n xs := by
  obtain ⟨h1, h2⟩ := h
  rcases h2 with ⟨rfl, rfl⟩ | ⟨g, cap, cur, rfl, hg, hh, hnc, hcm, hsz, ht⟩
  · exact ⟨h1, none, 0, rfl, ⟨by omega, by omega⟩, .inl (by simpa using h1)⟩
  · refine ⟨h1, _, cap, rfl, ⟨hnc, by unfold maxLen at hcm; omega⟩, .inr ⟨_, rfl, rfl, fun j u hj => ?_⟩⟩
    rw [add_plain]
    have hlt : j < n * sz := by have := (List.getElem?_eq_some_iff.1 hj).1; omega
    simp only [World.cell?, hh]
    rw [← ht] at hj
    rw [List.getElem?_take_of_lt (by omega)] at hj
    simpa using hj
theorem JV.bytesStrW (id : Nat) {src d el e' : TypeId} {n : Nat} (hs : ∀ w, (underlying src).run P w = .ok (.slice el) w) (he : ∀ w, (underlying el).run P w = .ok (.int .u8) w) (hd : ∀ w, (underlying d).run P w = .ok .string w)
    (hx : evk F x = some v) (hr : lr L id = some (.row v e' 1 n (l.map b8))) : JV P w0 F L ⟨dst, .convert src d x, ty, pos, af, gd⟩ (str l) := by
  refine JV.of fun a w hF hL => ?_
  have e1 := hF.at hx (by simp [Op.operands])
  have := run_bytesStr (P := P) hs he hd (reads_row (hL.ok id _ hr))
  simp [execOp, e1, this]
/-- []byte(s): a new row, read only from here on -/
theorem JO.strBytes (id : Nat) {src d el : TypeId} (hs : ∀ w, (underlying src).run P w = .ok .string w) (hd : ∀ w, (underlying d).run P w = .ok (.slice el) w) (he : ∀ w, (underlying el).run P w = .ok (.int .u8) w)
    (hx : evk F x = some (str l)) (hm : l.length ≤ 9223372036854775807) :
    JO P w0 F L ⟨dst, .convert src d x, ty, pos, af, gd⟩ (fun v' w' => ∃ i : Nat × Nat, v' = .slice (some ⟨i.1, 0, none⟩) l.length i.2 ∧ MemOk w0 ((id, .ro (.slice (some ⟨i.1, 0, none⟩) l.length i.2) 1 l.length (l.map b8)) :: L) w') := by
  intro a w hF hL
  have e1 := hF.at hx (by simp [Op.operands])
  have hsz : (⟨l.toArray⟩ : ByteArray).size = l.length := by show l.toArray.size = _; simp
  have key : ∃ (cap : Nat) (row : Array Value) (f1 f2 : Nat), l.length ≤ cap ∧ (convert src d (str l)).run P w = .ok (.slice (some ⟨w.heap.size, 0, none⟩) l.length cap) (w.drew.alloc (.cells row el (f1, f2))) ∧ ∀ (j : Nat) (v : Value), (l.map b8)[j]? = some v → row[j]? = some v := by
    have hP : P.underlying src = some .string := by
      have := hs w; unfold underlying at this; simp only [Sem.run_bind, run_program, Result.andThen_ok] at this
      cases h : P.underlying src <;> rw [h] at this <;> simp_all
    have hP2 : P.underlying d = some (.slice el) := by
      have := hd w; unfold underlying at this; simp only [Sem.run_bind, run_program, Result.andThen_ok] at this
      cases h : P.underlying d <;> rw [h] at this <;> simp_all
    have hP3 : P.underlying el = some (.int .u8) := by
      have := he w; unfold underlying at this; simp only [Sem.run_bind, run_program, Result.andThen_ok] at this
      cases h : P.underlying el <;> rw [h] at this <;> simp_all
    have hb := run_bytes_of_string (P := P) w src d el ⟨l.toArray⟩ hP hP2 hP3
    rw [hsz] at hb
    refine ⟨_, _, _, _, grownCap_ge w l.length 0 el, hb, fun j v hj => ?_⟩
    have hj' : j < l.length := by simpa using (List.getElem?_eq_some_iff.1 hj).1
    rw [List.getElem?_map] at hj
    unfold bytesRow
    rw [Array.getElem?_append_left (by simpa using hj')]
    simpa [b8] using hj
  obtain ⟨cap, row, f1, f2, hcap, hrun, hrow⟩ := key
  refine Yields.of_run (v := .slice (some ⟨w.heap.size, 0, none⟩) l.length cap) (w' := w.drew.alloc (.cells row el (f1, f2))) ?_ ⟨(w.heap.size, cap), rfl, ?_⟩
  · simp [execOp, e1, hrun]
  · have hg : w.grownBy (w.drew.alloc (.cells row el (f1, f2))) none := ⟨rfl, rfl, rfl, by simp, fun k hk _ => Below.heap_alloc _ _ _ hk⟩
    have hnew : (w.drew.alloc (.cells row el (f1, f2))).heap[w.heap.size]? = some (.cells row el (f1, f2)) := by
      show (w.heap.push _)[w.heap.size]? = _
      simp
    refine hL.put hg (.inl rfl) ?_ ?_
    · refine ⟨by simp, _, cap, rfl, ⟨hcap, hm⟩, .inr ⟨_, rfl, rfl, fun j v hj => ?_⟩⟩
      rw [add_plain]
      simp only [World.cell?, hnew]
      simpa using hrow j v hj
    · cases hl' : l.map b8 with
      | nil => exact .inl rfl
      | cons z zs => exact .inr (.inr ⟨w.heap.size, rfl, Nat.le_refl _⟩)
end
end Go.Fw
end
section
open Go.RowKit
set_option linter.unusedVariables false
set_option linter.unusedSimpArgs false
set_option linter.unusedSectionVars false
namespace Go.Fw

section
variable {P : Program} {w0 : World} {F : FL} {L : ML} {dst : Option Tmp} {ty : TypeId} {pos : String} {af : Array Edge} {gd : Option (Nat × Bool)}
variable {T t u' : TypeId} {x y : Operand} {b off : Nat} {cs : List Value} {e : TypeId} {fz : Nat × Nat} {u v : Value} {id : Nat} {l l' : List UInt8}

/-- What append asks of an element's type. -/
structure Elem (P : Program) (t e : TypeId) (size bytes : Nat) : Prop where
  und : P.underlying t = some (.slice e)
  info : ∃ i z, P.info? e = some i ∧ i.zero = some z ∧ i.size = size ∧ i.bytes = bytes ∧ z.cells.size = size
  pos : 0 < size
/-- What is appended: m elements, news. -/
structure Src (P : Program) (w : World) (tx : TypeId) (x : Value) (size m : Nat) (news : List Value) : Prop where
  ty : (∃ e', P.underlying tx = some (.slice e')) ∨ P.underlying tx = some .string
  len : ∀ w, (Builtin.lenOf x).run P w = .ok m w
  at0 : (Builtin.firstCells size m x).run P w = .ok news.toArray w
  at1 : (Builtin.firstCells size m x).run P w.drew = .ok news.toArray w.drew
  num : news.length = m * size

theorem own_block_cases {w : World} {N n sz : Nat} {xs : List Value} (h : w.ownsRow N e sz v n xs) : (v = .slice none 0 0 ∧ n = 0 ∧ xs = []) ∨
    ∃ g cap cur, v = .slice (some ⟨g, 0, none⟩) n cap ∧ N ≤ g ∧ w.heap[g]? = some (.cells cur e (0, 0)) ∧ n ≤ cap ∧ cap ≤ maxLen ∧ cur.size = cap * sz ∧ cur.toList.take (n * sz) = xs := by
  rcases h.2 with ⟨h1, h2⟩ | h2
  · exact .inl ⟨h1, h2, List.eq_nil_of_length_eq_zero (by rw [h.1, h2]; simp)⟩
  · exact .inr h2

/-- append(s, x...): s is owned. -/
theorem run_append {w : World} (hL : MemOk w0 L w) (id : Nat) {n m size bytes : Nat} {xs news : List Value} {tx : TypeId} {xv : Value} (hE : Elem P t e size bytes) (hr : lr L id = some (.row v e size n xs))
    (hn : Src P w tx xv size m news) (h1 : news.all Value.oneCell' = true) (h63 : n + m ≤ 140737488355328) (hby : (n + m) * bytes ≤ 140737488355328) (T : TypeId) :
    ∃ v' w', (Builtin.append_ #[t, tx] T #[v, xv]).run P w = .ok v' w' ∧ MemOk w0 ((id, .row v' e size (n + m) (xs ++ news)) :: L) w' := by
  obtain ⟨i, z, hi, hz, hs, hb, hzs⟩ := hE.info
  have hown := hL.ok id _ hr
  have hbase : w0.heap.size ≤ w.heap.size := hL.below.size
  have hund := hE.und
  subst hs hb
  have hxl : xs.length = n * i.size := hown.1
  have hlen : (xs ++ news).length = (n + m) * i.size := by rw [List.length_append, hown.1, hn.num, Nat.add_mul]
  have grown : ∀ (old : Nat), old < n + m →
      MemOk w0 ((id, .row (.slice (some ⟨w.heap.size, 0, none⟩) (n + m) (grownCap w (n + m) old e)) e i.size (n + m) (xs ++ news)) :: L) (w.drew.alloc (.cells (xs.toArray ++ news.toArray ++ Builtin.zeroCells z.cells (grownCap w (n + m) old e - (n + m))) e)) := by
    intro old ho
    have hcap := grownCap_ge w (n + m) old e
    have hcapm := grownCap_le_maxLen w (n + m) old e (by unfold maxLen; omega)
    have hg : w.grownBy (w.drew.alloc (.cells (xs.toArray ++ news.toArray ++ Builtin.zeroCells z.cells (grownCap w (n + m) old e - (n + m))) e)) none := ⟨rfl, rfl, rfl, by simp, fun k hk _ => Below.heap_alloc _ _ _ hk⟩
    refine hL.put hg (.inl rfl) ⟨hlen, .inr ⟨w.heap.size, grownCap w (n + m) old e, xs.toArray ++ news.toArray ++ Builtin.zeroCells z.cells (grownCap w (n + m) old e - (n + m)), rfl, hbase, ?_, hcap, hcapm, ?_, ?_⟩⟩ (.inr (.inr ⟨w.heap.size, rfl, Nat.le_refl _⟩))
    · show (w.heap.push _)[w.heap.size]? = _; simp
    · simp only [Array.size_append, List.size_toArray, size_zeroCells, hzs, hxl, hn.num]
      rw [← Nat.add_mul, ← Nat.add_mul]; congr 1; omega
    · simp only [Array.toList_append]
      rw [show xs.toArray.toList ++ news.toArray.toList = xs ++ news from by simp, ← hlen]
      exact List.take_left
  have h63' : ¬ (9223372036854775807 < ((n : Int) + (m : Int))) := by omega
  have fits : ∀ old, old < n + m → ¬ (281474976710656 < Builtin.nextslicecap (n + m) old * i.bytes) := fun old ho => by have := growslice_fits ho hby; omega
  rcases own_block_cases hown with ⟨rfl, rfl, rfl⟩ | ⟨g, cap, cur, rfl, hgN, hg, hnc, hcm, hcs, ht⟩
  · by_cases hm : m = 0
    · subst hm
      have hnews : news = [] := List.eq_nil_of_length_eq_zero (by rw [hn.num]; simp)
      subst hnews
      refine ⟨.slice none 0 0, w, ?_, ?_⟩
      · have h0 := hn.at0
        rcases hn.ty with ⟨e', hD⟩ | hD <;> simp [Builtin.append_, run_underlying hund, run_underlying hD, sizeOf, typeInfo, hi, hn.len, h0]
      · exact hL.put (old := none) ⟨rfl, rfl, rfl, Nat.le_refl _, fun _ _ _ => rfl⟩ (.inl rfl) ⟨by simp, .inl ⟨rfl, rfl⟩⟩ (.inl rfl)
    · have hm' : ¬ (m ≤ 0) := by omega
      have hgr := grown 0 (by omega)
      have hft := fits 0 (by omega)
      simp only [Nat.zero_add, List.nil_append] at hgr hft ⊢
      refine ⟨_, _, ?_, hgr⟩
      have ha1 := hn.at1
      have h63'' : ¬ (9223372036854775807 < (m : Int)) := by omega
      rcases hn.ty with ⟨e', hD⟩ | hD
      all_goals
        simp [Builtin.append_, run_underlying hund, run_underlying hD, sizeOf, typeInfo, zeroValue, hi, hz, hn.len, hm, h63'', hft, Question.forced, run_firstCells_none, newRow, grownCap, ha1]
  · by_cases hroom : n + m ≤ cap
    · have hfit : n * i.size + news.length ≤ cur.size := by rw [hn.num, hcs, ← Nat.add_mul]; exact Nat.mul_le_mul_right _ hroom
      have hst := run_storeCells_at P g (n * i.size) e news 0 cur w hg (by simpa using hfit) (by simpa using h1)
      simp only [Nat.add_zero] at hst
      have ha0 := hn.at0
      refine ⟨.slice (some ⟨g, 0, none⟩) (n + m) cap, w.setRow g (cur.toList.take (n * i.size) ++ news ++ cur.toList.drop (n * i.size + news.length)).toArray, ?_, ?_⟩
      · generalize (cur.toList.take (n * i.size) ++ news ++ cur.toList.drop (n * i.size + news.length)).toArray = R at hst ⊢
        rcases hn.ty with ⟨e', hD⟩ | hD <;> simp [Builtin.append_, run_underlying hund, run_underlying hD, sizeOf, typeInfo, hi, hn.len, hroom, ha0, Addr.add_lit, hst]
      · refine hL.put (grown_setRow w g _) (.inr ⟨_, hr, rfl, rfl⟩) ⟨hlen, .inr ⟨g, cap, _, rfl, hgN, setRow_heap w g cur _ e _ hg, hroom, hcm, ?_, ?_⟩⟩ (.inr (.inl ⟨rfl, by simp⟩))
        · simp only [List.size_toArray, List.length_append, List.length_take, List.length_drop, Array.length_toList]
          omega
        · rw [ht, ← hlen]
          exact List.take_left
    · have holds : ∀ j u, xs[j]? = some u → w.cell? ((⟨g, 0, none⟩ : Addr).add j) = some u := World.ownsRow.cells (g := g) hown rfl
      have hgr := grown cap (by omega)
      have hft := fits cap (by omega)
      refine ⟨_, _, ?_, hgr⟩
      have ha1 := hn.at1
      have hfo := run_firstCells_some (P := P) w.drew i.size n ⟨g, 0, none⟩ n cap xs hxl (by simpa using holds)
      rcases hn.ty with ⟨e', hD⟩ | hD
      all_goals
        simp [Builtin.append_, run_underlying hund, run_underlying hD, sizeOf, typeInfo, zeroValue, hi, hz, hn.len, hroom, h63', hft, Question.forced, newRow, grownCap, ha1, hfo]
        congr 2; apply Array.ext'; simp
end
end Go.Fw
end
section
open Go.RowKit
set_option linter.unusedVariables false
set_option linter.unusedSimpArgs false
set_option linter.unusedSectionVars false
namespace Go.Fw

section
variable {P : Program} {w0 : World} {F : FL} {L : ML} {dst : Option Tmp} {ty : TypeId} {pos : String} {af : Array Edge} {gd : Option (Nat × Bool)}
variable {T t u' : TypeId} {x y : Operand} {b off : Nat} {cs : List Value} {e : TypeId} {fz : Nat × Nat} {u v : Value} {id : Nat} {l l' : List UInt8}

/-! ### append -/
theorem Src.ro {w : World} {tx e' : TypeId} {aa : Option Addr} {m c size : Nat} {news : List Value} (ht : P.underlying tx = some (.slice e')) (h : Reads w (.slice aa m c) size m news) : Src P w tx (.slice aa m c) size m news := by
  obtain ⟨hl, a', c', he, _, h3⟩ := h
  cases he
  have key : ∀ w' : World, (∀ a : Addr, w'.cell? a = w.cell? a) → (Builtin.firstCells size m (.slice aa m c)).run P w' = .ok news.toArray w' := by
    intro w' hw'
    cases aa with
    | none =>
      have : news = [] := by rcases h3 with h3 | ⟨ad, e, _⟩; exact h3; cases e
      subst this
      simp [Builtin.firstCells]
    | some ad =>
      refine run_firstCells_some (P := P) w' size m ad m c news hl fun j v hj => ?_
      rcases h3 with h3 | ⟨ad', e, _, hc⟩
      · subst h3; cases hj
      · cases e; rw [hw']; exact hc j v hj
  exact ⟨.inl ⟨e', ht⟩, fun w => by simp [Builtin.lenOf], key w fun _ => rfl, key w.drew fun _ => rfl, hl⟩
theorem Src.str {w : World} {tx : TypeId} (ht : P.underlying tx = some .string) : Src P w tx (str l) 1 l.length (l.map b8) := by
  have key : ∀ w' : World, (Builtin.firstCells 1 l.length (Fw.str l)).run P w' = .ok (l.map b8).toArray w' := by
    intro w'
    have : (⟨l.toArray⟩ : ByteArray).extract 0 l.length = ⟨l.toArray⟩ := by apply ByteArray.ext; simp
    simp only [Builtin.firstCells, Fw.str, this, Sem.run_pure]
    congr 1
    apply Array.ext'
    simp [b8]
  exact ⟨.inr ht, fun w => by simp [Builtin.lenOf, Fw.str]; rfl, key w, key w.drew, by simp⟩

theorem JO.append (id : Nat) {s : Operand} {tx : TypeId} {n m size bytes : Nat} {xs news : List Value} {xv : Value} (hE : Elem P t e size bytes) (hs : evk F s = some v) (hx : evk F x = some xv) (hr : lr L id = some (.row v e size n xs))
    (hn : ∀ w, MemOk w0 L w → Src P w tx xv size m news) (h1 : news.all Value.oneCell' = true) (h63 : n + m ≤ 140737488355328) (hby : (n + m) * bytes ≤ 140737488355328) :
    JO P w0 F L ⟨dst, .call ⟨.builtin .append, #[s, x], #[t, tx]⟩, ty, pos, af, gd⟩ (fun v' w' => ∃ i : Value, v' = i ∧ MemOk w0 ((id, .row i e size (n + m) (xs ++ news)) :: L) w') := by
  intro a w hF hL
  have e1 := hF.at hs (by simp [Op.operands, Call.operands])
  have e2 := hF.at hx (by simp [Op.operands, Call.operands])
  obtain ⟨v', w', hrun, hM⟩ := run_append hL id hE hr (hn w hL) h1 h63 hby ty
  refine Yields.of_run (v := v') (w' := w') ?_ ⟨v', rfl, hM⟩
  simp only [execOp, resolve, invoke, builtin, Sem.run_bind, Sem.run_pure, Result.andThen_ok, List.map_toArray, List.map_cons, List.map_nil, e1, e2, hrun]
/-- A nil slice is an owned row. -/
theorem MemOk.nilRow {w : World} (h : MemOk w0 L w) (id : Nat) (e : TypeId) (sz : Nat) : MemOk w0 ((id, .row (.slice none 0 0) e sz 0 []) :: L) w :=
  h.put (old := none) ⟨rfl, rfl, rfl, Nat.le_refl _, fun _ _ _ => rfl⟩ (.inl rfl) ⟨by simp, .inl ⟨rfl, rfl⟩⟩ (.inl rfl)
theorem JQ.nilRow {sz : Nat} {K : Act → World → Prop} (id : Nat) (e : TypeId) (esz : Nat) (h : JQ w0 sz F ((id, .row (.slice none 0 0) e esz 0 []) :: L) K) : JQ w0 sz F L K :=
  fun a w h1 h2 h3 h4 => h a w h1 h2 h3 (h4.nilRow id e esz)
/-- What a new block holds is an owned row. -/
theorem MemOk.rowOf {w : World} (h : MemOk w0 L w) {id' : Nat} (id : Nat) {b n sz : Nat} {us : List Value} (hr : lr L id' = some (.cells b us e (0, 0))) (hn : us.length = n * sz) (hm : n ≤ 140737488355328) (hid : id = id') :
    MemOk w0 ((id, .row (.slice (some ⟨b, 0, none⟩) n n) e sz n us) :: L) w := by
  subst hid
  refine h.put (old := some b) ⟨rfl, rfl, rfl, Nat.le_refl _, fun _ _ _ => rfl⟩ (.inr ⟨_, hr, rfl, rfl⟩) ⟨hn, .inr ⟨b, n, us.toArray, rfl, h.ge hr, h.blk hr, Nat.le_refl _, by unfold maxLen; omega, by simpa using hn, by simp [← hn]⟩⟩ (.inr (.inl ⟨rfl, by simp⟩))
theorem JQ.rowOf {sz : Nat} {K : Act → World → Prop} (id : Nat) {b n esz : Nat} {us : List Value} (hr : lr L id = some (.cells b us e (0, 0))) (hn : us.length = n * esz) (hm : n ≤ 140737488355328) (h : JQ w0 sz F ((id, .row (.slice (some ⟨b, 0, none⟩) n n) e esz n us) :: L) K) : JQ w0 sz F L K :=
  fun a w h1 h2 h3 h4 => h a w h1 h2 h3 (h4.rowOf id hr hn hm rfl)

/-! ### built values: the operands, then the model's own reckoning, closed by the kernel -/
def evp (F : FL) (ps : List (Nat × Operand)) (vs : List (Nat × Value)) : Prop := ps.map (fun p => (p.1, evk F p.2)) = vs.map (fun p => (p.1, some p.2))
theorem evp_nil : evp F [] [] := rfl
theorem evp_cons {i : Nat} {x : Operand} {v : Value} {xs : List (Nat × Operand)} {vs : List (Nat × Value)} (h : evk F x = some v) (r : evp F xs vs) : evp F ((i, x) :: xs) ((i, v) :: vs) := by unfold evp at *; simp [h, r]
theorem evp_eval {o : Oper} {a : Act} (hF : FrOn o F a) : ∀ {ps : List (Nat × Operand)} {vs : List (Nat × Value)}, evp F ps vs → (∀ p ∈ ps, p.2 ∈ o.op.operands) → ps.map (fun p => (p.1, a.eval p.2)) = vs
  | [], vs, h, _ => by cases vs <;> simp_all [evp]
  | x :: xs, [], h, _ => by simp [evp] at h
  | x :: xs, v :: vs, h, hm => by
    simp only [evp, List.map_cons, List.cons.injEq, Prod.mk.injEq] at h
    simp only [List.map_cons]
    rw [hF x.2 (hm x (by simp)) v.2 h.1.2, evp_eval hF h.2 fun z hz => hm z (by simp [hz]), h.1.1]
theorem JV.build {ps : List (Nat × Operand)} {vs : List (Nat × Value)} (hp : evp F ps vs) (h : ∀ w, (Instr.build T vs.toArray).run P w = .ok v w) : JV P w0 F L ⟨dst, .build T ps.toArray, ty, pos, af, gd⟩ v := by
  refine JV.of fun a w hF hL => ?_
  have he := evp_eval hF hp (fun p hp => by simp [Op.operands]; exact ⟨p.1, hp⟩)
  have e1 : (ps.toArray.map fun p => (p.1, a.eval p.2)) = vs.toArray := by rw [← he]; simp
  simp only [execOp]
  have e2 : (ps.toArray.map fun (x : Nat × Operand) => match x with | (i, x) => (i, a.eval x)) = vs.toArray := e1
  rw [e2]
  simp [h]
theorem JO.buildSlice (id : Nat) {n : Nat} {ps : List (Nat × Operand)} {vs : List (Nat × Value)} {us : List Value} (hp : evp F ps vs)
    (h : ∀ w, (Instr.buildSlice T n vs.toArray).run P w = .ok (.slice (some ⟨w.heap.size, 0, none⟩) n n) { w with heap := w.heap.push (.cells us.toArray e) }) :
    JO P w0 F L ⟨dst, .buildSlice T n ps.toArray, ty, pos, af, gd⟩ (fun v' w' => ∃ b : Nat, v' = .slice (some ⟨b, 0, none⟩) n n ∧ MemOk w0 ((id, .cells b us e (0, 0)) :: L) w') := by
  intro a w hF hL
  have he := evp_eval hF hp (fun p hp => by simp [Op.operands]; exact ⟨p.1, hp⟩)
  have e1 : (ps.toArray.map fun p => (p.1, a.eval p.2)) = vs.toArray := by rw [← he]; simp
  refine Yields.of_run (v := .slice (some ⟨w.heap.size, 0, none⟩) n n) (w' := { w with heap := w.heap.push (.cells us.toArray e) }) ?_ ⟨_, rfl, hL.new id us e⟩
  simp only [execOp]
  have e2 : (ps.toArray.map fun (x : Nat × Operand) => match x with | (i, x) => (i, a.eval x)) = vs.toArray := e1
  rw [e2]
  simp [h]

/-! ### arrays of whole numbers held against each other -/
theorem run_eqArr' {k : IntKind} {n : Nat} {el : TypeId} (hT : ∀ w, (underlying T).run P w = .ok (.array n el) w) (hsz : ∀ w, (sizeOf el).run P w = .ok 1 w) (hag : ∀ w, (isAgg el).run P w = .ok false w)
    (xs ys : List Int) (hx : xs.length = n) (hy : ys.length = n) (D : Nat) (hD : ∀ (a b : Int) (w : World), (Op.equalIn D el (.int k a) (.int k b)).run P w = .ok (a == b) w) (w : World) :
    (Op.equalIn (D + 1) T (.agg (xs.map (Value.int k)).toArray) (.agg (ys.map (Value.int k)).toArray)).run P w = .ok (decide (xs = ys)) w := by
  have key : ∀ (m i : Nat), i + m = n → (∀ j, j < i → xs[j]? = ys[j]?) →
      ((forIn (List.range' i m) ((none, ()) : Option Bool × Unit) (fun i (_ : Option Bool × Unit) => do
        let x ← part el (xs.map (Value.int k)).toArray (i * 1)
        let y ← part el (ys.map (Value.int k)).toArray (i * 1)
        let b ← Op.equalIn D el x y
        if (!b) = true then pure (ForInStep.done (some false, ())) else pure (ForInStep.yield (none, ()))) : Sem (Option Bool × Unit)).run P w) = .ok (if decide (xs = ys) then (none, ()) else (some false, ())) w := by
    intro m
    induction m with
    | zero =>
      intro i hi hj
      have : xs = ys := List.ext_getElem? fun j => by
        by_cases h : j < i
        · exact hj j h
        · rw [List.getElem?_eq_none (by omega), List.getElem?_eq_none (by omega)]
      simp [this]
    | succ m ih =>
      intro i hi hj
      have h1 : i < xs.length := by omega
      have h2 : i < ys.length := by omega
      rw [List.range'_succ, List.forIn_cons]
      have p1 : (part el (xs.map (Value.int k)).toArray (i * 1)).run P w = .ok (.int k xs[i]) w := by simp [part, hag, h1]
      have p2 : (part el (ys.map (Value.int k)).toArray (i * 1)).run P w = .ok (.int k ys[i]) w := by simp [part, hag, h2]
      have p3 := hD xs[i] ys[i] w
      simp only [Sem.run_bind, p1, p2, p3, Result.andThen_ok]
      by_cases he : xs[i] = ys[i]
      · have he' : (xs[i] == ys[i]) = true := by simpa using he
        rw [he']
        simp only [Bool.not_true, Bool.false_eq_true, if_false, Sem.run_pure, Result.andThen_ok]
        exact ih (i + 1) (by omega) (fun j hj' => by
          rcases Nat.lt_succ_iff_lt_or_eq.1 hj' with h | h
          · exact hj j h
          · subst h; simp [h1, h2, he])
      · have he' : (xs[i] == ys[i]) = false := by simpa using he
        have hne : xs ≠ ys := fun e => he (by subst e; rfl)
        rw [he']
        simp [hne]
  have h0 := key n 0 (by omega) (fun j hj => by omega)
  simp only [Op.equalIn, Sem.run_bind, hT, Result.andThen_ok, hsz]
  rw [Std.Legacy.Range.forIn_eq_forIn_range']
  have hsize : Std.Legacy.Range.size [:n] = n := by simp [Std.Legacy.Range.size]
  simp only [hsize]
  rw [h0]
  by_cases h : xs = ys <;> simp [h]
theorem run_eqArr {k : IntKind} {n : Nat} {el : TypeId} (hT : ∀ w, (underlying T).run P w = .ok (.array n el) w) (hel : P.underlying el = some (.int k)) (hsz : ∀ w, (sizeOf el).run P w = .ok 1 w) (hag : ∀ w, (isAgg el).run P w = .ok false w)
    (xs ys : List Int) (hx : xs.length = n) (hy : ys.length = n) (w : World) : (Op.equal T (.agg (xs.map (Value.int k)).toArray) (.agg (ys.map (Value.int k)).toArray)).run P w = .ok (decide (xs = ys)) w :=
  run_eqArr' hT hsz hag xs ys hx hy 9999 (fun a b w => run_equalIn_int w 9998 el k k a b hel) w
theorem eqArr_bytes (xs ys : List UInt8) : (decide (xs.map (fun b => (b.toNat : Int)) = ys.map (fun b => (b.toNat : Int)))) = decide (xs = ys) := by
  rw [Bool.eq_iff_iff]
  simp only [decide_eq_true_eq]
  constructor
  · intro h
    exact List.map_inj_right (fun a b h => UInt8.toNat_inj.1 (by omega)) |>.1 h
  · intro h; rw [h]
theorem b8_map (xs : List UInt8) : xs.map b8 = (xs.map (fun b => (b.toNat : Int))).map (Value.int .u8) := by simp [b8]
theorem run_eqGuard_agg (op : BinOp) (a b : Array Value) (h : P.eqGuardType P.depth T = false) (w : World) : (eqGuard op T x y (.agg a) (.agg b)).run P w = .ok () w := by
  unfold eqGuard; split <;> simp [h]
/-- two arrays of bytes -/
theorem JV.eqlBytes {n : Nat} {el : TypeId} {xs ys : List UInt8} (hx : evk F x = some (.agg (xs.map b8).toArray)) (hy : evk F y = some (.agg (ys.map b8).toArray)) (hT : ∀ w, (underlying T).run P w = .ok (.array n el) w) (hel : P.underlying el = some (.int .u8)) (hsz : ∀ w, (sizeOf el).run P w = .ok 1 w) (hag : ∀ w, (isAgg el).run P w = .ok false w)
    (hg : P.eqGuardType P.depth T = false) (h1 : xs.length = n) (h2 : ys.length = n) : JV P w0 F L ⟨dst, .binOp .eql T x y u', ty, pos, af, gd⟩ (.bool (decide (xs = ys))) := by
  refine JV.of fun a w hF hL => ?_
  have e1 := hF.at hx (by simp [Op.operands]); have e2 := hF.at hy (by simp [Op.operands])
  have hr := run_eqArr hT hel hsz hag (xs.map (fun b => (b.toNat : Int))) (ys.map (fun b => (b.toNat : Int))) (by simpa using h1) (by simpa using h2) w
  rw [← b8_map, ← b8_map, eqArr_bytes] at hr
  simp only [execOp, e1, e2, Sem.run_bind, run_eqGuard_agg _ _ _ hg, Result.andThen_ok, binOp, hr, Sem.run_pure]
theorem JV.neqBytes {n : Nat} {el : TypeId} {xs ys : List UInt8} (hx : evk F x = some (.agg (xs.map b8).toArray)) (hy : evk F y = some (.agg (ys.map b8).toArray)) (hT : ∀ w, (underlying T).run P w = .ok (.array n el) w) (hel : P.underlying el = some (.int .u8)) (hsz : ∀ w, (sizeOf el).run P w = .ok 1 w) (hag : ∀ w, (isAgg el).run P w = .ok false w)
    (hg : P.eqGuardType P.depth T = false) (h1 : xs.length = n) (h2 : ys.length = n) : JV P w0 F L ⟨dst, .binOp .neq T x y u', ty, pos, af, gd⟩ (.bool (decide (xs ≠ ys))) := by
  refine JV.of fun a w hF hL => ?_
  have e1 := hF.at hx (by simp [Op.operands]); have e2 := hF.at hy (by simp [Op.operands])
  have hr := run_eqArr hT hel hsz hag (xs.map (fun b => (b.toNat : Int))) (ys.map (fun b => (b.toNat : Int))) (by simpa using h1) (by simpa using h2) w
  rw [← b8_map, ← b8_map, eqArr_bytes] at hr
  simp only [execOp, e1, e2, Sem.run_bind, run_eqGuard_agg _ _ _ hg, Result.andThen_ok, binOp, hr, Sem.run_pure, decide_not]
theorem JV.eqlB {b1 b2 : Bool} (hx : evk F x = some (.bool b1)) (hy : evk F y = some (.bool b2)) (hT : P.underlying T = some .bool) : JV P w0 F L ⟨dst, .binOp .eql T x y u', ty, pos, af, gd⟩ (.bool (b1 == b2)) := by
  refine JV.of fun a w hF hL => ?_
  have e1 := hF.at hx (by simp [Op.operands]); have e2 := hF.at hy (by simp [Op.operands])
  have hg : (eqGuard .eql T x y (.bool b1) (.bool b2)).run P w = .ok () w := by unfold eqGuard; split <;> simp
  have hr : (Op.equal T (.bool b1) (.bool b2)).run P w = .ok (b1 == b2) w := run_equalIn_bool' w 9999 T b1 b2 hT
  simp only [execOp, e1, e2, Sem.run_bind, hg, Result.andThen_ok, binOp, hr, Sem.run_pure]

/-! ### copy(dst of an array variable, string) -/
theorem JO.copyStr (id : Nat) {s : Operand} {dT sT el : TypeId} {n c k : Nat} (hd : evk F s = some (.slice (some ⟨b, off, none⟩) n c)) (hx : evk F x = some (str l)) (hr : lr L id = some (.cells b cs e (0, 0)))
    (hT : ∀ w, (underlying dT).run P w = .ok (.slice el) w) (hsz : ∀ w, (sizeOf el).run P w = .ok 1 w) (hk : Nat.min l.length n = k) (hfit : off + k ≤ cs.length) :
    JO P w0 F L ⟨dst, .call ⟨.builtin .copy, #[s, x], #[dT, sT]⟩, ty, pos, af, gd⟩ (fun v' w' => ∃ _ : Unit, v' = .int .i64 (k : Int) ∧ MemOk w0 ((id, .cells b (cs.take off ++ (l.take k).map b8 ++ cs.drop (off + k)) e (0, 0)) :: L) w') := by
  intro a w hF hL
  have e1 := hF.at hd (by simp [Op.operands, Call.operands])
  have e2 := hF.at hx (by simp [Op.operands, Call.operands])
  have hb := hL.blk hr
  have hkl : k ≤ l.length := by rw [← hk]; exact Nat.min_le_left _ _
  have hlen : ((l.take k).map b8).length = k := by simp; omega
  have hst := run_storeCells_at P b off e ((l.take k).map b8) 0 cs.toArray w hb (by simp; omega) (by intro v hv; obtain ⟨z, _, rfl⟩ := List.mem_map.1 hv; rfl)
  simp only [Nat.add_zero, hlen] at hst
  have hfc : (Builtin.firstCells 1 k (str l)).run P w = .ok ((l.take k).map b8).toArray w := by
    have : (⟨l.toArray⟩ : ByteArray).extract 0 k = ⟨(l.take k).toArray⟩ := by apply ByteArray.ext; simp
    simp only [Builtin.firstCells, str, this, Sem.run_pure]
    congr 1
    apply Array.ext'
    simp [Function.comp_def]
    rfl
  have hlo : (Builtin.lenOf (str l)).run P w = .ok l.length w := by simp [Builtin.lenOf, str]; rfl
  refine Yields.of_run (v := .int .i64 (k : Int)) (w' := w.setRow b (cs.take off ++ (l.take k).map b8 ++ cs.drop (off + k)).toArray) ?_ ⟨(), rfl, ?_⟩
  · generalize (cs.take off ++ (l.take k).map b8 ++ cs.drop (off + k)).toArray = R at hst ⊢
    have hst' := hst
    rw [List.map_take] at hst'
    simp [execOp, resolve, invoke, builtin, Builtin.copy_, e1, e2, hT, hsz, hlo, hk, hfc, hst', goInt]
  · exact hL.put (grown_setRow w b _) (.inr ⟨_, hr, rfl, rfl⟩) ⟨hL.ge hr, setRow_heap w b _ _ e _ hb⟩ (.inr (.inl ⟨rfl, by simp⟩))

/-! ### min, max -/
theorem JV.min2 {k : IntKind} {m n : Int} {ats : Array TypeId} (hx : evk F x = some (.int k m)) (hy : evk F y = some (.int k n)) : JV P w0 F L ⟨dst, .call ⟨.builtin .min, #[x, y], ats⟩, ty, pos, af, gd⟩ (.int k (if n < m then n else m)) := by
  refine JV.of fun a w hF hL => ?_
  have e1 := hF.at hx (by simp [Op.operands, Call.operands]); have e2 := hF.at hy (by simp [Op.operands, Call.operands])
  simp [execOp, resolve, invoke, builtin, Builtin.min_, Builtin.min2, e1, e2]

/-! ### function values -/
theorem JV.mkFunc {fn : Fn} {xs ys : List Operand} {vs us : List Value} (h1 : evs F xs vs) (h2 : evs F ys us) : JV P w0 F L ⟨dst, .makeFunc fn xs.toArray ys.toArray, ty, pos, af, gd⟩ (.func fn vs.toArray us.toArray) := by
  refine JV.of fun a w hF hL => ?_
  have e1 : xs.map a.eval = vs := evs_eval hF h1 (fun z hz => by simp [Op.operands, hz])
  have e2 : ys.map a.eval = us := evs_eval hF h2 (fun z hz => by simp [Op.operands, hz])
  simp [execOp, Instr.makeFunc, e1, e2]
/-- A call of a function value: what it captured stands behind the arguments. -/
theorem JO.callv {g : Operand} {f : FuncId} {xs : List Operand} {ats : Array TypeId} {vs fs us : List Value} {R : Value → World → Prop} (hg : evk F g = some (.func (.func f) fs.toArray us.toArray)) (hb : HasBody P f) (hxs : evs F xs vs)
    (h : ∀ w, MemOk w0 L w → Calls P f (fs ++ vs ++ us).toArray w (fun e w' => ∃ v, e = .returned v ∧ R v w')) : JO P w0 F L ⟨dst, .call ⟨.value g, xs.toArray, ats⟩, ty, pos, af, gd⟩ R := by
  intro a w hF hL
  have he : xs.map a.eval = vs := evs_eval hF hxs (fun z hz => by simp [Op.operands, Call.operands, hz])
  have e2 := hF.at hg (by simp [Op.operands, Call.operands])
  refine Yields.of_enter (f := f) (args := (fs ++ vs ++ us).toArray) (w' := w) ?_ (h w hL)
  have e1 : (xs.toArray.map a.eval) = vs.toArray := by rw [← he]; simp
  simp only [execOp, resolve, e1, Sem.run_bind, e2]
  simp [Deferred.ofValue, invoke, hb _ _]
end
end Go.Fw
end
section
open Go.RowKit
set_option linter.unusedVariables false
set_option linter.unusedSimpArgs false
set_option linter.unusedSectionVars false
namespace Go.Fw

/-! A REGION THAT DRAWS ITS ORDER: one look at each operation serves every order.
For each operation: its value and what it adds to the memory, as functions of what was chosen (an environment); which resources it reads, which it writes, on whose choices it hangs, who comes before it. -/

/-- What an operation that makes something has chosen: numbers and a value. -/
abbrev Env := Nat → Nat × Nat × Value
def upd (e : Env) (i : Nat) (c : Nat × Nat × Value) : Env := fun j => if j = i then c else e j
theorem upd_same (e : Env) (i : Nat) (c) : upd e i c i = c := by simp [upd]
theorem upd_ne (e : Env) {i j : Nat} (h : j ≠ i) (c) : upd e i c j = e j := by simp [upd, h]
theorem upd_self (e : Env) (i : Nat) : upd e i (e i) = e := by funext j; unfold upd; split <;> simp_all

structure Spec where
  rd : List Nat
  wr : List Nat
  ch : List Nat
  an : List Nat

def putF (d : Option Tmp) (v : Value) (F : FL) : FL := match d with | some d => (d, v) :: F | none => F
theorem lk_putF (d : Option Tmp) (v : Value) (F : FL) (t : Nat) : lk (putF d v F) t = if d = some t then some v else lk F t := by
  cases d with
  | none => simp [putF]
  | some d => simp only [putF, lk_cons, Option.some.injEq]
theorem lr_append (A L : ML) (i : Nat) : lr (A ++ L) i = (lr A i).or (lr L i) := by
  induction A with
  | nil => simp [lr]
  | cons p A ih =>
    obtain ⟨d, r⟩ := p
    rw [List.cons_append, lr_cons, lr_cons, ih]
    split <;> simp

/-- the slots that an operation looks at: operands and guard -/
def looks (ops : List Oper) (o : Oper) : List Nat :=
  (o.op.operands.toList.filterMap fun | .tmp t => some t | _ => none) ++ (match o.guard with | some (j, _) => ((ops[j]?).bind (·.dst)).toList | none => [])

/-- Two operations that no edge orders touch nothing in common. -/
def freeOf (ops : List Oper) (o o' : Oper) (s s' : Spec) : Bool :=
  (match o.dst with | some d => !(looks ops o').contains d && o'.dst != some d | none => true) &&
  (match o'.dst with | some d => !(looks ops o).contains d | none => true) &&
  (s.wr.all fun i => !s'.rd.contains i && !s'.wr.contains i) && (s'.wr.all fun i => !s.rd.contains i)
def direct (o : Oper) (i : Nat) : Bool := o.after.any fun e => Region.binds .any e && e.on == i
/-- The check, by the kernel. -/
def chk (ops : List Oper) (M : List Spec) : Bool :=
  (List.range ops.length).all fun j =>
    match ops[j]?, M[j]? with
    | some oj, some sj =>
      (oj.after.all fun e => !Region.binds .any e || decide (e.on < j)) &&
      (sj.an.all fun i => direct oj i || (List.range j).any fun k => direct oj k && (match M[k]? with | some sk => sk.an.contains i | none => false)) &&
      (sj.ch.all fun c => sj.an.contains c) &&
      (List.range j).all fun i =>
        match ops[i]?, M[i]? with
        | some oi, some si => sj.an.contains i || freeOf ops oi oj si sj
        | _, _ => false
    | _, _ => false

section
variable {P : Program} {w0 : World} {sz : Nat}

/-- whether operation o comes to run, by its guard -/
def runs (ops : List Oper) (F : FL) (o : Oper) (r : Bool) : Prop :=
  match o.guard with
  | none => r = true
  | some (j, c) => ∃ dj b, (ops[j]?).bind (·.dst) = some dj ∧ lk F dj = some (.bool b) ∧ r = (b == c)

/-- What is asked of one operation. -/
structure Ob (P : Program) (w0 : World) (ops : List Oper) (k : Nat) (o : Oper) (v : Env → Value) (a : Env → ML) (s : Spec) (F : Env → FL) (L : Env → ML) : Prop where
  dep : ∀ e e' : Env, (∀ j, j = k ∨ j ∈ s.ch → e j = e' j) → v e = v e' ∧ a e = a e'
  ids : ∀ e id, id ∉ s.wr → lr (a e) id = none
  sel : ∀ cs b, o.op ≠ .select cs b
  go : ∀ (e : Env) (L' : ML), (∀ id, id ∈ s.rd ∨ id ∈ s.wr → lr L' id = lr (L e) id) → ∃ r : Bool, runs ops (F e) o r ∧
    (r = true → JO P w0 (F e) L' o (fun u w' => ∃ c, u = v (upd e k c) ∧ MemOk w0 (a (upd e k c) ++ L') w')) ∧ (r = false → v e = undef ∧ a e = [])

def RObs (P : Program) (w0 : World) (ops : List Oper) : Nat → List Oper → List (Env → Value) → List (Env → ML) → List Spec → (Env → FL) → (Env → ML) → Prop
  | k, o :: os, v :: vs, a :: as, s :: ss, F, L => Ob P w0 ops k o v a s F L ∧ RObs P w0 ops (k + 1) os vs as ss (fun e => putF o.dst (v e) (F e)) (fun e => a e ++ L e)
  | _, [], [], [], [], _, _ => True
  | _, _, _, _, _, _, _ => False
/-- slots and memory behind the operations, in the order of the text -/
def endF : List Oper → List (Env → Value) → Env → FL → FL
  | o :: os, v :: vs, e, F => endF os vs e (putF o.dst (v e) F)
  | _, _, _, F => F
def endL : List (Env → ML) → Env → ML → ML
  | a :: as, e, L => endL as e (a e ++ L)
  | [], _, L => L

/-! The proof: everything by number. -/
/-- slots after those of the first k operations that S names -/
def frN (D : Nat → Option Tmp) (V : Nat → Env → Value) (S : Nat → Bool) (e : Env) : Nat → FL → FL
  | 0, F => F
  | k + 1, F => if S k then putF (D k) (V k e) (frN D V S e k F) else frN D V S e k F
def meN (A : Nat → Env → ML) (S : Nat → Bool) (e : Env) : Nat → ML → ML
  | 0, L => L
  | k + 1, L => if S k then A k e ++ meN A S e k L else meN A S e k L

theorem frN_same {D : Nat → Option Tmp} {V : Nat → Env → Value} {S S' : Nat → Bool} {e e' : Env} {F : FL} {t : Nat} : ∀ k, (∀ j, j < k → D j = some t → S j = S' j) → (∀ j, j < k → S j = true → V j e = V j e') → lk (frN D V S e k F) t = lk (frN D V S' e' k F) t
  | 0, _, _ => rfl
  | k + 1, h, hv => by
    have ih := frN_same (F := F) k (fun j hj => h j (by omega)) (fun j hj => hv j (by omega))
    simp only [frN]
    by_cases hd : D k = some t
    · have hs := h k (by omega) hd
      rw [← hs]
      by_cases hsk : S k = true
      · rw [if_pos hsk, if_pos hsk, lk_putF, lk_putF, if_pos hd, if_pos hd, hv k (by omega) hsk]
      · rw [if_neg hsk, if_neg hsk]; exact ih
    · have e1 : lk (if S k = true then putF (D k) (V k e) (frN D V S e k F) else frN D V S e k F) t = lk (frN D V S e k F) t := by
        split
        · rw [lk_putF, if_neg hd]
        · rfl
      have e2 : lk (if S' k = true then putF (D k) (V k e') (frN D V S' e' k F) else frN D V S' e' k F) t = lk (frN D V S' e' k F) t := by
        split
        · rw [lk_putF, if_neg hd]
        · rfl
      rw [e1, e2]; exact ih
theorem frN_stop {D : Nat → Option Tmp} {V : Nat → Env → Value} {S : Nat → Bool} {e : Env} {F : FL} {t : Nat} {i : Nat} : ∀ m, (∀ j, i ≤ j → j < i + m → S j = true → D j ≠ some t) → lk (frN D V S e (i + m) F) t = lk (frN D V S e i F) t
  | 0, _ => rfl
  | m + 1, h => by
    have ih := frN_stop (V := V) (e := e) (F := F) m (fun j h1 h2 => h j h1 (by omega))
    rw [← ih, show i + (m + 1) = (i + m) + 1 from by omega]
    simp only [frN]
    split
    · rename_i hs
      rw [lk_putF, if_neg (h (i + m) (by omega) (by omega) hs)]
    · rfl
theorem meN_same {A : Nat → Env → ML} {S S' : Nat → Bool} {e e' : Env} {L : ML} {id : Nat} : ∀ k, (∀ j, j < k → S j = S' j ∨ (lr (A j e) id = none ∧ lr (A j e') id = none)) → (∀ j, j < k → S j = true → A j e = A j e' ∨ (lr (A j e) id = none ∧ lr (A j e') id = none)) → lr (meN A S e k L) id = lr (meN A S' e' k L) id
  | 0, _, _ => rfl
  | k + 1, h, hv => by
    have ih := meN_same (L := L) k (fun j hj => h j (by omega)) (fun j hj => hv j (by omega))
    simp only [meN]
    have drop : ∀ (s : Bool) (x : Env) (R : ML), lr (A k x) id = none → lr (if s = true then A k x ++ R else R) id = lr R id := by
      intro s x R hn; split
      · rw [lr_append, hn]; rfl
      · rfl
    rcases h k (by omega) with hs | ⟨h1, h2⟩
    · by_cases hsk : S k = true
      · rcases hv k (by omega) hsk with ha | ⟨h1, h2⟩
        · rw [if_pos hsk, if_pos (hs ▸ hsk), lr_append, lr_append, ha, ih]
        · rw [drop _ _ _ h1, drop _ _ _ h2]; exact ih
      · rw [if_neg hsk, if_neg (hs ▸ hsk)]; exact ih
    · rw [drop _ _ _ h1, drop _ _ _ h2]; exact ih
theorem meN_stop {A : Nat → Env → ML} {S : Nat → Bool} {e : Env} {L : ML} {id : Nat} {i : Nat} : ∀ m, (∀ j, i ≤ j → j < i + m → S j = true → lr (A j e) id = none) → lr (meN A S e (i + m) L) id = lr (meN A S e i L) id
  | 0, _ => rfl
  | m + 1, h => by
    have ih := meN_stop (L := L) m (fun j h1 h2 => h j h1 (by omega))
    rw [← ih, show i + (m + 1) = (i + m) + 1 from by omega]
    simp only [meN]
    split
    · rename_i hs
      rw [lr_append, h (i + m) (by omega) (by omega) hs]; rfl
    · rfl

/-- Everything that the proof wants, by number. -/
structure Good (P : Program) (w0 : World) (ops : List Oper) (V : Nat → Env → Value) (A : Nat → Env → ML) (M : Nat → Spec) (F : FL) (L : ML) : Prop where
  ob : ∀ i o, ops[i]? = some o → Ob P w0 ops i o (V i) (A i) (M i) (fun e => frN (fun k => (ops[k]?).bind (·.dst)) V (fun _ => true) e i F) (fun e => meN A (fun _ => true) e i L)
  back : ∀ j o, ops[j]? = some o → ∀ e ∈ o.after, Region.binds .any e = true → e.on < j
  an : ∀ j o, ops[j]? = some o → ∀ i ∈ (M j).an, (∃ e ∈ o.after, Region.binds .any e = true ∧ e.on = i) ∨ ∃ k, k < j ∧ (∃ e ∈ o.after, Region.binds .any e = true ∧ e.on = k) ∧ i ∈ (M k).an
  ch : ∀ j o, ops[j]? = some o → ∀ c ∈ (M j).ch, c ∈ (M j).an
  free : ∀ i j oi oj, i < j → ops[i]? = some oi → ops[j]? = some oj → i ∈ (M j).an ∨ freeOf ops oi oj (M i) (M j) = true

theorem freeOf_spec {ops : List Oper} {o o' : Oper} {s s' : Spec} (h : freeOf ops o o' s s' = true) : (∀ d, o.dst = some d → d ∉ looks ops o' ∧ o'.dst ≠ some d) ∧ (∀ d, o'.dst = some d → d ∉ looks ops o) ∧
    (∀ i, i ∈ s.wr → i ∉ s'.rd ∧ i ∉ s'.wr) ∧ (∀ i, i ∈ s'.wr → i ∉ s.rd) := by
  simp only [freeOf, Bool.and_eq_true] at h
  obtain ⟨⟨⟨h1, h2⟩, h3⟩, h4⟩ := h
  refine ⟨fun d hd => ?_, fun d hd => ?_, fun i hi => ?_, fun i hi => ?_⟩
  · simpa [hd] using h1
  · simpa [hd] using h2
  · simpa using List.all_eq_true.1 h3 i hi
  · simpa using List.all_eq_true.1 h4 i hi

theorem ancS {ops : List Oper} {V : Nat → Env → Value} {A : Nat → Env → ML} {M : Nat → Spec} {F : FL} {L : ML} (G : Good P w0 ops V A M F L) {S : Nat → Bool}
    (closed : ∀ j o, ops[j]? = some o → S j = true → ∀ e ∈ o.after, Region.binds .any e = true → S e.on = true) :
    ∀ (j : Nat) (o : Oper), ops[j]? = some o → (∀ e ∈ o.after, Region.binds .any e = true → S e.on = true) → ∀ i ∈ (M j).an, S i = true := by
  intro j
  induction j using Nat.strongRecOn with
  | _ j ih =>
    intro o ho hd i hi
    rcases G.an j o ho i hi with ⟨e, he, hb, rfl⟩ | ⟨k, hk, ⟨e, he, hb, rfl⟩, hi'⟩
    · exact hd e he hb
    · have hlt : j < ops.length := (List.getElem?_eq_some_iff.1 ho).1
      have hk' : ops[e.on]? = some (ops[e.on]'(by omega)) := List.getElem?_eq_getElem (by omega)
      exact ih e.on hk _ hk' (closed e.on _ hk' (hd e he hb)) i hi'

def Inv (w0 : World) (sz : Nat) (ops : List Oper) (V : Nat → Env → Value) (A : Nat → Env → ML) (F : FL) (L : ML) (S : Nat → Bool) (e : Env) (a : Act) (w : World) : Prop :=
  a.tmps.size = sz ∧ a.defers = [] ∧ FrOk (frN (fun k => (ops[k]?).bind (·.dst)) V S e ops.length F) a ∧ MemOk w0 (meN A S e ops.length L) w

theorem Good.step {ops : List Oper} {V : Nat → Env → Value} {A : Nat → Env → ML} {M : Nat → Spec} {F : FL} {L : ML} (G : Good P w0 ops V A M F L) (hdst : ∀ (i : Nat) (o : Oper) (d : Nat), ops[i]? = some o → o.dst = some d → d < sz) {S : Nat → Bool}
    (closed : ∀ j o, ops[j]? = some o → S j = true → ∀ e ∈ o.after, Region.binds .any e = true → S e.on = true) {i : Nat} {o : Oper} (hi : ops[i]? = some o) (hiS : S i = false)
    (hdeps : ∀ e ∈ o.after, Region.binds .any e = true → S e.on = true) {e : Env} {a : Act} {w : World} (inv : Inv w0 sz ops V A F L S e a w) {K : Act → World → Prop} {Q : Exit → Act → World → Prop}
    (hK : ∀ e' a' w', Inv w0 sz ops V A F L (fun j => S j || j == i) e' a' w' → K a' w') : wpOp P ops.toArray Q i K a w := by
  obtain ⟨hs, hdf, hF, hL⟩ := inv
  have hilt : i < ops.length := (List.getElem?_eq_some_iff.1 hi).1
  have hanc := ancS G closed i o hi hdeps
  -- whoever is not ordered with i is free
  have before : ∀ j oj, j < i → ops[j]? = some oj → S j = false → freeOf ops oj o (M j) (M i) = true := fun j oj hj hoj hSj => by
    rcases G.free j i oj o hj hoj hi with h | h
    · have := hanc j h; rw [hSj] at this; cases this
    · exact h
  have behind : ∀ j oj, i < j → ops[j]? = some oj → S j = true → freeOf ops o oj (M i) (M j) = true := fun j oj hj hoj hSj => by
    rcases G.free i j o oj hj hi hoj with h | h
    · have := ancS G closed j oj hoj (closed j oj hoj hSj) i h; rw [hiS] at this; cases this
    · exact h
  have look : ∀ t ∈ looks ops o, lk (frN (fun k => (ops[k]?).bind (·.dst)) V S e ops.length F) t = lk (frN (fun k => (ops[k]?).bind (·.dst)) V (fun _ => true) e i F) t := by
    intro t ht
    rw [show ops.length = i + (ops.length - i) from by omega, frN_stop]
    · refine frN_same i (fun j hj hd => ?_) (fun _ _ _ => rfl)
      cases hSj : S j with
      | true => rfl
      | false =>
        have hoj : ops[j]? = some (ops[j]'(by omega)) := List.getElem?_eq_getElem (by omega)
        rw [hoj] at hd
        exact absurd ht ((freeOf_spec (before j _ hj hoj hSj)).1 t hd).1
    · intro j h1 h2 hSj hd
      have hne : i ≠ j := fun h => by subst h; rw [hiS] at hSj; cases hSj
      have hoj : ops[j]? = some (ops[j]'(by omega)) := List.getElem?_eq_getElem (by omega)
      rw [hoj] at hd
      exact (freeOf_spec (behind j _ (by omega) hoj hSj)).2.1 t hd ht
  have ob := G.ob i o hi
  have idn : ∀ j oj, ops[j]? = some oj → ∀ x id, id ∉ (M j).wr → lr (A j x) id = none := fun j oj hoj => (G.ob j oj hoj).ids
  have mem : ∀ id, id ∈ (M i).rd ∨ id ∈ (M i).wr → lr (meN A S e ops.length L) id = lr (meN A (fun _ => true) e i L) id := by
    intro id hid
    rw [show ops.length = i + (ops.length - i) from by omega, meN_stop]
    · refine meN_same i (fun j hj => ?_) (fun _ _ _ => .inl rfl)
      cases hSj : S j with
      | true => exact .inl rfl
      | false =>
        have hoj : ops[j]? = some (ops[j]'(by omega)) := List.getElem?_eq_getElem (by omega)
        have hn : id ∉ (M j).wr := fun hw => by
          have := (freeOf_spec (before j _ hj hoj hSj)).2.2.1 id hw
          rcases hid with h | h
          · exact this.1 h
          · exact this.2 h
        exact .inr ⟨idn j _ hoj _ _ hn, idn j _ hoj _ _ hn⟩
    · intro j h1 h2 hSj
      have hne : i ≠ j := fun h => by subst h; rw [hiS] at hSj; cases hSj
      have hoj : ops[j]? = some (ops[j]'(by omega)) := List.getElem?_eq_getElem (by omega)
      refine idn j _ hoj _ _ fun hw => ?_
      have hf := freeOf_spec (behind j _ (by omega) hoj hSj)
      rcases hid with h | h
      · exact hf.2.2.2 id hw h
      · exact (hf.2.2.1 id h).2 hw
  obtain ⟨r, hr, hT, hN⟩ := ob.go e _ mem
  -- the values of those that have come up stay as they are
  have keep : ∀ c j, S j = true → j < ops.length → V j e = V j (upd e i c) ∧ A j e = A j (upd e i c) := by
    intro c j hSj hj
    have hoj : ops[j]? = some (ops[j]'hj) := List.getElem?_eq_getElem hj
    refine (G.ob j _ hoj).dep _ _ fun k hk => ?_
    have : k ≠ i := fun h => by
      subst h
      rcases hk with rfl | hk
      · rw [hiS] at hSj; cases hSj
      · have := ancS G closed j _ hoj (closed j _ hoj hSj) k (G.ch j _ hoj k hk)
        rw [hiS] at this; cases this
    rw [upd_ne e this]
  have fin : ∀ c w', MemOk w0 (A i (upd e i c) ++ meN A S e ops.length L) w' → Inv w0 sz ops V A F L (fun j => S j || j == i) (upd e i c) (a.put o.dst (V i (upd e i c))) w' := by
    intro c w' hM
    refine ⟨by rw [size_put]; exact hs, by rw [defers_put]; exact hdf, ?_, ?_⟩
    · intro t v ht
      have key : lk (frN (fun k => (ops[k]?).bind (·.dst)) V (fun j => S j || j == i) (upd e i c) ops.length F) t = if o.dst = some t then some (V i (upd e i c)) else lk (frN (fun k => (ops[k]?).bind (·.dst)) V S e ops.length F) t := by
        by_cases hd : o.dst = some t
        · rw [if_pos hd, show ops.length = (i + 1) + (ops.length - (i + 1)) from by omega, frN_stop]
          · simp only [frN, beq_self_eq_true, Bool.or_true, if_true]
            rw [lk_putF, hi]
            simp [hd]
          · intro j h1 h2 hSj hdj
            have hoj : ops[j]? = some (ops[j]'(by omega)) := List.getElem?_eq_getElem (by omega)
            have hne : (j == i) = false := by simp; omega
            simp only [hne, Bool.or_false] at hSj
            rw [hoj] at hdj
            exact ((freeOf_spec (behind j _ (by omega) hoj hSj)).1 t hd).2 hdj
        · rw [if_neg hd]
          refine (frN_same ops.length (fun j hj hdj => ?_) (fun j hj hSj => (keep c j hSj hj).1)).symm
          have : (j == i) = false := by
            rw [beq_eq_false_iff_ne]
            intro h; subst h; rw [hi] at hdj; exact hd hdj
          simp [this]
      rw [key] at ht
      have hoi : ∀ d, o.dst = some d → d < a.tmps.size := fun d hd => by rw [hs]; exact hdst i o d hi hd
      cases hod : o.dst with
      | none =>
        rw [hod] at ht
        simp only [Act.put]
        exact hF t v (by simpa using ht)
      | some d =>
        rw [hod] at ht
        have := (hF.put (hoi d hod) (V i (upd e i c))) t v (by rw [lk_cons]; simpa using ht)
        simpa [Act.put] using this
    · refine hM.sub fun id r hr => ?_
      have key : lr (meN A (fun j => S j || j == i) (upd e i c) ops.length L) id = lr (A i (upd e i c) ++ meN A S e ops.length L) id := by
        rw [lr_append]
        have hsame : lr (meN A (fun j => S j || j == i) (upd e i c) i L) id = lr (meN A S e i L) id := by
          refine (meN_same i (fun j hj => .inl ?_) (fun j hj hSj => .inl (keep c j hSj (by omega)).2)).symm
          have : (j == i) = false := by simp; omega
          simp [this]
        by_cases hw : id ∈ (M i).wr
        · have st : ∀ (m : Nat) (S' : Nat → Bool) (x : Env), (∀ j, i < j → j < ops.length → S' j = true → S j = true) → lr (meN A S' x ops.length L) id = lr (meN A S' x (i + 1) L) id := by
            intro m S' x hS'
            rw [show ops.length = (i + 1) + (ops.length - (i + 1)) from by omega, meN_stop]
            intro j h1 h2 hSj
            have hoj : ops[j]? = some (ops[j]'(by omega)) := List.getElem?_eq_getElem (by omega)
            exact idn j _ hoj _ _ ((freeOf_spec (behind j _ (by omega) hoj (hS' j (by omega) (by omega) hSj))).2.2.1 id hw).2
          rw [st 0 _ _ (fun j h1 h2 h3 => by have : (j == i) = false := by simp; omega
                                             simpa [this] using h3), st 0 S e (fun _ _ _ h => h)]
          simp only [meN, hiS, beq_self_eq_true, Bool.or_true, if_true, Bool.false_eq_true, if_false]
          rw [lr_append, hsame]
        · have hn : ∀ x, lr (A i x) id = none := fun x => idn i o hi x id hw
          rw [hn, Option.none_or]
          refine (meN_same ops.length (fun j hj => ?_) (fun j hj hSj => .inl (keep c j hSj hj).2)).symm
          by_cases hji : j = i
          · subst hji; exact .inr ⟨hn _, hn _⟩
          · refine .inl ?_
            have : (j == i) = false := by simpa using hji
            simp [this]
      rw [← key]; exact hr
  unfold wpOp
  have hi' : ops.toArray[i]? = some o := by simpa using hi
  rw [hi']
  have hwant : Region.wanted o (yielded ops.toArray a.tmps) = r := by
    unfold runs at hr
    unfold Region.wanted
    cases hg : o.guard with
    | none => rw [hg] at hr; simp only at hr; exact hr.symm
    | some p =>
      obtain ⟨j, c⟩ := p
      rw [hg] at hr
      simp only at hr
      obtain ⟨dj, b, h1, h2, h3⟩ := hr
      have hmem : dj ∈ looks ops o := by
        unfold looks
        rw [hg]
        simp [h1]
      have hl := look dj hmem
      rw [h2] at hl
      have h1' : (ops.toArray[j]?).bind (·.dst) = some dj := by simpa using h1
      simp only [yielded_of h1' hF hl, h3]
      cases b <;> cases c <;> rfl
  simp only [hwant]
  cases r with
  | true =>
    simp only [if_true]
    refine .inl (((hT rfl) a w ?_ hL).wp ?_)
    · intro x hx v hv
      refine hF.eval (x := x) ?_
      cases x with
      | tmp t =>
        have hmem : t ∈ looks ops o := by
          unfold looks
          refine List.mem_append_left _ (List.mem_filterMap.2 ⟨.tmp t, by simpa using hx, rfl⟩)
        simp only [evk] at hv ⊢
        rw [look t hmem]; exact hv
      | _ => exact hv
    · rintro v w' ⟨c, rfl, hM⟩
      exact hK _ _ _ (fin c w' hM)
  | false =>
    obtain ⟨hv, ha⟩ := hN rfl
    have := fin (e i) w (by rw [upd_self, ha]; exact hL)
    rw [upd_self, hv] at this
    simp only [Bool.false_eq_true, if_false]
    exact hK _ _ _ this

theorem Good.any {ops : List Oper} {V : Nat → Env → Value} {A : Nat → Env → ML} {M : Nat → Spec} {F : FL} {L : ML} (G : Good P w0 ops V A M F L) (hdst : ∀ (i : Nat) (o : Oper) (d : Nat), ops[i]? = some o → o.dst = some d → d < sz) {Q : Exit → Act → World → Prop}
    (hQ : ∀ e a w, Inv w0 sz ops V A F L (fun _ => true) e a w → Q .normal a w) : ∀ (fuel : Nat) (listed : Array Bool), listed.size = ops.length → ((List.range ops.length).filter fun i => !listed.getD i false).length ≤ fuel →
    (∀ j o, ops[j]? = some o → listed.getD j false = true → ∀ e ∈ o.after, Region.binds .any e = true → listed.getD e.on false = true) →
    ∀ e a w, Inv w0 sz ops V A F L (fun j => listed.getD j false) e a w → wpAny P .any ops.toArray Q fuel listed a w := by
  intro fuel
  have full : ∀ (listed : Array Bool), listed.size = ops.length → (∀ j, j < ops.length → listed.getD j false = true) → ∀ e a w, Inv w0 sz ops V A F L (fun j => listed.getD j false) e a w → Q .normal a w := by
    intro listed hsz hall e a w inv
    obtain ⟨h1, h2, h3, h4⟩ := inv
    refine hQ e a w ⟨h1, h2, ?_, ?_⟩
    · intro t v ht
      exact h3 t v (by rw [frN_same (S' := fun _ => true) (e' := e) ops.length (fun j hj _ => hall j hj) (fun _ _ _ => rfl)]; exact ht)
    · refine h4.sub fun id r hr => ?_
      rw [meN_same (S' := fun _ => true) (e' := e) ops.length (fun j hj => .inl (hall j hj)) (fun _ _ _ => .inl rfl)]; exact hr
  have stuck : ∀ (listed : Array Bool), listed.size = ops.length → Region.ready .any ops.toArray listed = [] → ∀ j, j < ops.length → listed.getD j false = true := by
    intro listed hsz hr j
    induction j using Nat.strongRecOn with
    | _ j ih =>
      intro hj
      cases hl : listed.getD j false with
      | true => rfl
      | false =>
        have hoj : ops[j]? = some (ops[j]'hj) := List.getElem?_eq_getElem hj
        have : j ∈ Region.ready .any ops.toArray listed := mem_ready.2 ⟨by simp [hsz, hj] at hl ⊢; exact hl, ops[j]'hj, by simp, fun e he hb => ih e.on (G.back j _ hoj e he hb) (by have := G.back j _ hoj e he hb; omega)⟩
        rw [hr] at this; cases this
  induction fuel with
  | zero =>
    intro listed hsz hc closed e a w inv
    have hall : ∀ j, j < ops.length → listed.getD j false = true := by
      intro j hj
      cases hl : listed.getD j false with
      | true => rfl
      | false =>
        have hm : j ∈ (List.range ops.length).filter fun i => !listed.getD i false := List.mem_filter.2 ⟨List.mem_range.2 hj, by simp [hl]⟩
        have := List.length_pos_of_mem hm
        omega
    refine ⟨?_, full listed hsz hall e a w inv⟩
    rw [List.eq_nil_iff_forall_not_mem]
    intro j hj
    obtain ⟨h1, o, ho, _⟩ := mem_ready.1 hj
    have hj' : j < ops.length := by have := (Array.getElem?_eq_some_iff.1 ho).1; simpa using this
    have h2 := hall j hj'
    simp [hsz, hj'] at h1 h2
    rw [h1] at h2; cases h2
  | succ fuel ih =>
    intro listed hsz hc closed e a w inv
    refine ⟨fun hr => full listed hsz (stuck listed hsz hr) e a w inv, fun i hi => ?_⟩
    obtain ⟨h1, o, ho, hdeps⟩ := mem_ready.1 hi
    have ho' : ops[i]? = some o := by simpa using ho
    have hilt : i < ops.length := (List.getElem?_eq_some_iff.1 ho').1
    have hiS : listed.getD i false = false := by simp [hsz, hilt] at h1 ⊢; exact h1
    have hset : ∀ j, (listed.setIfInBounds i true).getD j false = (listed.getD j false || j == i) := by
      intro j
      simp only [Array.getD_eq_getD_getElem?, Array.getElem?_setIfInBounds]
      by_cases hji : i = j
      · subst hji; simp [hsz, hilt]
      · rw [if_neg hji]
        have : (j == i) = false := by simp; omega
        simp [this]
    refine G.step hdst closed ho' hiS hdeps inv fun e' a' w' inv' => ?_
    refine ih _ (by simpa using hsz) ?_ ?_ e' a' w' ?_
    · have hm : i ∈ (List.range ops.length).filter fun i => !listed.getD i false := List.mem_filter.2 ⟨List.mem_range.2 hilt, by simp [hiS]⟩
      have hsub : ((List.range ops.length).filter fun j => !(listed.setIfInBounds i true).getD j false) = ((List.range ops.length).filter fun j => !listed.getD j false).erase i := by
        rw [List.Nodup.erase_eq_filter (List.Nodup.sublist List.filter_sublist List.nodup_range), List.filter_filter]
        apply List.filter_congr
        intro j _
        rw [hset]
        cases listed.getD j false <;> cases h : (j == i) <;> simp_all
      rw [hsub, List.length_erase_of_mem hm]
      omega
    · intro j oj hoj hj ed hed hb
      rw [hset] at hj ⊢
      by_cases hji : j = i
      · subst hji
        rw [ho'] at hoj
        cases hoj
        rw [hdeps ed hed hb]; rfl
      · have : (j == i) = false := by simpa using hji
        rw [this, Bool.or_false] at hj
        rw [closed j oj hoj hj ed hed hb]; rfl
    · have : (fun j => (listed.setIfInBounds i true).getD j false) = fun j => listed.getD j false || j == i := funext hset
      rw [this]; exact inv'

/-! From the lists. -/
def Vn (vs : List (Env → Value)) (i : Nat) (e : Env) : Value := match vs[i]? with | some v => v e | none => undef
def An (as : List (Env → ML)) (i : Nat) (e : Env) : ML := match as[i]? with | some a => a e | none => []
def Mn (ss : List Spec) (i : Nat) : Spec := (ss[i]?).getD ⟨[], [], [], []⟩

theorem frN_congr {D D' : Nat → Option Tmp} {V V' : Nat → Env → Value} {S : Nat → Bool} {e : Env} {F : FL} : ∀ k, (∀ j, j < k → D j = D' j ∧ V j e = V' j e) → frN D V S e k F = frN D' V' S e k F
  | 0, _ => rfl
  | k + 1, h => by
    simp only [frN, frN_congr k (fun j hj => h j (by omega)), (h k (by omega)).1, (h k (by omega)).2]
theorem frN_shift {D : Nat → Option Tmp} {V : Nat → Env → Value} {e : Env} {F : FL} : ∀ k, frN D V (fun _ => true) e (k + 1) F = frN (fun j => D (j + 1)) (fun j => V (j + 1)) (fun _ => true) e k (putF (D 0) (V 0 e) F)
  | 0 => by simp [frN]
  | k + 1 => by
    rw [frN, frN_shift k, frN]
theorem meN_shift {A : Nat → Env → ML} {e : Env} {L : ML} : ∀ k, meN A (fun _ => true) e (k + 1) L = meN (fun j => A (j + 1)) (fun _ => true) e k (A 0 e ++ L)
  | 0 => by simp [meN]
  | k + 1 => by
    rw [meN, meN_shift k, meN]

theorem obs_at {all : List Oper} : ∀ (ops : List Oper) (vs : List (Env → Value)) (as : List (Env → ML)) (ss : List Spec) (k : Nat) (F : Env → FL) (L : Env → ML), RObs P w0 all k ops vs as ss F L →
    ∀ i o, ops[i]? = some o → Ob P w0 all (k + i) o (Vn vs i) (An as i) (Mn ss i) (fun e => frN (fun j => (ops[j]?).bind (·.dst)) (Vn vs) (fun _ => true) e i (F e)) (fun e => meN (An as) (fun _ => true) e i (L e))
  | [], _, _, _, _, _, _, _, _, _, hi => by simp at hi
  | o :: os, [], _, _, _, _, _, h, _, _, _ => h.elim
  | o :: os, v :: vs, [], _, _, _, _, h, _, _, _ => h.elim
  | o :: os, v :: vs, a :: as, [], _, _, _, h, _, _, _ => h.elim
  | o :: os, v :: vs, a :: as, s :: ss, k, F, L, h, i, oi, hi => by
    obtain ⟨h1, h2⟩ := h
    cases i with
    | zero => simp at hi; subst hi; exact h1
    | succ i =>
      have := obs_at os vs as ss (k + 1) _ _ h2 i oi (by simpa using hi)
      rw [show k + (i + 1) = k + 1 + i from by omega]
      have e1 : ∀ e, frN (fun j => ((o :: os)[j]?).bind (·.dst)) (Vn (v :: vs)) (fun _ => true) e (i + 1) (F e) = frN (fun j => (os[j]?).bind (·.dst)) (Vn vs) (fun _ => true) e i (putF o.dst (v e) (F e)) := fun e => by
        rw [frN_shift]; rfl
      have e2 : ∀ e, meN (An (a :: as)) (fun _ => true) e (i + 1) (L e) = meN (An as) (fun _ => true) e i (a e ++ L e) := fun e => by
        rw [meN_shift]; rfl
      simp only [e1, e2]
      exact this

theorem endF_eq : ∀ (ops : List Oper) (vs : List (Env → Value)) (e : Env) (F : FL), vs.length = ops.length → endF ops vs e F = frN (fun j => (ops[j]?).bind (·.dst)) (Vn vs) (fun _ => true) e ops.length F
  | [], [], _, _, _ => rfl
  | [], _ :: _, _, _, h => by simp at h
  | _ :: _, [], _, _, h => by simp at h
  | o :: os, v :: vs, e, F, h => by
    rw [endF, endF_eq os vs e _ (by simpa using h), List.length_cons, frN_shift]
    rfl
theorem endL_eq : ∀ (as : List (Env → ML)) (e : Env) (L : ML), endL as e L = meN (An as) (fun _ => true) e as.length L
  | [], _, _ => rfl
  | a :: as, e, L => by
    rw [endL, endL_eq as e, List.length_cons, meN_shift]
    rfl
theorem obs_len {all : List Oper} : ∀ (ops : List Oper) (vs : List (Env → Value)) (as : List (Env → ML)) (ss : List Spec) (k : Nat) (F : Env → FL) (L : Env → ML), RObs P w0 all k ops vs as ss F L → vs.length = ops.length ∧ as.length = ops.length
  | [], [], [], [], _, _, _, _ => ⟨rfl, rfl⟩
  | [], _ :: _, _, _, _, _, _, h => h.elim
  | [], [], _ :: _, _, _, _, _, h => h.elim
  | [], [], [], _ :: _, _, _, _, h => h.elim
  | o :: os, [], _, _, _, _, _, h => h.elim
  | o :: os, v :: vs, [], _, _, _, _, h => h.elim
  | o :: os, v :: vs, a :: as, [], _, _, _, h => h.elim
  | o :: os, v :: vs, a :: as, s :: ss, k, F, L, h => by
    have := obs_len os vs as ss _ _ _ h.2
    simp [this.1, this.2]

def dstOk (sz : Nat) (ops : List Oper) : Bool := ops.all fun o => match o.dst with | some d => Nat.blt d sz | none => true

/-- A REGION THAT DRAWS ITS ORDER. -/
theorem JQ.any {ops : List Oper} {F : FL} {L : ML} {Q : Exit → Act → World → Prop} {id : Nat} (V : List (Env → Value)) (A : List (Env → ML)) (M : List Spec) (hm : P.follows .mixedOrders = true) (hd : dstOk sz ops = true) (hc : chk ops M = true)
    (hob : RObs P w0 ops 0 ops V A M (fun _ => F) (fun _ => L)) (hk : ∀ e : Env, JQ w0 sz (endF ops V e F) (endL A e L) (Q .normal)) : JQ w0 sz F L ((Code.region id ops.toArray true).wp P Q) := by
  have hlen := obs_len ops V A M 0 _ _ hob
  have G : Good P w0 ops (Vn V) (An A) (Mn M) F L := by
    have hrow : ∀ (j : Nat) (o : Oper), ops[j]? = some o → ∃ sj, M[j]? = some sj ∧ Mn M j = sj ∧ (o.after.all fun e => !Region.binds .any e || decide (e.on < j)) = true ∧
      (sj.an.all fun i => direct o i || (List.range j).any fun k => direct o k && (match M[k]? with | some sk => sk.an.contains i | none => false)) = true ∧
      (sj.ch.all fun c => sj.an.contains c) = true ∧ ∀ i, i < j → ∃ oi si, ops[i]? = some oi ∧ M[i]? = some si ∧ (sj.an.contains i || freeOf ops oi o si sj) = true := by
      intro j o hj
      have hlt : j < ops.length := (List.getElem?_eq_some_iff.1 hj).1
      have h := List.all_eq_true.1 hc j (List.mem_range.2 hlt)
      simp only [hj] at h
      cases hM : M[j]? with
      | none => rw [hM] at h; cases h
      | some sj =>
        rw [hM] at h
        simp only [Bool.and_eq_true] at h
        obtain ⟨⟨⟨h1, h2⟩, h3⟩, h4⟩ := h
        refine ⟨sj, rfl, by simp [Mn, hM], h1, h2, h3, fun i hi => ?_⟩
        have h5 := List.all_eq_true.1 h4 i (List.mem_range.2 hi)
        cases hoi : ops[i]? with
        | none => rw [hoi] at h5; cases h5
        | some oi =>
          cases hMi : M[i]? with
          | none => rw [hoi, hMi] at h5; cases h5
          | some si => rw [hoi, hMi] at h5; exact ⟨oi, si, rfl, rfl, h5⟩
    have dir : ∀ (o : Oper) (i : Nat), direct o i = true → ∃ e ∈ o.after, Region.binds .any e = true ∧ e.on = i := by
      intro o i h
      obtain ⟨e, he, hb⟩ := Array.any_eq_true'.1 h
      simp only [Bool.and_eq_true, beq_iff_eq] at hb
      exact ⟨e, he, hb.1, hb.2⟩
    refine ⟨fun i o hi => ?_, fun j o hj e he hb => ?_, fun j o hj i hi => ?_, fun j o hj c hc' => ?_, fun i j oi oj hij hi hj => ?_⟩
    · have := obs_at ops V A M 0 _ _ hob i o hi
      rw [Nat.zero_add] at this
      exact this
    · obtain ⟨sj, _, _, h1, _⟩ := hrow j o hj
      have := Array.all_eq_true_iff_forall_mem.1 h1 e he
      simpa [hb] using this
    · obtain ⟨sj, _, hs, _, h2, _⟩ := hrow j o hj
      rw [hs] at hi
      have h3 := List.all_eq_true.1 h2 i hi
      rw [Bool.or_eq_true] at h3
      rcases h3 with h3 | h3
      · exact .inl (dir o i h3)
      · obtain ⟨k, hk1, hk2⟩ := List.any_eq_true.1 h3
        rw [Bool.and_eq_true] at hk2
        refine .inr ⟨k, List.mem_range.1 hk1, dir o k hk2.1, ?_⟩
        cases hMk : M[k]? with
        | none => rw [hMk] at hk2; cases hk2.2
        | some sk => rw [hMk] at hk2; simp only [Mn, hMk, Option.getD_some]; simpa using hk2.2
    · obtain ⟨sj, _, hs, _, _, h3, _⟩ := hrow j o hj
      rw [hs] at hc' ⊢
      simpa using List.all_eq_true.1 h3 c hc'
    · obtain ⟨sj, hMj, hs, _, _, _, h4⟩ := hrow j oj hj
      obtain ⟨oi', si, h5, h6, h7⟩ := h4 i hij
      rw [hi] at h5; cases h5
      rw [hs, show Mn M i = si from by simp [Mn, h6]]
      rw [Bool.or_eq_true] at h7
      rcases h7 with h7 | h7
      · exact .inl (by simpa using h7)
      · exact .inr h7
  intro a w h1 h2 h3 h4
  refine wp_region_any hm ?_
  have hdr : MemOk w0 L { w with drawn := w.drawn + 1 } := ⟨⟨h4.below.os, h4.below.tape, h4.below.output, h4.below.size, h4.below.block⟩, fun i r hr => Res.keep (h4.ok i r hr) fun _ _ => rfl, h4.apart⟩
  have hnone : ∀ (k : Nat) (x : Env), frN (fun k => (ops[k]?).bind (·.dst)) (Vn V) (fun _ => false) x k F = F := by
    intro k x
    induction k with
    | zero => rfl
    | succ k ih => simp [frN, ih]
  have hnoneL : ∀ (k : Nat) (x : Env), meN (An A) (fun _ => false) x k L = L := by
    intro k x
    induction k with
    | zero => rfl
    | succ k ih => simp [meN, ih]
  have hrep : (fun j => (Array.replicate ops.length false).getD j false) = fun _ => false := funext fun j => by
    rcases Nat.lt_or_ge j ops.length with h | h <;> simp [h]
  have key := G.any (sz := sz) (Q := Q) (fun i o d hi hod => by
    have hb := List.all_eq_true.1 hd o (List.mem_of_getElem? hi)
    rw [hod] at hb
    simpa using hb) (fun e a w inv => by
      obtain ⟨i1, i2, i3, i4⟩ := inv
      refine hk e a w i1 i2 ?_ ?_
      · rw [endF_eq ops V e F hlen.1]; exact i3
      · rw [endL_eq A e L, hlen.2]; exact i4) ops.length (Array.replicate ops.length false) (by simp) (by
        have h0 := List.length_filter_le (fun i => !(Array.replicate ops.length false).getD i false) (List.range ops.length)
        rwa [List.length_range] at h0) (fun j o _ hj => by
          rw [show (Array.replicate ops.length false).getD j false = false from congrFun hrep j] at hj; cases hj)
      (fun _ => (0, 0, undef)) a { w with drawn := w.drawn + 1 } ⟨h1, h2, by rw [hrep, hnone]; exact h3, by rw [hrep, hnoneL]; exact hdr⟩
  simpa using key

/-! ### one operation's look -/
variable {ops : List Oper} {k : Nat} {o : Oper} {F : Env → FL} {L : Env → ML}
theorem Ob.v {v : Env → Value} {rd ch an : List Nat} (hg : o.guard = none) (hs : ∀ cs b, o.op ≠ .select cs b) (hv : ∀ e e' : Env, (∀ j, j ∈ ch → e j = e' j) → v e = v e')
    (h : ∀ (e : Env) (L' : ML), (∀ id, id ∈ rd → lr L' id = lr (L e) id) → JV P w0 (F e) L' o (v e)) : Ob P w0 ops k o v (fun _ => []) ⟨rd, [], ch, an⟩ F L where
  dep e e' he := ⟨hv e e' fun j hj => he j (.inr hj), rfl⟩
  ids _ _ _ := rfl
  sel := hs
  go e L' hL' := ⟨true, by simp [runs, hg], fun _ => fun a w hF hL => (h e L' (fun id hid => hL' id (.inl hid)) a w hF hL).mono fun u w' ⟨hu, hM⟩ => ⟨e k, by rw [upd_self]; exact hu, hM⟩, (fun h => by cases h)⟩
/-- .. whose guard is met -/
theorem Ob.vg {v : Env → Value} {rd ch an : List Nat} {j dj : Nat} {b : Bool} (hg : o.guard = some (j, b)) (hj : (ops[j]?).bind (·.dst) = some dj) (hb : ∀ e, lk (F e) dj = some (.bool b)) (hs : ∀ cs b, o.op ≠ .select cs b) (hv : ∀ e e' : Env, (∀ j, j ∈ ch → e j = e' j) → v e = v e')
    (h : ∀ (e : Env) (L' : ML), (∀ id, id ∈ rd → lr L' id = lr (L e) id) → JV P w0 (F e) L' o (v e)) : Ob P w0 ops k o v (fun _ => []) ⟨rd, [], ch, an⟩ F L where
  dep e e' he := ⟨hv e e' fun j hj => he j (.inr hj), rfl⟩
  ids _ _ _ := rfl
  sel := hs
  go e L' hL' := ⟨true, by simp only [runs, hg]; exact ⟨dj, b, hj, hb e, by simp⟩, fun _ a w hF hL => (h e L' (fun id hid => hL' id (.inl hid)) a w hF hL).mono fun u w' ⟨hu, hM⟩ => ⟨e k, by rw [upd_self]; exact hu, hM⟩, (fun h => by cases h)⟩
/-- .. whose guard is not met -/
theorem Ob.g0 {an : List Nat} {j dj : Nat} {b c : Bool} (hg : o.guard = some (j, c)) (hj : (ops[j]?).bind (·.dst) = some dj) (hb : ∀ e, lk (F e) dj = some (.bool b)) (hbc : (b == c) = false) (hs : ∀ cs b, o.op ≠ .select cs b) :
    Ob P w0 ops k o (fun _ => undef) (fun _ => []) ⟨[], [], [], an⟩ F L where
  dep e e' he := ⟨rfl, rfl⟩
  ids _ _ _ := rfl
  sel := hs
  go e L' hL' := ⟨false, by simp only [runs, hg]; exact ⟨dj, b, hj, hb e, hbc.symm⟩, (fun h => by cases h), fun _ => ⟨rfl, rfl⟩⟩
/-- .. that chooses -/
theorem Ob.x {v : Env → Value} {a : Env → ML} {rd wr ch an : List Nat} (hg : o.guard = none) (hs : ∀ cs b, o.op ≠ .select cs b) (hv : ∀ e e' : Env, (∀ j, j = k ∨ j ∈ ch → e j = e' j) → v e = v e' ∧ a e = a e') (hi : ∀ e id, id ∉ wr → lr (a e) id = none)
    (h : ∀ (e : Env) (L' : ML), (∀ id, id ∈ rd ∨ id ∈ wr → lr L' id = lr (L e) id) → JO P w0 (F e) L' o (fun u w' => ∃ c, u = v (upd e k c) ∧ MemOk w0 (a (upd e k c) ++ L') w')) : Ob P w0 ops k o v a ⟨rd, wr, ch, an⟩ F L where
  dep := hv
  ids := hi
  sel := hs
  go e L' hL' := ⟨true, by simp [runs, hg], fun _ => h e L' hL', (fun h => by cases h)⟩
end
end Go.Fw
end
