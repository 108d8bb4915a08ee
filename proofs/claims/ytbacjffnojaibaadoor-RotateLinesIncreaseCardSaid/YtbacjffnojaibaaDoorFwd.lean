/- Rules for tables of structs, signed bits, and what an argument of structs reads as; no condition. -/
import Derived.Test.YtbacjffnojaibaaDoorFwc
import Derived.Laws.StructEq
import Derived.Laws.OwnMore
import Derived.Test.YtbacjffnojaibaaDoorPla
import Derived.Test.YtbacjffnojaibaaDoorFwb
import Derived.DataReads
section
open Go.RowKit
set_option linter.unusedVariables false
set_option linter.unusedSimpArgs false
set_option linter.unusedSectionVars false
namespace Go.Fw
/-- a slice value written out -/
def aOf : Value → Option Addr | .slice a _ _ => a | _ => none
def cOf : Value → Nat | .slice _ _ c => c | _ => 0
abbrev slv (i : Value) (n : Nat) : Value := .slice (aOf i) n (cOf i)
theorem Reads.slv {w : World} {v : Value} {s n : Nat} {xs : List Value} (h : Reads w v s n xs) : v = slv v n := by obtain ⟨_, a, c, rfl, _⟩ := h; rfl
theorem Reads.cap {w : World} {a : Option Addr} {c s n m : Nat} {xs : List Value} (h : Reads w (.slice a m c) s n xs) : n ≤ c := by obtain ⟨_, a', c', e, h, _⟩ := h; cases e; exact h.1
theorem ownsRow_slv {w : World} {N n s : Nat} {v : Value} {e : TypeId} {xs : List Value} (h : w.ownsRow N e s v n xs) : v = slv v n := by
  rcases h.2 with ⟨rfl, rfl⟩ | ⟨g, cap, cur, rfl, _⟩ <;> rfl
section
variable {P : Program} {w0 : World} {sz : Nat} {F : FL} {L : ML} {K : Act → World → Prop} {dst : Option Tmp} {ty : TypeId} {pos : String} {af : Array Edge} {gd : Option (Nat × Bool)}
variable {T t u' : TypeId} {x y z : Operand} {b off : Nat} {cs : List Value} {e : TypeId} {fz : Nat × Nat} {u v : Value}
/-- an element of an array that is itself an aggregate -/
theorem JV.idxAggA {k n s : Nat} {el : TypeId} {us : List Value} {kk : IntKind} (hx : evk F x = some (.agg cs.toArray)) (hy : evk F y = some (.int kk (k : Int))) (hT : ∀ w, (underlying T).run P w = .ok (.array n el) w) (hsz : ∀ w, (sizeOf el).run P w = .ok s w) (hag : ∀ w, (isAgg el).run P w = .ok true w)
    (hk : k < n) (hu : (cs.drop (k * s)).take s = us) : JV P w0 F L ⟨dst, .index T x y, ty, pos, af, gd⟩ (.agg us.toArray) := by
  refine JV.of fun a w hF hL => ?_
  have h1 := hF.at hx (by simp [Op.operands]); have h2 := hF.at hy (by simp [Op.operands])
  simp [execOp, Instr.index, h1, h2, asIntOf, hT, hk, hsz, part, hag, hu]
/-- What is owned and not empty is a block's cells. -/
theorem JQ.cellsOf (id : Nat) {n s : Nat} {xs : List Value} (hr : lr L id = some (.row v e s n xs)) (hn : 0 < n)
    (k : ∀ g cap cs, v = .slice (some ⟨g, 0, none⟩) n cap → n ≤ cap → cap ≤ maxLen → cs.length = cap * s → cs.take (n * s) = xs → JQ w0 sz F ((id, .cells g cs e (0, 0)) :: L) K) : JQ w0 sz F L K := by
  intro a w h1 h2 h3 hM
  have h := hM.ok id _ hr
  rcases h.2 with ⟨_, h0⟩ | ⟨g, cap, cur, rfl, hg, hh, hc, hm, hs, ht⟩
  · omega
  · refine k g cap cur.toList rfl hc hm (by simpa using hs) ht a w h1 h2 h3 ?_
    refine hM.put (old := some g) ⟨rfl, rfl, rfl, Nat.le_refl _, fun _ _ _ => rfl⟩ (.inr ⟨_, hr, rfl, rfl⟩) ⟨hg, by simpa using hh⟩ (.inr (.inl ⟨rfl, by simp⟩))
theorem newRo_cellsC {w w' : World} {L : ML} (h : MemOk w L w') {id : Nat} {b n c s : Nat} {us cs : List Value} {e : TypeId} {fz : Nat × Nat} (hr : lr L id = some (.cells b cs e fz)) (hu : cs.take (n * s) = us) (hl : us.length = n * s) (hc : n ≤ c) (hm : n ≤ 9223372036854775807) : NewRo w (.slice (some ⟨b, 0, none⟩) n c) s n us w' := by
  refine ⟨⟨hl, _, c, rfl, ⟨hc, hm⟩, .inr ⟨_, rfl, rfl, fun j z hj => ?_⟩⟩, fun b' hb => ?_⟩
  · rw [add_plain, cell_of_blk (h.blk hr), Nat.zero_add]
    have hlt : j < n * s := by rw [← hl]; exact (List.getElem?_eq_some_iff.1 hj).1
    rw [← hu, List.getElem?_take_of_lt hlt] at hj
    exact hj
  · have := h.ge hr
    cases us with
    | nil => simp [Res.blk] at hb
    | cons u us => simp only [Res.blk, Value.ownBlock, Option.some.injEq] at hb; omega
/-- the forms written out -/
theorem JO.rowS (id : Nat) {o : Oper} {n s : Nat} {xs : List Value} (h : JO P w0 F L o (fun v' w' => ∃ i : Value, v' = i ∧ MemOk w0 ((id, .row i e s n xs) :: L) w')) :
    JO P w0 F L o (fun v' w' => ∃ i : Value, v' = slv i n ∧ MemOk w0 ((id, .row (slv i n) e s n xs) :: L) w') := by
  refine fun a w hF hL => (h a w hF hL).mono fun v' w' ⟨i, hv, hM⟩ => ⟨i, ?_, ?_⟩
  · have hs := ownsRow_slv (show World.ownsRow _ _ _ _ _ _ _ from hM.ok id (.row i e s n xs) (by rw [lr_cons, if_pos rfl])); exact hv.trans hs
  · have hs := ownsRow_slv (show World.ownsRow _ _ _ _ _ _ _ from hM.ok id (.row i e s n xs) (by rw [lr_cons, if_pos rfl])); rw [← hs]; exact hM
theorem JO.appendS (id : Nat) {s : Operand} {tx : TypeId} {n m size bytes : Nat} {xs news : List Value} {xv : Value} (hE : Elem P t e size bytes) (hs : evk F s = some v) (hx : evk F x = some xv) (hr : lr L id = some (.row v e size n xs))
    (hn : ∀ w, MemOk w0 L w → Src P w tx xv size m news) (h1 : news.all Value.oneCell' = true) (h63 : n + m ≤ 140737488355328) (hby : (n + m) * bytes ≤ 140737488355328) :
    JO P w0 F L ⟨dst, .call ⟨.builtin .append, #[s, x], #[t, tx]⟩, ty, pos, af, gd⟩ (fun v' w' => ∃ i : Value, v' = slv i (n + m) ∧ MemOk w0 ((id, .row (slv i (n + m)) e size (n + m) (xs ++ news)) :: L) w') :=
  JO.rowS id (JO.append id hE hs hx hr hn h1 h63 hby)
theorem JO.callNewS (id : Nat) {f : FuncId} {xs : List Operand} {ats : Array TypeId} {vs : List Value} {s n : Nat} {us : List Value} (vr : Value → Value) (hb : HasBody P f) (hxs : evs F xs vs)
    (h : ∀ w, MemOk w0 L w → Calls P f vs.toArray w fun e w' => ∃ v, e = .returned (vr v) ∧ NewRo w v s n us w' ∧ Below w.heap.size w w') :
    JO P w0 F L ⟨dst, .call ⟨.value (.func f), xs.toArray, ats⟩, ty, pos, af, gd⟩ (fun v' w' => ∃ i : Value, v' = vr (slv i n) ∧ MemOk w0 ((id, .ro (slv i n) s n us) :: L) w') :=
  JO.call hb hxs fun w hw => (h w hw).mono fun _ _ ⟨v, he, hn, hB⟩ => ⟨_, he, v, by rw [← hn.1.slv], by rw [← hn.1.slv]; exact hw.newRo hB id hn⟩
/-- What a new thing holds is owned: a call that hands back an owned slice. -/
theorem JO.callRowS (id : Nat) {f : FuncId} {xs : List Operand} {ats : Array TypeId} {vs : List Value} {s n : Nat} {us : List Value} (hb : HasBody P f) (hxs : evs F xs vs)
    (h : ∀ w, MemOk w0 L w → Calls P f vs.toArray w fun e' w' => ∃ v, e' = .returned v ∧ w'.ownsRow w.heap.size e s v n us ∧ Below w.heap.size w w') :
    JO P w0 F L ⟨dst, .call ⟨.value (.func f), xs.toArray, ats⟩, ty, pos, af, gd⟩ (fun v' w' => ∃ i : Value, v' = slv i n ∧ MemOk w0 ((id, .row (slv i n) e s n us) :: L) w') :=
  JO.call hb hxs fun w hw => (h w hw).mono fun _ _ ⟨v, he, hn, hB⟩ => ⟨_, he, v, ownsRow_slv hn, by rw [← ownsRow_slv hn]; exact hw.newRow id hn hB⟩
theorem JV.idxSlC {m k s b o c : Nat} {el : TypeId} {kk : IntKind} (hx : evk F x = some (.slice (some ⟨b, o, none⟩) m c)) (hy : evk F y = some (.int kk (k : Int))) (hT : ∀ w, (underlying T).run P w = .ok (.slice el) w) (hsz : ∀ w, (sizeOf el).run P w = .ok s w) (hk : k < m) :
    JV P w0 F L ⟨dst, .indexAddr T x y, ty, pos, af, gd⟩ (.pointer (some ⟨b, o + k * s, none⟩)) := by
  have h := JV.idxSl (P := P) (w0 := w0) (L := L) (dst := dst) (ty := ty) (pos := pos) (af := af) (gd := gd) (n := 0) hx hy hT hsz hk
  rwa [add_plain] at h
theorem JO.callRowV (id : Nat) {f : FuncId} {xs : List Operand} {ats : Array TypeId} {vs : List Value} {s n : Nat} {us : List Value} (vr : Value → Value) (hb : HasBody P f) (hxs : evs F xs vs)
    (h : ∀ w, MemOk w0 L w → Calls P f vs.toArray w fun e' w' => ∃ v, e' = .returned (vr v) ∧ w'.ownsRow w.heap.size e s v n us ∧ Below w.heap.size w w') :
    JO P w0 F L ⟨dst, .call ⟨.value (.func f), xs.toArray, ats⟩, ty, pos, af, gd⟩ (fun v' w' => ∃ i : Value, v' = vr (slv i n) ∧ MemOk w0 ((id, .row (slv i n) e s n us) :: L) w') :=
  JO.call hb hxs fun w hw => (h w hw).mono fun _ _ ⟨v, he, hn, hB⟩ => ⟨_, he, v, by rw [← ownsRow_slv hn], by rw [← ownsRow_slv hn]; exact hw.newRow id hn hB⟩
/-- s[:len:len] -/
theorem JV.clip {aa : Option Addr} {n c s : Nat} {el : TypeId} (hx : evk F x = some (.slice aa n c)) (hy : evk F y = some (.int .i64 (n : Int))) (hz : evk F z = some (.int .i64 (n : Int))) (hT : ∀ w, (underlying T).run P w = .ok (.slice el) w) (hsz : ∀ w, (sizeOf el).run P w = .ok s w) (hc : n ≤ c) :
    JV P w0 F L ⟨dst, .slice T x none (some y) (some z), ty, pos, af, gd⟩ (.slice aa n n) := by
  refine JV.of fun a w hF hL => ?_
  have e1 := hF.at hx (by simp [Op.operands]); have e2 := hF.at hy (by simp [Op.operands]); have e3 := hF.at hz (by simp [Op.operands])
  have e4 : (if n = 0 then aa else aa.map (·.add (0 * s))) = aa := by
    split
    · rfl
    · cases aa with
      | none => rfl
      | some ad => obtain ⟨bb, o, sp⟩ := ad; cases sp <;> simp [Addr.add]
  simp [execOp, Instr.sliceAt, Instr.slice, Instr.sliceBounds, Instr.sliceBound, asIntOf, hT, hsz, e1, e2, e3, hc]
  simpa using e4
theorem JO.makeSlice (id : Nat) {i : TypeInfo} {zv : Value} {n size : Nat} {kl kc : IntKind} (hx : evk F x = some (.int kl (n : Int))) (hy : evk F y = some (.int kc (n : Int))) (ht : P.underlying T = some (.slice e)) (hi : P.info? e = some i) (hz : i.zero = some zv) (hs : i.size = size)
    (hc : n * size ≤ 16777216) (hb : i.bytes * n ≤ 281474976710656) (h63 : n ≤ maxLen) (h0 : 0 < n) (hcs : (madeCells zv.cells (n * size)).toList = cs) :
    JO P w0 F L ⟨dst, .makeSlice T x y, ty, pos, af, gd⟩ (fun v' w' => ∃ b : Nat, v' = .slice (some ⟨b, 0, none⟩) n n ∧ MemOk w0 ((id, .cells b cs e (0, 0)) :: L) w') := by
  intro a w hF hL
  have e1 := hF.at hx (by simp [Op.operands]); have e2 := hF.at hy (by simp [Op.operands])
  obtain ⟨w', hr, ho, hg⟩ := run_makeSlice_full (P := P) w w0.heap.size T e i zv size ht hi hz hs kl kc n hc hb h63 hL.below.size
  refine Yields.of_run (v := .slice (some ⟨w.heap.size, 0, none⟩) n n) (w' := w') (by simp [execOp, e1, e2, hr]) ⟨_, rfl, ?_⟩
  rcases ho.2 with ⟨h, _⟩ | ⟨g, cap, cur, h, h1, h2, h3, h4, h5, h6⟩
  · cases h
  · cases h
    have hcur : cur.toList = cs := by rw [← hcs, ← h6, List.take_of_length_le (by simp [h5])]
    refine hL.put hg (.inl rfl) ⟨h1, by rw [h2, ← hcur]⟩ (.inr (.inr ⟨_, rfl, Nat.le_refl _⟩))
/-- append to something that is read only and has no room left -/
theorem JO.appendFull (id id' : Nat) {s : Operand} {tx : TypeId} {n m size bytes : Nat} {xs news : List Value} {xv : Value} {aa : Option Addr} (hE : Elem P t e size bytes) (hs : evk F s = some (.slice aa n n)) (hx : evk F x = some xv) (hrd : ∀ w, MemOk w0 L w → Reads w (.slice aa n n) size n xs)
    (hn : ∀ w, MemOk w0 L w → Src P w tx xv size m news) (h1 : news.all Value.oneCell' = true) (h63 : n + m ≤ 140737488355328) (hby : (n + m) * bytes ≤ 140737488355328) (hm0 : 0 < m) :
    JO P w0 F L ⟨dst, .call ⟨.builtin .append, #[s, x], #[t, tx]⟩, ty, pos, af, gd⟩ (fun v' w' => ∃ i : Value, v' = slv i (n + m) ∧ MemOk w0 ((id, .row (slv i (n + m)) e size (n + m) (xs ++ news)) :: L) w') := by
  refine JO.rowS id ?_
  intro a w hF hL
  have e1 := hF.at hs (by simp [Op.operands, Call.operands])
  have e2 := hF.at hx (by simp [Op.operands, Call.operands])
  obtain ⟨i, z, hi, hz, hsz, hb, hzs⟩ := hE.info
  have hbase : w0.heap.size ≤ w.heap.size := hL.below.size
  have hund := hE.und
  subst hsz hb
  have hrd := hrd w hL
  have hn := hn w hL
  have hxl : xs.length = n * i.size := hrd.1
  have hlen : (xs ++ news).length = (n + m) * i.size := by rw [List.length_append, hrd.1, hn.num, Nat.add_mul]
  have grown : MemOk w0 ((id, .row (.slice (some ⟨w.heap.size, 0, none⟩) (n + m) (grownCap w (n + m) n e)) e i.size (n + m) (xs ++ news)) :: L) (w.drew.alloc (.cells (xs.toArray ++ news.toArray ++ Builtin.zeroCells z.cells (grownCap w (n + m) n e - (n + m))) e)) := by
    have hcap := grownCap_ge w (n + m) n e
    have hcapm := grownCap_le_maxLen w (n + m) n e (by unfold maxLen; omega)
    have hg : w.grownBy (w.drew.alloc (.cells (xs.toArray ++ news.toArray ++ Builtin.zeroCells z.cells (grownCap w (n + m) n e - (n + m))) e)) none := ⟨rfl, rfl, rfl, by simp, fun k hk _ => Below.heap_alloc _ _ _ hk⟩
    refine hL.put hg (.inl rfl) ⟨hlen, .inr ⟨w.heap.size, grownCap w (n + m) n e, xs.toArray ++ news.toArray ++ Builtin.zeroCells z.cells (grownCap w (n + m) n e - (n + m)), rfl, hbase, ?_, hcap, hcapm, ?_, ?_⟩⟩ (.inr (.inr ⟨w.heap.size, rfl, Nat.le_refl _⟩))
    · show (w.heap.push _)[w.heap.size]? = _; simp
    · simp only [Array.size_append, List.size_toArray, size_zeroCells, hzs, hxl, hn.num]
      rw [← Nat.add_mul, ← Nat.add_mul]; congr 1; omega
    · simp only [Array.toList_append]
      rw [show xs.toArray.toList ++ news.toArray.toList = xs ++ news from by simp, ← hlen]
      exact List.take_left
  have h63' : ¬ (9223372036854775807 < ((n : Int) + (m : Int))) := by omega
  have hft : ¬ (281474976710656 < Builtin.nextslicecap (n + m) n * i.bytes) := by have := growslice_fits (old := n) (by omega) hby; omega
  have hroom : ¬ (m ≤ 0) := by omega
  have ha1 := hn.at1
  have hfo : (Builtin.firstCells i.size n (.slice aa n n)).run P w.drew = .ok xs.toArray w.drew := by
    obtain ⟨_, a', c', he, _, h3⟩ := hrd
    cases he
    cases aa with
    | none =>
      have : xs = [] := by rcases h3 with h3 | ⟨ad, e, _⟩; exact h3; cases e
      subst this
      simp [Builtin.firstCells]
    | some ad =>
      refine run_firstCells_some (P := P) w.drew i.size n ad n n xs hxl fun j v hj => ?_
      rcases h3 with h3 | ⟨ad', e, _, hc⟩
      · subst h3; cases hj
      · cases e; exact hc j v hj
  refine Yields.of_run (v := .slice (some ⟨w.heap.size, 0, none⟩) (n + m) (grownCap w (n + m) n e)) (w' := w.drew.alloc (.cells (xs.toArray ++ news.toArray ++ Builtin.zeroCells z.cells (grownCap w (n + m) n e - (n + m))) e)) ?_ ⟨_, rfl, grown⟩
  have key : (Builtin.append_ #[t, tx] ty #[.slice aa n n, xv]).run P w = .ok (.slice (some ⟨w.heap.size, 0, none⟩) (n + m) (grownCap w (n + m) n e)) (w.drew.alloc (.cells (xs.toArray ++ news.toArray ++ Builtin.zeroCells z.cells (grownCap w (n + m) n e - (n + m))) e)) := by
    have hle : ¬ (n + m ≤ n) := by omega
    rcases hn.ty with ⟨e', hD⟩ | hD
    all_goals
      simp [Builtin.append_, run_underlying hund, run_underlying hD, sizeOf, typeInfo, zeroValue, hi, hz, hn.len, hle, hroom, h63', hft, Question.forced, newRow, grownCap, ha1, hfo]
      congr 2; apply Array.ext'; simp
  simp only [execOp, resolve, invoke, builtin, Sem.run_bind, Sem.run_pure, Result.andThen_ok, List.map_toArray, List.map_cons, List.map_nil, e1, e2, key]
/-! stores of what the memory says is one cell wide -/
theorem JO.storeAM (id : Nat) {n : Nat} {us : List Value} (hx : evk F x = some (.pointer (some ⟨b, off, none⟩))) (hr : lr L id = some (.cells b cs e (0, 0))) (hy : evk F y = some (.agg us.toArray)) (h1 : ∀ w, MemOk w0 L w → us.all Value.oneCell' = true)
    (hsz : ∀ w, (sizeOf T).run P w = .ok n w) (hn : us.length = n) (hlt : off + n ≤ cs.length) :
    JO P w0 F L ⟨dst, .store T x y, ty, pos, af, gd⟩ (fun z w' => z = undef ∧ MemOk w0 ((id, .cells b (cs.take off ++ us ++ cs.drop (off + n)) e (0, 0)) :: L) w') :=
  fun a w hF hL => JO.storeA id hx hr hy (h1 w hL) hsz hn hlt a w hF hL
theorem JO.storeVM (id : Nat) {n : Nat} {us : List Value} (hx : evk F x = some (.pointer (some ⟨b, 0, none⟩))) (hr : lr L id = some (.cells b cs e (0, 0))) (hy : evk F y = some (.agg us.toArray)) (h1 : ∀ w, MemOk w0 L w → us.all Value.oneCell' = true)
    (hsz : ∀ w, (sizeOf T).run P w = .ok n w) (hn : us.length = n) (hlt : cs.length = n) :
    JO P w0 F L ⟨dst, .store T x y, ty, pos, af, gd⟩ (fun z w' => z = undef ∧ MemOk w0 ((id, .cells b us e (0, 0)) :: L) w') :=
  fun a w hF hL => JO.storeV id hx hr hy (h1 w hL) hsz hn hlt a w hF hL
/-! endings -/
theorem JQ.doneCTT (id : Nat) {fn : Func} {R : Ending → World → Prop} {t1 t2 s : Tmp} {u1 u2 : Value} {T : TypeId} {b n : Nat} {cs : List Value} {e : TypeId} {fz : Nat × Nat} (hr : fn.results = #[.cell s T, .tmp t1, .tmp t2]) (h1 : lk F t1 = some u1) (h2 : lk F t2 = some u2) (hs : lk F s = some (.pointer (some ⟨b, 0, none⟩))) (hb : lr L id = some (.cells b cs e fz))
    (hag : ∀ w, (isAgg T).run P w = .ok true w) (hsz : ∀ w, (sizeOf T).run P w = .ok n w) (hn : cs.length = n) (h : ∀ w, MemOk w0 L w → R (.returned (.tuple #[.agg cs.toArray, u1, u2])) w) : JQ w0 sz F L (bodyPost P fn R .ret) := by
  refine JQ.done (v := .tuple #[.agg cs.toArray, u1, u2]) (fun a w hF hL => ?_) h
  have hl := run_loadCells_list (P := P) w ⟨b, 0, none⟩ cs (fun j v hj => by rw [add_plain, Nat.zero_add, cell_of_blk (hL.blk hb)]; exact hj)
  rw [hn] at hl
  have k1 := hF s _ hs
  have k2 := hF t1 _ h1
  have k3 := hF t2 _ h2
  simp [results, hr, k1, k2, k3, loadVar, hag, hsz, hl, asAddr]
theorem JQ.doneCCTT (i1 i2 : Nat) {fn : Func} {R : Ending → World → Prop} {t1 t2 s1 s2 : Tmp} {u1 u2 : Value} {T1 T2 : TypeId} {b1 b2 n1 n2 : Nat} {c1 c2 : List Value} {e1 e2 : TypeId} {f1 f2 : Nat × Nat} (hr : fn.results = #[.cell s1 T1, .cell s2 T2, .tmp t1, .tmp t2]) (h1 : lk F t1 = some u1) (h2 : lk F t2 = some u2)
    (hs1 : lk F s1 = some (.pointer (some ⟨b1, 0, none⟩))) (hs2 : lk F s2 = some (.pointer (some ⟨b2, 0, none⟩))) (m1 : lr L i1 = some (.cells b1 c1 e1 f1)) (m2 : lr L i2 = some (.cells b2 c2 e2 f2))
    (a1 : ∀ w, (isAgg T1).run P w = .ok true w) (a2 : ∀ w, (isAgg T2).run P w = .ok true w) (z1 : ∀ w, (sizeOf T1).run P w = .ok n1 w) (z2 : ∀ w, (sizeOf T2).run P w = .ok n2 w) (k1 : c1.length = n1) (k2 : c2.length = n2)
    (h : ∀ w, MemOk w0 L w → R (.returned (.tuple #[.agg c1.toArray, .agg c2.toArray, u1, u2])) w) : JQ w0 sz F L (bodyPost P fn R .ret) := by
  refine JQ.done (v := .tuple #[.agg c1.toArray, .agg c2.toArray, u1, u2]) (fun a w hF hL => ?_) h
  have l1 := run_loadCells_list (P := P) w ⟨b1, 0, none⟩ c1 (fun j v hj => by rw [add_plain, Nat.zero_add, cell_of_blk (hL.blk m1)]; exact hj)
  have l2 := run_loadCells_list (P := P) w ⟨b2, 0, none⟩ c2 (fun j v hj => by rw [add_plain, Nat.zero_add, cell_of_blk (hL.blk m2)]; exact hj)
  rw [k1] at l1
  rw [k2] at l2
  have q1 := hF s1 _ hs1
  have q2 := hF s2 _ hs2
  have q3 := hF t1 _ h1
  have q4 := hF t2 _ h2
  simp [results, hr, q1, q2, q3, q4, loadVar, a1, a2, z1, z2, l1, l2, asAddr]
end
end Go.Fw
end
section
set_option linter.unusedVariables false
namespace Go.Fw
/-! bits of signed numbers -/
def toI (b : BitVec 64) : Int := IntKind.i64.wrap (b.toNat : Int)
abbrev oI (a : Int) : BitVec 64 := BitVec.ofInt 64 a
abbrev inI (a : Int) : Prop := -9223372036854775808 ≤ a ∧ a ≤ 9223372036854775807
theorem toI_eq (b : BitVec 64) : toI b = b.toInt := by
  unfold toI
  rw [BitVec.toInt_eq_toNat_cond]
  have := b.isLt
  have e : (b.toNat : Int) % 18446744073709551616 = b.toNat := by omega
  show (if (true && decide ((b.toNat : Int) % (2 ^ 64 : Int) ≥ (2 ^ 63 : Int))) = true then (b.toNat : Int) % (2 ^ 64 : Int) - (2 ^ 64 : Int) else (b.toNat : Int) % (2 ^ 64 : Int)) = _
  rw [show ((2 : Int) ^ 64) = 18446744073709551616 from rfl, show ((2 : Int) ^ 63) = 9223372036854775808 from rfl, e]
  by_cases h : 2 * b.toNat < 2 ^ 64
  · rw [if_neg (by simp; omega), if_pos h]
  · rw [if_pos (by simp; omega), if_neg h]; rfl
theorem oI_toI (b : BitVec 64) : oI (toI b) = b := by rw [toI_eq]; exact BitVec.ofInt_toInt
theorem toI_oI {a : Int} (h : inI a) : toI (oI a) = a := by rw [toI_eq, BitVec.toInt_ofInt_eq_self (by decide) (by have := h.1; simpa using this) (by have := h.2; simp; omega)]
theorem toI_in (b : BitVec 64) : inI (toI b) := by
  rw [toI_eq]; have h1 := BitVec.le_toInt b; have h2 := BitVec.toInt_lt (x := b); constructor
  · simpa using h1
  · have : b.toInt < 9223372036854775808 := by simpa using h2
    omega
theorem ib_eq (op : BinOp) (x y : Int) : ib op x y = toI (ibv op (oI x) (oI y)) := rfl
theorem ib_in (op : BinOp) (x y : Int) : inI (ib op x y) := toI_in _
theorem ib_or (b : BitVec 64) (n : Int) : ib .or (toI b) n = toI (b ||| oI n) := by rw [ib_eq]; show toI (oI (toI b) ||| oI n) = _; rw [oI_toI]
theorem toI_zero (b : BitVec 64) : toI b = 0 ↔ b = 0 := by
  constructor
  · intro h; have := oI_toI b; rw [h] at this; rw [← this]; rfl
  · intro h; subst h; rfl
theorem andNot_zero (x y : BitVec 64) : x &&& ~~~y = 0 ↔ x &&& y = x := by
  constructor
  · intro h
    apply BitVec.eq_of_getLsbD_eq
    intro i hi
    have := congrArg (fun z => z.getLsbD i) h
    simp [hi] at this ⊢
    exact this
  · intro h
    apply BitVec.eq_of_getLsbD_eq
    intro i hi
    have := congrArg (fun z => z.getLsbD i) h
    simp [hi] at this ⊢
    exact this
/-- P14.3, two ways -/
theorem sub_iff {a : Int} (b : Int) (h : inI a) : ib .andNot a b = 0 ↔ ib .and a b = a := by
  rw [ib_eq, ib_eq, toI_zero]
  show oI a &&& ~~~(oI b) = 0 ↔ toI (oI a &&& oI b) = a
  rw [andNot_zero]
  constructor
  · intro e; rw [e, toI_oI h]
  · intro e; rw [← oI_toI (oI a &&& oI b), e]
theorem sub_dec {a : Int} (b : Int) (h : inI a) : decide (ib .andNot a b = 0) = decide (ib .and a b = a) := decide_eq_decide.2 (sub_iff b h)
theorem and_and {a b c : Int} (h : ib .and a c = a) : ib .and (ib .and a b) c = ib .and a b := by
  rw [ib_eq] at h ⊢
  have h' : oI a &&& oI c = oI a := by have := congrArg oI h; rwa [oI_toI] at this
  rw [ib_eq .and a b]
  show toI (oI (toI (oI a &&& oI b)) &&& oI c) = toI (oI a &&& oI b)
  rw [oI_toI, BitVec.and_assoc, BitVec.and_comm (oI b), ← BitVec.and_assoc, h']
theorem and_sub (a b : Int) : ib .and (ib .and a b) a = ib .and a b ∧ ib .and (ib .and a b) b = ib .and a b := by
  simp only [ib_eq]
  constructor
  · show toI (oI (toI (oI a &&& oI b)) &&& oI a) = _
    rw [oI_toI]; congr 1; show oI a &&& oI b &&& oI a = oI a &&& oI b; rw [BitVec.and_comm (oI a) (oI b), BitVec.and_assoc, BitVec.and_self]
  · show toI (oI (toI (oI a &&& oI b)) &&& oI b) = _
    rw [oI_toI]; congr 1; show oI a &&& oI b &&& oI b = oI a &&& oI b; rw [BitVec.and_assoc, BitVec.and_self]
theorem and_mine {a c : Int} (h : ib .and a c = a) : inI a := h ▸ ib_in _ _ _
end Go.Fw
namespace Pl
open Go.Fw Go
/-! policies -/
def tyZ : Typ := ⟨[], 0, 0⟩
def tyAt (ts : List Typ) (i : Nat) : Typ := ts.getD i tyZ
def ruleAt (rs : List Rule) (i : Nat) : Rule := rs.getD i ⟨0, 0, 0⟩
def isTy (ts : List Typ) (t : Int) : Bool := decide (0 ≤ t) && decide (t < (ts.length : Int))
def tyOf (ts : List Typ) (t : Int) : Typ := tyAt ts t.toNat
/-- the five kinds of rules: kind, the uses of the first, of the second -/
def br : Nat → Int × Int × Int
  | 0 => (1, 128, 512) | 1 => (2, 128, 0) | 2 => (3, 128, 512) | 3 => (4, 128, 0) | _ => (5, 256, 0)
def eG (t : Int) (r : Rule) (q : Int × Int × Int) (b : BitVec 64) : BitVec 64 :=
  if q.1 = r.kind then
    (if r.b = t then (if r.a = t then b ||| oI q.2.1 else b) ||| oI q.2.2 else (if r.a = t then b ||| oI q.2.1 else b))
  else b
def inn (t : Int) (r : Rule) (b : BitVec 64) : Nat → BitVec 64
  | 0 => b
  | i + 1 => eG t r (br i) (inn t r b i)
def u0 (ts : List Typ) (t : Int) : BitVec 64 := oI (tyOf ts t).flags &&& 60
def outG (ts : List Typ) (rs : List Rule) (t : Int) : Nat → BitVec 64
  | 0 => u0 ts t
  | i + 1 => inn t (ruleAt rs i) (outG ts rs t i) 5
def usesG (ts : List Typ) (rs : List Rule) (t : Int) : Int := if isTy ts t = true then toI (outG ts rs t rs.length) else 0
def r1 (t : Int) (r : Rule) (b : BitVec 64) : BitVec 64 := if (decide (r.a = t) && (decide (1 ≤ r.kind) && decide (r.kind ≤ 4))) = true then b ||| oI 128 else b
def r2 (t : Int) (r : Rule) (b : BitVec 64) : BitVec 64 := if (decide (r.a = t) && decide (r.kind = 5)) = true then b ||| oI 256 else b
def r3 (t : Int) (r : Rule) (b : BitVec 64) : BitVec 64 := if (decide (r.b = t) && (decide (r.kind = 1) || decide (r.kind = 3))) = true then b ||| oI 512 else b
def outR (ts : List Typ) (rs : List Rule) (t : Int) : Nat → BitVec 64
  | 0 => u0 ts t
  | i + 1 => r3 t (ruleAt rs i) (r2 t (ruleAt rs i) (r1 t (ruleAt rs i) (outR ts rs t i)))
def usesR (ts : List Typ) (rs : List Rule) (t : Int) : Int := if isTy ts t = true then toI (outR ts rs t rs.length) else 0
theorem or0 (b : BitVec 64) : b ||| oI 0 = b := by show b ||| 0#64 = b; simp
theorem inn_eq (t : Int) (r : Rule) (b : BitVec 64) : inn t r b 5 = r3 t r (r2 t r (r1 t r b)) := by
  obtain ⟨k, x, y⟩ := r
  simp only [inn, br, eG, r1, r2, r3, or0]
  by_cases h1 : k = 1
  · subst h1; by_cases hx : x = t <;> by_cases hy : y = t <;> simp [hx, hy]
  by_cases h2 : k = 2
  · subst h2; by_cases hx : x = t <;> by_cases hy : y = t <;> simp [hx, hy]
  by_cases h3 : k = 3
  · subst h3; by_cases hx : x = t <;> by_cases hy : y = t <;> simp [hx, hy]
  by_cases h4 : k = 4
  · subst h4; by_cases hx : x = t <;> by_cases hy : y = t <;> simp [hx, hy]
  by_cases h5 : k = 5
  · subst h5; by_cases hx : x = t <;> by_cases hy : y = t <;> simp [hx, hy]
  · have e : (decide (1 ≤ k) && decide (k ≤ 4)) = false := by
      rw [Bool.eq_false_iff]; intro h; simp only [Bool.and_eq_true, decide_eq_true_eq] at h; omega
    simp [Ne.symm h1, Ne.symm h2, Ne.symm h3, Ne.symm h4, Ne.symm h5, h1, h3, h5, e]
theorem uses_eq (ts : List Typ) (rs : List Rule) (t : Int) : usesG ts rs t = usesR ts rs t := by
  have h : ∀ n, outG ts rs t n = outR ts rs t n := by
    intro n
    induction n with
    | zero => rfl
    | succ n ih => rw [outG, outR, inn_eq, ih]
  unfold usesG usesR; rw [h]
end Pl
end
section
open Go.RowKit
set_option linter.unusedVariables false
set_option linter.unusedSimpArgs false
set_option linter.unusedSectionVars false
namespace Go.Fw
section
variable {P : Program} {w0 : World} {sz : Nat} {F : FL} {L : ML} {K : Act → World → Prop} {dst : Option Tmp} {ty : TypeId} {pos : String} {af : Array Edge} {gd : Option (Nat × Bool)} {v : Value} {e : TypeId}
/-- the block lies among the new ones -/
def fresh? (w : World) (v : Value) : Prop := ∀ b, v.ownBlock = some b → w.heap.size ≤ b
theorem fresh_nil (w : World) : fresh? w (.slice none 0 0) := fun b h => by cases h
theorem MemOk.rowNew {w : World} (h : MemOk w0 L w) {id n s : Nat} {xs : List Value} (hr : lr L id = some (.row v e s n xs)) : fresh? w0 v := by
  intro b hb
  rcases (h.ok id _ hr).2 with ⟨h1, _⟩ | ⟨g, cap, cur, h1, hg, _⟩
  · rw [h1] at hb; cases hb
  · rw [h1] at hb; cases hb; exact hg
theorem JQ.rowNew (id : Nat) {n s : Nat} {xs : List Value} (hr : lr L id = some (.row v e s n xs)) (k : fresh? w0 v → JQ w0 sz F L K) : JQ w0 sz F L K :=
  fun a w h1 h2 h3 hM => k (hM.rowNew hr) a w h1 h2 h3 hM
theorem MemOk.oldOr {w w' : World} (h : MemOk w0 L w) (hb : Below w.heap.size w w') (id idk : Nat) {v kv : Value} {s n nk : Nat} {us xk : List Value} (hk : lr L idk = some (.ro kv s nk xk)) (hR : Reads w' v s n us) (hn : (v = kv ∧ us = xk) ∨ fresh? w v) : MemOk w0 ((id, .ro v s n us) :: L) w' := by
  rcases hn with ⟨rfl, rfl⟩ | hn
  · refine (h.grow hb).view hR fun j r hj hr hw => ?_
    have := h.apart idk j _ r (fun e => by subst e; rw [hk] at hr; cases hr; cases hw) hk hr (.inr hw)
    exact this
  · refine h.newRo hb id ⟨hR, fun b hb' => ?_⟩
    cases us with
    | nil => cases hb'
    | cons u us => exact hn b hb'
theorem JO.callNew2 (id1 id2 idk : Nat) {f : FuncId} {xs : List Operand} {ats : Array TypeId} {vs : List Value} {kv : Value} {s n nk s2 n2 : Nat} {us xk us2 : List Value} (vr : Value → Value → Value) (hb : HasBody P f) (hxs : evs F xs vs) (hk : lr L idk = some (.ro kv s nk xk)) (hne : idk ≠ id2)
    (h : ∀ w, MemOk w0 L w → Calls P f vs.toArray w fun e w' => ∃ v m, e = .returned (vr v m) ∧ Reads w' v s n us ∧ ((v = kv ∧ us = xk) ∨ fresh? w v) ∧ NewRo w m s2 n2 us2 w' ∧ Below w.heap.size w w') :
    JO P w0 F L ⟨dst, .call ⟨.value (.func f), xs.toArray, ats⟩, ty, pos, af, gd⟩ (fun v' w' => ∃ i : Value × Value, v' = vr (slv i.1 n) (slv i.2 n2) ∧ MemOk w0 ((id1, .ro (slv i.1 n) s n us) :: (id2, .ro (slv i.2 n2) s2 n2 us2) :: L) w') := by
  refine JO.call hb hxs fun w hw => (h w hw).mono fun _ _ ⟨v, m, he, hR, hn, hm, hB⟩ => ⟨_, he, (v, m), by rw [← hR.slv, ← hm.1.slv], ?_⟩
  rw [← hR.slv, ← hm.1.slv]
  have h1 := hw.newRo hB id2 hm
  have hk2 : lr ((id2, Res.ro m s2 n2 us2) :: L) idk = some (.ro kv s nk xk) := by rw [lr_cons, if_neg (Ne.symm hne)]; exact hk
  rcases hn with ⟨rfl, rfl⟩ | hn
  · refine h1.view hR fun j r hj hr hw2 => ?_
    have h3 := h1.apart idk j _ r (fun e => by subst e; rw [hk2] at hr; cases hr; cases hw2) hk2 hr (.inr hw2)
    exact h3
  · refine h1.view hR fun j r hj hr hw2 => ?_
    have hj2 : j ≠ id2 := fun e => by subst e; rw [lr_cons, if_pos rfl] at hr; cases hr; cases hw2
    have h2 := hw.oldOr hB id1 idk hk hR (.inr hn)
    by_cases hj1 : j = id1
    · exact absurd hj1 hj
    · have hr' : lr L j = some r := by rw [lr_cons, if_neg (Ne.symm hj2)] at hr; exact hr
      refine h2.apart id1 j _ r (Ne.symm hj1) (by rw [lr_cons, if_pos rfl]) ?_ (.inr hw2)
      rw [lr_cons, if_neg (Ne.symm hj1)]; exact hr'
end
end Go.Fw
end
section
open Go.RowKit
set_option linter.unusedVariables false
set_option linter.unusedSimpArgs false
namespace Go.Fw
open Go.ChangeShapes Go.WideShapes
section
variable {H : Type} {enc : TypeId × Value → H} {P : Program} {W : World} {base : Nat} {t e : TypeId} {v : Value} {d0 : DataW H} {p0 : List MemPlace} {r : Reach} {n : Nat} {sp : Nat → Bool} {held : Bool} {fuel : Nat} {cs : List Value} {x : DataW H × List MemPlace}
theorem choose_list {α : Type} {p : Nat → α → Prop} : ∀ (k : Nat), (∀ i, i < k → ∃ a, p i a) → ∃ l : List α, l.length = k ∧ ∀ i a, l[i]? = some a → p i a
  | 0, _ => ⟨[], rfl, fun i a h => by simp at h⟩
  | k + 1, h => by
    obtain ⟨l, h1, h2⟩ := choose_list (p := p) k fun i hi => h i (by omega)
    obtain ⟨a, ha⟩ := h k (Nat.lt_succ_self _)
    refine ⟨l ++ [a], by simp [h1], fun i b hb => ?_⟩
    rcases Nat.lt_or_ge i l.length with h3 | h3
    · rw [List.getElem?_append_left h3] at hb; exact h2 i b hb
    · rw [List.getElem?_append_right h3] at hb
      have h4 := (List.getElem?_eq_some_iff.1 hb).1
      simp at h4
      have h5 : i = l.length := by omega
      subst h5
      simp at hb
      subst hb; rw [h1]; exact ha
theorem fm_len {α : Type} {f : α → List Value} (hf : ∀ a, (f a).length = n) (l : List α) : (l.flatMap f).length = l.length * n := by
  induction l with
  | nil => simp
  | cons a l ih => rw [List.flatMap_cons, List.length_append, hf, ih, List.length_cons, Nat.add_mul]; omega
theorem fm_idx {α : Type} {f : α → List Value} (hf : ∀ a, (f a).length = n) : ∀ (l : List α) (i o : Nat) (a : α), l[i]? = some a → o < n → (l.flatMap f)[i * n + o]? = (f a)[o]?
  | [], i, o, a, h, _ => by simp at h
  | b :: l, 0, o, a, h, ho => by
    simp at h; subst h
    rw [Nat.zero_mul, Nat.zero_add, List.flatMap_cons, List.getElem?_append_left (by rw [hf]; exact ho)]
  | b :: l, i + 1, o, a, h, ho => by
    rw [List.flatMap_cons, List.getElem?_append_right (by rw [hf, Nat.add_mul]; omega), hf, show (i + 1) * n + o - n = i * n + o from by rw [Nat.add_mul]; omega]
    exact fm_idx hf l i o a (by simpa using h) ho
/-- a slice whose elements read as f says -/
theorem arg_sliceC {α : Type} {f : α → List Value} (hf : ∀ a, (f a).length = n) (h0 : 0 < n) (ht : P.underlying t = some (.slice e)) (hc : P.cellsOf e = n)
    (elem : ∀ (m : Nat) (cs : List Value) (y : DataW H × List MemPlace), DataW.trod enc P W base sp held m e cs = some y → ∃ a : α, cs = f a)
    (h : DataW.trod enc P W base sp held fuel t cs = some x) : ∃ (kv : Value) (l : List α), cs = [kv] ∧ l.length ≤ 9223372036854775807 ∧ Reads W kv n l.length (l.flatMap f) := by
  have hmx : maxLen = 9223372036854775807 := by decide
  rcases DataW.trod_slice ht h with ⟨rfl, _⟩ | ⟨a, len, cap, elems, rest, m, _, rfl, _, _, hl, hm, hlen, hel, _, _⟩
  · exact ⟨_, [], rfl, Nat.zero_le _, ⟨by simp, none, 0, rfl, ⟨Nat.le_refl _, Nat.zero_le _⟩, .inl rfl⟩⟩
  · have each : ∀ i, i < len → ∃ b : α, ∀ j, j < n → W.cell? ((a.add (i * n)).add j) = (f b)[j]? := by
      intro i hi
      have h1 := hel i hi
      rw [List.getElem?_eq_getElem (by omega), hc, Option.bind_eq_some_iff] at h1
      obtain ⟨cs', h2, h3⟩ := h1
      obtain ⟨b, rfl⟩ := elem _ _ _ h3
      exact ⟨b, (World.cells?_some h2).2.2⟩
    obtain ⟨l, h1, h2⟩ := choose_list len each
    refine ⟨_, l, rfl, by omega, fm_len hf l, some a, cap, by rw [h1], ⟨by omega, by omega⟩, ?_⟩
    cases l with
    | nil => exact .inl rfl
    | cons b l =>
      right
      have hspot : a.spot = none := by
        have h3 := h2 0 b rfl 0 h0
        rw [List.getElem?_eq_getElem (by rw [hf]; exact h0)] at h3
        have h4 := World.cell?_spot h3
        obtain ⟨bb, o, s⟩ := a
        cases s with
        | none => rfl
        | some s => simp [Addr.add] at h4
      refine ⟨a, rfl, hspot, fun j u hj => ?_⟩
      have hlt := (List.getElem?_eq_some_iff.1 hj).1
      rw [fm_len hf] at hlt
      have hq : j / n < (b :: l).length := Nat.div_lt_of_lt_mul (by rw [Nat.mul_comm]; exact hlt)
      have hr : j % n < n := Nat.mod_lt _ h0
      have he : j / n * n + j % n = j := by have := Nat.div_add_mod j n; rw [Nat.mul_comm] at this; exact this
      have hg := List.getElem?_eq_getElem hq
      have h5 := fm_idx hf (b :: l) (j / n) (j % n) _ hg hr
      rw [he, hj] at h5
      have h6 := h2 (j / n) _ hg (j % n) hr
      rw [← h5, addr_add_add _ hspot, he] at h6
      exact h6
/-- the fields of a struct -/
theorem trod_field {fs : Array Field} (ht : P.underlying t = some (.struct fs)) (h : DataW.trod enc P W base sp held fuel t cs = some x) (i : Nat) {f : Field} (hf : fs[i]? = some f) :
    ∃ m y, DataW.trod enc P W base sp held m f.type ((cs.drop f.offset).take (P.cellsOf f.type)) = some y := by
  obtain ⟨xs, m, _, _, _, hn, hel⟩ := DataW.trod_struct ht h
  have := hel i f hf
  rw [List.getElem?_eq_getElem (by have := (Array.getElem?_eq_some_iff.1 hf).1; omega)] at this
  exact ⟨m, _, this⟩
theorem field_int {fs : Array Field} (ht : P.underlying t = some (.struct fs)) (h : DataW.trod enc P W base sp held fuel t cs = some x) (i : Nat) {f : Field} (hf : fs[i]? = some f) (hu : P.underlying f.type = some (.int .i64)) (hc : P.cellsOf f.type = 1) :
    ∃ z : Int, cs[f.offset]? = some (iv z) := by
  obtain ⟨m, y, h1⟩ := trod_field ht h i hf
  rw [hc] at h1
  obtain ⟨z, h2, _⟩ := DataW.trod_int hu h1
  have h3 := congrArg (·[0]?) h2
  simp at h3
  exact ⟨z, h3⟩
theorem field_str {fs : Array Field} (ht : P.underlying t = some (.struct fs)) (h : DataW.trod enc P W base sp held fuel t cs = some x) (i : Nat) {f : Field} (hf : fs[i]? = some f) (hu : P.underlying f.type = some .string) (hc : P.cellsOf f.type = 1) :
    ∃ s : List UInt8, cs[f.offset]? = some (str s) := by
  obtain ⟨m, y, h1⟩ := trod_field ht h i hf
  rw [hc] at h1
  obtain ⟨s, h2, _⟩ := DataW.trod_string hu h1
  have h3 := congrArg (·[0]?) h2
  simp at h3
  exact ⟨s.data.toList, by rw [str_toList]; exact h3⟩
theorem field_bool {fs : Array Field} (ht : P.underlying t = some (.struct fs)) (h : DataW.trod enc P W base sp held fuel t cs = some x) (i : Nat) {f : Field} (hf : fs[i]? = some f) (hu : P.underlying f.type = some .bool) (hc : P.cellsOf f.type = 1) :
    ∃ b : Bool, cs[f.offset]? = some (.bool b) := by
  obtain ⟨m, y, h1⟩ := trod_field ht h i hf
  rw [hc] at h1
  obtain ⟨b, h2, _⟩ := DataW.trod_bool hu h1
  have h3 := congrArg (·[0]?) h2
  simp at h3
  exact ⟨b, h3⟩
theorem struct_len {fs : Array Field} (ht : P.underlying t = some (.struct fs)) (h : DataW.trod enc P W base sp held fuel t cs = some x) : cs.length = P.cellsOf t := by
  obtain ⟨xs, m, _, _, hl, _⟩ := DataW.trod_struct ht h; exact hl
theorem elem_int {k : IntKind} (hu : P.underlying e = some (.int k)) (m : Nat) (cs : List Value) (y : DataW H × List MemPlace) (h : DataW.trod enc P W base sp held m e cs = some y) : ∃ z : Int, cs = [.int k z] := by
  obtain ⟨z, h2, _⟩ := DataW.trod_int hu h; exact ⟨z, h2⟩
theorem fm_map {α : Type} (f : α → Value) (l : List α) : l.flatMap (fun a => [f a]) = l.map f := by
  induction l with
  | nil => rfl
  | cons a l ih => rw [List.flatMap_cons, ih]; rfl
end
end Go.Fw
end
