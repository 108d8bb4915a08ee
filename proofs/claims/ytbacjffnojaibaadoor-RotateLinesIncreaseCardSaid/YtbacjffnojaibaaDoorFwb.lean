/- More rules of the frame, and what an argument reads as; no condition. -/
import Derived.Test.YtbacjffnojaibaaDoorFwa
import Derived.LoopN
import Derived.Scope
import Derived.Test.YtbacjffnojaibaaDoorPla
import Derived.ProofKit
import Derived.LaidMore
import Derived.OpenShut
import Derived.Stop.Joined
import Derived.ShutString
import Derived.ChangeOld
section
open Go.RowKit
set_option linter.unusedVariables false
set_option linter.unusedSimpArgs false
set_option linter.unusedSectionVars false
namespace Go.Fw

section
variable {P : Program} {w0 : World} {F : FL} {L : ML} {dst : Option Tmp} {ty : TypeId} {pos : String} {af : Array Edge} {gd : Option (Nat × Bool)}
variable {t u : TypeId} {x y : Operand} {a b : Nat} {sz : Nat} {K : Act → World → Prop} {Q : Exit → Act → World → Prop}

/-! ### ints that are natural numbers -/
theorem JV.addN (hx : evk F x = some (.int .i64 (a : Int))) (hy : evk F y = some (.int .i64 (b : Int))) (h : a + b ≤ 9223372036854775807) : JV P w0 F L ⟨dst, .binOp .add t x y u, ty, pos, af, gd⟩ (.int .i64 ((a + b : Nat) : Int)) := by
  have := JV.addI (P := P) (w0 := w0) (L := L) (dst := dst) (ty := ty) (pos := pos) (af := af) (gd := gd) (t := t) (u := u) hx hy (by omega); simpa using this
theorem JV.subN (hx : evk F x = some (.int .i64 (a : Int))) (hy : evk F y = some (.int .i64 (b : Int))) (h : b ≤ a ∧ a ≤ 9223372036854775807) : JV P w0 F L ⟨dst, .binOp .sub t x y u, ty, pos, af, gd⟩ (.int .i64 ((a - b : Nat) : Int)) := by
  have := JV.subI (P := P) (w0 := w0) (L := L) (dst := dst) (ty := ty) (pos := pos) (af := af) (gd := gd) (t := t) (u := u) hx hy (by omega)
  rwa [show (a : Int) - b = ((a - b : Nat) : Int) from by omega] at this
theorem JV.subU64 (hx : evk F x = some (.int .u64 (a : Int))) (hy : evk F y = some (.int .u64 (b : Int))) (h : b ≤ a ∧ a < 18446744073709551616) : JV P w0 F L ⟨dst, .binOp .sub t x y u, ty, pos, af, gd⟩ (.int .u64 ((a - b : Nat) : Int)) := by
  have := JV.subW (P := P) (w0 := w0) (L := L) (dst := dst) (ty := ty) (pos := pos) (af := af) (gd := gd) (t := t) (u := u) hx hy
  rwa [wrap_u64 (by omega), show (a : Int) - b = ((a - b : Nat) : Int) from by omega] at this
theorem JV.mulN (hx : evk F x = some (.int .i64 (a : Int))) (hy : evk F y = some (.int .i64 (b : Int))) (h : a * b ≤ 9223372036854775807) : JV P w0 F L ⟨dst, .binOp .mul t x y u, ty, pos, af, gd⟩ (.int .i64 ((a * b : Nat) : Int)) := by
  have h1 : (a : Int) * b = ((a * b : Nat) : Int) := by simp
  have := JV.mulI (P := P) (w0 := w0) (L := L) (dst := dst) (ty := ty) (pos := pos) (af := af) (gd := gd) (t := t) (u := u) hx hy (by rw [h1]; omega)
  rwa [h1] at this
theorem JV.quoN (hx : evk F x = some (.int .i64 (a : Int))) (hy : evk F y = some (.int .i64 (b : Int))) (h : a ≤ 9223372036854775807 ∧ 0 < b) : JV P w0 F L ⟨dst, .binOp .quo t x y u, ty, pos, af, gd⟩ (.int .i64 ((a / b : Nat) : Int)) := by
  have := JV.quoI (P := P) (w0 := w0) (L := L) (dst := dst) (ty := ty) (pos := pos) (af := af) (gd := gd) (t := t) (u := u) hx hy (by omega) (by omega); simpa using this
theorem JV.quoN8 (hx : evk F x = some (.int .u8 (a : Int))) (hy : evk F y = some (.int .u8 (b : Int))) (h : a < 256 ∧ 0 < b) : JV P w0 F L ⟨dst, .binOp .quo t x y u, ty, pos, af, gd⟩ (.int .u8 ((a / b : Nat) : Int)) := by
  have := JV.quoU8 (P := P) (w0 := w0) (L := L) (dst := dst) (ty := ty) (pos := pos) (af := af) (gd := gd) (t := t) (u := u) hx hy (by omega) (by omega); simpa using this
theorem JV.remN {k : IntKind} (hx : evk F x = some (.int k (a : Int))) (hy : evk F y = some (.int k (b : Int))) (h : 0 < b) : JV P w0 F L ⟨dst, .binOp .rem t x y u, ty, pos, af, gd⟩ (.int k ((a % b : Nat) : Int)) := by
  have := JV.remI (P := P) (w0 := w0) (L := L) (dst := dst) (ty := ty) (pos := pos) (af := af) (gd := gd) (t := t) (u := u) hx hy (by omega) (by omega); simpa using this
theorem JV.lssN {k : IntKind} (hx : evk F x = some (.int k (a : Int))) (hy : evk F y = some (.int k (b : Int))) : JV P w0 F L ⟨dst, .binOp .lss t x y u, ty, pos, af, gd⟩ (.bool (decide (a < b))) := by
  have := JV.lss (P := P) (w0 := w0) (L := L) (dst := dst) (ty := ty) (pos := pos) (af := af) (gd := gd) (t := t) (u := u) hx hy; simpa using this
theorem JV.leqN {k : IntKind} (hx : evk F x = some (.int k (a : Int))) (hy : evk F y = some (.int k (b : Int))) : JV P w0 F L ⟨dst, .binOp .leq t x y u, ty, pos, af, gd⟩ (.bool (decide (a ≤ b))) := by
  have := JV.leq (P := P) (w0 := w0) (L := L) (dst := dst) (ty := ty) (pos := pos) (af := af) (gd := gd) (t := t) (u := u) hx hy; simpa using this
theorem JV.gtrN {k : IntKind} (hx : evk F x = some (.int k (a : Int))) (hy : evk F y = some (.int k (b : Int))) : JV P w0 F L ⟨dst, .binOp .gtr t x y u, ty, pos, af, gd⟩ (.bool (decide (b < a))) := by
  have := JV.gtr (P := P) (w0 := w0) (L := L) (dst := dst) (ty := ty) (pos := pos) (af := af) (gd := gd) (t := t) (u := u) hx hy; simpa using this
theorem JV.geqN {k : IntKind} (hx : evk F x = some (.int k (a : Int))) (hy : evk F y = some (.int k (b : Int))) : JV P w0 F L ⟨dst, .binOp .geq t x y u, ty, pos, af, gd⟩ (.bool (decide (b ≤ a))) := by
  have := JV.geq (P := P) (w0 := w0) (L := L) (dst := dst) (ty := ty) (pos := pos) (af := af) (gd := gd) (t := t) (u := u) hx hy; simpa using this
theorem JV.eqlN {k : IntKind} (hx : evk F x = some (.int k (a : Int))) (hy : evk F y = some (.int k (b : Int))) : JV P w0 F L ⟨dst, .binOp .eql t x y u, ty, pos, af, gd⟩ (.bool (decide (a = b))) := by
  have := JV.eqlI (P := P) (w0 := w0) (L := L) (dst := dst) (ty := ty) (pos := pos) (af := af) (gd := gd) (t := t) (u := u) hx hy
  rwa [show decide ((a : Int) = b) = decide (a = b) from by rw [Bool.eq_iff_iff]; simp only [decide_eq_true_eq]; omega] at this
theorem JV.neqN {k : IntKind} (hx : evk F x = some (.int k (a : Int))) (hy : evk F y = some (.int k (b : Int))) : JV P w0 F L ⟨dst, .binOp .neq t x y u, ty, pos, af, gd⟩ (.bool (decide (a ≠ b))) := by
  have := JV.neqI (P := P) (w0 := w0) (L := L) (dst := dst) (ty := ty) (pos := pos) (af := af) (gd := gd) (t := t) (u := u) hx hy
  rwa [show decide ((a : Int) ≠ b) = decide (a ≠ b) from by rw [Bool.eq_iff_iff]; simp only [decide_eq_true_eq]; omega] at this
/-- a conversion that keeps the number -/
theorem JV.convK {s d : TypeId} {k k' : IntKind} {D : TypeDesc} {n : Int} (hs : ∀ w, (underlying s).run P w = .ok D w) (hd : ∀ w, (underlying d).run P w = .ok (.int k) w) (hx : evk F x = some (.int k' n)) (hn : k.wrap n = n) :
    JV P w0 F L ⟨dst, .convert s d x, ty, pos, af, gd⟩ (.int k n) := by
  have h := JV.convW (P := P) (w0 := w0) (L := L) (dst := dst) (ty := ty) (pos := pos) (af := af) (gd := gd) hs hd hx
  rwa [hn] at h

theorem JV.addU8 (hx : evk F x = some (.int .u8 (a : Int))) (hy : evk F y = some (.int .u8 (b : Int))) : JV P w0 F L ⟨dst, .binOp .add t x y u, ty, pos, af, gd⟩ (.int .u8 (((a + b) % 256 : Nat) : Int)) := JV.addU rfl hx hy
theorem JV.mulU8 (hx : evk F x = some (.int .u8 (a : Int))) (hy : evk F y = some (.int .u8 (b : Int))) : JV P w0 F L ⟨dst, .binOp .mul t x y u, ty, pos, af, gd⟩ (.int .u8 (((a * b) % 256 : Nat) : Int)) := JV.mulU rfl hx hy
theorem JV.andU8 (hx : evk F x = some (.int .u8 (a : Int))) (hy : evk F y = some (.int .u8 (b : Int))) (ha : a < 256) (hb : b < 256) : JV P w0 F L ⟨dst, .binOp .and t x y u, ty, pos, af, gd⟩ (.int .u8 ((a &&& b : Nat) : Int)) := JV.bits (.inl rfl) rfl hx hy ha hb
theorem JV.orU8 (hx : evk F x = some (.int .u8 (a : Int))) (hy : evk F y = some (.int .u8 (b : Int))) (ha : a < 256) (hb : b < 256) : JV P w0 F L ⟨dst, .binOp .or t x y u, ty, pos, af, gd⟩ (.int .u8 ((a ||| b : Nat) : Int)) := JV.bits (.inr (.inl rfl)) rfl hx hy ha hb
theorem JV.xorU8 (hx : evk F x = some (.int .u8 (a : Int))) (hy : evk F y = some (.int .u8 (b : Int))) (ha : a < 256) (hb : b < 256) : JV P w0 F L ⟨dst, .binOp .xor t x y u, ty, pos, af, gd⟩ (.int .u8 ((a ^^^ b : Nat) : Int)) := JV.bits (.inr (.inr rfl)) rfl hx hy ha hb
theorem JV.shlU8 {k' : IntKind} (hx : evk F x = some (.int .u8 (a : Int))) (hy : evk F y = some (.int k' (b : Int))) (hb : b ≤ 8) : JV P w0 F L ⟨dst, .binOp .shl t x y u, ty, pos, af, gd⟩ (.int .u8 ((a * 2 ^ b % 256 : Nat) : Int)) := JV.shl rfl hx hy hb
theorem JV.shrU8 {k' : IntKind} (hx : evk F x = some (.int .u8 (a : Int))) (hy : evk F y = some (.int k' (b : Int))) (hb : b ≤ 8) : JV P w0 F L ⟨dst, .binOp .shr t x y u, ty, pos, af, gd⟩ (.int .u8 ((a / 2 ^ b : Nat) : Int)) := JV.shr hx hy hb
theorem JV.notU8 (hx : evk F x = some (.int .u8 (a : Int))) (ha : a < 256) : JV P w0 F L ⟨dst, .unOp .xor t x, ty, pos, af, gd⟩ (.int .u8 ((255 ^^^ a : Nat) : Int)) := JV.notU rfl hx ha
theorem JV.convU8 {s d : TypeId} {k' : IntKind} {D : TypeDesc} (hs : ∀ w, (underlying s).run P w = .ok D w) (hd : ∀ w, (underlying d).run P w = .ok (.int .u8) w) (hx : evk F x = some (.int k' (a : Int))) :
    JV P w0 F L ⟨dst, .convert s d x, ty, pos, af, gd⟩ (.int .u8 ((a % 256 : Nat) : Int)) := JV.convU hs hd rfl hx
theorem JV.addU32 (hx : evk F x = some (.int .u32 (a : Int))) (hy : evk F y = some (.int .u32 (b : Int))) : JV P w0 F L ⟨dst, .binOp .add t x y u, ty, pos, af, gd⟩ (.int .u32 (((a + b) % 4294967296 : Nat) : Int)) := JV.addU rfl hx hy
theorem JV.mulU32 (hx : evk F x = some (.int .u32 (a : Int))) (hy : evk F y = some (.int .u32 (b : Int))) : JV P w0 F L ⟨dst, .binOp .mul t x y u, ty, pos, af, gd⟩ (.int .u32 (((a * b) % 4294967296 : Nat) : Int)) := JV.mulU rfl hx hy
theorem JV.andU32 (hx : evk F x = some (.int .u32 (a : Int))) (hy : evk F y = some (.int .u32 (b : Int))) (ha : a < 4294967296) (hb : b < 4294967296) : JV P w0 F L ⟨dst, .binOp .and t x y u, ty, pos, af, gd⟩ (.int .u32 ((a &&& b : Nat) : Int)) := JV.bits (.inl rfl) rfl hx hy ha hb
theorem JV.orU32 (hx : evk F x = some (.int .u32 (a : Int))) (hy : evk F y = some (.int .u32 (b : Int))) (ha : a < 4294967296) (hb : b < 4294967296) : JV P w0 F L ⟨dst, .binOp .or t x y u, ty, pos, af, gd⟩ (.int .u32 ((a ||| b : Nat) : Int)) := JV.bits (.inr (.inl rfl)) rfl hx hy ha hb
theorem JV.xorU32 (hx : evk F x = some (.int .u32 (a : Int))) (hy : evk F y = some (.int .u32 (b : Int))) (ha : a < 4294967296) (hb : b < 4294967296) : JV P w0 F L ⟨dst, .binOp .xor t x y u, ty, pos, af, gd⟩ (.int .u32 ((a ^^^ b : Nat) : Int)) := JV.bits (.inr (.inr rfl)) rfl hx hy ha hb
theorem JV.shlU32 {k' : IntKind} (hx : evk F x = some (.int .u32 (a : Int))) (hy : evk F y = some (.int k' (b : Int))) (hb : b ≤ 32) : JV P w0 F L ⟨dst, .binOp .shl t x y u, ty, pos, af, gd⟩ (.int .u32 ((a * 2 ^ b % 4294967296 : Nat) : Int)) := JV.shl rfl hx hy hb
theorem JV.shrU32 {k' : IntKind} (hx : evk F x = some (.int .u32 (a : Int))) (hy : evk F y = some (.int k' (b : Int))) (hb : b ≤ 32) : JV P w0 F L ⟨dst, .binOp .shr t x y u, ty, pos, af, gd⟩ (.int .u32 ((a / 2 ^ b : Nat) : Int)) := JV.shr hx hy hb
theorem JV.notU32 (hx : evk F x = some (.int .u32 (a : Int))) (ha : a < 4294967296) : JV P w0 F L ⟨dst, .unOp .xor t x, ty, pos, af, gd⟩ (.int .u32 ((4294967295 ^^^ a : Nat) : Int)) := JV.notU rfl hx ha
theorem JV.convU32 {s d : TypeId} {k' : IntKind} {D : TypeDesc} (hs : ∀ w, (underlying s).run P w = .ok D w) (hd : ∀ w, (underlying d).run P w = .ok (.int .u32) w) (hx : evk F x = some (.int k' (a : Int))) :
    JV P w0 F L ⟨dst, .convert s d x, ty, pos, af, gd⟩ (.int .u32 ((a % 4294967296 : Nat) : Int)) := JV.convU hs hd rfl hx
theorem JV.addU64 (hx : evk F x = some (.int .u64 (a : Int))) (hy : evk F y = some (.int .u64 (b : Int))) : JV P w0 F L ⟨dst, .binOp .add t x y u, ty, pos, af, gd⟩ (.int .u64 (((a + b) % 18446744073709551616 : Nat) : Int)) := JV.addU rfl hx hy
theorem JV.mulU64 (hx : evk F x = some (.int .u64 (a : Int))) (hy : evk F y = some (.int .u64 (b : Int))) : JV P w0 F L ⟨dst, .binOp .mul t x y u, ty, pos, af, gd⟩ (.int .u64 (((a * b) % 18446744073709551616 : Nat) : Int)) := JV.mulU rfl hx hy
theorem JV.andU64 (hx : evk F x = some (.int .u64 (a : Int))) (hy : evk F y = some (.int .u64 (b : Int))) (ha : a < 18446744073709551616) (hb : b < 18446744073709551616) : JV P w0 F L ⟨dst, .binOp .and t x y u, ty, pos, af, gd⟩ (.int .u64 ((a &&& b : Nat) : Int)) := JV.bits (.inl rfl) rfl hx hy ha hb
theorem JV.orU64 (hx : evk F x = some (.int .u64 (a : Int))) (hy : evk F y = some (.int .u64 (b : Int))) (ha : a < 18446744073709551616) (hb : b < 18446744073709551616) : JV P w0 F L ⟨dst, .binOp .or t x y u, ty, pos, af, gd⟩ (.int .u64 ((a ||| b : Nat) : Int)) := JV.bits (.inr (.inl rfl)) rfl hx hy ha hb
theorem JV.xorU64 (hx : evk F x = some (.int .u64 (a : Int))) (hy : evk F y = some (.int .u64 (b : Int))) (ha : a < 18446744073709551616) (hb : b < 18446744073709551616) : JV P w0 F L ⟨dst, .binOp .xor t x y u, ty, pos, af, gd⟩ (.int .u64 ((a ^^^ b : Nat) : Int)) := JV.bits (.inr (.inr rfl)) rfl hx hy ha hb
theorem JV.shlU64 {k' : IntKind} (hx : evk F x = some (.int .u64 (a : Int))) (hy : evk F y = some (.int k' (b : Int))) (hb : b ≤ 64) : JV P w0 F L ⟨dst, .binOp .shl t x y u, ty, pos, af, gd⟩ (.int .u64 ((a * 2 ^ b % 18446744073709551616 : Nat) : Int)) := JV.shl rfl hx hy hb
theorem JV.shrU64 {k' : IntKind} (hx : evk F x = some (.int .u64 (a : Int))) (hy : evk F y = some (.int k' (b : Int))) (hb : b ≤ 64) : JV P w0 F L ⟨dst, .binOp .shr t x y u, ty, pos, af, gd⟩ (.int .u64 ((a / 2 ^ b : Nat) : Int)) := JV.shr hx hy hb
theorem JV.notU64 (hx : evk F x = some (.int .u64 (a : Int))) (ha : a < 18446744073709551616) : JV P w0 F L ⟨dst, .unOp .xor t x, ty, pos, af, gd⟩ (.int .u64 ((18446744073709551615 ^^^ a : Nat) : Int)) := JV.notU rfl hx ha
theorem JV.convU64 {s d : TypeId} {k' : IntKind} {D : TypeDesc} (hs : ∀ w, (underlying s).run P w = .ok D w) (hd : ∀ w, (underlying d).run P w = .ok (.int .u64) w) (hx : evk F x = some (.int k' (a : Int))) :
    JV P w0 F L ⟨dst, .convert s d x, ty, pos, af, gd⟩ (.int .u64 ((a % 18446744073709551616 : Nat) : Int)) := JV.convU hs hd rfl hx

/-! ### control -/
theorem JQ.loopI {ι : Type} {c : Code} (Fi : ι → FL) (Li : ι → ML) (I : ι → Prop) (m : ι → Nat) (i0 : ι) (hI : I i0) (hF : ∀ k v, lk (Fi i0) k = some v → lk F k = some v) (hL : ∀ i r, lr (Li i0) i = some r → lr L i = some r)
    (round : ∀ i, I i → JQ w0 sz (Fi i) (Li i) (c.wp P (Exit.then (fun a w => ∃ j, m j < m i ∧ I j ∧ a.tmps.size = sz ∧ a.defers = [] ∧ FrOk (Fi j) a ∧ MemOk w0 (Li j) w) Q))) :
    JQ w0 sz F L ((Code.loop c).wp P Q) := by
  intro a w h1 h2 h3 h4
  refine wp_loop_ghost (fun n a w => ∃ i, m i = n ∧ I i ∧ a.tmps.size = sz ∧ a.defers = [] ∧ FrOk (Fi i) a ∧ MemOk w0 (Li i) w) (m i0) ⟨i0, rfl, hI, h1, h2, h3.sub hF, h4.sub hL⟩ ?_
  rintro n a w ⟨i, rfl, hi, h1, h2, h3, h4⟩
  refine wp_mono (round i hi a w h1 h2 h3 h4) ?_
  intro e a' w' hq
  cases e with
  | normal => obtain ⟨j, hj, r⟩ := hq; exact ⟨m j, hj, j, rfl, r⟩
  | _ => exact hq
theorem JQ.nextI {ι : Type} {Fi : ι → FL} {Li : ι → ML} {I : ι → Prop} {m : ι → Nat} {i : ι} (j : ι) (hI : I j) (hm : m j < m i) (hF : ∀ k v, lk (Fi j) k = some v → lk F k = some v) (hL : ∀ i r, lr (Li j) i = some r → lr L i = some r) :
    JQ w0 sz F L (fun a w => ∃ j, m j < m i ∧ I j ∧ a.tmps.size = sz ∧ a.defers = [] ∧ FrOk (Fi j) a ∧ MemOk w0 (Li j) w) :=
  fun _ _ h1 h2 h3 h4 => ⟨j, hm, hI, h1, h2, h3.sub hF, h4.sub hL⟩
/-- What a piece of code comes to, told once; its ways meet again behind it. -/
theorem JQ.cut {c : Code} {F' : FL} {L' : ML} (h : ∀ K', JQ w0 sz F' L' K' → JQ w0 sz F L (c.wp P (Exit.then K' Q))) (k : JQ w0 sz F' L' K) : JQ w0 sz F L (c.wp P (Exit.then K Q)) := h K k
theorem JQ.scope {c : Code} (h : JQ w0 sz F L (c.wp P (Exit.noGoto Q))) : JQ w0 sz F L ((Code.scope c).wp P Q) := fun a w h1 h2 h3 h4 => wp_scope_straight (h a w h1 h2 h3 h4)
theorem JQ.r_scope (h : JQ w0 sz F L (Q .ret)) : JQ w0 sz F L (Exit.noGoto Q .ret) := h
theorem JQ.n_scope (h : JQ w0 sz F L (Q .normal)) : JQ w0 sz F L (Exit.noGoto Q .normal) := h
theorem JQ.e_scope {id : Nat} (h : JQ w0 sz F L (Q (.exit id))) : JQ w0 sz F L (Exit.noGoto Q (.exit id)) := h
theorem JQ.label {l : Nat} (h : JQ w0 sz F L (Q .normal)) : JQ w0 sz F L ((Code.label l).wp P Q) := fun a w h1 h2 h3 h4 => wp_label (h a w h1 h2 h3 h4)

/-! ### ends -/
/-- one result, in memory: a struct or an array -/
theorem JQ.doneC (id : Nat) {fn : Func} {R : Ending → World → Prop} {s : Tmp} {T : TypeId} {b n : Nat} {cs : List Value} {e : TypeId} {fz : Nat × Nat} (hr : fn.results = #[.cell s T]) (hs : lk F s = some (.pointer (some ⟨b, 0, none⟩))) (hb : lr L id = some (.cells b cs e fz))
    (hag : ∀ w, (isAgg T).run P w = .ok true w) (hsz : ∀ w, (sizeOf T).run P w = .ok n w) (hn : cs.length = n) (h : ∀ w, MemOk w0 L w → R (.returned (.agg cs.toArray)) w) : JQ w0 sz F L (bodyPost P fn R .ret) := by
  refine JQ.done (v := .agg cs.toArray) (fun a w hF hL => ?_) h
  have hl := run_loadCells_list (P := P) w ⟨b, 0, none⟩ cs (fun j v hj => by rw [add_plain, Nat.zero_add, cell_of_blk (hL.blk hb)]; exact hj)
  rw [hn] at hl
  have h1 := hF s _ hs
  simp [results, hr, h1, loadVar, hag, hsz, hl, asAddr]
end
end Go.Fw
namespace Go.Fw
section
variable {P : Program} {w0 : World} {F : FL} {L : ML} {dst : Option Tmp} {ty : TypeId} {pos : String} {af : Array Edge} {gd : Option (Nat × Bool)}
variable {t u' T : TypeId} {x y : Operand} {a b off : Nat} {sz : Nat} {u v : Value} {cs : List Value} {e : TypeId} {fz : Nat × Nat}

theorem JV.idxArr0 {n k : Nat} {el : TypeId} {kk : IntKind} (hx : evk F x = some (.pointer (some ⟨b, 0, none⟩))) (hy : evk F y = some (.int kk (k : Int))) (hT : ∀ w, (underlying T).run P w = .ok (.array n el) w) (hsz : ∀ w, (sizeOf el).run P w = .ok 1 w) (hk : k < n) :
    JV P w0 F L ⟨dst, .indexAddr T x y, ty, pos, af, gd⟩ (.pointer (some ⟨b, k, none⟩)) := by
  have h := JV.idxArr (P := P) (w0 := w0) (L := L) (dst := dst) (ty := ty) (pos := pos) (af := af) (gd := gd) hx hy hT hsz hk
  rwa [Nat.zero_add, Nat.mul_one] at h
theorem JV.idxArr1 {n k : Nat} {el : TypeId} {kk : IntKind} (hx : evk F x = some (.pointer (some ⟨b, off, none⟩))) (hy : evk F y = some (.int kk (k : Int))) (hT : ∀ w, (underlying T).run P w = .ok (.array n el) w) (hsz : ∀ w, (sizeOf el).run P w = .ok 1 w) (hk : k < n) :
    JV P w0 F L ⟨dst, .indexAddr T x y, ty, pos, af, gd⟩ (.pointer (some ⟨b, off + k, none⟩)) := by
  have h := JV.idxArr (P := P) (w0 := w0) (L := L) (dst := dst) (ty := ty) (pos := pos) (af := af) (gd := gd) hx hy hT hsz hk
  rwa [Nat.mul_one] at h
theorem JV.idxRo1 (id : Nat) {n k sz' : Nat} {xs : List Value} {el : TypeId} {kk : IntKind} (hx : evk F x = some v) (hy : evk F y = some (.int kk (k : Int))) (hr : lr L id = some (.ro v sz' n xs)) (hT : ∀ w, (underlying T).run P w = .ok (.slice el) w) (hsz : ∀ w, (sizeOf el).run P w = .ok 1 w)
    (h0 : 0 < sz') (hk : k < n) : JV P w0 F L ⟨dst, .indexAddr T x y, ty, pos, af, gd⟩ (ptrOf v k) := by
  have h := JV.idxRo (P := P) (w0 := w0) (L := L) (dst := dst) (ty := ty) (pos := pos) (af := af) (gd := gd) id hx hy hr hT hsz h0 hk
  rwa [Nat.mul_one] at h

/-- a part of what is read only -/
theorem JO.sliceRo (id id' : Nat) {n lo hi : Nat} {xs us : List Value} {el : TypeId} {ol oh : Option Operand} (hx : evk F x = some v) (hr : lr L id = some (.ro v 1 n xs)) (hT : ∀ w, (underlying T).run P w = .ok (.slice el) w) (hsz : ∀ w, (sizeOf el).run P w = .ok 1 w)
    (hl : bnd F ol 0 lo) (hh : bnd F oh n hi) (h1 : lo ≤ hi) (h2 : hi ≤ n) (hu : (xs.drop lo).take (hi - lo) = us) (hne : id ≠ id') :
    JO P w0 F L ⟨dst, .slice T x ol oh none, ty, pos, af, gd⟩ (fun v' w' => ∃ i : Value, v' = i ∧ MemOk w0 ((id', .ro i 1 (hi - lo) us) :: L) w') := by
  intro a w hF hL
  have e1 := hF.at hx (by simp [Op.operands])
  have hrd := hL.reads hr
  obtain ⟨hlen, aa, c, rfl, hn, h3⟩ := hrd
  have hc : n ≤ c := hn.1
  have hb := run_sliceBounds (P := P) (isSlice := true) (len := n) (cap := c) hF hl hh (fun z hz => by simp [Op.operands]; cases ol <;> simp_all) (fun z hz => by simp [Op.operands]; cases oh <;> simp_all) h1 (by omega) w
  have hul : us.length = hi - lo := by rw [← hu]; simp; omega
  refine Yields.of_run (v := .slice (if c = lo then aa else aa.map (·.add (lo * 1))) (hi - lo) (c - lo)) (w' := w) ?_ ⟨_, rfl, ?_⟩
  · simp only [execOp, Instr.sliceAt, Instr.slice, hT, e1, Sem.run_bind, Result.andThen_ok, Sem.run_pure, Option.map_none, hb, hsz]
  · refine hL.view ?_ ?_
    · refine ⟨by omega, _, _, rfl, ⟨by omega, by omega⟩, ?_⟩
      cases us with
      | nil => exact .inl rfl
      | cons u us =>
        right
        have hlt : lo < hi := by simp at hul; omega
        rcases h3 with rfl | ⟨ad, rfl, hs, hcell⟩
        · simp at hlen; omega
        · refine ⟨ad.add (lo * 1), by rw [if_neg (by omega)]; rfl, ?_, fun j z hj => ?_⟩
          · obtain ⟨bb, o, s⟩ := ad; cases hs; rw [add_plain]
          · rw [addr_add_add _ hs, Nat.mul_one]
            apply hcell
            rw [← hu] at hj
            have hj' : j < hi - lo := by have := (List.getElem?_eq_some_iff.1 hj).1; simp at this; omega
            rw [List.getElem?_take_of_lt hj', List.getElem?_drop] at hj
            exact hj
    · intro j s hj hs hw
      by_cases hji : j = id
      · subst hji; rw [hr] at hs; cases hs; cases hw
      · cases us with
        | nil => exact .inl rfl
        | cons u us =>
          have hlt : lo < hi := by simp at hul; omega
          have hxs : xs ≠ [] := by rintro rfl; simp at hlen; omega
          have hap := hL.apart id j _ s (Ne.symm hji) hr hs (.inr hw)
          have hbl : Res.blk (.ro (.slice aa n c) 1 n xs) = Value.ownBlock (.slice aa n c) := by
            cases xs with
            | nil => exact absurd rfl hxs
            | cons _ _ => rfl
          have hbl2 : Res.blk (.ro (.slice (if c = lo then aa else aa.map (·.add (lo * 1))) (hi - lo) (c - lo)) 1 (hi - lo) (u :: us)) = Value.ownBlock (.slice aa n c) := by
            show Value.ownBlock (.slice (if c = lo then aa else aa.map (·.add (lo * 1))) (hi - lo) (c - lo)) = _
            rw [if_neg (by omega)]
            cases aa with
            | none => rfl
            | some ad =>
              show some (ad.add (lo * 1)).block = some ad.block
              unfold Addr.add; split <;> rfl
          rcases hap with hap | hap
          · exact .inl (by rw [hbl2, ← hbl]; exact hap)
          · exact .inr (by rw [hbl2, ← hbl]; exact hap)

theorem MemOk.start1 {w0 : World} (id : Nat) {v : Value} {sz n : Nat} {xs : List Value} (h : Reads w0 v sz n xs) : MemOk w0 [(id, .ro v sz n xs)] w0 :=
  (MemOk.start w0).view h fun j s hj hs => by cases hs
theorem MemOk.addRo {w0 w : World} {L : ML} (hL : MemOk w0 L w) (id : Nat) {v : Value} {sz n : Nat} {xs : List Value} (h : Reads w v sz n xs) (hro : ∀ j s, lr L j = some s → s.wr = false) : MemOk w0 ((id, .ro v sz n xs) :: L) w :=
  hL.view h fun j s hj hs hw => by rw [hro j s hs] at hw; cases hw

theorem getU (l : List Nat) (k : Nat) (h : k < l.length) : (l.map u32)[k]? = some (.int .u32 ((l.getD k 0 : Nat) : Int)) := by
  simp [u32, h]
theorem getB (l : List UInt8) (k : Nat) (h : k < l.length) : (l.map b8)[k]? = some (.int .u8 (((l.getD k 0).toNat : Nat) : Int)) := by
  simp [b8, h]
theorem setU (l : List Nat) (k n : Nat) : (l.map u32).set k (.int .u32 (n : Int)) = (l.set k n).map u32 := by
  simp [u32, List.map_set]
theorem allU (l : List Nat) : (l.map u32).all Value.oneCell' = true := by simp [u32, Value.oneCell']
theorem allB (l : List UInt8) : (l.map b8).all Value.oneCell' = true := by simp [b8, Value.oneCell']

variable {ops : List Oper} {k : Nat} {o : Oper} {Fe : Env → FL} {Le : Env → ML}
/-- a store in a region that draws -/
theorem Ob.s {r : Env → Res} {rd ch an : List Nat} (id : Nat) (hg : o.guard = none) (hs : ∀ cs b, o.op ≠ .select cs b) (hv : ∀ e e' : Env, (∀ j, j ∈ ch → e j = e' j) → r e = r e')
    (h : ∀ (e : Env) (L' : ML), (∀ i, i ∈ id :: rd → lr L' i = lr (Le e) i) → JO P w0 (Fe e) L' o (fun u w' => u = undef ∧ MemOk w0 ((id, r e) :: L') w')) : Ob P w0 ops k o (fun _ => undef) (fun e => [(id, r e)]) ⟨rd, [id], ch, an⟩ Fe Le where
  dep e e' he := ⟨rfl, by rw [hv e e' fun j hj => he j (.inr hj)]⟩
  ids e i hi := by rw [lr_cons, if_neg (fun h => hi (by simp [h]))]; rfl
  sel := hs
  go e L' hL' := ⟨true, by simp [runs, hg], fun _ a w hF hL => (h e L' (fun i hi => by rcases List.mem_cons.1 hi with rfl | hi
                                                                                       · exact hL' i (.inr (by simp))
                                                                                       · exact hL' i (.inl hi)) a w hF hL).mono fun u w' ⟨hu, hM⟩ => ⟨e k, hu, by rw [upd_self]; exact hM⟩, (fun h => by cases h)⟩
/-- a new block -/
theorem Ob.nb {v : Env → Nat → Value} {r : Env → Nat → Res} {rd ch an : List Nat} (id : Nat) (hg : o.guard = none) (hs : ∀ cs b, o.op ≠ .select cs b) (hv : ∀ e e' : Env, (∀ j, j ∈ ch → e j = e' j) → v e = v e' ∧ r e = r e') (hk : k ∉ ch)
    (h : ∀ (e : Env) (L' : ML), (∀ i, i ∈ rd → lr L' i = lr (Le e) i) → JO P w0 (Fe e) L' o (fun u w' => ∃ b : Nat, u = v e b ∧ MemOk w0 ((id, r e b) :: L') w')) : Ob P w0 ops k o (fun e => v e (e k).1) (fun e => [(id, r e (e k).1)]) ⟨rd, [id], ch, an⟩ Fe Le where
  dep e e' he := by
    have h1 := hv e e' fun j hj => he j (.inr hj)
    rw [h1.1, h1.2, he k (.inl rfl)]; exact ⟨rfl, rfl⟩
  ids e i hi := by rw [lr_cons, if_neg (fun h => hi (by simp [h]))]; rfl
  sel := hs
  go e L' hL' := ⟨true, by simp [runs, hg], fun _ a w hF hL => (h e L' (fun i hi => hL' i (.inl hi)) a w hF hL).mono fun u w' ⟨b, hu, hM⟩ => ⟨(b, 0, undef), by
      have h1 := hv e (upd e k (b, 0, undef)) fun j hj => (upd_ne e (by rintro rfl; exact hk hj) _).symm
      rw [← h1.1, ← h1.2, upd_same]
      exact ⟨hu, hM⟩⟩, (fun h => by cases h)⟩
/-- a value and a memory that hang on two numbers -/
theorem Ob.bc {v : Env → Nat × Nat → Value} {r : Env → Nat × Nat → Res} {rd ch an : List Nat} (id : Nat) (hg : o.guard = none) (hs : ∀ cs b, o.op ≠ .select cs b) (hv : ∀ e e' : Env, (∀ j, j ∈ ch → e j = e' j) → v e = v e' ∧ r e = r e') (hk : k ∉ ch)
    (h : ∀ (e : Env) (L' : ML), (∀ i, i ∈ rd → lr L' i = lr (Le e) i) → JO P w0 (Fe e) L' o (fun u w' => ∃ b : Nat × Nat, u = v e b ∧ MemOk w0 ((id, r e b) :: L') w')) : Ob P w0 ops k o (fun e => v e ((e k).1, (e k).2.1)) (fun e => [(id, r e ((e k).1, (e k).2.1))]) ⟨rd, [id], ch, an⟩ Fe Le where
  dep e e' he := by
    have h1 := hv e e' fun j hj => he j (.inr hj)
    rw [h1.1, h1.2, he k (.inl rfl)]; exact ⟨rfl, rfl⟩
  ids e i hi := by rw [lr_cons, if_neg (fun h => hi (by simp [h]))]; rfl
  sel := hs
  go e L' hL' := ⟨true, by simp [runs, hg], fun _ a w hF hL => (h e L' (fun i hi => hL' i (.inl hi)) a w hF hL).mono fun u w' ⟨b, hu, hM⟩ => ⟨(b.1, b.2, undef), by
      have h1 := hv e (upd e k (b.1, b.2, undef)) fun j hj => (upd_ne e (by rintro rfl; exact hk hj) _).symm
      rw [← h1.1, ← h1.2, upd_same]
      exact ⟨hu, hM⟩⟩, (fun h => by cases h)⟩
/-- .. on a value -/
theorem Ob.val {v : Env → Value → Value} {r : Env → Value → Res} {rd ch an : List Nat} (id : Nat) (hg : o.guard = none) (hs : ∀ cs b, o.op ≠ .select cs b) (hv : ∀ e e' : Env, (∀ j, j ∈ ch → e j = e' j) → v e = v e' ∧ r e = r e') (hk : k ∉ ch)
    (h : ∀ (e : Env) (L' : ML), (∀ i, i ∈ id :: rd → lr L' i = lr (Le e) i) → JO P w0 (Fe e) L' o (fun u w' => ∃ b : Value, u = v e b ∧ MemOk w0 ((id, r e b) :: L') w')) : Ob P w0 ops k o (fun e => v e (e k).2.2) (fun e => [(id, r e (e k).2.2)]) ⟨rd, [id], ch, an⟩ Fe Le where
  dep e e' he := by
    have h1 := hv e e' fun j hj => he j (.inr hj)
    rw [h1.1, h1.2, he k (.inl rfl)]; exact ⟨rfl, rfl⟩
  ids e i hi := by rw [lr_cons, if_neg (fun h => hi (by simp [h]))]; rfl
  sel := hs
  go e L' hL' := ⟨true, by simp [runs, hg], fun _ a w hF hL => (h e L' (fun i hi => by rcases List.mem_cons.1 hi with rfl | hi
                                                                                       · exact hL' i (.inr (by simp))
                                                                                       · exact hL' i (.inl hi)) a w hF hL).mono fun u w' ⟨b, hu, hM⟩ => ⟨(0, 0, b), by
      have h1 := hv e (upd e k (0, 0, b)) fun j hj => (upd_ne e (by rintro rfl; exact hk hj) _).symm
      rw [← h1.1, ← h1.2, upd_same]
      exact ⟨hu, hM⟩⟩, (fun h => by cases h)⟩
end
end Go.Fw
namespace Go.Fw
section
variable {P : Program} {w0 : World} {F : FL} {L : ML} {dst : Option Tmp} {ty : TypeId} {pos : String} {af : Array Edge} {gd : Option (Nat × Bool)}
variable {t u' T : TypeId} {x y : Operand} {a b off : Nat} {sz : Nat} {u v : Value} {cs : List Value} {e : TypeId} {Q : Exit → Act → World → Prop} {c : Code}
theorem JQ.rounds (n : Nat) (h : JQ w0 sz F L (Code.rounds P c Q n)) : JQ w0 sz F L ((Code.loop c).wp P Q) := fun a w h1 h2 h3 h4 => wp_loop_rounds n (h a w h1 h2 h3 h4)
theorem JQ.round {n : Nat} (h : JQ w0 sz F L (c.wp P (Exit.then (Code.rounds P c Q n) Q))) : JQ w0 sz F L (Code.rounds P c Q (n + 1)) := h

/-- a package-level array -/
def gv (g n : Nat) : Value := .slice (some ⟨g, 0, none⟩) n n
def Gl (g : Nat) (xs : List Value) (w : World) : Prop := Reads w (gv g xs.length) 1 xs.length xs
theorem JV.loadG1 (id : Nat) {g k n : Nat} {xs : List Value} (hx : evk F x = some (.pointer (some ⟨g, k, none⟩))) (hr : lr L id = some (.ro (gv g n) 1 n xs)) (hag : ∀ w, (isAgg T).run P w = .ok false w) (hu : xs[k]? = some u) :
    JV P w0 F L ⟨dst, .load T x, ty, pos, af, gd⟩ u := by
  refine JV.of fun a w hF hL => ?_
  have h1 := hF.at hx (by simp [Op.operands])
  obtain ⟨ad, l, c, he, _, hc⟩ := (hL.reads hr).cell hu
  cases he
  rw [add_plain, Nat.zero_add] at hc
  simp [execOp, Instr.loadAt, h1, Instr.sureAddr, loadVar, hag, hc]
theorem JV.loadGA (id : Nat) {g m n : Nat} {xs : List Value} (hx : evk F x = some (.pointer (some ⟨g, 0, none⟩))) (hr : lr L id = some (.ro (gv g n) 1 n xs)) (hag : ∀ w, (isAgg T).run P w = .ok true w) (hsz : ∀ w, (sizeOf T).run P w = .ok m w) (hn : xs.length = m) (h0 : 0 < m) :
    JV P w0 F L ⟨dst, .load T x, ty, pos, af, gd⟩ (.agg xs.toArray) := by
  refine JV.loadRA (v := gv g n) (k := 0) id ?_ hr hag hsz (by rw [List.drop_zero]; exact List.take_of_length_le (by omega)) hn h0
  rw [hx]; rfl

/-- A function whose answer hangs on a package-level table. -/
def PureG (g : Nat) (xs : List Value) (P : Program) (f : FuncId) (args : Array Value) (v : Value) : Prop := ∀ w, Gl g xs w → Calls P f args w fun e w' => e = .returned v ∧ Below w.heap.size w w'
theorem JV.callG (id : Nat) {g : Nat} {gs : List Value} {f : FuncId} {xs : List Operand} {ats : Array TypeId} {vs : List Value} (hb : HasBody P f) (hxs : evs F xs vs) (hg : lr L id = some (.ro (gv g gs.length) 1 gs.length gs)) (h : PureG g gs P f vs.toArray v) :
    JV P w0 F L ⟨dst, .call ⟨.value (.func f), xs.toArray, ats⟩, ty, pos, af, gd⟩ v :=
  JV.callM hb hxs fun w hL => h w (hL.reads hg)
end
end Go.Fw
namespace Go.Fw
theorem cells_one {v : Value} (h : v.oneCell' = true) : v.cells = #[v] := by cases v <;> first | rfl | (cases h; done)
theorem fill_all : ∀ (ps : List (Nat × Value)) (k : Nat) (cells : Array Value), ps.map (·.1) = List.range' k ps.length → (ps.map (·.2)).all Value.oneCell' = true → cells.size = k + ps.length →
    Instr.fill (fun i => some (i * 1, 1)) cells ps = some (cells.toList.take k ++ ps.map (·.2)).toArray
  | [], k, cells, _, _, hs => by
    simp only [Instr.fill, List.map_nil, List.append_nil]
    rw [List.take_of_length_le (by simp at hs ⊢; omega)]
  | (i, v) :: ps, k, cells, hk, h1, hs => by
    simp only [List.map_cons, List.length_cons, List.range'_succ, List.cons.injEq] at hk
    obtain ⟨rfl, hk⟩ := hk
    simp only [List.map_cons, List.all_cons, Bool.and_eq_true] at h1
    simp only [List.length_cons] at hs
    have hc := cells_one h1.1
    have hfit : ¬ (i * 1 + 1 > cells.size) := by omega
    simp only [Instr.fill, hc]
    have e1 : (#[v] : Array Value).size = 1 := rfl
    simp only [e1, ne_eq, not_true_eq_false, decide_false, Bool.false_or, decide_eq_true_eq, if_neg hfit]
    have e2 : (#[v] : Array Value).zipIdx.foldl (fun cs x => cs.setIfInBounds (i * 1 + x.2) x.1) cells = cells.setIfInBounds i v := by simp [Array.zipIdx]
    have e3 := fill_all ps (i + 1) (cells.setIfInBounds i v) hk h1.2 (by simp; omega)
    rw [e2, e3]
    congr 2
    simp only [Array.toList_setIfInBounds, List.map_cons]
    have hlt : i < cells.toList.length := by simp; omega
    rw [List.take_succ_eq_append_getElem (by simpa using hlt)]
    simp only [List.getElem_set_self, List.append_assoc, List.singleton_append, List.take_set_of_le (Nat.le_refl i)]
section
variable {P : Program} {w0 : World} {F : FL} {L : ML} {dst : Option Tmp} {ty : TypeId} {pos : String} {af : Array Edge} {gd : Option (Nat × Bool)} {T : TypeId}
/-- an array written out -/
theorem JV.buildArr {n : Nat} {el : TypeId} {z : Value} {ps : List (Nat × Operand)} {vs : List (Nat × Value)} (hp : evp F ps vs) (hT : ∀ w, (underlying T).run P w = .ok (.array n el) w) (hz : ∀ w, (zeroValue T).run P w = .ok z w) (hsz : ∀ w, (sizeOf el).run P w = .ok 1 w)
    (hk : vs.map (·.1) = List.range' 0 vs.length) (h1 : (vs.map (·.2)).all Value.oneCell' = true) (hn : z.cells.size = vs.length) : JV P w0 F L ⟨dst, .build T ps.toArray, ty, pos, af, gd⟩ (.agg (vs.map (·.2)).toArray) := by
  refine JV.build hp fun w => ?_
  have hf := fill_all vs 0 z.cells hk h1 (by omega)
  simp only [List.take_zero, List.nil_append] at hf
  simp [Instr.build, hT, hz, hsz]
  rw [show (fun i : Nat => some (i, 1)) = (fun i : Nat => some (i * 1, 1)) from by simp, hf]
  simp
end
end Go.Fw
namespace Go.Fw
section
variable {P : Program} {w0 : World} {F : FL} {L : ML} {dst : Option Tmp} {ty : TypeId} {pos : String} {af : Array Edge} {gd : Option (Nat × Bool)} {T : TypeId} {x y : Operand} {b off : Nat}
theorem JV.fieldAddrK {o : Nat} {fs : Array Field} {i : Nat} {f : Field} {n : Nat} (hx : evk F x = some (.pointer (some ⟨b, off, none⟩))) (hT : ∀ w, (underlying T).run P w = .ok (.struct fs) w) (hf : fs[i]? = some f)
    (hsz : ∀ w, (sizeOf f.type).run P w = .ok n w) (hn : (n == 0) = false) (ho : off + f.offset = o) : JV P w0 F L ⟨dst, .fieldAddr T x i, ty, pos, af, gd⟩ (.pointer (some ⟨b, o, none⟩)) := by
  subst ho; exact JV.fieldAddr hx hT hf hsz hn
end
end Go.Fw
end
section
open Go.RowKit
set_option linter.unusedVariables false
set_option linter.unusedSimpArgs false
set_option linter.unusedSectionVars false
namespace Go.Fw
open Pl (Stm S8)
/-! A stream's cells. -/
def u64 (n : Nat) : Value := .int .u64 (n : Int)
def scells (s : Stm) : List Value := s.st.list.map u32 ++ (s.blk.map b8 ++ [u64 s.n])
theorem scells_len (s : Stm) (h : s.blk.length = 64) : (scells s).length = 73 := by simp [scells, S8.list, h]
theorem scells_all (s : Stm) : (scells s).all Value.oneCell' = true := by simp [scells, u32, b8, u64, Value.oneCell']
theorem scells_n (s : Stm) (h : s.blk.length = 64) : (scells s)[72]? = some (.int .u64 (s.n : Int)) := by
  unfold scells
  rw [List.getElem?_append_right (by simp [S8.list]), List.getElem?_append_right (by simp [S8.list, h])]
  simp [S8.list, h, u64]
theorem scells_w (s : Stm) (k : Nat) (h : k < 8) : (scells s)[k]? = some (.int .u32 ((s.st.list.getD k 0 : Nat) : Int)) := by
  unfold scells
  rw [List.getElem?_append_left (by simp [S8.list]; omega)]
  exact getU _ _ (by simp [S8.list]; omega)
theorem scells_setn (s : Stm) (h : s.blk.length = 64) (m : Nat) : (scells s).set 72 (.int .u64 (m : Int)) = scells { s with n := m } := by
  unfold scells
  rw [List.set_append_right _ _ (by simp [S8.list]), List.set_append_right _ _ (by simp [S8.list, h])]
  simp [S8.list, h, u64]
theorem scells_st (s : Stm) (st : S8) : (scells s).take 0 ++ st.list.map u32 ++ (scells s).drop (0 + 8) = scells { s with st := st } := by
  unfold scells
  rw [List.drop_append_of_le_length (by simp [S8.list])]
  simp [S8.list]
theorem scells_blk (s : Stm) (h : s.blk.length = 64) : ((scells s).drop (8 + 0 * 1)).take (64 - 0) = s.blk.map b8 := by
  unfold scells
  rw [List.drop_append_of_le_length (by simp [S8.list])]
  rw [List.drop_eq_nil_of_le (by simp [S8.list]), List.nil_append, List.take_append_of_le_length (by simp [h]), List.take_of_length_le (by simp [h])]
theorem scells_copy (s : Stm) (h : s.blk.length = 64) (a k : Nat) (t : List UInt8) (hk : a + k ≤ 64) : (scells s).take (8 + a * 1) ++ (t.take k).map b8 ++ (scells s).drop (8 + a * 1 + k) = scells { s with blk := s.blk.take a ++ t.take k ++ s.blk.drop (a + k) } := by
  have hl : (s.st.list.map u32).length = 8 := by simp [S8.list]
  unfold scells
  rw [List.take_append, List.drop_append, hl, List.take_of_length_le (by rw [hl]; omega), List.drop_eq_nil_of_le (by rw [hl]; omega)]
  rw [show 8 + a * 1 - 8 = a from by omega, show 8 + a * 1 + k - 8 = a + k from by omega]
  rw [List.take_append_of_le_length (by simp [h]; omega), List.drop_append_of_le_length (by simp [h]; omega)]
  simp [List.map_take, List.map_drop]
theorem snocN (l : List UInt8) (x : Nat) : l.map b8 ++ [.int .u8 ((x % 256 : Nat) : Int)] = (l ++ [UInt8.ofNat x]).map b8 := by
  simp [b8]
theorem snocC (l : List UInt8) (c : UInt8) : l.map b8 ++ [.int .u8 (c.toNat : Int)] = (l ++ [c]).map b8 := by
  simp [b8]
theorem snoc0 (l : List UInt8) : l.map b8 ++ [.int .u8 0] = (l ++ [0]).map b8 := by
  simp [b8]
theorem setB (l : List UInt8) (k : Nat) (c : UInt8) : (l.map b8).set k (.int .u8 (c.toNat : Int)) = (l.set k c).map b8 := by simp [b8, List.map_set]
theorem setBN (l : List UInt8) (k n : Nat) : (l.map b8).set k (.int .u8 ((n % 256 : Nat) : Int)) = (l.set k (UInt8.ofNat n)).map b8 := by simp [b8, List.map_set]

section
variable {P : Program} {w0 : World} {F : FL} {L : ML} {dst : Option Tmp} {ty : TypeId} {pos : String} {af : Array Edge} {gd : Option (Nat × Bool)} {T : TypeId} {x y : Operand} {b off : Nat} {v : Value} {e : TypeId}
theorem own_mono {w : World} {N N' sz n : Nat} {xs : List Value} (h : w.ownsRow N e sz v n xs) (hN : N' ≤ N) : w.ownsRow N' e sz v n xs := by
  obtain ⟨h1, h2⟩ := h
  refine ⟨h1, ?_⟩
  rcases h2 with h2 | ⟨g, cap, cur, hv, hb, h3⟩
  · exact .inl h2
  · exact .inr ⟨g, cap, cur, hv, by omega, h3⟩
/-- A call that hands back a row of its own. -/
theorem MemOk.newRow {w w' : World} (h : MemOk w0 L w) (id : Nat) {sz n : Nat} {xs : List Value} (ho : w'.ownsRow w.heap.size e sz v n xs) (hb : Below w.heap.size w w') : MemOk w0 ((id, .row v e sz n xs) :: L) w' := by
  refine h.put (old := none) ⟨hb.os, hb.tape, hb.output, hb.size, fun k hk _ => hb.block k hk⟩ (.inl rfl) (own_mono ho h.below.size) ?_
  rcases own_block_cases ho with ⟨rfl, _, _⟩ | ⟨g, cap, cur, rfl, hg, _⟩
  · exact .inl rfl
  · exact .inr (.inr ⟨g, rfl, hg⟩)
def RowC (P : Program) (f : FuncId) (args : Array Value) (e : TypeId) (sz n : Nat) (xs : List Value) : Prop := ∀ w, Calls P f args w fun en w' => ∃ v, en = .returned v ∧ w'.ownsRow w.heap.size e sz v n xs ∧ Below w.heap.size w w'
theorem JO.callRow (id : Nat) {f : FuncId} {xs : List Operand} {ats : Array TypeId} {vs : List Value} {sz n : Nat} {us : List Value} (hb : HasBody P f) (hxs : evs F xs vs)
    (h : ∀ w, MemOk w0 L w → Calls P f vs.toArray w fun en w' => ∃ v, en = .returned v ∧ w'.ownsRow w.heap.size e sz v n us ∧ Below w.heap.size w w') :
    JO P w0 F L ⟨dst, .call ⟨.value (.func f), xs.toArray, ats⟩, ty, pos, af, gd⟩ (fun v' w' => ∃ i : Value, v' = i ∧ MemOk w0 ((id, .row i e sz n us) :: L) w') :=
  JO.call hb hxs fun w hL => (h w hL).mono fun _ _ ⟨v, he, ho, hw⟩ => ⟨v, he, v, rfl, hL.newRow id ho hw⟩
/-- a function's end: a row -/
theorem MemOk.row {w : World} (h : MemOk w0 L w) {id sz n : Nat} {xs : List Value} (hr : lr L id = some (.row v e sz n xs)) : w.ownsRow w0.heap.size e sz v n xs := h.ok id _ hr
/-- []byte("..") of a constant: what was built is read only from here on -/
theorem JO.convMark (id : Nat) {s el : TypeId} {n : Nat} {us : List Value} (hs : ∀ w, (underlying s).run P w = .ok (.slice el) w) (he : ∀ w, (underlying el).run P w = .ok (.int .u8) w) (hx : evk F x = some (.slice (some ⟨b, 0, none⟩) n n)) (hr : lr L id = some (.cells b us e (0, 0))) (hn : us.length = n) (hm : n ≤ 9223372036854775807) :
    JO P w0 F L ⟨dst, .convert s s x, ty, pos, af, gd⟩ (fun v' w' => ∃ _ : Unit, v' = .slice (some ⟨b, 0, none⟩) n n ∧ MemOk w0 ((id, .ro (.slice (some ⟨b, 0, none⟩) n n) 1 n us) :: L) w') := by
  intro a w hF hL
  have e1 := hF.at hx (by simp [Op.operands])
  have hb := hL.blk hr
  have hsh : w.shape? b = some (e, us.length) := by simp [World.shape?, hb]
  have hw : (w.freeze ⟨b, us.length, none⟩ 1).heap[b]? = some (.cells us.toArray e (us.length, us.length + 1)) := by
    simp [World.freeze, Array.getElem?_modify, hb]
  refine Yields.of_run (v := .slice (some ⟨b, 0, none⟩) n n) (w' := w.freeze ⟨b, us.length, none⟩ 1) ?_ ⟨(), rfl, ?_⟩
  · simp [execOp, e1, convert, hs, he, markStringish, hsh]
  · refine hL.put (old := some b) ⟨rfl, rfl, rfl, by simp [World.freeze], fun k hk hne => ?_⟩ (.inr ⟨_, hr, rfl, rfl⟩) ⟨by omega, _, n, rfl, ⟨Nat.le_refl _, hm⟩, .inr ⟨_, rfl, rfl, fun j u hj => ?_⟩⟩ ?_
    · simp only [World.freeze]
      simp only [Nat.one_ne_zero, if_false, Array.getElem?_modify]
      rw [if_neg (fun h => hne (by rw [h]))]
    · rw [add_plain]
      simp only [World.cell?, hw]
      simpa using hj
    · cases us with
      | nil => exact .inl rfl
      | cons u us => exact .inr (.inl ⟨rfl, by simp⟩)
end
end Go.Fw
end
section
open Go.RowKit
set_option linter.unusedVariables false
set_option linter.unusedSimpArgs false
set_option linter.unusedSectionVars false
namespace Go.Fw
section
variable {P : Program} {w0 : World} {F : FL} {L : ML} {dst : Option Tmp} {ty : TypeId} {pos : String} {af : Array Edge} {gd : Option (Nat × Bool)} {T : TypeId} {x y : Operand} {b off : Nat} {v : Value} {e : TypeId}
theorem JV.tt {o : Oper} {p : Prop} {d : Decidable p} (h : JV P w0 F L o (.bool (decide p))) (hp : p) : JV P w0 F L o (.bool true) := by rwa [decide_eq_true hp] at h
theorem JV.ff {o : Oper} {p : Prop} {d : Decidable p} (h : JV P w0 F L o (.bool (decide p))) (hp : ¬ p) : JV P w0 F L o (.bool false) := by rwa [decide_eq_false hp] at h
theorem JV.callvM {g : Operand} {f : FuncId} {xs : List Operand} {ats : Array TypeId} {vs fs us : List Value} (hg : evk F g = some (.func (.func f) fs.toArray us.toArray)) (hb : HasBody P f) (hxs : evs F xs vs)
    (h : ∀ w, MemOk w0 L w → Calls P f (fs ++ vs ++ us).toArray w fun e w' => e = .returned v ∧ Below w.heap.size w w') : JV P w0 F L ⟨dst, .call ⟨.value g, xs.toArray, ats⟩, ty, pos, af, gd⟩ v :=
  JO.callv hg hb hxs fun w hL => (h w hL).mono fun _ _ ⟨he, hw⟩ => ⟨v, he, rfl, hL.grow hw⟩
variable {ops : List Oper} {k : Nat} {o : Oper} {Fe : Env → FL} {Le : Env → ML}
/-- a change of memory that chooses nothing -/
theorem Ob.u {v : Env → Value} {r : Env → Res} {rd ch an : List Nat} (id : Nat) (hg : o.guard = none) (hs : ∀ cs b, o.op ≠ .select cs b) (hv : ∀ e e' : Env, (∀ j, j ∈ ch → e j = e' j) → v e = v e' ∧ r e = r e') (hk : k ∉ ch)
    (h : ∀ (e : Env) (L' : ML), (∀ i, i ∈ id :: rd → lr L' i = lr (Le e) i) → JO P w0 (Fe e) L' o (fun u w' => ∃ _ : Unit, u = v e ∧ MemOk w0 ((id, r e) :: L') w')) : Ob P w0 ops k o v (fun e => [(id, r e)]) ⟨rd, [id], ch, an⟩ Fe Le where
  dep e e' he := by
    have h1 := hv e e' fun j hj => he j (.inr hj)
    rw [h1.1, h1.2]; exact ⟨rfl, rfl⟩
  ids e i hi := by rw [lr_cons, if_neg (fun h => hi (by simp [h]))]; rfl
  sel := hs
  go e L' hL' := ⟨true, by simp [runs, hg], fun _ a w hF hL => (h e L' (fun i hi => by rcases List.mem_cons.1 hi with rfl | hi
                                                                                       · exact hL' i (.inr (by simp))
                                                                                       · exact hL' i (.inl hi)) a w hF hL).mono fun u w' ⟨_, hu, hM⟩ => ⟨e k, by
      rw [upd_self]; exact ⟨hu, hM⟩⟩, (fun h => by cases h)⟩
theorem JV.convE {s d : TypeId} {k k' : IntKind} {D : TypeDesc} {n m : Int} (hs : ∀ w, (underlying s).run P w = .ok D w) (hd : ∀ w, (underlying d).run P w = .ok (.int k) w) (hx : evk F x = some (.int k' n)) (hn : k.wrap n = m) :
    JV P w0 F L ⟨dst, .convert s d x, ty, pos, af, gd⟩ (.int k m) := by
  have h := JV.convW (P := P) (w0 := w0) (L := L) (dst := dst) (ty := ty) (pos := pos) (af := af) (gd := gd) hs hd hx
  rwa [hn] at h
theorem JV.idxStrD {k : Nat} {kk : IntKind} {l : List UInt8} (hx : evk F x = some (str l)) (hy : evk F y = some (.int kk (k : Int))) (hT : ∀ w, (underlying T).run P w = .ok .string w) (hk : k < l.length) :
    JV P w0 F L ⟨dst, .index T x y, ty, pos, af, gd⟩ (.int .u8 ((l.getD k 0).toNat : Int)) := by
  have h := JV.idxStr (P := P) (w0 := w0) (L := L) (dst := dst) (ty := ty) (pos := pos) (af := af) (gd := gd) hx hy hT hk
  rwa [show b8 l[k] = .int .u8 ((l.getD k 0).toNat : Int) from by simp [b8, hk]] at h
theorem getS (ms : List (List UInt8)) (k : Nat) (h : k < ms.length) : (ms.map str)[k]? = some (str (ms.getD k [])) := by simp [h]
theorem take16 (l : List UInt8) (n : Nat) : ((l.map b8).drop (0 + 0 * 1)).take n = (l.take n).map b8 := by simp
theorem takeB (l : List UInt8) (n : Nat) (h : l.length = n) : ((l.map b8).drop (0 + 0 * 1)).take (n - 0) = l.map b8 := by
  rw [show 0 + 0 * 1 = 0 from rfl, List.drop_zero]; exact List.take_of_length_le (by simp [h])
end
end Go.Fw
end
section
open Go.RowKit
set_option linter.unusedVariables false
set_option linter.unusedSimpArgs false
set_option linter.unusedSectionVars false
namespace Go.Fw
section
variable {P : Program} {w0 : World} {F : FL} {L : ML} {dst : Option Tmp} {ty : TypeId} {pos : String} {af : Array Edge} {gd : Option (Nat × Bool)} {T : TypeId} {x y : Operand} {b off : Nat} {v : Value} {e : TypeId} {K : Act → World → Prop}
/-- A row that is not written any more. -/
theorem MemOk.roOf {w : World} (h : MemOk w0 L w) {id : Nat} {n sz : Nat} {xs : List Value} (hr : lr L id = some (.row v e sz n xs)) : MemOk w0 ((id, .ro v sz n xs) :: L) w := by
  have ho := h.ok id _ hr
  have hg : w.grownBy w none := ⟨rfl, rfl, rfl, Nat.le_refl _, fun _ _ _ => rfl⟩
  cases hx : v.ownBlock with
  | none => exact h.put (old := none) hg (.inl rfl) (reads_row' ho) (.inl (by cases xs <;> simp [Res.blk, hx]))
  | some b =>
    cases xs with
    | nil => exact h.put (old := none) hg (.inl rfl) (reads_row' ho) (.inl rfl)
    | cons u us => exact h.put (old := some b) ⟨rfl, rfl, rfl, Nat.le_refl _, fun _ _ _ => rfl⟩ (.inr ⟨_, hr, rfl, by simp [Res.blk, hx]⟩) (reads_row' ho) (.inr (.inl ⟨by simp [Res.blk, hx], by simp⟩))
theorem JQ.roOf {sz : Nat} (id : Nat) {n esz : Nat} {xs : List Value} (hr : lr L id = some (.row v e esz n xs)) (h : JQ w0 sz F ((id, .ro v esz n xs) :: L) K) : JQ w0 sz F L K :=
  fun a w h1 h2 h3 h4 => h a w h1 h2 h3 (h4.roOf hr)
theorem Src.rd {w : World} {tx e' : TypeId} {m size : Nat} {news : List Value} (ht : P.underlying tx = some (.slice e')) (h : Reads w v size m news) : Src P w tx v size m news := by
  obtain ⟨hl, a, c, rfl, h3⟩ := h
  exact Src.ro ht ⟨hl, a, c, rfl, h3⟩
theorem MemOk.readsRow {w : World} (h : MemOk w0 L w) {id : Nat} {n sz : Nat} {xs : List Value} (hr : lr L id = some (.row v e sz n xs)) : Reads w v sz n xs := reads_row' (h.ok id _ hr)
theorem JV.xorC32 {t u : TypeId} {a b : Nat} (hx : evk F x = some (.int .u32 (a : Int))) (hy : evk F y = some (.int .u32 (b : Int))) (ha : a < 4294967296) (hb : b < 4294967296) : JV P w0 F L ⟨dst, .binOp .xor t x y u, ty, pos, af, gd⟩ (.int .u32 ((b ^^^ a : Nat) : Int)) := by
  rw [Nat.xor_comm]; exact JV.xorU32 hx hy ha hb
theorem snocX (l : List UInt8) (a c : UInt8) : l.map b8 ++ [.int .u8 ((a.toNat ^^^ c.toNat : Nat) : Int)] = (l ++ [a ^^^ c]).map b8 := by
  rw [← UInt8.toNat_xor]; exact snocC l (a ^^^ c)
theorem snocX0 (l : List UInt8) (c : UInt8) : l.map b8 ++ [.int .u8 ((0 ^^^ c.toNat : Nat) : Int)] = (l ++ [0 ^^^ c]).map b8 := snocX l 0 c
end
end Go.Fw
end
section
open Go.RowKit
set_option linter.unusedVariables false
set_option linter.unusedSimpArgs false
set_option linter.unusedSectionVars false
namespace Go.Fw
section
variable {P : Program} {w0 : World} {F : FL} {L : ML} {dst : Option Tmp} {ty : TypeId} {pos : String} {af : Array Edge} {gd : Option (Nat × Bool)} {T : TypeId} {x y : Operand} {b off : Nat} {v : Value} {e : TypeId} {K : Act → World → Prop}
theorem JV.bt {o : Oper} {b : Bool} (h : JV P w0 F L o (.bool b)) (hp : b = true) : JV P w0 F L o (.bool true) := by rwa [hp] at h
theorem JV.bf {o : Oper} {b : Bool} (h : JV P w0 F L o (.bool b)) (hp : b = false) : JV P w0 F L o (.bool false) := by rwa [hp] at h
theorem andLow (d : Int) : IntKind.i64.wrap (((d % 2 ^ IntKind.i64.bits).toNat &&& 255 % 2 ^ IntKind.i64.bits : Nat) : Int) = d % 256 := by
  rw [show 255 % 2 ^ IntKind.i64.bits = 2 ^ 8 - 1 from rfl, Nat.and_two_pow_sub_one_eq_mod, show (2 : Int) ^ IntKind.i64.bits = 18446744073709551616 from rfl, show (2 : Nat) ^ 8 = 256 from rfl]
  rw [wrap_i64 (by omega)]
  omega
theorem JV.and255 {t u : TypeId} {d : Int} (hx : evk F x = some (.int .i64 d)) (hy : evk F y = some (.int .i64 255)) : JV P w0 F L ⟨dst, .binOp .and t x y u, ty, pos, af, gd⟩ (.int .i64 (d % 256)) :=
  JV.bin hx hy fun w => by
    simp only [binOp, Op.intBits]; simp
    exact andLow d
variable {ops : List Oper} {k : Nat} {o : Oper} {Fe : Env → FL} {Le : Env → ML}
theorem Ob.bcg {v : Env → Nat × Nat → Value} {r : Env → Nat × Nat → Res} {rd ch an : List Nat} {j dj : Nat} {b : Bool} (id : Nat) (hg : o.guard = some (j, b)) (hj : (ops[j]?).bind (·.dst) = some dj) (hb : ∀ e, lk (Fe e) dj = some (.bool b)) (hs : ∀ cs b, o.op ≠ .select cs b) (hv : ∀ e e' : Env, (∀ j, j ∈ ch → e j = e' j) → v e = v e' ∧ r e = r e') (hk : k ∉ ch)
    (h : ∀ (e : Env) (L' : ML), (∀ i, i ∈ rd → lr L' i = lr (Le e) i) → JO P w0 (Fe e) L' o (fun u w' => ∃ b : Nat × Nat, u = v e b ∧ MemOk w0 ((id, r e b) :: L') w')) : Ob P w0 ops k o (fun e => v e ((e k).1, (e k).2.1)) (fun e => [(id, r e ((e k).1, (e k).2.1))]) ⟨rd, [id], ch, an⟩ Fe Le where
  dep e e' he := by
    have h1 := hv e e' fun j hj => he j (.inr hj)
    rw [h1.1, h1.2, he k (.inl rfl)]; exact ⟨rfl, rfl⟩
  ids e i hi := by rw [lr_cons, if_neg (fun h => hi (by simp [h]))]; rfl
  sel := hs
  go e L' hL' := ⟨true, by simp only [runs, hg]; exact ⟨dj, b, hj, hb e, by simp⟩, fun _ a w hF hL => (h e L' (fun i hi => hL' i (.inl hi)) a w hF hL).mono fun u w' ⟨b, hu, hM⟩ => ⟨(b.1, b.2, undef), by
      have h1 := hv e (upd e k (b.1, b.2, undef)) fun j hj => (upd_ne e (by rintro rfl; exact hk hj) _).symm
      rw [← h1.1, ← h1.2, upd_same]
      exact ⟨hu, hM⟩⟩, (fun h => by cases h)⟩
end
end Go.Fw
end
section
open Go.RowKit
set_option linter.unusedVariables false
set_option linter.unusedSimpArgs false
set_option linter.unusedSectionVars false
namespace Go.Fw
section
variable {P : Program} {w0 : World} {F : FL} {L : ML} {sz : Nat}
theorem JQ.doneTC (id : Nat) {fn : Func} {R : Ending → World → Prop} {t s : Tmp} {u : Value} {T : TypeId} {b n : Nat} {cs : List Value} {e : TypeId} {fz : Nat × Nat} (hr : fn.results = #[.tmp t, .cell s T]) (ht : lk F t = some u) (hs : lk F s = some (.pointer (some ⟨b, 0, none⟩))) (hb : lr L id = some (.cells b cs e fz))
    (hag : ∀ w, (isAgg T).run P w = .ok true w) (hsz : ∀ w, (sizeOf T).run P w = .ok n w) (hn : cs.length = n) (h : ∀ w, MemOk w0 L w → R (.returned (.tuple #[u, .agg cs.toArray])) w) : JQ w0 sz F L (bodyPost P fn R .ret) := by
  refine JQ.done (v := .tuple #[u, .agg cs.toArray]) (fun a w hF hL => ?_) h
  have hl := run_loadCells_list (P := P) w ⟨b, 0, none⟩ cs (fun j v hj => by rw [add_plain, Nat.zero_add, cell_of_blk (hL.blk hb)]; exact hj)
  rw [hn] at hl
  have h1 := hF s _ hs
  have h2 := hF t _ ht
  simp [results, hr, h1, h2, loadVar, hag, hsz, hl, asAddr]
theorem JQ.doneCT (id : Nat) {fn : Func} {R : Ending → World → Prop} {t s : Tmp} {u : Value} {T : TypeId} {b n : Nat} {cs : List Value} {e : TypeId} {fz : Nat × Nat} (hr : fn.results = #[.cell s T, .tmp t]) (ht : lk F t = some u) (hs : lk F s = some (.pointer (some ⟨b, 0, none⟩))) (hb : lr L id = some (.cells b cs e fz))
    (hag : ∀ w, (isAgg T).run P w = .ok true w) (hsz : ∀ w, (sizeOf T).run P w = .ok n w) (hn : cs.length = n) (h : ∀ w, MemOk w0 L w → R (.returned (.tuple #[.agg cs.toArray, u])) w) : JQ w0 sz F L (bodyPost P fn R .ret) := by
  refine JQ.done (v := .tuple #[.agg cs.toArray, u]) (fun a w hF hL => ?_) h
  have hl := run_loadCells_list (P := P) w ⟨b, 0, none⟩ cs (fun j v hj => by rw [add_plain, Nat.zero_add, cell_of_blk (hL.blk hb)]; exact hj)
  rw [hn] at hl
  have h1 := hF s _ hs
  have h2 := hF t _ ht
  simp [results, hr, h1, h2, loadVar, hag, hsz, hl, asAddr]
theorem JQ.doneTT {fn : Func} {R : Ending → World → Prop} {t s : Tmp} {u v : Value} (hr : fn.results = #[.tmp t, .tmp s]) (ht : lk F t = some u) (hs : lk F s = some v) (h : ∀ w, MemOk w0 L w → R (.returned (.tuple #[u, v])) w) : JQ w0 sz F L (bodyPost P fn R .ret) := by
  refine JQ.done (v := .tuple #[u, v]) (fun a w hF hL => ?_) h
  have h1 := hF s _ hs
  have h2 := hF t _ ht
  simp [results, hr, h1, h2]
theorem JQ.doneN {fn : Func} {R : Ending → World → Prop} (hr : fn.results = #[]) (h : ∀ w, MemOk w0 L w → R (.returned (.tuple #[])) w) : JQ w0 sz F L (bodyPost P fn R .ret) := by
  refine JQ.done (v := .tuple #[]) (fun a w hF hL => ?_) h
  simp [results, hr]
end
end Go.Fw
end
section
open Go.RowKit
set_option linter.unusedVariables false
set_option linter.unusedSimpArgs false
namespace Go.Fw
open Go.ChangeShapes Go.WideShapes
/-! What an argument reads as. -/
theorem b8_int {z : Int} (h : (Lit.int .u8 z).wf = true) : .int .u8 z = b8 (UInt8.ofNat z.toNat) := by
  obtain ⟨h1, h2⟩ := bounds_u8 h
  simp only [b8, UInt8.toNat_ofNat']
  congr 1
  have : (2 : Nat) ^ 8 = 256 := rfl
  omega
theorem reads_ints {W : World} {x : Addr} {len cap : Nat} {zs : List Int} (hl : len ≤ cap) (hm : cap ≤ maxLen) (hz : zs.length = cap)
    (hcell : ∀ i, i < zs.length → W.cell? (x.add i) = some (.int .u8 (zs.getD i 0))) (hwz : ∀ n ∈ zs, (Lit.int .u8 n).wf = true) :
    ∃ m : List UInt8, m.length = len ∧ Reads W (.slice (some x) len cap) 1 m.length (m.map b8) := by
  have hmx : maxLen = 9223372036854775807 := by decide
  refine ⟨(zs.take len).map fun z => UInt8.ofNat z.toNat, by simp; omega, by simp, _, cap, by congr 1; simp; omega, ⟨by simp; omega, by simp; omega⟩, ?_⟩
  by_cases h0 : len = 0
  · subst h0; left; simp
  right
  refine ⟨x, rfl, World.cell?_spot (hcell 0 (by omega)) |> fun h => ?_, fun j u hj => ?_⟩
  · cases hs : x.spot with
    | none => rfl
    | some s => obtain ⟨b, o, sp⟩ := x; subst hs; simp [Addr.add] at h
  · have hj' : j < len := by have := (List.getElem?_eq_some_iff.1 hj).1; simp at this; omega
    rw [hcell j (by omega)]
    have hlt : j < zs.length := by omega
    simp only [List.map_map, List.getElem?_map, List.getElem?_take_of_lt hj', List.getElem?_eq_getElem hlt, Option.map_some, Function.comp, Option.some.injEq] at hj
    rw [← hj, List.getD_eq_getElem?_getD, List.getElem?_eq_getElem hlt, Option.getD_some, b8_int (hwz _ (List.getElem_mem hlt))]
theorem str_toList (s : ByteArray) : str s.data.toList = .string s := by cases s; simp [str]
theorem reads_strs {W : World} {x : Addr} {len cap : Nat} {ss : List ByteArray} (hl : len ≤ cap) (hm : cap ≤ maxLen) (hz : ss.length = cap)
    (hcell : ∀ i, i < ss.length → W.cell? (x.add i) = some (.string (ss.getD i ByteArray.empty))) :
    ∃ m : List (List UInt8), m.length = len ∧ Reads W (.slice (some x) len cap) 1 m.length (m.map str) := by
  have hmx : maxLen = 9223372036854775807 := by decide
  refine ⟨(ss.take len).map fun s => s.data.toList, by simp; omega, by simp, _, cap, by congr 1; simp; omega, ⟨by simp; omega, by simp; omega⟩, ?_⟩
  by_cases h0 : len = 0
  · subst h0; left; simp
  right
  refine ⟨x, rfl, World.cell?_spot (hcell 0 (by omega)) |> fun h => ?_, fun j u hj => ?_⟩
  · cases hs : x.spot with
    | none => rfl
    | some s => obtain ⟨b, o, sp⟩ := x; subst hs; simp [Addr.add] at h
  · have hj' : j < len := by have := (List.getElem?_eq_some_iff.1 hj).1; simp at this; omega
    rw [hcell j (by omega)]
    have hlt : j < ss.length := by omega
    simp only [List.map_map, List.getElem?_map, List.getElem?_take_of_lt hj', List.getElem?_eq_getElem hlt, Option.map_some, Function.comp, Option.some.injEq] at hj
    rw [← hj, List.getD_eq_getElem?_getD, List.getElem?_eq_getElem hlt, Option.getD_some, str_toList]
theorem reads_nil (W : World) (xs : List Value) (n : Nat) (hn : xs = []) (h0 : n = 0) : Reads W (.slice none 0 0) 1 n xs := by
  subst hn; subst h0; exact ⟨rfl, none, 0, rfl, ⟨Nat.le_refl _, by decide⟩, .inl rfl⟩
section
variable {H : Type} {enc : TypeId × Value → H} {P : Program} {W : World} {base : Nat} {t e : TypeId} {a0 : Option Addr} {len0 cap0 : Nat} {d0 : DataW H} {p0 : List MemPlace}
theorem arg_bytes (ht : P.underlying t = some (.slice e)) (he : P.underlying e = some (.int .u8)) (hc : P.cellsOf e = 1) (h : DataW.Trod enc P W 0 (fun _ => true) true t (.slice a0 len0 cap0) d0 p0) :
    ∃ m : List UInt8, m.length ≤ 9223372036854775807 ∧ Reads W (.slice a0 len0 cap0) 1 m.length (m.map b8) := by
  obtain ⟨fuel, hf⟩ := h
  rcases open_ints ht he hc hf with ⟨hcs, _⟩ | ⟨x, l, c, zs, hcs, _, hl, hm, hz, _, hcell, hwz⟩
  · simp [Value.cells] at hcs
    obtain ⟨rfl, rfl, rfl⟩ := hcs
    exact ⟨[], by decide, reads_nil W _ _ rfl rfl⟩
  · simp [Value.cells] at hcs
    obtain ⟨rfl, rfl, rfl⟩ := hcs
    obtain ⟨m, h1, h2⟩ := reads_ints hl hm (by simpa using hz) hcell hwz
    have hmx : maxLen = 9223372036854775807 := by decide
    exact ⟨m, by omega, h2⟩
theorem arg_strs (ht : P.underlying t = some (.slice e)) (he : P.underlying e = some .string) (hc : P.cellsOf e = 1) (h : DataW.Trod enc P W 0 (fun _ => true) true t (.slice a0 len0 cap0) d0 p0) :
    ∃ m : List (List UInt8), m.length ≤ 9223372036854775807 ∧ Reads W (.slice a0 len0 cap0) 1 m.length (m.map str) := by
  obtain ⟨fuel, hf⟩ := h
  rcases open_strings ht he hc hf with ⟨hcs, _⟩ | ⟨x, l, c, ss, hcs, _, hl, hm, hz, _, hcell, _⟩
  · simp [Value.cells] at hcs
    obtain ⟨rfl, rfl, rfl⟩ := hcs
    exact ⟨[], by decide, reads_nil W _ _ rfl rfl⟩
  · simp [Value.cells] at hcs
    obtain ⟨rfl, rfl, rfl⟩ := hcs
    obtain ⟨m, h1, h2⟩ := reads_strs hl hm (by simpa using hz) hcell
    have hmx : maxLen = 9223372036854775807 := by decide
    exact ⟨m, by omega, h2⟩
/-- a table of words -/
theorem table {sp : Nat → Bool} {held : Bool} {g f : Nat} {nm : String} {cs : Array Value} {p : List MemPlace} (hT : P.underlying t = some (.array 64 e)) (he : P.underlying e = some (.int .u32)) (hc : P.cellsOf e = 1) (hc2 : P.cellsOf t = 64) (hg : P.globalNamed nm = some g) (hv : W.var? P nm = some cs)
    (hd : DataW.trod enc P W base sp held f t cs.toList = some (.agg (Pl.K.map fun k : Nat => .lit (.int .u32 (k : Int))), p)) : Gl g (Pl.K.map u32) W := by
  obtain ⟨xs, m, rfl, hx, hlen, hn, hel⟩ := DataW.trod_array hT hd
  simp only [Prod.mk.injEq, DataW.agg.injEq] at hx
  have hK : Pl.K.length = 64 := rfl
  refine ⟨by simp, _, 64, rfl, ⟨by simp [hK], by simp [hK]⟩, .inr ⟨_, rfl, rfl, fun j u hj => ?_⟩⟩
  have hj64 : j < 64 := by have := (List.getElem?_eq_some_iff.1 hj).1; simpa [hK] using this
  have h1 := hel j hj64
  rw [hc, Nat.mul_one, List.getElem?_eq_getElem (by omega)] at h1
  obtain ⟨k, e1, e2, _⟩ := DataW.trod_int he h1
  have h2 : (Pl.K.map fun k : Nat => DataW.lit (H := H) (.int .u32 (k : Int)))[j]? = (xs.map (·.1))[j]? := by rw [hx.1]
  rw [List.getElem?_map, List.getElem?_map, List.getElem?_eq_getElem (by omega), List.getElem?_eq_getElem (show j < xs.length by omega)] at h2
  simp only [Option.map_some, Option.some.injEq, e2, DataW.lit.injEq, Lit.int.injEq, true_and] at h2
  rw [List.getElem?_map, List.getElem?_eq_getElem (by omega)] at hj
  simp only [Option.map_some, Option.some.injEq] at hj
  rw [add_plain, Nat.zero_add, World.var?_cell hg hv j, ← hj, u32, h2]
  have hlt : j < cs.toList.length := by omega
  rw [List.drop_eq_getElem_cons hlt] at e1
  simp at e1
  rw [Array.getElem?_eq_getElem (by simpa using hlt), e1]
end
end Go.Fw
namespace Go.Fw
open Go.ChangeShapes Go.WideShapes
/-- the lowest byte of an int -/
def lowByte (d : Int) : UInt8 := UInt8.ofNat (d % 256).toNat
theorem lowByte_wrap (d : Int) : IntKind.u8.wrap d = ((lowByte d).toNat : Int) := by
  have h1 : IntKind.u8.wrap d = d % 256 := by simp [IntKind.wrap, IntKind.bits, IntKind.signed]
  rw [h1, lowByte, UInt8.toNat_ofNat']
  have : (2 : Nat) ^ 8 = 256 := rfl
  omega
section
variable {H : Type} {enc : TypeId × Value → H} {P : Program} {W : World} {base : Nat} {t e : TypeId} {v : Value} {d0 : DataW H} {p0 : List MemPlace} {r : Reach}
theorem arg_arr2 (ht : P.underlying t = some (.array 2 e)) (he : P.underlying e = some (.int .u8)) (hc : P.cellsOf e = 1) (hc2 : P.cellsOf t = 2) (hval : Value.okWide P W r base t v) (h : DataW.Trod enc P W 0 (fun _ => true) true t v d0 p0) :
    ∃ c c' : UInt8, v = .agg ([c, c'].map b8).toArray := by
  simp only [Value.okWide, ht] at hval
  obtain ⟨cs, rfl, hn, _⟩ := hval
  rw [hc2] at hn
  obtain ⟨fuel, hf⟩ := h
  obtain ⟨xs, m, rfl, hx, hlen, hn3, hel⟩ := DataW.trod_array ht hf
  match cs, hn with
  | ⟨[a, b]⟩, _ =>
    have h0 := hel 0 (by decide)
    have h1 := hel 1 (by decide)
    rw [hc, List.getElem?_eq_getElem (by omega)] at h0 h1
    obtain ⟨k, e1, _, w1⟩ := DataW.trod_int he h0
    obtain ⟨k', e2, _, w2⟩ := DataW.trod_int he h1
    simp [Value.cells] at e1 e2
    subst e1; subst e2
    exact ⟨_, _, by rw [b8_int w1, b8_int w2]; rfl⟩
end
end Go.Fw
end
section
open Go.RowKit
set_option linter.unusedVariables false
set_option linter.unusedSimpArgs false
namespace Go.Fw
open Go.ChangeShapes Go.WideShapes
section
variable {H : Type} {enc : TypeId × Value → H} {P : Program} {W : World} {base : Nat} {t e : TypeId} {v : Value} {d0 : DataW H} {p0 : List MemPlace} {r : Reach} {n : Nat}
theorem arg_arrB (ht : P.underlying t = some (.array n e)) (he : P.underlying e = some (.int .u8)) (hc : P.cellsOf e = 1) (hc2 : P.cellsOf t = n) (hval : Value.okWide P W r base t v) (h : DataW.Trod enc P W 0 (fun _ => true) true t v d0 p0) :
    ∃ ds : List UInt8, ds.length = n ∧ v = .agg (ds.map b8).toArray := by
  simp only [Value.okWide, ht] at hval
  obtain ⟨cs, rfl, hn, _⟩ := hval
  rw [hc2] at hn
  obtain ⟨fuel, hf⟩ := h
  obtain ⟨xs, m, rfl, hx, hlen, hn3, hel⟩ := DataW.trod_array ht hf
  have key : ∀ j, j < n → ∃ c : UInt8, cs[j]? = some (b8 c) := by
    intro j hj
    have h0 := hel j hj
    rw [hc, Nat.mul_one, List.getElem?_eq_getElem (by omega)] at h0
    obtain ⟨k, e1, _, w1⟩ := DataW.trod_int he h0
    have hlt : j < cs.toList.length := by simp; omega
    simp only [Value.cells] at e1
    rw [List.drop_eq_getElem_cons hlt] at e1
    simp at e1
    refine ⟨UInt8.ofNat k.toNat, ?_⟩
    rw [← b8_int w1, ← e1]
    simp only [Array.length_toList] at hlt
    exact Array.getElem?_eq_getElem hlt
  have key2 : ∀ (l : List Value), (∀ j, j < l.length → ∃ c : UInt8, l[j]? = some (b8 c)) → ∃ ds : List UInt8, ds.length = l.length ∧ l = ds.map b8 := by
    intro l
    induction l with
    | nil => exact fun _ => ⟨[], rfl, rfl⟩
    | cons x l ih =>
      intro hk
      obtain ⟨c, hc⟩ := hk 0 (by simp)
      obtain ⟨ds, h1, h2⟩ := ih fun j hj => by
        have := hk (j + 1) (by simpa using hj)
        simpa using this
      simp at hc
      exact ⟨c :: ds, by simp [h1], by rw [hc, h2]; rfl⟩
  obtain ⟨ds, h1, h2⟩ := key2 cs.toList fun j hj => by
    simp only [Array.length_toList] at hj
    have := key j (by omega)
    simpa using this
  refine ⟨ds, by rw [h1]; simpa using hn, ?_⟩
  rw [← h2]
end
end Go.Fw
end
