/- Words of memory for the walks: worlds that have only grown, slices of numbers that read as a function, the ending of a call. No condition. -/
import Derived.Test.YtdeoampkbbbleaaRows
import Derived.Test.YtdeoampkbbbleaaPure
import Derived.WalkKit
import Derived.WalkSpells
import Derived.WalkLawsBesides
import Derived.Lib.Hide
import Derived.BigQuiet
import Derived.Deep.Draws
namespace Go.Proofs.Ytdeoampkbbbleaa
open Go.RowKit Pu

/-- A world that has grown out of w: what was there is as it was. -/
structure Grow (w : World) where
  to : World
  below : Below w.heap.size w to

instance (w : World) : Nonempty (Grow w) := ⟨⟨w, Below.refl _ _⟩⟩
theorem Grow.mk' {w w' : World} (h : Below w.heap.size w w') : ∃ x : Grow w, w' = x.to := ⟨⟨w', h⟩, rfl⟩
theorem Grow.size {w : World} (x : Grow w) : w.heap.size ≤ x.to.heap.size := x.below.size
theorem Grow.on {w w' : World} (x : Grow w) (h : Below x.to.heap.size x.to w') : ∃ y : Grow w, w' = y.to := Grow.mk' (x.below.trans (h.mono x.size))

/-- The cells of a block that was laid last before. -/
theorem Grow.box {w : World} {cs : Array Value} {t : TypeId} (x : Grow (w.alloc (.cells cs t))) (i : Nat) : x.to.cell? ⟨w.heap.size, i, none⟩ = cs[i]? := by
  rw [x.below.cell (p := ⟨w.heap.size, i, none⟩) (by simp)]
  exact World.cell?_alloc_new w cs t i

/-- Block b lies in w. -/
def InW (w : World) (b : Nat) : Prop := b < w.heap.size
theorem InW.alloc (w : World) (o : Obj) (b : Nat) : InW (w.alloc o) b = (b = w.heap.size ∨ InW w b) := by
  unfold InW; simp only [World.size_alloc, eq_iff_iff]; omega
theorem InW.drew (w : World) (b : Nat) : InW w.drew b = InW w b := propext ⟨fun h => h, fun h => h⟩
theorem InW.setCell (w : World) (a : Addr) (u : Value) (b : Nat) : InW (w.setCell a u) b = InW w b := by unfold InW; simp [World.setCell]
theorem InW.grow {w : World} (x : Grow w) {b : Nat} (h : InW w b) : InW x.to b = True := eq_true (Nat.lt_of_lt_of_le h x.below.size)
theorem InW.self (w : World) : InW w w.heap.size = False := eq_false (Nat.lt_irrefl _)
theorem Grow.old {w : World} (x : Grow w) {b : Nat} (o : Nat) (h : InW w b) : x.to.cell? ⟨b, o, none⟩ = w.cell? ⟨b, o, none⟩ := x.below.cell (p := ⟨b, o, none⟩) h
theorem Grow.oldf {w : World} (x : Grow w) {b : Nat} (o : Nat) (h : InW w b) : x.to.frozen? ⟨b, o, none⟩ = w.frozen? ⟨b, o, none⟩ := x.below.frozen (p := ⟨b, o, none⟩) h
theorem alloc_old (w : World) (ob : Obj) {b : Nat} (o : Nat) (h : InW w b) : (w.alloc ob).cell? ⟨b, o, none⟩ = w.cell? ⟨b, o, none⟩ := World.cell?_alloc_lt w ob ⟨b, o, none⟩ h
theorem alloc_oldf (w : World) (ob : Obj) {b : Nat} (o : Nat) (h : InW w b) : (w.alloc ob).frozen? ⟨b, o, none⟩ = w.frozen? ⟨b, o, none⟩ :=
  ((Below.refl w.heap.size w).alloc (Nat.le_refl _) ob).frozen (p := ⟨b, o, none⟩) h
attribute [go_sem] Grow.box InW.alloc InW.drew InW.setCell InW.grow InW.self Grow.old Grow.oldf alloc_old alloc_oldf
/-- A region that draws its order, whose operations read or call functions that write nothing old: one walk in the order of the text. -/
theorem wp_region_grow {P : Program} (W : World) {id : Nat} {Q : Exit → Act → World → Prop} {a : Act} {w : World} {l : List Oper} (hw : ∃ x : Grow W, w = x.to) (hm : P.follows .mixedOrders = true) (hB : Region.lexB .any l.toArray = true)
    (h : wpQuiet P l.toArray (fun w' => ∃ x : Grow W, w' = x.to) (fun a' => ∀ w', (∃ x : Grow W, w' = x.to) → Q .normal a' w') l a) : (Code.region id l.toArray true).wp P Q a w := by
  refine wp_region_quiet (C := fun w' => ∃ x : Grow W, w' = x.to) hm hB ?_ (by simpa using h)
  obtain ⟨x, rfl⟩ := hw
  exact Grow.mk' x.below.drew
theorem wp_region_here {P : Program} {id : Nat} {Q : Exit → Act → World → Prop} {a : Act} {w : World} {l : List Oper} (hm : P.follows .mixedOrders = true) (hB : Region.lexB .any l.toArray = true)
    (h : wpQuiet P l.toArray (fun w' => ∃ x : Grow w, w' = x.to) (fun a' => ∀ w', (∃ x : Grow w, w' = x.to) → Q .normal a' w') l a) : (Code.region id l.toArray true).wp P Q a w :=
  wp_region_grow w ⟨⟨w, Below.refl _ _⟩, rfl⟩ hm hB h
theorem wp_region_in {P : Program} {W : World} (x : Grow W) {id : Nat} {Q : Exit → Act → World → Prop} {a : Act} {l : List Oper} (hm : P.follows .mixedOrders = true) (hB : Region.lexB .any l.toArray = true)
    (h : wpQuiet P l.toArray (fun w' => ∃ x : Grow W, w' = x.to) (fun a' => ∀ w', (∃ x : Grow W, w' = x.to) → Q .normal a' w') l a) : (Code.region id l.toArray true).wp P Q a x.to :=
  wp_region_grow W ⟨x, rfl⟩ hm hB h

/-- w' has grown out of w. -/
def Up (w w' : World) : Prop := Below w.heap.size w w'
theorem Up.refl (w : World) : Up w w := Below.refl _ _
theorem Up.alloc {w w' : World} (h : Up w w') (o : Obj) : Up w (w'.alloc o) := Below.alloc h h.size o
theorem Up.drew {w w' : World} (h : Up w w') : Up w w'.drew := Below.drew h
theorem Up.drewN {w w' : World} (h : Up w w') (n : Nat) : Up w (w'.drewN n) := ⟨h.os, h.tape, h.output, h.size, h.block⟩
theorem Up.trans {a b c : World} (h : Up a b) (k : Up b c) : Up a c := Below.trans h (k.mono h.size)
theorem Up.grow {w W : World} (h : Up w W) (x : Grow W) : Up w x.to := h.trans x.below
theorem Up.setCell {w w' : World} (h : Up w w') {p : Addr} (hp : w.heap.size ≤ p.block) (u : Value) : Up w (w'.setCell p u) := Below.setCell h hp u
/-- The call returns v, and what was there is as it was. -/
def Ret (w : World) (v : Value) (e : Ending) (w' : World) : Prop := e = .returned v ∧ Up w w'
theorem ret_int {k : IntKind} {a b : Int} (h : a = b) : Ending.returned (.int k a) = .returned (.int k b) := by rw [h]
theorem ret_bool {a b : Bool} (h : a = b) : Ending.returned (.bool a) = .returned (.bool b) := by rw [h]
theorem w64 {n : Int} (h0 : -9223372036854775808 ≤ n) (h1 : n ≤ 9223372036854775807) : wrap64 n = n := IntWalk.wrap64_in n ⟨h0, h1⟩

theorem Ret.grow {P : Program} {f : FuncId} {args : Array Value} {W : World} {v : Value} (x : Grow W) (h : Calls P f args x.to (Ret x.to v)) : Calls P f args x.to fun e w' => e = .returned v ∧ ∃ y : Grow W, w' = y.to :=
  h.mono fun _ _ ⟨he, hb⟩ => ⟨he, x.on hb⟩
theorem Ret.same {P : Program} {f : FuncId} {args : Array Value} {W : World} {v : Value} (x : Grow W) (h : Calls P f args x.to fun e w' => e = .returned v ∧ x.to = w') : Calls P f args x.to fun e w' => e = .returned v ∧ ∃ y : Grow W, w' = y.to :=
  h.mono fun _ _ ⟨he, hb⟩ => ⟨he, x, hb.symm⟩

/-- A slice's address A, of n elements: the numbers f 0 .. f (n - 1). -/
def Ints (w : World) (A : Option Addr) (n : Nat) (f : Nat → Int) : Prop :=
  ∀ i, i < n → ∃ b off, A = some ⟨b, off, none⟩ ∧ b < w.heap.size ∧ w.cell? ⟨b, off + i, none⟩ = some (.int .i64 (f i))
theorem Ints.below {w w' : World} {A n f} (h : Ints w A n f) (hb : Below w.heap.size w w') : Ints w' A n f := fun i hi => by
  obtain ⟨b, off, rfl, hlt, hc⟩ := h i hi
  exact ⟨b, off, rfl, Nat.lt_of_lt_of_le hlt hb.size, (hb.cell (p := ⟨b, off + i, none⟩) hlt).trans hc⟩
theorem Ints.up {w w' : World} {A n f} (h : Ints w A n f) (u : Up w w') : Ints w' A n f := h.below u
/-- The numbers' own place. -/
theorem Ints.at_ {w : World} {A n f} (h : Ints w A n f) (hn : 0 < n) : ∃ b off, A = some ⟨b, off, none⟩ ∧ b < w.heap.size ∧ ∀ i, i < n → w.cell? ⟨b, off + i, none⟩ = some (.int .i64 (f i)) := by
  obtain ⟨b, off, e, hlt, _⟩ := h 0 hn
  refine ⟨b, off, e, hlt, fun i hi => ?_⟩
  obtain ⟨b', off', e', _, hc⟩ := h i hi
  rw [e] at e'; injection e' with e'; injection e' with e1 e2; subst e1; subst e2
  exact hc
/-- The value v is the life table T in w. -/
def TabAt (w : World) (T : Tab) (v : Value) : Prop := ∃ A c, v = .agg #[.int .i64 T.first, .slice A T.n c] ∧ T.n ≤ c ∧ c ≤ 9223372036854775807 ∧ T.n ≤ 1048576 ∧ Ints w A T.n T.f
theorem TabAt.up {w w' : World} {T v} (h : TabAt w T v) (u : Up w w') : TabAt w' T v := by
  obtain ⟨A, c, h1, h2, h3, h4, h5⟩ := h
  exact ⟨A, c, h1, h2, h3, h4, h5.up u⟩
end Go.Proofs.Ytdeoampkbbbleaa
