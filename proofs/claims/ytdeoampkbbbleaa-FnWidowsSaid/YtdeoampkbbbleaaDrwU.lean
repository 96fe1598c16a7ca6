/- Words on draws: a source in memory that has been made since W; worlds that have grown out of one another but for the source's block. No condition. Contracts of the draws of numbers: l01Next, l01Pick, l01From. Condition: a source made since W. Contract of the source's making, for whatever world is older. Condition: a code of at most 4096 bytes. Contracts of the draws of life tables: rates, MakeTable, l03Draw, l03DrawAge. Condition: a source made since W. Contracts of the draws of a life table and of an age. Condition: a source made since W. Contracts of the draws of rates, amounts and sums. Condition: a source made since W. The state of the draws of a table: the source, the table with its box, the result; l05Draw. Condition: a source made since W. The draws of two lives: l08Draw and what is drawn by it. Condition: a source made since W; a code of at most 4096 bytes. Contracts of the laws' likeInts, sum and big. Condition: the slices read as lists. -/
import Derived.Test.YtdeoampkbbbleaaLawT
import Derived.Test.YtdeoampkbbbleaaOpenC
import Derived.Test.YtdeoampkbbbleaaICols
import Derived.Test.YtdeoampkbbbleaaPush
import Derived.Test.YtdeoampkbbbleaaNum
import Derived.Test.YtdeoampkbbbleaaNumP
import Derived.Test.YtdeoampkbbbleaaIAllIn

namespace Go.Proofs.Ytdeoampkbbbleaa
open Go.RowKit Pu

/-- w' has grown out of w, but for block b. -/
def Gb (b : Nat) (w w' : World) : Prop := w.grownBy w' (some b)
theorem Gb.refl (b : Nat) (w : World) : Gb b w w := World.grownBy.refl w _
theorem Gb.of {b : Nat} {w w' : World} (u : Up w w') : Gb b w w' := World.grownBy.but (grownBy_up u) _
theorem Gb.trans {b : Nat} {a c d : World} (h : Gb b a c) (k : Gb b c d) : Gb b a d := World.grownBy.trans h k
theorem Gb.alloc {b : Nat} {w w' : World} (h : Gb b w w') (o : Obj) : Gb b w (w'.alloc o) := h.trans (World.grownBy_alloc _ _ _)
theorem Gb.drew {b : Nat} {w w' : World} (h : Gb b w w') : Gb b w w'.drew := h.trans (Gb.of (Up.drew (Up.refl _)))
theorem Gb.up {b : Nat} {w w' w2 : World} (h : Gb b w w') (u : Up w' w2) : Gb b w w2 := h.trans (Gb.of u)
theorem Gb.size {b : Nat} {w w' : World} (h : Gb b w w') : w.heap.size ≤ w'.heap.size := World.grownBy.size h
/-- Behind a change of a block that is new. -/
theorem Gb.far {b : Nat} {w w' w2 : World} (h : Gb b w w') {o : Option Nat} (g : w'.grownBy w2 o) (ho : ∀ k, o = some k → w.heap.size ≤ k) : Gb b w w2 := by
  refine ⟨g.os.trans h.os, g.tape.trans h.tape, g.output.trans h.output, Nat.le_trans h.size g.size, fun k hk hne => ?_⟩
  rw [g.block k (Nat.lt_of_lt_of_le hk h.size) (fun e => by have := ho k e.symm; omega)]
  exact h.block k hk hne
theorem Gb.set {b : Nat} {w w' : World} (h : Gb b w w') {p : Addr} (hp : p.block = b ∨ w.heap.size ≤ p.block) (u : Value) : Gb b w (w'.setCell p u) := by
  refine ⟨h.os, h.tape, h.output, ?_, fun k hk hne => ?_⟩
  · have := h.size; simpa [World.setCell] using this
  · rw [heap_setCell_other w' p k u (by rcases hp with rfl | hp; exact fun e => hne (by rw [e]); omega)]
    exact h.block k hk hne
theorem Up.gb {W w w' : World} {b : Nat} (h : Up W w) (hb : W.heap.size ≤ b) (g : Gb b w w') : Up W w' := h.far g (fun k hk => by cases hk; exact hb)
theorem Own.gb {w0 w w' : World} {v xs} {b : Nat} (h : Own w0 w v xs) (hb : b < w0.heap.size) (g : Gb b w w') : Own w0 w' v xs :=
  h.far g (fun k hk e => by cases hk; have := (World.ownsRow.lt h _ e).1; omega)
theorem TabOwn.gb {w0 w w' : World} {T v} {b : Nat} (h : TabOwn w0 w T v) (hb : b < w0.heap.size) (g : Gb b w w') : TabOwn w0 w' T v := by
  obtain ⟨h0, A, c, h1, h2⟩ := h
  exact ⟨h0, A, c, h1, h2.gb hb g⟩
theorem Blk.gb {w w' : World} {g t cs} {b : Nat} (h : Blk w g t cs) (hne : g ≠ b) (k : Gb b w w') : Blk w' g t cs := blk_far h k (fun k hk => by cases hk; exact fun e => hne e.symm)

/-- The source of draws at block b, made since W: the code's bytes, the place, the seed. -/
def Src (W w : World) (b : Nat) : Prop := W.heap.size ≤ b ∧ Up W w ∧ ∃ A L c at_ seed, InCode W A L c ∧ L ≤ 4096 ∧ Blk w b 187 #[.slice A L c, .int .i64 at_, .int .i64 seed] ∧ (0 ≤ at_ ∧ at_ ≤ L) ∧ (0 ≤ seed ∧ seed < 2147483647)
theorem Src.up {W w w' : World} {b : Nat} (h : Src W w b) (u : Up w w') : Src W w' b := by
  obtain ⟨h1, h2, A, L, c, p, s, h3, h4, h5, h6⟩ := h
  exact ⟨h1, h2.trans u, A, L, c, p, s, h3, h4, h5.up u, h6⟩
theorem Src.inw {W w : World} {b : Nat} (h : Src W w b) : b < w.heap.size := by obtain ⟨_, _, _, _, _, _, _, _, _, h1, _⟩ := h; exact h1.inw
theorem Src.ups {W w : World} {b : Nat} (h : Src W w b) : Up W w := h.2.1
/-- Behind a change of another block that is new. -/
theorem Src.far {W w w' : World} {b : Nat} (h : Src W w b) {o : Option Nat} (g : w.grownBy w' o) (ho : ∀ k, o = some k → W.heap.size ≤ k ∧ k ≠ b) : Src W w' b := by
  obtain ⟨h1, h2, A, L, c, p, s, h3, h4, h5, h6⟩ := h
  exact ⟨h1, h2.far g (fun k hk => (ho k hk).1), A, L, c, p, s, h3, h4, blk_far h5 g (fun k hk => (ho k hk).2), h6⟩
/-- A source that was made alone is as good as none: what was there is as it was. -/
theorem Src.all {W w w' : World} {b : Nat} (h : Src W w b) (g : Gb b w w') : Up W w' := h.2.1.gb h.1 g

theorem Src.set {W w : World} {b : Nat} (h : Src W w b) {p : Addr} (hp : W.heap.size ≤ p.block) (hne : p.block ≠ b) (u : Value) : Src W (w.setCell p u) b := by
  obtain ⟨h1, h2, A, L, c, q, s, h3, h4, h5, h6⟩ := h
  exact ⟨h1, h2.setCell hp u, A, L, c, q, s, h3, h4, h5.other hne u, h6⟩
/-- A source with its place and seed, and what has changed since w0: its block alone. -/
structure SAt (W w0 w : World) (b : Nat) (A : Option Addr) (L c : Nat) (p s : Int) : Prop where
  lo : W.heap.size ≤ b
  ups : Up W w
  code : InCode W A L c
  blk : Blk w b 187 #[.slice A L c, .int .i64 p, .int .i64 s]
  gb : Gb b w0 w
theorem SAt.up {W w0 w w' : World} {b A L c p s} (h : SAt W w0 w b A L c p s) (u : Up w w') : SAt W w0 w' b A L c p s := ⟨h.lo, h.ups.trans u, h.code, h.blk.up u, h.gb.up u⟩
theorem SAt.set1 {W w0 w : World} {b A L c p s} (h : SAt W w0 w b A L c p s) (q : Int) : SAt W w0 (w.setCell ⟨b, 1, none⟩ (.int .i64 q)) b A L c q s :=
  ⟨h.lo, Up.setCell h.ups (p := ⟨b, 1, none⟩) h.lo _, h.code, by simpa using h.blk.same 1 (.int .i64 q), h.gb.trans (Gb.set (Gb.refl _ _) (Or.inl rfl) _)⟩
theorem SAt.set2 {W w0 w : World} {b A L c p s} (h : SAt W w0 w b A L c p s) (q : Int) : SAt W w0 (w.setCell ⟨b, 2, none⟩ (.int .i64 q)) b A L c p q :=
  ⟨h.lo, Up.setCell h.ups (p := ⟨b, 2, none⟩) h.lo _, h.code, by simpa using h.blk.same 2 (.int .i64 q), h.gb.trans (Gb.set (Gb.refl _ _) (Or.inl rfl) _)⟩
theorem SAt.byte {W w0 w : World} {b A L c p s} (h : SAt W w0 w b A L c p s) {i : Nat} (hi : i < L) : ∃ a off z, A = some ⟨a, off, none⟩ ∧ 0 ≤ z ∧ z ≤ 255 ∧ ∀ w', Up W w' → w'.cell? ⟨a, off + i, none⟩ = some (.int .u8 z) := by
  obtain ⟨a, off, z, e, ha, hc, h1, h2⟩ := h.code.2.2 i hi
  exact ⟨a, off, z, e, h1, h2, fun w' u => (u.cell (p := ⟨a, off + i, none⟩) ha).trans hc⟩
theorem SAt.src {W w0 w : World} {b A L c p s} (h : SAt W w0 w b A L c p s) (h4 : L ≤ 4096) (h5 : 0 ≤ p ∧ p ≤ L) (h6 : 0 ≤ s ∧ s < 2147483647) : Src W w b := ⟨h.lo, h.ups, A, L, c, p, s, h.code, h4, h.blk, h5, h6⟩

/-- A number is drawn: p holds of it; the source alone has changed. -/
def RetDraw (W w : World) (b : Nat) (p : Int → Prop) (e : Ending) (w' : World) : Prop := ∃ x, e = .returned (.int .i64 x) ∧ p x ∧ Gb b w w' ∧ Src W w' b
end Go.Proofs.Ytdeoampkbbbleaa
namespace Go.Proofs.Ytdeoampkbbbleaa
open Go.RowKit Pu

theorem rem_bd {x n : Int} (h0 : 0 ≤ x) (hn : 1 ≤ n) : 0 ≤ x % n ∧ x % n < n ∧ x % n ≤ x := ⟨Int.emod_nonneg _ (by omega), Int.emod_lt_of_pos _ (by omega), by
  by_cases h : x < n
  · rw [Int.emod_eq_of_lt h0 h]; omega
  · have := Int.emod_lt_of_pos x (show 0 < n by omega); omega⟩
/-- What l01Next says of a number. -/
def Nx (n x : Int) : Prop := 0 ≤ x ∧ (1 < n → x < n) ∧ (n ≤ 1 → x = 0)
set_option maxRecDepth 100000 in
set_option maxHeartbeats 2000000 in
theorem s_Next {W : World} {b : Nat} (n : Int) (w : World) (h : Src W w b) : Calls Try.prog 183 #[.pointer (some ⟨b, 0, none⟩), .int .i64 n] w (RetDraw W w b (Nx n)) := by
  by_cases hn : n ≤ 1
  · go_enter Try.func183, Try.ntmps183
    go_wp2
    go_ret
    exact ⟨0, rfl, ⟨by omega, fun _ => by omega, fun _ => rfl⟩, Gb.refl _ _, h⟩
  obtain ⟨h1, h2, A, L, c, p, s, h3, h4, h5, h6, h7⟩ := h
  obtain ⟨p, rfl⟩ : ∃ p' : Nat, p = p' := ⟨p.toNat, by omega⟩
  have hS : SAt W w w b A L c p s := ⟨h1, h2, h3, h5, Gb.refl _ _⟩
  have c0 := hS.blk.cell 0; have c1 := hS.blk.cell 1; have c2 := hS.blk.cell 2; have cf := hS.blk.frozen; have ci := hS.blk.inw
  obtain ⟨s1, hs1⟩ : ∃ s1, (s * 48271 + 71) % 2147483647 = s1 := ⟨_, rfl⟩
  have b1 := rem_bd (x := s * 48271 + 71) (n := 2147483647) (by omega) (by omega)
  rw [hs1] at b1
  have i1 : IntKind.i64.wrap (s * 48271) = s * 48271 := IntWalk.i64_in _ (by omega)
  have i2 : IntKind.i64.wrap (s * 48271 + 71) = s * 48271 + 71 := IntWalk.i64_in _ (by omega)
  have i3 : (s * 48271 + 71).tmod 2147483647 = s1 := by rw [Int.tmod_eq_emod_of_nonneg (by omega), hs1]
  have i4 : IntKind.i64.wrap s1 = s1 := IntWalk.i64_in _ (by omega)
  obtain ⟨x0, hx0⟩ : ∃ x0, s1 / 41 = x0 := ⟨_, rfl⟩
  have b2 : 0 ≤ x0 ∧ x0 ≤ 53000000 := by omega
  have i5 : s1.tdiv 41 = x0 := by rw [Int.tdiv_eq_ediv_of_nonneg (by omega), hx0]
  have i6 : IntKind.i64.wrap x0 = x0 := IntWalk.i64_in _ (by omega)
  have hn0 : (n == 0) = false := by simp; omega
  have FIN : ∀ x : Int, 0 ≤ x → Nx n (x % n) := fun x hx => ⟨(rem_bd hx (by omega)).1, fun _ => (rem_bd hx (by omega)).2.1, fun _ => by omega⟩
  replace FIN := Lib.hid FIN
  have REM : ∀ x : Int, 0 ≤ x → x ≤ 100000000 → IntKind.i64.wrap (x.tmod n) = x % n := fun x h0 h1 => by
    rw [Int.tmod_eq_emod_of_nonneg h0]; have := rem_bd h0 (show 1 ≤ n by omega); exact IntWalk.i64_in _ (by omega)
  replace REM := Lib.hid REM
  have hp0 : (0 : Int) ≤ p := by omega
  have hpL : p ≤ L := by omega
  clear hs1 hx0 h5 h6 h2 h3 h1
  go_enter Try.func183, Try.ntmps183
  go_wp2
  have hS := hS.set2 s1
  obtain ⟨w1, hw1⟩ : ∃ w1, w1 = w.setCell ⟨b, 2, none⟩ (.int .i64 s1) := ⟨_, rfl⟩
  rw [← hw1] at hS ⊢
  clear hw1
  clear c0 c1 c2 cf ci
  have c0 := hS.blk.cell 0; have c1 := hS.blk.cell 1; have c2 := hS.blk.cell 2; have cf := hS.blk.frozen; have ci := hS.blk.inw
  by_cases hp : p < L
  case neg =>
    have hp1 : ¬ (p : Int) < (L : Int) := by omega
    have i7 := REM.out x0 b2.1 (by omega)
    go_wp2_with ((first | with_reducible refine wp_region_in x (by kernel_rfl) (by kernel_rfl) ?_ | with_reducible refine wp_region_here (by kernel_rfl) (by kernel_rfl) ?_); (repeat (go_big_quiet_step ((fail)))); refine wpQuiet_nil ?_; intro w' hw'; obtain ⟨x, rfl⟩ := hw')
    go_ret
    exact ⟨x0 % n, rfl, FIN.out x0 b2.1, (hS.up x.below).gb, (hS.up x.below).src h4 ⟨by omega, by omega⟩ ⟨by omega, by omega⟩⟩
  have hp1 : (p : Int) < (L : Int) := by omega
  obtain ⟨a, off, z, rfl, z0, z1, hz⟩ := hS.byte hp
  have HZ := Lib.hid hz
  have hz1 := hz w1 hS.ups
  have i7 : IntKind.i64.wrap z = z := IntWalk.i64_in _ (by omega)
  have i8 : IntKind.i64.wrap (x0 + z) = x0 + z := IntWalk.i64_in _ (by omega)
  have i9 : IntKind.i64.wrap ((p : Int) + 1) = (p : Int) + 1 := IntWalk.i64_in _ (by have := hS.code.1; have := hS.code.2.1; omega)
  have i10 : IntKind.i64.wrap ((p : Int) + 1 - 1) = p := by rw [IntWalk.i64_in _ (by omega)]; omega
  have hlc := hS.code.1
  have hc2 := hS.code.2.1
  have ia : InW w1 a := World.block_lt_of_cell? w1 _ hz1
  clear hz
  go_upto_region 7 with (((first | with_reducible refine wp_region_in x (by kernel_rfl) (by kernel_rfl) ?_ | with_reducible refine wp_region_here (by kernel_rfl) (by kernel_rfl) ?_); (repeat (go_big_quiet_step ((fail)))); refine wpQuiet_nil ?_; intro w' hw'; obtain ⟨x, rfl⟩ := hw'))
  have hS := hS.up x.below
  have hz1 := HZ.out x.to hS.ups
  have ia : InW x.to a := World.block_lt_of_cell? x.to _ hz1
  generalize x.to = w2 at *
  clear x
  clear c0 c1 c2 cf ci
  have c0 := hS.blk.cell 0; have c1 := hS.blk.cell 1; have c2 := hS.blk.cell 2; have cf := hS.blk.frozen; have ci := hS.blk.inw
  go_upto_region 8 with (fail)
  have hS := hS.set1 ((p : Int) + 1)
  obtain ⟨w3, hw3⟩ : ∃ w3, w3 = w2.setCell ⟨b, 1, none⟩ (.int .i64 ((p : Int) + 1)) := ⟨_, rfl⟩
  rw [← hw3] at hS ⊢
  clear hw3
  have hz1 := HZ.out w3 hS.ups
  have ia : InW w3 a := World.block_lt_of_cell? w3 _ hz1
  clear c0 c1 c2 cf ci
  have c0 := hS.blk.cell 0; have c1 := hS.blk.cell 1; have c2 := hS.blk.cell 2; have cf := hS.blk.frozen; have ci := hS.blk.inw
  have e2 : ((p : Int) + 1).tmod 2 = ((p : Int) + 1) % 2 := Int.tmod_eq_emod_of_nonneg (by omega)
  have hSF := Lib.hid hS
  by_cases hn2 : n ≤ 256
  case neg =>
    have i11 := REM.out (x0 + z) (by omega) (by omega)
    clear e2
    go_wp2_with ((first | with_reducible refine wp_region_in x (by kernel_rfl) (by kernel_rfl) ?_ | with_reducible refine wp_region_here (by kernel_rfl) (by kernel_rfl) ?_); (repeat (go_big_quiet_step ((fail)))); refine wpQuiet_nil ?_; intro w' hw'; obtain ⟨x, rfl⟩ := hw')
    go_ret
    exact ⟨(x0 + z) % n, rfl, FIN.out _ (by omega), hSF.out.gb, hSF.out.src h4 ⟨by omega, by omega⟩ ⟨by omega, by omega⟩⟩
  have hm : ((p : Int) + 1) % 2 = 0 ∨ ((p : Int) + 1) % 2 = 1 := by omega
  rcases hm with hm | hm
  · rw [hm] at e2
    have i11 := REM.out z (by omega) (by omega)
    clear hm
    go_wp2_with ((first | with_reducible refine wp_region_in x (by kernel_rfl) (by kernel_rfl) ?_ | with_reducible refine wp_region_here (by kernel_rfl) (by kernel_rfl) ?_); (repeat (go_big_quiet_step ((fail)))); refine wpQuiet_nil ?_; intro w' hw'; obtain ⟨x, rfl⟩ := hw')
    go_ret
    exact ⟨z % n, rfl, FIN.out _ (by omega), (hSF.out.up x.below).gb, (hSF.out.up x.below).src h4 ⟨by omega, by omega⟩ ⟨by omega, by omega⟩⟩
  · rw [hm] at e2
    have i11 := REM.out (x0 + z) (by omega) (by omega)
    clear hm
    go_wp2_with ((first | with_reducible refine wp_region_in x (by kernel_rfl) (by kernel_rfl) ?_ | with_reducible refine wp_region_here (by kernel_rfl) (by kernel_rfl) ?_); (repeat (go_big_quiet_step ((fail)))); refine wpQuiet_nil ?_; intro w' hw'; obtain ⟨x, rfl⟩ := hw')
    go_ret
    exact ⟨(x0 + z) % n, rfl, FIN.out _ (by omega), hSF.out.gb, hSF.out.src h4 ⟨by omega, by omega⟩ ⟨by omega, by omega⟩⟩
theorem pick_at {w w1 : World} {b B n : Nat} {xs : List Int} {cs : Array Value} {x : Int} (hcs : cs = (xs.map (Value.int .i64)).toArray) (hl : xs.length = n) (hn : 1 ≤ n) (hB : Blk w B 2 cs) (hne : B ≠ b) (g : Gb b w w1) (hx : Nx n x) :
    ∃ i : Nat, x = i ∧ i < n ∧ B < w1.heap.size ∧ w1.cell? ⟨B, i, none⟩ = some (.int .i64 (xs.getD i 0)) ∧ xs.getD i 0 ∈ xs := by
  have hB1 := hB.gb hne g
  have hi : x.toNat < xs.length := by
    by_cases h1 : 1 < (n : Int)
    · have := hx.2.1 h1; have := hx.1; omega
    · have := hx.2.2 (by omega); omega
  refine ⟨x.toNat, by have := hx.1; omega, by omega, hB1.inw, ?_, ?_⟩
  · rw [hB1.cell, hcs]; simp [hi]
  · rw [List.getD_eq_getElem?_getD, List.getElem?_eq_getElem hi]; exact List.getElem_mem hi
set_option maxRecDepth 100000 in
theorem s_Pick {W : World} {b : Nat} (xs : List Int) (n : Nat) (hl : xs.length = n) (hn : 1 ≤ n) (_hn2 : n ≤ 100) (cs : Array Value) (hcs : cs = (xs.map (Value.int .i64)).toArray) (B : Nat) (w : World) (h : Src W w b) (hB : Blk w B 2 cs) (hne : B ≠ b) :
    Calls Try.prog 185 #[.pointer (some ⟨b, 0, none⟩), .slice (some ⟨B, 0, none⟩) n n] w (RetDraw W w b (fun x => x ∈ xs)) := by
  have HP := Lib.hid fun (w1 : World) (x : Int) (g : Gb b w w1) (hx : Nx n x) => pick_at hcs hl hn hB hne g hx
  have HNX := Lib.hid (s_Next (n : Int) w h)
  have hb := hB.inw
  clear hcs hB
  go_enter Try.func185, Try.ntmps185
  go_wp2_with (go_at_call 183; refine (HNX.out).mono ?_; rintro e w1 ⟨x, rfl, hx, hg, hs⟩; obtain ⟨i, rfl, hi, hb1, hc, hmem⟩ := HP.out w1 x hg hx; have g1 : (0 : Int) ≤ i := (by omega); have g2 : (i : Int) < n := (by omega))
  go_ret
  exact ⟨_, rfl, List.getElem_mem _, hg, hs⟩
set_option maxRecDepth 100000 in
set_option maxHeartbeats 2000000 in
theorem s_From (A : Option Addr) (L c : Nat) (hL : L ≤ 4096) (w : World) (hI : InCode w A L c) :
    Calls Try.prog 162 #[.slice A L c] w (fun e w' => ∃ b, e = .returned (.pointer (some ⟨b, 0, none⟩)) ∧ Up w w' ∧ Src w w' b) := by
  have hlc := hI.1
  have hc2 := hI.2.1
  have HI := Lib.hid hI
  clear hI
  go_enter Try.func162, Try.ntmps162
  go_wp2
  go_loopw [4] (fun i wr => ∃ (k : Nat) (s : Int), k ≤ L ∧ k ≤ 64 ∧ i = .int .i64 k ∧ 0 ≤ s ∧ s < 2147483647 ∧ SAt w w wr w.heap.size A L c 0 s) (fun i _ => L - (intOf i).toNat)
  case atStart => exact ⟨0, 25001, by omega, by omega, rfl, by omega, by omega, ⟨Nat.le_refl _, (by repeat' (first | (with_reducible exact Up.refl _) | (with_reducible assumption) | (with_reducible refine Up.alloc ?_ _) | (with_reducible refine Up.drew ?_) | (with_reducible refine Up.grow ?_ _) | (with_reducible refine Up.setCell ?_ (by (try simp); (try omega)) _))), HI.out, Blk.new _ _ _, Gb.alloc (Gb.refl _ _) _⟩⟩
  case round =>
    obtain ⟨k, s, hk, hk2, rfl, hs0, hs1, hS⟩ := hrel
    have hSF := Lib.hid hS
    have c0 := hS.blk.cell 0; have c1 := hS.blk.cell 1; have c2 := hS.blk.cell 2; have cf := hS.blk.frozen; have ci := hS.blk.inw
    by_cases hlt : k < L
    case neg =>
      have hlt1 : ¬ (k : Int) < (L : Int) := by omega
      go_wp2
      go_ret
      exact ⟨_, rfl, hSF.out.ups, hSF.out.src hL ⟨by omega, by omega⟩ ⟨hs0, hs1⟩⟩
    have hlt1 : (k : Int) < (L : Int) := by omega
    by_cases hlt2 : k < 64
    case neg =>
      have hlt3 : ¬ (k : Int) < 64 := by omega
      go_wp2
      go_ret
      exact ⟨_, rfl, hSF.out.ups, hSF.out.src hL ⟨by omega, by omega⟩ ⟨hs0, hs1⟩⟩
    have hlt3 : (k : Int) < 64 := by omega
    obtain ⟨a, off, z, rfl, z0, z1, hz⟩ := hS.byte hlt
    have hz1 := hz wr hS.ups
    have ia : InW wr a := World.block_lt_of_cell? wr _ hz1
    have hb1 : (0 : Int) ≤ k := by omega
    obtain ⟨s1, hs⟩ : ∃ s1, (s * 71 + z) % 2147483647 = s1 := ⟨_, rfl⟩
    have b1 := rem_bd (x := s * 71 + z) (n := 2147483647) (by omega) (by omega)
    rw [hs] at b1
    have i1 : IntKind.i64.wrap (s * 71) = s * 71 := IntWalk.i64_in _ (by omega)
    have i2 : IntKind.i64.wrap z = z := IntWalk.i64_in _ (by omega)
    have i3 : IntKind.i64.wrap (s * 71 + z) = s * 71 + z := IntWalk.i64_in _ (by omega)
    have i4 : (s * 71 + z).tmod 2147483647 = s1 := by rw [Int.tmod_eq_emod_of_nonneg (by omega), hs]
    have i5 : IntKind.i64.wrap s1 = s1 := IntWalk.i64_in _ (by omega)
    clear hz hs hS
    go_wp2
    go_region
    all_goals
      go_wp2
      go_roundw
      case rel => exact ⟨k + 1, s1, by omega, by omega, by go_num, by omega, by omega, (hSF.out.set2 s1).up (Up.drew (Up.refl _))⟩
      case measure => simp [intOf]; omega
end Go.Proofs.Ytdeoampkbbbleaa
namespace Go.Proofs.Ytdeoampkbbbleaa
open Go.RowKit Pu

theorem SAt.base {W0 W w0 w : World} {b A L c p s} (h : SAt W w0 w b A L c p s) (u : Up W0 W) (hc : InCode W0 A L c) : SAt W0 w0 w b A L c p s :=
  ⟨Nat.le_trans u.size h.lo, u.trans h.ups, hc, h.blk, h.gb⟩
set_option maxRecDepth 100000 in
set_option maxHeartbeats 2000000 in
theorem s_FromW (A : Option Addr) (L c : Nat) (hL : L ≤ 4096) (w : World) (hI : InCode w A L c) :
    Calls Try.prog 162 #[.slice A L c] w (fun e w' => ∃ b, e = .returned (.pointer (some ⟨b, 0, none⟩)) ∧ Up w w' ∧ w.heap.size ≤ b ∧ ∀ W, Up W w → InCode W A L c → Src W w' b) := by
  have hlc := hI.1
  have hc2 := hI.2.1
  have HI := Lib.hid hI
  clear hI
  go_enter Try.func162, Try.ntmps162
  go_wp2
  go_loopw [4] (fun i wr => ∃ (k : Nat) (s : Int), k ≤ L ∧ k ≤ 64 ∧ i = .int .i64 k ∧ 0 ≤ s ∧ s < 2147483647 ∧ SAt w w wr w.heap.size A L c 0 s) (fun i _ => L - (intOf i).toNat)
  case atStart => exact ⟨0, 25001, by omega, by omega, rfl, by omega, by omega, ⟨Nat.le_refl _, (by repeat' (first | (with_reducible exact Up.refl _) | (with_reducible assumption) | (with_reducible refine Up.alloc ?_ _) | (with_reducible refine Up.drew ?_) | (with_reducible refine Up.grow ?_ _) | (with_reducible refine Up.setCell ?_ (by (try simp); (try omega)) _))), HI.out, Blk.new _ _ _, Gb.alloc (Gb.refl _ _) _⟩⟩
  case round =>
    obtain ⟨k, s, hk, hk2, rfl, hs0, hs1, hS⟩ := hrel
    have hSF := Lib.hid hS
    have c0 := hS.blk.cell 0; have c1 := hS.blk.cell 1; have c2 := hS.blk.cell 2; have cf := hS.blk.frozen; have ci := hS.blk.inw
    by_cases hlt : k < L
    case neg =>
      have hlt1 : ¬ (k : Int) < (L : Int) := by omega
      go_wp2
      go_ret
      exact ⟨_, rfl, hSF.out.ups, hSF.out.lo, fun W u hc => (hSF.out.base u hc).src hL ⟨by omega, by omega⟩ ⟨hs0, hs1⟩⟩
    have hlt1 : (k : Int) < (L : Int) := by omega
    by_cases hlt2 : k < 64
    case neg =>
      have hlt3 : ¬ (k : Int) < 64 := by omega
      go_wp2
      go_ret
      exact ⟨_, rfl, hSF.out.ups, hSF.out.lo, fun W u hc => (hSF.out.base u hc).src hL ⟨by omega, by omega⟩ ⟨hs0, hs1⟩⟩
    have hlt3 : (k : Int) < 64 := by omega
    obtain ⟨a, off, z, rfl, z0, z1, hz⟩ := hS.byte hlt
    have hz1 := hz wr hS.ups
    have ia : InW wr a := World.block_lt_of_cell? wr _ hz1
    have hb1 : (0 : Int) ≤ k := by omega
    obtain ⟨s1, hs⟩ : ∃ s1, (s * 71 + z) % 2147483647 = s1 := ⟨_, rfl⟩
    have b1 := rem_bd (x := s * 71 + z) (n := 2147483647) (by omega) (by omega)
    rw [hs] at b1
    have i1 : IntKind.i64.wrap (s * 71) = s * 71 := IntWalk.i64_in _ (by omega)
    have i2 : IntKind.i64.wrap z = z := IntWalk.i64_in _ (by omega)
    have i3 : IntKind.i64.wrap (s * 71 + z) = s * 71 + z := IntWalk.i64_in _ (by omega)
    have i4 : (s * 71 + z).tmod 2147483647 = s1 := by rw [Int.tmod_eq_emod_of_nonneg (by omega), hs]
    have i5 : IntKind.i64.wrap s1 = s1 := IntWalk.i64_in _ (by omega)
    clear hz hs hS
    go_wp2
    go_region
    all_goals
      go_wp2
      go_roundw
      case rel => exact ⟨k + 1, s1, by omega, by omega, by go_num, by omega, by omega, (hSF.out.set2 s1).up (Up.drew (Up.refl _))⟩
      case measure => simp [intOf]; omega
end Go.Proofs.Ytdeoampkbbbleaa
namespace Go.Proofs.Ytdeoampkbbbleaa
open Go.RowKit Pu
set_option linter.unusedVariables false
set_option linter.unusedSimpArgs false

theorem s_Within (A : Option Addr) (n c : Nat) (g : Nat → Int) (most lo hi : Int) (hn : n ≤ 1048576) (hm : (n : Int) ≤ most) (b : Bool) (hb : b = true ↔ ∀ i, i < n → lo ≤ g i ∧ g i ≤ hi) (w : World) (hI : Ints w A n g) :
    Calls Try.prog 251 #[.slice A n c, .int .i64 most, .int .i64 lo, .int .i64 hi] w fun e w' => e = .returned (.bool b) ∧ w = w' := by
  replace hb := Lib.hid hb
  go_enter Try.func251, Try.ntmps251
  go_wp2
  go_loop [9] (fun i => ∃ k : Nat, k ≤ n ∧ i = .int .i64 k ∧ Hid (∀ j, j < k → lo ≤ g j ∧ g j ≤ hi)) (fun i => n - (intOf i).toNat)
  case atStart => exact ⟨0, Nat.zero_le _, rfl, Lib.hid fun j hj => by omega⟩
  case round =>
    obtain ⟨k, hk, rfl, HK⟩ := hrel
    by_cases hlt : k < n
    · obtain ⟨bb, off, rfl, hlb, hcell⟩ := hI k hlt
      by_cases hr : inR (g k) lo hi = true
      · have HK2 : Hid (∀ j, j < k + 1 → lo ≤ g j ∧ g j ≤ hi) := Lib.hid fun j hj => by
          rcases Nat.lt_or_ge j k with h | h
          · exact HK.out j h
          · rw [show j = k from by omega]; exact inR_true.1 hr
        go_wp2_with (first | (go_at_call 142; (with_reducible refine (s_In _ _ _ _).mono ?_); rintro e w' ⟨rfl, rfl⟩) | (go_at_call 186; (with_reducible refine (i_In _ _ _ _).mono ?_); rintro e w' ⟨rfl, rfl⟩) | (go_at_call 222; (with_reducible refine (s_Rate _ _).mono ?_); rintro e w' ⟨rfl, rfl⟩) | (go_at_call 165; (with_reducible refine (i_Rate _ _).mono ?_); rintro e w' ⟨rfl, rfl⟩) | (go_at_call 262; (with_reducible refine (i_Years _ _).mono ?_); rintro e w' ⟨rfl, rfl⟩) | (go_at_call 227; (with_reducible refine (s_Amount6 _ _).mono ?_); rintro e w' ⟨rfl, rfl⟩) | (go_at_call 236; (with_reducible refine (s_Sum7 _ _).mono ?_); rintro e w' ⟨rfl, rfl⟩) | ((first | with_reducible refine wp_region_in x (by kernel_rfl) (by kernel_rfl) ?_ | with_reducible refine wp_region_here (by kernel_rfl) (by kernel_rfl) ?_); (repeat (go_big_quiet_step ((first | (go_at_call 142; with_reducible exact Ret.same _ (s_In _ _ _ _)) | (go_at_call 186; with_reducible exact Ret.same _ (i_In _ _ _ _)) | (go_at_call 222; with_reducible exact Ret.same _ (s_Rate _ _)) | (go_at_call 165; with_reducible exact Ret.same _ (i_Rate _ _)) | (go_at_call 262; with_reducible exact Ret.same _ (i_Years _ _)) | (go_at_call 227; with_reducible exact Ret.same _ (s_Amount6 _ _)) | (go_at_call 236; with_reducible exact Ret.same _ (s_Sum7 _ _)))))); refine wpQuiet_nil ?_; intro w' hw'; obtain ⟨x, rfl⟩ := hw'))
        go_round
        case rel => exact ⟨k + 1, by omega, by go_num, HK2⟩
        case measure => simp [intOf]; omega
      · have hbf : b = false := Bool.eq_false_iff.2 fun e => hr (inR_true.2 (hb.out.1 e k hlt))
        have hr := Bool.eq_false_iff.2 hr
        subst hbf
        go_wp2_with (first | (go_at_call 142; (with_reducible refine (s_In _ _ _ _).mono ?_); rintro e w' ⟨rfl, rfl⟩) | (go_at_call 186; (with_reducible refine (i_In _ _ _ _).mono ?_); rintro e w' ⟨rfl, rfl⟩) | (go_at_call 222; (with_reducible refine (s_Rate _ _).mono ?_); rintro e w' ⟨rfl, rfl⟩) | (go_at_call 165; (with_reducible refine (i_Rate _ _).mono ?_); rintro e w' ⟨rfl, rfl⟩) | (go_at_call 262; (with_reducible refine (i_Years _ _).mono ?_); rintro e w' ⟨rfl, rfl⟩) | (go_at_call 227; (with_reducible refine (s_Amount6 _ _).mono ?_); rintro e w' ⟨rfl, rfl⟩) | (go_at_call 236; (with_reducible refine (s_Sum7 _ _).mono ?_); rintro e w' ⟨rfl, rfl⟩) | ((first | with_reducible refine wp_region_in x (by kernel_rfl) (by kernel_rfl) ?_ | with_reducible refine wp_region_here (by kernel_rfl) (by kernel_rfl) ?_); (repeat (go_big_quiet_step ((first | (go_at_call 142; with_reducible exact Ret.same _ (s_In _ _ _ _)) | (go_at_call 186; with_reducible exact Ret.same _ (i_In _ _ _ _)) | (go_at_call 222; with_reducible exact Ret.same _ (s_Rate _ _)) | (go_at_call 165; with_reducible exact Ret.same _ (i_Rate _ _)) | (go_at_call 262; with_reducible exact Ret.same _ (i_Years _ _)) | (go_at_call 227; with_reducible exact Ret.same _ (s_Amount6 _ _)) | (go_at_call 236; with_reducible exact Ret.same _ (s_Sum7 _ _)))))); refine wpQuiet_nil ?_; intro w' hw'; obtain ⟨x, rfl⟩ := hw'))
        go_ret
        exact ⟨rfl, rfl⟩
    · have hbt : b = true := hb.out.2 fun j hj => HK.out j (by omega)
      subst hbt
      go_wp2
      go_ret
      exact ⟨rfl, rfl⟩
/-- Some rates are drawn. -/
def RetRates (W w : World) (b : Nat) (e : Ending) (w' : World) : Prop := ∃ v xs, e = .returned v ∧ Gb b w w' ∧ Src W w' b ∧ Own w w' v xs ∧ 1 ≤ xs.length ∧ xs.length ≤ 25 ∧ ∀ x ∈ xs, 0 ≤ x ∧ x ≤ 1000
theorem own_far {w w0 : World} {v xs} (h : Own w w0 v xs) : ∀ k, v.ownBlock = some k → w.heap.size ≤ k := fun k hk => (World.ownsRow.lt h k hk).1
set_option maxRecDepth 100000 in
set_option maxHeartbeats 4000000 in
theorem s_Rates {W : World} {b : Nat} (w : World) (h : Src W w b) : Calls Try.prog 256 #[.pointer (some ⟨b, 0, none⟩)] w (RetRates W w b) := by
  have hbw := h.inw
  have hWw := h.ups.size
  have hs := h
  have hg := Gb.refl b w
  have hown := Own.start w (w := w) (Nat.le_refl _)
  go_enter Try.func256, Try.ntmps256
  go_wp2_with (first | (go_at_call 183; (with_reducible refine (s_Next 20 _ (hs.up (by repeat' (first | (with_reducible exact Up.refl _) | (with_reducible assumption) | (with_reducible refine Up.alloc ?_ _) | (with_reducible refine Up.drew ?_) | (with_reducible refine Up.grow ?_ _) | (with_reducible refine Up.setCell ?_ (by (try simp); (try omega)) _))))).mono ?_); rintro e w1 ⟨z1, rfl, hz1, hg1, hs⟩; have hg := (hg.up (by repeat' (first | (with_reducible exact Up.refl _) | (with_reducible assumption) | (with_reducible refine Up.alloc ?_ _) | (with_reducible refine Up.drew ?_) | (with_reducible refine Up.grow ?_ _) | (with_reducible refine Up.setCell ?_ (by (try simp); (try omega)) _)))).trans hg1; have hown := hown.gb hbw hg1; clear hg1; obtain ⟨a0, a1, _⟩ := hz1; have a1 := a1 (by omega)) | (go_at_call 183; (with_reducible refine (s_Next 25 _ hs).mono ?_); rintro e w2 ⟨z2, rfl, hz2, hg2, hs⟩; have hg := hg.trans hg2; have hown := hown.gb hbw hg2; clear hg2; obtain ⟨c0, c1, _⟩ := hz2; have c1 := c1 (by omega)))
  obtain ⟨K, hK⟩ : ∃ K : Nat, 1 + z2 = K := ⟨(1 + z2).toNat, by omega⟩
  have hK1 : 1 ≤ K := by omega
  have hK2 : K ≤ 25 := by omega
  have HK := Lib.hid hK
  clear hK
  go_loopw [3, 4, 5] (fun o r i wr => ∃ (k : Nat) (ρ : Int) (xs : List Int), i = .int .i64 k ∧ r = .int .i64 ρ ∧ 0 ≤ ρ ∧ ρ + 30 * k ≤ 800 ∧ Hid (xs.length + k = K) ∧ Hid (∀ x ∈ xs, 0 ≤ x ∧ x ≤ 1000) ∧ Hid (Own w wr o xs) ∧ Gb b w wr ∧ Src W wr b) (fun _ _ i _ => (intOf i).toNat)
  case atStart => exact ⟨K, z1, [], by rw [← HK.out], rfl, a0, by omega, Lib.hid (by simp), Lib.hid (by simp), Lib.hid hown, hg, hs⟩
  case round =>
    clear hown hg hs
    obtain ⟨k, ρ, xs, rfl, rfl, hr0, hr1, HL, HX, HO, hg, hs⟩ := hrel
    have hlen : xs.length < 1048576 := by have := HL.out; omega
    by_cases hk0 : k = 0
    · subst hk0
      go_wp2
      go_ret
      exact ⟨_, xs, rfl, hg, hs, HO.out, by have := HL.out; omega, by have := HL.out; omega, HX.out⟩
    obtain ⟨k, rfl⟩ : ∃ k', k = k' + 1 := ⟨k - 1, by omega⟩
    have hsz := hg.size
    have hf1 := own_far HO.out
    have hf2 : ∀ k, _ = some k → W.heap.size ≤ k ∧ k ≠ b := fun k hk => ⟨by have := hf1 k hk; omega, by have := hf1 k hk; omega⟩
    have HF1 := Lib.hid hf1
    have HF2 := Lib.hid hf2
    have hpos : (0 : Int) < (k : Int) + 1 := by omega
    have i3 : IntKind.i64.wrap ((k : Int) + 1 - 1) = k := by rw [IntWalk.i64_in _ (by omega)]; omega
    clear hf1 hf2
    go_wp2_with (first | (at_builtin; refine wp_push_l (W := w) hsz HO.out rfl _ _ rfl rfl rfl hlen ?_; intro g cap w3 hown2 hg2 hat hlt; have hs := (hs.up (Up.alloc (Up.refl _) (.cells #[.int .i64 (ρ)] 2))).far hg2 HF2.out; have hg := (hg.alloc _).far hg2 HF1.out) | (go_at_call 183; (with_reducible refine (s_Next 30 _ hs).mono ?_); rintro e w4 ⟨z, rfl, hz, hg3, hs⟩; have hg := hg.trans hg3; have hown2 := hown2.gb hbw hg3; obtain ⟨d0, d1, _⟩ := hz; have d1 := d1 (by omega)))
    go_roundw
    case rel => exact ⟨k, ρ + z, xs ++ [ρ], by go_num, by go_num, by omega, by omega, Lib.hid (by have := HL.out; simp; omega), Lib.hid (by
      intro x hx
      rcases List.mem_append.1 hx with h | h
      · exact HX.out x h
      · rw [List.mem_singleton.1 h]; omega), Lib.hid hown2, hg, hs⟩
    case measure => simp [intOf]
/-- The memory of MakeTable's loop: the result, the table under way with its list. -/
structure MAt (w wr : World) (b6 b8 : Nat) (x : Int) (vo : Value) (xs : List Int) : Prop where
  up : Up w wr
  h6 : Blk wr b6 31 #[.int .i64 0, .slice none 0 0]
  h8 : Blk wr b8 31 #[.int .i64 x, vo]
  own : Own w wr vo xs
  n6 : vo.ownBlock ≠ some b6
  n8 : vo.ownBlock ≠ some b8
  d : b6 ≠ b8
  l6 : w.heap.size ≤ b6
  l8 : w.heap.size ≤ b8
theorem MAt.grow {w wr w2 : World} {b6 b8 : Nat} {x : Int} {vo : Value} {xs : List Int} (h : MAt w wr b6 b8 x vo xs) (u : Up wr w2) : MAt w w2 b6 b8 x vo xs :=
  ⟨h.up.trans u, h.h6.up u, h.h8.up u, h.own.up u, h.n6, h.n8, h.d, h.l6, h.l8⟩
theorem MAt.push {w w0 w1 : World} {b6 b8 : Nat} {x : Int} {vo : Value} {xs : List Int} {u : Int} (h : MAt w w0 b6 b8 x vo xs) (hg : (w0.alloc (.cells #[.int .i64 u] 2)).grownBy w1 vo.ownBlock) :
    Up w w1 ∧ Blk w1 b6 31 #[.int .i64 0, .slice none 0 0] ∧ Blk w1 b8 31 #[.int .i64 x, vo] := by
  refine ⟨(h.up.alloc _).far hg fun k hk => (World.ownsRow.lt h.own k hk).1, blk_far (h.h6.alloc _) hg ?_, blk_far (h.h8.alloc _) hg ?_⟩
  · intro k hk e; exact h.n6 (by rw [hk, e])
  · intro k hk e; exact h.n8 (by rw [hk, e])
theorem MAt.stored {w w0 w1 : World} {b6 b8 : Nat} {x : Int} {vo : Value} {xs : List Int} {g cap : Nat} {u : Int} (h : MAt w w0 b6 b8 x vo xs)
    (hg : (w0.alloc (.cells #[.int .i64 u] 2)).grownBy w1 vo.ownBlock) (hown : Own w w1 (.slice (some ⟨g, 0, none⟩) (xs.length + 1) cap) (xs ++ [u])) (hat : vo.ownBlock = some g ∨ g = w0.heap.size + 1) :
    MAt w (w1.setCell ⟨b8, 1, none⟩ (.slice (some ⟨g, 0, none⟩) (xs.length + 1) cap)) b6 b8 x (.slice (some ⟨g, 0, none⟩) (xs.length + 1) cap) (xs ++ [u]) := by
  obtain ⟨p0, p6, p8⟩ := h.push hg
  have ne : ∀ b, vo.ownBlock ≠ some b → InW w0 b → g ≠ b := fun b h1 h2 e => by
    rcases hat with h3 | h3
    · exact h1 (by rw [h3, e])
    · unfold InW at h2; omega
  have m6 := ne b6 h.n6 h.h6.inw; have m8 := ne b8 h.n8 h.h8.inw
  refine ⟨p0.setCell h.l8 _, p6.other (fun e => h.d e.symm) _, by simpa using p8.same 1 (.slice (some ⟨g, 0, none⟩) (xs.length + 1) cap), ownsRow_setCell_other hown (a := ⟨b8, 1, none⟩) (by simp [Value.ownBlock]; omega) _, ?_, ?_, h.d, h.l6, h.l8⟩
  · simp [Value.ownBlock]; exact m6
  · simp [Value.ownBlock]; exact m8
/-- A table of the call's own is returned, with a code of none. -/
def RetMk (w : World) (first : Int) (e : Ending) (w' : World) : Prop := ∃ v T, e = .returned (.tuple #[v, .int .i64 0]) ∧ Up w w' ∧ TabOwn w w' T v ∧ T.first = first ∧ 2 ≤ T.n ∧ T.n ≤ 27
theorem range_getD (xs : List Int) : (List.range xs.length).map (fun i => xs.getD i 0) = xs := by
  refine List.ext_getElem (by simp) fun i h1 h2 => ?_
  simp at h1
  simp [h1]
theorem cdiv_le {l g : Int} (h0 : 0 ≤ l) (g0 : 0 ≤ g) (g1 : g ≤ 1000) : 0 ≤ cdiv (l * g) 1000 ∧ cdiv (l * g) 1000 ≤ l ∧ 0 ≤ l * g ∧ l * g ≤ l * 1000 := by
  have p1 := Int.mul_nonneg h0 g0
  have p2 := Int.mul_le_mul_of_nonneg_left g1 h0
  unfold cdiv
  generalize l * g = P at *
  omega
theorem Own.one (W : World) {w : World} (h : W.heap.size ≤ w.heap.size) (u : Int) : Own W (w.alloc (.cells #[.int .i64 u] 2)) (.slice (some ⟨w.heap.size, 0, none⟩) 1 1) [u] :=
  ⟨by simp, Or.inr ⟨w.heap.size, 1, #[.int .i64 u], rfl, h, heap_alloc_new w _, Nat.le_refl _, by unfold maxLen; omega, by simp, by simp⟩⟩
theorem mk_end {w wr : World} {b6 b8 : Nat} {first : Int} {vo : Value} {ys : List Int} (h : MAt w wr b6 b8 first vo ys) (h2 : 2 ≤ ys.length) (h27 : ys.length ≤ 27) :
    RetMk w first (.returned (.tuple #[.agg #[.int .i64 first, vo], .int .i64 0])) ((wr.setCell ⟨b6, 0, none⟩ (.int .i64 first)).setCell ⟨b6, 1, none⟩ vo) := by
  obtain ⟨A, c, hvo, _, _, _⟩ := h.own.form
  refine ⟨_, ⟨first, ys.length, fun i => ys.getD i 0⟩, rfl, Up.setCell (Up.setCell h.up (p := ⟨b6, 0, none⟩) h.l6 _) (p := ⟨b6, 1, none⟩) h.l6 _, ⟨by show ys.length ≤ _; omega, A, c, by rw [hvo], ?_⟩, rfl, h2, h27⟩
  show Own w _ (.slice A ys.length c) ((List.range ys.length).map fun i => ys.getD i 0)
  rw [range_getD, ← hvo]
  exact ownsRow_setCell_other (ownsRow_setCell_other h.own (a := ⟨b6, 0, none⟩) h.n6 _) (a := ⟨b6, 1, none⟩) h.n6 _
set_option maxRecDepth 100000 in
set_option maxHeartbeats 4000000 in
theorem s_MakeA (first lives : Int) (xs : List Int) (hm : (118 : Int) ≤ 149 - first) (hf0 : 0 ≤ first) (hf1 : first ≤ 50) (hl0 : 1 ≤ lives) (hl1 : lives ≤ 1000000) (hx1 : 1 ≤ xs.length) (hx2 : xs.length ≤ 25) (hx : ∀ x ∈ xs, 0 ≤ x ∧ x ≤ 1000) (v : Value) (w : World) (hv : Rd w v xs) :
    Calls Try.prog 255 #[.int .i64 first, .int .i64 lives, v] w (RetMk w first) := by
  obtain ⟨A, c, rfl, hc, hc2, hI⟩ := hv
  obtain ⟨g, hgd⟩ : ∃ g : Nat → Int, g = fun i => xs.getD i 0 := ⟨_, rfl⟩
  rw [← hgd] at hI
  have hg : ∀ i, i < xs.length → 0 ≤ g i ∧ g i ≤ 1000 := fun i hi => by
    rw [hgd]; exact hx _ (by show xs.getD i 0 ∈ xs; rw [List.getD_eq_getElem?_getD, List.getElem?_eq_getElem hi]; exact List.getElem_mem hi)
  clear hgd hx
  generalize xs.length = n at *
  have HG := Lib.hid hg
  have HII := Lib.hid hI
  have HW : ∀ most : Int, (n : Int) ≤ most → ∀ w1, Up w w1 → Calls Try.prog 251 #[.slice A n c, .int .i64 most, .int .i64 0, .int .i64 1000] w1 fun e w' => e = .returned (.bool true) ∧ w1 = w' := fun most hm w1 hu =>
    s_Within A n c g most 0 1000 (by omega) hm true ⟨fun _ => hg, fun _ => rfl⟩ w1 (hI.up hu)
  replace HW := Lib.hid HW
  have i0 : IntKind.i64.wrap (149 - first) = 149 - first := IntWalk.i64_in _ (by omega)
  have r1 : inR first 0 100 = true := inR_true.2 ⟨by omega, by omega⟩
  have r2 : inR lives 1 1000000 = true := inR_true.2 ⟨by omega, by omega⟩
  clear hg hI
  go_enter Try.func255, Try.ntmps255
  go_wp2_with (first | (go_at_call 251; (with_reducible refine (HW.out _ (by omega) _ (by repeat' (first | (with_reducible exact Up.refl _) | (with_reducible assumption) | (with_reducible refine Up.alloc ?_ _) | (with_reducible refine Up.drew ?_) | (with_reducible refine Up.grow ?_ _) | (with_reducible refine Up.setCell ?_ (by (try simp); (try omega)) _)))).mono ?_); rintro e w' ⟨rfl, rfl⟩) | (go_at_call 142; (with_reducible refine (s_In _ _ _ _).mono ?_); rintro e w' ⟨rfl, rfl⟩) | (go_at_call 186; (with_reducible refine (i_In _ _ _ _).mono ?_); rintro e w' ⟨rfl, rfl⟩) | (go_at_call 222; (with_reducible refine (s_Rate _ _).mono ?_); rintro e w' ⟨rfl, rfl⟩) | (go_at_call 165; (with_reducible refine (i_Rate _ _).mono ?_); rintro e w' ⟨rfl, rfl⟩) | (go_at_call 262; (with_reducible refine (i_Years _ _).mono ?_); rintro e w' ⟨rfl, rfl⟩) | (go_at_call 227; (with_reducible refine (s_Amount6 _ _).mono ?_); rintro e w' ⟨rfl, rfl⟩) | (go_at_call 236; (with_reducible refine (s_Sum7 _ _).mono ?_); rintro e w' ⟨rfl, rfl⟩) | ((first | with_reducible refine wp_region_in x (by kernel_rfl) (by kernel_rfl) ?_ | with_reducible refine wp_region_here (by kernel_rfl) (by kernel_rfl) ?_); (repeat (go_big_quiet_step ((first | (go_at_call 142; with_reducible exact Ret.same _ (s_In _ _ _ _)) | (go_at_call 186; with_reducible exact Ret.same _ (i_In _ _ _ _)) | (go_at_call 222; with_reducible exact Ret.same _ (s_Rate _ _)) | (go_at_call 165; with_reducible exact Ret.same _ (i_Rate _ _)) | (go_at_call 262; with_reducible exact Ret.same _ (i_Years _ _)) | (go_at_call 227; with_reducible exact Ret.same _ (s_Amount6 _ _)) | (go_at_call 236; with_reducible exact Ret.same _ (s_Sum7 _ _)))))); refine wpQuiet_nil ?_; intro w' hw'; obtain ⟨x, rfl⟩ := hw'))
  go_loopw [1, 9] (fun lv i wr => ∃ (k : Nat) (l : Int) (vo : Value) (ys : List Int), i = .int .i64 k ∧ lv = .int .i64 l ∧ 0 ≤ l ∧ l ≤ 1000000 ∧ k ≤ n ∧ Hid (ys.length = k + 1) ∧ Hid (k = 0 → 1 ≤ l) ∧ Hid (MAt w wr w.heap.size (w.heap.size + 1 + 1) first vo ys)) (fun _ i _ => n - (intOf i).toNat)
  case atStart =>
    refine ⟨0, lives, .slice (some ⟨w.heap.size + 1, 0, none⟩) 1 1, [lives], rfl, rfl, by omega, hl1, by omega, Lib.hid rfl, Lib.hid (fun _ => hl0), Lib.hid ⟨(by repeat' (first | (with_reducible exact Up.refl _) | (with_reducible assumption) | (with_reducible refine Up.alloc ?_ _) | (with_reducible refine Up.drew ?_) | (with_reducible refine Up.grow ?_ _) | (with_reducible refine Up.setCell ?_ (by (try simp); (try omega)) _))), ((Blk.new _ _ _).alloc _).alloc _, ?_, ?_, by simp [Value.ownBlock], by simp [Value.ownBlock], by omega, by omega, by omega⟩⟩
    · simpa only [World.size_alloc] using Blk.new ((w.alloc (.cells #[.int .i64 0, .slice none 0 0] 31)).alloc (.cells #[.int .i64 lives] 2)) 31 #[.int .i64 first, .slice (some ⟨w.heap.size + 1, 0, none⟩) 1 1]
    · have h := (Own.one w (w := w.alloc (.cells #[.int .i64 0, .slice none 0 0] 31)) (by simp) lives).up (Up.alloc (Up.refl _) (.cells #[.int .i64 first, .slice (some ⟨w.heap.size + 1, 0, none⟩) 1 1] 31))
      simp only [World.size_alloc] at h
      exact h
  case round =>
    obtain ⟨k, l, vo, ys, rfl, rfl, hl0, hl1, hk, HL, HK, HJ⟩ := hrel
    generalize w.heap.size + 1 + 1 = B8 at *
    obtain ⟨A9, c9, rfl, _, _, _⟩ := HJ.out.own.form
    have hJ := HJ.out
    have hup := hJ.up
    have s0 := hJ.h8.cell 0; have s1 := hJ.h8.cell 1; have is := hJ.h8.inw; have sf := hJ.h8.frozen
    have v0 := hJ.h6.cell 0; have v1 := hJ.h6.cell 1; have vi := hJ.h6.inw; have vf := hJ.h6.frozen
    have d1 : ¬ w.heap.size = B8 := hJ.d
    have d2 : ¬ B8 = w.heap.size := fun h => hJ.d h.symm
    have hsz := hup.size
    have hlen : ys.length < 1048576 := by have := HL.out; omega
    clear hJ
    by_cases hlt : k < n
    · by_cases hpos : 0 < l
      · obtain ⟨bb, off, rfl, hlb, hcell⟩ := HII.out k hlt
        have hc1 : wr.cell? ⟨bb, off + k, none⟩ = some (.int .i64 (g k)) := (hup.cell (p := ⟨bb, off + k, none⟩) hlb).trans hcell
        have gb := HG.out k hlt
        have cd := cdiv_le hl0 gb.1 gb.2
        have HU := s_Up01 (l * g k) 1000 cd.2.2.1 (by omega) (by omega) (by omega)
        have i1 : IntKind.i64.wrap (l * g k) = l * g k := IntWalk.i64_in _ (by omega)
        generalize cdiv (l * g k) 1000 = Q at *
        replace HU := Lib.hid HU
        have i2 : IntKind.i64.wrap (l - Q) = l - Q := IntWalk.i64_in _ (by omega)
        clear hcell
        go_wp2_with (first | (at_builtin; refine wp_push_l (W := w) hsz HJ.out.own rfl _ _ rfl rfl rfl hlen ?_; intro g9 cap w1 hown2 hg2 hat hlt9; obtain ⟨u0, u6, u8⟩ := HJ.out.push hg2; have t0 := u8.cell 0; have t1 := u8.cell 1; have tf := u8.frozen; have ti := u8.inw) | (go_at_call 261; (with_reducible refine (HU.out _).mono ?_); rintro e w' ⟨rfl, rfl⟩) | (go_at_call 142; (with_reducible refine (s_In _ _ _ _).mono ?_); rintro e w' ⟨rfl, rfl⟩) | (go_at_call 186; (with_reducible refine (i_In _ _ _ _).mono ?_); rintro e w' ⟨rfl, rfl⟩) | (go_at_call 222; (with_reducible refine (s_Rate _ _).mono ?_); rintro e w' ⟨rfl, rfl⟩) | (go_at_call 165; (with_reducible refine (i_Rate _ _).mono ?_); rintro e w' ⟨rfl, rfl⟩) | (go_at_call 262; (with_reducible refine (i_Years _ _).mono ?_); rintro e w' ⟨rfl, rfl⟩) | (go_at_call 227; (with_reducible refine (s_Amount6 _ _).mono ?_); rintro e w' ⟨rfl, rfl⟩) | (go_at_call 236; (with_reducible refine (s_Sum7 _ _).mono ?_); rintro e w' ⟨rfl, rfl⟩) | ((first | with_reducible refine wp_region_in x (by kernel_rfl) (by kernel_rfl) ?_ | with_reducible refine wp_region_here (by kernel_rfl) (by kernel_rfl) ?_); (repeat (go_big_quiet_step ((first | (go_at_call 261; with_reducible exact Ret.same _ (HU.out _)) | (go_at_call 142; with_reducible exact Ret.same _ (s_In _ _ _ _)) | (go_at_call 186; with_reducible exact Ret.same _ (i_In _ _ _ _)) | (go_at_call 222; with_reducible exact Ret.same _ (s_Rate _ _)) | (go_at_call 165; with_reducible exact Ret.same _ (i_Rate _ _)) | (go_at_call 262; with_reducible exact Ret.same _ (i_Years _ _)) | (go_at_call 227; with_reducible exact Ret.same _ (s_Amount6 _ _)) | (go_at_call 236; with_reducible exact Ret.same _ (s_Sum7 _ _)))))); refine wpQuiet_nil ?_; intro w' hw'; obtain ⟨x, rfl⟩ := hw'))
        go_roundw
        case rel => exact ⟨k + 1, l - Q, _, ys ++ [l - Q], by go_num, rfl, by omega, by omega, by omega, Lib.hid (by have := HL.out; simp; omega), Lib.hid (fun h => by omega), Lib.hid (HJ.out.stored hg2 hown2 hat)⟩
        case measure => simp [intOf]; omega
      · have hl00 : l = 0 := by omega
        have HK0 : Hid (1 ≤ k) := Lib.hid (by
          rcases Nat.eq_zero_or_pos k with h | h
          · have := HK.out h; omega
          · exact h)
        go_wp2
        refine bodyPost_ret (v := .tuple #[.agg #[.int .i64 first, .slice A9 ys.length c9], .int .i64 0]) (by simp [results, Try.results255, go_sem, v0, v1, vi]) rfl ?_
        exact mk_end HJ.out (by have := HL.out; have := HK0.out; omega) (by have := HL.out; omega)
    · by_cases hpos : 0 < l
      · go_wp2_with (at_builtin; refine wp_push_l (W := w) hsz HJ.out.own rfl _ _ rfl rfl rfl hlen ?_; intro g9 cap w1 hown2 hg2 hat hlt9; obtain ⟨u0, u6, u8⟩ := HJ.out.push hg2; have t0 := u8.cell 0; have t1 := u8.cell 1; have tf := u8.frozen; have ti := u8.inw; have q0 := u6.cell 0; have q1 := u6.cell 1; have qf := u6.frozen; have qi := u6.inw)
        refine bodyPost_ret (v := .tuple #[.agg #[.int .i64 first, .slice (some ⟨g9, 0, none⟩) (ys.length + 1) cap], .int .i64 0]) (by simp [results, Try.results255, go_sem, q0, q1, qi, d1, d2]) rfl ?_
        exact mk_end (HJ.out.stored hg2 hown2 hat) (by have := HL.out; simp; omega) (by have := HL.out; simp; omega)
      · go_wp2
        refine bodyPost_ret (v := .tuple #[.agg #[.int .i64 first, .slice A9 ys.length c9], .int .i64 0]) (by simp [results, Try.results255, go_sem, v0, v1, vi]) rfl ?_
        exact mk_end HJ.out (by have := HL.out; omega) (by have := HL.out; omega)
set_option maxRecDepth 100000 in
set_option maxHeartbeats 4000000 in
theorem s_MakeB (first lives : Int) (xs : List Int) (hm : ¬ (118 : Int) ≤ 149 - first) (hf0 : 0 ≤ first) (hf1 : first ≤ 50) (hl0 : 1 ≤ lives) (hl1 : lives ≤ 1000000) (hx1 : 1 ≤ xs.length) (hx2 : xs.length ≤ 25) (hx : ∀ x ∈ xs, 0 ≤ x ∧ x ≤ 1000) (v : Value) (w : World) (hv : Rd w v xs) :
    Calls Try.prog 255 #[.int .i64 first, .int .i64 lives, v] w (RetMk w first) := by
  obtain ⟨A, c, rfl, hc, hc2, hI⟩ := hv
  obtain ⟨g, hgd⟩ : ∃ g : Nat → Int, g = fun i => xs.getD i 0 := ⟨_, rfl⟩
  rw [← hgd] at hI
  have hg : ∀ i, i < xs.length → 0 ≤ g i ∧ g i ≤ 1000 := fun i hi => by
    rw [hgd]; exact hx _ (by show xs.getD i 0 ∈ xs; rw [List.getD_eq_getElem?_getD, List.getElem?_eq_getElem hi]; exact List.getElem_mem hi)
  clear hgd hx
  generalize xs.length = n at *
  have HG := Lib.hid hg
  have HII := Lib.hid hI
  have HW : ∀ most : Int, (n : Int) ≤ most → ∀ w1, Up w w1 → Calls Try.prog 251 #[.slice A n c, .int .i64 most, .int .i64 0, .int .i64 1000] w1 fun e w' => e = .returned (.bool true) ∧ w1 = w' := fun most hm w1 hu =>
    s_Within A n c g most 0 1000 (by omega) hm true ⟨fun _ => hg, fun _ => rfl⟩ w1 (hI.up hu)
  replace HW := Lib.hid HW
  have i0 : IntKind.i64.wrap (149 - first) = 149 - first := IntWalk.i64_in _ (by omega)
  have r1 : inR first 0 100 = true := inR_true.2 ⟨by omega, by omega⟩
  have r2 : inR lives 1 1000000 = true := inR_true.2 ⟨by omega, by omega⟩
  clear hg hI
  go_enter Try.func255, Try.ntmps255
  go_wp2_with (first | (go_at_call 251; (with_reducible refine (HW.out _ (by omega) _ (by repeat' (first | (with_reducible exact Up.refl _) | (with_reducible assumption) | (with_reducible refine Up.alloc ?_ _) | (with_reducible refine Up.drew ?_) | (with_reducible refine Up.grow ?_ _) | (with_reducible refine Up.setCell ?_ (by (try simp); (try omega)) _)))).mono ?_); rintro e w' ⟨rfl, rfl⟩) | (go_at_call 142; (with_reducible refine (s_In _ _ _ _).mono ?_); rintro e w' ⟨rfl, rfl⟩) | (go_at_call 186; (with_reducible refine (i_In _ _ _ _).mono ?_); rintro e w' ⟨rfl, rfl⟩) | (go_at_call 222; (with_reducible refine (s_Rate _ _).mono ?_); rintro e w' ⟨rfl, rfl⟩) | (go_at_call 165; (with_reducible refine (i_Rate _ _).mono ?_); rintro e w' ⟨rfl, rfl⟩) | (go_at_call 262; (with_reducible refine (i_Years _ _).mono ?_); rintro e w' ⟨rfl, rfl⟩) | (go_at_call 227; (with_reducible refine (s_Amount6 _ _).mono ?_); rintro e w' ⟨rfl, rfl⟩) | (go_at_call 236; (with_reducible refine (s_Sum7 _ _).mono ?_); rintro e w' ⟨rfl, rfl⟩) | ((first | with_reducible refine wp_region_in x (by kernel_rfl) (by kernel_rfl) ?_ | with_reducible refine wp_region_here (by kernel_rfl) (by kernel_rfl) ?_); (repeat (go_big_quiet_step ((first | (go_at_call 142; with_reducible exact Ret.same _ (s_In _ _ _ _)) | (go_at_call 186; with_reducible exact Ret.same _ (i_In _ _ _ _)) | (go_at_call 222; with_reducible exact Ret.same _ (s_Rate _ _)) | (go_at_call 165; with_reducible exact Ret.same _ (i_Rate _ _)) | (go_at_call 262; with_reducible exact Ret.same _ (i_Years _ _)) | (go_at_call 227; with_reducible exact Ret.same _ (s_Amount6 _ _)) | (go_at_call 236; with_reducible exact Ret.same _ (s_Sum7 _ _)))))); refine wpQuiet_nil ?_; intro w' hw'; obtain ⟨x, rfl⟩ := hw'))
  go_loopw [1, 9] (fun lv i wr => ∃ (k : Nat) (l : Int) (vo : Value) (ys : List Int), i = .int .i64 k ∧ lv = .int .i64 l ∧ 0 ≤ l ∧ l ≤ 1000000 ∧ k ≤ n ∧ Hid (ys.length = k + 1) ∧ Hid (k = 0 → 1 ≤ l) ∧ Hid (MAt w wr w.heap.size (w.heap.size + 1 + 1) first vo ys)) (fun _ i _ => n - (intOf i).toNat)
  case atStart =>
    refine ⟨0, lives, .slice (some ⟨w.heap.size + 1, 0, none⟩) 1 1, [lives], rfl, rfl, by omega, hl1, by omega, Lib.hid rfl, Lib.hid (fun _ => hl0), Lib.hid ⟨(by repeat' (first | (with_reducible exact Up.refl _) | (with_reducible assumption) | (with_reducible refine Up.alloc ?_ _) | (with_reducible refine Up.drew ?_) | (with_reducible refine Up.grow ?_ _) | (with_reducible refine Up.setCell ?_ (by (try simp); (try omega)) _))), ((Blk.new _ _ _).alloc _).alloc _, ?_, ?_, by simp [Value.ownBlock], by simp [Value.ownBlock], by omega, by omega, by omega⟩⟩
    · simpa only [World.size_alloc] using Blk.new ((w.alloc (.cells #[.int .i64 0, .slice none 0 0] 31)).alloc (.cells #[.int .i64 lives] 2)) 31 #[.int .i64 first, .slice (some ⟨w.heap.size + 1, 0, none⟩) 1 1]
    · have h := (Own.one w (w := w.alloc (.cells #[.int .i64 0, .slice none 0 0] 31)) (by simp) lives).up (Up.alloc (Up.refl _) (.cells #[.int .i64 first, .slice (some ⟨w.heap.size + 1, 0, none⟩) 1 1] 31))
      simp only [World.size_alloc] at h
      exact h
  case round =>
    obtain ⟨k, l, vo, ys, rfl, rfl, hl0, hl1, hk, HL, HK, HJ⟩ := hrel
    generalize w.heap.size + 1 + 1 = B8 at *
    obtain ⟨A9, c9, rfl, _, _, _⟩ := HJ.out.own.form
    have hJ := HJ.out
    have hup := hJ.up
    have s0 := hJ.h8.cell 0; have s1 := hJ.h8.cell 1; have is := hJ.h8.inw; have sf := hJ.h8.frozen
    have v0 := hJ.h6.cell 0; have v1 := hJ.h6.cell 1; have vi := hJ.h6.inw; have vf := hJ.h6.frozen
    have d1 : ¬ w.heap.size = B8 := hJ.d
    have d2 : ¬ B8 = w.heap.size := fun h => hJ.d h.symm
    have hsz := hup.size
    have hlen : ys.length < 1048576 := by have := HL.out; omega
    clear hJ
    by_cases hlt : k < n
    · by_cases hpos : 0 < l
      · obtain ⟨bb, off, rfl, hlb, hcell⟩ := HII.out k hlt
        have hc1 : wr.cell? ⟨bb, off + k, none⟩ = some (.int .i64 (g k)) := (hup.cell (p := ⟨bb, off + k, none⟩) hlb).trans hcell
        have gb := HG.out k hlt
        have cd := cdiv_le hl0 gb.1 gb.2
        have HU := s_Up01 (l * g k) 1000 cd.2.2.1 (by omega) (by omega) (by omega)
        have i1 : IntKind.i64.wrap (l * g k) = l * g k := IntWalk.i64_in _ (by omega)
        generalize cdiv (l * g k) 1000 = Q at *
        replace HU := Lib.hid HU
        have i2 : IntKind.i64.wrap (l - Q) = l - Q := IntWalk.i64_in _ (by omega)
        clear hcell
        go_wp2_with (first | (at_builtin; refine wp_push_l (W := w) hsz HJ.out.own rfl _ _ rfl rfl rfl hlen ?_; intro g9 cap w1 hown2 hg2 hat hlt9; obtain ⟨u0, u6, u8⟩ := HJ.out.push hg2; have t0 := u8.cell 0; have t1 := u8.cell 1; have tf := u8.frozen; have ti := u8.inw) | (go_at_call 261; (with_reducible refine (HU.out _).mono ?_); rintro e w' ⟨rfl, rfl⟩) | (go_at_call 142; (with_reducible refine (s_In _ _ _ _).mono ?_); rintro e w' ⟨rfl, rfl⟩) | (go_at_call 186; (with_reducible refine (i_In _ _ _ _).mono ?_); rintro e w' ⟨rfl, rfl⟩) | (go_at_call 222; (with_reducible refine (s_Rate _ _).mono ?_); rintro e w' ⟨rfl, rfl⟩) | (go_at_call 165; (with_reducible refine (i_Rate _ _).mono ?_); rintro e w' ⟨rfl, rfl⟩) | (go_at_call 262; (with_reducible refine (i_Years _ _).mono ?_); rintro e w' ⟨rfl, rfl⟩) | (go_at_call 227; (with_reducible refine (s_Amount6 _ _).mono ?_); rintro e w' ⟨rfl, rfl⟩) | (go_at_call 236; (with_reducible refine (s_Sum7 _ _).mono ?_); rintro e w' ⟨rfl, rfl⟩) | ((first | with_reducible refine wp_region_in x (by kernel_rfl) (by kernel_rfl) ?_ | with_reducible refine wp_region_here (by kernel_rfl) (by kernel_rfl) ?_); (repeat (go_big_quiet_step ((first | (go_at_call 261; with_reducible exact Ret.same _ (HU.out _)) | (go_at_call 142; with_reducible exact Ret.same _ (s_In _ _ _ _)) | (go_at_call 186; with_reducible exact Ret.same _ (i_In _ _ _ _)) | (go_at_call 222; with_reducible exact Ret.same _ (s_Rate _ _)) | (go_at_call 165; with_reducible exact Ret.same _ (i_Rate _ _)) | (go_at_call 262; with_reducible exact Ret.same _ (i_Years _ _)) | (go_at_call 227; with_reducible exact Ret.same _ (s_Amount6 _ _)) | (go_at_call 236; with_reducible exact Ret.same _ (s_Sum7 _ _)))))); refine wpQuiet_nil ?_; intro w' hw'; obtain ⟨x, rfl⟩ := hw'))
        go_roundw
        case rel => exact ⟨k + 1, l - Q, _, ys ++ [l - Q], by go_num, rfl, by omega, by omega, by omega, Lib.hid (by have := HL.out; simp; omega), Lib.hid (fun h => by omega), Lib.hid (HJ.out.stored hg2 hown2 hat)⟩
        case measure => simp [intOf]; omega
      · have hl00 : l = 0 := by omega
        have HK0 : Hid (1 ≤ k) := Lib.hid (by
          rcases Nat.eq_zero_or_pos k with h | h
          · have := HK.out h; omega
          · exact h)
        go_wp2
        refine bodyPost_ret (v := .tuple #[.agg #[.int .i64 first, .slice A9 ys.length c9], .int .i64 0]) (by simp [results, Try.results255, go_sem, v0, v1, vi]) rfl ?_
        exact mk_end HJ.out (by have := HL.out; have := HK0.out; omega) (by have := HL.out; omega)
    · by_cases hpos : 0 < l
      · go_wp2_with (at_builtin; refine wp_push_l (W := w) hsz HJ.out.own rfl _ _ rfl rfl rfl hlen ?_; intro g9 cap w1 hown2 hg2 hat hlt9; obtain ⟨u0, u6, u8⟩ := HJ.out.push hg2; have t0 := u8.cell 0; have t1 := u8.cell 1; have tf := u8.frozen; have ti := u8.inw; have q0 := u6.cell 0; have q1 := u6.cell 1; have qf := u6.frozen; have qi := u6.inw)
        refine bodyPost_ret (v := .tuple #[.agg #[.int .i64 first, .slice (some ⟨g9, 0, none⟩) (ys.length + 1) cap], .int .i64 0]) (by simp [results, Try.results255, go_sem, q0, q1, qi, d1, d2]) rfl ?_
        exact mk_end (HJ.out.stored hg2 hown2 hat) (by have := HL.out; simp; omega) (by have := HL.out; simp; omega)
      · go_wp2
        refine bodyPost_ret (v := .tuple #[.agg #[.int .i64 first, .slice A9 ys.length c9], .int .i64 0]) (by simp [results, Try.results255, go_sem, v0, v1, vi]) rfl ?_
        exact mk_end HJ.out (by have := HL.out; omega) (by have := HL.out; omega)
end Go.Proofs.Ytdeoampkbbbleaa
namespace Go.Proofs.Ytdeoampkbbbleaa
open Go.RowKit Pu
set_option linter.unusedSimpArgs false
set_option linter.unusedVariables false

theorem s_Make (first lives : Int) (xs : List Int) (hf0 : 0 ≤ first) (hf1 : first ≤ 50) (hl0 : 1 ≤ lives) (hl1 : lives ≤ 1000000) (hx1 : 1 ≤ xs.length) (hx2 : xs.length ≤ 25) (hx : ∀ x ∈ xs, 0 ≤ x ∧ x ≤ 1000) (v : Value) (w : World) (hv : Rd w v xs) :
    Calls Try.prog 255 #[.int .i64 first, .int .i64 lives, v] w (RetMk w first) := by
  by_cases hm : (118 : Int) ≤ 149 - first
  · exact s_MakeA first lives xs hm hf0 hf1 hl0 hl1 hx1 hx2 hx v w hv
  · exact s_MakeB first lives xs hm hf0 hf1 hl0 hl1 hx1 hx2 hx v w hv
/-- A life table is drawn. -/
def RetD3 (W w : World) (b : Nat) (e : Ending) (w' : World) : Prop := ∃ v T, e = .returned v ∧ Gb b w w' ∧ Src W w' b ∧ TabOwn w w' T v ∧ (-1 ≤ T.first ∧ T.first ≤ 101) ∧ 2 ≤ T.n ∧ T.n ≤ 27
/-- The memory of l03Draw: the source, the result, the table under way with its list. -/
structure D3 (W w wr : World) (b b2 b3 g : Nat) (first : Int) (n c : Nat) (ys : List Int) : Prop where
  src : Src W wr b
  gb : Gb b w wr
  h2 : Blk wr b2 31 #[.int .i64 0, .slice none 0 0]
  h3 : Blk wr b3 31 #[.int .i64 first, .slice (some ⟨g, 0, none⟩) n c]
  own : Own w wr (.slice (some ⟨g, 0, none⟩) n c) ys
  len : ys.length = n
  l2 : w.heap.size ≤ b2
  l3 : w.heap.size ≤ b3
  lg : w.heap.size ≤ g
  n2 : b2 ≠ b
  n3 : b3 ≠ b
  n4 : b2 ≠ b3
  n5 : g ≠ b2
  n6 : g ≠ b3
  lw : W.heap.size ≤ w.heap.size
  lb : b < w.heap.size
theorem D3.on {W w wr w2 : World} {b b2 b3 g : Nat} {first : Int} {n c : Nat} {ys : List Int} (h : D3 W w wr b b2 b3 g first n c ys) (k : Gb b wr w2) (s : Src W w2 b) : D3 W w w2 b b2 b3 g first n c ys :=
  { h with src := s, gb := h.gb.trans k, h2 := h.h2.gb h.n2 k, h3 := h.h3.gb h.n3 k, own := h.own.gb h.lb k }
theorem D3.up {W w wr w2 : World} {b b2 b3 g : Nat} {first : Int} {n c : Nat} {ys : List Int} (h : D3 W w wr b b2 b3 g first n c ys) (u : Up wr w2) : D3 W w w2 b b2 b3 g first n c ys :=
  h.on (Gb.of u) (h.src.up u)
/-- A store into the list. -/
theorem D3.put {W w wr : World} {b b2 b3 g : Nat} {first : Int} {n c : Nat} {ys : List Int} (h : D3 W w wr b b2 b3 g first n c ys) (i : Nat) (u : Int) : D3 W w (wr.setCell ⟨g, i, none⟩ (.int .i64 u)) b b2 b3 g first n c (ys.set i u) := by
  have hg := h.lg; have hb := h.lb; have hw := h.lw
  have hl := h.len
  subst hl
  have e := World.ownsRow.stored h.own i (.int .i64 u)
  refine { h with src := h.src.set (p := ⟨g, i, none⟩) (by simp; omega) (by simp; omega) _, gb := h.gb.set (p := ⟨g, i, none⟩) (Or.inr (by simpa using hg)) _, h2 := h.h2.other (p := ⟨g, i, none⟩) h.n5 _, h3 := h.h3.other (p := ⟨g, i, none⟩) h.n6 _, own := ?_, len := by rw [List.length_set] }
  have e1 := e.1
  unfold Own
  rw [List.length_set, List.map_set]
  exact e1
/-- A store of the first age. -/
theorem D3.first {W w wr : World} {b b2 b3 g : Nat} {first : Int} {n c : Nat} {ys : List Int} (h : D3 W w wr b b2 b3 g first n c ys) (u : Int) : D3 W w (wr.setCell ⟨b3, 0, none⟩ (.int .i64 u)) b b2 b3 g u n c ys := by
  have hg := h.l3; have hw := h.lw
  refine { h with src := h.src.set (p := ⟨b3, 0, none⟩) (by simp; omega) h.n3 _, gb := h.gb.set (p := ⟨b3, 0, none⟩) (Or.inr (by simpa using hg)) _, h2 := h.h2.other (p := ⟨b3, 0, none⟩) (fun e => h.n4 e.symm) _, h3 := by simpa using h.h3.same 0 (.int .i64 u), own := ownsRow_setCell_other h.own (a := ⟨b3, 0, none⟩) (by simp [Value.ownBlock]; exact h.n6) _ }
/-- The end: the table is copied into the result. -/
theorem D3.fin {W w wr : World} {b b2 b3 g : Nat} {first : Int} {n c : Nat} {ys : List Int} (h : D3 W w wr b b2 b3 g first n c ys) (hf : -1 ≤ first ∧ first ≤ 101) (hn : 2 ≤ n) (hn2 : n ≤ 27) :
    RetD3 W w b (.returned (.agg #[.int .i64 first, .slice (some ⟨g, 0, none⟩) n c])) ((wr.setCell ⟨b2, 0, none⟩ (.int .i64 first)).setCell ⟨b2, 1, none⟩ (.slice (some ⟨g, 0, none⟩) n c)) := by
  have hl := h.l2; have hw := h.lw
  refine ⟨_, ⟨first, n, fun i => ys.getD i 0⟩, rfl, (h.gb.set (p := ⟨b2, 0, none⟩) (Or.inr (by simpa using hl)) _).set (p := ⟨b2, 1, none⟩) (Or.inr (by simpa using hl)) _, (h.src.set (p := ⟨b2, 0, none⟩) (by simp; omega) h.n2 _).set (p := ⟨b2, 1, none⟩) (by simp; omega) h.n2 _, ⟨by show n ≤ _; omega, some ⟨g, 0, none⟩, c, rfl, ?_⟩, hf, hn, hn2⟩
  show Own w _ (.slice (some ⟨g, 0, none⟩) n c) ((List.range n).map fun i => ys.getD i 0)
  have e : ((List.range n).map fun i => ys.getD i 0) = ys := by rw [← h.len]; exact range_getD ys
  rw [e]
  exact ownsRow_setCell_other (ownsRow_setCell_other h.own (a := ⟨b2, 0, none⟩) (by simp [Value.ownBlock]; exact h.n5) _) (a := ⟨b2, 1, none⟩) (by simp [Value.ownBlock]; exact h.n5) _
theorem d3_cells {W w wr : World} {b b2 b3 g : Nat} {first : Int} {n c : Nat} {ys : List Int} (h : D3 W w wr b b2 b3 g first n c ys) (i : Nat) (hi : i < n) : wr.cell? ⟨g, i, none⟩ = some (.int .i64 (ys.getD i 0)) ∧ wr.frozen? ⟨g, i, none⟩ = false ∧ InW wr g := by
  have hl := h.len
  obtain ⟨A, c', e, _, _, h4⟩ := h.own.form
  obtain ⟨g', e2, _, h6, h7, h8⟩ := h4 (by omega)
  injection e with e1 e3 e4
  rw [← e1] at e2
  injection e2 with e2
  injection e2 with e2 e5 e6
  subst e2
  exact ⟨h7 i (by omega), h8 i, h6⟩
set_option maxRecDepth 100000 in
set_option maxHeartbeats 4000000 in
theorem s_Draw3 {W : World} {b : Nat} (w : World) (h : Src W w b) : Calls Try.prog 182 #[.pointer (some ⟨b, 0, none⟩)] w (RetD3 W w b) := by
  have hbw := h.inw
  have hWw := h.ups.size
  go_enter Try.func182, Try.ntmps182
  go_upto_region 1 with (fail)
  have hR := Blk.new w 31 #[.int .i64 0, .slice none 0 0]
  have hs := h.up (Up.alloc (Up.refl w) (.cells #[.int .i64 0, .slice none 0 0] 31))
  have hg := (Gb.refl b w).alloc (.cells #[.int .i64 0, .slice none 0 0] 31)
  have hz : w.heap.size < (w.alloc (.cells #[.int .i64 0, .slice none 0 0] 31)).heap.size := by simp
  generalize w.alloc (.cells #[.int .i64 0, .slice none 0 0] 31) = w1 at *
  have hB2 : w.heap.size ≠ b := by omega
  go_upto_region 2 with (first
    | (go_at_call 185; have hp := s_Pick [0, 20, 30, 50] 4 rfl (by omega) (by omega) #[.int .i64 0, .int .i64 20, .int .i64 30, .int .i64 50] rfl w1.heap.size _ (hs.up (Up.alloc (Up.refl w1) _)) (Blk.new w1 _ _) (by have := hs.inw; omega); (with_reducible refine hp.mono ?_); clear hp; rintro e w2 ⟨z1, rfl, hz1, hg2, hs⟩; have hR := (hR.alloc _).gb hB2 hg2; have hg := (hg.alloc _).trans hg2; have hz1 : 0 ≤ z1 ∧ z1 ≤ 50 := (by simp at hz1; omega))
    | (go_at_call 183; (with_reducible refine (s_Next 9000 _ hs).mono ?_); rintro e w3 ⟨z2, rfl, hz2, hg3, hs⟩; have hR := hR.gb hB2 hg3; have hg := hg.trans hg3; obtain ⟨a0, a1, _⟩ := hz2; have a1 := a1 (by omega))
    | (go_at_call 185; have hp := s_Pick [1, 100, 1000, 5000 + z2] 4 rfl (by omega) (by omega) #[.int .i64 1, .int .i64 100, .int .i64 1000, .int .i64 (5000 + z2)] rfl w3.heap.size _ (hs.up (Up.alloc (Up.refl w3) _)) (Blk.new w3 _ _) (by have := hs.inw; omega); (with_reducible refine hp.mono ?_); clear hp; rintro e w4 ⟨z3, rfl, hz3, hg4, hs⟩; have hR := (hR.alloc _).gb hB2 hg4; have hg := (hg.alloc _).trans hg4; have hz3 : 1 ≤ z3 ∧ z3 ≤ 14000 := (by simp at hz3; omega))
    | (go_at_call 256; (with_reducible refine (s_Rates _ hs).mono ?_); rintro e w5 ⟨vr, xr, rfl, hg5, hs, hor, hl1, hl2, hxr⟩; have hR := hR.gb hB2 hg5; have hg := hg.trans hg5; have hz5 := hg.size; have hR0 : w.heap.size < w5.heap.size := hR.inw)
    | (go_at_call 255; (with_reducible refine (s_Make z1 z3 xr (by omega) (by omega) (by omega) (by omega) hl1 hl2 hxr _ _ hor.rd).mono ?_); rintro e w6 ⟨vt, T, rfl, hu6, ⟨hbig, A6, c6, rfl, hO6⟩, hf, hn2, hn27⟩; have hR := hR.up hu6; have hg := hg.up hu6; have hs := hs.up hu6))
  obtain ⟨n, hn⟩ : ∃ n, T.n = n := ⟨_, rfl⟩
  have hO := hO6.form
  obtain ⟨A7, c7, hv7, hc7, hm7, hA7⟩ := hO
  obtain ⟨g, hA8, hg1, hg2, _, _⟩ := hA7 (by simp; omega)
  have hl : ((List.range T.n).map T.f).length = n := by simp [hn]
  injection hv7 with e1 e2 e3
  subst e1; subst e3; subst hA8
  rw [hn] at hO6 hbig hn2 hn27 hl ⊢
  have hO7 := (hO6.base (w0 := w) hz5).up (Up.alloc (Up.refl w6) (.cells #[.int .i64 z1, .slice (some ⟨g, 0, none⟩) n c6] 31))
  generalize (List.range n).map T.f = ys at *
  have hz6 := hu6.size
  have hws := hg.size
  have hD : D3 W w (w6.alloc (.cells #[.int .i64 z1, .slice (some ⟨g, 0, none⟩) n c6] 31)) b w.heap.size w6.heap.size g z1 n c6 ys :=
    { src := hs.up (Up.alloc (Up.refl w6) _), gb := hg.alloc _, h2 := hR.alloc _, h3 := Blk.new w6 _ _, own := hO7, len := hl, l2 := Nat.le_refl _, l3 := hws, lg := Nat.le_trans hz5 hg1, n2 := hB2, n3 := by omega, n4 := by have := hR.inw; unfold InW at this; omega, n5 := by have := hR0; omega, n6 := by omega, lw := hWw, lb := hbw }
  have hc6 : n ≤ c6 := by omega
  have hc7' : c6 ≤ 9223372036854775807 := hm7
  generalize w6.alloc (.cells #[.int .i64 z1, .slice (some ⟨g, 0, none⟩) n c6] 31) = w7 at *
  generalize w6.heap.size = B3 at *
  clear hR hg hs hO6 hO7 hor hxr
  go_upto_region 3 with (go_at_call 183; (with_reducible refine (s_Next 60 _ hD.src).mono ?_); rintro e w8 ⟨z, rfl, hz8, hg8, hs8⟩; have hD := hD.on hg8 hs8)
  have q0 := hD.h3.cell 0; have q1 := hD.h3.cell 1; have qf := hD.h3.frozen; have qi := hD.h3.inw
  have p0 := hD.h2.cell 0; have p1 := hD.h2.cell 1; have pf := hD.h2.frozen; have pi_ := hD.h2.inw
  have m1 : ¬ w.heap.size = B3 := hD.n4
  have m2 : ¬ B3 = w.heap.size := fun e => hD.n4 e.symm
  have m3 : ¬ g = B3 := hD.n6
  have m4 : ¬ B3 = g := fun e => hD.n6 e.symm
  have m5 : ¬ g = w.heap.size := hD.n5
  have m6 : ¬ w.heap.size = g := fun e => hD.n5 e.symm
  have HD := Lib.hid hD
  have GC := Lib.hid (d3_cells hD)
  have hz0 := hz8.1
  clear hD
  by_cases k0 : z = 0
  · subst k0
    have g0 := (GC.out 0 (by omega)).1
    have gf := (GC.out 0 (by omega)).2.1
    have gi := (GC.out 0 (by omega)).2.2
    have b0 : (0 : Int) < n := by omega
    have b0n : 0 < n := by omega
    have b0z : (n == 0) = false := by simp; omega
    have b0i : (n : Int) ≠ 0 := by omega
    have b0m : n ≠ 0 := by omega
    go_upto_region 4 with (fail)
    go_region_held3 (fun w' => w'.cell? ⟨B3, 1, none⟩ = some (.slice (some ⟨g, 0, none⟩) n c6)) ((repeat' apply And.intro) <;> go_simp)
      (first | (go_at_call 185; have hp := s_Pick [0, 1000000, 1000001] 3 rfl (by omega) (by omega) #[.int .i64 0, .int .i64 1000000, .int .i64 1000001] rfl w8.heap.size _ (HD.out.src.up (Up.drew (Up.alloc (Up.refl w8) _))) (Blk.new w8 _ _).drew (by have := HD.out.src.inw; omega); (with_reducible refine hp.mono ?_); clear hp; rintro e w9 ⟨z4, rfl, hz4, hg9, hs9⟩; have hD9 := HD.out.on ((Gb.of (Up.drew (Up.alloc (Up.refl w8) _))).trans hg9) hs9; have q0 := hD9.h3.cell 0; have q1 := hD9.h3.cell 1; have qf := hD9.h3.frozen; have qi := hD9.h3.inw; have p0 := hD9.h2.cell 0; have p1 := hD9.h2.cell 1; have pf := hD9.h2.frozen; have pi_ := hD9.h2.inw; have g0 := (d3_cells hD9 0 (by omega)).1; have gf := (d3_cells hD9 0 (by omega)).2.1; have gi := (d3_cells hD9 0 (by omega)).2.2))
    all_goals
      go_wp2
      refine bodyPost_ret (v := .agg #[.int .i64 z1, .slice (some ⟨g, 0, none⟩) n c6]) (by simp [results, Try.results182, go_sem, p0, p1, pf, pi_, m1, m2, m5, m6]) rfl ?_
      exact D3.fin (hD9.put 0 z4) (by omega) (by omega) (by omega)
  have k0' : (z == 0) = false := by simpa using k0
  by_cases k1 : z = 1
  · subst k1
    have g0 := (GC.out (n - 1) (by omega)).1
    have gf := (GC.out (n - 1) (by omega)).2.1
    have gi := (GC.out (n - 1) (by omega)).2.2
    have i1 : IntKind.i64.wrap ((n : Int) - 1) = (n : Int) - 1 := IntWalk.i64_in _ (by omega)
    have i2 : ((n : Int) - 1).toNat = n - 1 := by omega
    have b0 : (0 : Int) ≤ (n : Int) - 1 := by omega
    have b1 : (n : Int) - 1 < n := by omega
    go_wp2
    refine bodyPost_ret (v := .agg #[.int .i64 z1, .slice (some ⟨g, 0, none⟩) n c6]) (by simp [results, Try.results182, go_sem, p0, p1, pf, pi_, m1, m2, m5, m6]) rfl ?_
    exact D3.fin (HD.out.put (n - 1) 1) (by omega) (by omega) (by omega)
  have k1' : (z == 1) = false := by simpa using k1
  by_cases k2 : z = 2
  · subst k2
    go_wp2_with (first | (go_at_call 185; have hp := s_Pick [-1, 100, 101] 3 rfl (by omega) (by omega) #[.int .i64 (-1), .int .i64 100, .int .i64 101] rfl w8.heap.size _ (HD.out.src.up (Up.alloc (Up.refl w8) _)) (Blk.new w8 _ _) (by have := HD.out.src.inw; omega); (with_reducible refine hp.mono ?_); clear hp; rintro e w9 ⟨z4, rfl, hz4, hg9, hs9⟩; have hD9 := HD.out.on ((Gb.of (Up.alloc (Up.refl w8) _)).trans hg9) hs9; have q0 := hD9.h3.cell 0; have q1 := hD9.h3.cell 1; have qf := hD9.h3.frozen; have qi := hD9.h3.inw; have p0 := hD9.h2.cell 0; have p1 := hD9.h2.cell 1; have pf := hD9.h2.frozen; have pi_ := hD9.h2.inw))
    refine bodyPost_ret (v := .agg #[.int .i64 z4, .slice (some ⟨g, 0, none⟩) n c6]) (by simp [results, Try.results182, go_sem, p0, p1, pf, pi_, m1, m2, m5, m6]) rfl ?_
    exact D3.fin (hD9.first z4) (by simp at hz4; omega) (by omega) (by omega)
  have k2' : (z == 2) = false := by simpa using k2
  go_wp2
  refine bodyPost_ret (v := .agg #[.int .i64 z1, .slice (some ⟨g, 0, none⟩) n c6]) (by simp [results, Try.results182, go_sem, p0, p1, pf, pi_, m1, m2, m5, m6]) rfl ?_
  exact D3.fin HD.out (by omega) (by omega) (by omega)
/-- The end of a table that is drawn, whatever its first age. -/
theorem s_EndD {T : Tab} (hf : -1 ≤ T.first ∧ T.first ≤ 101) (hn : T.n ≤ 27) (v : Value) (w : World) (hv : TabAt w T v) : Calls Try.prog 179 #[v] w (Ret w (.int .i64 (T.first + T.n - 1))) := by
  obtain ⟨A, c, rfl, hc, hm, _, hI⟩ := hv
  go_enter Try.func179, Try.ntmps179
  go_wp2
  go_ret
  exact ⟨rfl, (by repeat' (first | (with_reducible exact Up.refl _) | (with_reducible assumption) | (with_reducible refine Up.alloc ?_ _) | (with_reducible refine Up.drew ?_) | (with_reducible refine Up.grow ?_ _) | (with_reducible refine Up.setCell ?_ (by (try simp); (try omega)) _)))⟩
set_option maxRecDepth 100000 in
set_option maxHeartbeats 4000000 in
theorem s_DrawAge {W : World} {b : Nat} (T : Tab) (hf : -1 ≤ T.first ∧ T.first ≤ 101) (hn : 2 ≤ T.n ∧ T.n ≤ 27) (v : Value) (w : World) (h : Src W w b) (hv : TabAt w T v) (hk : ∀ w', Gb b w w' → TabAt w' T v) :
    Calls Try.prog 184 #[.pointer (some ⟨b, 0, none⟩), v] w (RetDraw W w b (fun _ => True)) := by
  have hbw := h.inw
  have hWw := h.ups.size
  have hv' := hv
  obtain ⟨A, c, rfl, hc, hm, hbig, hI⟩ := hv
  have HE := Lib.hid (s_EndD (T := T) hf hn.2)
  have hz := World.size_alloc w (.cells #[.int .i64 T.first, .slice A T.n c] 31)
  have hR := Blk.new w 31 #[.int .i64 T.first, .slice A T.n c]
  have hs := h.up (Up.alloc (Up.refl w) (.cells #[.int .i64 T.first, .slice A T.n c] 31))
  have hg := (Gb.refl b w).alloc (.cells #[.int .i64 T.first, .slice A T.n c] 31)
  have i1 : IntKind.i64.wrap (T.first - 1) = T.first - 1 := IntWalk.i64_in _ (by omega)
  have i2 : IntKind.i64.wrap (T.first + T.n) = T.first + T.n := IntWalk.i64_in _ (by omega)
  go_enter Try.func184, Try.ntmps184
  go_upto_region 1 with (fail)
  generalize w.alloc (.cells #[.int .i64 T.first, .slice A T.n c] 31) = w1 at *
  go_upto_region 2 with (go_at_call 183; (with_reducible refine (s_Next 24 _ hs).mono ?_); rintro e w2 ⟨z1, rfl, hz1, hg2, hs⟩; have hR := hR.gb (by omega) hg2; have hg := hg.trans hg2)
  · have hk2 := hk w2 hg
    have hne : w.heap.size ≠ b := by omega
    have q0 := hR.cell 0; have q1 := hR.cell 1; have qi := hR.inw
    go_region_held3 (fun w' => w'.cell? ⟨w.heap.size, 0, none⟩ = some (.int .i64 T.first) ∧ w'.cell? ⟨w.heap.size, 1, none⟩ = some (.slice A T.n c)) ((repeat' apply And.intro) <;> go_simp)
      (first
        | (go_at_call 179; (with_reducible refine (HE.out _ w2.drew (hk2.up (Up.drew (Up.refl w2)))).mono ?_); rintro e w3 ⟨rfl, hb3⟩; have hb3 := (Up.drew (Up.refl w2)).trans hb3; have hR := hR.up hb3; have q0 := hR.cell 0; have q1 := hR.cell 1; have qi := hR.inw)
        | (go_at_call 179; (with_reducible refine (HE.out _ w3 (hk2.up hb3)).mono ?_); rintro e w4 ⟨rfl, hb4⟩; have hR := hR.up hb4; have hb4 := hb3.trans hb4; have q0 := hR.cell 0; have q1 := hR.cell 1; have qi := hR.inw)
        | (go_at_call 185; have hp := s_Pick [T.first - 1, T.first + T.n - 1, T.first + T.n, 150, 151] 5 rfl (by omega) (by omega) #[.int .i64 (T.first - 1), .int .i64 (T.first + T.n - 1), .int .i64 (T.first + T.n), .int .i64 150, .int .i64 151] rfl w4.heap.size _ ((hs.up hb4).up (Up.alloc (Up.refl w4) _)) (Blk.new w4 _ _) (by have := (hs.up hb4).inw; omega); (with_reducible refine hp.mono ?_); clear hp; rintro e w5 ⟨z, rfl, hz5, hg5, hs5⟩; have hR := (hR.alloc _).gb hne hg5; have q0 := hR.cell 0; have q1 := hR.cell 1; have qi := hR.inw))
    all_goals
      go_wp2
      go_ret
      exact ⟨_, rfl, trivial, (hg.up (Up.alloc hb4 _)).trans hg5, hs5⟩
  · have hne : w.heap.size ≠ b := by omega
    have q0 := hR.cell 0; have q1 := hR.cell 1; have qi := hR.inw
    go_region_held3 (fun w' => w'.cell? ⟨w.heap.size, 0, none⟩ = some (.int .i64 T.first) ∧ w'.cell? ⟨w.heap.size, 1, none⟩ = some (.slice A T.n c)) ((repeat' apply And.intro) <;> go_simp)
      (first
        | (go_at_call 183; (with_reducible refine (s_Next T.n w2.drew (hs.up (Up.drew (Up.refl w2)))).mono ?_); rintro e w3 ⟨z, rfl, hz3, hg3, hs3⟩; have hg3 := (Gb.of (Up.drew (Up.refl w2))).trans hg3; have hR := hR.gb hne hg3; have q0 := hR.cell 0; have q1 := hR.cell 1; have qi := hR.inw))
    all_goals
      go_wp2
      go_ret
      exact ⟨_, rfl, trivial, hg.trans hg3, hs3⟩
end Go.Proofs.Ytdeoampkbbbleaa
namespace Go.Proofs.Ytdeoampkbbbleaa
open Go.RowKit Pu
set_option linter.unusedVariables false
set_option linter.unusedSimpArgs false

set_option maxRecDepth 100000 in
set_option maxHeartbeats 2000000 in
/-- A rate is drawn: any number between -1 and 201. -/
theorem s_DrawRate {W : World} {b : Nat} (w : World) (hs : Src W w b) : Calls Try.prog 164 #[.pointer (some ⟨b, 0, none⟩)] w (RetDraw W w b (fun z => -1 ≤ z ∧ z ≤ 201)) := by
  have hg := Gb.refl b w
  go_enter Try.func164, Try.ntmps164
  go_upto_region 2 with ((go_at_call 183; (with_reducible refine (s_Next _ _ (hs.up (by repeat' (first | (with_reducible exact Up.refl _) | (with_reducible assumption) | (with_reducible refine Up.alloc ?_ _) | (with_reducible refine Up.drew ?_) | (with_reducible refine Up.grow ?_ _) | (with_reducible refine Up.setCell ?_ (by (try simp); (try omega)) _))))).mono ?_); rintro e w' ⟨z, rfl, hz, hg1, hs⟩; have hg := (hg.up (by repeat' (first | (with_reducible exact Up.refl _) | (with_reducible assumption) | (with_reducible refine Up.alloc ?_ _) | (with_reducible refine Up.drew ?_) | (with_reducible refine Up.grow ?_ _) | (with_reducible refine Up.setCell ?_ (by (try simp); (try omega)) _)))).trans hg1))
  · go_wp2_with (first | (go_at_call 183; (with_reducible refine (s_Next _ _ (hs.up (by repeat' (first | (with_reducible exact Up.refl _) | (with_reducible assumption) | (with_reducible refine Up.alloc ?_ _) | (with_reducible refine Up.drew ?_) | (with_reducible refine Up.grow ?_ _) | (with_reducible refine Up.setCell ?_ (by (try simp); (try omega)) _))))).mono ?_); rintro e w' ⟨z, rfl, hz, hg1, hs⟩; have hg := (hg.up (by repeat' (first | (with_reducible exact Up.refl _) | (with_reducible assumption) | (with_reducible refine Up.alloc ?_ _) | (with_reducible refine Up.drew ?_) | (with_reducible refine Up.grow ?_ _) | (with_reducible refine Up.setCell ?_ (by (try simp); (try omega)) _)))).trans hg1) | (go_at_call 185; (with_reducible refine (s_Pick [-1, 0, 200, 201] 4 rfl (by omega) (by omega) #[.int .i64 (-1), .int .i64 (0), .int .i64 (200), .int .i64 (201)] rfl _ _ (hs.up (by repeat' (first | (with_reducible exact Up.refl _) | (with_reducible assumption) | (with_reducible refine Up.alloc ?_ _) | (with_reducible refine Up.drew ?_) | (with_reducible refine Up.grow ?_ _) | (with_reducible refine Up.setCell ?_ (by (try simp); (try omega)) _)))) (by simpa only [World.size_alloc] using Blk.new _ _ _) (by have h1 := hs.inw; omega)).mono ?_); rintro e w' ⟨z, rfl, hz, hg1, hs⟩; have hg := (hg.up (by repeat' (first | (with_reducible exact Up.refl _) | (with_reducible assumption) | (with_reducible refine Up.alloc ?_ _) | (with_reducible refine Up.drew ?_) | (with_reducible refine Up.grow ?_ _) | (with_reducible refine Up.setCell ?_ (by (try simp); (try omega)) _)))).trans hg1))
    go_ret
    exact ⟨_, rfl, by simp at hz; omega, hg, hs⟩
  · have z0 := hz.1
    have z1 := hz.2.1 (by omega)
    go_wp2_with (go_at_call 185; (with_reducible refine (s_Pick [0, 30, 35, 40, z] 5 rfl (by omega) (by omega) #[.int .i64 (0), .int .i64 (30), .int .i64 (35), .int .i64 (40), .int .i64 (z)] rfl _ _ (hs.up (by repeat' (first | (with_reducible exact Up.refl _) | (with_reducible assumption) | (with_reducible refine Up.alloc ?_ _) | (with_reducible refine Up.drew ?_) | (with_reducible refine Up.grow ?_ _) | (with_reducible refine Up.setCell ?_ (by (try simp); (try omega)) _)))) (by simpa only [World.size_alloc] using Blk.new _ _ _) (by have h1 := hs.inw; omega)).mono ?_); rintro e w' ⟨z, rfl, hz, hg1, hs⟩; have hg := (hg.up (by repeat' (first | (with_reducible exact Up.refl _) | (with_reducible assumption) | (with_reducible refine Up.alloc ?_ _) | (with_reducible refine Up.drew ?_) | (with_reducible refine Up.grow ?_ _) | (with_reducible refine Up.setCell ?_ (by (try simp); (try omega)) _)))).trans hg1)
    go_ret
    exact ⟨_, rfl, by simp at hz; omega, hg, hs⟩
set_option maxRecDepth 100000 in
set_option maxHeartbeats 2000000 in
theorem s_l06DrawAmount {W : World} {b : Nat} (w : World) (hs : Src W w b) : Calls Try.prog 224 #[.pointer (some ⟨b, 0, none⟩)] w (RetDraw W w b (fun z => 0 ≤ z ∧ z ≤ 1000001)) := by
  have hg := Gb.refl b w
  go_enter Try.func224, Try.ntmps224
  go_upto_region 2 with ((go_at_call 183; (with_reducible refine (s_Next _ _ (hs.up (by repeat' (first | (with_reducible exact Up.refl _) | (with_reducible assumption) | (with_reducible refine Up.alloc ?_ _) | (with_reducible refine Up.drew ?_) | (with_reducible refine Up.grow ?_ _) | (with_reducible refine Up.setCell ?_ (by (try simp); (try omega)) _))))).mono ?_); rintro e w' ⟨z, rfl, hz, hg1, hs⟩; have hg := (hg.up (by repeat' (first | (with_reducible exact Up.refl _) | (with_reducible assumption) | (with_reducible refine Up.alloc ?_ _) | (with_reducible refine Up.drew ?_) | (with_reducible refine Up.grow ?_ _) | (with_reducible refine Up.setCell ?_ (by (try simp); (try omega)) _)))).trans hg1))
  all_goals
    first
      | (go_wp2_with (first | (go_at_call 183; (with_reducible refine (s_Next _ _ (hs.up (by repeat' (first | (with_reducible exact Up.refl _) | (with_reducible assumption) | (with_reducible refine Up.alloc ?_ _) | (with_reducible refine Up.drew ?_) | (with_reducible refine Up.grow ?_ _) | (with_reducible refine Up.setCell ?_ (by (try simp); (try omega)) _))))).mono ?_); rintro e w' ⟨z, rfl, hz, hg1, hs⟩; have hg := (hg.up (by repeat' (first | (with_reducible exact Up.refl _) | (with_reducible assumption) | (with_reducible refine Up.alloc ?_ _) | (with_reducible refine Up.drew ?_) | (with_reducible refine Up.grow ?_ _) | (with_reducible refine Up.setCell ?_ (by (try simp); (try omega)) _)))).trans hg1) | (go_at_call 185; (with_reducible refine (s_Pick [0, 1, 1000000, 1000001] 4 rfl (by omega) (by omega) #[.int .i64 (0), .int .i64 (1), .int .i64 (1000000), .int .i64 (1000001)] rfl _ _ (hs.up (by repeat' (first | (with_reducible exact Up.refl _) | (with_reducible assumption) | (with_reducible refine Up.alloc ?_ _) | (with_reducible refine Up.drew ?_) | (with_reducible refine Up.grow ?_ _) | (with_reducible refine Up.setCell ?_ (by (try simp); (try omega)) _)))) (by simpa only [World.size_alloc] using Blk.new _ _ _) (by have h1 := hs.inw; omega)).mono ?_); rintro e w' ⟨z, rfl, hz, hg1, hs⟩; have hg := (hg.up (by repeat' (first | (with_reducible exact Up.refl _) | (with_reducible assumption) | (with_reducible refine Up.alloc ?_ _) | (with_reducible refine Up.drew ?_) | (with_reducible refine Up.grow ?_ _) | (with_reducible refine Up.setCell ?_ (by (try simp); (try omega)) _)))).trans hg1))
         go_ret
         exact ⟨_, rfl, by simp at hz; omega, hg, hs⟩)
      | (go_upto_region 3 with (fail)
         go_wp2_with (first | (go_at_call 185; (with_reducible refine (s_Pick [100, 20000, 500000] 3 rfl (by omega) (by omega) #[.int .i64 (100), .int .i64 (20000), .int .i64 (500000)] rfl _ _ (hs.up (by repeat' (first | (with_reducible exact Up.refl _) | (with_reducible assumption) | (with_reducible refine Up.alloc ?_ _) | (with_reducible refine Up.drew ?_) | (with_reducible refine Up.grow ?_ _) | (with_reducible refine Up.setCell ?_ (by (try simp); (try omega)) _)))) (by simpa only [World.size_alloc] using Blk.new _ _ _) (by have h1 := hs.inw; omega)).mono ?_); rintro e w' ⟨z, rfl, hz, hg1, hs⟩; have hg := (hg.up (by repeat' (first | (with_reducible exact Up.refl _) | (with_reducible assumption) | (with_reducible refine Up.alloc ?_ _) | (with_reducible refine Up.drew ?_) | (with_reducible refine Up.grow ?_ _) | (with_reducible refine Up.setCell ?_ (by (try simp); (try omega)) _)))).trans hg1) | (go_at_call 183; (with_reducible refine (s_Next _ _ (hs.up (by repeat' (first | (with_reducible exact Up.refl _) | (with_reducible assumption) | (with_reducible refine Up.alloc ?_ _) | (with_reducible refine Up.drew ?_) | (with_reducible refine Up.grow ?_ _) | (with_reducible refine Up.setCell ?_ (by (try simp); (try omega)) _))))).mono ?_); rintro e w2 ⟨y, rfl, hy, hg1, hs⟩; have hg := (hg.up (by repeat' (first | (with_reducible exact Up.refl _) | (with_reducible assumption) | (with_reducible refine Up.alloc ?_ _) | (with_reducible refine Up.drew ?_) | (with_reducible refine Up.grow ?_ _) | (with_reducible refine Up.setCell ?_ (by (try simp); (try omega)) _)))).trans hg1; have y2 : 0 ≤ y ∧ y < 500000 := (by have y0 := hy.1; simp at hz; have y1 := hy.2.1 (by omega); omega); have y3 : IntKind.i64.wrap (1 + y) = 1 + y := IntWalk.i64_in _ (by omega)))
         go_ret
         exact ⟨_, rfl, by omega, hg, hs⟩)
set_option maxRecDepth 100000 in
set_option maxHeartbeats 2000000 in
theorem s_l07DrawSum {W : World} {b : Nat} (w : World) (hs : Src W w b) : Calls Try.prog 234 #[.pointer (some ⟨b, 0, none⟩)] w (RetDraw W w b (fun z => 0 ≤ z ∧ z ≤ 100000001)) := by
  have hg := Gb.refl b w
  go_enter Try.func234, Try.ntmps234
  go_upto_region 2 with ((go_at_call 183; (with_reducible refine (s_Next _ _ (hs.up (by repeat' (first | (with_reducible exact Up.refl _) | (with_reducible assumption) | (with_reducible refine Up.alloc ?_ _) | (with_reducible refine Up.drew ?_) | (with_reducible refine Up.grow ?_ _) | (with_reducible refine Up.setCell ?_ (by (try simp); (try omega)) _))))).mono ?_); rintro e w' ⟨z, rfl, hz, hg1, hs⟩; have hg := (hg.up (by repeat' (first | (with_reducible exact Up.refl _) | (with_reducible assumption) | (with_reducible refine Up.alloc ?_ _) | (with_reducible refine Up.drew ?_) | (with_reducible refine Up.grow ?_ _) | (with_reducible refine Up.setCell ?_ (by (try simp); (try omega)) _)))).trans hg1))
  all_goals
    first
      | (go_wp2_with (first | (go_at_call 183; (with_reducible refine (s_Next _ _ (hs.up (by repeat' (first | (with_reducible exact Up.refl _) | (with_reducible assumption) | (with_reducible refine Up.alloc ?_ _) | (with_reducible refine Up.drew ?_) | (with_reducible refine Up.grow ?_ _) | (with_reducible refine Up.setCell ?_ (by (try simp); (try omega)) _))))).mono ?_); rintro e w' ⟨z, rfl, hz, hg1, hs⟩; have hg := (hg.up (by repeat' (first | (with_reducible exact Up.refl _) | (with_reducible assumption) | (with_reducible refine Up.alloc ?_ _) | (with_reducible refine Up.drew ?_) | (with_reducible refine Up.grow ?_ _) | (with_reducible refine Up.setCell ?_ (by (try simp); (try omega)) _)))).trans hg1) | (go_at_call 185; (with_reducible refine (s_Pick [0, 1, 100000000, 100000001] 4 rfl (by omega) (by omega) #[.int .i64 (0), .int .i64 (1), .int .i64 (100000000), .int .i64 (100000001)] rfl _ _ (hs.up (by repeat' (first | (with_reducible exact Up.refl _) | (with_reducible assumption) | (with_reducible refine Up.alloc ?_ _) | (with_reducible refine Up.drew ?_) | (with_reducible refine Up.grow ?_ _) | (with_reducible refine Up.setCell ?_ (by (try simp); (try omega)) _)))) (by simpa only [World.size_alloc] using Blk.new _ _ _) (by have h1 := hs.inw; omega)).mono ?_); rintro e w' ⟨z, rfl, hz, hg1, hs⟩; have hg := (hg.up (by repeat' (first | (with_reducible exact Up.refl _) | (with_reducible assumption) | (with_reducible refine Up.alloc ?_ _) | (with_reducible refine Up.drew ?_) | (with_reducible refine Up.grow ?_ _) | (with_reducible refine Up.setCell ?_ (by (try simp); (try omega)) _)))).trans hg1))
         go_ret
         exact ⟨_, rfl, by simp at hz; omega, hg, hs⟩)
      | (go_upto_region 3 with (fail)
         go_wp2_with (first | (go_at_call 185; (with_reducible refine (s_Pick [1000, 500000, 20000000] 3 rfl (by omega) (by omega) #[.int .i64 (1000), .int .i64 (500000), .int .i64 (20000000)] rfl _ _ (hs.up (by repeat' (first | (with_reducible exact Up.refl _) | (with_reducible assumption) | (with_reducible refine Up.alloc ?_ _) | (with_reducible refine Up.drew ?_) | (with_reducible refine Up.grow ?_ _) | (with_reducible refine Up.setCell ?_ (by (try simp); (try omega)) _)))) (by simpa only [World.size_alloc] using Blk.new _ _ _) (by have h1 := hs.inw; omega)).mono ?_); rintro e w' ⟨z, rfl, hz, hg1, hs⟩; have hg := (hg.up (by repeat' (first | (with_reducible exact Up.refl _) | (with_reducible assumption) | (with_reducible refine Up.alloc ?_ _) | (with_reducible refine Up.drew ?_) | (with_reducible refine Up.grow ?_ _) | (with_reducible refine Up.setCell ?_ (by (try simp); (try omega)) _)))).trans hg1) | (go_at_call 183; (with_reducible refine (s_Next _ _ (hs.up (by repeat' (first | (with_reducible exact Up.refl _) | (with_reducible assumption) | (with_reducible refine Up.alloc ?_ _) | (with_reducible refine Up.drew ?_) | (with_reducible refine Up.grow ?_ _) | (with_reducible refine Up.setCell ?_ (by (try simp); (try omega)) _))))).mono ?_); rintro e w2 ⟨y, rfl, hy, hg1, hs⟩; have hg := (hg.up (by repeat' (first | (with_reducible exact Up.refl _) | (with_reducible assumption) | (with_reducible refine Up.alloc ?_ _) | (with_reducible refine Up.drew ?_) | (with_reducible refine Up.grow ?_ _) | (with_reducible refine Up.setCell ?_ (by (try simp); (try omega)) _)))).trans hg1; have y2 : 0 ≤ y ∧ y < 20000000 := (by have y0 := hy.1; simp at hz; have y1 := hy.2.1 (by omega); omega); have y3 : IntKind.i64.wrap (1 + y) = 1 + y := IntWalk.i64_in _ (by omega)))
         go_ret
         exact ⟨_, rfl, by omega, hg, hs⟩)
end Go.Proofs.Ytdeoampkbbbleaa
namespace Go.Proofs.Ytdeoampkbbbleaa
open Go.RowKit Pu
set_option linter.unusedVariables false
set_option linter.unusedSimpArgs false

theorem TabOwn.base {w0 w w1 : World} {T v} (h : TabOwn w w1 T v) (hs : w0.heap.size ≤ w.heap.size) : TabOwn w0 w1 T v := by
  obtain ⟨h0, A, c, h1, h2⟩ := h
  exact ⟨h0, A, c, h1, h2.base hs⟩
theorem TabOwn.set_old {w w1 : World} {T v} (h : TabOwn w w1 T v) {a : Addr} (ha : a.block < w.heap.size) (u : Value) : TabOwn w (w1.setCell a u) T v := by
  obtain ⟨h0, A, c, h1, h2⟩ := h
  exact ⟨h0, A, c, h1, h2.set_old ha u⟩
/-- The source at b, a table of the draw's own in the box bT, the result at bR. -/
structure DT (W w0 w1 wr : World) (b bR bT : Nat) (T : Tab) (A : Option Addr) (c : Nat) : Prop where
  src : Src W wr b
  gb : Gb b w0 wr
  l0 : w0.heap.size ≤ bR
  own : TabOwn w1 wr T (.agg #[.int .i64 T.first, .slice A T.n c])
  box : Blk wr bT 31 #[.int .i64 T.first, .slice A T.n c]
  res : Blk wr bR 31 #[.int .i64 0, .slice none 0 0]
  lb : b < w1.heap.size
  lR : W.heap.size ≤ bR
  lR1 : bR < w1.heap.size
  l1 : w1.heap.size ≤ bT
  nT : bT ≠ b
  nR : bR ≠ b
theorem DT.on {W w0 w1 wr w2 : World} {b bR bT : Nat} {T : Tab} {A c} (h : DT W w0 w1 wr b bR bT T A c) (k : Gb b wr w2) (s : Src W w2 b) : DT W w0 w1 w2 b bR bT T A c :=
  { h with src := s, gb := h.gb.trans k, own := h.own.gb h.lb k, box := h.box.gb h.nT k, res := h.res.gb h.nR k }
theorem DT.up {W w0 w1 wr w2 : World} {b bR bT : Nat} {T : Tab} {A c} (h : DT W w0 w1 wr b bR bT T A c) (u : Up wr w2) : DT W w0 w1 w2 b bR bT T A c :=
  h.on (Gb.of u) (h.src.up u)
theorem DT.neq {W w0 w1 wr : World} {b bR bT : Nat} {T : Tab} {A c} (h : DT W w0 w1 wr b bR bT T A c) : ¬ bR = bT ∧ ¬ bT = bR := by
  have := h.lR1; have := h.l1; omega
theorem DT.age {W w0 w1 wr : World} {b bR bT : Nat} {T : Tab} {A c} (h : DT W w0 w1 wr b bR bT T A c) (hf : -1 ≤ T.first ∧ T.first ≤ 101) (hn : 2 ≤ T.n ∧ T.n ≤ 27) :
    Calls Try.prog 184 #[.pointer (some ⟨b, 0, none⟩), .agg #[.int .i64 T.first, .slice A T.n c]] wr (RetDraw W wr b (fun _ => True)) :=
  s_DrawAge T hf hn _ _ h.src h.own.tab (fun w' g => (h.own.gb h.lb g).tab)
theorem gb_set2 {w0 wr : World} {b bR : Nat} (g : Gb b w0 wr) (hl : w0.heap.size ≤ bR) (u0 u1 : Value) : Gb b w0 ((wr.setCell ⟨bR, 0, none⟩ u0).setCell ⟨bR, 1, none⟩ u1) :=
  (g.set (p := ⟨bR, 0, none⟩) (Or.inr hl) _).set (p := ⟨bR, 1, none⟩) (Or.inr hl) _
/-- The table is copied into the result. -/
theorem DT.fin {W w0 w1 wr : World} {b bR bT : Nat} {T : Tab} {A c} (h : DT W w0 w1 wr b bR bT T A c) (hw : w0.heap.size ≤ w1.heap.size) (u0 u1 : Value) :
    Gb b w0 ((wr.setCell ⟨bR, 0, none⟩ u0).setCell ⟨bR, 1, none⟩ u1) ∧ Src W ((wr.setCell ⟨bR, 0, none⟩ u0).setCell ⟨bR, 1, none⟩ u1) b ∧ TabOwn w0 ((wr.setCell ⟨bR, 0, none⟩ u0).setCell ⟨bR, 1, none⟩ u1) T (.agg #[.int .i64 T.first, .slice A T.n c]) := by
  have l1 := h.lR; have l2 := h.lR1
  exact ⟨gb_set2 h.gb h.l0 _ _, (h.src.set (p := ⟨bR, 0, none⟩) l1 h.nR _).set (p := ⟨bR, 1, none⟩) l1 h.nR _, ((h.own.set_old (a := ⟨bR, 0, none⟩) l2 _).set_old (a := ⟨bR, 1, none⟩) l2 _).base hw⟩
/-- A table and a rate are drawn. -/
def RetD5 (W w : World) (b : Nat) (e : Ending) (w' : World) : Prop := ∃ T A c r, e = .returned (.tuple #[.agg #[.int .i64 T.first, .slice A T.n c], .int .i64 r]) ∧ Gb b w w' ∧ Src W w' b ∧ TabOwn w w' T (.agg #[.int .i64 T.first, .slice A T.n c]) ∧ (-1 ≤ T.first ∧ T.first ≤ 101) ∧ (2 ≤ T.n ∧ T.n ≤ 27) ∧ -1 ≤ r ∧ r ≤ 201
theorem RetD3.form {W w : World} {b : Nat} {e : Ending} {w' : World} (h : RetD3 W w b e w') : ∃ T A c, e = .returned (.agg #[.int .i64 T.first, .slice A T.n c]) ∧ Gb b w w' ∧ Src W w' b ∧ TabOwn w w' T (.agg #[.int .i64 T.first, .slice A T.n c]) ∧ (-1 ≤ T.first ∧ T.first ≤ 101) ∧ (2 ≤ T.n ∧ T.n ≤ 27) := by
  obtain ⟨v, T, rfl, h1, h2, h3, h4, h5⟩ := h
  obtain ⟨h0, A, c, rfl, h6⟩ := id h3
  exact ⟨T, A, c, rfl, h1, h2, h3, h4, h5⟩
set_option maxRecDepth 100000 in
set_option maxHeartbeats 2000000 in
theorem s_Draw5 {W : World} {b : Nat} (w : World) (h : Src W w b) : Calls Try.prog 195 #[.pointer (some ⟨b, 0, none⟩)] w (RetD5 W w b) := by
  have hbw := h.inw
  have hWw := h.ups.size
  have hR := Blk.new w 31 #[.int .i64 0, .slice none 0 0]
  have hs := h.up (Up.alloc (Up.refl w) (.cells #[.int .i64 0, .slice none 0 0] 31))
  have hg := (Gb.refl b w).alloc (.cells #[.int .i64 0, .slice none 0 0] 31)
  have hz := World.size_alloc w (.cells #[.int .i64 0, .slice none 0 0] 31)
  have hne : w.heap.size ≠ b := by omega
  go_enter Try.func195, Try.ntmps195
  go_upto_region 1 with (fail)
  generalize w.alloc (.cells #[.int .i64 0, .slice none 0 0] 31) = w1 at *
  go_wp2_with (first
    | (go_at_call 182; (with_reducible refine (s_Draw3 _ hs).mono ?_); rintro e w2 h2; obtain ⟨T, A, c, rfl, hg2, hs2, hO, hf, hn⟩ := h2.form; have hR := hR.gb hne hg2; have hg := hg.trans hg2)
    | (go_at_call 164; (with_reducible refine (s_DrawRate _ hs2).mono ?_); rintro e w3 ⟨r, rfl, hr, hg3, hs3⟩; have hR := hR.gb hne hg3; have hg := hg.trans hg3; have hO := hO.gb (by omega) hg3; have p0 := hR.cell 0; have p1 := hR.cell 1; have pf := hR.frozen; have pi_ := hR.inw))
  have hl1 : w.heap.size < w1.heap.size := by omega
  refine bodyPost_ret (v := .tuple #[.agg #[.int .i64 T.first, .slice A T.n c], .int .i64 r]) (by simp [results, Try.results195, go_sem, p0, p1, pf, pi_]) rfl ?_
  refine ⟨T, A, c, r, rfl, gb_set2 hg (Nat.le_refl _) _ _, (hs3.set (p := ⟨w.heap.size, 0, none⟩) hWw hne _).set (p := ⟨w.heap.size, 1, none⟩) hWw hne _, ((hO.set_old (a := ⟨w.heap.size, 0, none⟩) hl1 _).set_old (a := ⟨w.heap.size, 1, none⟩) hl1 _).base (by omega), hf, hn, hr⟩
end Go.Proofs.Ytdeoampkbbbleaa
namespace Go.Proofs.Ytdeoampkbbbleaa
open Go.RowKit Pu
set_option linter.unusedVariables false
set_option linter.unusedSimpArgs false

/-- The source at b, two tables of the draw's own in the boxes bT, bU, the results at bR, bQ. -/
structure D2 (W w0 w1 wr : World) (b bR bQ bT bU : Nat) (T : Tab) (A : Option Addr) (c : Nat) (U : Tab) (A2 : Option Addr) (c2 : Nat) : Prop where
  src : Src W wr b
  gb : Gb b w0 wr
  own : TabOwn w1 wr T (.agg #[.int .i64 T.first, .slice A T.n c])
  own2 : TabOwn w1 wr U (.agg #[.int .i64 U.first, .slice A2 U.n c2])
  box : Blk wr bT 31 #[.int .i64 T.first, .slice A T.n c]
  box2 : Blk wr bU 31 #[.int .i64 U.first, .slice A2 U.n c2]
  res : Blk wr bR 31 #[.int .i64 0, .slice none 0 0]
  res2 : Blk wr bQ 31 #[.int .i64 0, .slice none 0 0]
  l0 : w0.heap.size ≤ bR
  l02 : w0.heap.size ≤ bQ
  lb : b < w1.heap.size
  lR : W.heap.size ≤ bR
  lQ : W.heap.size ≤ bQ
  lR1 : bR < w1.heap.size
  lQ1 : bQ < w1.heap.size
  lT : w1.heap.size ≤ bT
  lU : w1.heap.size ≤ bU
  nRQ : bR ≠ bQ
  nTU : bT ≠ bU
  nR : bR ≠ b
  nQ : bQ ≠ b
section
variable {W w0 w1 wr : World} {b bR bQ bT bU : Nat} {T U : Tab} {A A2 : Option Addr} {c c2 : Nat}
theorem D2.on {w2 : World} (h : D2 W w0 w1 wr b bR bQ bT bU T A c U A2 c2) (k : Gb b wr w2) (s : Src W w2 b) : D2 W w0 w1 w2 b bR bQ bT bU T A c U A2 c2 := by
  have e1 := h.lb; have e2 := h.lT; have e3 := h.lU
  exact { h with src := s, gb := h.gb.trans k, own := h.own.gb h.lb k, own2 := h.own2.gb h.lb k, box := h.box.gb (by omega) k, box2 := h.box2.gb (by omega) k, res := h.res.gb h.nR k, res2 := h.res2.gb h.nQ k }
theorem D2.up {w2 : World} (h : D2 W w0 w1 wr b bR bQ bT bU T A c U A2 c2) (u : Up wr w2) : D2 W w0 w1 w2 b bR bQ bT bU T A c U A2 c2 := h.on (Gb.of u) (h.src.up u)
theorem D2.age1 (h : D2 W w0 w1 wr b bR bQ bT bU T A c U A2 c2) (hf : -1 ≤ T.first ∧ T.first ≤ 101) (hn : 2 ≤ T.n ∧ T.n ≤ 27) :
    Calls Try.prog 184 #[.pointer (some ⟨b, 0, none⟩), .agg #[.int .i64 T.first, .slice A T.n c]] wr (RetDraw W wr b (fun _ => True)) :=
  s_DrawAge T hf hn _ _ h.src h.own.tab (fun w' g => (h.own.gb h.lb g).tab)
theorem D2.age2 (h : D2 W w0 w1 wr b bR bQ bT bU T A c U A2 c2) (hf : -1 ≤ U.first ∧ U.first ≤ 101) (hn : 2 ≤ U.n ∧ U.n ≤ 27) :
    Calls Try.prog 184 #[.pointer (some ⟨b, 0, none⟩), .agg #[.int .i64 U.first, .slice A2 U.n c2]] wr (RetDraw W wr b (fun _ => True)) :=
  s_DrawAge U hf hn _ _ h.src h.own2.tab (fun w' g => (h.own2.gb h.lb g).tab)
/-- The tables are copied into the results. -/
theorem D2.fin (h : D2 W w0 w1 wr b bR bQ bT bU T A c U A2 c2) (hw : w0.heap.size ≤ w1.heap.size) (u0 u1 u2 u3 : Value) :
    Gb b w0 ((((wr.setCell ⟨bR, 0, none⟩ u0).setCell ⟨bR, 1, none⟩ u1).setCell ⟨bQ, 0, none⟩ u2).setCell ⟨bQ, 1, none⟩ u3) ∧ Src W ((((wr.setCell ⟨bR, 0, none⟩ u0).setCell ⟨bR, 1, none⟩ u1).setCell ⟨bQ, 0, none⟩ u2).setCell ⟨bQ, 1, none⟩ u3) b ∧
    TabOwn w0 ((((wr.setCell ⟨bR, 0, none⟩ u0).setCell ⟨bR, 1, none⟩ u1).setCell ⟨bQ, 0, none⟩ u2).setCell ⟨bQ, 1, none⟩ u3) T (.agg #[.int .i64 T.first, .slice A T.n c]) ∧
    TabOwn w0 ((((wr.setCell ⟨bR, 0, none⟩ u0).setCell ⟨bR, 1, none⟩ u1).setCell ⟨bQ, 0, none⟩ u2).setCell ⟨bQ, 1, none⟩ u3) U (.agg #[.int .i64 U.first, .slice A2 U.n c2]) := by
  have l1 := h.lR; have l2 := h.lR1; have l3 := h.lQ; have l4 := h.lQ1
  refine ⟨gb_set2 (gb_set2 h.gb h.l0 _ _) h.l02 _ _, (((h.src.set (p := ⟨bR, 0, none⟩) l1 h.nR _).set (p := ⟨bR, 1, none⟩) l1 h.nR _).set (p := ⟨bQ, 0, none⟩) l3 h.nQ _).set (p := ⟨bQ, 1, none⟩) l3 h.nQ _, ?_, ?_⟩
  · exact ((((h.own.set_old (a := ⟨bR, 0, none⟩) l2 _).set_old (a := ⟨bR, 1, none⟩) l2 _).set_old (a := ⟨bQ, 0, none⟩) l4 _).set_old (a := ⟨bQ, 1, none⟩) l4 _).base hw
  · exact ((((h.own2.set_old (a := ⟨bR, 0, none⟩) l2 _).set_old (a := ⟨bR, 1, none⟩) l2 _).set_old (a := ⟨bQ, 0, none⟩) l4 _).set_old (a := ⟨bQ, 1, none⟩) l4 _).base hw
theorem D2.neq (h : D2 W w0 w1 wr b bR bQ bT bU T A c U A2 c2) : (¬ bR = bT ∧ ¬ bT = bR) ∧ (¬ bR = bU ∧ ¬ bU = bR) ∧ (¬ bQ = bT ∧ ¬ bT = bQ) ∧ (¬ bQ = bU ∧ ¬ bU = bQ) ∧ (¬ bR = bQ ∧ ¬ bQ = bR) ∧ (¬ bT = bU ∧ ¬ bU = bT) := by
  have := h.lR1; have := h.lQ1; have := h.lT; have := h.lU; have := h.nRQ; have := h.nTU; omega
end
/-- Two tables and two ages are drawn. -/
def RetD8 (W w : World) (b : Nat) (e : Ending) (w' : World) : Prop := ∃ T A c U A2 c2, ∃ x y : Int, e = .returned (.tuple #[.agg #[.int .i64 T.first, .slice A T.n c], .int .i64 x, .agg #[.int .i64 U.first, .slice A2 U.n c2], .int .i64 y]) ∧ Gb b w w' ∧ Src W w' b ∧ TabOwn w w' T (.agg #[.int .i64 T.first, .slice A T.n c]) ∧ TabOwn w w' U (.agg #[.int .i64 U.first, .slice A2 U.n c2])
set_option maxRecDepth 100000 in
set_option maxHeartbeats 8000000 in
theorem s_Draw8 {W : World} {b : Nat} (w : World) (h : Src W w b) : Calls Try.prog 188 #[.pointer (some ⟨b, 0, none⟩)] w (RetD8 W w b) := by
  have hbw := h.inw
  have hWw := h.ups.size
  have hu0 : Up w ((w.alloc (.cells #[.int .i64 0, .slice none 0 0] 31)).alloc (.cells #[.int .i64 0, .slice none 0 0] 31)) := (by repeat' (first | (with_reducible exact Up.refl _) | (with_reducible assumption) | (with_reducible refine Up.alloc ?_ _) | (with_reducible refine Up.drew ?_) | (with_reducible refine Up.grow ?_ _) | (with_reducible refine Up.setCell ?_ (by (try simp); (try omega)) _)))
  have hR : Blk ((w.alloc (.cells #[.int .i64 0, .slice none 0 0] 31)).alloc (.cells #[.int .i64 0, .slice none 0 0] 31)) w.heap.size 31 #[.int .i64 0, .slice none 0 0] := (Blk.new _ _ _).alloc _
  have hQ : Blk ((w.alloc (.cells #[.int .i64 0, .slice none 0 0] 31)).alloc (.cells #[.int .i64 0, .slice none 0 0] 31)) (w.heap.size + 1) 31 #[.int .i64 0, .slice none 0 0] := by
    have h := Blk.new (w.alloc (.cells #[.int .i64 0, .slice none 0 0] 31)) 31 #[.int .i64 0, .slice none 0 0]
    simpa only [World.size_alloc] using h
  have hz : ((w.alloc (.cells #[.int .i64 0, .slice none 0 0] 31)).alloc (.cells #[.int .i64 0, .slice none 0 0] 31)).heap.size = w.heap.size + 1 + 1 := by simp only [World.size_alloc]
  go_enter Try.func188, Try.ntmps188
  go_upto_region 1 with (fail)
  generalize (w.alloc (.cells #[.int .i64 0, .slice none 0 0] 31)).alloc (.cells #[.int .i64 0, .slice none 0 0] 31) = w1 at *
  have hs := h.up hu0
  have hg := (Gb.refl b w).up hu0
  obtain ⟨bQ, hbQ⟩ : ∃ q, w.heap.size + 1 = q := ⟨_, rfl⟩
  rw [hbQ] at hQ ⊢
  have hne : w.heap.size ≠ b := by omega
  have hne2 : bQ ≠ b := by omega
  clear hu0
  go_upto_region 2 with (first
    | (go_at_call 182; (with_reducible refine (s_Draw3 w1 hs).mono ?_); rintro e w2 h2; obtain ⟨T, A, c, rfl, hg2, hs2, hO, hf, hn⟩ := h2.form)
    | (go_at_call 182; (with_reducible refine (s_Draw3 _ hs2).mono ?_); rintro e w3 h3; obtain ⟨U, A2, c2, rfl, hg3, hs3, hO2, hf2, hn2⟩ := h3.form))
  have hz3 := hg3.size
  have hz2 := hg2.size
  have u4 : Up w3 ((w3.alloc (.cells #[.int .i64 T.first, .slice A T.n c] 31)).alloc (.cells #[.int .i64 U.first, .slice A2 U.n c2] 31)) := (by repeat' (first | (with_reducible exact Up.refl _) | (with_reducible assumption) | (with_reducible refine Up.alloc ?_ _) | (with_reducible refine Up.drew ?_) | (with_reducible refine Up.grow ?_ _) | (with_reducible refine Up.setCell ?_ (by (try simp); (try omega)) _)))
  have hbox2 : Blk ((w3.alloc (.cells #[.int .i64 T.first, .slice A T.n c] 31)).alloc (.cells #[.int .i64 U.first, .slice A2 U.n c2] 31)) (w3.heap.size + 1) 31 #[.int .i64 U.first, .slice A2 U.n c2] := by
    have h := Blk.new (w3.alloc (.cells #[.int .i64 T.first, .slice A T.n c] 31)) 31 #[.int .i64 U.first, .slice A2 U.n c2]
    simpa only [World.size_alloc] using h
  have hE : D2 W w w1 ((w3.alloc (.cells #[.int .i64 T.first, .slice A T.n c] 31)).alloc (.cells #[.int .i64 U.first, .slice A2 U.n c2] 31)) b w.heap.size bQ w3.heap.size (w3.heap.size + 1) T A c U A2 c2 :=
    { src := hs3.up u4, gb := ((hg.trans hg2).trans hg3).up u4, own := (hO.gb (by omega) hg3).up u4, own2 := (hO2.base hz2).up u4, box := (Blk.new w3 _ _).alloc _, box2 := hbox2, res := ((hR.gb hne hg2).gb hne hg3).up u4, res2 := ((hQ.gb hne2 hg2).gb hne2 hg3).up u4, l0 := by omega, l02 := by omega, lb := by omega, lR := by omega, lQ := by omega, lR1 := by omega, lQ1 := by omega, lT := by omega, lU := by omega, nRQ := by omega, nTU := by omega, nR := hne, nQ := hne2 }
  obtain ⟨⟨m1, m2⟩, ⟨m3, m4⟩, ⟨m5, m6⟩, ⟨m7, m8⟩, ⟨m9, m10⟩, m11, m12⟩ := hE.neq
  clear hs hg hs2 hs3 hO hO2 hR hQ u4 hbox2 hg2 hg3 hz2 hz3
  generalize (w3.alloc (.cells #[.int .i64 T.first, .slice A T.n c] 31)).alloc (.cells #[.int .i64 U.first, .slice A2 U.n c2] 31) = w4 at *
  generalize w3.heap.size + 1 = bU at *
  generalize w3.heap.size = bT at *
  (have q0 := hE.box.cell 0); (have q1 := hE.box.cell 1); (have qi := hE.box.inw); (have q2 := hE.box2.cell 0); (have q3 := hE.box2.cell 1); (have qj := hE.box2.inw); (have p0 := hE.res.cell 0); (have p1 := hE.res.cell 1); (have pf := hE.res.frozen); (have pi_ := hE.res.inw); (have p2 := hE.res2.cell 0); (have p3 := hE.res2.cell 1); (have pg := hE.res2.frozen); (have pj := hE.res2.inw)
  have hww : w.heap.size ≤ w1.heap.size := by omega
  clear hbw hWw hz hbQ hne hne2 h
  go_region_held3 (fun w' => w'.cell? ⟨bT, 0, none⟩ = some (.int .i64 T.first) ∧ w'.cell? ⟨bT, 1, none⟩ = some (.slice A T.n c) ∧ w'.cell? ⟨bU, 0, none⟩ = some (.int .i64 U.first) ∧ w'.cell? ⟨bU, 1, none⟩ = some (.slice A2 U.n c2)) ((repeat' apply And.intro) <;> go_simp)
    (first | (go_at_call 184; (with_reducible refine ((hE.up (by repeat' (first | (with_reducible exact Up.refl _) | (with_reducible assumption) | (with_reducible refine Up.alloc ?_ _) | (with_reducible refine Up.drew ?_) | (with_reducible refine Up.grow ?_ _) | (with_reducible refine Up.setCell ?_ (by (try simp); (try omega)) _)))).age1 hf hn).mono ?_); rintro e wA ⟨age, rfl, hage, hg1, hs1⟩; (have hE := hE.on ((Gb.of (by repeat' (first | (with_reducible exact Up.refl _) | (with_reducible assumption) | (with_reducible refine Up.alloc ?_ _) | (with_reducible refine Up.drew ?_) | (with_reducible refine Up.grow ?_ _) | (with_reducible refine Up.setCell ?_ (by (try simp); (try omega)) _)))).trans hg1) hs1); ((have q0 := hE.box.cell 0); (have q1 := hE.box.cell 1); (have qi := hE.box.inw); (have q2 := hE.box2.cell 0); (have q3 := hE.box2.cell 1); (have qj := hE.box2.inw); (have p0 := hE.res.cell 0); (have p1 := hE.res.cell 1); (have pf := hE.res.frozen); (have pi_ := hE.res.inw); (have p2 := hE.res2.cell 0); (have p3 := hE.res2.cell 1); (have pg := hE.res2.frozen); (have pj := hE.res2.inw))) | (go_at_call 184; (with_reducible refine ((hE.up (by repeat' (first | (with_reducible exact Up.refl _) | (with_reducible assumption) | (with_reducible refine Up.alloc ?_ _) | (with_reducible refine Up.drew ?_) | (with_reducible refine Up.grow ?_ _) | (with_reducible refine Up.setCell ?_ (by (try simp); (try omega)) _)))).age2 hf2 hn2).mono ?_); rintro e wB ⟨age2, rfl, hage2, hg1, hs1⟩; (have hE := hE.on ((Gb.of (by repeat' (first | (with_reducible exact Up.refl _) | (with_reducible assumption) | (with_reducible refine Up.alloc ?_ _) | (with_reducible refine Up.drew ?_) | (with_reducible refine Up.grow ?_ _) | (with_reducible refine Up.setCell ?_ (by (try simp); (try omega)) _)))).trans hg1) hs1); ((have q0 := hE.box.cell 0); (have q1 := hE.box.cell 1); (have qi := hE.box.inw); (have q2 := hE.box2.cell 0); (have q3 := hE.box2.cell 1); (have qj := hE.box2.inw); (have p0 := hE.res.cell 0); (have p1 := hE.res.cell 1); (have pf := hE.res.frozen); (have pi_ := hE.res.inw); (have p2 := hE.res2.cell 0); (have p3 := hE.res2.cell 1); (have pg := hE.res2.frozen); (have pj := hE.res2.inw))))
  go_wp2_with (first | (go_at_call 183; (with_reducible refine (s_Next 3 _ (hE.src.up (by repeat' (first | (with_reducible exact Up.refl _) | (with_reducible assumption) | (with_reducible refine Up.alloc ?_ _) | (with_reducible refine Up.drew ?_) | (with_reducible refine Up.grow ?_ _) | (with_reducible refine Up.setCell ?_ (by (try simp); (try omega)) _))))).mono ?_); rintro e w' ⟨z3, rfl, hz, hg1, hs1⟩; (have hE := hE.on ((Gb.of (by repeat' (first | (with_reducible exact Up.refl _) | (with_reducible assumption) | (with_reducible refine Up.alloc ?_ _) | (with_reducible refine Up.drew ?_) | (with_reducible refine Up.grow ?_ _) | (with_reducible refine Up.setCell ?_ (by (try simp); (try omega)) _)))).trans hg1) hs1); ((have q0 := hE.box.cell 0); (have q1 := hE.box.cell 1); (have qi := hE.box.inw); (have q2 := hE.box2.cell 0); (have q3 := hE.box2.cell 1); (have qj := hE.box2.inw); (have p0 := hE.res.cell 0); (have p1 := hE.res.cell 1); (have pf := hE.res.frozen); (have pi_ := hE.res.inw); (have p2 := hE.res2.cell 0); (have p3 := hE.res2.cell 1); (have pg := hE.res2.frozen); (have pj := hE.res2.inw))))
  · skip
    go_region_held3 (fun w' => w'.cell? ⟨bT, 0, none⟩ = some (.int .i64 T.first) ∧ w'.cell? ⟨bT, 1, none⟩ = some (.slice A T.n c) ∧ w'.cell? ⟨bU, 0, none⟩ = some (.int .i64 U.first) ∧ w'.cell? ⟨bU, 1, none⟩ = some (.slice A2 U.n c2)) ((repeat' apply And.intro) <;> go_simp)
      (first | (go_at_call 183; (with_reducible refine (s_Next _ _ (hE.src.up (by repeat' (first | (with_reducible exact Up.refl _) | (with_reducible assumption) | (with_reducible refine Up.alloc ?_ _) | (with_reducible refine Up.drew ?_) | (with_reducible refine Up.grow ?_ _) | (with_reducible refine Up.setCell ?_ (by (try simp); (try omega)) _))))).mono ?_); rintro e w' ⟨za, rfl, hz, hg1, hs1⟩; (have hE := hE.on ((Gb.of (by repeat' (first | (with_reducible exact Up.refl _) | (with_reducible assumption) | (with_reducible refine Up.alloc ?_ _) | (with_reducible refine Up.drew ?_) | (with_reducible refine Up.grow ?_ _) | (with_reducible refine Up.setCell ?_ (by (try simp); (try omega)) _)))).trans hg1) hs1); ((have q0 := hE.box.cell 0); (have q1 := hE.box.cell 1); (have qi := hE.box.inw); (have q2 := hE.box2.cell 0); (have q3 := hE.box2.cell 1); (have qj := hE.box2.inw); (have p0 := hE.res.cell 0); (have p1 := hE.res.cell 1); (have pf := hE.res.frozen); (have pi_ := hE.res.inw); (have p2 := hE.res2.cell 0); (have p3 := hE.res2.cell 1); (have pg := hE.res2.frozen); (have pj := hE.res2.inw))))
    go_wp2
    go_region_held3 (fun w' => w'.cell? ⟨bT, 0, none⟩ = some (.int .i64 T.first) ∧ w'.cell? ⟨bT, 1, none⟩ = some (.slice A T.n c) ∧ w'.cell? ⟨bU, 0, none⟩ = some (.int .i64 U.first) ∧ w'.cell? ⟨bU, 1, none⟩ = some (.slice A2 U.n c2)) ((repeat' apply And.intro) <;> go_simp)
      (first | (go_at_call 183; (with_reducible refine (s_Next _ _ (hE.src.up (by repeat' (first | (with_reducible exact Up.refl _) | (with_reducible assumption) | (with_reducible refine Up.alloc ?_ _) | (with_reducible refine Up.drew ?_) | (with_reducible refine Up.grow ?_ _) | (with_reducible refine Up.setCell ?_ (by (try simp); (try omega)) _))))).mono ?_); rintro e w' ⟨zb, rfl, hz, hg1, hs1⟩; (have hE := hE.on ((Gb.of (by repeat' (first | (with_reducible exact Up.refl _) | (with_reducible assumption) | (with_reducible refine Up.alloc ?_ _) | (with_reducible refine Up.drew ?_) | (with_reducible refine Up.grow ?_ _) | (with_reducible refine Up.setCell ?_ (by (try simp); (try omega)) _)))).trans hg1) hs1); ((have q0 := hE.box.cell 0); (have q1 := hE.box.cell 1); (have qi := hE.box.inw); (have q2 := hE.box2.cell 0); (have q3 := hE.box2.cell 1); (have qj := hE.box2.inw); (have p0 := hE.res.cell 0); (have p1 := hE.res.cell 1); (have pf := hE.res.frozen); (have pi_ := hE.res.inw); (have p2 := hE.res2.cell 0); (have p3 := hE.res2.cell 1); (have pg := hE.res2.frozen); (have pj := hE.res2.inw))))
    go_wp2
    go_region_held3 (fun w' => w'.cell? ⟨bT, 0, none⟩ = some (.int .i64 T.first) ∧ w'.cell? ⟨bT, 1, none⟩ = some (.slice A T.n c) ∧ w'.cell? ⟨bU, 0, none⟩ = some (.int .i64 U.first) ∧ w'.cell? ⟨bU, 1, none⟩ = some (.slice A2 U.n c2)) ((repeat' apply And.intro) <;> go_simp)
      (fail)
    go_wp2
    refine bodyPost_ret (v := .tuple #[.agg #[.int .i64 T.first, .slice A T.n c], .int .i64 _, .agg #[.int .i64 U.first, .slice A2 U.n c2], .int .i64 _]) (by simp [results, Try.results188, go_sem, p0, p1, pf, pi_, p2, p3, pg, pj, m1, m2, m3, m4, m5, m6, m7, m8, m9, m10, m11, m12] <;> exact ⟨rfl, rfl⟩) rfl ?_
    obtain ⟨e1, e2, e3, e4⟩ := hE.fin hww (.int .i64 T.first) (.slice A T.n c) (.int .i64 U.first) (.slice A2 U.n c2)
    exact ⟨T, A, c, U, A2, c2, _, _, rfl, e1.drew, e2.up (Up.drew (Up.refl _)), e3.up (Up.drew (Up.refl _)), e4.up (Up.drew (Up.refl _))⟩
  · skip
    go_region_held3 (fun w' => w'.cell? ⟨bT, 0, none⟩ = some (.int .i64 T.first) ∧ w'.cell? ⟨bT, 1, none⟩ = some (.slice A T.n c) ∧ w'.cell? ⟨bU, 0, none⟩ = some (.int .i64 U.first) ∧ w'.cell? ⟨bU, 1, none⟩ = some (.slice A2 U.n c2)) ((repeat' apply And.intro) <;> go_simp)
      (fail)
    go_wp2
    refine bodyPost_ret (v := .tuple #[.agg #[.int .i64 T.first, .slice A T.n c], .int .i64 _, .agg #[.int .i64 U.first, .slice A2 U.n c2], .int .i64 _]) (by simp [results, Try.results188, go_sem, p0, p1, pf, pi_, p2, p3, pg, pj, m1, m2, m3, m4, m5, m6, m7, m8, m9, m10, m11, m12] <;> exact ⟨rfl, rfl⟩) rfl ?_
    obtain ⟨e1, e2, e3, e4⟩ := hE.fin hww (.int .i64 T.first) (.slice A T.n c) (.int .i64 U.first) (.slice A2 U.n c2)
    exact ⟨T, A, c, U, A2, c2, _, _, rfl, e1.drew, e2.up (Up.drew (Up.refl _)), e3.up (Up.drew (Up.refl _)), e4.up (Up.drew (Up.refl _))⟩
set_option maxRecDepth 100000 in
set_option maxHeartbeats 8000000 in
theorem s_DrawJointAnnuity (A0 : Option Addr) (L c0 : Nat) (hL : L ≤ 4096) (w : World) (hI : InCode w A0 L c0) :
    Calls Try.prog 238 #[.slice A0 L c0] w (fun e w' => ∃ T A c U A2 c2, ∃ x y r m : Int, e = .returned (.tuple #[.agg #[.int .i64 T.first, .slice A T.n c], .int .i64 x, .agg #[.int .i64 U.first, .slice A2 U.n c2], .int .i64 y, .int .i64 r, .int .i64 m]) ∧ Up w w' ∧ TabOwn w w' T (.agg #[.int .i64 T.first, .slice A T.n c]) ∧ TabOwn w w' U (.agg #[.int .i64 U.first, .slice A2 U.n c2])) := by
  have HI := Lib.hid hI
  have hu0 : Up w ((w.alloc (.cells #[.int .i64 0, .slice none 0 0] 31)).alloc (.cells #[.int .i64 0, .slice none 0 0] 31)) := (by repeat' (first | (with_reducible exact Up.refl _) | (with_reducible assumption) | (with_reducible refine Up.alloc ?_ _) | (with_reducible refine Up.drew ?_) | (with_reducible refine Up.grow ?_ _) | (with_reducible refine Up.setCell ?_ (by (try simp); (try omega)) _)))
  have hR : Blk ((w.alloc (.cells #[.int .i64 0, .slice none 0 0] 31)).alloc (.cells #[.int .i64 0, .slice none 0 0] 31)) w.heap.size 31 #[.int .i64 0, .slice none 0 0] := (Blk.new _ _ _).alloc _
  have hQ : Blk ((w.alloc (.cells #[.int .i64 0, .slice none 0 0] 31)).alloc (.cells #[.int .i64 0, .slice none 0 0] 31)) (w.heap.size + 1) 31 #[.int .i64 0, .slice none 0 0] := by
    have h := Blk.new (w.alloc (.cells #[.int .i64 0, .slice none 0 0] 31)) 31 #[.int .i64 0, .slice none 0 0]
    simpa only [World.size_alloc] using h
  have hz : ((w.alloc (.cells #[.int .i64 0, .slice none 0 0] 31)).alloc (.cells #[.int .i64 0, .slice none 0 0] 31)).heap.size = w.heap.size + 1 + 1 := by simp only [World.size_alloc]
  clear hI
  go_enter Try.func238, Try.ntmps238
  go_upto_region 1 with (fail)
  generalize (w.alloc (.cells #[.int .i64 0, .slice none 0 0] 31)).alloc (.cells #[.int .i64 0, .slice none 0 0] 31) = w1 at *
  obtain ⟨bQ, hbQ⟩ : ∃ q, w.heap.size + 1 = q := ⟨_, rfl⟩
  rw [hbQ] at hQ ⊢
  go_upto_region 3 with (first
    | (go_at_call 162; refine (s_FromW A0 L c0 hL w1 (HI.out.up hu0)).mono ?_; rintro e w2 ⟨b, rfl, hu2, hRb, hs⟩)
    | (go_at_call 188; (with_reducible refine (s_Draw8 _ (hs w hu0 HI.out)).mono ?_); rintro e w3 ⟨T, A, c, U, A2, c2, x, y, rfl, hg3, hs3, hO, hO2⟩))
  have hs := hs w hu0 HI.out
  have hw12 := hu2.size
  have hb2 := hs.inw
  have hne : w.heap.size ≠ b := by omega
  have hne2 : bQ ≠ b := by omega
  have hR2 := hR.up hu2
  have hQ2 := hQ.up hu2
  have hz3 := hg3.size
  have u4 : Up w3 ((w3.alloc (.cells #[.int .i64 T.first, .slice A T.n c] 31)).alloc (.cells #[.int .i64 U.first, .slice A2 U.n c2] 31)) := (by repeat' (first | (with_reducible exact Up.refl _) | (with_reducible assumption) | (with_reducible refine Up.alloc ?_ _) | (with_reducible refine Up.drew ?_) | (with_reducible refine Up.grow ?_ _) | (with_reducible refine Up.setCell ?_ (by (try simp); (try omega)) _)))
  have hbox2 : Blk ((w3.alloc (.cells #[.int .i64 T.first, .slice A T.n c] 31)).alloc (.cells #[.int .i64 U.first, .slice A2 U.n c2] 31)) (w3.heap.size + 1) 31 #[.int .i64 U.first, .slice A2 U.n c2] := by
    have h := Blk.new (w3.alloc (.cells #[.int .i64 T.first, .slice A T.n c] 31)) 31 #[.int .i64 U.first, .slice A2 U.n c2]
    simpa only [World.size_alloc] using h
  have hE : D2 w w w2 ((w3.alloc (.cells #[.int .i64 T.first, .slice A T.n c] 31)).alloc (.cells #[.int .i64 U.first, .slice A2 U.n c2] 31)) b w.heap.size bQ w3.heap.size (w3.heap.size + 1) T A c U A2 c2 :=
    { src := hs3.up u4, gb := ((Gb.of (hu0.trans hu2)).trans hg3).up u4, own := hO.up u4, own2 := hO2.up u4, box := (Blk.new w3 _ _).alloc _, box2 := hbox2, res := (hR2.gb hne hg3).up u4, res2 := (hQ2.gb hne2 hg3).up u4, l0 := by omega, l02 := by omega, lb := hb2, lR := by omega, lQ := by omega, lR1 := by omega, lQ1 := by omega, lT := by omega, lU := by omega, nRQ := by omega, nTU := by omega, nR := hne, nQ := hne2 }
  obtain ⟨⟨m1, m2⟩, ⟨m3, m4⟩, ⟨m5, m6⟩, ⟨m7, m8⟩, ⟨m9, m10⟩, m11, m12⟩ := hE.neq
  have hww : w.heap.size ≤ w2.heap.size := by omega
  clear hs hg3 hs3 hO hO2 hR hQ hR2 hQ2 u4 hbox2 hz3 hu0 hu2 hRb hz
  generalize (w3.alloc (.cells #[.int .i64 T.first, .slice A T.n c] 31)).alloc (.cells #[.int .i64 U.first, .slice A2 U.n c2] 31) = w4 at *
  generalize w3.heap.size + 1 = bU at *
  generalize w3.heap.size = bT at *
  (have q0 := hE.box.cell 0); (have q1 := hE.box.cell 1); (have qi := hE.box.inw); (have q2 := hE.box2.cell 0); (have q3 := hE.box2.cell 1); (have qj := hE.box2.inw); (have p0 := hE.res.cell 0); (have p1 := hE.res.cell 1); (have pf := hE.res.frozen); (have pi_ := hE.res.inw); (have p2 := hE.res2.cell 0); (have p3 := hE.res2.cell 1); (have pg := hE.res2.frozen); (have pj := hE.res2.inw)
  go_region_held3 (fun w' => w'.cell? ⟨bT, 0, none⟩ = some (.int .i64 T.first) ∧ w'.cell? ⟨bT, 1, none⟩ = some (.slice A T.n c) ∧ w'.cell? ⟨bU, 0, none⟩ = some (.int .i64 U.first) ∧ w'.cell? ⟨bU, 1, none⟩ = some (.slice A2 U.n c2)) ((repeat' apply And.intro) <;> go_simp)
    (first | (go_at_call 164; (with_reducible refine (s_DrawRate _ (hE.src.up (by repeat' (first | (with_reducible exact Up.refl _) | (with_reducible assumption) | (with_reducible refine Up.alloc ?_ _) | (with_reducible refine Up.drew ?_) | (with_reducible refine Up.grow ?_ _) | (with_reducible refine Up.setCell ?_ (by (try simp); (try omega)) _))))).mono ?_); rintro e w' ⟨rt, rfl, hrt, hg1, hs1⟩; (have hE := hE.on ((Gb.of (by repeat' (first | (with_reducible exact Up.refl _) | (with_reducible assumption) | (with_reducible refine Up.alloc ?_ _) | (with_reducible refine Up.drew ?_) | (with_reducible refine Up.grow ?_ _) | (with_reducible refine Up.setCell ?_ (by (try simp); (try omega)) _)))).trans hg1) hs1); ((have q0 := hE.box.cell 0); (have q1 := hE.box.cell 1); (have qi := hE.box.inw); (have q2 := hE.box2.cell 0); (have q3 := hE.box2.cell 1); (have qj := hE.box2.inw); (have p0 := hE.res.cell 0); (have p1 := hE.res.cell 1); (have pf := hE.res.frozen); (have pi_ := hE.res.inw); (have p2 := hE.res2.cell 0); (have p3 := hE.res2.cell 1); (have pg := hE.res2.frozen); (have pj := hE.res2.inw))) | (go_at_call 224; (with_reducible refine (s_l06DrawAmount _ (hE.src.up (by repeat' (first | (with_reducible exact Up.refl _) | (with_reducible assumption) | (with_reducible refine Up.alloc ?_ _) | (with_reducible refine Up.drew ?_) | (with_reducible refine Up.grow ?_ _) | (with_reducible refine Up.setCell ?_ (by (try simp); (try omega)) _))))).mono ?_); rintro e w' ⟨amt, rfl, hamt, hg1, hs1⟩; (have hE := hE.on ((Gb.of (by repeat' (first | (with_reducible exact Up.refl _) | (with_reducible assumption) | (with_reducible refine Up.alloc ?_ _) | (with_reducible refine Up.drew ?_) | (with_reducible refine Up.grow ?_ _) | (with_reducible refine Up.setCell ?_ (by (try simp); (try omega)) _)))).trans hg1) hs1); ((have q0 := hE.box.cell 0); (have q1 := hE.box.cell 1); (have qi := hE.box.inw); (have q2 := hE.box2.cell 0); (have q3 := hE.box2.cell 1); (have qj := hE.box2.inw); (have p0 := hE.res.cell 0); (have p1 := hE.res.cell 1); (have pf := hE.res.frozen); (have pi_ := hE.res.inw); (have p2 := hE.res2.cell 0); (have p3 := hE.res2.cell 1); (have pg := hE.res2.frozen); (have pj := hE.res2.inw))))
  go_wp2
  refine bodyPost_ret (v := .tuple #[.agg #[.int .i64 T.first, .slice A T.n c], .int .i64 x, .agg #[.int .i64 U.first, .slice A2 U.n c2], .int .i64 y, .int .i64 rt, .int .i64 amt]) (by simp [results, Try.results238, go_sem, p0, p1, pf, pi_, p2, p3, pg, pj, m1, m2, m3, m4, m5, m6, m7, m8, m9, m10, m11, m12]) rfl ?_
  obtain ⟨e1, e2, e3, e4⟩ := hE.fin hww (.int .i64 T.first) (.slice A T.n c) (.int .i64 U.first) (.slice A2 U.n c2)
  first | exact ⟨T, A, c, U, A2, c2, _, _, _, _, rfl, e2.ups, e3, e4⟩ | exact ⟨T, A, c, U, A2, c2, _, _, _, _, rfl, e2.ups.drew, e3.up (Up.drew (Up.refl _)), e4.up (Up.drew (Up.refl _))⟩
set_option maxRecDepth 100000 in
set_option maxHeartbeats 8000000 in
theorem s_DrawBothAlive (A0 : Option Addr) (L c0 : Nat) (hL : L ≤ 4096) (w : World) (hI : InCode w A0 L c0) :
    Calls Try.prog 68 #[.slice A0 L c0] w (fun e w' => ∃ T A c U A2 c2, ∃ x y n : Int, e = .returned (.tuple #[.agg #[.int .i64 T.first, .slice A T.n c], .int .i64 x, .agg #[.int .i64 U.first, .slice A2 U.n c2], .int .i64 y, .int .i64 n]) ∧ Up w w' ∧ TabOwn w w' T (.agg #[.int .i64 T.first, .slice A T.n c]) ∧ TabOwn w w' U (.agg #[.int .i64 U.first, .slice A2 U.n c2])) := by
  have HI := Lib.hid hI
  have hu0 : Up w ((w.alloc (.cells #[.int .i64 0, .slice none 0 0] 31)).alloc (.cells #[.int .i64 0, .slice none 0 0] 31)) := (by repeat' (first | (with_reducible exact Up.refl _) | (with_reducible assumption) | (with_reducible refine Up.alloc ?_ _) | (with_reducible refine Up.drew ?_) | (with_reducible refine Up.grow ?_ _) | (with_reducible refine Up.setCell ?_ (by (try simp); (try omega)) _)))
  have hR : Blk ((w.alloc (.cells #[.int .i64 0, .slice none 0 0] 31)).alloc (.cells #[.int .i64 0, .slice none 0 0] 31)) w.heap.size 31 #[.int .i64 0, .slice none 0 0] := (Blk.new _ _ _).alloc _
  have hQ : Blk ((w.alloc (.cells #[.int .i64 0, .slice none 0 0] 31)).alloc (.cells #[.int .i64 0, .slice none 0 0] 31)) (w.heap.size + 1) 31 #[.int .i64 0, .slice none 0 0] := by
    have h := Blk.new (w.alloc (.cells #[.int .i64 0, .slice none 0 0] 31)) 31 #[.int .i64 0, .slice none 0 0]
    simpa only [World.size_alloc] using h
  have hz : ((w.alloc (.cells #[.int .i64 0, .slice none 0 0] 31)).alloc (.cells #[.int .i64 0, .slice none 0 0] 31)).heap.size = w.heap.size + 1 + 1 := by simp only [World.size_alloc]
  clear hI
  go_enter Try.func68, Try.ntmps68
  go_upto_region 1 with (fail)
  generalize (w.alloc (.cells #[.int .i64 0, .slice none 0 0] 31)).alloc (.cells #[.int .i64 0, .slice none 0 0] 31) = w1 at *
  obtain ⟨bQ, hbQ⟩ : ∃ q, w.heap.size + 1 = q := ⟨_, rfl⟩
  rw [hbQ] at hQ ⊢
  go_upto_region 3 with (first
    | (go_at_call 162; refine (s_FromW A0 L c0 hL w1 (HI.out.up hu0)).mono ?_; rintro e w2 ⟨b, rfl, hu2, hRb, hs⟩)
    | (go_at_call 188; (with_reducible refine (s_Draw8 _ (hs w hu0 HI.out)).mono ?_); rintro e w3 ⟨T, A, c, U, A2, c2, x, y, rfl, hg3, hs3, hO, hO2⟩))
  have hs := hs w hu0 HI.out
  have hw12 := hu2.size
  have hb2 := hs.inw
  have hne : w.heap.size ≠ b := by omega
  have hne2 : bQ ≠ b := by omega
  have hR2 := hR.up hu2
  have hQ2 := hQ.up hu2
  have hz3 := hg3.size
  have u4 : Up w3 ((w3.alloc (.cells #[.int .i64 T.first, .slice A T.n c] 31)).alloc (.cells #[.int .i64 U.first, .slice A2 U.n c2] 31)) := (by repeat' (first | (with_reducible exact Up.refl _) | (with_reducible assumption) | (with_reducible refine Up.alloc ?_ _) | (with_reducible refine Up.drew ?_) | (with_reducible refine Up.grow ?_ _) | (with_reducible refine Up.setCell ?_ (by (try simp); (try omega)) _)))
  have hbox2 : Blk ((w3.alloc (.cells #[.int .i64 T.first, .slice A T.n c] 31)).alloc (.cells #[.int .i64 U.first, .slice A2 U.n c2] 31)) (w3.heap.size + 1) 31 #[.int .i64 U.first, .slice A2 U.n c2] := by
    have h := Blk.new (w3.alloc (.cells #[.int .i64 T.first, .slice A T.n c] 31)) 31 #[.int .i64 U.first, .slice A2 U.n c2]
    simpa only [World.size_alloc] using h
  have hE : D2 w w w2 ((w3.alloc (.cells #[.int .i64 T.first, .slice A T.n c] 31)).alloc (.cells #[.int .i64 U.first, .slice A2 U.n c2] 31)) b w.heap.size bQ w3.heap.size (w3.heap.size + 1) T A c U A2 c2 :=
    { src := hs3.up u4, gb := ((Gb.of (hu0.trans hu2)).trans hg3).up u4, own := hO.up u4, own2 := hO2.up u4, box := (Blk.new w3 _ _).alloc _, box2 := hbox2, res := (hR2.gb hne hg3).up u4, res2 := (hQ2.gb hne2 hg3).up u4, l0 := by omega, l02 := by omega, lb := hb2, lR := by omega, lQ := by omega, lR1 := by omega, lQ1 := by omega, lT := by omega, lU := by omega, nRQ := by omega, nTU := by omega, nR := hne, nQ := hne2 }
  obtain ⟨⟨m1, m2⟩, ⟨m3, m4⟩, ⟨m5, m6⟩, ⟨m7, m8⟩, ⟨m9, m10⟩, m11, m12⟩ := hE.neq
  have hww : w.heap.size ≤ w2.heap.size := by omega
  clear hs hg3 hs3 hO hO2 hR hQ hR2 hQ2 u4 hbox2 hz3 hu0 hu2 hRb hz
  generalize (w3.alloc (.cells #[.int .i64 T.first, .slice A T.n c] 31)).alloc (.cells #[.int .i64 U.first, .slice A2 U.n c2] 31) = w4 at *
  generalize w3.heap.size + 1 = bU at *
  generalize w3.heap.size = bT at *
  (have q0 := hE.box.cell 0); (have q1 := hE.box.cell 1); (have qi := hE.box.inw); (have q2 := hE.box2.cell 0); (have q3 := hE.box2.cell 1); (have qj := hE.box2.inw); (have p0 := hE.res.cell 0); (have p1 := hE.res.cell 1); (have pf := hE.res.frozen); (have pi_ := hE.res.inw); (have p2 := hE.res2.cell 0); (have p3 := hE.res2.cell 1); (have pg := hE.res2.frozen); (have pj := hE.res2.inw)
  go_wp2_with (first | (go_at_call 183; (with_reducible refine (s_Next 16 _ (hE.src.up (by repeat' (first | (with_reducible exact Up.refl _) | (with_reducible assumption) | (with_reducible refine Up.alloc ?_ _) | (with_reducible refine Up.drew ?_) | (with_reducible refine Up.grow ?_ _) | (with_reducible refine Up.setCell ?_ (by (try simp); (try omega)) _))))).mono ?_); rintro e w' ⟨z, rfl, hz, hg1, hs1⟩; (have hE := hE.on ((Gb.of (by repeat' (first | (with_reducible exact Up.refl _) | (with_reducible assumption) | (with_reducible refine Up.alloc ?_ _) | (with_reducible refine Up.drew ?_) | (with_reducible refine Up.grow ?_ _) | (with_reducible refine Up.setCell ?_ (by (try simp); (try omega)) _)))).trans hg1) hs1); ((have q0 := hE.box.cell 0); (have q1 := hE.box.cell 1); (have qi := hE.box.inw); (have q2 := hE.box2.cell 0); (have q3 := hE.box2.cell 1); (have qj := hE.box2.inw); (have p0 := hE.res.cell 0); (have p1 := hE.res.cell 1); (have pf := hE.res.frozen); (have pi_ := hE.res.inw); (have p2 := hE.res2.cell 0); (have p3 := hE.res2.cell 1); (have pg := hE.res2.frozen); (have pj := hE.res2.inw))))
  · skip
    go_region_held3 (fun w' => w'.cell? ⟨bT, 0, none⟩ = some (.int .i64 T.first) ∧ w'.cell? ⟨bT, 1, none⟩ = some (.slice A T.n c) ∧ w'.cell? ⟨bU, 0, none⟩ = some (.int .i64 U.first) ∧ w'.cell? ⟨bU, 1, none⟩ = some (.slice A2 U.n c2)) ((repeat' apply And.intro) <;> go_simp)
      (first | (go_at_call 185; (with_reducible refine (s_Pick [-1, 0, 150, 151] 4 rfl (by omega) (by omega) #[.int .i64 (-1), .int .i64 (0), .int .i64 (150), .int .i64 (151)] rfl _ _ (hE.src.up (by repeat' (first | (with_reducible exact Up.refl _) | (with_reducible assumption) | (with_reducible refine Up.alloc ?_ _) | (with_reducible refine Up.drew ?_) | (with_reducible refine Up.grow ?_ _) | (with_reducible refine Up.setCell ?_ (by (try simp); (try omega)) _)))) (by first | (simpa only [World.size_alloc] using Blk.new _ _ _) | exact (Blk.new _ _ _).drew) (by have h1 := hE.src.inw; omega)).mono ?_); rintro e w' ⟨zp, rfl, hzp, hg1, hs1⟩; (have hE := hE.on ((Gb.of (by repeat' (first | (with_reducible exact Up.refl _) | (with_reducible assumption) | (with_reducible refine Up.alloc ?_ _) | (with_reducible refine Up.drew ?_) | (with_reducible refine Up.grow ?_ _) | (with_reducible refine Up.setCell ?_ (by (try simp); (try omega)) _)))).trans hg1) hs1); ((have q0 := hE.box.cell 0); (have q1 := hE.box.cell 1); (have qi := hE.box.inw); (have q2 := hE.box2.cell 0); (have q3 := hE.box2.cell 1); (have qj := hE.box2.inw); (have p0 := hE.res.cell 0); (have p1 := hE.res.cell 1); (have pf := hE.res.frozen); (have pi_ := hE.res.inw); (have p2 := hE.res2.cell 0); (have p3 := hE.res2.cell 1); (have pg := hE.res2.frozen); (have pj := hE.res2.inw))))
    go_wp2
    refine bodyPost_ret (v := .tuple #[.agg #[.int .i64 T.first, .slice A T.n c], .int .i64 x, .agg #[.int .i64 U.first, .slice A2 U.n c2], .int .i64 y, .int .i64 zp]) (by simp [results, Try.results68, go_sem, p0, p1, pf, pi_, p2, p3, pg, pj, m1, m2, m3, m4, m5, m6, m7, m8, m9, m10, m11, m12]) rfl ?_
    obtain ⟨e1, e2, e3, e4⟩ := hE.fin hww (.int .i64 T.first) (.slice A T.n c) (.int .i64 U.first) (.slice A2 U.n c2)
    first | exact ⟨T, A, c, U, A2, c2, _, _, _, rfl, e2.ups, e3, e4⟩ | exact ⟨T, A, c, U, A2, c2, _, _, _, rfl, e2.ups.drew, e3.up (Up.drew (Up.refl _)), e4.up (Up.drew (Up.refl _))⟩
  · skip
    go_region_held3 (fun w' => w'.cell? ⟨bT, 0, none⟩ = some (.int .i64 T.first) ∧ w'.cell? ⟨bT, 1, none⟩ = some (.slice A T.n c) ∧ w'.cell? ⟨bU, 0, none⟩ = some (.int .i64 U.first) ∧ w'.cell? ⟨bU, 1, none⟩ = some (.slice A2 U.n c2)) ((repeat' apply And.intro) <;> go_simp)
      (first | (go_at_call 183; (with_reducible refine (s_Next 12 _ (hE.src.up (by repeat' (first | (with_reducible exact Up.refl _) | (with_reducible assumption) | (with_reducible refine Up.alloc ?_ _) | (with_reducible refine Up.drew ?_) | (with_reducible refine Up.grow ?_ _) | (with_reducible refine Up.setCell ?_ (by (try simp); (try omega)) _))))).mono ?_); rintro e w' ⟨z, rfl, hz, hg1, hs1⟩; (have hE := hE.on ((Gb.of (by repeat' (first | (with_reducible exact Up.refl _) | (with_reducible assumption) | (with_reducible refine Up.alloc ?_ _) | (with_reducible refine Up.drew ?_) | (with_reducible refine Up.grow ?_ _) | (with_reducible refine Up.setCell ?_ (by (try simp); (try omega)) _)))).trans hg1) hs1); ((have q0 := hE.box.cell 0); (have q1 := hE.box.cell 1); (have qi := hE.box.inw); (have q2 := hE.box2.cell 0); (have q3 := hE.box2.cell 1); (have qj := hE.box2.inw); (have p0 := hE.res.cell 0); (have p1 := hE.res.cell 1); (have pf := hE.res.frozen); (have pi_ := hE.res.inw); (have p2 := hE.res2.cell 0); (have p3 := hE.res2.cell 1); (have pg := hE.res2.frozen); (have pj := hE.res2.inw))))
    go_wp2
    refine bodyPost_ret (v := .tuple #[.agg #[.int .i64 T.first, .slice A T.n c], .int .i64 x, .agg #[.int .i64 U.first, .slice A2 U.n c2], .int .i64 y, .int .i64 z]) (by simp [results, Try.results68, go_sem, p0, p1, pf, pi_, p2, p3, pg, pj, m1, m2, m3, m4, m5, m6, m7, m8, m9, m10, m11, m12]) rfl ?_
    obtain ⟨e1, e2, e3, e4⟩ := hE.fin hww (.int .i64 T.first) (.slice A T.n c) (.int .i64 U.first) (.slice A2 U.n c2)
    first | exact ⟨T, A, c, U, A2, c2, _, _, _, rfl, e2.ups, e3, e4⟩ | exact ⟨T, A, c, U, A2, c2, _, _, _, rfl, e2.ups.drew, e3.up (Up.drew (Up.refl _)), e4.up (Up.drew (Up.refl _))⟩
set_option maxRecDepth 100000 in
set_option maxHeartbeats 8000000 in
theorem s_DrawLastAnnuity (A0 : Option Addr) (L c0 : Nat) (hL : L ≤ 4096) (w : World) (hI : InCode w A0 L c0) :
    Calls Try.prog 131 #[.slice A0 L c0] w (fun e w' => ∃ T A c U A2 c2, ∃ x y r m : Int, e = .returned (.tuple #[.agg #[.int .i64 T.first, .slice A T.n c], .int .i64 x, .agg #[.int .i64 U.first, .slice A2 U.n c2], .int .i64 y, .int .i64 r, .int .i64 m]) ∧ Up w w' ∧ TabOwn w w' T (.agg #[.int .i64 T.first, .slice A T.n c]) ∧ TabOwn w w' U (.agg #[.int .i64 U.first, .slice A2 U.n c2])) := by
  have HI := Lib.hid hI
  have hu0 : Up w ((w.alloc (.cells #[.int .i64 0, .slice none 0 0] 31)).alloc (.cells #[.int .i64 0, .slice none 0 0] 31)) := (by repeat' (first | (with_reducible exact Up.refl _) | (with_reducible assumption) | (with_reducible refine Up.alloc ?_ _) | (with_reducible refine Up.drew ?_) | (with_reducible refine Up.grow ?_ _) | (with_reducible refine Up.setCell ?_ (by (try simp); (try omega)) _)))
  have hR : Blk ((w.alloc (.cells #[.int .i64 0, .slice none 0 0] 31)).alloc (.cells #[.int .i64 0, .slice none 0 0] 31)) w.heap.size 31 #[.int .i64 0, .slice none 0 0] := (Blk.new _ _ _).alloc _
  have hQ : Blk ((w.alloc (.cells #[.int .i64 0, .slice none 0 0] 31)).alloc (.cells #[.int .i64 0, .slice none 0 0] 31)) (w.heap.size + 1) 31 #[.int .i64 0, .slice none 0 0] := by
    have h := Blk.new (w.alloc (.cells #[.int .i64 0, .slice none 0 0] 31)) 31 #[.int .i64 0, .slice none 0 0]
    simpa only [World.size_alloc] using h
  have hz : ((w.alloc (.cells #[.int .i64 0, .slice none 0 0] 31)).alloc (.cells #[.int .i64 0, .slice none 0 0] 31)).heap.size = w.heap.size + 1 + 1 := by simp only [World.size_alloc]
  clear hI
  go_enter Try.func131, Try.ntmps131
  go_upto_region 1 with (fail)
  generalize (w.alloc (.cells #[.int .i64 0, .slice none 0 0] 31)).alloc (.cells #[.int .i64 0, .slice none 0 0] 31) = w1 at *
  obtain ⟨bQ, hbQ⟩ : ∃ q, w.heap.size + 1 = q := ⟨_, rfl⟩
  rw [hbQ] at hQ ⊢
  go_wp2_with (first
    | (go_at_call 238; refine (s_DrawJointAnnuity A0 L c0 hL w1 (HI.out.up hu0)).mono ?_; rintro e w3 ⟨T, A, c, U, A2, c2, x, y, r, m, rfl, h3, hO, hO2⟩; have hl1 : w.heap.size < w1.heap.size := (by omega); have hl2 : bQ < w1.heap.size := (by omega); have hup := hu0.trans h3; have hR := hR.up h3; have hQ := hQ.up h3; have p0 := hR.cell 0; have p1 := hR.cell 1; have pf := hR.frozen; have pi_ := hR.inw; have p2 := hQ.cell 0; have p3 := hQ.cell 1; have pg := hQ.frozen; have pj := hQ.inw; have m9 : ¬ w.heap.size = bQ := (by omega); have m10 : ¬ bQ = w.heap.size := (by omega)))
  refine bodyPost_ret (v := .tuple #[.agg #[.int .i64 T.first, .slice A T.n c], .int .i64 x, .agg #[.int .i64 U.first, .slice A2 U.n c2], .int .i64 y, .int .i64 r, .int .i64 m]) (by simp [results, Try.results131, go_sem, p0, p1, pf, pi_, p2, p3, pg, pj, m9, m10]) rfl ?_
  exact ⟨T, A, c, U, A2, c2, _, _, _, _, rfl, (((hup.setCell (p := ⟨w.heap.size, 0, none⟩) (Nat.le_refl _) _).setCell (p := ⟨w.heap.size, 1, none⟩) (Nat.le_refl _) _).setCell (p := ⟨bQ, 0, none⟩) (by show w.heap.size ≤ bQ; omega) _).setCell (p := ⟨bQ, 1, none⟩) (by show w.heap.size ≤ bQ; omega) _,
    ((((hO.set_old (a := ⟨w.heap.size, 0, none⟩) hl1 _).set_old (a := ⟨w.heap.size, 1, none⟩) hl1 _).set_old (a := ⟨bQ, 0, none⟩) hl2 _).set_old (a := ⟨bQ, 1, none⟩) hl2 _).base (by omega),
    ((((hO2.set_old (a := ⟨w.heap.size, 0, none⟩) hl1 _).set_old (a := ⟨w.heap.size, 1, none⟩) hl1 _).set_old (a := ⟨bQ, 0, none⟩) hl2 _).set_old (a := ⟨bQ, 1, none⟩) hl2 _).base (by omega)⟩
set_option maxRecDepth 100000 in
set_option maxHeartbeats 8000000 in
theorem s_DrawJointTable (A0 : Option Addr) (L c0 : Nat) (hL : L ≤ 4096) (w : World) (hI : InCode w A0 L c0) :
    Calls Try.prog 65 #[.slice A0 L c0] w (fun e w' => ∃ T A c U A2 c2, ∃ x y : Int, e = .returned (.tuple #[.agg #[.int .i64 T.first, .slice A T.n c], .int .i64 x, .agg #[.int .i64 U.first, .slice A2 U.n c2], .int .i64 y]) ∧ Up w w' ∧ TabOwn w w' T (.agg #[.int .i64 T.first, .slice A T.n c]) ∧ TabOwn w w' U (.agg #[.int .i64 U.first, .slice A2 U.n c2])) := by
  have HI := Lib.hid hI
  have hu0 : Up w ((w.alloc (.cells #[.int .i64 0, .slice none 0 0] 31)).alloc (.cells #[.int .i64 0, .slice none 0 0] 31)) := (by repeat' (first | (with_reducible exact Up.refl _) | (with_reducible assumption) | (with_reducible refine Up.alloc ?_ _) | (with_reducible refine Up.drew ?_) | (with_reducible refine Up.grow ?_ _) | (with_reducible refine Up.setCell ?_ (by (try simp); (try omega)) _)))
  have hR : Blk ((w.alloc (.cells #[.int .i64 0, .slice none 0 0] 31)).alloc (.cells #[.int .i64 0, .slice none 0 0] 31)) w.heap.size 31 #[.int .i64 0, .slice none 0 0] := (Blk.new _ _ _).alloc _
  have hQ : Blk ((w.alloc (.cells #[.int .i64 0, .slice none 0 0] 31)).alloc (.cells #[.int .i64 0, .slice none 0 0] 31)) (w.heap.size + 1) 31 #[.int .i64 0, .slice none 0 0] := by
    have h := Blk.new (w.alloc (.cells #[.int .i64 0, .slice none 0 0] 31)) 31 #[.int .i64 0, .slice none 0 0]
    simpa only [World.size_alloc] using h
  have hz : ((w.alloc (.cells #[.int .i64 0, .slice none 0 0] 31)).alloc (.cells #[.int .i64 0, .slice none 0 0] 31)).heap.size = w.heap.size + 1 + 1 := by simp only [World.size_alloc]
  clear hI
  go_enter Try.func65, Try.ntmps65
  go_upto_region 1 with (fail)
  generalize (w.alloc (.cells #[.int .i64 0, .slice none 0 0] 31)).alloc (.cells #[.int .i64 0, .slice none 0 0] 31) = w1 at *
  obtain ⟨bQ, hbQ⟩ : ∃ q, w.heap.size + 1 = q := ⟨_, rfl⟩
  rw [hbQ] at hQ ⊢
  go_wp2_with (first
    | (go_at_call 162; refine (s_FromW A0 L c0 hL w1 (HI.out.up hu0)).mono ?_; rintro e w2 ⟨b, rfl, hu2, hRb, hs⟩)
    | (go_at_call 188; (with_reducible refine (s_Draw8 _ (hs w hu0 HI.out)).mono ?_); rintro e w3 ⟨T, A, c, U, A2, c2, x, y, rfl, hg3, hs3, hO, hO2⟩; have hz2 := hu2.size; have hl1 : w.heap.size < w2.heap.size := (by omega); have hl2 : bQ < w2.heap.size := (by omega); have hup := hs3.ups; have hR := (hR.up hu2).gb (by omega) hg3; have hQ := (hQ.up hu2).gb (by omega) hg3; have p0 := hR.cell 0; have p1 := hR.cell 1; have pf := hR.frozen; have pi_ := hR.inw; have p2 := hQ.cell 0; have p3 := hQ.cell 1; have pg := hQ.frozen; have pj := hQ.inw; have m9 : ¬ w.heap.size = bQ := (by omega); have m10 : ¬ bQ = w.heap.size := (by omega)))
  refine bodyPost_ret (v := .tuple #[.agg #[.int .i64 T.first, .slice A T.n c], .int .i64 x, .agg #[.int .i64 U.first, .slice A2 U.n c2], .int .i64 y]) (by simp [results, Try.results65, go_sem, p0, p1, pf, pi_, p2, p3, pg, pj, m9, m10]) rfl ?_
  exact ⟨T, A, c, U, A2, c2, _, _, rfl, (((hup.setCell (p := ⟨w.heap.size, 0, none⟩) (Nat.le_refl _) _).setCell (p := ⟨w.heap.size, 1, none⟩) (Nat.le_refl _) _).setCell (p := ⟨bQ, 0, none⟩) (by show w.heap.size ≤ bQ; omega) _).setCell (p := ⟨bQ, 1, none⟩) (by show w.heap.size ≤ bQ; omega) _,
    ((((hO.set_old (a := ⟨w.heap.size, 0, none⟩) hl1 _).set_old (a := ⟨w.heap.size, 1, none⟩) hl1 _).set_old (a := ⟨bQ, 0, none⟩) hl2 _).set_old (a := ⟨bQ, 1, none⟩) hl2 _).base (by omega),
    ((((hO2.set_old (a := ⟨w.heap.size, 0, none⟩) hl1 _).set_old (a := ⟨w.heap.size, 1, none⟩) hl1 _).set_old (a := ⟨bQ, 0, none⟩) hl2 _).set_old (a := ⟨bQ, 1, none⟩) hl2 _).base (by omega)⟩
end Go.Proofs.Ytdeoampkbbbleaa
namespace Go.Proofs.Ytdeoampkbbbleaa
open Go.RowKit Pu
set_option linter.unusedVariables false
set_option linter.unusedSimpArgs false

/-- Two slices that read as the same list are alike. -/
theorem l_Like (A1 A2 : Option Addr) (n c1 c2 : Nat) (g : Nat → Int) (hn : n ≤ 1048576) (w : World) (hI1 : Ints w A1 n g) (hI2 : Ints w A2 n g) :
    Calls Try.prog 50 #[.slice A1 n c1, .slice A2 n c2] w (Ret w (.bool true)) := by
  go_enter Try.func50, Try.ntmps50
  go_wp2
  go_loopw [5] (fun i wr => ∃ (k : Nat) (y : Grow w), k ≤ n ∧ i = .int .i64 k ∧ wr = y.to) (fun i _ => n - (intOf i).toNat)
  case atStart => exact ⟨0, ⟨w, Below.refl _ _⟩, Nat.zero_le _, rfl, rfl⟩
  case round =>
    obtain ⟨k, x, hk, rfl, rfl⟩ := hrel
    by_cases hlt : k < n
    · obtain ⟨b, off, rfl, hlb, hc⟩ := hI1 k hlt
      obtain ⟨b', off', rfl, hlb', hc'⟩ := hI2 k hlt
      have hc1 : ∀ y : Grow w, y.to.cell? ⟨b, off + k, none⟩ = some (.int .i64 (g k)) := fun y => (y.below.cell (p := ⟨b, off + k, none⟩) hlb).trans hc
      have hc2 : ∀ y : Grow w, y.to.cell? ⟨b', off' + k, none⟩ = some (.int .i64 (g k)) := fun y => (y.below.cell (p := ⟨b', off' + k, none⟩) hlb').trans hc'
      clear hc hc'
      go_wp2_with ((first | with_reducible refine wp_region_in x (by kernel_rfl) (by kernel_rfl) ?_ | with_reducible refine wp_region_here (by kernel_rfl) (by kernel_rfl) ?_); (repeat (go_big_quiet_step ((fail)))); refine wpQuiet_nil ?_; intro w' hw'; obtain ⟨x, rfl⟩ := hw')
      go_roundw
      case rel => exact ⟨k + 1, x, by omega, by go_num, rfl⟩
      case measure => simp [intOf]; omega
    · go_wp2
      go_ret
      exact ⟨rfl, (by repeat' (first | (with_reducible exact Up.refl _) | (with_reducible assumption) | (with_reducible refine Up.alloc ?_ _) | (with_reducible refine Up.drew ?_) | (with_reducible refine Up.grow ?_ _) | (with_reducible refine Up.setCell ?_ (by (try simp); (try omega)) _)))⟩
theorem Rd.fn {w : World} {v : Value} {xs : List Int} (h : Rd w v xs) : ∃ A c, v = .slice A xs.length c ∧ Ints w A xs.length (fun i => xs.getD i 0) := by
  obtain ⟨A, c, h1, _, _, h2⟩ := h
  exact ⟨A, c, h1, h2⟩
theorem l_LikeR (v1 v2 : Value) (xs : List Int) (hn : xs.length ≤ 1048576) (w : World) (h1 : Rd w v1 xs) (h2 : Rd w v2 xs) :
    Calls Try.prog 50 #[v1, v2] w (Ret w (.bool true)) := by
  obtain ⟨A1, c1, rfl, hI1⟩ := h1.fn
  obtain ⟨A2, c2, rfl, hI2⟩ := h2.fn
  exact l_Like A1 A2 _ c1 c2 _ hn w hI1 hI2
/-- The sum of a list whose partial sums stay within 64 bits. -/
theorem l_Sum (A : Option Addr) (n c : Nat) (g : Nat → Int) (hn : n ≤ 1048576) (hg : ∀ m, m ≤ n → -9000000000000000000 ≤ S g 0 m ∧ S g 0 m ≤ 9000000000000000000) (w : World) (hI : Ints w A n g) :
    Calls Try.prog 52 #[.slice A n c] w fun e w' => e = .returned (.int .i64 (S g 0 n)) ∧ w = w' := by
  have HS := Lib.hid hg
  have HE := Lib.hid (S_succ g 0)
  have HZ := Lib.hid (S_zero' g 0)
  generalize S g 0 = Z at *
  clear hg
  go_enter Try.func52, Try.ntmps52
  go_wp2
  go_loop [3, 4] (fun s i => ∃ k : Nat, k ≤ n ∧ i = .int .i64 k ∧ s = .int .i64 (Z k)) (fun _ i => n - (intOf i).toNat)
  case atStart => exact ⟨0, Nat.zero_le _, rfl, by rw [HZ.out]⟩
  case round =>
    obtain ⟨k, hk, rfl, rfl⟩ := hrel
    by_cases hlt : k < n
    · obtain ⟨b, off, rfl, hlb, hcell⟩ := hI k hlt
      have h1 := HS.out (k + 1) (by omega)
      have E := HE.out k
      rw [Nat.zero_add] at E
      have i1 : IntKind.i64.wrap (Z k + g k) = Z (k + 1) := by rw [← E]; exact IntWalk.i64_in _ (by omega)
      clear h1 E
      go_wp2
      go_round
      case rel => exact ⟨k + 1, by omega, by go_num, rfl⟩
      case measure => simp [intOf]; omega
    · have hkn : k = n := by omega
      subst hkn
      go_wp2
      go_ret
      exact ⟨rfl, rfl⟩
theorem l_Big (A : Option Addr) (n c : Nat) (b : Bool) (hb : b = decide (4096 < n)) (hn : n ≤ 9223372036854775807) (w : World) : Calls Try.prog 38 #[.slice A n c] w fun e w' => e = .returned (.bool b) ∧ w = w' := by
  subst hb
  by_cases h : 4096 < n
  all_goals
    have h1 := h
    simp only [h1, decide_true, decide_false]
    go_enter Try.func38, Try.ntmps38
    go_wp2
    go_ret
    exact ⟨ret_bool (by simp <;> omega), rfl⟩
end Go.Proofs.Ytdeoampkbbbleaa
