/- Contracts of the draws of numbers: l01Next, l01Pick, l01From. Condition: a source made since W. -/
import Derived.Test.YtdeoampkbbbleaaDrawB
import Derived.Test.YtdeoampkbbbleaaNum
namespace Go.Proofs.Ytdeoampkbbbleaa
open Go.RowKit Pu

theorem rem_bd {x n : Int} (h0 : 0 ≤ x) (hn : 1 ≤ n) : 0 ≤ x % n ∧ x % n < n ∧ x % n ≤ x := ⟨Int.emod_nonneg _ (by omega), Int.emod_lt_of_pos _ (by omega), by
  by_cases h : x < n
  · rw [Int.emod_eq_of_lt h0 h]; omega
  · have := Int.emod_lt_of_pos x (show 0 < n by omega); omega⟩
/-- What l01Next says of a number. -/
def Nx (n x : Int) : Prop := 0 ≤ x ∧ (1 < n → x < n) ∧ (n ≤ 1 → x = 0)
set_option maxRecDepth 100000 in
set_option maxHeartbeats 2000000 in
theorem s_Next {W : World} {b : Nat} (n : Int) (w : World) (h : Src W w b) : Calls Try.prog 183 #[.pointer (some ⟨b, 0, none⟩), .int .i64 n] w (RetDraw W w b (Nx n)) := by
  by_cases hn : n ≤ 1
  · go_enter Try.func183, Try.ntmps183
    go_wp2
    go_ret
    exact ⟨0, rfl, ⟨by omega, fun _ => by omega, fun _ => rfl⟩, Gb.refl _ _, h⟩
  obtain ⟨h1, h2, A, L, c, p, s, h3, h4, h5, h6, h7⟩ := h
  obtain ⟨p, rfl⟩ : ∃ p' : Nat, p = p' := ⟨p.toNat, by omega⟩
  have hS : SAt W w w b A L c p s := ⟨h1, h2, h3, h5, Gb.refl _ _⟩
  have c0 := hS.blk.cell 0; have c1 := hS.blk.cell 1; have c2 := hS.blk.cell 2; have cf := hS.blk.frozen; have ci := hS.blk.inw
  obtain ⟨s1, hs1⟩ : ∃ s1, (s * 48271 + 71) % 2147483647 = s1 := ⟨_, rfl⟩
  have b1 := rem_bd (x := s * 48271 + 71) (n := 2147483647) (by omega) (by omega)
  rw [hs1] at b1
  have i1 : IntKind.i64.wrap (s * 48271) = s * 48271 := IntWalk.i64_in _ (by omega)
  have i2 : IntKind.i64.wrap (s * 48271 + 71) = s * 48271 + 71 := IntWalk.i64_in _ (by omega)
  have i3 : (s * 48271 + 71).tmod 2147483647 = s1 := by rw [Int.tmod_eq_emod_of_nonneg (by omega), hs1]
  have i4 : IntKind.i64.wrap s1 = s1 := IntWalk.i64_in _ (by omega)
  obtain ⟨x0, hx0⟩ : ∃ x0, s1 / 41 = x0 := ⟨_, rfl⟩
  have b2 : 0 ≤ x0 ∧ x0 ≤ 53000000 := by omega
  have i5 : s1.tdiv 41 = x0 := by rw [Int.tdiv_eq_ediv_of_nonneg (by omega), hx0]
  have i6 : IntKind.i64.wrap x0 = x0 := IntWalk.i64_in _ (by omega)
  have hn0 : (n == 0) = false := by simp; omega
  have FIN : ∀ x : Int, 0 ≤ x → Nx n (x % n) := fun x hx => ⟨(rem_bd hx (by omega)).1, fun _ => (rem_bd hx (by omega)).2.1, fun _ => by omega⟩
  replace FIN := Lib.hid FIN
  have REM : ∀ x : Int, 0 ≤ x → x ≤ 100000000 → IntKind.i64.wrap (x.tmod n) = x % n := fun x h0 h1 => by
    rw [Int.tmod_eq_emod_of_nonneg h0]; have := rem_bd h0 (show 1 ≤ n by omega); exact IntWalk.i64_in _ (by omega)
  replace REM := Lib.hid REM
  have hp0 : (0 : Int) ≤ p := by omega
  have hpL : p ≤ L := by omega
  clear hs1 hx0 h5 h6 h2 h3 h1
  go_enter Try.func183, Try.ntmps183
  go_wp2
  have hS := hS.set2 s1
  obtain ⟨w1, hw1⟩ : ∃ w1, w1 = w.setCell ⟨b, 2, none⟩ (.int .i64 s1) := ⟨_, rfl⟩
  rw [← hw1] at hS ⊢
  clear hw1
  clear c0 c1 c2 cf ci
  have c0 := hS.blk.cell 0; have c1 := hS.blk.cell 1; have c2 := hS.blk.cell 2; have cf := hS.blk.frozen; have ci := hS.blk.inw
  by_cases hp : p < L
  case neg =>
    have hp1 : ¬ (p : Int) < (L : Int) := by omega
    have i7 := REM.out x0 b2.1 (by omega)
    go_wp2_with ((first | with_reducible refine wp_region_in x (by kernel_rfl) (by kernel_rfl) ?_ | with_reducible refine wp_region_here (by kernel_rfl) (by kernel_rfl) ?_); (repeat (go_big_quiet_step ((fail)))); refine wpQuiet_nil ?_; intro w' hw'; obtain ⟨x, rfl⟩ := hw')
    go_ret
    exact ⟨x0 % n, rfl, FIN.out x0 b2.1, (hS.up x.below).gb, (hS.up x.below).src h4 ⟨by omega, by omega⟩ ⟨by omega, by omega⟩⟩
  have hp1 : (p : Int) < (L : Int) := by omega
  obtain ⟨a, off, z, rfl, z0, z1, hz⟩ := hS.byte hp
  have HZ := Lib.hid hz
  have hz1 := hz w1 hS.ups
  have i7 : IntKind.i64.wrap z = z := IntWalk.i64_in _ (by omega)
  have i8 : IntKind.i64.wrap (x0 + z) = x0 + z := IntWalk.i64_in _ (by omega)
  have i9 : IntKind.i64.wrap ((p : Int) + 1) = (p : Int) + 1 := IntWalk.i64_in _ (by have := hS.code.1; have := hS.code.2.1; omega)
  have i10 : IntKind.i64.wrap ((p : Int) + 1 - 1) = p := by rw [IntWalk.i64_in _ (by omega)]; omega
  have hlc := hS.code.1
  have hc2 := hS.code.2.1
  have ia : InW w1 a := World.block_lt_of_cell? w1 _ hz1
  clear hz
  go_upto_region 7 with (((first | with_reducible refine wp_region_in x (by kernel_rfl) (by kernel_rfl) ?_ | with_reducible refine wp_region_here (by kernel_rfl) (by kernel_rfl) ?_); (repeat (go_big_quiet_step ((fail)))); refine wpQuiet_nil ?_; intro w' hw'; obtain ⟨x, rfl⟩ := hw'))
  have hS := hS.up x.below
  have hz1 := HZ.out x.to hS.ups
  have ia : InW x.to a := World.block_lt_of_cell? x.to _ hz1
  generalize x.to = w2 at *
  clear x
  clear c0 c1 c2 cf ci
  have c0 := hS.blk.cell 0; have c1 := hS.blk.cell 1; have c2 := hS.blk.cell 2; have cf := hS.blk.frozen; have ci := hS.blk.inw
  go_upto_region 8 with (fail)
  have hS := hS.set1 ((p : Int) + 1)
  obtain ⟨w3, hw3⟩ : ∃ w3, w3 = w2.setCell ⟨b, 1, none⟩ (.int .i64 ((p : Int) + 1)) := ⟨_, rfl⟩
  rw [← hw3] at hS ⊢
  clear hw3
  have hz1 := HZ.out w3 hS.ups
  have ia : InW w3 a := World.block_lt_of_cell? w3 _ hz1
  clear c0 c1 c2 cf ci
  have c0 := hS.blk.cell 0; have c1 := hS.blk.cell 1; have c2 := hS.blk.cell 2; have cf := hS.blk.frozen; have ci := hS.blk.inw
  have e2 : ((p : Int) + 1).tmod 2 = ((p : Int) + 1) % 2 := Int.tmod_eq_emod_of_nonneg (by omega)
  have hSF := Lib.hid hS
  by_cases hn2 : n ≤ 256
  case neg =>
    have i11 := REM.out (x0 + z) (by omega) (by omega)
    clear e2
    go_wp2_with ((first | with_reducible refine wp_region_in x (by kernel_rfl) (by kernel_rfl) ?_ | with_reducible refine wp_region_here (by kernel_rfl) (by kernel_rfl) ?_); (repeat (go_big_quiet_step ((fail)))); refine wpQuiet_nil ?_; intro w' hw'; obtain ⟨x, rfl⟩ := hw')
    go_ret
    exact ⟨(x0 + z) % n, rfl, FIN.out _ (by omega), hSF.out.gb, hSF.out.src h4 ⟨by omega, by omega⟩ ⟨by omega, by omega⟩⟩
  have hm : ((p : Int) + 1) % 2 = 0 ∨ ((p : Int) + 1) % 2 = 1 := by omega
  rcases hm with hm | hm
  · rw [hm] at e2
    have i11 := REM.out z (by omega) (by omega)
    clear hm
    go_wp2_with ((first | with_reducible refine wp_region_in x (by kernel_rfl) (by kernel_rfl) ?_ | with_reducible refine wp_region_here (by kernel_rfl) (by kernel_rfl) ?_); (repeat (go_big_quiet_step ((fail)))); refine wpQuiet_nil ?_; intro w' hw'; obtain ⟨x, rfl⟩ := hw')
    go_ret
    exact ⟨z % n, rfl, FIN.out _ (by omega), (hSF.out.up x.below).gb, (hSF.out.up x.below).src h4 ⟨by omega, by omega⟩ ⟨by omega, by omega⟩⟩
  · rw [hm] at e2
    have i11 := REM.out (x0 + z) (by omega) (by omega)
    clear hm
    go_wp2_with ((first | with_reducible refine wp_region_in x (by kernel_rfl) (by kernel_rfl) ?_ | with_reducible refine wp_region_here (by kernel_rfl) (by kernel_rfl) ?_); (repeat (go_big_quiet_step ((fail)))); refine wpQuiet_nil ?_; intro w' hw'; obtain ⟨x, rfl⟩ := hw')
    go_ret
    exact ⟨(x0 + z) % n, rfl, FIN.out _ (by omega), hSF.out.gb, hSF.out.src h4 ⟨by omega, by omega⟩ ⟨by omega, by omega⟩⟩
theorem pick_at {w w1 : World} {b B n : Nat} {xs : List Int} {cs : Array Value} {x : Int} (hcs : cs = (xs.map (Value.int .i64)).toArray) (hl : xs.length = n) (hn : 1 ≤ n) (hB : Blk w B 2 cs) (hne : B ≠ b) (g : Gb b w w1) (hx : Nx n x) :
    ∃ i : Nat, x = i ∧ i < n ∧ B < w1.heap.size ∧ w1.cell? ⟨B, i, none⟩ = some (.int .i64 (xs.getD i 0)) ∧ xs.getD i 0 ∈ xs := by
  have hB1 := hB.gb hne g
  have hi : x.toNat < xs.length := by
    by_cases h1 : 1 < (n : Int)
    · have := hx.2.1 h1; have := hx.1; omega
    · have := hx.2.2 (by omega); omega
  refine ⟨x.toNat, by have := hx.1; omega, by omega, hB1.inw, ?_, ?_⟩
  · rw [hB1.cell, hcs]; simp [hi]
  · rw [List.getD_eq_getElem?_getD, List.getElem?_eq_getElem hi]; exact List.getElem_mem hi
set_option maxRecDepth 100000 in
theorem s_Pick {W : World} {b : Nat} (xs : List Int) (n : Nat) (hl : xs.length = n) (hn : 1 ≤ n) (_hn2 : n ≤ 100) (cs : Array Value) (hcs : cs = (xs.map (Value.int .i64)).toArray) (B : Nat) (w : World) (h : Src W w b) (hB : Blk w B 2 cs) (hne : B ≠ b) :
    Calls Try.prog 185 #[.pointer (some ⟨b, 0, none⟩), .slice (some ⟨B, 0, none⟩) n n] w (RetDraw W w b (fun x => x ∈ xs)) := by
  have HP := Lib.hid fun (w1 : World) (x : Int) (g : Gb b w w1) (hx : Nx n x) => pick_at hcs hl hn hB hne g hx
  have HNX := Lib.hid (s_Next (n : Int) w h)
  have hb := hB.inw
  clear hcs hB
  go_enter Try.func185, Try.ntmps185
  go_wp2_with (go_at_call 183; refine (HNX.out).mono ?_; rintro e w1 ⟨x, rfl, hx, hg, hs⟩; obtain ⟨i, rfl, hi, hb1, hc, hmem⟩ := HP.out w1 x hg hx; have g1 : (0 : Int) ≤ i := (by omega); have g2 : (i : Int) < n := (by omega))
  go_ret
  exact ⟨_, rfl, List.getElem_mem _, hg, hs⟩
set_option maxRecDepth 100000 in
set_option maxHeartbeats 2000000 in
theorem s_From (A : Option Addr) (L c : Nat) (hL : L ≤ 4096) (w : World) (hI : InCode w A L c) :
    Calls Try.prog 162 #[.slice A L c] w (fun e w' => ∃ b, e = .returned (.pointer (some ⟨b, 0, none⟩)) ∧ Up w w' ∧ Src w w' b) := by
  have hlc := hI.1
  have hc2 := hI.2.1
  have HI := Lib.hid hI
  clear hI
  go_enter Try.func162, Try.ntmps162
  go_wp2
  go_loopw [4] (fun i wr => ∃ (k : Nat) (s : Int), k ≤ L ∧ k ≤ 64 ∧ i = .int .i64 k ∧ 0 ≤ s ∧ s < 2147483647 ∧ SAt w w wr w.heap.size A L c 0 s) (fun i _ => L - (intOf i).toNat)
  case atStart => exact ⟨0, 25001, by omega, by omega, rfl, by omega, by omega, ⟨Nat.le_refl _, (by repeat' (first | (with_reducible exact Up.refl _) | (with_reducible assumption) | (with_reducible refine Up.alloc ?_ _) | (with_reducible refine Up.drew ?_) | (with_reducible refine Up.grow ?_ _) | (with_reducible refine Up.setCell ?_ (by (try simp); (try omega)) _))), HI.out, Blk.new _ _ _, Gb.alloc (Gb.refl _ _) _⟩⟩
  case round =>
    obtain ⟨k, s, hk, hk2, rfl, hs0, hs1, hS⟩ := hrel
    have hSF := Lib.hid hS
    have c0 := hS.blk.cell 0; have c1 := hS.blk.cell 1; have c2 := hS.blk.cell 2; have cf := hS.blk.frozen; have ci := hS.blk.inw
    by_cases hlt : k < L
    case neg =>
      have hlt1 : ¬ (k : Int) < (L : Int) := by omega
      go_wp2
      go_ret
      exact ⟨_, rfl, hSF.out.ups, hSF.out.src hL ⟨by omega, by omega⟩ ⟨hs0, hs1⟩⟩
    have hlt1 : (k : Int) < (L : Int) := by omega
    by_cases hlt2 : k < 64
    case neg =>
      have hlt3 : ¬ (k : Int) < 64 := by omega
      go_wp2
      go_ret
      exact ⟨_, rfl, hSF.out.ups, hSF.out.src hL ⟨by omega, by omega⟩ ⟨hs0, hs1⟩⟩
    have hlt3 : (k : Int) < 64 := by omega
    obtain ⟨a, off, z, rfl, z0, z1, hz⟩ := hS.byte hlt
    have hz1 := hz wr hS.ups
    have ia : InW wr a := World.block_lt_of_cell? wr _ hz1
    have hb1 : (0 : Int) ≤ k := by omega
    obtain ⟨s1, hs⟩ : ∃ s1, (s * 71 + z) % 2147483647 = s1 := ⟨_, rfl⟩
    have b1 := rem_bd (x := s * 71 + z) (n := 2147483647) (by omega) (by omega)
    rw [hs] at b1
    have i1 : IntKind.i64.wrap (s * 71) = s * 71 := IntWalk.i64_in _ (by omega)
    have i2 : IntKind.i64.wrap z = z := IntWalk.i64_in _ (by omega)
    have i3 : IntKind.i64.wrap (s * 71 + z) = s * 71 + z := IntWalk.i64_in _ (by omega)
    have i4 : (s * 71 + z).tmod 2147483647 = s1 := by rw [Int.tmod_eq_emod_of_nonneg (by omega), hs]
    have i5 : IntKind.i64.wrap s1 = s1 := IntWalk.i64_in _ (by omega)
    clear hz hs hS
    go_wp2
    go_region
    all_goals
      go_wp2
      go_roundw
      case rel => exact ⟨k + 1, s1, by omega, by omega, by go_num, by omega, by omega, (hSF.out.set2 s1).up (Up.drew (Up.refl _))⟩
      case measure => simp [intOf]; omega
end Go.Proofs.Ytdeoampkbbbleaa
