/- Contract of the source's making, for whatever world is older. Condition: a code of at most 4096 bytes. -/
import Derived.Test.YtdeoampkbbbleaaDrawN
namespace Go.Proofs.Ytdeoampkbbbleaa
open Go.RowKit Pu

theorem SAt.base {W0 W w0 w : World} {b A L c p s} (h : SAt W w0 w b A L c p s) (u : Up W0 W) (hc : InCode W0 A L c) : SAt W0 w0 w b A L c p s :=
  ⟨Nat.le_trans u.size h.lo, u.trans h.ups, hc, h.blk, h.gb⟩
set_option maxRecDepth 100000 in
set_option maxHeartbeats 2000000 in
theorem s_FromW (A : Option Addr) (L c : Nat) (hL : L ≤ 4096) (w : World) (hI : InCode w A L c) :
    Calls Try.prog 162 #[.slice A L c] w (fun e w' => ∃ b, e = .returned (.pointer (some ⟨b, 0, none⟩)) ∧ Up w w' ∧ w.heap.size ≤ b ∧ ∀ W, Up W w → InCode W A L c → Src W w' b) := by
  have hlc := hI.1
  have hc2 := hI.2.1
  have HI := Lib.hid hI
  clear hI
  go_enter Try.func162, Try.ntmps162
  go_wp2
  go_loopw [4] (fun i wr => ∃ (k : Nat) (s : Int), k ≤ L ∧ k ≤ 64 ∧ i = .int .i64 k ∧ 0 ≤ s ∧ s < 2147483647 ∧ SAt w w wr w.heap.size A L c 0 s) (fun i _ => L - (intOf i).toNat)
  case atStart => exact ⟨0, 25001, by omega, by omega, rfl, by omega, by omega, ⟨Nat.le_refl _, (by repeat' (first | (with_reducible exact Up.refl _) | (with_reducible assumption) | (with_reducible refine Up.alloc ?_ _) | (with_reducible refine Up.drew ?_) | (with_reducible refine Up.grow ?_ _) | (with_reducible refine Up.setCell ?_ (by (try simp); (try omega)) _))), HI.out, Blk.new _ _ _, Gb.alloc (Gb.refl _ _) _⟩⟩
  case round =>
    obtain ⟨k, s, hk, hk2, rfl, hs0, hs1, hS⟩ := hrel
    have hSF := Lib.hid hS
    have c0 := hS.blk.cell 0; have c1 := hS.blk.cell 1; have c2 := hS.blk.cell 2; have cf := hS.blk.frozen; have ci := hS.blk.inw
    by_cases hlt : k < L
    case neg =>
      have hlt1 : ¬ (k : Int) < (L : Int) := by omega
      go_wp2
      go_ret
      exact ⟨_, rfl, hSF.out.ups, hSF.out.lo, fun W u hc => (hSF.out.base u hc).src hL ⟨by omega, by omega⟩ ⟨hs0, hs1⟩⟩
    have hlt1 : (k : Int) < (L : Int) := by omega
    by_cases hlt2 : k < 64
    case neg =>
      have hlt3 : ¬ (k : Int) < 64 := by omega
      go_wp2
      go_ret
      exact ⟨_, rfl, hSF.out.ups, hSF.out.lo, fun W u hc => (hSF.out.base u hc).src hL ⟨by omega, by omega⟩ ⟨hs0, hs1⟩⟩
    have hlt3 : (k : Int) < 64 := by omega
    obtain ⟨a, off, z, rfl, z0, z1, hz⟩ := hS.byte hlt
    have hz1 := hz wr hS.ups
    have ia : InW wr a := World.block_lt_of_cell? wr _ hz1
    have hb1 : (0 : Int) ≤ k := by omega
    obtain ⟨s1, hs⟩ : ∃ s1, (s * 71 + z) % 2147483647 = s1 := ⟨_, rfl⟩
    have b1 := rem_bd (x := s * 71 + z) (n := 2147483647) (by omega) (by omega)
    rw [hs] at b1
    have i1 : IntKind.i64.wrap (s * 71) = s * 71 := IntWalk.i64_in _ (by omega)
    have i2 : IntKind.i64.wrap z = z := IntWalk.i64_in _ (by omega)
    have i3 : IntKind.i64.wrap (s * 71 + z) = s * 71 + z := IntWalk.i64_in _ (by omega)
    have i4 : (s * 71 + z).tmod 2147483647 = s1 := by rw [Int.tmod_eq_emod_of_nonneg (by omega), hs]
    have i5 : IntKind.i64.wrap s1 = s1 := IntWalk.i64_in _ (by omega)
    clear hz hs hS
    go_wp2
    go_region
    all_goals
      go_wp2
      go_roundw
      case rel => exact ⟨k + 1, s1, by omega, by omega, by go_num, by omega, by omega, (hSF.out.set2 s1).up (Up.drew (Up.refl _))⟩
      case measure => simp [intOf]; omega
end Go.Proofs.Ytdeoampkbbbleaa
