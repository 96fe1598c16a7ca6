/- Mark and held over slices of holdings that a call has made. Condition: at most 1048576 holdings. -/
import Derived.Test.YtdeoampkbbbleaaHoldO
namespace Go.Proofs.Ytdeoampkbbbleaa
open Go.RowKit Pu
set_option linter.unusedVariables false
set_option linter.unusedSimpArgs false

def marksH (k0 : Int) (i j : Nat) : Int := k0 + 7 * (i : Int) + (j : Int)
theorem mark_round {w w0 wr : World} {g n c k : Nat} {ys : List Value} {G : Nat → Nat → Int} (u0 u1 u2 u3 u4 u5 u6 : Int) (hg : w.grownBy wr (some g)) (ho : wr.ownsRow w0.heap.size 113 7 (.slice (some ⟨g, 0, none⟩) n c) n ys) (hl : ys.length = n * 7)
    (hf : ∀ i, i < k → ∀ j, j < 7 → ys[i * 7 + j]? = some (.int .i64 (G i j))) (hk : k < n) (h0 : u0 = G k 0) (h1 : u1 = G k 1) (h2 : u2 = G k 2) (h3 : u3 = G k 3) (h4 : u4 = G k 4) (h5 : u5 = G k 5) (h6 : u6 = G k 6) :
    ∃ ys' : List Value, w.grownBy (((((((wr.setCell ⟨g, k * 7, none⟩ (.int .i64 u0)).setCell ⟨g, k * 7 + 1, none⟩ (.int .i64 u1)).setCell ⟨g, k * 7 + 2, none⟩ (.int .i64 u2)).setCell ⟨g, k * 7 + 3, none⟩ (.int .i64 u3)).setCell ⟨g, k * 7 + 4, none⟩ (.int .i64 u4)).setCell ⟨g, k * 7 + 5, none⟩ (.int .i64 u5)).setCell ⟨g, k * 7 + 6, none⟩ (.int .i64 u6)) (some g) ∧ World.ownsRow (((((((wr.setCell ⟨g, k * 7, none⟩ (.int .i64 u0)).setCell ⟨g, k * 7 + 1, none⟩ (.int .i64 u1)).setCell ⟨g, k * 7 + 2, none⟩ (.int .i64 u2)).setCell ⟨g, k * 7 + 3, none⟩ (.int .i64 u3)).setCell ⟨g, k * 7 + 4, none⟩ (.int .i64 u4)).setCell ⟨g, k * 7 + 5, none⟩ (.int .i64 u5)).setCell ⟨g, k * 7 + 6, none⟩ (.int .i64 u6)) w0.heap.size 113 7 (.slice (some ⟨g, 0, none⟩) n c) n ys' ∧ ys'.length = n * 7 ∧ ∀ i, i < k + 1 → ∀ j, j < 7 → ys'[i * 7 + j]? = some (.int .i64 (G i j)) := by
  have o0 := World.ownsRow.stored (ho) (k * 7) (.int .i64 u0)
  have o1 := World.ownsRow.stored (o0.1) (k * 7 + 1) (.int .i64 u1)
  have o2 := World.ownsRow.stored (o1.1) (k * 7 + 2) (.int .i64 u2)
  have o3 := World.ownsRow.stored (o2.1) (k * 7 + 3) (.int .i64 u3)
  have o4 := World.ownsRow.stored (o3.1) (k * 7 + 4) (.int .i64 u4)
  have o5 := World.ownsRow.stored (o4.1) (k * 7 + 5) (.int .i64 u5)
  have o6 := World.ownsRow.stored (o5.1) (k * 7 + 6) (.int .i64 u6)
  refine ⟨_, (((((((hg.trans o0.2).trans o1.2).trans o2.2).trans o3.2).trans o4.2).trans o5.2).trans o6.2), o6.1, by simp [hl], fun i hi j hj => ?_⟩
  clear o0 o1 o2 o3 o4 o5 o6 ho hg
  subst h0 h1 h2 h3 h4 h5 h6
  by_cases e : i = k
  · subst e
    have hc : j = 0 ∨ j = 1 ∨ j = 2 ∨ j = 3 ∨ j = 4 ∨ j = 5 ∨ j = 6 := by omega
    rcases hc with rfl | rfl | rfl | rfl | rfl | rfl | rfl <;> simp [List.getElem?_set, hl] <;> omega
  · rw [List.getElem?_set_ne (by omega), List.getElem?_set_ne (by omega), List.getElem?_set_ne (by omega), List.getElem?_set_ne (by omega), List.getElem?_set_ne (by omega), List.getElem?_set_ne (by omega), List.getElem?_set_ne (by omega)]
    exact hf i (by omega) j hj
def RetMarkH (w0 w : World) (v : Value) (k0 : Int) (n : Nat) (e : Ending) (w' : World) : Prop := e = .returned (.int .i64 (k0 + 7 * (n : Int))) ∧ OwnH w0 w' v n (marksH k0) ∧ w.grownBy w' v.ownBlock
set_option maxRecDepth 100000 in
set_option maxHeartbeats 4000000 in
theorem l_MarkH (v : Value) (n : Nat) (G : Nat → Nat → Int) (hn : n ≤ 1048576) (k0 : Int) (h0 : 0 ≤ k0) (h1 : k0 ≤ 10000000) (w0 w : World) (h : OwnH w0 w v n G) :
    Calls Try.prog 33 #[v, .int .i64 k0] w (RetMarkH w0 w v k0 n) := by
  have hf := h.form
  obtain ⟨A, c, rfl, _, _, hA⟩ := hf
  rcases Nat.eq_zero_or_pos n with hz | hp
  · subst hz
    have e : OwnH w0 w (.slice A 0 c) 0 (marksH k0) := by
      obtain ⟨ys, p1, p2, p3⟩ := h
      exact ⟨ys, p1, p2, fun i hi => by omega⟩
    have E := Lib.hid e
    clear h e hA
    go_enter Try.func33, Try.ntmps33
    go_wp2
    go_loop [1, 5] (fun m i => m = .int .i64 k0 ∧ i = .int .i64 0) (fun _ _ => 0)
    case atStart => exact ⟨rfl, rfl⟩
    case round =>
      obtain ⟨rfl, rfl⟩ := hrel
      go_wp2
      go_ret
      exact ⟨by simp, E.out, World.grownBy.refl w _⟩
  obtain ⟨g, rfl, hb, hlt⟩ := hA hp
  obtain ⟨ys, hr, hl, _⟩ := h
  have H := Lib.hid hr
  clear hr
  go_enter Try.func33, Try.ntmps33
  go_wp2
  go_loopw [1, 5] (fun m i wr => ∃ (k : Nat) (ys' : List Value), k ≤ n ∧ i = .int .i64 k ∧ m = .int .i64 (k0 + 7 * k) ∧ w.grownBy wr (some g) ∧ wr.ownsRow w0.heap.size 113 7 (.slice (some ⟨g, 0, none⟩) n c) n ys' ∧ ys'.length = n * 7 ∧ ∀ i, i < k → ∀ j, j < 7 → ys'[i * 7 + j]? = some (.int .i64 (marksH k0 i j))) (fun _ i _ => n - (intOf i).toNat)
  case atStart => exact ⟨0, ys, Nat.zero_le _, rfl, by simp, World.grownBy.refl w _, H.out, hl, fun j hj => by omega⟩
  case round =>
    clear H hl
    obtain ⟨k, ys', hk, rfl, rfl, hgr, hown, hl, hf⟩ := hrel
    have HG := Lib.hid hgr
    have HO := Lib.hid hown
    have HF := Lib.hid hf
    have HL := Lib.hid hl
    clear hown hf hgr
    by_cases hlt : k < n
    · have hlen : k * 7 + 6 < ys'.length := by omega
      obtain ⟨r0, t0⟩ : ∃ q, wr.cell? ⟨g, k * 7, none⟩ = some q := ⟨_, (HO.out.cellAt (k * 7) (by omega)).trans (List.getElem?_eq_getElem (by omega))⟩
      have z0 : wr.frozen? ⟨g, k * 7, none⟩ = false := HO.out.frozenAt (k * 7)
      obtain ⟨r1, t1⟩ : ∃ q, wr.cell? ⟨g, k * 7 + 1, none⟩ = some q := ⟨_, (HO.out.cellAt (k * 7 + 1) (by omega)).trans (List.getElem?_eq_getElem (by omega))⟩
      have z1 : wr.frozen? ⟨g, k * 7 + 1, none⟩ = false := HO.out.frozenAt (k * 7 + 1)
      obtain ⟨r2, t2⟩ : ∃ q, wr.cell? ⟨g, k * 7 + 2, none⟩ = some q := ⟨_, (HO.out.cellAt (k * 7 + 2) (by omega)).trans (List.getElem?_eq_getElem (by omega))⟩
      have z2 : wr.frozen? ⟨g, k * 7 + 2, none⟩ = false := HO.out.frozenAt (k * 7 + 2)
      obtain ⟨r3, t3⟩ : ∃ q, wr.cell? ⟨g, k * 7 + 3, none⟩ = some q := ⟨_, (HO.out.cellAt (k * 7 + 3) (by omega)).trans (List.getElem?_eq_getElem (by omega))⟩
      have z3 : wr.frozen? ⟨g, k * 7 + 3, none⟩ = false := HO.out.frozenAt (k * 7 + 3)
      obtain ⟨r4, t4⟩ : ∃ q, wr.cell? ⟨g, k * 7 + 4, none⟩ = some q := ⟨_, (HO.out.cellAt (k * 7 + 4) (by omega)).trans (List.getElem?_eq_getElem (by omega))⟩
      have z4 : wr.frozen? ⟨g, k * 7 + 4, none⟩ = false := HO.out.frozenAt (k * 7 + 4)
      obtain ⟨r5, t5⟩ : ∃ q, wr.cell? ⟨g, k * 7 + 5, none⟩ = some q := ⟨_, (HO.out.cellAt (k * 7 + 5) (by omega)).trans (List.getElem?_eq_getElem (by omega))⟩
      have z5 : wr.frozen? ⟨g, k * 7 + 5, none⟩ = false := HO.out.frozenAt (k * 7 + 5)
      obtain ⟨r6, t6⟩ : ∃ q, wr.cell? ⟨g, k * 7 + 6, none⟩ = some q := ⟨_, (HO.out.cellAt (k * 7 + 6) (by omega)).trans (List.getElem?_eq_getElem (by omega))⟩
      have z6 : wr.frozen? ⟨g, k * 7 + 6, none⟩ = false := HO.out.frozenAt (k * 7 + 6)
      clear hl hlen
      have ig : InW wr g := (HO.out.lt _ rfl).2
      go_wp2
      go_roundw
      case rel =>
        obtain ⟨ys2, p1, p2, p3, p4⟩ := mark_round (G := marksH k0) (k0 + 7 * k) (k0 + 7 * k + 1) (k0 + 7 * k + 1 + 1) (k0 + 7 * k + 1 + 1 + 1) (k0 + 7 * k + 1 + 1 + 1 + 1) (k0 + 7 * k + 1 + 1 + 1 + 1 + 1) (k0 + 7 * k + 1 + 1 + 1 + 1 + 1 + 1) HG.out HO.out HL.out HF.out hlt (by unfold marksH; omega) (by unfold marksH; omega) (by unfold marksH; omega) (by unfold marksH; omega) (by unfold marksH; omega) (by unfold marksH; omega) (by unfold marksH; omega)
        exact ⟨k + 1, ys2, by omega, by go_num, by go_num, p1, p2, p3, p4⟩
      case measure => simp [intOf]; omega
    · go_wp2
      go_ret
      exact ⟨ret_int (by rw [show k = n from by omega]), ⟨_, HO.out, HL.out, fun i hi => HF.out i (by omega)⟩, HG.out⟩

set_option maxRecDepth 100000 in
set_option maxHeartbeats 4000000 in
theorem l_HeldH (v : Value) (k0 : Int) (n : Nat) (hn : n ≤ 1048576) (h0 : 0 ≤ k0) (h1 : k0 ≤ 10000000) (w : World) (h : HAt w v n (marksH k0)) :
    Calls Try.prog 35 #[v, .int .i64 k0] w (Ret w (.int .i64 (k0 + 7 * (n : Int)))) := by
  obtain ⟨A, c, rfl, _, _, hI⟩ := h
  go_enter Try.func35, Try.ntmps35
  go_wp2
  go_loop [1, 5] (fun m i => ∃ (k : Nat), k ≤ n ∧ i = .int .i64 k ∧ m = .int .i64 (k0 + 7 * k)) (fun _ i => n - (intOf i).toNat)
  case atStart => exact ⟨0, Nat.zero_le _, rfl, by simp⟩
  case round =>
    obtain ⟨k, hk, rfl, rfl⟩ := hrel
    by_cases hlt : k < n
    · obtain ⟨b, off, rfl, hlb, e0, e1, e2, e3, e4, e5, e6⟩ := hI.seven hlt
      rw [show marksH k0 k 0 = k0 + 7 * k from by unfold marksH; omega] at e0
      rw [show marksH k0 k 1 = k0 + 7 * k + 1 from by unfold marksH; omega] at e1
      rw [show marksH k0 k 2 = k0 + 7 * k + 2 from by unfold marksH; omega] at e2
      rw [show marksH k0 k 3 = k0 + 7 * k + 3 from by unfold marksH; omega] at e3
      rw [show marksH k0 k 4 = k0 + 7 * k + 4 from by unfold marksH; omega] at e4
      rw [show marksH k0 k 5 = k0 + 7 * k + 5 from by unfold marksH; omega] at e5
      rw [show marksH k0 k 6 = k0 + 7 * k + 6 from by unfold marksH; omega] at e6
      go_wp2
      go_round
      case rel => exact ⟨k + 1, by omega, by go_num, by go_num⟩
      case measure => simp [intOf]; omega
    · go_wp2
      go_ret
      exact ⟨ret_int (by rw [show k = n from by omega]), (by repeat' (first | (with_reducible exact Up.refl _) | (with_reducible assumption) | (with_reducible refine Up.alloc ?_ _) | (with_reducible refine Up.drew ?_) | (with_reducible refine Up.grow ?_ _) | (with_reducible refine Up.setCell ?_ (by (try simp); (try omega)) _)))⟩
end Go.Proofs.Ytdeoampkbbbleaa
