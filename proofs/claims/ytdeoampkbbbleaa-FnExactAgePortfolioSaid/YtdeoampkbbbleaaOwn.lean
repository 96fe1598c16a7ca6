/- Slices of numbers that a call has made: what they hold, append, the given helpers of the laws (copy, equal, mark, held, size). Conditions: lengths at most 1048576. -/
import Derived.Test.YtdeoampkbbbleaaNum
namespace Go.Proofs.Ytdeoampkbbbleaa
open Go.RowKit Pu

theorem info64 : (Try.prog.info? 2).map (fun i => (i.zero, i.size, i.bytes)) = some (some (.int .i64 0), 1, 8) := by kernel_rfl

/-- The slice v, made since w, holds the numbers xs. -/
def Own (w w' : World) (v : Value) (xs : List Int) : Prop := w'.ownsRow w.heap.size 2 1 v xs.length (xs.map (Value.int .i64))
/-- The slice v reads as the numbers xs. -/
def Rd (w : World) (v : Value) (xs : List Int) : Prop := ∃ A c, v = .slice A xs.length c ∧ xs.length ≤ c ∧ c ≤ 9223372036854775807 ∧ Ints w A xs.length (fun i => xs.getD i 0)
theorem Rd.up {w w' : World} {v xs} (h : Rd w v xs) (u : Up w w') : Rd w' v xs := by
  obtain ⟨A, c, h1, h2, h3, h4⟩ := h
  exact ⟨A, c, h1, h2, h3, h4.up u⟩

theorem grownBy_up {w w' : World} (u : Up w w') : w.grownBy w' none := ⟨u.os, u.tape, u.output, u.size, fun k hk _ => u.block k hk⟩
theorem Own.up {w w1 w2 : World} {v xs} (h : Own w w1 v xs) (u : Up w1 w2) : Own w w2 v xs := World.ownsRow.kept h (grownBy_up u) (by cases v.ownBlock <;> simp)
theorem Own.base {w0 w w1 : World} {v xs} (h : Own w w1 v xs) (hs : w0.heap.size ≤ w.heap.size) : Own w0 w1 v xs :=
  ⟨h.1, h.2.imp id fun ⟨g, cap, cur, e, hb, r⟩ => ⟨g, cap, cur, e, Nat.le_trans hs hb, r⟩⟩
theorem Own.set_old {w w1 : World} {v xs} (h : Own w w1 v xs) {a : Addr} (ha : a.block < w.heap.size) (u : Value) : Own w (w1.setCell a u) v xs := ownsRow_setCell_below h ha u
theorem Own.nil (w w' : World) : Own w w' (.slice none 0 0) [] := World.ownsRow_nil _ _ _ _
theorem Own.start (W : World) {w : World} (h : W.heap.size ≤ w.heap.size) : Own W (w.alloc (.cells #[] 2)) (.slice (some ⟨w.heap.size, 0, none⟩) 0 0) [] :=
  World.ownsRow_made w #[] 0 h (by decide) (by simp)
theorem Own.form {w w' : World} {v xs} (h : Own w w' v xs) : ∃ A c, v = .slice A xs.length c ∧ xs.length ≤ c ∧ c ≤ 9223372036854775807 ∧
    (0 < xs.length → ∃ g, A = some ⟨g, 0, none⟩ ∧ w.heap.size ≤ g ∧ g < w'.heap.size ∧ (∀ i, i < xs.length → w'.cell? ⟨g, i, none⟩ = some (.int .i64 (xs.getD i 0))) ∧ ∀ i, w'.frozen? ⟨g, i, none⟩ = false) := by
  have h' := h
  rcases h.2 with ⟨rfl, h0⟩ | ⟨g, cap, cur, rfl, hb, hg, hn, hm, _⟩
  · exact ⟨none, 0, by rw [h0], by omega, by omega, fun hp => by omega⟩
  · refine ⟨_, cap, rfl, hn, by unfold maxLen at hm; omega, fun hp => ⟨g, rfl, hb, (Array.getElem?_eq_some_iff.1 hg).1, fun i hi => ?_, fun i => h'.frozenAt i⟩⟩
    rw [h'.cellAt i (by omega)]
    simp [hi]
theorem Own.rd {w w' : World} {v xs} (h : Own w w' v xs) : Rd w' v xs := by
  obtain ⟨A, c, h1, h2, h3, h4⟩ := h.form
  refine ⟨A, c, h1, h2, h3, fun i hi => ?_⟩
  obtain ⟨g, rfl, _, hlt, hc, _⟩ := h4 (by omega)
  exact ⟨g, 0, rfl, hlt, by simpa using hc i hi⟩

/-- append of one number to a slice that was made since W. -/
theorem wp_push {W w0 : World} {ops : Array Oper} {rest : List Oper} {o : Oper} {a : Act} {Q : Exit → Act → World → Prop} {v : Value} {xs : List Int} {u : Int} (hW : Up W w0) (hown : Own W w0 v xs)
    (hgd : o.guard = none) (s e : Operand) (ho : o.op = .call { callee := .builtin .append, args := #[s, e], argTypes := #[22, 22] })
    (hs : a.eval s = v) (he : a.eval e = .slice (some ⟨w0.heap.size, 0, none⟩) 1 1) (hlen : xs.length < 1048576)
    (h : ∀ v' (y : Grow W), Own W y.to v' (xs ++ [u]) → (w0.alloc (.cells #[.int .i64 u] 2)).grownBy y.to v.ownBlock → wpList Try.prog ops Q rest (a.put o.dst v') y.to) :
    wpList Try.prog ops Q (o :: rest) a (w0.alloc (.cells #[.int .i64 u] 2)) := by
  obtain ⟨i0, hi, hz0, hz1, hz2⟩ := info_parts info64
  have hown' : Own W (w0.alloc (.cells #[.int .i64 u] 2)) v xs := World.ownsRow.alloc hown _
  refine wpList_append_own _ hgd s e _ ho W.heap.size 2 i0 (.int .i64 0) 1 8 Try.underlying22 hi hz0 hz1 hz2 rfl (by decide) v xs.length (xs.map (Value.int .i64)) hs hown' ⟨w0.heap.size, 0, none⟩ 1 1 [.int .i64 u] he rfl ?_ (by simp [Value.oneCell']) (by unfold maxLen; omega) (by omega) (by have := hW.size; simp; omega) ?_
  · intro j q hj
    match j, hj with
    | 0, hj => simp at hj; subst hj; simp [Addr.add]
  · intro v' w1 h1 h2 _
    have hb : Below W.heap.size W w1 := (hW.alloc _).grown h2 (by have := hW.size; simp; omega) (fun k hk => (hown'.lt k hk).1)
    obtain ⟨y, rfl⟩ := Grow.mk' hb
    exact h v' y (by unfold Own; simpa using h1) h2

/-! ### copy, equal, mark, held -/
def marks (k : Int) (n : Nat) : List Int := (List.range n).map fun i : Nat => k + (i : Int)
theorem marks_len (k : Int) (n : Nat) : (marks k n).length = n := by simp [marks]
theorem marks_at (k : Int) {n i : Nat} (h : i < n) : (marks k n).getD i 0 = k + i := by simp [marks, h]

theorem l_Sz (A : Option Addr) (n c : Nat) (hn : n ≤ 9223372036854775807) (left : Int) (h0 : 0 ≤ left) (h1 : left ≤ 1048576) (w : World) :
    Calls Try.prog 242 #[.slice A n c, .int .i64 left] w fun e w' => e = .returned (.int .i64 (if left < n then -1 else left - n)) ∧ w = w' := by
  by_cases h : left < n
  · rw [if_pos h]
    go_enter Try.func242, Try.ntmps242
    go_wp2
    go_ret
    exact ⟨rfl, rfl⟩
  · rw [if_neg h]
    go_enter Try.func242, Try.ntmps242
    go_wp2
    go_ret
    exact ⟨rfl, rfl⟩

/-- A new slice is returned, that holds xs. -/
def RetI (w : World) (xs : List Int) (e : Ending) (w' : World) : Prop := ∃ v, e = .returned v ∧ Up w w' ∧ Own w w' v xs

theorem own_of_list {w w' : World} {v : Value} {n : Nat} {ys : List Value} {f : Nat → Int} (h : w'.ownsRow w.heap.size 2 1 v n ys) (hy : ys.length = n) (hf : ∀ j, j < n → ys[j]? = some (.int .i64 (f j))) : Own w w' v ((List.range n).map f) := by
  have e : ys = ((List.range n).map f).map (Value.int .i64) := by
    refine List.ext_getElem? fun j => ?_
    by_cases hj : j < n
    · rw [hf j hj]; simp [hj]
    · rw [List.getElem?_eq_none (by omega), List.getElem?_eq_none (by simp; omega)]
  unfold Own
  rw [← e]; simpa using h

set_option maxHeartbeats 400000 in
theorem l_Copy (A : Option Addr) (n c : Nat) (f : Nat → Int) (hn : n ≤ 1048576) (w : World) (hI : Ints w A n f) :
    Calls Try.prog 29 #[.slice A n c] w (RetI w ((List.range n).map f)) := by
  obtain ⟨i0, hi, hz0, hz1, hz2⟩ := info_parts info64
  go_enter Try.func29, Try.ntmps29
  go_wp2_with (at_make; refine wpList_make_full _ rfl _ _ _ rfl w.heap.size 2 i0 (.int .i64 0) 1 Try.underlying22 hi hz0 hz1 .i64 .i64 n n n rfl rfl rfl rfl (by rw [hz2]; omega) (by unfold maxLen; omega) (Nat.le_refl _) ?_; intro w1 hown hgrow)
  clear hi hz0 hz1 hz2
  have hb : Below w.heap.size w w1 := (Below.refl _ _).grown hgrow (Nat.le_refl _) (fun k hk => by cases hk)
  obtain ⟨x, rfl⟩ := Grow.mk' hb
  go_loopw [4] (fun i wr => ∃ (k : Nat) (y : Grow w) (ys : List Value), k ≤ n ∧ i = .int .i64 k ∧ wr = y.to ∧ y.to.ownsRow w.heap.size 2 1 (.slice (some ⟨w.heap.size, 0, none⟩) n n) n ys ∧ ys.length = n ∧ ∀ j, j < k → ys[j]? = some (.int .i64 (f j))) (fun i _ => n - (intOf i).toNat)
  case atStart => exact ⟨0, x, _, Nat.zero_le _, rfl, rfl, hown, by have := hown.1; simpa using this, fun j hj => by omega⟩
  case round =>
    clear hown hgrow hb x
    obtain ⟨k, y, ys, hk, rfl, rfl, hown, hl, hf⟩ := hrel
    have HO := Lib.hid hown
    have HF := Lib.hid hf
    have HL := Lib.hid hl
    clear hown hf hl
    by_cases hlt : k < n
    · obtain ⟨b, off, rfl, hlb, hc⟩ := hI k hlt
      have hc1 : y.to.cell? ⟨b, off + k, none⟩ = some (.int .i64 (f k)) := (y.below.cell (p := ⟨b, off + k, none⟩) hlb).trans hc
      have hc2 : y.to.cell? ⟨w.heap.size, k, none⟩ = some (ys[k]'(by rw [HL.out]; exact hlt)) := by
        rw [HO.out.cellAt k (by omega)]; exact List.getElem?_eq_getElem _
      have hfz : y.to.frozen? ⟨w.heap.size, k, none⟩ = false := HO.out.frozenAt k
      have hst := HO.out.stored k (.int .i64 (f k))
      have HS := Lib.hid hst
      clear hst hc
      go_wp2
      go_roundw
      case rel =>
        obtain ⟨h1, h2⟩ := HS.out
        obtain ⟨z, hz⟩ := Grow.mk' (y.below.grown h2 y.size (fun k hk => by cases hk; exact Nat.le_refl _))
        refine ⟨k + 1, z, ys.set k (.int .i64 (f k)), by omega, by go_num, hz, by rw [← hz]; exact h1, by simp [HL.out], fun j hj => ?_⟩
        by_cases e : j = k
        · subst e; rw [List.getElem?_set_self (by rw [HL.out]; exact hlt)]
        · rw [List.getElem?_set_ne (Ne.symm e)]; exact HF.out j (by omega)
      case measure => simp [intOf]; omega
    · go_wp2
      go_ret
      exact ⟨_, rfl, y.below, own_of_list HO.out HL.out (fun j hj => HF.out j (by omega))⟩

theorem rd_at {w : World} {v : Value} {xs : List Int} (h : Rd w v xs) : ∃ A c, v = .slice A xs.length c ∧ xs.length ≤ c ∧ c ≤ 9223372036854775807 ∧ (xs.length = 0 ∨ ∃ b off, A = some ⟨b, off, none⟩ ∧ b < w.heap.size ∧ ∀ i, i < xs.length → w.cell? ⟨b, off + i, none⟩ = some (.int .i64 (xs.getD i 0))) := by
  obtain ⟨A, c, h1, h2, h3, h4⟩ := h
  refine ⟨A, c, h1, h2, h3, ?_⟩
  rcases Nat.eq_zero_or_pos xs.length with h0 | h0
  · exact .inl h0
  · exact .inr (h4.at_ h0)

set_option maxHeartbeats 400000 in
theorem l_Eq (v1 v2 : Value) (xs : List Int) (hn : xs.length ≤ 1048576) (w : World) (h1 : Rd w v1 xs) (h2 : Rd w v2 xs) :
    Calls Try.prog 31 #[v1, v2] w (Ret w (.bool true)) := by
  obtain ⟨A1, c1, rfl, _, _, hI1⟩ := h1
  obtain ⟨A2, c2, rfl, _, _, hI2⟩ := h2
  generalize hg : (fun i => xs.getD i 0) = g at hI1 hI2
  generalize xs.length = n at *
  clear hg
  go_enter Try.func31, Try.ntmps31
  go_wp2
  go_loopw [5] (fun i wr => ∃ (k : Nat) (y : Grow w), k ≤ n ∧ i = .int .i64 k ∧ wr = y.to) (fun i _ => n - (intOf i).toNat)
  case atStart => exact ⟨0, ⟨w, Below.refl _ _⟩, Nat.zero_le _, rfl, rfl⟩
  case round =>
    obtain ⟨k, x, hk, rfl, rfl⟩ := hrel
    by_cases hlt : k < n
    · obtain ⟨b, off, rfl, hlb, hc⟩ := hI1 k hlt
      obtain ⟨b', off', rfl, hlb', hc'⟩ := hI2 k hlt
      have hc1 : ∀ y : Grow w, y.to.cell? ⟨b, off + k, none⟩ = some (.int .i64 (g k)) := fun y => (y.below.cell (p := ⟨b, off + k, none⟩) hlb).trans hc
      have hc2 : ∀ y : Grow w, y.to.cell? ⟨b', off' + k, none⟩ = some (.int .i64 (g k)) := fun y => (y.below.cell (p := ⟨b', off' + k, none⟩) hlb').trans hc'
      clear hc hc'
      go_wp2_with ((first | with_reducible refine wp_region_in x (by kernel_rfl) (by kernel_rfl) ?_ | with_reducible refine wp_region_here (by kernel_rfl) (by kernel_rfl) ?_); (repeat (go_big_quiet_step ((fail)))); refine wpQuiet_nil ?_; intro w' hw'; obtain ⟨x, rfl⟩ := hw')
      go_roundw
      case rel => exact ⟨k + 1, x, by omega, by go_num, rfl⟩
      case measure => simp [intOf]; omega
    · go_wp2
      go_ret
      exact ⟨rfl, (by repeat' (first | (with_reducible exact Up.refl _) | (with_reducible assumption) | (with_reducible refine Up.alloc ?_ _) | (with_reducible refine Up.drew ?_) | (with_reducible refine Up.grow ?_ _) | (with_reducible refine Up.setCell ?_ (by (try simp); (try omega)) _)))⟩

/-- What mark leaves: the slice holds the marks, all else is as it was but the slice's own block. -/
def RetMark (w0 w : World) (v : Value) (k : Int) (n : Nat) (e : Ending) (w' : World) : Prop :=
  e = .returned (.int .i64 (k + n)) ∧ Own w0 w' v (marks k n) ∧ w.grownBy w' v.ownBlock

set_option maxHeartbeats 400000 in
theorem l_Mark (v : Value) (xs : List Int) (hn : xs.length ≤ 1048576) (k0 : Int) (h0 : 0 ≤ k0) (h1 : k0 ≤ 1048577) (w0 w : World) (h : Own w0 w v xs) :
    Calls Try.prog 34 #[v, .int .i64 k0] w (RetMark w0 w v k0 xs.length) := by
  have hf := h.form
  obtain ⟨A, c, rfl, _, _, hA⟩ := hf
  rcases Nat.eq_zero_or_pos xs.length with hz | hp
  · rw [hz] at h ⊢
    have e : Own w0 w (.slice A 0 c) (marks k0 0) := by unfold Own at h ⊢; rw [hz] at h; rw [marks_len]; simpa [List.length_eq_zero_iff.1 hz, marks] using h
    have E := Lib.hid e
    clear h e hA
    go_enter Try.func34, Try.ntmps34
    go_wp2
    go_loop [1, 5] (fun m i => m = .int .i64 k0 ∧ i = .int .i64 0) (fun _ _ => 0)
    case atStart => exact ⟨rfl, rfl⟩
    case round =>
      obtain ⟨rfl, rfl⟩ := hrel
      go_wp2
      go_ret
      exact ⟨by simp, E.out, World.grownBy.refl w _⟩
  obtain ⟨g, rfl, hb, hlt, hcell, hfz⟩ := hA hp
  unfold Own at h
  generalize hys : xs.map (Value.int .i64) = ys at h
  have hl : ys.length = xs.length := by rw [← hys]; simp
  clear hys hcell hfz
  generalize xs.length = n at *
  have H := Lib.hid h
  clear h
  go_enter Try.func34, Try.ntmps34
  go_wp2
  go_loopw [1, 5] (fun m i wr => ∃ (k : Nat) (ys' : List Value), k ≤ n ∧ i = .int .i64 k ∧ m = .int .i64 (k0 + k) ∧ w.grownBy wr (some g) ∧ wr.ownsRow w0.heap.size 2 1 (.slice (some ⟨g, 0, none⟩) n c) n ys' ∧ ys'.length = n ∧ ∀ j, j < k → ys'[j]? = some (.int .i64 (k0 + j))) (fun _ i _ => n - (intOf i).toNat)
  case atStart => exact ⟨0, ys, Nat.zero_le _, rfl, by simp, World.grownBy.refl w _, H.out, hl, fun j hj => by omega⟩
  case round =>
    clear H hl
    obtain ⟨k, ys', hk, rfl, rfl, hgr, hown, hl, hf⟩ := hrel
    have HG := Lib.hid hgr
    have HO := Lib.hid hown
    have HF := Lib.hid hf
    have HL := Lib.hid hl
    clear hown hf hl hgr
    by_cases hlt : k < n
    · have hc2 : wr.cell? ⟨g, k, none⟩ = some (ys'[k]'(by rw [HL.out]; exact hlt)) := by
        rw [HO.out.cellAt k (by omega)]; exact List.getElem?_eq_getElem _
      have hfz : wr.frozen? ⟨g, k, none⟩ = false := HO.out.frozenAt k
      have hst := HO.out.stored k (.int .i64 (k0 + k))
      have HS := Lib.hid hst
      clear hst
      go_wp2
      go_roundw
      case rel =>
        obtain ⟨h1, h2⟩ := HS.out
        refine ⟨k + 1, ys'.set k (.int .i64 (k0 + k)), by omega, by go_num, by go_num, HG.out.trans h2, h1, by simp [HL.out], fun j hj => ?_⟩
        by_cases e : j = k
        · subst e; rw [List.getElem?_set_self (by rw [HL.out]; exact hlt)]
        · rw [List.getElem?_set_ne (Ne.symm e)]; exact HF.out j (by omega)
      case measure => simp [intOf]; omega
    · go_wp2
      go_ret
      exact ⟨ret_int (by rw [show k = n from by omega]), own_of_list HO.out HL.out (fun j hj => HF.out j (by omega)), HG.out⟩

end Go.Proofs.Ytdeoampkbbbleaa
