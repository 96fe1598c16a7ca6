/- Contracts of the program's discounts and columns. Conditions: a valid table, a rate from 0 to 200. -/
import Derived.Test.YtdeoampkbbbleaaCols
import Derived.Test.YtdeoampkbbbleaaOwn
import Derived.Deep.RegionHeld3
import Derived.Deep.DrawnRows
import Derived.Deep.Cut
namespace Go.Proofs.Ytdeoampkbbbleaa
open Go.RowKit Pu

theorem snoc_map {α : Type} (g : Nat → α) (k : Nat) : (List.range (k + 1)).map g = (List.range k).map g ++ [g k] := by simp [List.range_succ]

/-- The first n discounts. -/
def discs (r : Int) (n : Nat) : List Int := (List.range n).map (disc r)
theorem discs_len (r : Int) (n : Nat) : (discs r n).length = n := by simp [discs]
theorem discs_at (r : Int) {n k : Nat} (h : k < n) : (discs r n).getD k 0 = disc r k := by simp [discs, h]
theorem discs_snoc (r : Int) (k : Nat) : discs r (k + 1) = discs r k ++ [disc r k] := snoc_map _ _

set_option maxRecDepth 100000 in
set_option maxHeartbeats 400000 in
theorem i_Discs (r : Int) (h0 : 0 ≤ r) (h1 : r ≤ 200) (w : World) :
    Calls Try.prog 258 #[.int .i64 r] w (RetI w (discs r 121)) := by
  go_enter Try.func258, Try.ntmps258
  go_wp2
  go_loopw [3, 4, 6] (fun o d i wr => ∃ (k : Nat) (y : Grow w), k ≤ 121 ∧ i = .int .i64 k ∧ wr = y.to ∧ d = .int .i64 (disc r k) ∧ Own w y.to o (discs r k)) (fun _ _ i _ => (121 - intOf i).toNat)
  case atStart =>
    obtain ⟨y, hy⟩ := Grow.mk' (Up.alloc (Up.refl w) (.cells #[] 2))
    exact ⟨0, y, by omega, rfl, hy, rfl, by rw [← hy]; exact Own.start w (Nat.le_refl _)⟩
  case round =>
    obtain ⟨k, x, hk, rfl, rfl, rfl, hown⟩ := hrel
    have hd := disc_bd h0 k
    have HO := Lib.hid hown
    have E := Lib.hid (discs_snoc r k)
    clear hown
    by_cases hlt : k < 121
    · go_wp2_with (at_builtin; refine wp_push x.below HO.out rfl _ _ rfl rfl rfl (by rw [discs_len]; omega) ?_; intro v' y hown2 hg2)
      go_roundw
      case rel => exact ⟨k + 1, y, by omega, by go_num, rfl, rfl, by rw [E.out]; exact hown2⟩
      case measure => simp [intOf]; omega
    · go_wp2
      go_ret
      have hk2 : k = 121 := by omega
      subst hk2
      exact ⟨_, rfl, x.below, HO.out⟩

theorem i_LenCols (A : Option Addr) (n c : Nat) (_hn : n ≤ 140737488355328) (w : World) :
    Calls Try.prog 259 #[.slice A n c] w fun e w' => e = .returned (.int .i64 n) ∧ w = w' := by
  go_enter Try.func259, Try.ntmps259
  go_wp2
  go_ret
  exact ⟨rfl, rfl⟩

/-- Block g holds just the cells cs, none of them frozen. -/
def Blk (w : World) (g : Nat) (t : TypeId) (cs : Array Value) : Prop := w.heap[g]? = some (.cells cs t (0, 0))
theorem Blk.inw {w : World} {g t cs} (h : Blk w g t cs) : InW w g := (Array.getElem?_eq_some_iff.1 h).1
theorem Blk.cell {w : World} {g t cs} (h : Blk w g t cs) (i : Nat) : w.cell? ⟨g, i, none⟩ = cs[i]? := cell_of_row w g i cs t (0, 0) h
theorem Blk.frozen {w : World} {g t cs} (h : Blk w g t cs) (i : Nat) : w.frozen? ⟨g, i, none⟩ = false := frozen_of_row w g i cs t h
theorem Blk.new (w : World) (t : TypeId) (cs : Array Value) : Blk (w.alloc (.cells cs t)) w.heap.size t cs := heap_alloc_new w _
theorem Blk.up {w w' : World} {g t cs} (h : Blk w g t cs) (u : Up w w') : Blk w' g t cs := (u.block g h.inw).trans h
theorem Blk.alloc {w : World} {g t cs} (h : Blk w g t cs) (o : Obj) : Blk (w.alloc o) g t cs := h.up (Up.alloc (Up.refl w) o)
theorem Blk.drew {w : World} {g t cs} (h : Blk w g t cs) : Blk w.drew g t cs := h
theorem Blk.same {w : World} {g t cs} (h : Blk w g t cs) (i : Nat) (u : Value) : Blk (w.setCell ⟨g, i, none⟩ u) g t (cs.setIfInBounds i u) := heap_setCell_same w g i cs t u h
theorem Blk.other {w : World} {g t cs} (h : Blk w g t cs) {p : Addr} (hp : p.block ≠ g) (u : Value) : Blk (w.setCell p u) g t cs := (heap_setCell_other w p g u (Ne.symm hp)).trans h

theorem infoCols : (Try.prog.info? 80).map (fun i => (i.zero, i.size, i.bytes)) = some (some (.agg #[.int .i64 0, .int .i64 0, .int .i64 0, .int .i64 0]), 4, 32) := by kernel_rfl

/-- The four cells of a row of columns. -/
def row4 (T : Tab) (r : Int) (k : Nat) : List Value := [.int .i64 (T.D r k), .int .i64 (T.N r k), .int .i64 (T.C r k), .int .i64 (T.M r k)]
/-- From index m on the cells hold the columns. -/
def From (T : Tab) (r : Int) (m L : Nat) (ys : List Value) : Prop := ∀ j, m ≤ j → j < L → ∀ i, i < 4 → ys[j * 4 + i]? = (row4 T r j)[i]?
/-- The slice v holds the columns of all ages from the first one to 150. -/
def ColsAt (w : World) (v : Value) (T : Tab) (r : Int) : Prop := ∃ g cs, v = .slice (some ⟨g, 0, none⟩) (151 - T.first).toNat (151 - T.first).toNat ∧ Blk w g 80 cs ∧ ∀ k, k < (151 - T.first).toNat → ∀ i, i < 4 → cs[k * 4 + i]? = (row4 T r k)[i]?
theorem ColsAt.up {w w' : World} {v T r} (h : ColsAt w v T r) (u : Up w w') : ColsAt w' v T r := by
  obtain ⟨g, cs, e, hg, hc⟩ := h
  exact ⟨g, cs, e, hg.up u, hc⟩
/-- append to a slice of numbers leaves a block of columns alone. -/
theorem Blk.push {W w w' : World} {g cs vo xs} (h : Blk w g 80 cs) (ho : Own W w vo xs) (hg : w.grownBy w' vo.ownBlock) : Blk w' g 80 cs := by
  refine (hg.block g h.inw ?_).trans h
  intro he
  rcases ho.2 with ⟨rfl, _⟩ | ⟨g', cap, cur, rfl, _, hh, _⟩
  · simp [Value.ownBlock] at he
  · simp [Value.ownBlock] at he
    subst he
    unfold Blk at h
    rw [h] at hh
    injection hh with hh
    injection hh with _ h2
    exact absurd h2 (by decide)
theorem row_at {w : World} {g : Nat} {cs : Array Value} {T : Tab} {r : Int} {k : Nat} (h : Blk w g 80 cs) (hc : ∀ i, i < 4 → cs[k * 4 + i]? = (row4 T r k)[i]?) :
    w.cell? ⟨g, k * 4, none⟩ = some (.int .i64 (T.D r k)) ∧ w.cell? ⟨g, k * 4 + 1, none⟩ = some (.int .i64 (T.N r k)) ∧ w.cell? ⟨g, k * 4 + 2, none⟩ = some (.int .i64 (T.C r k)) ∧ w.cell? ⟨g, k * 4 + 3, none⟩ = some (.int .i64 (T.M r k)) := by
  refine ⟨?_, ?_, ?_, ?_⟩
  · rw [h.cell]; exact hc 0 (by omega)
  · rw [h.cell]; exact hc 1 (by omega)
  · rw [h.cell]; exact hc 2 (by omega)
  · rw [h.cell]; exact hc 3 (by omega)
/-- What holds in a round, when D and C of row k are reckoned: the list's row, the sums, the row's own variable. -/
structure Mid (X : World) (zb sb : Nat) (T : Tab) (r : Int) (k L : Nat) (ys : List Value) (W : World) : Prop where
  up : Below X.heap.size X W
  row : W.ownsRow X.heap.size 80 4 (.slice (some ⟨X.heap.size, 0, none⟩) L L) L ys
  sum : Blk W sb 80 #[.int .i64 0, .int .i64 (T.N r (k + 1)), .int .i64 0, .int .i64 (T.M r (k + 1))]
  own : Blk W zb 80 #[.int .i64 (T.D r k), .int .i64 0, .int .i64 (T.C r k), .int .i64 0]
/-- The round's end: the sums and the row are laid. -/
theorem mid_round {X W : World} {zb sb : Nat} {T : Tab} {r : Int} {k L : Nat} {ys : List Value} {N' M' : Int} (h : Mid X zb sb T r k L ys W) (hk : k + 1 ≤ L) (hF : From T r (k + 1) L ys) (hN : N' = T.N r k) (hM : M' = T.M r k)
    (h1 : X.heap.size ≤ zb) (h2 : X.heap.size ≤ sb) (n1 : ¬ zb = sb) (n2 : ¬ zb = X.heap.size) (n3 : ¬ sb = X.heap.size) :
    ∃ (z : Grow X) (ys' : List Value), ((((((((W.setCell ⟨sb, 1, none⟩ (.int .i64 N')).setCell ⟨sb, 3, none⟩ (.int .i64 M')).setCell ⟨zb, 1, none⟩ (.int .i64 N')).setCell ⟨zb, 3, none⟩ (.int .i64 M')).setCell ⟨X.heap.size, k * 4, none⟩ (.int .i64 (T.D r k))).setCell
      ⟨X.heap.size, k * 4 + 1, none⟩ (.int .i64 N')).setCell ⟨X.heap.size, k * 4 + 2, none⟩ (.int .i64 (T.C r k))).setCell ⟨X.heap.size, k * 4 + 3, none⟩ (.int .i64 M')).drew = z.to ∧
      z.to.ownsRow X.heap.size 80 4 (.slice (some ⟨X.heap.size, 0, none⟩) L L) L ys' ∧ From T r k L ys' ∧ Blk z.to sb 80 #[.int .i64 0, .int .i64 (T.N r k), .int .i64 0, .int .i64 (T.M r k)] := by
  subst hN; subst hM
  have u := Up.setCell (Up.setCell (Up.setCell (Up.setCell (Up.setCell (Up.setCell (Up.setCell (Up.setCell (show Up X W from h.up) (p := ⟨sb, 1, none⟩) h2 (.int .i64 (T.N r k))) (p := ⟨sb, 3, none⟩) h2 (.int .i64 (T.M r k))) (p := ⟨zb, 1, none⟩) h1 (.int .i64 (T.N r k))) (p := ⟨zb, 3, none⟩) h1 (.int .i64 (T.M r k)))
    (p := ⟨X.heap.size, k * 4, none⟩) (Nat.le_refl _) (.int .i64 (T.D r k))) (p := ⟨X.heap.size, k * 4 + 1, none⟩) (Nat.le_refl _) (.int .i64 (T.N r k))) (p := ⟨X.heap.size, k * 4 + 2, none⟩) (Nat.le_refl _) (.int .i64 (T.C r k))) (p := ⟨X.heap.size, k * 4 + 3, none⟩) (Nat.le_refl _) (.int .i64 (T.M r k))
  obtain ⟨z, hz⟩ := Grow.mk' (show Below X.heap.size X _ from u.drew)
  have o4 := ownsRow_setCell_other (ownsRow_setCell_other (ownsRow_setCell_other (ownsRow_setCell_other h.row (a := ⟨sb, 1, none⟩) (by simp [Value.ownBlock]; omega) (.int .i64 (T.N r k))) (a := ⟨sb, 3, none⟩) (by simp [Value.ownBlock]; omega) (.int .i64 (T.M r k)))
    (a := ⟨zb, 1, none⟩) (by simp [Value.ownBlock]; omega) (.int .i64 (T.N r k))) (a := ⟨zb, 3, none⟩) (by simp [Value.ownBlock]; omega) (.int .i64 (T.M r k))
  have o8 := (((o4.stored (k * 4) (.int .i64 (T.D r k))).1.stored (k * 4 + 1) (.int .i64 (T.N r k))).1.stored (k * 4 + 2) (.int .i64 (T.C r k))).1.stored (k * 4 + 3) (.int .i64 (T.M r k))
  have s8 := (((((((h.sum.same 1 (.int .i64 (T.N r k))).same 3 (.int .i64 (T.M r k))).other (p := ⟨zb, 1, none⟩) n1 (.int .i64 (T.N r k))).other (p := ⟨zb, 3, none⟩) n1 (.int .i64 (T.M r k))).other (p := ⟨X.heap.size, k * 4, none⟩) (Ne.symm n3) (.int .i64 (T.D r k))).other
    (p := ⟨X.heap.size, k * 4 + 1, none⟩) (Ne.symm n3) (.int .i64 (T.N r k))).other (p := ⟨X.heap.size, k * 4 + 2, none⟩) (Ne.symm n3) (.int .i64 (T.C r k))).other (p := ⟨X.heap.size, k * 4 + 3, none⟩) (Ne.symm n3) (.int .i64 (T.M r k))
  have hl : ys.length = L * 4 := h.row.1
  have o9 := World.ownsRow.drew o8.1
  have s9 := s8.drew
  rw [hz] at o9 s9
  refine ⟨z, _, hz, o9, fun j hj hjL i hi => ?_, by simpa using s9⟩
  clear o9 s9 o8 s8 o4 hz u h
  by_cases e : j = k
  · subst e
    have hc : i = 0 ∨ i = 1 ∨ i = 2 ∨ i = 3 := by omega
    rcases hc with rfl | rfl | rfl | rfl <;> simp [row4, List.getElem?_set, hl] <;> omega
  · rw [List.getElem?_set_ne (by omega), List.getElem?_set_ne (by omega), List.getElem?_set_ne (by omega), List.getElem?_set_ne (by omega)]
    exact hF j (by omega) hjL i hi
def RetCols (w : World) (T : Tab) (r : Int) (e : Ending) (w' : World) : Prop := ∃ v, e = .returned v ∧ Up w w' ∧ ColsAt w' v T r

theorem i_LivesK {T : Tab} (hT : T.Ok) (k : Nat) (h2 : T.first + k ≤ 400) (v : Value) (w : World) (hv : TabAt w T v) :
    Calls Try.prog 161 #[v, .int .i64 (T.first + k)] w (Ret w (.int .i64 (T.lv k))) := by
  have h := i_Lives hT (T.first + k) (by omega) h2 v w hv
  rwa [show (T.first + k - T.first).toNat = k from by omega] at h
theorem i_DeathsK {T : Tab} (hT : T.Ok) (k : Nat) (h2 : T.first + k ≤ 300) (v : Value) (w : World) (hv : TabAt w T v) :
    Calls Try.prog 160 #[v, .int .i64 (T.first + k)] w (Ret w (.int .i64 (T.dth k))) := by
  have h := i_Deaths hT (T.first + k) (by omega) h2 v w hv
  rwa [show (T.first + k - T.first).toNat = k from by omega] at h

set_option maxRecDepth 100000 in
set_option maxHeartbeats 2000000 in
theorem i_Cols {T : Tab} (hT : T.Ok) {r : Int} (h0 : 0 ≤ r) (h1 : r ≤ 200) (v : Value) (w : World) (hv : TabAt w T v) :
    Calls Try.prog 197 #[v, .int .i64 r] w (RetCols w T r) := by
  have hv' := hv
  obtain ⟨A, c, rfl, hc, hm, _, hI⟩ := hv
  have q1 := hT.lo; have q2 := hT.hi; have q3 := hT.n120; have q4 := hT.n2; have q5 := hT.fin
  obtain ⟨L, hL⟩ : ∃ L : Nat, (L : Int) = 151 - T.first := ⟨(151 - T.first).toNat, by omega⟩
  have hL1 : 51 ≤ L := by omega
  have hL2 : L ≤ 151 := by omega
  have HL := Lib.hid hL
  have hL3 : T.first + L ≤ 151 := by omega
  have hL4 : 151 ≤ T.first + L := by omega
  clear hL
  obtain ⟨i0, hi, hz0, hz1, hz2⟩ := info_parts infoCols
  go_enter Try.func197, Try.ntmps197
  go_wp2_with (first | (go_at_call 258; refine (i_Discs r h0 h1 _).mono ?_; rintro e w' ⟨vd, rfl, hb, hown⟩; have hrd := hown.rd; obtain ⟨Ad, cd, rfl, hd1, hd2, hd3⟩ := hrd; rw [discs_len] at hown hd1 hd3 ⊢; obtain ⟨x, rfl⟩ := Grow.mk' hb) | (at_make; refine wpList_make_full _ rfl _ _ _ rfl x.to.heap.size 80 i0 _ 4 Try.underlying155 hi hz0 hz1 .i64 .i64 _ _ L rfl rfl (by omega) (by omega) (by rw [hz2]; omega) (by unfold maxLen; omega) (Nat.le_refl _) ?_; intro w1 hrow hgrow) | (go_at_call 259; refine (i_LenCols _ _ _ (by omega) _).mono ?_; rintro e w' ⟨rfl, rfl⟩))
  clear hi hz0 hz1 hz2
  have hlw := hgrow.size
  have hw1 : x.to.heap.size < w1.heap.size := (hrow.lt _ rfl).2
  obtain ⟨bd, offd, rfl, hbd, hdc⟩ := hd3.at_ (by omega)
  have hdc' : ∀ k, k < 121 → x.to.cell? ⟨bd, offd + k, none⟩ = some (.int .i64 (disc r k)) := fun k hk => by rw [hdc k hk]; show some (Value.int IntKind.i64 ((discs r 121).getD k 0)) = _; rw [discs_at r hk]
  have HD := Lib.hid hdc'
  have hup1 : Below x.to.heap.size x.to w1 := (Below.refl _ _).grown hgrow (Nat.le_refl _) (fun k hk => by cases hk)
  have hwx : w.heap.size < x.to.heap.size := by have := x.size; simp at this; omega
  clear hd3 hdc hdc' hown hb
  have HR := Lib.hid hrow
  clear hrow
  go_loopw [8] (fun i wr => ∃ (m : Nat) (z : Grow x.to) (ys : List Value), m ≤ L ∧ i = .int .i64 (m - 1) ∧ wr = z.to ∧ wr.ownsRow x.to.heap.size 80 4 (.slice (some ⟨x.to.heap.size, 0, none⟩) L L) L ys ∧ From T r m L ys ∧
      wr.heap[w1.heap.size]? = some (.cells #[.int .i64 0, .int .i64 (T.N r m), .int .i64 0, .int .i64 (T.M r m)] 80 (0, 0))) (fun i _ => (intOf i + 1).toNat)
  case atStart =>
    obtain ⟨z, hz⟩ := Grow.mk' (hup1.alloc hlw (.cells #[.int .i64 0, .int .i64 0, .int .i64 0, .int .i64 0] 80))
    refine ⟨L, z, _, Nat.le_refl _, rfl, hz, World.ownsRow.alloc HR.out _, fun j h1 h2 => by omega, ?_⟩
    rw [hT.N_end (by omega), hT.M_end (by omega)]
    exact heap_alloc_new w1 _
  case round =>
    clear hup1 HR
    obtain ⟨m, z, ys, hm, rfl, rfl, hrow, hfrom, hsum⟩ := hrel
    by_cases hm0 : m = 0
    case pos =>
      subst hm0
      have HR := Lib.hid hrow
      have HF := Lib.hid hfrom
      have hsl : (151 - T.first).toNat = L := by omega
      have HSL := Lib.hid hsl
      clear hrow hfrom hsum hsl
      go_wp2
      go_ret
      have hR := HR.out
      rcases hR.2 with ⟨h', _⟩ | ⟨g', cap', cur, h', _, hg, _, _, hcs, htake⟩
      · simp at h'
      simp only [Value.slice.injEq, Option.some.injEq, Addr.mk.injEq, and_true, true_and] at h'
      obtain ⟨rfl, rfl⟩ := h'
      refine ⟨_, rfl, (Up.grow (Up.grow (Up.alloc (Up.refl w) _) x) z), x.to.heap.size, cur, by rw [HSL.out]; rfl, hg, fun k hk i hi => ?_⟩
      rw [HSL.out] at hk
      rw [← HF.out k (by omega) hk i hi, ← htake, List.getElem?_take, if_pos (by omega)]
      simp
    obtain ⟨k, rfl⟩ : ∃ k, m = k + 1 := ⟨m - 1, by omega⟩
    have hs0 : z.to.cell? ⟨w1.heap.size, 0, none⟩ = some (.int .i64 0) := by rw [cell_of_row _ _ _ _ _ _ hsum]; rfl
    have hs1 : z.to.cell? ⟨w1.heap.size, 1, none⟩ = some (.int .i64 (T.N r (k + 1))) := by rw [cell_of_row _ _ _ _ _ _ hsum]; rfl
    have hs2 : z.to.cell? ⟨w1.heap.size, 2, none⟩ = some (.int .i64 0) := by rw [cell_of_row _ _ _ _ _ _ hsum]; rfl
    have hs3 : z.to.cell? ⟨w1.heap.size, 3, none⟩ = some (.int .i64 (T.M r (k + 1))) := by rw [cell_of_row _ _ _ _ _ _ hsum]; rfl
    have hsf : ∀ i, z.to.frozen? ⟨w1.heap.size, i, none⟩ = false := fun i => by simp [World.frozen?, hsum]
    have hsz : InW z.to w1.heap.size := (Array.getElem?_eq_some_iff.1 hsum).1
    have hgz : InW z.to x.to.heap.size := (hrow.lt _ rfl).2
    have HR := Lib.hid hrow
    have HF := Lib.hid hfrom
    have HS := Lib.hid hsum
    clear hrow hfrom hsum
    have b1 := hT.D_bd h0 k
    have b2 := hT.C_bd h0 k
    have b3 := hT.N_max h0 (k + 1)
    have b4 := hT.M_max h0 (k + 1)
    have b5 := hT.lv_bd k
    have b6 := hT.dth_bd k
    have hbx : InW z.to bd := Nat.lt_of_lt_of_le hbd z.size
    have hwz : InW z.to w.heap.size := Nat.lt_of_lt_of_le hwx z.size
    have hcw0 : z.to.cell? ⟨w.heap.size, 0, none⟩ = some (.int .i64 T.first) := by rw [z.old 0 hwx, x.box 0]; rfl
    have hcw1 : z.to.cell? ⟨w.heap.size, 1, none⟩ = some (.slice A T.n c) := by rw [z.old 1 hwx, x.box 1]; rfl
    rw [show ((k + 1 : Nat) : Int) - 1 = k from by omega]
    by_cases hk1 : (k : Int) + 1 ≤ 120
    · have hck := (z.old (offd + k) hbd).trans (HD.out k (by omega))
      have hck1 := (z.old (offd + (k + 1)) hbd).trans (HD.out (k + 1) (by omega))
      have i1 : (0 : Int) ≤ k := by omega
      have i2 : (k : Int) < 121 := by omega
      have i6 : IntKind.i64.wrap ((k : Int) + 1) = (k : Int) + 1 := IntWalk.i64_in _ (by omega)
      have i7 : (0 : Int) ≤ (k : Int) + 1 := by omega
      have i8 : (k : Int) + 1 < 121 := by omega
      have i9 : ((k : Int) + 1).toNat = k + 1 := by omega
      have i3 : IntKind.i64.wrap (T.first + k) = T.first + k := IntWalk.i64_in _ (by omega)
      have n1 : ¬ w.heap.size = z.to.heap.size := by have := z.size; omega
      have n2 : ¬ bd = z.to.heap.size := by have := z.size; omega
      have n3 : ¬ w1.heap.size = z.to.heap.size := by unfold InW at hsz; omega
      have n4 : ¬ x.to.heap.size = z.to.heap.size := by unfold InW at hgz; omega
      have m3 : ¬ z.to.heap.size = w1.heap.size := fun e => n3 e.symm
      have m4 : ¬ z.to.heap.size = x.to.heap.size := fun e => n4 e.symm
      have m5 : ¬ w1.heap.size = x.to.heap.size := by omega
      have m6 : ¬ x.to.heap.size = w1.heap.size := by omega
      have b1' := b1
      have b2' := b2
      unfold Tab.D at b1'
      unfold Tab.C at b2'
      have i4 : IntKind.i64.wrap (T.lv k * disc r k) = T.D r k := IntWalk.i64_in _ (by omega)
      have i5 : IntKind.i64.wrap (T.dth k * disc r (k + 1)) = T.C r k := IntWalk.i64_in _ (by omega)
      clear b1' b2'
      have hzs : w.heap.size ≤ z.to.heap.size := by have := z.size; omega
      go_wp2_with fail
      go_region_held3 (fun w' => w'.cell? ⟨w.heap.size, 0, none⟩ = some (.int .i64 T.first) ∧ w'.cell? ⟨w.heap.size, 1, none⟩ = some (.slice A T.n c) ∧ w'.cell? ⟨bd, offd + k, none⟩ = some (.int .i64 (disc r k))) ((repeat' apply And.intro) <;> go_simp) ((go_at_call 161; refine (i_LivesK hT k (by omega) _ _ (hv'.up (by repeat' (first | (with_reducible exact Up.refl _) | (with_reducible assumption) | (with_reducible refine Up.alloc ?_ _) | (with_reducible refine Up.drew ?_) | (with_reducible refine Up.grow ?_ _) | (with_reducible refine Up.setCell ?_ (by (try simp); (try omega)) _))))).mono ?_; rintro e w' ⟨rfl, hb⟩; obtain ⟨y, rfl⟩ := Grow.mk' hb))
      go_wp2_with fail
      go_region_held3 (fun w' => w'.cell? ⟨w.heap.size, 0, none⟩ = some (.int .i64 T.first) ∧ w'.cell? ⟨w.heap.size, 1, none⟩ = some (.slice A T.n c) ∧ w'.cell? ⟨bd, offd + (k + 1), none⟩ = some (.int .i64 (disc r (k + 1)))) ((repeat' apply And.intro) <;> go_simp) ((go_at_call 160; refine (i_DeathsK hT k (by omega) _ _ (hv'.up (by repeat' (first | (with_reducible exact Up.refl _) | (with_reducible assumption) | (with_reducible refine Up.alloc ?_ _) | (with_reducible refine Up.drew ?_) | (with_reducible refine Up.grow ?_ _) | (with_reducible refine Up.setCell ?_ (by (try simp); (try omega)) _))))).mono ?_; rintro e w' ⟨rfl, hb2⟩; obtain ⟨u, rfl⟩ := Grow.mk' hb2; have hu0 : u.to.cell? ⟨z.to.heap.size, 0, none⟩ = some (.int .i64 (T.D r k)) := (by go_simp); have hu1 : u.to.cell? ⟨z.to.heap.size, 1, none⟩ = some (.int .i64 0) := (by go_simp); have hu2 : u.to.cell? ⟨z.to.heap.size, 2, none⟩ = some (.int .i64 0) := (by go_simp); have hu3 : u.to.cell? ⟨z.to.heap.size, 3, none⟩ = some (.int .i64 0) := (by go_simp); have hv1 : u.to.cell? ⟨w1.heap.size, 1, none⟩ = some (.int .i64 (T.N r (k + 1))) := (by go_simp); have hv3 : u.to.cell? ⟨w1.heap.size, 3, none⟩ = some (.int .i64 (T.M r (k + 1))) := (by go_simp)))
      go_upto_region 12 with (fail)
      have hb' : Up z.to y.to := (Up.alloc (Up.refl _) _).drew.trans hb
      have hb2' : Up (y.to.setCell ⟨z.to.heap.size, 0, none⟩ (.int .i64 (T.D r k))) u.to := (Up.drew (Up.refl _)).trans hb2
      have hmid : Mid x.to z.to.heap.size w1.heap.size T r k L ys (u.to.setCell ⟨z.to.heap.size, 2, none⟩ (.int .i64 (T.C r k))) := by
        have c1 : Blk y.to z.to.heap.size 80 #[.int .i64 0, .int .i64 0, .int .i64 0, .int .i64 0] := (Blk.new z.to _ _).drew.up hb
        have c2 := (c1.same 0 (.int .i64 (T.D r k))).up hb2'
        have c3 := c2.same 2 (.int .i64 (T.C r k))
        have s1 : Blk y.to w1.heap.size 80 _ := Blk.up HS.out hb'
        have s2 := ((s1.other (p := ⟨z.to.heap.size, 0, none⟩) m3 (.int .i64 (T.D r k))).up hb2').other (p := ⟨z.to.heap.size, 2, none⟩) m3 (.int .i64 (T.C r k))
        have o1 := World.ownsRow.kept HR.out (grownBy_up hb') (by simp [Value.ownBlock])
        have o2 := World.ownsRow.kept (ownsRow_setCell_other o1 (a := ⟨z.to.heap.size, 0, none⟩) (by simp [Value.ownBlock]; omega) (.int .i64 (T.D r k))) (grownBy_up hb2') (by simp [Value.ownBlock])
        have o3 := ownsRow_setCell_other o2 (a := ⟨z.to.heap.size, 2, none⟩) (by simp [Value.ownBlock]; omega) (.int .i64 (T.C r k))
        refine ⟨?_, o3, s2, by simpa using c3⟩
        have u1 : Up x.to y.to := (Up.grow (Up.refl _) z).trans hb'
        have u2 : Up x.to u.to := (Up.setCell u1 (p := ⟨z.to.heap.size, 0, none⟩) z.size _).trans hb2'
        exact Up.setCell u2 (p := ⟨z.to.heap.size, 2, none⟩) z.size _
      generalize u.to.setCell ⟨z.to.heap.size, 2, none⟩ (.int .i64 (T.C r k)) = W5 at hmid ⊢
      clear hb hb2 hb' hb2' hcw0 hcw1 hs0 hs1 hs2 hs3 hsf hck hck1 hbx hwz hsz hgz
      have f0 : W5.cell? ⟨z.to.heap.size, 0, none⟩ = some (.int .i64 (T.D r k)) := by rw [hmid.own.cell]; rfl
      have f1 : W5.cell? ⟨z.to.heap.size, 1, none⟩ = some (.int .i64 0) := by rw [hmid.own.cell]; rfl
      have f2 : W5.cell? ⟨z.to.heap.size, 2, none⟩ = some (.int .i64 (T.C r k)) := by rw [hmid.own.cell]; rfl
      have f3 : W5.cell? ⟨z.to.heap.size, 3, none⟩ = some (.int .i64 0) := by rw [hmid.own.cell]; rfl
      have f4 : ∀ i, W5.frozen? ⟨z.to.heap.size, i, none⟩ = false := hmid.own.frozen
      have g1 : W5.cell? ⟨w1.heap.size, 1, none⟩ = some (.int .i64 (T.N r (k + 1))) := by rw [hmid.sum.cell]; rfl
      have g3 : W5.cell? ⟨w1.heap.size, 3, none⟩ = some (.int .i64 (T.M r (k + 1))) := by rw [hmid.sum.cell]; rfl
      have g4 : ∀ i, W5.frozen? ⟨w1.heap.size, i, none⟩ = false := hmid.sum.frozen
      have e4 : ∀ i, W5.frozen? ⟨x.to.heap.size, i, none⟩ = false := hmid.row.frozenAt
      have hyl : ys.length = L * 4 := hmid.row.1
      have hx : ∀ i, i < 4 → ∃ u, W5.cell? ⟨x.to.heap.size, k * 4 + i, none⟩ = some u := fun i hi => ⟨_, (hmid.row.cellAt (k * 4 + i) (by omega)).trans (List.getElem?_eq_getElem (by omega))⟩
      obtain ⟨v0, e0⟩ := hx 0 (by omega)
      obtain ⟨v1, e1⟩ := hx 1 (by omega)
      obtain ⟨v2, e2⟩ := hx 2 (by omega)
      obtain ⟨v3, e3⟩ := hx 3 (by omega)
      rw [Nat.add_zero] at e0
      have HM := Lib.hid hmid
      clear hmid hyl hx
      go_wp2_with fail
      go_region
      go_wp2
      go_roundw
      case rel =>
        obtain ⟨z', ys', hz, p1, p2, p3⟩ := mid_round HM.out hm HF.out (show T.N r (k + 1) + T.D r k = T.N r k by rw [hT.N_step k]; omega) (show T.M r (k + 1) + T.C r k = T.M r k by rw [hT.M_step k]; omega) z.size hlw m3 m4 m5
        exact ⟨k, z', ys', by omega, rfl, hz, by rw [hz]; exact p1, p2, by rw [hz]; exact p3⟩
      case measure => simp [intOf]
    · by_cases hk2 : (k : Int) ≤ 120
      · have hke : k = 120 := by omega
        have hck := (z.old (offd + k) hbd).trans (HD.out k (by omega))
        have i1 : (0 : Int) ≤ k := by omega
        have i2 : (k : Int) < 121 := by omega
        have i3 : IntKind.i64.wrap (T.first + k) = T.first + k := IntWalk.i64_in _ (by omega)
        have hcz : Hid (T.C r k = 0) := Lib.hid (hT.C_end (by omega))
        have b1' := b1
        unfold Tab.D at b1'
        have i4 : IntKind.i64.wrap (T.lv k * disc r k) = T.D r k := IntWalk.i64_in _ (by omega)
        clear b1' hke
        have hzs : w.heap.size ≤ z.to.heap.size := by have := z.size; omega
        have n1 : ¬ w.heap.size = z.to.heap.size := by have := z.size; omega
        have n2 : ¬ bd = z.to.heap.size := by have := z.size; omega
        have n3 : ¬ w1.heap.size = z.to.heap.size := by unfold InW at hsz; omega
        have n4 : ¬ x.to.heap.size = z.to.heap.size := by unfold InW at hgz; omega
        have m3 : ¬ z.to.heap.size = w1.heap.size := fun e => n3 e.symm
        have m4 : ¬ z.to.heap.size = x.to.heap.size := fun e => n4 e.symm
        have m5 : ¬ w1.heap.size = x.to.heap.size := by omega
        have m6 : ¬ x.to.heap.size = w1.heap.size := by omega
        go_wp2_with fail
        go_region_held3 (fun w' => w'.cell? ⟨w.heap.size, 0, none⟩ = some (.int .i64 T.first) ∧ w'.cell? ⟨w.heap.size, 1, none⟩ = some (.slice A T.n c) ∧ w'.cell? ⟨bd, offd + k, none⟩ = some (.int .i64 (disc r k))) ((repeat' apply And.intro) <;> go_simp) ((go_at_call 161; refine (i_LivesK hT k (by omega) _ _ (hv'.up (by repeat' (first | (with_reducible exact Up.refl _) | (with_reducible assumption) | (with_reducible refine Up.alloc ?_ _) | (with_reducible refine Up.drew ?_) | (with_reducible refine Up.grow ?_ _) | (with_reducible refine Up.setCell ?_ (by (try simp); (try omega)) _))))).mono ?_; rintro e w' ⟨rfl, hb⟩; obtain ⟨y, rfl⟩ := Grow.mk' hb))
        go_upto_region 12 with (fail)
        have hb' : Up z.to y.to := (Up.alloc (Up.refl _) _).drew.trans hb
        have hmid : Mid x.to z.to.heap.size w1.heap.size T r k L ys (y.to.setCell ⟨z.to.heap.size, 0, none⟩ (.int .i64 (T.D r k))) := by
          have c1 : Blk y.to z.to.heap.size 80 #[.int .i64 0, .int .i64 0, .int .i64 0, .int .i64 0] := (Blk.new z.to _ _).drew.up hb
          have c2 := c1.same 0 (.int .i64 (T.D r k))
          have s1 : Blk y.to w1.heap.size 80 _ := Blk.up HS.out hb'
          have s2 := s1.other (p := ⟨z.to.heap.size, 0, none⟩) m3 (.int .i64 (T.D r k))
          have o1 := World.ownsRow.kept HR.out (grownBy_up hb') (by simp [Value.ownBlock])
          have o2 := ownsRow_setCell_other o1 (a := ⟨z.to.heap.size, 0, none⟩) (by simp [Value.ownBlock]; omega) (.int .i64 (T.D r k))
          refine ⟨?_, o2, s2, by rw [hcz.out]; simpa using c2⟩
          have u1 : Up x.to y.to := (Up.grow (Up.refl _) z).trans hb'
          exact Up.setCell u1 (p := ⟨z.to.heap.size, 0, none⟩) z.size _
        generalize y.to.setCell ⟨z.to.heap.size, 0, none⟩ (.int .i64 (T.D r k)) = W5 at hmid ⊢
        clear hb hb' hcw0 hcw1 hs0 hs1 hs2 hs3 hsf hck hbx hwz hsz hgz
        have f0 : W5.cell? ⟨z.to.heap.size, 0, none⟩ = some (.int .i64 (T.D r k)) := by rw [hmid.own.cell]; rfl
        have f1 : W5.cell? ⟨z.to.heap.size, 1, none⟩ = some (.int .i64 0) := by rw [hmid.own.cell]; rfl
        have f2 : W5.cell? ⟨z.to.heap.size, 2, none⟩ = some (.int .i64 (T.C r k)) := by rw [hmid.own.cell]; rfl
        have f3 : W5.cell? ⟨z.to.heap.size, 3, none⟩ = some (.int .i64 0) := by rw [hmid.own.cell]; rfl
        have f4 : ∀ i, W5.frozen? ⟨z.to.heap.size, i, none⟩ = false := hmid.own.frozen
        have g1 : W5.cell? ⟨w1.heap.size, 1, none⟩ = some (.int .i64 (T.N r (k + 1))) := by rw [hmid.sum.cell]; rfl
        have g3 : W5.cell? ⟨w1.heap.size, 3, none⟩ = some (.int .i64 (T.M r (k + 1))) := by rw [hmid.sum.cell]; rfl
        have g4 : ∀ i, W5.frozen? ⟨w1.heap.size, i, none⟩ = false := hmid.sum.frozen
        have e4 : ∀ i, W5.frozen? ⟨x.to.heap.size, i, none⟩ = false := hmid.row.frozenAt
        have hyl : ys.length = L * 4 := hmid.row.1
        have hx : ∀ i, i < 4 → ∃ u, W5.cell? ⟨x.to.heap.size, k * 4 + i, none⟩ = some u := fun i hi => ⟨_, (hmid.row.cellAt (k * 4 + i) (by omega)).trans (List.getElem?_eq_getElem (by omega))⟩
        obtain ⟨v0, e0⟩ := hx 0 (by omega)
        obtain ⟨v1, e1⟩ := hx 1 (by omega)
        obtain ⟨v2, e2⟩ := hx 2 (by omega)
        obtain ⟨v3, e3⟩ := hx 3 (by omega)
        rw [Nat.add_zero] at e0
        have HM := Lib.hid hmid
        clear hmid hyl hx
        go_wp2_with fail
        go_region
        go_wp2
        go_roundw
        case rel =>
          obtain ⟨z', ys', hz, p1, p2, p3⟩ := mid_round HM.out hm HF.out (show T.N r (k + 1) + T.D r k = T.N r k by rw [hT.N_step k]; omega) (show T.M r (k + 1) + T.C r k = T.M r k by rw [hT.M_step k]; omega) z.size hlw m3 m4 m5
          exact ⟨k, z', ys', by omega, rfl, hz, by rw [hz]; exact p1, p2, by rw [hz]; exact p3⟩
        case measure => simp [intOf]
      · have hcz : Hid (T.C r k = 0) := Lib.hid (hT.C_end (by omega))
        have hdz : Hid (T.D r k = 0) := Lib.hid (hT.D_end (by omega))
        have n1 : ¬ w.heap.size = z.to.heap.size := by have := z.size; omega
        have n2 : ¬ bd = z.to.heap.size := by have := z.size; omega
        have n3 : ¬ w1.heap.size = z.to.heap.size := by unfold InW at hsz; omega
        have n4 : ¬ x.to.heap.size = z.to.heap.size := by unfold InW at hgz; omega
        have m3 : ¬ z.to.heap.size = w1.heap.size := fun e => n3 e.symm
        have m4 : ¬ z.to.heap.size = x.to.heap.size := fun e => n4 e.symm
        have m5 : ¬ w1.heap.size = x.to.heap.size := by omega
        have m6 : ¬ x.to.heap.size = w1.heap.size := by omega
        go_upto_region 12 with (fail)
        have hmid : Mid x.to z.to.heap.size w1.heap.size T r k L ys (z.to.alloc (.cells #[.int .i64 0, .int .i64 0, .int .i64 0, .int .i64 0] 80)) := by
          have c1 : Blk (z.to.alloc (.cells #[.int .i64 0, .int .i64 0, .int .i64 0, .int .i64 0] 80)) z.to.heap.size 80 #[.int .i64 0, .int .i64 0, .int .i64 0, .int .i64 0] := Blk.new z.to _ _
          refine ⟨?_, World.ownsRow.alloc HR.out _, Blk.alloc HS.out _, by rw [hcz.out, hdz.out]; exact c1⟩
          exact Up.alloc (Up.grow (Up.refl _) z) _
        generalize z.to.alloc (.cells #[.int .i64 0, .int .i64 0, .int .i64 0, .int .i64 0] 80) = W5 at hmid ⊢
        clear hcw0 hcw1 hs0 hs1 hs2 hs3 hsf hbx hwz hsz hgz
        have f0 : W5.cell? ⟨z.to.heap.size, 0, none⟩ = some (.int .i64 (T.D r k)) := by rw [hmid.own.cell]; rfl
        have f1 : W5.cell? ⟨z.to.heap.size, 1, none⟩ = some (.int .i64 0) := by rw [hmid.own.cell]; rfl
        have f2 : W5.cell? ⟨z.to.heap.size, 2, none⟩ = some (.int .i64 (T.C r k)) := by rw [hmid.own.cell]; rfl
        have f3 : W5.cell? ⟨z.to.heap.size, 3, none⟩ = some (.int .i64 0) := by rw [hmid.own.cell]; rfl
        have f4 : ∀ i, W5.frozen? ⟨z.to.heap.size, i, none⟩ = false := hmid.own.frozen
        have g1 : W5.cell? ⟨w1.heap.size, 1, none⟩ = some (.int .i64 (T.N r (k + 1))) := by rw [hmid.sum.cell]; rfl
        have g3 : W5.cell? ⟨w1.heap.size, 3, none⟩ = some (.int .i64 (T.M r (k + 1))) := by rw [hmid.sum.cell]; rfl
        have g4 : ∀ i, W5.frozen? ⟨w1.heap.size, i, none⟩ = false := hmid.sum.frozen
        have e4 : ∀ i, W5.frozen? ⟨x.to.heap.size, i, none⟩ = false := hmid.row.frozenAt
        have hyl : ys.length = L * 4 := hmid.row.1
        have hx : ∀ i, i < 4 → ∃ u, W5.cell? ⟨x.to.heap.size, k * 4 + i, none⟩ = some u := fun i hi => ⟨_, (hmid.row.cellAt (k * 4 + i) (by omega)).trans (List.getElem?_eq_getElem (by omega))⟩
        obtain ⟨v0, e0⟩ := hx 0 (by omega)
        obtain ⟨v1, e1⟩ := hx 1 (by omega)
        obtain ⟨v2, e2⟩ := hx 2 (by omega)
        obtain ⟨v3, e3⟩ := hx 3 (by omega)
        rw [Nat.add_zero] at e0
        have HM := Lib.hid hmid
        clear hmid hyl hx
        go_wp2_with fail
        go_region
        go_wp2
        go_roundw
        case rel =>
          obtain ⟨z', ys', hz, p1, p2, p3⟩ := mid_round HM.out hm HF.out (show T.N r (k + 1) + T.D r k = T.N r k by rw [hT.N_step k]; omega) (show T.M r (k + 1) + T.C r k = T.M r k by rw [hT.M_step k]; omega) z.size hlw m3 m4 m5
          exact ⟨k, z', ys', by omega, rfl, hz, by rw [hz]; exact p1, p2, by rw [hz]; exact p3⟩
        case measure => simp [intOf]
end Go.Proofs.Ytdeoampkbbbleaa
