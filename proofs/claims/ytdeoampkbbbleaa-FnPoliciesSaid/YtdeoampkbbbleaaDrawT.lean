/- Contracts of the draws of life tables: rates, MakeTable, l03Draw, l03DrawAge. Condition: a source made since W. -/
import Derived.Test.YtdeoampkbbbleaaDrawN
import Derived.Test.YtdeoampkbbbleaaNumP
import Derived.Test.YtdeoampkbbbleaaIAllIn
namespace Go.Proofs.Ytdeoampkbbbleaa
open Go.RowKit Pu
set_option linter.unusedVariables false
set_option linter.unusedSimpArgs false

theorem s_Within (A : Option Addr) (n c : Nat) (g : Nat → Int) (most lo hi : Int) (hn : n ≤ 1048576) (hm : (n : Int) ≤ most) (b : Bool) (hb : b = true ↔ ∀ i, i < n → lo ≤ g i ∧ g i ≤ hi) (w : World) (hI : Ints w A n g) :
    Calls Try.prog 251 #[.slice A n c, .int .i64 most, .int .i64 lo, .int .i64 hi] w fun e w' => e = .returned (.bool b) ∧ w = w' := by
  replace hb := Lib.hid hb
  go_enter Try.func251, Try.ntmps251
  go_wp2
  go_loop [9] (fun i => ∃ k : Nat, k ≤ n ∧ i = .int .i64 k ∧ Hid (∀ j, j < k → lo ≤ g j ∧ g j ≤ hi)) (fun i => n - (intOf i).toNat)
  case atStart => exact ⟨0, Nat.zero_le _, rfl, Lib.hid fun j hj => by omega⟩
  case round =>
    obtain ⟨k, hk, rfl, HK⟩ := hrel
    by_cases hlt : k < n
    · obtain ⟨bb, off, rfl, hlb, hcell⟩ := hI k hlt
      by_cases hr : inR (g k) lo hi = true
      · have HK2 : Hid (∀ j, j < k + 1 → lo ≤ g j ∧ g j ≤ hi) := Lib.hid fun j hj => by
          rcases Nat.lt_or_ge j k with h | h
          · exact HK.out j h
          · rw [show j = k from by omega]; exact inR_true.1 hr
        go_wp2_with (first | (go_at_call 142; (with_reducible refine (s_In _ _ _ _).mono ?_); rintro e w' ⟨rfl, rfl⟩) | (go_at_call 186; (with_reducible refine (i_In _ _ _ _).mono ?_); rintro e w' ⟨rfl, rfl⟩) | (go_at_call 222; (with_reducible refine (s_Rate _ _).mono ?_); rintro e w' ⟨rfl, rfl⟩) | (go_at_call 165; (with_reducible refine (i_Rate _ _).mono ?_); rintro e w' ⟨rfl, rfl⟩) | (go_at_call 262; (with_reducible refine (i_Years _ _).mono ?_); rintro e w' ⟨rfl, rfl⟩) | (go_at_call 227; (with_reducible refine (s_Amount6 _ _).mono ?_); rintro e w' ⟨rfl, rfl⟩) | (go_at_call 236; (with_reducible refine (s_Sum7 _ _).mono ?_); rintro e w' ⟨rfl, rfl⟩) | ((first | with_reducible refine wp_region_in x (by kernel_rfl) (by kernel_rfl) ?_ | with_reducible refine wp_region_here (by kernel_rfl) (by kernel_rfl) ?_); (repeat (go_big_quiet_step ((first | (go_at_call 142; with_reducible exact Ret.same _ (s_In _ _ _ _)) | (go_at_call 186; with_reducible exact Ret.same _ (i_In _ _ _ _)) | (go_at_call 222; with_reducible exact Ret.same _ (s_Rate _ _)) | (go_at_call 165; with_reducible exact Ret.same _ (i_Rate _ _)) | (go_at_call 262; with_reducible exact Ret.same _ (i_Years _ _)) | (go_at_call 227; with_reducible exact Ret.same _ (s_Amount6 _ _)) | (go_at_call 236; with_reducible exact Ret.same _ (s_Sum7 _ _)))))); refine wpQuiet_nil ?_; intro w' hw'; obtain ⟨x, rfl⟩ := hw'))
        go_round
        case rel => exact ⟨k + 1, by omega, by go_num, HK2⟩
        case measure => simp [intOf]; omega
      · have hbf : b = false := Bool.eq_false_iff.2 fun e => hr (inR_true.2 (hb.out.1 e k hlt))
        have hr := Bool.eq_false_iff.2 hr
        subst hbf
        go_wp2_with (first | (go_at_call 142; (with_reducible refine (s_In _ _ _ _).mono ?_); rintro e w' ⟨rfl, rfl⟩) | (go_at_call 186; (with_reducible refine (i_In _ _ _ _).mono ?_); rintro e w' ⟨rfl, rfl⟩) | (go_at_call 222; (with_reducible refine (s_Rate _ _).mono ?_); rintro e w' ⟨rfl, rfl⟩) | (go_at_call 165; (with_reducible refine (i_Rate _ _).mono ?_); rintro e w' ⟨rfl, rfl⟩) | (go_at_call 262; (with_reducible refine (i_Years _ _).mono ?_); rintro e w' ⟨rfl, rfl⟩) | (go_at_call 227; (with_reducible refine (s_Amount6 _ _).mono ?_); rintro e w' ⟨rfl, rfl⟩) | (go_at_call 236; (with_reducible refine (s_Sum7 _ _).mono ?_); rintro e w' ⟨rfl, rfl⟩) | ((first | with_reducible refine wp_region_in x (by kernel_rfl) (by kernel_rfl) ?_ | with_reducible refine wp_region_here (by kernel_rfl) (by kernel_rfl) ?_); (repeat (go_big_quiet_step ((first | (go_at_call 142; with_reducible exact Ret.same _ (s_In _ _ _ _)) | (go_at_call 186; with_reducible exact Ret.same _ (i_In _ _ _ _)) | (go_at_call 222; with_reducible exact Ret.same _ (s_Rate _ _)) | (go_at_call 165; with_reducible exact Ret.same _ (i_Rate _ _)) | (go_at_call 262; with_reducible exact Ret.same _ (i_Years _ _)) | (go_at_call 227; with_reducible exact Ret.same _ (s_Amount6 _ _)) | (go_at_call 236; with_reducible exact Ret.same _ (s_Sum7 _ _)))))); refine wpQuiet_nil ?_; intro w' hw'; obtain ⟨x, rfl⟩ := hw'))
        go_ret
        exact ⟨rfl, rfl⟩
    · have hbt : b = true := hb.out.2 fun j hj => HK.out j (by omega)
      subst hbt
      go_wp2
      go_ret
      exact ⟨rfl, rfl⟩
/-- Some rates are drawn. -/
def RetRates (W w : World) (b : Nat) (e : Ending) (w' : World) : Prop := ∃ v xs, e = .returned v ∧ Gb b w w' ∧ Src W w' b ∧ Own w w' v xs ∧ 1 ≤ xs.length ∧ xs.length ≤ 25 ∧ ∀ x ∈ xs, 0 ≤ x ∧ x ≤ 1000
theorem own_far {w w0 : World} {v xs} (h : Own w w0 v xs) : ∀ k, v.ownBlock = some k → w.heap.size ≤ k := fun k hk => (World.ownsRow.lt h k hk).1
set_option maxRecDepth 100000 in
set_option maxHeartbeats 4000000 in
theorem s_Rates {W : World} {b : Nat} (w : World) (h : Src W w b) : Calls Try.prog 256 #[.pointer (some ⟨b, 0, none⟩)] w (RetRates W w b) := by
  have hbw := h.inw
  have hWw := h.ups.size
  have hs := h
  have hg := Gb.refl b w
  have hown := Own.start w (w := w) (Nat.le_refl _)
  go_enter Try.func256, Try.ntmps256
  go_wp2_with (first | (go_at_call 183; (with_reducible refine (s_Next 20 _ (hs.up (by repeat' (first | (with_reducible exact Up.refl _) | (with_reducible assumption) | (with_reducible refine Up.alloc ?_ _) | (with_reducible refine Up.drew ?_) | (with_reducible refine Up.grow ?_ _) | (with_reducible refine Up.setCell ?_ (by (try simp); (try omega)) _))))).mono ?_); rintro e w1 ⟨z1, rfl, hz1, hg1, hs⟩; have hg := (hg.up (by repeat' (first | (with_reducible exact Up.refl _) | (with_reducible assumption) | (with_reducible refine Up.alloc ?_ _) | (with_reducible refine Up.drew ?_) | (with_reducible refine Up.grow ?_ _) | (with_reducible refine Up.setCell ?_ (by (try simp); (try omega)) _)))).trans hg1; have hown := hown.gb hbw hg1; clear hg1; obtain ⟨a0, a1, _⟩ := hz1; have a1 := a1 (by omega)) | (go_at_call 183; (with_reducible refine (s_Next 25 _ hs).mono ?_); rintro e w2 ⟨z2, rfl, hz2, hg2, hs⟩; have hg := hg.trans hg2; have hown := hown.gb hbw hg2; clear hg2; obtain ⟨c0, c1, _⟩ := hz2; have c1 := c1 (by omega)))
  obtain ⟨K, hK⟩ : ∃ K : Nat, 1 + z2 = K := ⟨(1 + z2).toNat, by omega⟩
  have hK1 : 1 ≤ K := by omega
  have hK2 : K ≤ 25 := by omega
  have HK := Lib.hid hK
  clear hK
  go_loopw [3, 4, 5] (fun o r i wr => ∃ (k : Nat) (ρ : Int) (xs : List Int), i = .int .i64 k ∧ r = .int .i64 ρ ∧ 0 ≤ ρ ∧ ρ + 30 * k ≤ 800 ∧ Hid (xs.length + k = K) ∧ Hid (∀ x ∈ xs, 0 ≤ x ∧ x ≤ 1000) ∧ Hid (Own w wr o xs) ∧ Gb b w wr ∧ Src W wr b) (fun _ _ i _ => (intOf i).toNat)
  case atStart => exact ⟨K, z1, [], by rw [← HK.out], rfl, a0, by omega, Lib.hid (by simp), Lib.hid (by simp), Lib.hid hown, hg, hs⟩
  case round =>
    clear hown hg hs
    obtain ⟨k, ρ, xs, rfl, rfl, hr0, hr1, HL, HX, HO, hg, hs⟩ := hrel
    have hlen : xs.length < 1048576 := by have := HL.out; omega
    by_cases hk0 : k = 0
    · subst hk0
      go_wp2
      go_ret
      exact ⟨_, xs, rfl, hg, hs, HO.out, by have := HL.out; omega, by have := HL.out; omega, HX.out⟩
    obtain ⟨k, rfl⟩ : ∃ k', k = k' + 1 := ⟨k - 1, by omega⟩
    have hsz := hg.size
    have hf1 := own_far HO.out
    have hf2 : ∀ k, _ = some k → W.heap.size ≤ k ∧ k ≠ b := fun k hk => ⟨by have := hf1 k hk; omega, by have := hf1 k hk; omega⟩
    have HF1 := Lib.hid hf1
    have HF2 := Lib.hid hf2
    have hpos : (0 : Int) < (k : Int) + 1 := by omega
    have i3 : IntKind.i64.wrap ((k : Int) + 1 - 1) = k := by rw [IntWalk.i64_in _ (by omega)]; omega
    clear hf1 hf2
    go_wp2_with (first | (at_builtin; refine wp_push_l (W := w) hsz HO.out rfl _ _ rfl rfl rfl hlen ?_; intro g cap w3 hown2 hg2 hat hlt; have hs := (hs.up (Up.alloc (Up.refl _) (.cells #[.int .i64 (ρ)] 2))).far hg2 HF2.out; have hg := (hg.alloc _).far hg2 HF1.out) | (go_at_call 183; (with_reducible refine (s_Next 30 _ hs).mono ?_); rintro e w4 ⟨z, rfl, hz, hg3, hs⟩; have hg := hg.trans hg3; have hown2 := hown2.gb hbw hg3; obtain ⟨d0, d1, _⟩ := hz; have d1 := d1 (by omega)))
    go_roundw
    case rel => exact ⟨k, ρ + z, xs ++ [ρ], by go_num, by go_num, by omega, by omega, Lib.hid (by have := HL.out; simp; omega), Lib.hid (by
      intro x hx
      rcases List.mem_append.1 hx with h | h
      · exact HX.out x h
      · rw [List.mem_singleton.1 h]; omega), Lib.hid hown2, hg, hs⟩
    case measure => simp [intOf]
/-- The memory of MakeTable's loop: the result, the table under way with its list. -/
structure MAt (w wr : World) (b6 b8 : Nat) (x : Int) (vo : Value) (xs : List Int) : Prop where
  up : Up w wr
  h6 : Blk wr b6 31 #[.int .i64 0, .slice none 0 0]
  h8 : Blk wr b8 31 #[.int .i64 x, vo]
  own : Own w wr vo xs
  n6 : vo.ownBlock ≠ some b6
  n8 : vo.ownBlock ≠ some b8
  d : b6 ≠ b8
  l6 : w.heap.size ≤ b6
  l8 : w.heap.size ≤ b8
theorem MAt.grow {w wr w2 : World} {b6 b8 : Nat} {x : Int} {vo : Value} {xs : List Int} (h : MAt w wr b6 b8 x vo xs) (u : Up wr w2) : MAt w w2 b6 b8 x vo xs :=
  ⟨h.up.trans u, h.h6.up u, h.h8.up u, h.own.up u, h.n6, h.n8, h.d, h.l6, h.l8⟩
theorem MAt.push {w w0 w1 : World} {b6 b8 : Nat} {x : Int} {vo : Value} {xs : List Int} {u : Int} (h : MAt w w0 b6 b8 x vo xs) (hg : (w0.alloc (.cells #[.int .i64 u] 2)).grownBy w1 vo.ownBlock) :
    Up w w1 ∧ Blk w1 b6 31 #[.int .i64 0, .slice none 0 0] ∧ Blk w1 b8 31 #[.int .i64 x, vo] := by
  refine ⟨(h.up.alloc _).far hg fun k hk => (World.ownsRow.lt h.own k hk).1, blk_far (h.h6.alloc _) hg ?_, blk_far (h.h8.alloc _) hg ?_⟩
  · intro k hk e; exact h.n6 (by rw [hk, e])
  · intro k hk e; exact h.n8 (by rw [hk, e])
theorem MAt.stored {w w0 w1 : World} {b6 b8 : Nat} {x : Int} {vo : Value} {xs : List Int} {g cap : Nat} {u : Int} (h : MAt w w0 b6 b8 x vo xs)
    (hg : (w0.alloc (.cells #[.int .i64 u] 2)).grownBy w1 vo.ownBlock) (hown : Own w w1 (.slice (some ⟨g, 0, none⟩) (xs.length + 1) cap) (xs ++ [u])) (hat : vo.ownBlock = some g ∨ g = w0.heap.size + 1) :
    MAt w (w1.setCell ⟨b8, 1, none⟩ (.slice (some ⟨g, 0, none⟩) (xs.length + 1) cap)) b6 b8 x (.slice (some ⟨g, 0, none⟩) (xs.length + 1) cap) (xs ++ [u]) := by
  obtain ⟨p0, p6, p8⟩ := h.push hg
  have ne : ∀ b, vo.ownBlock ≠ some b → InW w0 b → g ≠ b := fun b h1 h2 e => by
    rcases hat with h3 | h3
    · exact h1 (by rw [h3, e])
    · unfold InW at h2; omega
  have m6 := ne b6 h.n6 h.h6.inw; have m8 := ne b8 h.n8 h.h8.inw
  refine ⟨p0.setCell h.l8 _, p6.other (fun e => h.d e.symm) _, by simpa using p8.same 1 (.slice (some ⟨g, 0, none⟩) (xs.length + 1) cap), ownsRow_setCell_other hown (a := ⟨b8, 1, none⟩) (by simp [Value.ownBlock]; omega) _, ?_, ?_, h.d, h.l6, h.l8⟩
  · simp [Value.ownBlock]; exact m6
  · simp [Value.ownBlock]; exact m8
/-- A table of the call's own is returned, with a code of none. -/
def RetMk (w : World) (first : Int) (e : Ending) (w' : World) : Prop := ∃ v T, e = .returned (.tuple #[v, .int .i64 0]) ∧ Up w w' ∧ TabOwn w w' T v ∧ T.first = first ∧ 2 ≤ T.n ∧ T.n ≤ 27
theorem range_getD (xs : List Int) : (List.range xs.length).map (fun i => xs.getD i 0) = xs := by
  refine List.ext_getElem (by simp) fun i h1 h2 => ?_
  simp at h1
  simp [h1]
theorem cdiv_le {l g : Int} (h0 : 0 ≤ l) (g0 : 0 ≤ g) (g1 : g ≤ 1000) : 0 ≤ cdiv (l * g) 1000 ∧ cdiv (l * g) 1000 ≤ l ∧ 0 ≤ l * g ∧ l * g ≤ l * 1000 := by
  have p1 := Int.mul_nonneg h0 g0
  have p2 := Int.mul_le_mul_of_nonneg_left g1 h0
  unfold cdiv
  generalize l * g = P at *
  omega
theorem Own.one (W : World) {w : World} (h : W.heap.size ≤ w.heap.size) (u : Int) : Own W (w.alloc (.cells #[.int .i64 u] 2)) (.slice (some ⟨w.heap.size, 0, none⟩) 1 1) [u] :=
  ⟨by simp, Or.inr ⟨w.heap.size, 1, #[.int .i64 u], rfl, h, heap_alloc_new w _, Nat.le_refl _, by unfold maxLen; omega, by simp, by simp⟩⟩
theorem mk_end {w wr : World} {b6 b8 : Nat} {first : Int} {vo : Value} {ys : List Int} (h : MAt w wr b6 b8 first vo ys) (h2 : 2 ≤ ys.length) (h27 : ys.length ≤ 27) :
    RetMk w first (.returned (.tuple #[.agg #[.int .i64 first, vo], .int .i64 0])) ((wr.setCell ⟨b6, 0, none⟩ (.int .i64 first)).setCell ⟨b6, 1, none⟩ vo) := by
  obtain ⟨A, c, hvo, _, _, _⟩ := h.own.form
  refine ⟨_, ⟨first, ys.length, fun i => ys.getD i 0⟩, rfl, Up.setCell (Up.setCell h.up (p := ⟨b6, 0, none⟩) h.l6 _) (p := ⟨b6, 1, none⟩) h.l6 _, ⟨by show ys.length ≤ _; omega, A, c, by rw [hvo], ?_⟩, rfl, h2, h27⟩
  show Own w _ (.slice A ys.length c) ((List.range ys.length).map fun i => ys.getD i 0)
  rw [range_getD, ← hvo]
  exact ownsRow_setCell_other (ownsRow_setCell_other h.own (a := ⟨b6, 0, none⟩) h.n6 _) (a := ⟨b6, 1, none⟩) h.n6 _
set_option maxRecDepth 100000 in
set_option maxHeartbeats 4000000 in
theorem s_MakeA (first lives : Int) (xs : List Int) (hm : (118 : Int) ≤ 149 - first) (hf0 : 0 ≤ first) (hf1 : first ≤ 50) (hl0 : 1 ≤ lives) (hl1 : lives ≤ 1000000) (hx1 : 1 ≤ xs.length) (hx2 : xs.length ≤ 25) (hx : ∀ x ∈ xs, 0 ≤ x ∧ x ≤ 1000) (v : Value) (w : World) (hv : Rd w v xs) :
    Calls Try.prog 255 #[.int .i64 first, .int .i64 lives, v] w (RetMk w first) := by
  obtain ⟨A, c, rfl, hc, hc2, hI⟩ := hv
  obtain ⟨g, hgd⟩ : ∃ g : Nat → Int, g = fun i => xs.getD i 0 := ⟨_, rfl⟩
  rw [← hgd] at hI
  have hg : ∀ i, i < xs.length → 0 ≤ g i ∧ g i ≤ 1000 := fun i hi => by
    rw [hgd]; exact hx _ (by show xs.getD i 0 ∈ xs; rw [List.getD_eq_getElem?_getD, List.getElem?_eq_getElem hi]; exact List.getElem_mem hi)
  clear hgd hx
  generalize xs.length = n at *
  have HG := Lib.hid hg
  have HII := Lib.hid hI
  have HW : ∀ most : Int, (n : Int) ≤ most → ∀ w1, Up w w1 → Calls Try.prog 251 #[.slice A n c, .int .i64 most, .int .i64 0, .int .i64 1000] w1 fun e w' => e = .returned (.bool true) ∧ w1 = w' := fun most hm w1 hu =>
    s_Within A n c g most 0 1000 (by omega) hm true ⟨fun _ => hg, fun _ => rfl⟩ w1 (hI.up hu)
  replace HW := Lib.hid HW
  have i0 : IntKind.i64.wrap (149 - first) = 149 - first := IntWalk.i64_in _ (by omega)
  have r1 : inR first 0 100 = true := inR_true.2 ⟨by omega, by omega⟩
  have r2 : inR lives 1 1000000 = true := inR_true.2 ⟨by omega, by omega⟩
  clear hg hI
  go_enter Try.func255, Try.ntmps255
  go_wp2_with (first | (go_at_call 251; (with_reducible refine (HW.out _ (by omega) _ (by repeat' (first | (with_reducible exact Up.refl _) | (with_reducible assumption) | (with_reducible refine Up.alloc ?_ _) | (with_reducible refine Up.drew ?_) | (with_reducible refine Up.grow ?_ _) | (with_reducible refine Up.setCell ?_ (by (try simp); (try omega)) _)))).mono ?_); rintro e w' ⟨rfl, rfl⟩) | (go_at_call 142; (with_reducible refine (s_In _ _ _ _).mono ?_); rintro e w' ⟨rfl, rfl⟩) | (go_at_call 186; (with_reducible refine (i_In _ _ _ _).mono ?_); rintro e w' ⟨rfl, rfl⟩) | (go_at_call 222; (with_reducible refine (s_Rate _ _).mono ?_); rintro e w' ⟨rfl, rfl⟩) | (go_at_call 165; (with_reducible refine (i_Rate _ _).mono ?_); rintro e w' ⟨rfl, rfl⟩) | (go_at_call 262; (with_reducible refine (i_Years _ _).mono ?_); rintro e w' ⟨rfl, rfl⟩) | (go_at_call 227; (with_reducible refine (s_Amount6 _ _).mono ?_); rintro e w' ⟨rfl, rfl⟩) | (go_at_call 236; (with_reducible refine (s_Sum7 _ _).mono ?_); rintro e w' ⟨rfl, rfl⟩) | ((first | with_reducible refine wp_region_in x (by kernel_rfl) (by kernel_rfl) ?_ | with_reducible refine wp_region_here (by kernel_rfl) (by kernel_rfl) ?_); (repeat (go_big_quiet_step ((first | (go_at_call 142; with_reducible exact Ret.same _ (s_In _ _ _ _)) | (go_at_call 186; with_reducible exact Ret.same _ (i_In _ _ _ _)) | (go_at_call 222; with_reducible exact Ret.same _ (s_Rate _ _)) | (go_at_call 165; with_reducible exact Ret.same _ (i_Rate _ _)) | (go_at_call 262; with_reducible exact Ret.same _ (i_Years _ _)) | (go_at_call 227; with_reducible exact Ret.same _ (s_Amount6 _ _)) | (go_at_call 236; with_reducible exact Ret.same _ (s_Sum7 _ _)))))); refine wpQuiet_nil ?_; intro w' hw'; obtain ⟨x, rfl⟩ := hw'))
  go_loopw [1, 9] (fun lv i wr => ∃ (k : Nat) (l : Int) (vo : Value) (ys : List Int), i = .int .i64 k ∧ lv = .int .i64 l ∧ 0 ≤ l ∧ l ≤ 1000000 ∧ k ≤ n ∧ Hid (ys.length = k + 1) ∧ Hid (k = 0 → 1 ≤ l) ∧ Hid (MAt w wr w.heap.size (w.heap.size + 1 + 1) first vo ys)) (fun _ i _ => n - (intOf i).toNat)
  case atStart =>
    refine ⟨0, lives, .slice (some ⟨w.heap.size + 1, 0, none⟩) 1 1, [lives], rfl, rfl, by omega, hl1, by omega, Lib.hid rfl, Lib.hid (fun _ => hl0), Lib.hid ⟨(by repeat' (first | (with_reducible exact Up.refl _) | (with_reducible assumption) | (with_reducible refine Up.alloc ?_ _) | (with_reducible refine Up.drew ?_) | (with_reducible refine Up.grow ?_ _) | (with_reducible refine Up.setCell ?_ (by (try simp); (try omega)) _))), ((Blk.new _ _ _).alloc _).alloc _, ?_, ?_, by simp [Value.ownBlock], by simp [Value.ownBlock], by omega, by omega, by omega⟩⟩
    · simpa only [World.size_alloc] using Blk.new ((w.alloc (.cells #[.int .i64 0, .slice none 0 0] 31)).alloc (.cells #[.int .i64 lives] 2)) 31 #[.int .i64 first, .slice (some ⟨w.heap.size + 1, 0, none⟩) 1 1]
    · have h := (Own.one w (w := w.alloc (.cells #[.int .i64 0, .slice none 0 0] 31)) (by simp) lives).up (Up.alloc (Up.refl _) (.cells #[.int .i64 first, .slice (some ⟨w.heap.size + 1, 0, none⟩) 1 1] 31))
      simp only [World.size_alloc] at h
      exact h
  case round =>
    obtain ⟨k, l, vo, ys, rfl, rfl, hl0, hl1, hk, HL, HK, HJ⟩ := hrel
    generalize w.heap.size + 1 + 1 = B8 at *
    obtain ⟨A9, c9, rfl, _, _, _⟩ := HJ.out.own.form
    have hJ := HJ.out
    have hup := hJ.up
    have s0 := hJ.h8.cell 0; have s1 := hJ.h8.cell 1; have is := hJ.h8.inw; have sf := hJ.h8.frozen
    have v0 := hJ.h6.cell 0; have v1 := hJ.h6.cell 1; have vi := hJ.h6.inw; have vf := hJ.h6.frozen
    have d1 : ¬ w.heap.size = B8 := hJ.d
    have d2 : ¬ B8 = w.heap.size := fun h => hJ.d h.symm
    have hsz := hup.size
    have hlen : ys.length < 1048576 := by have := HL.out; omega
    clear hJ
    by_cases hlt : k < n
    · by_cases hpos : 0 < l
      · obtain ⟨bb, off, rfl, hlb, hcell⟩ := HII.out k hlt
        have hc1 : wr.cell? ⟨bb, off + k, none⟩ = some (.int .i64 (g k)) := (hup.cell (p := ⟨bb, off + k, none⟩) hlb).trans hcell
        have gb := HG.out k hlt
        have cd := cdiv_le hl0 gb.1 gb.2
        have HU := s_Up01 (l * g k) 1000 cd.2.2.1 (by omega) (by omega) (by omega)
        have i1 : IntKind.i64.wrap (l * g k) = l * g k := IntWalk.i64_in _ (by omega)
        generalize cdiv (l * g k) 1000 = Q at *
        replace HU := Lib.hid HU
        have i2 : IntKind.i64.wrap (l - Q) = l - Q := IntWalk.i64_in _ (by omega)
        clear hcell
        go_wp2_with (first | (at_builtin; refine wp_push_l (W := w) hsz HJ.out.own rfl _ _ rfl rfl rfl hlen ?_; intro g9 cap w1 hown2 hg2 hat hlt9; obtain ⟨u0, u6, u8⟩ := HJ.out.push hg2; have t0 := u8.cell 0; have t1 := u8.cell 1; have tf := u8.frozen; have ti := u8.inw) | (go_at_call 261; (with_reducible refine (HU.out _).mono ?_); rintro e w' ⟨rfl, rfl⟩) | (go_at_call 142; (with_reducible refine (s_In _ _ _ _).mono ?_); rintro e w' ⟨rfl, rfl⟩) | (go_at_call 186; (with_reducible refine (i_In _ _ _ _).mono ?_); rintro e w' ⟨rfl, rfl⟩) | (go_at_call 222; (with_reducible refine (s_Rate _ _).mono ?_); rintro e w' ⟨rfl, rfl⟩) | (go_at_call 165; (with_reducible refine (i_Rate _ _).mono ?_); rintro e w' ⟨rfl, rfl⟩) | (go_at_call 262; (with_reducible refine (i_Years _ _).mono ?_); rintro e w' ⟨rfl, rfl⟩) | (go_at_call 227; (with_reducible refine (s_Amount6 _ _).mono ?_); rintro e w' ⟨rfl, rfl⟩) | (go_at_call 236; (with_reducible refine (s_Sum7 _ _).mono ?_); rintro e w' ⟨rfl, rfl⟩) | ((first | with_reducible refine wp_region_in x (by kernel_rfl) (by kernel_rfl) ?_ | with_reducible refine wp_region_here (by kernel_rfl) (by kernel_rfl) ?_); (repeat (go_big_quiet_step ((first | (go_at_call 261; with_reducible exact Ret.same _ (HU.out _)) | (go_at_call 142; with_reducible exact Ret.same _ (s_In _ _ _ _)) | (go_at_call 186; with_reducible exact Ret.same _ (i_In _ _ _ _)) | (go_at_call 222; with_reducible exact Ret.same _ (s_Rate _ _)) | (go_at_call 165; with_reducible exact Ret.same _ (i_Rate _ _)) | (go_at_call 262; with_reducible exact Ret.same _ (i_Years _ _)) | (go_at_call 227; with_reducible exact Ret.same _ (s_Amount6 _ _)) | (go_at_call 236; with_reducible exact Ret.same _ (s_Sum7 _ _)))))); refine wpQuiet_nil ?_; intro w' hw'; obtain ⟨x, rfl⟩ := hw'))
        go_roundw
        case rel => exact ⟨k + 1, l - Q, _, ys ++ [l - Q], by go_num, rfl, by omega, by omega, by omega, Lib.hid (by have := HL.out; simp; omega), Lib.hid (fun h => by omega), Lib.hid (HJ.out.stored hg2 hown2 hat)⟩
        case measure => simp [intOf]; omega
      · have hl00 : l = 0 := by omega
        have HK0 : Hid (1 ≤ k) := Lib.hid (by
          rcases Nat.eq_zero_or_pos k with h | h
          · have := HK.out h; omega
          · exact h)
        go_wp2
        refine bodyPost_ret (v := .tuple #[.agg #[.int .i64 first, .slice A9 ys.length c9], .int .i64 0]) (by simp [results, Try.results255, go_sem, v0, v1, vi]) rfl ?_
        exact mk_end HJ.out (by have := HL.out; have := HK0.out; omega) (by have := HL.out; omega)
    · by_cases hpos : 0 < l
      · go_wp2_with (at_builtin; refine wp_push_l (W := w) hsz HJ.out.own rfl _ _ rfl rfl rfl hlen ?_; intro g9 cap w1 hown2 hg2 hat hlt9; obtain ⟨u0, u6, u8⟩ := HJ.out.push hg2; have t0 := u8.cell 0; have t1 := u8.cell 1; have tf := u8.frozen; have ti := u8.inw; have q0 := u6.cell 0; have q1 := u6.cell 1; have qf := u6.frozen; have qi := u6.inw)
        refine bodyPost_ret (v := .tuple #[.agg #[.int .i64 first, .slice (some ⟨g9, 0, none⟩) (ys.length + 1) cap], .int .i64 0]) (by simp [results, Try.results255, go_sem, q0, q1, qi, d1, d2]) rfl ?_
        exact mk_end (HJ.out.stored hg2 hown2 hat) (by have := HL.out; simp; omega) (by have := HL.out; simp; omega)
      · go_wp2
        refine bodyPost_ret (v := .tuple #[.agg #[.int .i64 first, .slice A9 ys.length c9], .int .i64 0]) (by simp [results, Try.results255, go_sem, v0, v1, vi]) rfl ?_
        exact mk_end HJ.out (by have := HL.out; omega) (by have := HL.out; omega)
set_option maxRecDepth 100000 in
set_option maxHeartbeats 4000000 in
theorem s_MakeB (first lives : Int) (xs : List Int) (hm : ¬ (118 : Int) ≤ 149 - first) (hf0 : 0 ≤ first) (hf1 : first ≤ 50) (hl0 : 1 ≤ lives) (hl1 : lives ≤ 1000000) (hx1 : 1 ≤ xs.length) (hx2 : xs.length ≤ 25) (hx : ∀ x ∈ xs, 0 ≤ x ∧ x ≤ 1000) (v : Value) (w : World) (hv : Rd w v xs) :
    Calls Try.prog 255 #[.int .i64 first, .int .i64 lives, v] w (RetMk w first) := by
  obtain ⟨A, c, rfl, hc, hc2, hI⟩ := hv
  obtain ⟨g, hgd⟩ : ∃ g : Nat → Int, g = fun i => xs.getD i 0 := ⟨_, rfl⟩
  rw [← hgd] at hI
  have hg : ∀ i, i < xs.length → 0 ≤ g i ∧ g i ≤ 1000 := fun i hi => by
    rw [hgd]; exact hx _ (by show xs.getD i 0 ∈ xs; rw [List.getD_eq_getElem?_getD, List.getElem?_eq_getElem hi]; exact List.getElem_mem hi)
  clear hgd hx
  generalize xs.length = n at *
  have HG := Lib.hid hg
  have HII := Lib.hid hI
  have HW : ∀ most : Int, (n : Int) ≤ most → ∀ w1, Up w w1 → Calls Try.prog 251 #[.slice A n c, .int .i64 most, .int .i64 0, .int .i64 1000] w1 fun e w' => e = .returned (.bool true) ∧ w1 = w' := fun most hm w1 hu =>
    s_Within A n c g most 0 1000 (by omega) hm true ⟨fun _ => hg, fun _ => rfl⟩ w1 (hI.up hu)
  replace HW := Lib.hid HW
  have i0 : IntKind.i64.wrap (149 - first) = 149 - first := IntWalk.i64_in _ (by omega)
  have r1 : inR first 0 100 = true := inR_true.2 ⟨by omega, by omega⟩
  have r2 : inR lives 1 1000000 = true := inR_true.2 ⟨by omega, by omega⟩
  clear hg hI
  go_enter Try.func255, Try.ntmps255
  go_wp2_with (first | (go_at_call 251; (with_reducible refine (HW.out _ (by omega) _ (by repeat' (first | (with_reducible exact Up.refl _) | (with_reducible assumption) | (with_reducible refine Up.alloc ?_ _) | (with_reducible refine Up.drew ?_) | (with_reducible refine Up.grow ?_ _) | (with_reducible refine Up.setCell ?_ (by (try simp); (try omega)) _)))).mono ?_); rintro e w' ⟨rfl, rfl⟩) | (go_at_call 142; (with_reducible refine (s_In _ _ _ _).mono ?_); rintro e w' ⟨rfl, rfl⟩) | (go_at_call 186; (with_reducible refine (i_In _ _ _ _).mono ?_); rintro e w' ⟨rfl, rfl⟩) | (go_at_call 222; (with_reducible refine (s_Rate _ _).mono ?_); rintro e w' ⟨rfl, rfl⟩) | (go_at_call 165; (with_reducible refine (i_Rate _ _).mono ?_); rintro e w' ⟨rfl, rfl⟩) | (go_at_call 262; (with_reducible refine (i_Years _ _).mono ?_); rintro e w' ⟨rfl, rfl⟩) | (go_at_call 227; (with_reducible refine (s_Amount6 _ _).mono ?_); rintro e w' ⟨rfl, rfl⟩) | (go_at_call 236; (with_reducible refine (s_Sum7 _ _).mono ?_); rintro e w' ⟨rfl, rfl⟩) | ((first | with_reducible refine wp_region_in x (by kernel_rfl) (by kernel_rfl) ?_ | with_reducible refine wp_region_here (by kernel_rfl) (by kernel_rfl) ?_); (repeat (go_big_quiet_step ((first | (go_at_call 142; with_reducible exact Ret.same _ (s_In _ _ _ _)) | (go_at_call 186; with_reducible exact Ret.same _ (i_In _ _ _ _)) | (go_at_call 222; with_reducible exact Ret.same _ (s_Rate _ _)) | (go_at_call 165; with_reducible exact Ret.same _ (i_Rate _ _)) | (go_at_call 262; with_reducible exact Ret.same _ (i_Years _ _)) | (go_at_call 227; with_reducible exact Ret.same _ (s_Amount6 _ _)) | (go_at_call 236; with_reducible exact Ret.same _ (s_Sum7 _ _)))))); refine wpQuiet_nil ?_; intro w' hw'; obtain ⟨x, rfl⟩ := hw'))
  go_loopw [1, 9] (fun lv i wr => ∃ (k : Nat) (l : Int) (vo : Value) (ys : List Int), i = .int .i64 k ∧ lv = .int .i64 l ∧ 0 ≤ l ∧ l ≤ 1000000 ∧ k ≤ n ∧ Hid (ys.length = k + 1) ∧ Hid (k = 0 → 1 ≤ l) ∧ Hid (MAt w wr w.heap.size (w.heap.size + 1 + 1) first vo ys)) (fun _ i _ => n - (intOf i).toNat)
  case atStart =>
    refine ⟨0, lives, .slice (some ⟨w.heap.size + 1, 0, none⟩) 1 1, [lives], rfl, rfl, by omega, hl1, by omega, Lib.hid rfl, Lib.hid (fun _ => hl0), Lib.hid ⟨(by repeat' (first | (with_reducible exact Up.refl _) | (with_reducible assumption) | (with_reducible refine Up.alloc ?_ _) | (with_reducible refine Up.drew ?_) | (with_reducible refine Up.grow ?_ _) | (with_reducible refine Up.setCell ?_ (by (try simp); (try omega)) _))), ((Blk.new _ _ _).alloc _).alloc _, ?_, ?_, by simp [Value.ownBlock], by simp [Value.ownBlock], by omega, by omega, by omega⟩⟩
    · simpa only [World.size_alloc] using Blk.new ((w.alloc (.cells #[.int .i64 0, .slice none 0 0] 31)).alloc (.cells #[.int .i64 lives] 2)) 31 #[.int .i64 first, .slice (some ⟨w.heap.size + 1, 0, none⟩) 1 1]
    · have h := (Own.one w (w := w.alloc (.cells #[.int .i64 0, .slice none 0 0] 31)) (by simp) lives).up (Up.alloc (Up.refl _) (.cells #[.int .i64 first, .slice (some ⟨w.heap.size + 1, 0, none⟩) 1 1] 31))
      simp only [World.size_alloc] at h
      exact h
  case round =>
    obtain ⟨k, l, vo, ys, rfl, rfl, hl0, hl1, hk, HL, HK, HJ⟩ := hrel
    generalize w.heap.size + 1 + 1 = B8 at *
    obtain ⟨A9, c9, rfl, _, _, _⟩ := HJ.out.own.form
    have hJ := HJ.out
    have hup := hJ.up
    have s0 := hJ.h8.cell 0; have s1 := hJ.h8.cell 1; have is := hJ.h8.inw; have sf := hJ.h8.frozen
    have v0 := hJ.h6.cell 0; have v1 := hJ.h6.cell 1; have vi := hJ.h6.inw; have vf := hJ.h6.frozen
    have d1 : ¬ w.heap.size = B8 := hJ.d
    have d2 : ¬ B8 = w.heap.size := fun h => hJ.d h.symm
    have hsz := hup.size
    have hlen : ys.length < 1048576 := by have := HL.out; omega
    clear hJ
    by_cases hlt : k < n
    · by_cases hpos : 0 < l
      · obtain ⟨bb, off, rfl, hlb, hcell⟩ := HII.out k hlt
        have hc1 : wr.cell? ⟨bb, off + k, none⟩ = some (.int .i64 (g k)) := (hup.cell (p := ⟨bb, off + k, none⟩) hlb).trans hcell
        have gb := HG.out k hlt
        have cd := cdiv_le hl0 gb.1 gb.2
        have HU := s_Up01 (l * g k) 1000 cd.2.2.1 (by omega) (by omega) (by omega)
        have i1 : IntKind.i64.wrap (l * g k) = l * g k := IntWalk.i64_in _ (by omega)
        generalize cdiv (l * g k) 1000 = Q at *
        replace HU := Lib.hid HU
        have i2 : IntKind.i64.wrap (l - Q) = l - Q := IntWalk.i64_in _ (by omega)
        clear hcell
        go_wp2_with (first | (at_builtin; refine wp_push_l (W := w) hsz HJ.out.own rfl _ _ rfl rfl rfl hlen ?_; intro g9 cap w1 hown2 hg2 hat hlt9; obtain ⟨u0, u6, u8⟩ := HJ.out.push hg2; have t0 := u8.cell 0; have t1 := u8.cell 1; have tf := u8.frozen; have ti := u8.inw) | (go_at_call 261; (with_reducible refine (HU.out _).mono ?_); rintro e w' ⟨rfl, rfl⟩) | (go_at_call 142; (with_reducible refine (s_In _ _ _ _).mono ?_); rintro e w' ⟨rfl, rfl⟩) | (go_at_call 186; (with_reducible refine (i_In _ _ _ _).mono ?_); rintro e w' ⟨rfl, rfl⟩) | (go_at_call 222; (with_reducible refine (s_Rate _ _).mono ?_); rintro e w' ⟨rfl, rfl⟩) | (go_at_call 165; (with_reducible refine (i_Rate _ _).mono ?_); rintro e w' ⟨rfl, rfl⟩) | (go_at_call 262; (with_reducible refine (i_Years _ _).mono ?_); rintro e w' ⟨rfl, rfl⟩) | (go_at_call 227; (with_reducible refine (s_Amount6 _ _).mono ?_); rintro e w' ⟨rfl, rfl⟩) | (go_at_call 236; (with_reducible refine (s_Sum7 _ _).mono ?_); rintro e w' ⟨rfl, rfl⟩) | ((first | with_reducible refine wp_region_in x (by kernel_rfl) (by kernel_rfl) ?_ | with_reducible refine wp_region_here (by kernel_rfl) (by kernel_rfl) ?_); (repeat (go_big_quiet_step ((first | (go_at_call 261; with_reducible exact Ret.same _ (HU.out _)) | (go_at_call 142; with_reducible exact Ret.same _ (s_In _ _ _ _)) | (go_at_call 186; with_reducible exact Ret.same _ (i_In _ _ _ _)) | (go_at_call 222; with_reducible exact Ret.same _ (s_Rate _ _)) | (go_at_call 165; with_reducible exact Ret.same _ (i_Rate _ _)) | (go_at_call 262; with_reducible exact Ret.same _ (i_Years _ _)) | (go_at_call 227; with_reducible exact Ret.same _ (s_Amount6 _ _)) | (go_at_call 236; with_reducible exact Ret.same _ (s_Sum7 _ _)))))); refine wpQuiet_nil ?_; intro w' hw'; obtain ⟨x, rfl⟩ := hw'))
        go_roundw
        case rel => exact ⟨k + 1, l - Q, _, ys ++ [l - Q], by go_num, rfl, by omega, by omega, by omega, Lib.hid (by have := HL.out; simp; omega), Lib.hid (fun h => by omega), Lib.hid (HJ.out.stored hg2 hown2 hat)⟩
        case measure => simp [intOf]; omega
      · have hl00 : l = 0 := by omega
        have HK0 : Hid (1 ≤ k) := Lib.hid (by
          rcases Nat.eq_zero_or_pos k with h | h
          · have := HK.out h; omega
          · exact h)
        go_wp2
        refine bodyPost_ret (v := .tuple #[.agg #[.int .i64 first, .slice A9 ys.length c9], .int .i64 0]) (by simp [results, Try.results255, go_sem, v0, v1, vi]) rfl ?_
        exact mk_end HJ.out (by have := HL.out; have := HK0.out; omega) (by have := HL.out; omega)
    · by_cases hpos : 0 < l
      · go_wp2_with (at_builtin; refine wp_push_l (W := w) hsz HJ.out.own rfl _ _ rfl rfl rfl hlen ?_; intro g9 cap w1 hown2 hg2 hat hlt9; obtain ⟨u0, u6, u8⟩ := HJ.out.push hg2; have t0 := u8.cell 0; have t1 := u8.cell 1; have tf := u8.frozen; have ti := u8.inw; have q0 := u6.cell 0; have q1 := u6.cell 1; have qf := u6.frozen; have qi := u6.inw)
        refine bodyPost_ret (v := .tuple #[.agg #[.int .i64 first, .slice (some ⟨g9, 0, none⟩) (ys.length + 1) cap], .int .i64 0]) (by simp [results, Try.results255, go_sem, q0, q1, qi, d1, d2]) rfl ?_
        exact mk_end (HJ.out.stored hg2 hown2 hat) (by have := HL.out; simp; omega) (by have := HL.out; simp; omega)
      · go_wp2
        refine bodyPost_ret (v := .tuple #[.agg #[.int .i64 first, .slice A9 ys.length c9], .int .i64 0]) (by simp [results, Try.results255, go_sem, v0, v1, vi]) rfl ?_
        exact mk_end HJ.out (by have := HL.out; omega) (by have := HL.out; omega)
end Go.Proofs.Ytdeoampkbbbleaa
