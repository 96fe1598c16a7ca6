/- Contract of the program's jointTable. Condition: two valid tables and lives at both ages. -/
import Derived.Test.YtdeoampkbbbleaaJoint
namespace Go.Proofs.Ytdeoampkbbbleaa
open Go.RowKit Pu

section
variable {T U : Tab} (hT : T.Ok) (hU : U.Ok) {i j : Nat} (hi : i + 1 < T.n) (hj : j + 1 < U.n) (hy : U.first + j ≤ 150)
include hT hU hi hj hy
set_option maxRecDepth 100000 in
set_option maxHeartbeats 2000000 in
theorem i_Joint (v u : Value) (w : World) (hv : TabAt w T v) (hu : TabAt w U u) :
    Calls Try.prog 190 #[v, .int .i64 (T.first + i), u, .int .i64 (U.first + j)] w (RetT w (T.joint U (T.first + i) i j)) := by
  have hv' := hv
  have hu' := hu
  obtain ⟨A, c, rfl, hc, hm, _, hI⟩ := hv
  obtain ⟨A2, c2, rfl, hc2, hm2, _, hI2⟩ := hu
  have q1 := hT.lo; have q2 := hT.hi; have q3 := hT.n120; have q4 := hT.n2; have q5 := hT.fin
  have r1 := hU.lo; have r2 := hU.hi; have r3 := hU.n120; have r4 := hU.n2; have r5 := hU.fin
  have HY := Lib.hid (i_LivesK hU j (by omega))
  clear hI hI2
  go_enter Try.func190, Try.ntmps190
  go_wp2
  go_loopw [10] (fun p wr => ∃ (k : Nat) (vo : Value), p = .int .i64 k ∧ Hid (k + i + 1 ≤ T.n ∧ (∀ l, l < k → T.both U i j l ≠ 0)) ∧ Hid (JAt w wr w.heap.size (w.heap.size + 1) (w.heap.size + 1 + 1) (w.heap.size + 1 + 1 + 1) #[.int .i64 T.first, .slice A T.n c] #[.int .i64 U.first, .slice A2 U.n c2] (T.first + i) vo ((List.range k).map (T.both U i j)))) (fun p _ => T.n - (intOf p).toNat)
  case atStart =>
    refine ⟨0, .slice none 0 0, rfl, Lib.hid ⟨by omega, fun l hl => by omega⟩, Lib.hid ⟨(by repeat' (first | (with_reducible exact Up.refl _) | (with_reducible assumption) | (with_reducible refine Up.alloc ?_ _) | (with_reducible refine Up.drew ?_) | (with_reducible refine Up.grow ?_ _) | (with_reducible refine Up.setCell ?_ (by (try simp); (try omega)) _))), ?_, ?_, ?_, ?_, Own.nil _ _, by simp [Value.ownBlock], by simp [Value.ownBlock], by simp [Value.ownBlock], by simp [Value.ownBlock], by omega, by omega, by omega, by omega, by omega⟩⟩
    · exact (((Blk.new _ _ _).alloc _).alloc _).alloc _
    · have h := ((Blk.new (w.alloc (.cells #[.int .i64 T.first, .slice A T.n c] 31)) 31 #[.int .i64 U.first, .slice A2 U.n c2]).alloc (.cells #[.int .i64 0, .slice none 0 0] 31)).alloc (.cells #[.int .i64 (T.first + i), .slice none 0 0] 31)
      simpa only [World.size_alloc] using h
    · have h := (Blk.new ((w.alloc (.cells #[.int .i64 T.first, .slice A T.n c] 31)).alloc (.cells #[.int .i64 U.first, .slice A2 U.n c2] 31)) 31 #[.int .i64 0, .slice none 0 0]).alloc (.cells #[.int .i64 (T.first + i), .slice none 0 0] 31)
      simpa only [World.size_alloc] using h
    · have h := Blk.new (((w.alloc (.cells #[.int .i64 T.first, .slice A T.n c] 31)).alloc (.cells #[.int .i64 U.first, .slice A2 U.n c2] 31)).alloc (.cells #[.int .i64 0, .slice none 0 0] 31)) 31 #[.int .i64 (T.first + i), .slice none 0 0]
      simpa only [World.size_alloc] using h
  case round =>
    obtain ⟨k, vo, rfl, HK, HJ⟩ := hrel
    generalize w.heap.size + 1 + 1 + 1 = B9 at *
    generalize w.heap.size + 1 + 1 = B8 at *
    generalize w.heap.size + 1 = B6 at *
    have hJ := HJ.out
    have hup := hJ.up
    have t0 := hJ.h4.cell 0; have t1 := hJ.h4.cell 1
    have s0 := hJ.h6.cell 0; have s1 := hJ.h6.cell 1
    have o0 := hJ.h9.cell 0; have o1 := hJ.h9.cell 1
    have it := hJ.h4.inw; have is := hJ.h6.inw; have io := hJ.h9.inw
    have l9 := hJ.l9; have l8 := hJ.l8
    have d1 : ¬ B8 = B9 := hJ.d8
    have d2 : ¬ B9 = B8 := fun h => hJ.d8 h.symm
    clear hJ
    have hk := HK.out.1
    obtain ⟨a1, a2, a3, a4, a5, a6, a7⟩ := both_nums hT hU hi hj k
    have HX := Lib.hid (i_LivesKM hT i k (by omega))
    have HZ := Lib.hid (i_LivesKM hU j k (by omega))
    have EB : Hid (T.both U i j k = T.lv (i + k) * U.lv (j + k) / U.lv j) := Lib.hid rfl
    have EL := Lib.hid (snoc_map (T.both U i j) k)
    have i1 : IntKind.i64.wrap (T.first + i + k) = T.first + i + k := IntWalk.i64_in _ (by omega)
    have i2 : IntKind.i64.wrap (U.first + j + k) = U.first + j + k := IntWalk.i64_in _ (by omega)
    have bb := hT.both_bd hU hi hj k
    have tl := hT.lv_bd (i + k)
    obtain ⟨B, hB⟩ : ∃ B, B = T.both U i j k := ⟨_, rfl⟩
    rw [← hB] at bb
    have e5 : T.lv (i + k) * U.lv (j + k) / U.lv j = B := hB.symm
    have i3 : IntKind.i64.wrap (T.lv (i + k) * U.lv (j + k)) = T.lv (i + k) * U.lv (j + k) := IntWalk.i64_in _ (by omega)
    have i4 : IntKind.i64.wrap (T.lv (i + k) * U.lv (j + k) / U.lv j) = B := by rw [e5]; exact IntWalk.i64_in _ (by omega)
    have HB := Lib.hid hB
    have hn0 : (U.lv j == 0) = false := by simp; omega
    clear hB
    by_cases hz : B = 0
    · have HZ0 := Lib.hid hz
      rw [hz] at i4 e5
      clear hz bb
      go_wp2_with (first | (at_builtin; refine wp_push_l (by have := hup.size; have := x.size; omega) (HJ.out.own.up x.below) rfl _ _ rfl rfl rfl (by simp; omega) ?_; intro g cap w1 hown2 hg2 hat hlt; obtain ⟨u0, u4, u6, u8, u9⟩ := (HJ.out.grow x.below).push (g := g) (cap := cap) hg2; have v0 := u8.cell 0; have v1 := u8.cell 1; have v2 := u9.cell 0; have v3 := u9.cell 1; have z8 := u8.frozen; have z9 := u9.frozen; have j8 := u8.inw; have j9 := u9.inw) | (go_at_call 161; (with_reducible refine (HX.out _ _ (hv'.up (by repeat' (first | (with_reducible exact Up.refl _) | (with_reducible assumption) | (with_reducible refine Up.alloc ?_ _) | (with_reducible refine Up.drew ?_) | (with_reducible refine Up.grow ?_ _) | (with_reducible refine Up.setCell ?_ (by (try simp); (try omega)) _))))).mono ?_); rintro e w' ⟨rfl, hb⟩; first | (obtain ⟨x, rfl⟩ := Grow.on x hb) | (obtain ⟨x, rfl⟩ := Grow.mk' hb)) | (go_at_call 161; (with_reducible refine (HZ.out _ _ (hu'.up (by repeat' (first | (with_reducible exact Up.refl _) | (with_reducible assumption) | (with_reducible refine Up.alloc ?_ _) | (with_reducible refine Up.drew ?_) | (with_reducible refine Up.grow ?_ _) | (with_reducible refine Up.setCell ?_ (by (try simp); (try omega)) _))))).mono ?_); rintro e w' ⟨rfl, hb⟩; first | (obtain ⟨x, rfl⟩ := Grow.on x hb) | (obtain ⟨x, rfl⟩ := Grow.mk' hb)) | (go_at_call 161; (with_reducible refine (HY.out _ _ (hu'.up (by repeat' (first | (with_reducible exact Up.refl _) | (with_reducible assumption) | (with_reducible refine Up.alloc ?_ _) | (with_reducible refine Up.drew ?_) | (with_reducible refine Up.grow ?_ _) | (with_reducible refine Up.setCell ?_ (by (try simp); (try omega)) _))))).mono ?_); rintro e w' ⟨rfl, hb⟩; first | (obtain ⟨x, rfl⟩ := Grow.on x hb) | (obtain ⟨x, rfl⟩ := Grow.mk' hb)) | (go_at_call 142; (with_reducible refine (s_In _ _ _ _).mono ?_); rintro e w' ⟨rfl, rfl⟩) | (go_at_call 186; (with_reducible refine (i_In _ _ _ _).mono ?_); rintro e w' ⟨rfl, rfl⟩) | (go_at_call 222; (with_reducible refine (s_Rate _ _).mono ?_); rintro e w' ⟨rfl, rfl⟩) | (go_at_call 165; (with_reducible refine (i_Rate _ _).mono ?_); rintro e w' ⟨rfl, rfl⟩) | (go_at_call 262; (with_reducible refine (i_Years _ _).mono ?_); rintro e w' ⟨rfl, rfl⟩) | (go_at_call 227; (with_reducible refine (s_Amount6 _ _).mono ?_); rintro e w' ⟨rfl, rfl⟩) | (go_at_call 236; (with_reducible refine (s_Sum7 _ _).mono ?_); rintro e w' ⟨rfl, rfl⟩) | ((first | with_reducible refine wp_region_in x (by kernel_rfl) (by kernel_rfl) ?_ | with_reducible refine wp_region_here (by kernel_rfl) (by kernel_rfl) ?_); (repeat (go_big_quiet_step ((first | (go_at_call 161; with_reducible exact Ret.grow _ (HX.out _ _ (hv'.up (by repeat' (first | (with_reducible exact Up.refl _) | (with_reducible assumption) | (with_reducible refine Up.alloc ?_ _) | (with_reducible refine Up.drew ?_) | (with_reducible refine Up.grow ?_ _) | (with_reducible refine Up.setCell ?_ (by (try simp); (try omega)) _)))))) | (go_at_call 161; with_reducible exact Ret.grow _ (HZ.out _ _ (hu'.up (by repeat' (first | (with_reducible exact Up.refl _) | (with_reducible assumption) | (with_reducible refine Up.alloc ?_ _) | (with_reducible refine Up.drew ?_) | (with_reducible refine Up.grow ?_ _) | (with_reducible refine Up.setCell ?_ (by (try simp); (try omega)) _)))))) | (go_at_call 161; with_reducible exact Ret.grow _ (HY.out _ _ (hu'.up (by repeat' (first | (with_reducible exact Up.refl _) | (with_reducible assumption) | (with_reducible refine Up.alloc ?_ _) | (with_reducible refine Up.drew ?_) | (with_reducible refine Up.grow ?_ _) | (with_reducible refine Up.setCell ?_ (by (try simp); (try omega)) _)))))) | (go_at_call 142; with_reducible exact Ret.same _ (s_In _ _ _ _)) | (go_at_call 186; with_reducible exact Ret.same _ (i_In _ _ _ _)) | (go_at_call 222; with_reducible exact Ret.same _ (s_Rate _ _)) | (go_at_call 165; with_reducible exact Ret.same _ (i_Rate _ _)) | (go_at_call 262; with_reducible exact Ret.same _ (i_Years _ _)) | (go_at_call 227; with_reducible exact Ret.same _ (s_Amount6 _ _)) | (go_at_call 236; with_reducible exact Ret.same _ (s_Sum7 _ _)))))); refine wpQuiet_nil ?_; intro w' hw'; obtain ⟨x, rfl⟩ := hw'))
      refine bodyPost_ret (v := .agg #[.int .i64 (T.first + i), .slice (some ⟨g, 0, none⟩) (k + 1) cap]) (by simp [results, Try.results190, go_sem, v0, v1]) rfl ?_
      have JS := (HJ.out.grow x.below).stored hg2 hown2 hat
      have hfz := joint_end hT hU hi hj (show T.both U i j k = 0 by rw [← HB.out, HZ0.out]) HK.out.2
      have hJn : (T.joint U (T.first + i) i j).n = k + 1 := by show fz _ _ _ + 1 = k + 1; rw [hfz]
      have g8 : g ≠ B8 := by have h := JS.n8; simpa [Value.ownBlock] using h
      have o1 := ownsRow_setCell_other (ownsRow_setCell_other JS.own (a := ⟨B8, 0, none⟩) (by simp [Value.ownBlock]; omega) (.int .i64 (T.first + i))) (a := ⟨B8, 1, none⟩) (by simp [Value.ownBlock]; omega) (.slice (some ⟨g, 0, none⟩) (k + 1) cap)
      simp only [List.length_map, List.length_range] at o1
      refine ⟨_, rfl, (by repeat' (first | (with_reducible exact Up.refl _) | (with_reducible assumption) | (with_reducible refine Up.alloc ?_ _) | (with_reducible refine Up.drew ?_) | (with_reducible refine Up.grow ?_ _) | (with_reducible refine Up.setCell ?_ (by (try simp); (try omega)) _))), by rw [hJn]; omega, some ⟨g, 0, none⟩, cap, by rw [hJn]; rfl, ?_⟩
      rw [hJn]
      show Own w _ _ ((List.range (k + 1)).map (T.both U i j))
      rw [EL.out, ← HB.out, HZ0.out]
      exact o1
    · have hz1 : (B == 0) = false := by simpa using hz
      have HZ0 := Lib.hid hz
      clear hz
      go_wp2_with (first | (at_builtin; refine wp_push_l (by have := hup.size; have := x.size; omega) (HJ.out.own.up x.below) rfl _ _ rfl rfl rfl (by simp; omega) ?_; intro g cap w1 hown2 hg2 hat hlt; obtain ⟨u0, u4, u6, u8, u9⟩ := (HJ.out.grow x.below).push (g := g) (cap := cap) hg2; have v0 := u8.cell 0; have v1 := u8.cell 1; have v2 := u9.cell 0; have v3 := u9.cell 1; have z8 := u8.frozen; have z9 := u9.frozen; have j8 := u8.inw; have j9 := u9.inw) | (go_at_call 161; (with_reducible refine (HX.out _ _ (hv'.up (by repeat' (first | (with_reducible exact Up.refl _) | (with_reducible assumption) | (with_reducible refine Up.alloc ?_ _) | (with_reducible refine Up.drew ?_) | (with_reducible refine Up.grow ?_ _) | (with_reducible refine Up.setCell ?_ (by (try simp); (try omega)) _))))).mono ?_); rintro e w' ⟨rfl, hb⟩; first | (obtain ⟨x, rfl⟩ := Grow.on x hb) | (obtain ⟨x, rfl⟩ := Grow.mk' hb)) | (go_at_call 161; (with_reducible refine (HZ.out _ _ (hu'.up (by repeat' (first | (with_reducible exact Up.refl _) | (with_reducible assumption) | (with_reducible refine Up.alloc ?_ _) | (with_reducible refine Up.drew ?_) | (with_reducible refine Up.grow ?_ _) | (with_reducible refine Up.setCell ?_ (by (try simp); (try omega)) _))))).mono ?_); rintro e w' ⟨rfl, hb⟩; first | (obtain ⟨x, rfl⟩ := Grow.on x hb) | (obtain ⟨x, rfl⟩ := Grow.mk' hb)) | (go_at_call 161; (with_reducible refine (HY.out _ _ (hu'.up (by repeat' (first | (with_reducible exact Up.refl _) | (with_reducible assumption) | (with_reducible refine Up.alloc ?_ _) | (with_reducible refine Up.drew ?_) | (with_reducible refine Up.grow ?_ _) | (with_reducible refine Up.setCell ?_ (by (try simp); (try omega)) _))))).mono ?_); rintro e w' ⟨rfl, hb⟩; first | (obtain ⟨x, rfl⟩ := Grow.on x hb) | (obtain ⟨x, rfl⟩ := Grow.mk' hb)) | (go_at_call 142; (with_reducible refine (s_In _ _ _ _).mono ?_); rintro e w' ⟨rfl, rfl⟩) | (go_at_call 186; (with_reducible refine (i_In _ _ _ _).mono ?_); rintro e w' ⟨rfl, rfl⟩) | (go_at_call 222; (with_reducible refine (s_Rate _ _).mono ?_); rintro e w' ⟨rfl, rfl⟩) | (go_at_call 165; (with_reducible refine (i_Rate _ _).mono ?_); rintro e w' ⟨rfl, rfl⟩) | (go_at_call 262; (with_reducible refine (i_Years _ _).mono ?_); rintro e w' ⟨rfl, rfl⟩) | (go_at_call 227; (with_reducible refine (s_Amount6 _ _).mono ?_); rintro e w' ⟨rfl, rfl⟩) | (go_at_call 236; (with_reducible refine (s_Sum7 _ _).mono ?_); rintro e w' ⟨rfl, rfl⟩) | ((first | with_reducible refine wp_region_in x (by kernel_rfl) (by kernel_rfl) ?_ | with_reducible refine wp_region_here (by kernel_rfl) (by kernel_rfl) ?_); (repeat (go_big_quiet_step ((first | (go_at_call 161; with_reducible exact Ret.grow _ (HX.out _ _ (hv'.up (by repeat' (first | (with_reducible exact Up.refl _) | (with_reducible assumption) | (with_reducible refine Up.alloc ?_ _) | (with_reducible refine Up.drew ?_) | (with_reducible refine Up.grow ?_ _) | (with_reducible refine Up.setCell ?_ (by (try simp); (try omega)) _)))))) | (go_at_call 161; with_reducible exact Ret.grow _ (HZ.out _ _ (hu'.up (by repeat' (first | (with_reducible exact Up.refl _) | (with_reducible assumption) | (with_reducible refine Up.alloc ?_ _) | (with_reducible refine Up.drew ?_) | (with_reducible refine Up.grow ?_ _) | (with_reducible refine Up.setCell ?_ (by (try simp); (try omega)) _)))))) | (go_at_call 161; with_reducible exact Ret.grow _ (HY.out _ _ (hu'.up (by repeat' (first | (with_reducible exact Up.refl _) | (with_reducible assumption) | (with_reducible refine Up.alloc ?_ _) | (with_reducible refine Up.drew ?_) | (with_reducible refine Up.grow ?_ _) | (with_reducible refine Up.setCell ?_ (by (try simp); (try omega)) _)))))) | (go_at_call 142; with_reducible exact Ret.same _ (s_In _ _ _ _)) | (go_at_call 186; with_reducible exact Ret.same _ (i_In _ _ _ _)) | (go_at_call 222; with_reducible exact Ret.same _ (s_Rate _ _)) | (go_at_call 165; with_reducible exact Ret.same _ (i_Rate _ _)) | (go_at_call 262; with_reducible exact Ret.same _ (i_Years _ _)) | (go_at_call 227; with_reducible exact Ret.same _ (s_Amount6 _ _)) | (go_at_call 236; with_reducible exact Ret.same _ (s_Sum7 _ _)))))); refine wpQuiet_nil ?_; intro w' hw'; obtain ⟨x, rfl⟩ := hw'))
      go_roundw
      case rel =>
        have hne : ∀ l, l < k + 1 → T.both U i j l ≠ 0 := fun l hl => by
          rcases Nat.lt_or_ge l k with h | h
          · exact HK.out.2 l h
          · rw [show l = k from by omega, ← HB.out]; exact HZ0.out
        refine ⟨k + 1, .slice (some ⟨g, 0, none⟩) (k + 1) cap, by go_num, Lib.hid ⟨joint_more hT hU hi hj hne, hne⟩, Lib.hid ?_⟩
        have JS := (HJ.out.grow x.below).stored hg2 hown2 hat
        rw [EL.out, ← HB.out]
        simpa only [List.length_map, List.length_range] using JS
      case measure => simp [intOf]; omega
end
end Go.Proofs.Ytdeoampkbbbleaa
