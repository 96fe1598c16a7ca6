/- Contract of the reference's joint table. Condition: two valid tables and lives at both ages. -/
import Derived.Test.YtdeoampkbbbleaaJoint
namespace Go.Proofs.Ytdeoampkbbbleaa
open Go.RowKit Pu

/-- The read of the list so far: the walk carries it out where it comes. -/
abbrev ldOp : Op := Op.load 22 (Operand.tmp 27)
theorem ldOp_eq : Op.load 22 (Operand.tmp 27) = ldOp := rfl
section
variable {T U : Tab} (hT : T.Ok) (hU : U.Ok) {i j : Nat} (hi : i + 1 < T.n) (hj : j + 1 < U.n) (hy : U.first + j ≤ 150)
include hT hU hi hj hy
set_option maxRecDepth 100000 in
set_option maxHeartbeats 8000000 in
theorem s_Joint (v u : Value) (w : World) (hv : TabAt w T v) (hu : TabAt w U u) :
    Calls Try.prog 192 #[v, .int .i64 (T.first + i), u, .int .i64 (U.first + j)] w (RetT w (T.joint U (T.first + i) i j)) := by
  have hv' := hv
  have hu' := hu
  obtain ⟨A, c, rfl, hc, hm, _, hI⟩ := hv
  obtain ⟨A2, c2, rfl, hc2, hm2, _, hI2⟩ := hu
  have q1 := hT.lo; have q2 := hT.hi; have q3 := hT.n120; have q4 := hT.n2; have q5 := hT.fin
  have r1 := hU.lo; have r2 := hU.hi; have r3 := hU.n120; have r4 := hU.n2; have r5 := hU.fin
  have HY := Lib.hid (s_LivesK hU j (by omega))
  clear hI hI2
  go_enter Try.func192, Try.ntmps192
  go_wp2
  go_loopw [10] (fun p wr => ∃ (k : Nat) (vo : Value), p = .int .i64 k ∧ Hid (k + i ≤ T.n ∧ (∀ l, l + 1 < k → T.both U i j l ≠ 0)) ∧ Hid (JAt w wr w.heap.size (w.heap.size + 1) (w.heap.size + 1 + 1) (w.heap.size + 1 + 1 + 1 + 1) #[.int .i64 T.first, .slice A T.n c] #[.int .i64 U.first, .slice A2 U.n c2] (T.first + i) vo ((List.range k).map (T.both U i j)))) (fun p _ => T.n + 1 - (intOf p).toNat)
  case atStart =>
    refine ⟨0, .slice (some ⟨w.heap.size + 1 + 1 + 1, 0, none⟩) 0 0, rfl, Lib.hid ⟨by omega, fun l hl => by omega⟩, Lib.hid ⟨(by repeat' (first | (with_reducible exact Up.refl _) | (with_reducible assumption) | (with_reducible refine Up.alloc ?_ _) | (with_reducible refine Up.drew ?_) | (with_reducible refine Up.grow ?_ _) | (with_reducible refine Up.setCell ?_ (by (try simp); (try omega)) _))), ?_, ?_, ?_, ?_, ?_, by simp [Value.ownBlock] <;> omega, by simp [Value.ownBlock] <;> omega, by simp [Value.ownBlock] <;> omega, by simp [Value.ownBlock] <;> omega, by omega, by omega, by omega, by omega, by omega⟩⟩
    · exact ((((Blk.new _ _ _).alloc _).alloc _).alloc _).alloc _
    · have h := (((Blk.new (w.alloc (.cells #[.int .i64 T.first, .slice A T.n c] 31)) 31 #[.int .i64 U.first, .slice A2 U.n c2]).alloc (.cells #[.int .i64 0, .slice none 0 0] 31)).alloc (.cells #[] 2)).alloc (.cells #[.int .i64 (T.first + i), .slice (some ⟨w.heap.size + 1 + 1 + 1, 0, none⟩) 0 0] 31)
      simpa only [World.size_alloc] using h
    · have h := ((Blk.new ((w.alloc (.cells #[.int .i64 T.first, .slice A T.n c] 31)).alloc (.cells #[.int .i64 U.first, .slice A2 U.n c2] 31)) 31 #[.int .i64 0, .slice none 0 0]).alloc (.cells #[] 2)).alloc (.cells #[.int .i64 (T.first + i), .slice (some ⟨w.heap.size + 1 + 1 + 1, 0, none⟩) 0 0] 31)
      simpa only [World.size_alloc] using h
    · have h := Blk.new ((((w.alloc (.cells #[.int .i64 T.first, .slice A T.n c] 31)).alloc (.cells #[.int .i64 U.first, .slice A2 U.n c2] 31)).alloc (.cells #[.int .i64 0, .slice none 0 0] 31)).alloc (.cells #[] 2)) 31 #[.int .i64 (T.first + i), .slice (some ⟨w.heap.size + 1 + 1 + 1, 0, none⟩) 0 0]
      simpa only [World.size_alloc] using h
    · have h := (Own.start w (w := ((w.alloc (.cells #[.int .i64 T.first, .slice A T.n c] 31)).alloc (.cells #[.int .i64 U.first, .slice A2 U.n c2] 31)).alloc (.cells #[.int .i64 0, .slice none 0 0] 31)) (by simp; omega)).up (Up.alloc (Up.refl _) (.cells #[.int .i64 (T.first + i), .slice (some ⟨w.heap.size + 1 + 1 + 1, 0, none⟩) 0 0] 31))
      simp only [World.size_alloc] at h
      exact h
  case round =>
    obtain ⟨k, vo, rfl, HK, HJ⟩ := hrel
    generalize w.heap.size + 1 + 1 + 1 + 1 = B9 at *
    generalize w.heap.size + 1 + 1 = B8 at *
    generalize w.heap.size + 1 = B6 at *
    have hJ := HJ.out
    have hup := hJ.up
    have t0 := hJ.h4.cell 0; have t1 := hJ.h4.cell 1
    have s0 := hJ.h6.cell 0; have s1 := hJ.h6.cell 1
    have o0 := hJ.h9.cell 0; have o1 := hJ.h9.cell 1
    have it := hJ.h4.inw; have is := hJ.h6.inw; have io := hJ.h9.inw
    have l9 := hJ.l9; have l8 := hJ.l8
    have d1 : ¬ B8 = B9 := hJ.d8
    have d2 : ¬ B9 = B8 := fun h => hJ.d8 h.symm
    have d3 : ¬ B9 = w.heap.size := fun h => hJ.d4 h.symm
    have d4 : ¬ B9 = B6 := fun h => hJ.d6 h.symm
    by_cases hk0 : k = 0
    · have hkt : ((k : Int) == 0) = true := by simpa using hk0
      have HNE : Hid (∀ l, l < k → T.both U i j l ≠ 0) := Lib.hid fun l hl => by omega
      clear hJ hk0
      have hk := HK.out.1
      obtain ⟨a1, a2, a3, a4, a5, a6, a7⟩ := both_nums hT hU hi hj k
      have HX := Lib.hid (s_LivesKM hT i k (by omega))
      have HZ := Lib.hid (s_LivesKM hU j k (by omega))
      have EL := Lib.hid (snoc_map (T.both U i j) k)
      have i1 : IntKind.i64.wrap (T.first + i + k) = T.first + i + k := IntWalk.i64_in _ (by omega)
      have i2 : IntKind.i64.wrap (U.first + j + k) = U.first + j + k := IntWalk.i64_in _ (by omega)
      have bb := hT.both_bd hU hi hj k
      have tl := hT.lv_bd (i + k)
      obtain ⟨B, hB⟩ : ∃ B, B = T.both U i j k := ⟨_, rfl⟩
      rw [← hB] at bb
      have e5 : T.lv (i + k) * U.lv (j + k) / U.lv j = B := hB.symm
      have i3 : IntKind.i64.wrap (T.lv (i + k) * U.lv (j + k)) = T.lv (i + k) * U.lv (j + k) := IntWalk.i64_in _ (by omega)
      have i4 : IntKind.i64.wrap (T.lv (i + k) * U.lv (j + k) / U.lv j) = B := by rw [e5]; exact IntWalk.i64_in _ (by omega)
      have HB := Lib.hid hB
      have hn0 : (U.lv j == 0) = false := by simp; omega
      have hn1 : ¬ U.lv j = 0 := by omega
      have hn2 : (0:Int) ≤ T.lv (i + k) * U.lv (j + k) := by omega
      have i5 : IntKind.i64.wrap ((T.lv (i + k) * U.lv (j + k)).tdiv (U.lv j)) = B := by rw [Int.tdiv_eq_ediv_of_nonneg hn2]; exact i4
      have i6 : IntKind.i64.wrap B = B := IntWalk.i64_in _ (by omega)
      clear hB
      go_wp2_with fail
      rw [ldOp_eq]
      go_region_held3 (fun w' => w'.cell? ⟨w.heap.size, 0, none⟩ = some (.int .i64 T.first) ∧ w'.cell? ⟨w.heap.size, 1, none⟩ = some (.slice A T.n c) ∧ w'.cell? ⟨B6, 0, none⟩ = some (.int .i64 U.first) ∧ w'.cell? ⟨B6, 1, none⟩ = some (.slice A2 U.n c2)) ((repeat' apply And.intro) <;> go_simp)
        (first
          | (go_at_call 157; ((with_reducible refine (HX.out _ _ (hv'.up (hup.trans (by repeat' (first | (with_reducible exact Up.refl _) | (with_reducible assumption) | (with_reducible refine Up.alloc ?_ _) | (with_reducible refine Up.drew ?_) | (with_reducible refine Up.grow ?_ _) | (with_reducible refine Up.setCell ?_ (by (try simp); (try omega)) _)))))).mono ?_); rintro e w' ⟨rfl, hb1⟩; have hb1 := (Up.drew (Up.refl wr)).trans hb1; obtain ⟨x1, rfl⟩ := Grow.mk' hb1))
          | (go_at_call 157; ((with_reducible refine (HZ.out _ _ (hu'.up (hup.trans hb1))).mono ?_); rintro e w' ⟨rfl, hb2⟩; obtain ⟨x2, rfl⟩ := Grow.on x1 hb2))
          | (go_at_call 157; ((with_reducible refine (HY.out _ _ (hu'.up (hup.trans (hb1.trans hb2)))).mono ?_); rintro e w' ⟨rfl, hb3⟩; obtain ⟨x3, rfl⟩ := Grow.on x2 hb3))
          | (have hux : Up wr x3.to := (hb1.trans hb2).trans hb3; have hlen : ((List.range k).map (T.both U i j)).length < 1048576 := (by simp; omega); have hsz : w.heap.size ≤ x3.to.heap.size := (hup.trans hux).size; refine step_push_l hsz (HJ.out.own.up hux) rfl _ _ rfl rfl rfl hlen ?_; intro g cap w1 hown2 hg2 hat hlt; obtain ⟨u0, u4, u6, u8, u9⟩ := (HJ.out.grow hux).push (g := g) (cap := cap) hg2; have v2 := u9.cell 0; have v3 := u9.cell 1; have v4 := u4.cell 0; have v5 := u4.cell 1; have v6 := u6.cell 0; have v7 := u6.cell 1; have z9 := u9.frozen; have j9 := u9.inw))
      all_goals
        go_wp2
        go_roundw
        case rel =>
          refine ⟨k + 1, .slice (some ⟨g, 0, none⟩) (k + 1) cap, by go_num, Lib.hid ⟨?_, ?_⟩, Lib.hid ?_⟩
          · have h := joint_more hT hU hi hj HNE.out
            omega
          · intro l hl
            exact HNE.out l (by omega)
          · have JS := (HJ.out.grow hux).stored hg2 hown2 hat
            rw [EL.out, ← HB.out]
            simpa only [List.length_map, List.length_range] using JS
        case measure => simp [intOf]; omega
    · have hlen0 : ((List.range k).map (T.both U i j)).length = k := by simp
      have hform := hJ.own.form
      rw [hlen0] at hform
      obtain ⟨A9, c9, rfl, hc9, hm9, hA9⟩ := hform
      obtain ⟨g9, rfl, _, _, hcell, _⟩ := hA9 (by omega)
      have hkt : ((k : Int) == 0) = false := by simp; omega
      have hc1 := hcell (k - 1) (by omega)
      have hget : ((List.range k).map (T.both U i j)).getD (k - 1) 0 = T.both U i j (k - 1) := by simp [show k - 1 < k from by omega]
      rw [hget] at hc1
      have i7 : IntKind.i64.wrap ((k : Int) - 1) = (k : Int) - 1 := by have := HK.out.1; exact IntWalk.i64_in _ (by omega)
      have i8 : ((k : Int) - 1).toNat = k - 1 := by omega
      have g1 : (0 : Int) ≤ (k : Int) - 1 := by omega
      have g2 : (1 : Int) ≤ (k : Int) := by omega
      have g3 : (k : Int) - 1 < k := by omega
      have hb1 := hT.both_bd hU hi hj (k - 1)
      by_cases hz : T.both U i j (k - 1) = 0
      · rw [hz] at hc1
        have v0 := hJ.h8.cell 0; have v1 := hJ.h8.cell 1; have z8 := hJ.h8.frozen; have j8 := hJ.h8.inw
        have hfz := joint_end hT hU hi hj hz (fun l hl => HK.out.2 l (by omega))
        have hJn : (T.joint U (T.first + i) i j).n = k := by show fz _ _ _ + 1 = k; rw [hfz]; omega
        have HN := Lib.hid hJn
        have HG : Hid (g9 ≠ B8) := Lib.hid (by have h := hJ.n8; simpa [Value.ownBlock] using h)
        have hk' := HK.out.1
        have HK0 := Lib.hid hk0
        clear hJ hz hget hlen0 hfz hJn hk0 hcell
        go_wp2
        refine bodyPost_ret (v := .agg #[.int .i64 (T.first + i), .slice (some ⟨g9, 0, none⟩) k c9]) (by simp [results, Try.results192, go_sem, v0, v1]) rfl ?_
        have g8 := HG.out
        have hJn := HN.out
        have o9 := ownsRow_setCell_other (ownsRow_setCell_other HJ.out.own (a := ⟨B8, 0, none⟩) (by simp [Value.ownBlock]; omega) (.int .i64 (T.first + i))) (a := ⟨B8, 1, none⟩) (by simp [Value.ownBlock]; omega) (.slice (some ⟨g9, 0, none⟩) k c9)
        refine ⟨_, rfl, (by repeat' (first | (with_reducible exact Up.refl _) | (with_reducible assumption) | (with_reducible refine Up.alloc ?_ _) | (with_reducible refine Up.drew ?_) | (with_reducible refine Up.grow ?_ _) | (with_reducible refine Up.setCell ?_ (by (try simp); (try omega)) _))), by rw [hJn]; omega, some ⟨g9, 0, none⟩, c9, by rw [hJn]; rfl, ?_⟩
        rw [hJn]
        exact o9
      · have hpos : 0 < T.both U i j (k - 1) := by omega
        have HNE : Hid (∀ l, l < k → T.both U i j l ≠ 0) := Lib.hid fun l hl => by
          rcases Nat.lt_or_ge (l + 1) k with h | h
          · exact HK.out.2 l h
          · rw [show l = k - 1 from by omega]; exact hz
        clear hJ hz hget hlen0 hk0 hcell
        have hk := HK.out.1
        obtain ⟨a1, a2, a3, a4, a5, a6, a7⟩ := both_nums hT hU hi hj k
        have HX := Lib.hid (s_LivesKM hT i k (by omega))
        have HZ := Lib.hid (s_LivesKM hU j k (by omega))
        have EL := Lib.hid (snoc_map (T.both U i j) k)
        have i1 : IntKind.i64.wrap (T.first + i + k) = T.first + i + k := IntWalk.i64_in _ (by omega)
        have i2 : IntKind.i64.wrap (U.first + j + k) = U.first + j + k := IntWalk.i64_in _ (by omega)
        have bb := hT.both_bd hU hi hj k
        have tl := hT.lv_bd (i + k)
        obtain ⟨B, hB⟩ : ∃ B, B = T.both U i j k := ⟨_, rfl⟩
        rw [← hB] at bb
        have e5 : T.lv (i + k) * U.lv (j + k) / U.lv j = B := hB.symm
        have i3 : IntKind.i64.wrap (T.lv (i + k) * U.lv (j + k)) = T.lv (i + k) * U.lv (j + k) := IntWalk.i64_in _ (by omega)
        have i4 : IntKind.i64.wrap (T.lv (i + k) * U.lv (j + k) / U.lv j) = B := by rw [e5]; exact IntWalk.i64_in _ (by omega)
        have HB := Lib.hid hB
        have hn0 : (U.lv j == 0) = false := by simp; omega
        have hn1 : ¬ U.lv j = 0 := by omega
        have hn2 : (0:Int) ≤ T.lv (i + k) * U.lv (j + k) := by omega
        have i5 : IntKind.i64.wrap ((T.lv (i + k) * U.lv (j + k)).tdiv (U.lv j)) = B := by rw [Int.tdiv_eq_ediv_of_nonneg hn2]; exact i4
        have i6 : IntKind.i64.wrap B = B := IntWalk.i64_in _ (by omega)
        clear hB
        go_wp2_with fail
        rw [ldOp_eq]
        go_region_held3 (fun w' => w'.cell? ⟨w.heap.size, 0, none⟩ = some (.int .i64 T.first) ∧ w'.cell? ⟨w.heap.size, 1, none⟩ = some (.slice A T.n c) ∧ w'.cell? ⟨B6, 0, none⟩ = some (.int .i64 U.first) ∧ w'.cell? ⟨B6, 1, none⟩ = some (.slice A2 U.n c2)) ((repeat' apply And.intro) <;> go_simp)
          (first
            | (go_at_call 157; ((with_reducible refine (HX.out _ _ (hv'.up (hup.trans (by repeat' (first | (with_reducible exact Up.refl _) | (with_reducible assumption) | (with_reducible refine Up.alloc ?_ _) | (with_reducible refine Up.drew ?_) | (with_reducible refine Up.grow ?_ _) | (with_reducible refine Up.setCell ?_ (by (try simp); (try omega)) _)))))).mono ?_); rintro e w' ⟨rfl, hb1⟩; have hb1 := (Up.drew (Up.refl wr)).trans hb1; obtain ⟨x1, rfl⟩ := Grow.mk' hb1))
            | (go_at_call 157; ((with_reducible refine (HZ.out _ _ (hu'.up (hup.trans hb1))).mono ?_); rintro e w' ⟨rfl, hb2⟩; obtain ⟨x2, rfl⟩ := Grow.on x1 hb2))
            | (go_at_call 157; ((with_reducible refine (HY.out _ _ (hu'.up (hup.trans (hb1.trans hb2)))).mono ?_); rintro e w' ⟨rfl, hb3⟩; obtain ⟨x3, rfl⟩ := Grow.on x2 hb3))
            | (have hux : Up wr x3.to := (hb1.trans hb2).trans hb3; have hlen : ((List.range k).map (T.both U i j)).length < 1048576 := (by simp; omega); have hsz : w.heap.size ≤ x3.to.heap.size := (hup.trans hux).size; refine step_push_l hsz (HJ.out.own.up hux) rfl _ _ rfl rfl rfl hlen ?_; intro g cap w1 hown2 hg2 hat hlt; obtain ⟨u0, u4, u6, u8, u9⟩ := (HJ.out.grow hux).push (g := g) (cap := cap) hg2; have v2 := u9.cell 0; have v3 := u9.cell 1; have v4 := u4.cell 0; have v5 := u4.cell 1; have v6 := u6.cell 0; have v7 := u6.cell 1; have z9 := u9.frozen; have j9 := u9.inw))
        all_goals
          go_wp2
          go_roundw
          case rel =>
            refine ⟨k + 1, .slice (some ⟨g, 0, none⟩) (k + 1) cap, by go_num, Lib.hid ⟨?_, ?_⟩, Lib.hid ?_⟩
            · have h := joint_more hT hU hi hj HNE.out
              omega
            · intro l hl
              exact HNE.out l (by omega)
            · have JS := (HJ.out.grow hux).stored hg2 hown2 hat
              rw [EL.out, ← HB.out]
              simpa only [List.length_map, List.length_range] using JS
          case measure => simp [intOf]; omega
end
end Go.Proofs.Ytdeoampkbbbleaa
