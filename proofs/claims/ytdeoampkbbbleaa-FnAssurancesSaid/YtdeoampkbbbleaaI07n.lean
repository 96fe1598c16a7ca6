/- Contract of the program's natural premiums. Condition: the slice reads as the table's numbers. -/
import Derived.Test.YtdeoampkbbbleaaI07b
import Derived.Test.YtdeoampkbbbleaaS07n
namespace Go.Proofs.Ytdeoampkbbbleaa
open Go.RowKit Pu

theorem npL_len (T : Tab) (r age n m : Int) : (npL T r age n m).length ≤ 1048576 := by
  unfold npL
  by_cases h : npC T r age n m = 0
  · rw [if_pos h]
    by_cases hz : apC T r 1 age n m = 0
    · obtain ⟨_, _, _, _, _, _, k, n, rfl, rfl, _, hn, _, _⟩ := code7_ok hz
      simp; omega
    · unfold npC at h; rw [if_neg hz] at h; exact absurd h hz
  · rw [if_neg h]; simp
set_option maxRecDepth 100000 in
set_option maxHeartbeats 4000000 in
theorem i_NP (T : Tab) (r age n m : Int) (v : Value) (w : World) (hv : TabAt w T v) :
    Calls Try.prog 119 #[v, .int .i64 r, .int .i64 age, .int .i64 n, .int .i64 m] w (RetIC w (npL T r age n m) (npC T r age n m)) := by
  have hv' := hv
  obtain ⟨A, c, rfl, hc, hm, _, hI⟩ := hv
  by_cases hz : code7 T r 1 age n (inR m 1 100000000) = 0
  case neg =>
    have e1 : npC T r age n m = code7 T r 1 age n (inR m 1 100000000) := by unfold npC; rw [if_neg (show ¬ apC T r 1 age n m = 0 from hz)]; rfl
    rw [npL_bad (by rw [e1]; exact hz), e1]
    clear e1
    have HC := Lib.hid (i_ChkPB (T := T) (r := r) (kind := 1) (age := age) (n := n) (m := m) rfl hz)
    (have hz1 : ((code7 T r 1 age n (inR m 1 100000000)) != 0) = true := (by simpa using hz)); (have hz2 : ((code7 T r 1 age n (inR m 1 100000000)) == 0) = false := (by simpa using hz))
    clear hz
    go_enter Try.func119, Try.ntmps119
    go_wp2_with (first | (go_at_call 223; (with_reducible refine (HC.out _ _ (hv'.up (by repeat' (first | (with_reducible exact Up.refl _) | (with_reducible assumption) | (with_reducible refine Up.alloc ?_ _) | (with_reducible refine Up.drew ?_) | (with_reducible refine Up.grow ?_ _) | (with_reducible refine Up.setCell ?_ (by (try simp); (try omega)) _))))).mono ?_); rintro e w' ⟨rfl, hb⟩; first | (obtain ⟨x, rfl⟩ := Grow.on x hb) | (obtain ⟨x, rfl⟩ := Grow.mk' hb)) | (go_at_call 142; (with_reducible refine (s_In _ _ _ _).mono ?_); rintro e w' ⟨rfl, rfl⟩) | (go_at_call 186; (with_reducible refine (i_In _ _ _ _).mono ?_); rintro e w' ⟨rfl, rfl⟩) | (go_at_call 222; (with_reducible refine (s_Rate _ _).mono ?_); rintro e w' ⟨rfl, rfl⟩) | (go_at_call 165; (with_reducible refine (i_Rate _ _).mono ?_); rintro e w' ⟨rfl, rfl⟩) | (go_at_call 262; (with_reducible refine (i_Years _ _).mono ?_); rintro e w' ⟨rfl, rfl⟩) | (go_at_call 227; (with_reducible refine (s_Amount6 _ _).mono ?_); rintro e w' ⟨rfl, rfl⟩) | (go_at_call 236; (with_reducible refine (s_Sum7 _ _).mono ?_); rintro e w' ⟨rfl, rfl⟩) | ((first | with_reducible refine wp_region_in x (by kernel_rfl) (by kernel_rfl) ?_ | with_reducible refine wp_region_here (by kernel_rfl) (by kernel_rfl) ?_); (repeat (go_big_quiet_step ((first | (go_at_call 223; with_reducible exact Ret.grow _ (HC.out _ _ (hv'.up (by repeat' (first | (with_reducible exact Up.refl _) | (with_reducible assumption) | (with_reducible refine Up.alloc ?_ _) | (with_reducible refine Up.drew ?_) | (with_reducible refine Up.grow ?_ _) | (with_reducible refine Up.setCell ?_ (by (try simp); (try omega)) _)))))) | (go_at_call 142; with_reducible exact Ret.same _ (s_In _ _ _ _)) | (go_at_call 186; with_reducible exact Ret.same _ (i_In _ _ _ _)) | (go_at_call 222; with_reducible exact Ret.same _ (s_Rate _ _)) | (go_at_call 165; with_reducible exact Ret.same _ (i_Rate _ _)) | (go_at_call 262; with_reducible exact Ret.same _ (i_Years _ _)) | (go_at_call 227; with_reducible exact Ret.same _ (s_Amount6 _ _)) | (go_at_call 236; with_reducible exact Ret.same _ (s_Sum7 _ _)))))); refine wpQuiet_nil ?_; intro w' hw'; obtain ⟨x, rfl⟩ := hw'))
    go_ret2
    exact ⟨_, rfl, (by repeat' (first | (with_reducible exact Up.refl _) | (with_reducible assumption) | (with_reducible refine Up.alloc ?_ _) | (with_reducible refine Up.drew ?_) | (with_reducible refine Up.grow ?_ _) | (with_reducible refine Up.setCell ?_ (by (try simp); (try omega)) _))), Own.nil _ _⟩
  obtain ⟨hT, h0, h1, hm1, hk1, hk2, k, n, rfl, rfl, hkn, hn, hl, hd⟩ := code7_ok hz
  have HC := Lib.hid (i_ChkPK hz)
  have b1 := inR_true.1 hm1
  have q1 := hT.lo; have q2 := hT.hi; have q3 := hT.n120; have q4 := hT.n2; have q5 := hT.fin
  have hn1 : 1 ≤ n := by omega
  have e0 : npC T r (T.first + k) n m = if T.D r (k + n - 1) = 0 then 5 else 0 := by unfold npC; rw [if_pos (show apC T r 1 (T.first + k) n m = 0 from hz), ix_k, Int.toNat_natCast]
  have el : npC T r (T.first + k) n m = 0 → npL T r (T.first + k) n m = (List.range n).map (npG T r k m) := fun h => by unfold npL; rw [if_pos h, ix_k, Int.toNat_natCast]
  have E0 := Lib.hid e0
  have EL := Lib.hid el
  have HDD := Lib.hid hd
  obtain ⟨L, hL⟩ : ∃ L : Nat, (151 - T.first).toNat = L := ⟨_, rfl⟩
  have hL1 : k + n < L := by omega
  have HL := Lib.hid hL
  have hcols := Lib.hid (i_Cols hT h0 h1)
  generalize T.top r 1 k n = t1 at HC
  generalize T.base r 1 k n = t3 at HC
  generalize T.D r k = t2 at HC
  clear hz hkn hm1 e0 el hd hk1 hk2 hL
  go_enter Try.func119, Try.ntmps119
  go_wp2_with (first | (go_at_call 223; refine (HC.out _ _ (hv'.up (by repeat' (first | (with_reducible exact Up.refl _) | (with_reducible assumption) | (with_reducible refine Up.alloc ?_ _) | (with_reducible refine Up.drew ?_) | (with_reducible refine Up.grow ?_ _) | (with_reducible refine Up.setCell ?_ (by (try simp); (try omega)) _))))).mono ?_; rintro e w' ⟨rfl, hb⟩; first | (obtain ⟨x, rfl⟩ := Grow.on x hb) | (obtain ⟨x, rfl⟩ := Grow.mk' hb)) | (go_at_call 197; refine (hcols.out _ _ (hv'.up (by repeat' (first | (with_reducible exact Up.refl _) | (with_reducible assumption) | (with_reducible refine Up.alloc ?_ _) | (with_reducible refine Up.drew ?_) | (with_reducible refine Up.grow ?_ _) | (with_reducible refine Up.setCell ?_ (by (try simp); (try omega)) _))))).mono ?_; rintro e w5 ⟨v5, rfl, hb5, g, cs, rfl, hg, hcs⟩; rw [HL.out]))
  have hup5 : Up (w.alloc (.cells #[.int .i64 T.first, .slice A T.n c] 31)) w5 := Up.trans (by repeat' (first | (with_reducible exact Up.refl _) | (with_reducible assumption) | (with_reducible refine Up.alloc ?_ _) | (with_reducible refine Up.drew ?_) | (with_reducible refine Up.grow ?_ _) | (with_reducible refine Up.setCell ?_ (by (try simp); (try omega)) _))) hb5
  have HCS := Lib.hid hcs
  clear hcs hb hb5
  obtain ⟨y5, hy5⟩ := Grow.mk' hup5
  subst hy5
  go_loopw [15, 36] (fun o i wr => ∃ (j : Nat) (z : Grow (w.alloc (.cells #[.int .i64 T.first, .slice A T.n c] 31))), j ≤ n ∧ i = .int .i64 j ∧ wr = z.to ∧ Hid (j = 0 ∨ 1 ≤ T.D r (k + j - 1)) ∧ Own (w.alloc (.cells #[.int .i64 T.first, .slice A T.n c] 31)) z.to o ((List.range j).map (npG T r k m)) ∧ Blk z.to g 80 cs) (fun _ i _ => n - (intOf i).toNat)
  case atStart =>
    obtain ⟨y, hy⟩ := Grow.mk' (show Below (w.alloc (.cells #[.int .i64 T.first, .slice A T.n c] 31)).heap.size (w.alloc (.cells #[.int .i64 T.first, .slice A T.n c] 31)) (y5.to.alloc (.cells #[] 2)) from y5.below.alloc y5.size _)
    exact ⟨0, y, by omega, rfl, hy, Lib.hid (Or.inl rfl), by rw [← hy]; exact Own.start _ y5.size, by rw [← hy]; exact hg.alloc _⟩
  case round =>
    clear hg hup5
    obtain ⟨j, x, hk, rfl, rfl, HP, hown, hblk⟩ := hrel
    have HO := Lib.hid hown
    have HB := Lib.hid hblk
    clear hown
    by_cases hlt : j < n
    · obtain ⟨a0, a1, a2, a3⟩ := row_at hblk (HCS.out (k + j) (by rw [HL.out]; omega))
      obtain ⟨c0, c1, c2, c3⟩ := row_at hblk (HCS.out (k + j + 1) (by rw [HL.out]; omega))
      have hgi : InW x.to g := hblk.inw
      have i1 : IntKind.i64.wrap (T.first + k + j) = T.first + k + j := IntWalk.i64_in _ (by omega)
      have i2 : IntKind.i64.wrap (T.first + k + j - T.first) = (k : Int) + j := by rw [IntWalk.i64_in _ (by omega)]; omega
      have i3 : IntKind.i64.wrap (T.first + k + j + 1) = T.first + k + j + 1 := IntWalk.i64_in _ (by omega)
      have i4 : IntKind.i64.wrap (T.first + k + j + 1 - T.first) = (k : Int) + j + 1 := by rw [IntWalk.i64_in _ (by omega)]; omega
      have i5 : ((k : Int) + j).toNat = k + j := by omega
      have i6 : ((k : Int) + j + 1).toNat = k + j + 1 := by omega
      have p1 : (0 : Int) ≤ (k : Int) + j := by omega
      have p2 : (k : Int) + j < L := by omega
      have p3 : (0 : Int) ≤ (k : Int) + j + 1 := by omega
      have p4 : (k : Int) + j + 1 < L := by omega
      have e1 : ¬ g = x.to.heap.size := by unfold InW at hgi; omega
      have e2 : ¬ g = x.to.heap.size + 1 := by unfold InW at hgi; omega
      have e5 : ¬ w.heap.size = x.to.heap.size := by have := x.size; simp at this; omega
      have e6 : ¬ w.heap.size = x.to.heap.size + 1 := by have := x.size; simp at this; omega
      have hMs := hT.M_step (r := r) (k + j)
      have EC : Hid (T.C r (k + j) = T.M r (k + j) - T.M r (k + j + 1)) := Lib.hid (by omega)
      have m1 := hT.M_max h0 (k + j)
      have m2 := hT.M_max h0 (k + j + 1)
      clear hblk hMs
      by_cases hdz : T.D r (k + j) = 0
      · have f1 : T.D r (k + n - 1) = 0 := by
          have h1 := hT.D_le h0 (k + j) (n - 1 - j)
          have h2 := (hT.D_bd h0 (k + n - 1)).1
          rw [show k + j + (n - 1 - j) = k + n - 1 from by omega, hdz] at h1
          omega
        have f2 : npC T r (T.first + k) n m = 5 := by rw [E0.out, if_pos f1]
        rw [npL_bad (by omega), f2]
        clear f1 f2
        go_wp2_with fail
        go_region_held3 (fun w' => w'.cell? ⟨w.heap.size, 0, none⟩ = some (.int .i64 T.first) ∧ w'.cell? ⟨g, (k + j) * 4, none⟩ = some (.int .i64 (T.D r (k + j))) ∧ w'.cell? ⟨g, (k + j) * 4 + 1, none⟩ = some (.int .i64 (T.N r (k + j))) ∧ w'.cell? ⟨g, (k + j) * 4 + 2, none⟩ = some (.int .i64 (T.C r (k + j))) ∧ w'.cell? ⟨g, (k + j) * 4 + 3, none⟩ = some (.int .i64 (T.M r (k + j))) ∧
          w'.cell? ⟨g, (k + j + 1) * 4, none⟩ = some (.int .i64 (T.D r (k + j + 1))) ∧ w'.cell? ⟨g, (k + j + 1) * 4 + 1, none⟩ = some (.int .i64 (T.N r (k + j + 1))) ∧ w'.cell? ⟨g, (k + j + 1) * 4 + 2, none⟩ = some (.int .i64 (T.C r (k + j + 1))) ∧ w'.cell? ⟨g, (k + j + 1) * 4 + 3, none⟩ = some (.int .i64 (T.M r (k + j + 1)))) ((repeat' apply And.intro) <;> go_simp) (fail)
        all_goals
          go_wp2
          go_ret2
          exact ⟨_, rfl, (by repeat' (first | (with_reducible exact Up.refl _) | (with_reducible assumption) | (with_reducible refine Up.alloc ?_ _) | (with_reducible refine Up.drew ?_) | (with_reducible refine Up.grow ?_ _) | (with_reducible refine Up.setCell ?_ (by (try simp); (try omega)) _))), Own.nil _ _⟩
      · have hdp : 1 ≤ T.D r (k + j) := by have := (hT.D_bd h0 (k + j)).1; omega
        have b4 := hT.D_bd h0 (k + j)
        have b5 := np_q hT h0 hdp (m := m) (by omega) (by omega)
        have HU0 := i_Priced m (T.C r (k + j)) (T.D r (k + j)) (by omega) (by omega) (by omega) (by omega) (by omega) (by omega) (by omega)
        have EU : Hid (npG T r k m j = up m (T.C r (k + j)) (T.D r (k + j))) := Lib.hid rfl
        generalize up m (T.C r (k + j)) (T.D r (k + j)) = U at *
        rw [EC.out] at HU0
        have HU := Lib.hid HU0
        have E := Lib.hid (range_snoc (npG T r k m) j)
        have HDP := Lib.hid hdp
        have hdz1 : (T.D r (k + j) == 0) = false := by simpa using hdz
        have i7 : IntKind.i64.wrap (T.M r (k + j) - T.M r (k + j + 1)) = T.M r (k + j) - T.M r (k + j + 1) := IntWalk.i64_in _ (by omega)
        clear hdz hdp b4 b5 HU0
        go_wp2_with fail
        go_region_held3 (fun w' => w'.cell? ⟨w.heap.size, 0, none⟩ = some (.int .i64 T.first) ∧ w'.cell? ⟨g, (k + j) * 4, none⟩ = some (.int .i64 (T.D r (k + j))) ∧ w'.cell? ⟨g, (k + j) * 4 + 1, none⟩ = some (.int .i64 (T.N r (k + j))) ∧ w'.cell? ⟨g, (k + j) * 4 + 2, none⟩ = some (.int .i64 (T.C r (k + j))) ∧ w'.cell? ⟨g, (k + j) * 4 + 3, none⟩ = some (.int .i64 (T.M r (k + j))) ∧
          w'.cell? ⟨g, (k + j + 1) * 4, none⟩ = some (.int .i64 (T.D r (k + j + 1))) ∧ w'.cell? ⟨g, (k + j + 1) * 4 + 1, none⟩ = some (.int .i64 (T.N r (k + j + 1))) ∧ w'.cell? ⟨g, (k + j + 1) * 4 + 2, none⟩ = some (.int .i64 (T.C r (k + j + 1))) ∧ w'.cell? ⟨g, (k + j + 1) * 4 + 3, none⟩ = some (.int .i64 (T.M r (k + j + 1)))) ((repeat' apply And.intro) <;> go_simp) (fail)
        all_goals
          go_wp2_with (first | (go_at_call 159; refine (HU.out _).mono ?_; rintro e w' ⟨rfl, hb3⟩; have hux : Up x.to w' := Up.trans (by repeat' (first | (with_reducible exact Up.refl _) | (with_reducible assumption) | (with_reducible refine Up.alloc ?_ _) | (with_reducible refine Up.drew ?_) | (with_reducible refine Up.grow ?_ _) | (with_reducible refine Up.setCell ?_ (by (try simp); (try omega)) _))) hb3; obtain ⟨u, rfl⟩ := Grow.mk' (Up.trans (Up.grow (Up.refl _) x) hux)) | (at_builtin; refine wp_push u.below (HO.out.up hux) rfl _ _ rfl rfl rfl (by simp; omega) ?_; intro v' y2 hown2 hg2))
          go_roundw
          case rel => exact ⟨j + 1, y2, by omega, by go_num, rfl, Lib.hid (Or.inr (by rw [show k + (j + 1) - 1 = k + j from by omega]; exact HDP.out)), by rw [E.out, EU.out]; exact hown2, ((HB.out.up hux).alloc _).push (World.ownsRow.alloc (HO.out.up hux) _) hg2⟩
          case measure => simp [intOf]; omega
    · clear hblk
      have hj2 : j = n := by omega
      have e1 : ¬ T.D r (k + n - 1) = 0 := by
        rcases HP.out with h | h
        · omega
        · rw [hj2] at h; omega
      have e2 : npC T r (T.first + k) n m = 0 := by rw [E0.out, if_neg e1]
      have E2 := Lib.hid e2
      have E3 := Lib.hid (EL.out e2)
      clear e1 e2
      have HK := Lib.hid hj2
      clear hj2
      go_wp2
      go_ret2
      rw [E2.out, E3.out, ← HK.out]
      exact ⟨_, rfl, (by repeat' (first | (with_reducible exact Up.refl _) | (with_reducible assumption) | (with_reducible refine Up.alloc ?_ _) | (with_reducible refine Up.drew ?_) | (with_reducible refine Up.grow ?_ _) | (with_reducible refine Up.setCell ?_ (by (try simp); (try omega)) _))), HO.out.base (by simp)⟩
end Go.Proofs.Ytdeoampkbbbleaa
