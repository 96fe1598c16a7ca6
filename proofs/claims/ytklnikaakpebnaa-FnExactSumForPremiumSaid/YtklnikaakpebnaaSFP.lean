/- Contracts of SumForPremium of both sides: the same search by halves. Condition: the slice reads as the table's numbers. -/
import Derived.Test.YtklnikaakpebnaaS10b
import Derived.Test.YtklnikaakpebnaaI10b
namespace Go.Proofs.Ytklnikaakpebnaa
open Go.RowKit Pu

/-- Whether a sum's office premium is within the premium. -/
def sfpG (T : Tab) (r kind : Int) (k n : Nat) (ld p : Int) (s : Int) : Bool := decide (officeV (T.net r kind k n s) ld ≤ p)
def sfpR (T : Tab) (r kind : Int) (k n : Nat) (ld p : Int) : Int := bs (sfpG T r kind k n ld p) 100000000 0 100000000
noncomputable def sfpC (T : Tab) (r kind age n m ld p : Int) : Int :=
  if polB T r kind age n m ld = true then (if inR p 1 100000000 = true then (if sfpR T r kind (ix T age) n.toNat ld p = 0 then 4 else 0) else 2) else 1
set_option maxRecDepth 100000 in
theorem s_SFPgo {T : Tab} {r kind m ld : Int} {k n : Nat} (hk : PK T r kind k n m ld) (p : Int) (hp : inR p 1 100000000 = true) (v : Value) (w : World) (hv : BasAt w T r v) :
    Calls Try.prog 64 #[v, .agg #[.int .i64 (kind), .int .i64 (T.first + k), .int .i64 (n), .int .i64 (m), .int .i64 (ld)], .int .i64 p] w (RetQ w (if sfpR T r kind k n ld p = 0 then 4 else 0) (sfpR T r kind k n ld p)) := by
  (have hv' := hv; obtain ⟨A, c, rfl, hc, hm, hbig, hI⟩ := hv; have ht : TabAt w T (.agg #[.int .i64 T.first, .slice A T.n c]) := ⟨A, c, rfl, hc, hm, hbig, hI⟩)
  have HP := Lib.hid (s_IsPol T r kind (T.first + k) n m ld true hk.pol)
  have HO (s : Int) (h1 : 1 ≤ s) (h2 : s ≤ 100000000) := s_Off (hk.sum h1 h2)
  replace HO := Lib.hid HO
  obtain ⟨R, hR⟩ : ∃ R, sfpR T r kind k n ld p = R := ⟨_, rfl⟩
  rw [hR]
  have HR : Hid (bs (sfpG T r kind k n ld p) 100000000 0 100000000 = R) := Lib.hid hR
  obtain ⟨C, hC⟩ : ∃ C : Int, (if R = 0 then 4 else 0) = C := ⟨_, rfl⟩
  rw [hC]
  have HC := Lib.hid hC
  clear hk hR hC
  go_enter Try.func64, Try.ntmps64
  go_wp2_with (first | (go_at_call 204; (with_reducible refine (HP.out _ _ (hv'.up (by repeat' (first | (with_reducible exact Up.refl _) | (with_reducible assumption) | (with_reducible refine Up.alloc ?_ _) | (with_reducible refine Up.drew ?_) | (with_reducible refine Up.grow ?_ _) | (with_reducible refine Up.setCell ?_ (by (try simp); (try omega)) _))))).mono ?_); rintro e w' ⟨rfl, hb⟩; first | (obtain ⟨x, rfl⟩ := Grow.on x hb) | (obtain ⟨x, rfl⟩ := Grow.mk' hb)) | (go_at_call 218; (with_reducible refine (s_In _ _ _ _).mono ?_); rintro e w' ⟨rfl, rfl⟩) | (go_at_call 227; (with_reducible refine (i_In _ _ _ _).mono ?_); rintro e w' ⟨rfl, rfl⟩) | (go_at_call 287; (with_reducible refine (s_Rate _ _).mono ?_); rintro e w' ⟨rfl, rfl⟩) | (go_at_call 248; (with_reducible refine (i_Rate _ _).mono ?_); rintro e w' ⟨rfl, rfl⟩) | (go_at_call 323; (with_reducible refine (i_Years _ _).mono ?_); rintro e w' ⟨rfl, rfl⟩) | (go_at_call 292; (with_reducible refine (s_Amount6 _ _).mono ?_); rintro e w' ⟨rfl, rfl⟩) | (go_at_call 226; (with_reducible refine (s_Sum7 _ _).mono ?_); rintro e w' ⟨rfl, rfl⟩) | ((first | with_reducible refine wp_region_in x (by kernel_rfl) (by kernel_rfl) ?_ | with_reducible refine wp_region_here (by kernel_rfl) (by kernel_rfl) ?_); (repeat (go_big_quiet_step ((first | (go_at_call 204; with_reducible exact Ret.grow _ (HP.out _ _ (hv'.up (by repeat' (first | (with_reducible exact Up.refl _) | (with_reducible assumption) | (with_reducible refine Up.alloc ?_ _) | (with_reducible refine Up.drew ?_) | (with_reducible refine Up.grow ?_ _) | (with_reducible refine Up.setCell ?_ (by (try simp); (try omega)) _)))))) | (go_at_call 218; with_reducible exact Ret.same _ (s_In _ _ _ _)) | (go_at_call 227; with_reducible exact Ret.same _ (i_In _ _ _ _)) | (go_at_call 287; with_reducible exact Ret.same _ (s_Rate _ _)) | (go_at_call 248; with_reducible exact Ret.same _ (i_Rate _ _)) | (go_at_call 323; with_reducible exact Ret.same _ (i_Years _ _)) | (go_at_call 292; with_reducible exact Ret.same _ (s_Amount6 _ _)) | (go_at_call 226; with_reducible exact Ret.same _ (s_Sum7 _ _)))))); refine wpQuiet_nil ?_; intro w' hw'; obtain ⟨x, rfl⟩ := hw'))
  have hB : Blk x.to w.heap.size 42 #[.int .i64 T.first, .slice A T.n c, .int .i64 r] := ((Blk.new w _ _).alloc _).up (show Up _ x.to from (by repeat' (first | (with_reducible exact Up.refl _) | (with_reducible assumption) | (with_reducible refine Up.alloc ?_ _) | (with_reducible refine Up.drew ?_) | (with_reducible refine Up.grow ?_ _) | (with_reducible refine Up.setCell ?_ (by (try simp); (try omega)) _))))
  have hPb : Blk x.to (w.heap.size + 1) 44 #[.int .i64 (kind), .int .i64 (T.first + k), .int .i64 (n), .int .i64 (m), .int .i64 (ld)] := by
    have h := (Blk.new (w.alloc (.cells #[.int .i64 T.first, .slice A T.n c, .int .i64 r] 42)) 44 #[.int .i64 (kind), .int .i64 (T.first + k), .int .i64 (n), .int .i64 (m), .int .i64 (ld)]).up (show Up _ x.to from (by repeat' (first | (with_reducible exact Up.refl _) | (with_reducible assumption) | (with_reducible refine Up.alloc ?_ _) | (with_reducible refine Up.drew ?_) | (with_reducible refine Up.grow ?_ _) | (with_reducible refine Up.setCell ?_ (by (try simp); (try omega)) _))))
    simpa only [World.size_alloc] using h
  have hup : Up w x.to := (by repeat' (first | (with_reducible exact Up.refl _) | (with_reducible assumption) | (with_reducible refine Up.alloc ?_ _) | (with_reducible refine Up.drew ?_) | (with_reducible refine Up.grow ?_ _) | (with_reducible refine Up.setCell ?_ (by (try simp); (try omega)) _)))
  obtain ⟨y, hy⟩ := Grow.mk' hup
  rw [hy] at hB hPb ⊢
  clear hy hup
  go_loopw [8, 9] (fun l h wr => ∃ (lo hi cur : Int) (f : Nat) (y : Grow w), l = .int .i64 lo ∧ h = .int .i64 hi ∧ 0 ≤ lo ∧ lo ≤ 100000000 ∧ hi ≤ 100000000 ∧ hi - lo ≤ f ∧ Hid (bs (sfpG T r kind k n ld p) f lo hi = R) ∧ wr = y.to ∧ Blk y.to w.heap.size 42 #[.int .i64 T.first, .slice A T.n c, .int .i64 r] ∧ Blk y.to (w.heap.size + 1) 44 #[.int .i64 (kind), .int .i64 (T.first + k), .int .i64 (n), .int .i64 (cur), .int .i64 (ld)]) (fun l h _ => (intOf h - intOf l).toNat)
  case atStart => exact ⟨0, 100000000, m, 100000000, y, rfl, rfl, by omega, by omega, by omega, by omega, HR, rfl, hB, hPb⟩
  case round =>
    clear hB hPb HR
    obtain ⟨lo, hi, cur, f, y0, rfl, rfl, h0, h1, h2, h3, HR, rfl, hB, hPb⟩ := hrel
    have b0 := hB.cell 0; have b1 := hB.cell 1; have b2 := hB.cell 2; have iB := hB.inw
    have p0 := hPb.cell 0; have p1 := hPb.cell 1; have p2 := hPb.cell 2; have p3 := hPb.cell 3; have p4 := hPb.cell 4; have iP := hPb.inw; have fP := hPb.frozen
    by_cases hlt : lo < hi
    · obtain ⟨f, rfl⟩ : ∃ f', f = f' + 1 := ⟨f - 1, by omega⟩
      have HR2 := HR.out
      rw [bs_succ, if_pos hlt] at HR2
      obtain ⟨s, hs⟩ : ∃ s, (lo + hi + 1) / 2 = s := ⟨_, rfl⟩
      rw [hs] at HR2
      have s1 : lo < s := by omega
      have s2 : s ≤ hi := by omega
      have i1 : IntKind.i64.wrap (lo + hi) = lo + hi := IntWalk.i64_in _ (by omega)
      have i2 : IntKind.i64.wrap (lo + hi + 1) = lo + hi + 1 := IntWalk.i64_in _ (by omega)
      have i3 : (lo + hi + 1).tdiv 2 = s := by rw [Int.tdiv_eq_ediv_of_nonneg (by omega), hs]
      have i4 : IntKind.i64.wrap s = s := IntWalk.i64_in _ (by omega)
      have i5 : IntKind.i64.wrap (s - 1) = s - 1 := IntWalk.i64_in _ (by omega)
      have HOs := HO.out s (by omega) (by omega)
      have HB := Lib.hid (hB.other (p := ⟨w.heap.size + 1, 3, none⟩) (by simp) (.int .i64 s))
      have HPB := Lib.hid (hPb.same 3 (.int .i64 s))
      have HUP := Lib.hid (Up.setCell (show Up w y0.to from (by repeat' (first | (with_reducible exact Up.refl _) | (with_reducible assumption) | (with_reducible refine Up.alloc ?_ _) | (with_reducible refine Up.drew ?_) | (with_reducible refine Up.grow ?_ _) | (with_reducible refine Up.setCell ?_ (by (try simp); (try omega)) _)))) (p := ⟨w.heap.size + 1, 3, none⟩) (by simp) (.int .i64 s))
      clear hB hPb
      by_cases hg : officeV (T.net r kind k n s) ld ≤ p
      · rw [if_pos (show sfpG T r kind k n ld p s = true by simpa [sfpG] using hg)] at HR2
        replace HR2 := Lib.hid HR2
        generalize officeV (T.net r kind k n s) ld = O at *
        replace HOs := Lib.hid HOs
        go_wp2_with (first | (go_at_call 207; (with_reducible refine (HOs.out _ _ (hv'.up HUP.out)).mono ?_); rintro e w' ⟨rfl, hb⟩; first | (obtain ⟨x, rfl⟩ := Grow.on x hb) | (obtain ⟨x, rfl⟩ := Grow.mk' hb)) | (go_at_call 218; (with_reducible refine (s_In _ _ _ _).mono ?_); rintro e w' ⟨rfl, rfl⟩) | (go_at_call 227; (with_reducible refine (i_In _ _ _ _).mono ?_); rintro e w' ⟨rfl, rfl⟩) | (go_at_call 287; (with_reducible refine (s_Rate _ _).mono ?_); rintro e w' ⟨rfl, rfl⟩) | (go_at_call 248; (with_reducible refine (i_Rate _ _).mono ?_); rintro e w' ⟨rfl, rfl⟩) | (go_at_call 323; (with_reducible refine (i_Years _ _).mono ?_); rintro e w' ⟨rfl, rfl⟩) | (go_at_call 292; (with_reducible refine (s_Amount6 _ _).mono ?_); rintro e w' ⟨rfl, rfl⟩) | (go_at_call 226; (with_reducible refine (s_Sum7 _ _).mono ?_); rintro e w' ⟨rfl, rfl⟩) | ((first | with_reducible refine wp_region_in x (by kernel_rfl) (by kernel_rfl) ?_ | with_reducible refine wp_region_here (by kernel_rfl) (by kernel_rfl) ?_); (repeat (go_big_quiet_step ((first | (go_at_call 207; with_reducible exact Ret.grow _ (HOs.out _ _ (hv'.up HUP.out))) | (go_at_call 218; with_reducible exact Ret.same _ (s_In _ _ _ _)) | (go_at_call 227; with_reducible exact Ret.same _ (i_In _ _ _ _)) | (go_at_call 287; with_reducible exact Ret.same _ (s_Rate _ _)) | (go_at_call 248; with_reducible exact Ret.same _ (i_Rate _ _)) | (go_at_call 323; with_reducible exact Ret.same _ (i_Years _ _)) | (go_at_call 292; with_reducible exact Ret.same _ (s_Amount6 _ _)) | (go_at_call 226; with_reducible exact Ret.same _ (s_Sum7 _ _)))))); refine wpQuiet_nil ?_; intro w' hw'; obtain ⟨x, rfl⟩ := hw'))
        obtain ⟨z, hz⟩ := Grow.mk' (HUP.out.trans hb)
        have hB2 := HB.out.up hb
        have hP2 := HPB.out.up hb
        rw [hz] at hB2 hP2
        go_roundw
        case rel => exact ⟨s, hi, s, f, z, rfl, rfl, by omega, by omega, by omega, by omega, HR2, hz, hB2, by simpa using hP2⟩
        case measure => simp [intOf]; omega
      · rw [if_neg (show ¬ sfpG T r kind k n ld p s = true by simpa [sfpG] using hg)] at HR2
        replace HR2 := Lib.hid HR2
        generalize officeV (T.net r kind k n s) ld = O at *
        replace HOs := Lib.hid HOs
        go_wp2_with (first | (go_at_call 207; (with_reducible refine (HOs.out _ _ (hv'.up HUP.out)).mono ?_); rintro e w' ⟨rfl, hb⟩; first | (obtain ⟨x, rfl⟩ := Grow.on x hb) | (obtain ⟨x, rfl⟩ := Grow.mk' hb)) | (go_at_call 218; (with_reducible refine (s_In _ _ _ _).mono ?_); rintro e w' ⟨rfl, rfl⟩) | (go_at_call 227; (with_reducible refine (i_In _ _ _ _).mono ?_); rintro e w' ⟨rfl, rfl⟩) | (go_at_call 287; (with_reducible refine (s_Rate _ _).mono ?_); rintro e w' ⟨rfl, rfl⟩) | (go_at_call 248; (with_reducible refine (i_Rate _ _).mono ?_); rintro e w' ⟨rfl, rfl⟩) | (go_at_call 323; (with_reducible refine (i_Years _ _).mono ?_); rintro e w' ⟨rfl, rfl⟩) | (go_at_call 292; (with_reducible refine (s_Amount6 _ _).mono ?_); rintro e w' ⟨rfl, rfl⟩) | (go_at_call 226; (with_reducible refine (s_Sum7 _ _).mono ?_); rintro e w' ⟨rfl, rfl⟩) | ((first | with_reducible refine wp_region_in x (by kernel_rfl) (by kernel_rfl) ?_ | with_reducible refine wp_region_here (by kernel_rfl) (by kernel_rfl) ?_); (repeat (go_big_quiet_step ((first | (go_at_call 207; with_reducible exact Ret.grow _ (HOs.out _ _ (hv'.up HUP.out))) | (go_at_call 218; with_reducible exact Ret.same _ (s_In _ _ _ _)) | (go_at_call 227; with_reducible exact Ret.same _ (i_In _ _ _ _)) | (go_at_call 287; with_reducible exact Ret.same _ (s_Rate _ _)) | (go_at_call 248; with_reducible exact Ret.same _ (i_Rate _ _)) | (go_at_call 323; with_reducible exact Ret.same _ (i_Years _ _)) | (go_at_call 292; with_reducible exact Ret.same _ (s_Amount6 _ _)) | (go_at_call 226; with_reducible exact Ret.same _ (s_Sum7 _ _)))))); refine wpQuiet_nil ?_; intro w' hw'; obtain ⟨x, rfl⟩ := hw'))
        obtain ⟨z, hz⟩ := Grow.mk' (HUP.out.trans hb)
        have hB2 := HB.out.up hb
        have hP2 := HPB.out.up hb
        rw [hz] at hB2 hP2
        go_roundw
        case rel => exact ⟨lo, s - 1, s, f, z, rfl, by go_num, by omega, by omega, by omega, by omega, HR2, hz, hB2, by simpa using hP2⟩
        case measure => simp [intOf]; omega
    · have HE := Lib.hid (show lo = R by have h := HR.out; rwa [bs_end _ _ (by omega)] at h)
      clear hB hPb
      by_cases hz : lo = 0
      · subst hz
        have HZ := Lib.hid (show R = 0 from HE.out.symm)
        go_wp2
        go_ret2
        rw [← HC.out, if_pos HZ.out, RetQ_bad (by omega)]
        exact ⟨rfl, (by repeat' (first | (with_reducible exact Up.refl _) | (with_reducible assumption) | (with_reducible refine Up.alloc ?_ _) | (with_reducible refine Up.drew ?_) | (with_reducible refine Up.grow ?_ _) | (with_reducible refine Up.setCell ?_ (by (try simp); (try omega)) _)))⟩
      · have HZ := Lib.hid (show ¬ R = 0 by rw [← HE.out]; exact hz)
        have hz1 : (lo == 0) = false := by simpa using hz
        clear hz
        go_wp2
        go_ret2
        rw [← HC.out, if_neg HZ.out, RetQ_ok, ← HE.out]
        exact ⟨rfl, (by repeat' (first | (with_reducible exact Up.refl _) | (with_reducible assumption) | (with_reducible refine Up.alloc ?_ _) | (with_reducible refine Up.drew ?_) | (with_reducible refine Up.grow ?_ _) | (with_reducible refine Up.setCell ?_ (by (try simp); (try omega)) _)))⟩
set_option maxRecDepth 100000 in
theorem s_SumForPremium (T : Tab) (r kind age n m ld p : Int) (v : Value) (w : World) (hv : BasAt w T r v) :
    Calls Try.prog 64 #[v, .agg #[.int .i64 (kind), .int .i64 (age), .int .i64 (n), .int .i64 (m), .int .i64 (ld)], .int .i64 p] w (RetQ w (sfpC T r kind age n m ld p) (sfpR T r kind (ix T age) n.toNat ld p)) := by
  by_cases hp : polB T r kind age n m ld = true
  case neg =>
    (have hv' := hv; obtain ⟨A, c, rfl, hc, hm, hbig, hI⟩ := hv; have ht : TabAt w T (.agg #[.int .i64 T.first, .slice A T.n c]) := ⟨A, c, rfl, hc, hm, hbig, hI⟩)
    rw [show sfpC T r kind age n m ld p = 1 from by unfold sfpC; rw [if_neg hp], RetQ_bad (by omega)]
    have HP := Lib.hid (s_IsPol T r kind age n m ld false (Bool.eq_false_iff.2 hp))
    clear hp
    go_enter Try.func64, Try.ntmps64
    go_wp2_with (first | (go_at_call 204; (with_reducible refine (HP.out _ _ (hv'.up (by repeat' (first | (with_reducible exact Up.refl _) | (with_reducible assumption) | (with_reducible refine Up.alloc ?_ _) | (with_reducible refine Up.drew ?_) | (with_reducible refine Up.grow ?_ _) | (with_reducible refine Up.setCell ?_ (by (try simp); (try omega)) _))))).mono ?_); rintro e w' ⟨rfl, hb⟩; first | (obtain ⟨x, rfl⟩ := Grow.on x hb) | (obtain ⟨x, rfl⟩ := Grow.mk' hb)) | (go_at_call 218; (with_reducible refine (s_In _ _ _ _).mono ?_); rintro e w' ⟨rfl, rfl⟩) | (go_at_call 227; (with_reducible refine (i_In _ _ _ _).mono ?_); rintro e w' ⟨rfl, rfl⟩) | (go_at_call 287; (with_reducible refine (s_Rate _ _).mono ?_); rintro e w' ⟨rfl, rfl⟩) | (go_at_call 248; (with_reducible refine (i_Rate _ _).mono ?_); rintro e w' ⟨rfl, rfl⟩) | (go_at_call 323; (with_reducible refine (i_Years _ _).mono ?_); rintro e w' ⟨rfl, rfl⟩) | (go_at_call 292; (with_reducible refine (s_Amount6 _ _).mono ?_); rintro e w' ⟨rfl, rfl⟩) | (go_at_call 226; (with_reducible refine (s_Sum7 _ _).mono ?_); rintro e w' ⟨rfl, rfl⟩) | ((first | with_reducible refine wp_region_in x (by kernel_rfl) (by kernel_rfl) ?_ | with_reducible refine wp_region_here (by kernel_rfl) (by kernel_rfl) ?_); (repeat (go_big_quiet_step ((first | (go_at_call 204; with_reducible exact Ret.grow _ (HP.out _ _ (hv'.up (by repeat' (first | (with_reducible exact Up.refl _) | (with_reducible assumption) | (with_reducible refine Up.alloc ?_ _) | (with_reducible refine Up.drew ?_) | (with_reducible refine Up.grow ?_ _) | (with_reducible refine Up.setCell ?_ (by (try simp); (try omega)) _)))))) | (go_at_call 218; with_reducible exact Ret.same _ (s_In _ _ _ _)) | (go_at_call 227; with_reducible exact Ret.same _ (i_In _ _ _ _)) | (go_at_call 287; with_reducible exact Ret.same _ (s_Rate _ _)) | (go_at_call 248; with_reducible exact Ret.same _ (i_Rate _ _)) | (go_at_call 323; with_reducible exact Ret.same _ (i_Years _ _)) | (go_at_call 292; with_reducible exact Ret.same _ (s_Amount6 _ _)) | (go_at_call 226; with_reducible exact Ret.same _ (s_Sum7 _ _)))))); refine wpQuiet_nil ?_; intro w' hw'; obtain ⟨x, rfl⟩ := hw'))
    go_ret2
    exact ⟨rfl, (by repeat' (first | (with_reducible exact Up.refl _) | (with_reducible assumption) | (with_reducible refine Up.alloc ?_ _) | (with_reducible refine Up.drew ?_) | (with_reducible refine Up.grow ?_ _) | (with_reducible refine Up.setCell ?_ (by (try simp); (try omega)) _)))⟩
  by_cases hq : inR p 1 100000000 = true
  case neg =>
    (have hv' := hv; obtain ⟨A, c, rfl, hc, hm, hbig, hI⟩ := hv; have ht : TabAt w T (.agg #[.int .i64 T.first, .slice A T.n c]) := ⟨A, c, rfl, hc, hm, hbig, hI⟩)
    rw [show sfpC T r kind age n m ld p = 2 from by unfold sfpC; rw [if_pos hp, if_neg hq], RetQ_bad (by omega)]
    have HP := Lib.hid (s_IsPol T r kind age n m ld true hp)
    have hq := Bool.eq_false_iff.2 hq
    clear hp
    go_enter Try.func64, Try.ntmps64
    go_wp2_with (first | (go_at_call 204; (with_reducible refine (HP.out _ _ (hv'.up (by repeat' (first | (with_reducible exact Up.refl _) | (with_reducible assumption) | (with_reducible refine Up.alloc ?_ _) | (with_reducible refine Up.drew ?_) | (with_reducible refine Up.grow ?_ _) | (with_reducible refine Up.setCell ?_ (by (try simp); (try omega)) _))))).mono ?_); rintro e w' ⟨rfl, hb⟩; first | (obtain ⟨x, rfl⟩ := Grow.on x hb) | (obtain ⟨x, rfl⟩ := Grow.mk' hb)) | (go_at_call 218; (with_reducible refine (s_In _ _ _ _).mono ?_); rintro e w' ⟨rfl, rfl⟩) | (go_at_call 227; (with_reducible refine (i_In _ _ _ _).mono ?_); rintro e w' ⟨rfl, rfl⟩) | (go_at_call 287; (with_reducible refine (s_Rate _ _).mono ?_); rintro e w' ⟨rfl, rfl⟩) | (go_at_call 248; (with_reducible refine (i_Rate _ _).mono ?_); rintro e w' ⟨rfl, rfl⟩) | (go_at_call 323; (with_reducible refine (i_Years _ _).mono ?_); rintro e w' ⟨rfl, rfl⟩) | (go_at_call 292; (with_reducible refine (s_Amount6 _ _).mono ?_); rintro e w' ⟨rfl, rfl⟩) | (go_at_call 226; (with_reducible refine (s_Sum7 _ _).mono ?_); rintro e w' ⟨rfl, rfl⟩) | ((first | with_reducible refine wp_region_in x (by kernel_rfl) (by kernel_rfl) ?_ | with_reducible refine wp_region_here (by kernel_rfl) (by kernel_rfl) ?_); (repeat (go_big_quiet_step ((first | (go_at_call 204; with_reducible exact Ret.grow _ (HP.out _ _ (hv'.up (by repeat' (first | (with_reducible exact Up.refl _) | (with_reducible assumption) | (with_reducible refine Up.alloc ?_ _) | (with_reducible refine Up.drew ?_) | (with_reducible refine Up.grow ?_ _) | (with_reducible refine Up.setCell ?_ (by (try simp); (try omega)) _)))))) | (go_at_call 218; with_reducible exact Ret.same _ (s_In _ _ _ _)) | (go_at_call 227; with_reducible exact Ret.same _ (i_In _ _ _ _)) | (go_at_call 287; with_reducible exact Ret.same _ (s_Rate _ _)) | (go_at_call 248; with_reducible exact Ret.same _ (i_Rate _ _)) | (go_at_call 323; with_reducible exact Ret.same _ (i_Years _ _)) | (go_at_call 292; with_reducible exact Ret.same _ (s_Amount6 _ _)) | (go_at_call 226; with_reducible exact Ret.same _ (s_Sum7 _ _)))))); refine wpQuiet_nil ?_; intro w' hw'; obtain ⟨x, rfl⟩ := hw'))
    go_ret2
    exact ⟨rfl, (by repeat' (first | (with_reducible exact Up.refl _) | (with_reducible assumption) | (with_reducible refine Up.alloc ?_ _) | (with_reducible refine Up.drew ?_) | (with_reducible refine Up.grow ?_ _) | (with_reducible refine Up.setCell ?_ (by (try simp); (try omega)) _)))⟩
  rw [show sfpC T r kind age n m ld p = (if sfpR T r kind (ix T age) n.toNat ld p = 0 then 4 else 0) from by unfold sfpC; rw [if_pos hp, if_pos hq]]
  obtain ⟨k, n, rfl, rfl, hk⟩ := polB_ok hp
  rw [ix_k, Int.toNat_natCast]
  exact s_SFPgo hk p hq v w hv
set_option maxRecDepth 100000 in
theorem i_SFPgo {T : Tab} {r kind m ld : Int} {k n : Nat} (hk : PK T r kind k n m ld) (p : Int) (hp : inR p 1 100000000 = true) (v : Value) (w : World) (hv : BasAt w T r v) :
    Calls Try.prog 65 #[v, .agg #[.int .i64 (kind), .int .i64 (T.first + k), .int .i64 (n), .int .i64 (m), .int .i64 (ld)], .int .i64 p] w (RetQ w (if sfpR T r kind k n ld p = 0 then 4 else 0) (sfpR T r kind k n ld p)) := by
  (have hv' := hv; obtain ⟨A, c, rfl, hc, hm, hbig, hI⟩ := hv; have ht : TabAt w T (.agg #[.int .i64 T.first, .slice A T.n c]) := ⟨A, c, rfl, hc, hm, hbig, hI⟩)
  have HP := Lib.hid (i_IsPol T r kind (T.first + k) n m ld true hk.pol)
  have HO (s : Int) (h1 : 1 ≤ s) (h2 : s ≤ 100000000) := i_Off (hk.sum h1 h2)
  replace HO := Lib.hid HO
  obtain ⟨R, hR⟩ : ∃ R, sfpR T r kind k n ld p = R := ⟨_, rfl⟩
  rw [hR]
  have HR : Hid (bs (sfpG T r kind k n ld p) 100000000 0 100000000 = R) := Lib.hid hR
  obtain ⟨C, hC⟩ : ∃ C : Int, (if R = 0 then 4 else 0) = C := ⟨_, rfl⟩
  rw [hC]
  have HC := Lib.hid hC
  clear hk hR hC
  go_enter Try.func65, Try.ntmps65
  go_wp2_with (first | (go_at_call 155; (with_reducible refine (HP.out _ _ (hv'.up (by repeat' (first | (with_reducible exact Up.refl _) | (with_reducible assumption) | (with_reducible refine Up.alloc ?_ _) | (with_reducible refine Up.drew ?_) | (with_reducible refine Up.grow ?_ _) | (with_reducible refine Up.setCell ?_ (by (try simp); (try omega)) _))))).mono ?_); rintro e w' ⟨rfl, hb⟩; first | (obtain ⟨x, rfl⟩ := Grow.on x hb) | (obtain ⟨x, rfl⟩ := Grow.mk' hb)) | (go_at_call 218; (with_reducible refine (s_In _ _ _ _).mono ?_); rintro e w' ⟨rfl, rfl⟩) | (go_at_call 227; (with_reducible refine (i_In _ _ _ _).mono ?_); rintro e w' ⟨rfl, rfl⟩) | (go_at_call 287; (with_reducible refine (s_Rate _ _).mono ?_); rintro e w' ⟨rfl, rfl⟩) | (go_at_call 248; (with_reducible refine (i_Rate _ _).mono ?_); rintro e w' ⟨rfl, rfl⟩) | (go_at_call 323; (with_reducible refine (i_Years _ _).mono ?_); rintro e w' ⟨rfl, rfl⟩) | (go_at_call 292; (with_reducible refine (s_Amount6 _ _).mono ?_); rintro e w' ⟨rfl, rfl⟩) | (go_at_call 226; (with_reducible refine (s_Sum7 _ _).mono ?_); rintro e w' ⟨rfl, rfl⟩) | ((first | with_reducible refine wp_region_in x (by kernel_rfl) (by kernel_rfl) ?_ | with_reducible refine wp_region_here (by kernel_rfl) (by kernel_rfl) ?_); (repeat (go_big_quiet_step ((first | (go_at_call 155; with_reducible exact Ret.grow _ (HP.out _ _ (hv'.up (by repeat' (first | (with_reducible exact Up.refl _) | (with_reducible assumption) | (with_reducible refine Up.alloc ?_ _) | (with_reducible refine Up.drew ?_) | (with_reducible refine Up.grow ?_ _) | (with_reducible refine Up.setCell ?_ (by (try simp); (try omega)) _)))))) | (go_at_call 218; with_reducible exact Ret.same _ (s_In _ _ _ _)) | (go_at_call 227; with_reducible exact Ret.same _ (i_In _ _ _ _)) | (go_at_call 287; with_reducible exact Ret.same _ (s_Rate _ _)) | (go_at_call 248; with_reducible exact Ret.same _ (i_Rate _ _)) | (go_at_call 323; with_reducible exact Ret.same _ (i_Years _ _)) | (go_at_call 292; with_reducible exact Ret.same _ (s_Amount6 _ _)) | (go_at_call 226; with_reducible exact Ret.same _ (s_Sum7 _ _)))))); refine wpQuiet_nil ?_; intro w' hw'; obtain ⟨x, rfl⟩ := hw'))
  have hB : Blk x.to w.heap.size 42 #[.int .i64 T.first, .slice A T.n c, .int .i64 r] := ((Blk.new w _ _).alloc _).up (show Up _ x.to from (by repeat' (first | (with_reducible exact Up.refl _) | (with_reducible assumption) | (with_reducible refine Up.alloc ?_ _) | (with_reducible refine Up.drew ?_) | (with_reducible refine Up.grow ?_ _) | (with_reducible refine Up.setCell ?_ (by (try simp); (try omega)) _))))
  have hPb : Blk x.to (w.heap.size + 1) 44 #[.int .i64 (kind), .int .i64 (T.first + k), .int .i64 (n), .int .i64 (m), .int .i64 (ld)] := by
    have h := (Blk.new (w.alloc (.cells #[.int .i64 T.first, .slice A T.n c, .int .i64 r] 42)) 44 #[.int .i64 (kind), .int .i64 (T.first + k), .int .i64 (n), .int .i64 (m), .int .i64 (ld)]).up (show Up _ x.to from (by repeat' (first | (with_reducible exact Up.refl _) | (with_reducible assumption) | (with_reducible refine Up.alloc ?_ _) | (with_reducible refine Up.drew ?_) | (with_reducible refine Up.grow ?_ _) | (with_reducible refine Up.setCell ?_ (by (try simp); (try omega)) _))))
    simpa only [World.size_alloc] using h
  have hup : Up w x.to := (by repeat' (first | (with_reducible exact Up.refl _) | (with_reducible assumption) | (with_reducible refine Up.alloc ?_ _) | (with_reducible refine Up.drew ?_) | (with_reducible refine Up.grow ?_ _) | (with_reducible refine Up.setCell ?_ (by (try simp); (try omega)) _)))
  obtain ⟨y, hy⟩ := Grow.mk' hup
  rw [hy] at hB hPb ⊢
  clear hy hup
  go_loopw [8, 9] (fun l h wr => ∃ (lo hi cur : Int) (f : Nat) (y : Grow w), l = .int .i64 lo ∧ h = .int .i64 hi ∧ 0 ≤ lo ∧ lo ≤ 100000000 ∧ hi ≤ 100000000 ∧ hi - lo ≤ f ∧ Hid (bs (sfpG T r kind k n ld p) f lo hi = R) ∧ wr = y.to ∧ Blk y.to w.heap.size 42 #[.int .i64 T.first, .slice A T.n c, .int .i64 r] ∧ Blk y.to (w.heap.size + 1) 44 #[.int .i64 (kind), .int .i64 (T.first + k), .int .i64 (n), .int .i64 (cur), .int .i64 (ld)]) (fun l h _ => (intOf h - intOf l).toNat)
  case atStart => exact ⟨0, 100000000, m, 100000000, y, rfl, rfl, by omega, by omega, by omega, by omega, HR, rfl, hB, hPb⟩
  case round =>
    clear hB hPb HR
    obtain ⟨lo, hi, cur, f, y0, rfl, rfl, h0, h1, h2, h3, HR, rfl, hB, hPb⟩ := hrel
    have b0 := hB.cell 0; have b1 := hB.cell 1; have b2 := hB.cell 2; have iB := hB.inw
    have p0 := hPb.cell 0; have p1 := hPb.cell 1; have p2 := hPb.cell 2; have p3 := hPb.cell 3; have p4 := hPb.cell 4; have iP := hPb.inw; have fP := hPb.frozen
    by_cases hlt : lo < hi
    · obtain ⟨f, rfl⟩ : ∃ f', f = f' + 1 := ⟨f - 1, by omega⟩
      have HR2 := HR.out
      rw [bs_succ, if_pos hlt] at HR2
      obtain ⟨s, hs⟩ : ∃ s, (lo + hi + 1) / 2 = s := ⟨_, rfl⟩
      rw [hs] at HR2
      have s1 : lo < s := by omega
      have s2 : s ≤ hi := by omega
      have i1 : IntKind.i64.wrap (lo + hi) = lo + hi := IntWalk.i64_in _ (by omega)
      have i2 : IntKind.i64.wrap (lo + hi + 1) = lo + hi + 1 := IntWalk.i64_in _ (by omega)
      have i3 : (lo + hi + 1).tdiv 2 = s := by rw [Int.tdiv_eq_ediv_of_nonneg (by omega), hs]
      have i4 : IntKind.i64.wrap s = s := IntWalk.i64_in _ (by omega)
      have i5 : IntKind.i64.wrap (s - 1) = s - 1 := IntWalk.i64_in _ (by omega)
      have HOs := HO.out s (by omega) (by omega)
      have HB := Lib.hid (hB.other (p := ⟨w.heap.size + 1, 3, none⟩) (by simp) (.int .i64 s))
      have HPB := Lib.hid (hPb.same 3 (.int .i64 s))
      have HUP := Lib.hid (Up.setCell (show Up w y0.to from (by repeat' (first | (with_reducible exact Up.refl _) | (with_reducible assumption) | (with_reducible refine Up.alloc ?_ _) | (with_reducible refine Up.drew ?_) | (with_reducible refine Up.grow ?_ _) | (with_reducible refine Up.setCell ?_ (by (try simp); (try omega)) _)))) (p := ⟨w.heap.size + 1, 3, none⟩) (by simp) (.int .i64 s))
      clear hB hPb
      by_cases hg : officeV (T.net r kind k n s) ld ≤ p
      · rw [if_pos (show sfpG T r kind k n ld p s = true by simpa [sfpG] using hg)] at HR2
        replace HR2 := Lib.hid HR2
        generalize officeV (T.net r kind k n s) ld = O at *
        replace HOs := Lib.hid HOs
        go_wp2_with (first | (go_at_call 210; (with_reducible refine (HOs.out _ _ (hv'.up HUP.out)).mono ?_); rintro e w' ⟨rfl, hb⟩; first | (obtain ⟨x, rfl⟩ := Grow.on x hb) | (obtain ⟨x, rfl⟩ := Grow.mk' hb)) | (go_at_call 218; (with_reducible refine (s_In _ _ _ _).mono ?_); rintro e w' ⟨rfl, rfl⟩) | (go_at_call 227; (with_reducible refine (i_In _ _ _ _).mono ?_); rintro e w' ⟨rfl, rfl⟩) | (go_at_call 287; (with_reducible refine (s_Rate _ _).mono ?_); rintro e w' ⟨rfl, rfl⟩) | (go_at_call 248; (with_reducible refine (i_Rate _ _).mono ?_); rintro e w' ⟨rfl, rfl⟩) | (go_at_call 323; (with_reducible refine (i_Years _ _).mono ?_); rintro e w' ⟨rfl, rfl⟩) | (go_at_call 292; (with_reducible refine (s_Amount6 _ _).mono ?_); rintro e w' ⟨rfl, rfl⟩) | (go_at_call 226; (with_reducible refine (s_Sum7 _ _).mono ?_); rintro e w' ⟨rfl, rfl⟩) | ((first | with_reducible refine wp_region_in x (by kernel_rfl) (by kernel_rfl) ?_ | with_reducible refine wp_region_here (by kernel_rfl) (by kernel_rfl) ?_); (repeat (go_big_quiet_step ((first | (go_at_call 210; with_reducible exact Ret.grow _ (HOs.out _ _ (hv'.up HUP.out))) | (go_at_call 218; with_reducible exact Ret.same _ (s_In _ _ _ _)) | (go_at_call 227; with_reducible exact Ret.same _ (i_In _ _ _ _)) | (go_at_call 287; with_reducible exact Ret.same _ (s_Rate _ _)) | (go_at_call 248; with_reducible exact Ret.same _ (i_Rate _ _)) | (go_at_call 323; with_reducible exact Ret.same _ (i_Years _ _)) | (go_at_call 292; with_reducible exact Ret.same _ (s_Amount6 _ _)) | (go_at_call 226; with_reducible exact Ret.same _ (s_Sum7 _ _)))))); refine wpQuiet_nil ?_; intro w' hw'; obtain ⟨x, rfl⟩ := hw'))
        obtain ⟨z, hz⟩ := Grow.mk' (HUP.out.trans hb)
        have hB2 := HB.out.up hb
        have hP2 := HPB.out.up hb
        rw [hz] at hB2 hP2
        go_roundw
        case rel => exact ⟨s, hi, s, f, z, rfl, rfl, by omega, by omega, by omega, by omega, HR2, hz, hB2, by simpa using hP2⟩
        case measure => simp [intOf]; omega
      · rw [if_neg (show ¬ sfpG T r kind k n ld p s = true by simpa [sfpG] using hg)] at HR2
        replace HR2 := Lib.hid HR2
        generalize officeV (T.net r kind k n s) ld = O at *
        replace HOs := Lib.hid HOs
        go_wp2_with (first | (go_at_call 210; (with_reducible refine (HOs.out _ _ (hv'.up HUP.out)).mono ?_); rintro e w' ⟨rfl, hb⟩; first | (obtain ⟨x, rfl⟩ := Grow.on x hb) | (obtain ⟨x, rfl⟩ := Grow.mk' hb)) | (go_at_call 218; (with_reducible refine (s_In _ _ _ _).mono ?_); rintro e w' ⟨rfl, rfl⟩) | (go_at_call 227; (with_reducible refine (i_In _ _ _ _).mono ?_); rintro e w' ⟨rfl, rfl⟩) | (go_at_call 287; (with_reducible refine (s_Rate _ _).mono ?_); rintro e w' ⟨rfl, rfl⟩) | (go_at_call 248; (with_reducible refine (i_Rate _ _).mono ?_); rintro e w' ⟨rfl, rfl⟩) | (go_at_call 323; (with_reducible refine (i_Years _ _).mono ?_); rintro e w' ⟨rfl, rfl⟩) | (go_at_call 292; (with_reducible refine (s_Amount6 _ _).mono ?_); rintro e w' ⟨rfl, rfl⟩) | (go_at_call 226; (with_reducible refine (s_Sum7 _ _).mono ?_); rintro e w' ⟨rfl, rfl⟩) | ((first | with_reducible refine wp_region_in x (by kernel_rfl) (by kernel_rfl) ?_ | with_reducible refine wp_region_here (by kernel_rfl) (by kernel_rfl) ?_); (repeat (go_big_quiet_step ((first | (go_at_call 210; with_reducible exact Ret.grow _ (HOs.out _ _ (hv'.up HUP.out))) | (go_at_call 218; with_reducible exact Ret.same _ (s_In _ _ _ _)) | (go_at_call 227; with_reducible exact Ret.same _ (i_In _ _ _ _)) | (go_at_call 287; with_reducible exact Ret.same _ (s_Rate _ _)) | (go_at_call 248; with_reducible exact Ret.same _ (i_Rate _ _)) | (go_at_call 323; with_reducible exact Ret.same _ (i_Years _ _)) | (go_at_call 292; with_reducible exact Ret.same _ (s_Amount6 _ _)) | (go_at_call 226; with_reducible exact Ret.same _ (s_Sum7 _ _)))))); refine wpQuiet_nil ?_; intro w' hw'; obtain ⟨x, rfl⟩ := hw'))
        obtain ⟨z, hz⟩ := Grow.mk' (HUP.out.trans hb)
        have hB2 := HB.out.up hb
        have hP2 := HPB.out.up hb
        rw [hz] at hB2 hP2
        go_roundw
        case rel => exact ⟨lo, s - 1, s, f, z, rfl, by go_num, by omega, by omega, by omega, by omega, HR2, hz, hB2, by simpa using hP2⟩
        case measure => simp [intOf]; omega
    · have HE := Lib.hid (show lo = R by have h := HR.out; rwa [bs_end _ _ (by omega)] at h)
      clear hB hPb
      by_cases hz : lo = 0
      · subst hz
        have HZ := Lib.hid (show R = 0 from HE.out.symm)
        go_wp2
        go_ret2
        rw [← HC.out, if_pos HZ.out, RetQ_bad (by omega)]
        exact ⟨rfl, (by repeat' (first | (with_reducible exact Up.refl _) | (with_reducible assumption) | (with_reducible refine Up.alloc ?_ _) | (with_reducible refine Up.drew ?_) | (with_reducible refine Up.grow ?_ _) | (with_reducible refine Up.setCell ?_ (by (try simp); (try omega)) _)))⟩
      · have HZ := Lib.hid (show ¬ R = 0 by rw [← HE.out]; exact hz)
        have hz1 : (lo == 0) = false := by simpa using hz
        clear hz
        go_wp2
        go_ret2
        rw [← HC.out, if_neg HZ.out, RetQ_ok, ← HE.out]
        exact ⟨rfl, (by repeat' (first | (with_reducible exact Up.refl _) | (with_reducible assumption) | (with_reducible refine Up.alloc ?_ _) | (with_reducible refine Up.drew ?_) | (with_reducible refine Up.grow ?_ _) | (with_reducible refine Up.setCell ?_ (by (try simp); (try omega)) _)))⟩
set_option maxRecDepth 100000 in
theorem i_SumForPremium (T : Tab) (r kind age n m ld p : Int) (v : Value) (w : World) (hv : BasAt w T r v) :
    Calls Try.prog 65 #[v, .agg #[.int .i64 (kind), .int .i64 (age), .int .i64 (n), .int .i64 (m), .int .i64 (ld)], .int .i64 p] w (RetQ w (sfpC T r kind age n m ld p) (sfpR T r kind (ix T age) n.toNat ld p)) := by
  by_cases hp : polB T r kind age n m ld = true
  case neg =>
    (have hv' := hv; obtain ⟨A, c, rfl, hc, hm, hbig, hI⟩ := hv; have ht : TabAt w T (.agg #[.int .i64 T.first, .slice A T.n c]) := ⟨A, c, rfl, hc, hm, hbig, hI⟩)
    rw [show sfpC T r kind age n m ld p = 1 from by unfold sfpC; rw [if_neg hp], RetQ_bad (by omega)]
    have HP := Lib.hid (i_IsPol T r kind age n m ld false (Bool.eq_false_iff.2 hp))
    clear hp
    go_enter Try.func65, Try.ntmps65
    go_wp2_with (first | (go_at_call 155; (with_reducible refine (HP.out _ _ (hv'.up (by repeat' (first | (with_reducible exact Up.refl _) | (with_reducible assumption) | (with_reducible refine Up.alloc ?_ _) | (with_reducible refine Up.drew ?_) | (with_reducible refine Up.grow ?_ _) | (with_reducible refine Up.setCell ?_ (by (try simp); (try omega)) _))))).mono ?_); rintro e w' ⟨rfl, hb⟩; first | (obtain ⟨x, rfl⟩ := Grow.on x hb) | (obtain ⟨x, rfl⟩ := Grow.mk' hb)) | (go_at_call 218; (with_reducible refine (s_In _ _ _ _).mono ?_); rintro e w' ⟨rfl, rfl⟩) | (go_at_call 227; (with_reducible refine (i_In _ _ _ _).mono ?_); rintro e w' ⟨rfl, rfl⟩) | (go_at_call 287; (with_reducible refine (s_Rate _ _).mono ?_); rintro e w' ⟨rfl, rfl⟩) | (go_at_call 248; (with_reducible refine (i_Rate _ _).mono ?_); rintro e w' ⟨rfl, rfl⟩) | (go_at_call 323; (with_reducible refine (i_Years _ _).mono ?_); rintro e w' ⟨rfl, rfl⟩) | (go_at_call 292; (with_reducible refine (s_Amount6 _ _).mono ?_); rintro e w' ⟨rfl, rfl⟩) | (go_at_call 226; (with_reducible refine (s_Sum7 _ _).mono ?_); rintro e w' ⟨rfl, rfl⟩) | ((first | with_reducible refine wp_region_in x (by kernel_rfl) (by kernel_rfl) ?_ | with_reducible refine wp_region_here (by kernel_rfl) (by kernel_rfl) ?_); (repeat (go_big_quiet_step ((first | (go_at_call 155; with_reducible exact Ret.grow _ (HP.out _ _ (hv'.up (by repeat' (first | (with_reducible exact Up.refl _) | (with_reducible assumption) | (with_reducible refine Up.alloc ?_ _) | (with_reducible refine Up.drew ?_) | (with_reducible refine Up.grow ?_ _) | (with_reducible refine Up.setCell ?_ (by (try simp); (try omega)) _)))))) | (go_at_call 218; with_reducible exact Ret.same _ (s_In _ _ _ _)) | (go_at_call 227; with_reducible exact Ret.same _ (i_In _ _ _ _)) | (go_at_call 287; with_reducible exact Ret.same _ (s_Rate _ _)) | (go_at_call 248; with_reducible exact Ret.same _ (i_Rate _ _)) | (go_at_call 323; with_reducible exact Ret.same _ (i_Years _ _)) | (go_at_call 292; with_reducible exact Ret.same _ (s_Amount6 _ _)) | (go_at_call 226; with_reducible exact Ret.same _ (s_Sum7 _ _)))))); refine wpQuiet_nil ?_; intro w' hw'; obtain ⟨x, rfl⟩ := hw'))
    go_ret2
    exact ⟨rfl, (by repeat' (first | (with_reducible exact Up.refl _) | (with_reducible assumption) | (with_reducible refine Up.alloc ?_ _) | (with_reducible refine Up.drew ?_) | (with_reducible refine Up.grow ?_ _) | (with_reducible refine Up.setCell ?_ (by (try simp); (try omega)) _)))⟩
  by_cases hq : inR p 1 100000000 = true
  case neg =>
    (have hv' := hv; obtain ⟨A, c, rfl, hc, hm, hbig, hI⟩ := hv; have ht : TabAt w T (.agg #[.int .i64 T.first, .slice A T.n c]) := ⟨A, c, rfl, hc, hm, hbig, hI⟩)
    rw [show sfpC T r kind age n m ld p = 2 from by unfold sfpC; rw [if_pos hp, if_neg hq], RetQ_bad (by omega)]
    have HP := Lib.hid (i_IsPol T r kind age n m ld true hp)
    have hq := Bool.eq_false_iff.2 hq
    clear hp
    go_enter Try.func65, Try.ntmps65
    go_wp2_with (first | (go_at_call 155; (with_reducible refine (HP.out _ _ (hv'.up (by repeat' (first | (with_reducible exact Up.refl _) | (with_reducible assumption) | (with_reducible refine Up.alloc ?_ _) | (with_reducible refine Up.drew ?_) | (with_reducible refine Up.grow ?_ _) | (with_reducible refine Up.setCell ?_ (by (try simp); (try omega)) _))))).mono ?_); rintro e w' ⟨rfl, hb⟩; first | (obtain ⟨x, rfl⟩ := Grow.on x hb) | (obtain ⟨x, rfl⟩ := Grow.mk' hb)) | (go_at_call 218; (with_reducible refine (s_In _ _ _ _).mono ?_); rintro e w' ⟨rfl, rfl⟩) | (go_at_call 227; (with_reducible refine (i_In _ _ _ _).mono ?_); rintro e w' ⟨rfl, rfl⟩) | (go_at_call 287; (with_reducible refine (s_Rate _ _).mono ?_); rintro e w' ⟨rfl, rfl⟩) | (go_at_call 248; (with_reducible refine (i_Rate _ _).mono ?_); rintro e w' ⟨rfl, rfl⟩) | (go_at_call 323; (with_reducible refine (i_Years _ _).mono ?_); rintro e w' ⟨rfl, rfl⟩) | (go_at_call 292; (with_reducible refine (s_Amount6 _ _).mono ?_); rintro e w' ⟨rfl, rfl⟩) | (go_at_call 226; (with_reducible refine (s_Sum7 _ _).mono ?_); rintro e w' ⟨rfl, rfl⟩) | ((first | with_reducible refine wp_region_in x (by kernel_rfl) (by kernel_rfl) ?_ | with_reducible refine wp_region_here (by kernel_rfl) (by kernel_rfl) ?_); (repeat (go_big_quiet_step ((first | (go_at_call 155; with_reducible exact Ret.grow _ (HP.out _ _ (hv'.up (by repeat' (first | (with_reducible exact Up.refl _) | (with_reducible assumption) | (with_reducible refine Up.alloc ?_ _) | (with_reducible refine Up.drew ?_) | (with_reducible refine Up.grow ?_ _) | (with_reducible refine Up.setCell ?_ (by (try simp); (try omega)) _)))))) | (go_at_call 218; with_reducible exact Ret.same _ (s_In _ _ _ _)) | (go_at_call 227; with_reducible exact Ret.same _ (i_In _ _ _ _)) | (go_at_call 287; with_reducible exact Ret.same _ (s_Rate _ _)) | (go_at_call 248; with_reducible exact Ret.same _ (i_Rate _ _)) | (go_at_call 323; with_reducible exact Ret.same _ (i_Years _ _)) | (go_at_call 292; with_reducible exact Ret.same _ (s_Amount6 _ _)) | (go_at_call 226; with_reducible exact Ret.same _ (s_Sum7 _ _)))))); refine wpQuiet_nil ?_; intro w' hw'; obtain ⟨x, rfl⟩ := hw'))
    go_ret2
    exact ⟨rfl, (by repeat' (first | (with_reducible exact Up.refl _) | (with_reducible assumption) | (with_reducible refine Up.alloc ?_ _) | (with_reducible refine Up.drew ?_) | (with_reducible refine Up.grow ?_ _) | (with_reducible refine Up.setCell ?_ (by (try simp); (try omega)) _)))⟩
  rw [show sfpC T r kind age n m ld p = (if sfpR T r kind (ix T age) n.toNat ld p = 0 then 4 else 0) from by unfold sfpC; rw [if_pos hp, if_pos hq]]
  obtain ⟨k, n, rfl, rfl, hk⟩ := polB_ok hp
  rw [ix_k, Int.toNat_natCast]
  exact i_SFPgo hk p hq v w hv
end Go.Proofs.Ytklnikaakpebnaa
