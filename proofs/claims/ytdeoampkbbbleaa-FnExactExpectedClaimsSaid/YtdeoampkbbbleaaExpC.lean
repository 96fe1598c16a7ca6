/- Contracts of ExpectedClaims, both sides. Condition: the slices read as the table's numbers and the holdings. -/
import Derived.Test.YtdeoampkbbbleaaMat
namespace Go.Proofs.Ytdeoampkbbbleaa
open Go.RowKit Pu
set_option linter.unusedVariables false
set_option linter.unusedSimpArgs false

def ecV (T : Tab) (g : Nat → Int) : Int := if g 0 = 3 then 0 else up (T.lv (g 1 + g 5 - T.first).toNat - T.lv (g 1 + g 5 + 1 - T.first).toNat) (g 6 * g 3) (T.lv (g 1 + g 5 - T.first).toNat)
theorem ec_facts {T : Tab} {r : Int} {g : Nat → Int} (h : portOk T r g) : T.Ok ∧ T.first ≤ g 1 + g 5 ∧ g 1 + g 5 ≤ 270 ∧ 1 ≤ T.lv (g 1 + g 5 - T.first).toNat ∧ T.lv (g 1 + g 5 - T.first).toNat ≤ 1000000 ∧
    (0 ≤ T.lv (g 1 + g 5 - T.first).toNat - T.lv (g 1 + g 5 + 1 - T.first).toNat ∧ T.lv (g 1 + g 5 - T.first).toNat - T.lv (g 1 + g 5 + 1 - T.first).toNat ≤ T.lv (g 1 + g 5 - T.first).toNat) ∧ 0 ≤ g 6 * g 3 ∧ g 6 * g 3 ≤ 100000000000000 := by
  have hP := hold_mul h
  obtain ⟨k, n, j, e1, e2, e3, hk, hj, hd⟩ := resC_ok h.1
  have hl := hk.hl
  have db := hk.dur_bd
  have lo := hk.hT.lo
  rw [e1, e3]
  have a1 : (T.first + (k : Int) + (j : Int) - T.first).toNat = k + j := by omega
  have a2 : (T.first + (k : Int) + (j : Int) + 1 - T.first).toNat = k + j + 1 := by omega
  rw [a1, a2]
  have b1 := hk.hT.lv_bd (k + j)
  have b2 := hk.hT.lv_bd (k + j + 1)
  have b3 := hk.hT.dth_bd (k + j)
  have hlv : ¬ T.lv (k + j) = 0 := fun e => by
    have : T.D r (k + j) = 0 := by unfold Tab.D; rw [e]; simp
    omega
  unfold Tab.dth at b3
  exact ⟨hk.hT, by omega, by omega, by omega, by omega, by omega, hP.1, hP.2.1⟩
theorem qd_ec {d P L : Int} (h0 : 0 ≤ d) (h1 : d ≤ L) (hL : 1 ≤ L) (hP : 0 ≤ P) : 0 ≤ qd d P L ∧ qd d P L ≤ P := by
  refine ⟨qd_nonneg h0 hP hL, ?_⟩
  unfold qd
  apply Int.ediv_le_of_le_mul (by omega)
  rw [Int.mul_comm P L]
  exact Int.mul_le_mul_of_nonneg_right h1 hP
theorem ec_bd {T : Tab} {r : Int} {g : Nat → Int} (h : portOk T r g) : 0 ≤ ecV T g ∧ ecV T g ≤ 100000000000001 := by
  obtain ⟨hT, hA1, hA2, hl1, hl2, hdt, hP1, hP2⟩ := ec_facts h
  unfold ecV
  split
  · omega
  · have q := qd_ec hdt.1 hdt.2 hl1 hP1
    have u := up_bd (a := T.lv (g 1 + g 5 - T.first).toNat - T.lv (g 1 + g 5 + 1 - T.first).toNat) (b := g 6 * g 3) hl1
    omega
theorem up_comm (a b c : Int) : up a b c = up b a c := by unfold up qd rm; rw [Int.mul_comm a b]
set_option maxRecDepth 100000 in
set_option maxHeartbeats 4000000 in
theorem s_ECOk (T : Tab) (r : Int) (n : Nat) (g : Nat → Nat → Int) (hn : n ≤ 1048576) (hB : portB T r n g = true) (v vl : Value) (w : World) (hv : BasAt w T r v) (hl : HAt w vl n g) :
    Calls Try.prog 36 #[v, vl] w (Ret w (.tuple #[.int .i64 (hsum (fun i => ecV T (g i)) n), .int .i64 0])) := by
  (have hv' := hv; obtain ⟨A, c, rfl, hc, hm, hbig, hI⟩ := hv; have ht : TabAt w T (.agg #[.int .i64 T.first, .slice A T.n c]) := ⟨A, c, rfl, hc, hm, hbig, hI⟩)
  have HP := Lib.hid fun v vl w => s_IsPort T r n g hn true hB v vl w
  have hB2 := portB_iff.1 hB
  have h30 := hB2.2.2
  have HO := Lib.hid hB2.1
  clear hB2 hB
  have HL2 := Lib.hid hl
  obtain ⟨A2, c2, rfl, _, _, hHI⟩ := hl
  have HHI := Lib.hid hHI
  clear hHI hI
  go_enter Try.func36, Try.ntmps36
  go_wp2_with (first | (go_at_call 20; (with_reducible refine (HP.out _ _ _ (hv'.up (by repeat' (first | (with_reducible exact Up.refl _) | (with_reducible assumption) | (with_reducible refine Up.alloc ?_ _) | (with_reducible refine Up.drew ?_) | (with_reducible refine Up.grow ?_ _) | (with_reducible refine Up.setCell ?_ (by (try simp); (try omega)) _)))) (HL2.out.up (by repeat' (first | (with_reducible exact Up.refl _) | (with_reducible assumption) | (with_reducible refine Up.alloc ?_ _) | (with_reducible refine Up.drew ?_) | (with_reducible refine Up.grow ?_ _) | (with_reducible refine Up.setCell ?_ (by (try simp); (try omega)) _))))).mono ?_); rintro e w' ⟨rfl, hb⟩; first | (obtain ⟨x, rfl⟩ := Grow.on x hb) | (obtain ⟨x, rfl⟩ := Grow.mk' hb)) | (go_at_call 142; (with_reducible refine (s_In _ _ _ _).mono ?_); rintro e w' ⟨rfl, rfl⟩) | (go_at_call 186; (with_reducible refine (i_In _ _ _ _).mono ?_); rintro e w' ⟨rfl, rfl⟩) | (go_at_call 222; (with_reducible refine (s_Rate _ _).mono ?_); rintro e w' ⟨rfl, rfl⟩) | (go_at_call 165; (with_reducible refine (i_Rate _ _).mono ?_); rintro e w' ⟨rfl, rfl⟩) | (go_at_call 262; (with_reducible refine (i_Years _ _).mono ?_); rintro e w' ⟨rfl, rfl⟩) | (go_at_call 227; (with_reducible refine (s_Amount6 _ _).mono ?_); rintro e w' ⟨rfl, rfl⟩) | (go_at_call 236; (with_reducible refine (s_Sum7 _ _).mono ?_); rintro e w' ⟨rfl, rfl⟩) | ((first | with_reducible refine wp_region_in x (by kernel_rfl) (by kernel_rfl) ?_ | with_reducible refine wp_region_here (by kernel_rfl) (by kernel_rfl) ?_); (repeat (go_big_quiet_step ((first | (go_at_call 20; with_reducible exact Ret.grow _ (HP.out _ _ _ (hv'.up (by repeat' (first | (with_reducible exact Up.refl _) | (with_reducible assumption) | (with_reducible refine Up.alloc ?_ _) | (with_reducible refine Up.drew ?_) | (with_reducible refine Up.grow ?_ _) | (with_reducible refine Up.setCell ?_ (by (try simp); (try omega)) _)))) (HL2.out.up (by repeat' (first | (with_reducible exact Up.refl _) | (with_reducible assumption) | (with_reducible refine Up.alloc ?_ _) | (with_reducible refine Up.drew ?_) | (with_reducible refine Up.grow ?_ _) | (with_reducible refine Up.setCell ?_ (by (try simp); (try omega)) _)))))) | (go_at_call 142; with_reducible exact Ret.same _ (s_In _ _ _ _)) | (go_at_call 186; with_reducible exact Ret.same _ (i_In _ _ _ _)) | (go_at_call 222; with_reducible exact Ret.same _ (s_Rate _ _)) | (go_at_call 165; with_reducible exact Ret.same _ (i_Rate _ _)) | (go_at_call 262; with_reducible exact Ret.same _ (i_Years _ _)) | (go_at_call 227; with_reducible exact Ret.same _ (s_Amount6 _ _)) | (go_at_call 236; with_reducible exact Ret.same _ (s_Sum7 _ _)))))); refine wpQuiet_nil ?_; intro w' hw'; obtain ⟨x, rfl⟩ := hw'))
  go_loopw [6, 7] (fun a i wr => ∃ (k : Nat) (y : Grow (w.alloc (.cells #[.int .i64 T.first, .slice A T.n c, .int .i64 r] 33))) (S : Int), k ≤ n ∧ i = .int .i64 k ∧ a = .int .i64 S ∧ wr = y.to ∧ Hid (hsum (fun i => ecV T (g i)) k = S)) (fun a i _ => n - (intOf i).toNat)
  case atStart => exact ⟨0, x, 0, Nat.zero_le _, rfl, rfl, rfl, Lib.hid rfl⟩
  case round =>
    clear x hb
    obtain ⟨k, x, S, hk, rfl, rfl, rfl, HS⟩ := hrel
    have hbS := hsum_bd (f := fun i => ecV T (g i)) (M := 100000000000001) (n := k) (fun i hi => ec_bd (HO.out i (by omega)))
    rw [HS.out] at hbS
    by_cases hlt : k < n
    · have hok := HO.out k hlt
      obtain ⟨b2, off2, rfl, ib, e0, e1, e2, e3, e4, e5, e6⟩ := ((HHI.out.up (Up.alloc (Up.refl w) (.cells #[.int .i64 T.first, .slice A T.n c, .int .i64 r] 33))).up x.below).seven hlt
      obtain ⟨hT, hA1, hA2, hl1, hl2, hdt, hP1, hP2⟩ := ec_facts hok
      have hS2 : S ≤ 3000000000000030 := by have : (k : Int) * 100000000000001 ≤ 30 * 100000000000001 := Int.mul_le_mul_of_nonneg_right (by omega) (by omega); omega
      have hS1 := hbS.1
      clear hbS
      obtain ⟨E, hE⟩ : ∃ E, ecV T (g k) = E := ⟨_, rfl⟩
      have HST : Hid (hsum (fun i => ecV T (g i)) (k + 1) = S + E) := Lib.hid (by show hsum (fun i => ecV T (g i)) k + ecV T (g k) = _; rw [HS.out, hE])
      have hbE := ec_bd hok
      rw [hE] at hbE
      unfold ecV at hE
      obtain ⟨Ag, hAg⟩ : ∃ Ag, g k 1 + g k 5 = Ag := ⟨_, rfl⟩
      obtain ⟨P, hPe⟩ : ∃ P, g k 6 * g k 3 = P := ⟨_, rfl⟩
      rw [hAg] at hE hA1 hA2 hl1 hl2 hdt
      rw [hPe] at hE hP1 hP2
      have lo := hT.lo
      have i1 : IntKind.i64.wrap (g k 1 + g k 5) = Ag := by rw [hAg]; exact IntWalk.i64_in _ (by omega)
      have i4 : IntKind.i64.wrap (g k 6 * g k 3) = P := by rw [hPe]; exact IntWalk.i64_in _ (by omega)
      have HL0 := Lib.hid fun v w h => s_Lives hT Ag (by omega) (by omega) v w h
      have HL1 := Lib.hid fun v w h => s_Lives hT (Ag + 1) (by omega) (by omega) v w h
      have i2 : IntKind.i64.wrap (Ag + 1) = Ag + 1 := IntWalk.i64_in _ (by omega)
      generalize T.lv (Ag - T.first).toNat = L0 at *
      generalize T.lv (Ag + 1 - T.first).toNat = L1 at *
      have HU := Lib.hid fun w => s_Up (L0 - L1) P L0 (by omega) (by omega) (by omega) (by omega) (by omega) (by omega) (by have := qd_ec hdt.1 hdt.2 hl1 hP1; omega) w
      have i3 : IntKind.i64.wrap (L0 - L1) = L0 - L1 := IntWalk.i64_in _ (by omega)
      have hbU : ¬ g k 0 = 3 → E = up (L0 - L1) P L0 := fun h => by rw [← hE, if_neg h]
      have hbZ : g k 0 = 3 → E = 0 := fun h => by rw [← hE, if_pos h]
      generalize up (L0 - L1) P L0 = U at *
      have HZ := Lib.hid hbZ
      have HUU := Lib.hid hbU
      clear hE hAg hPe hok hbZ hbU
      by_cases h3 : g k 0 = 3
      · have HE := Lib.hid (HZ.out h3)
        have h3b : (g k 0 != 3) = false := by simpa using h3
        clear h3
        go_wp2_with (go_at_call 157; (with_reducible refine (HL0.out _ _ (ht.up (by repeat' (first | (with_reducible exact Up.refl _) | (with_reducible assumption) | (with_reducible refine Up.alloc ?_ _) | (with_reducible refine Up.drew ?_) | (with_reducible refine Up.grow ?_ _) | (with_reducible refine Up.setCell ?_ (by (try simp); (try omega)) _))))).mono ?_); rintro e w5 ⟨rfl, hx⟩; have hQ := (Blk.new x.to 113 #[.int .i64 (g k 0), .int .i64 (g k 1), .int .i64 (g k 2), .int .i64 (g k 3), .int .i64 (g k 4), .int .i64 (g k 5), .int .i64 (g k 6)]).up hx; have hK := (Blk.new w 33 #[.int .i64 T.first, .slice A T.n c, .int .i64 r]).up ((show Up (w.alloc (.cells #[.int .i64 T.first, .slice A T.n c, .int .i64 r] 33)) x.to from x.below).trans ((Up.alloc (Up.refl _) _).trans hx)); have q0 := hQ.cell 0; have q3 := hQ.cell 3; have q6 := hQ.cell 6; have iq := hQ.inw; have c0 := hK.cell 0; have c1 := hK.cell 1; have ic := hK.inw; have hup : Up x.to w5 := (Up.alloc (Up.refl _) _).trans hx)
        go_roundw
        case rel =>
          obtain ⟨y, hy⟩ := Grow.mk' ((show Up (w.alloc (.cells #[.int .i64 T.first, .slice A T.n c, .int .i64 r] 33)) x.to from x.below).trans hup)
          exact ⟨k + 1, y, _, by omega, by go_num, rfl, hy, Lib.hid (by rw [HST.out, HE.out]; simp)⟩
        case measure => simp [intOf]; omega
      · have HE := Lib.hid (HUU.out h3)
        have h3b : (g k 0 != 3) = true := by simpa using h3
        have hE := HE.out
        subst hE
        clear h3
        go_wp2_with (go_at_call 157; (with_reducible refine (HL0.out _ _ (ht.up (by repeat' (first | (with_reducible exact Up.refl _) | (with_reducible assumption) | (with_reducible refine Up.alloc ?_ _) | (with_reducible refine Up.drew ?_) | (with_reducible refine Up.grow ?_ _) | (with_reducible refine Up.setCell ?_ (by (try simp); (try omega)) _))))).mono ?_); rintro e w5 ⟨rfl, hx⟩; have hQ := (Blk.new x.to 113 #[.int .i64 (g k 0), .int .i64 (g k 1), .int .i64 (g k 2), .int .i64 (g k 3), .int .i64 (g k 4), .int .i64 (g k 5), .int .i64 (g k 6)]).up hx; have hK := (Blk.new w 33 #[.int .i64 T.first, .slice A T.n c, .int .i64 r]).up ((show Up (w.alloc (.cells #[.int .i64 T.first, .slice A T.n c, .int .i64 r] 33)) x.to from x.below).trans ((Up.alloc (Up.refl _) _).trans hx)); have q0 := hQ.cell 0; have q3 := hQ.cell 3; have q6 := hQ.cell 6; have iq := hQ.inw; have c0 := hK.cell 0; have c1 := hK.cell 1; have ic := hK.inw; have hup : Up x.to w5 := (Up.alloc (Up.refl _) _).trans hx)
        have huw : Up w w5 := ((Up.alloc (Up.refl w) (.cells #[.int .i64 T.first, .slice A T.n c, .int .i64 r] 33)).trans (show Up _ x.to from x.below)).trans hup
        clear hx
        have iS : IntKind.i64.wrap (S + E) = S + E := IntWalk.i64_in _ (by omega)
        go_region_held3 (fun w' => w'.cell? ⟨w.heap.size, 0, none⟩ = some (.int .i64 T.first) ∧ w'.cell? ⟨w.heap.size, 1, none⟩ = some (.slice A T.n c) ∧ w'.cell? ⟨x.to.heap.size, 3, none⟩ = some (.int .i64 (g k 3)) ∧ w'.cell? ⟨x.to.heap.size, 6, none⟩ = some (.int .i64 (g k 6))) ((repeat' apply And.intro) <;> go_simp)
          (first
            | (go_at_call 157; ((with_reducible refine (HL1.out _ _ (ht.up (huw.trans (by repeat' (first | (with_reducible exact Up.refl _) | (with_reducible assumption) | (with_reducible refine Up.alloc ?_ _) | (with_reducible refine Up.drew ?_) | (with_reducible refine Up.grow ?_ _) | (with_reducible refine Up.setCell ?_ (by (try simp); (try omega)) _)))))).mono ?_); rintro e w6 ⟨rfl, h6⟩; have h6 := (Up.drew (Up.refl w5)).trans h6; have hup := hup.trans h6; have hQ := hQ.up h6; have hK := hK.up h6; have q0 := hQ.cell 0; have q3 := hQ.cell 3; have q6 := hQ.cell 6; have iq := hQ.inw; have c0 := hK.cell 0; have c1 := hK.cell 1; have ic := hK.inw))
            | (go_at_call 158; ((with_reducible refine (HU.out _).mono ?_); rintro e w7 ⟨rfl, rfl⟩)))
        all_goals
          go_wp2
          go_roundw
          case rel =>
            obtain ⟨y, hy⟩ := Grow.mk' ((show Up (w.alloc (.cells #[.int .i64 T.first, .slice A T.n c, .int .i64 r] 33)) x.to from x.below).trans hup)
            exact ⟨k + 1, y, _, by omega, by go_num, rfl, hy, Lib.hid (by rw [HST.out])⟩
          case measure => simp [intOf]; omega
    · have e : k = n := by omega
      subst e
      go_wp2
      go_ret2
      exact ⟨by rw [HS.out]; rfl, (by repeat' (first | (with_reducible exact Up.refl _) | (with_reducible assumption) | (with_reducible refine Up.alloc ?_ _) | (with_reducible refine Up.drew ?_) | (with_reducible refine Up.grow ?_ _) | (with_reducible refine Up.setCell ?_ (by (try simp); (try omega)) _)))⟩
set_option maxRecDepth 100000 in
set_option maxHeartbeats 4000000 in
theorem i_ECOk (T : Tab) (r : Int) (n : Nat) (g : Nat → Nat → Int) (hn : n ≤ 1048576) (hB : portB T r n g = true) (v vl : Value) (w : World) (hv : BasAt w T r v) (hl : HAt w vl n g) :
    Calls Try.prog 37 #[v, vl] w (Ret w (.tuple #[.int .i64 (hsum (fun i => ecV T (g i)) n), .int .i64 0])) := by
  (have hv' := hv; obtain ⟨A, c, rfl, hc, hm, hbig, hI⟩ := hv; have ht : TabAt w T (.agg #[.int .i64 T.first, .slice A T.n c]) := ⟨A, c, rfl, hc, hm, hbig, hI⟩)
  have HP := Lib.hid fun v vl w => i_IsPort T r n g hn true hB v vl w
  have hB2 := portB_iff.1 hB
  have h30 := hB2.2.2
  have HO := Lib.hid hB2.1
  clear hB2 hB
  have HL2 := Lib.hid hl
  obtain ⟨A2, c2, rfl, _, _, hHI⟩ := hl
  have HHI := Lib.hid hHI
  clear hHI hI
  go_enter Try.func37, Try.ntmps37
  go_wp2_with (first | (go_at_call 23; (with_reducible refine (HP.out _ _ _ (hv'.up (by repeat' (first | (with_reducible exact Up.refl _) | (with_reducible assumption) | (with_reducible refine Up.alloc ?_ _) | (with_reducible refine Up.drew ?_) | (with_reducible refine Up.grow ?_ _) | (with_reducible refine Up.setCell ?_ (by (try simp); (try omega)) _)))) (HL2.out.up (by repeat' (first | (with_reducible exact Up.refl _) | (with_reducible assumption) | (with_reducible refine Up.alloc ?_ _) | (with_reducible refine Up.drew ?_) | (with_reducible refine Up.grow ?_ _) | (with_reducible refine Up.setCell ?_ (by (try simp); (try omega)) _))))).mono ?_); rintro e w' ⟨rfl, hb⟩; first | (obtain ⟨x, rfl⟩ := Grow.on x hb) | (obtain ⟨x, rfl⟩ := Grow.mk' hb)) | (go_at_call 142; (with_reducible refine (s_In _ _ _ _).mono ?_); rintro e w' ⟨rfl, rfl⟩) | (go_at_call 186; (with_reducible refine (i_In _ _ _ _).mono ?_); rintro e w' ⟨rfl, rfl⟩) | (go_at_call 222; (with_reducible refine (s_Rate _ _).mono ?_); rintro e w' ⟨rfl, rfl⟩) | (go_at_call 165; (with_reducible refine (i_Rate _ _).mono ?_); rintro e w' ⟨rfl, rfl⟩) | (go_at_call 262; (with_reducible refine (i_Years _ _).mono ?_); rintro e w' ⟨rfl, rfl⟩) | (go_at_call 227; (with_reducible refine (s_Amount6 _ _).mono ?_); rintro e w' ⟨rfl, rfl⟩) | (go_at_call 236; (with_reducible refine (s_Sum7 _ _).mono ?_); rintro e w' ⟨rfl, rfl⟩) | ((first | with_reducible refine wp_region_in x (by kernel_rfl) (by kernel_rfl) ?_ | with_reducible refine wp_region_here (by kernel_rfl) (by kernel_rfl) ?_); (repeat (go_big_quiet_step ((first | (go_at_call 23; with_reducible exact Ret.grow _ (HP.out _ _ _ (hv'.up (by repeat' (first | (with_reducible exact Up.refl _) | (with_reducible assumption) | (with_reducible refine Up.alloc ?_ _) | (with_reducible refine Up.drew ?_) | (with_reducible refine Up.grow ?_ _) | (with_reducible refine Up.setCell ?_ (by (try simp); (try omega)) _)))) (HL2.out.up (by repeat' (first | (with_reducible exact Up.refl _) | (with_reducible assumption) | (with_reducible refine Up.alloc ?_ _) | (with_reducible refine Up.drew ?_) | (with_reducible refine Up.grow ?_ _) | (with_reducible refine Up.setCell ?_ (by (try simp); (try omega)) _)))))) | (go_at_call 142; with_reducible exact Ret.same _ (s_In _ _ _ _)) | (go_at_call 186; with_reducible exact Ret.same _ (i_In _ _ _ _)) | (go_at_call 222; with_reducible exact Ret.same _ (s_Rate _ _)) | (go_at_call 165; with_reducible exact Ret.same _ (i_Rate _ _)) | (go_at_call 262; with_reducible exact Ret.same _ (i_Years _ _)) | (go_at_call 227; with_reducible exact Ret.same _ (s_Amount6 _ _)) | (go_at_call 236; with_reducible exact Ret.same _ (s_Sum7 _ _)))))); refine wpQuiet_nil ?_; intro w' hw'; obtain ⟨x, rfl⟩ := hw'))
  go_loopw [6, 16] (fun a i wr => ∃ (k : Nat) (y : Grow (w.alloc (.cells #[.int .i64 T.first, .slice A T.n c, .int .i64 r] 33))) (S : Int), k ≤ n ∧ i = .int .i64 k ∧ a = .int .i64 S ∧ wr = y.to ∧ Hid (hsum (fun i => ecV T (g i)) k = S)) (fun a i _ => n - (intOf i).toNat)
  case atStart => exact ⟨0, x, 0, Nat.zero_le _, rfl, rfl, rfl, Lib.hid rfl⟩
  case round =>
    clear x hb
    obtain ⟨k, x, S, hk, rfl, rfl, rfl, HS⟩ := hrel
    have hbS := hsum_bd (f := fun i => ecV T (g i)) (M := 100000000000001) (n := k) (fun i hi => ec_bd (HO.out i (by omega)))
    rw [HS.out] at hbS
    by_cases hlt : k < n
    · have hok := HO.out k hlt
      obtain ⟨b2, off2, rfl, ib, e0, e1, e2, e3, e4, e5, e6⟩ := ((HHI.out.up (Up.alloc (Up.refl w) (.cells #[.int .i64 T.first, .slice A T.n c, .int .i64 r] 33))).up x.below).seven hlt
      obtain ⟨hT, hA1, hA2, hl1, hl2, hdt, hP1, hP2⟩ := ec_facts hok
      have hS2 : S ≤ 3000000000000030 := by have : (k : Int) * 100000000000001 ≤ 30 * 100000000000001 := Int.mul_le_mul_of_nonneg_right (by omega) (by omega); omega
      have hS1 := hbS.1
      clear hbS
      obtain ⟨E, hE⟩ : ∃ E, ecV T (g k) = E := ⟨_, rfl⟩
      have HST : Hid (hsum (fun i => ecV T (g i)) (k + 1) = S + E) := Lib.hid (by show hsum (fun i => ecV T (g i)) k + ecV T (g k) = _; rw [HS.out, hE])
      have hbE := ec_bd hok
      rw [hE] at hbE
      unfold ecV at hE
      obtain ⟨Ag, hAg⟩ : ∃ Ag, g k 1 + g k 5 = Ag := ⟨_, rfl⟩
      obtain ⟨P, hPe⟩ : ∃ P, g k 6 * g k 3 = P := ⟨_, rfl⟩
      rw [hAg] at hE hA1 hA2 hl1 hl2 hdt
      rw [hPe] at hE hP1 hP2
      have lo := hT.lo
      have i1 : IntKind.i64.wrap (g k 1 + g k 5) = Ag := by rw [hAg]; exact IntWalk.i64_in _ (by omega)
      have i4 : IntKind.i64.wrap (g k 6 * g k 3) = P := by rw [hPe]; exact IntWalk.i64_in _ (by omega)
      have eD : T.dth (Ag - T.first).toNat = T.lv (Ag - T.first).toNat - T.lv (Ag + 1 - T.first).toNat := by rw [show (Ag + 1 - T.first).toNat = (Ag - T.first).toNat + 1 from by omega]; rfl
      have HL0 := Lib.hid fun v w h => i_Lives hT Ag (by omega) (by omega) v w h
      have HD : ∀ v w, TabAt w T v → Calls Try.prog 160 #[v, .int .i64 Ag] w (Ret w (.int .i64 (T.lv (Ag - T.first).toNat - T.lv (Ag + 1 - T.first).toNat))) := fun v w h => by rw [← eD]; exact i_Deaths hT Ag (by omega) (by omega) v w h
      replace HD := Lib.hid HD
      clear eD
      generalize T.lv (Ag - T.first).toNat = L0 at *
      generalize T.lv (Ag + 1 - T.first).toNat = L1 at *
      have HU : ∀ w, Calls Try.prog 159 #[.int .i64 P, .int .i64 (L0 - L1), .int .i64 L0] w (Ret w (.int .i64 (up (L0 - L1) P L0))) := fun w => by
        rw [up_comm]
        exact i_Priced P (L0 - L1) L0 (by omega) (by omega) (by omega) (by omega) (by omega) (by omega) (by have := qd_ec hdt.1 hdt.2 hl1 hP1; unfold qd at *; rw [Int.mul_comm P]; omega) w
      replace HU := Lib.hid HU
      have hbU : ¬ g k 0 = 3 → E = up (L0 - L1) P L0 := fun h => by rw [← hE, if_neg h]
      have hbZ : g k 0 = 3 → E = 0 := fun h => by rw [← hE, if_pos h]
      generalize up (L0 - L1) P L0 = U at *
      have HZ := Lib.hid hbZ
      have HUU := Lib.hid hbU
      clear hE hAg hPe hok hbZ hbU
      by_cases h3 : g k 0 = 3
      · have HE := Lib.hid (HZ.out h3)
        have h3b : (g k 0 != 3) = false := by simpa using h3
        clear h3
        go_wp2
        have hup : Up x.to (x.to.alloc (.cells #[.int .i64 (g k 0), .int .i64 (g k 1), .int .i64 (g k 2), .int .i64 (g k 3), .int .i64 (g k 4), .int .i64 (g k 5), .int .i64 (g k 6)] 113)) := Up.alloc (Up.refl _) _
        go_roundw
        case rel =>
          obtain ⟨y, hy⟩ := Grow.mk' ((show Up (w.alloc (.cells #[.int .i64 T.first, .slice A T.n c, .int .i64 r] 33)) x.to from x.below).trans hup)
          exact ⟨k + 1, y, _, by omega, by go_num, rfl, hy, Lib.hid (by rw [HST.out, HE.out]; simp)⟩
        case measure => simp [intOf]; omega
      · have HE := Lib.hid (HUU.out h3)
        have h3b : (g k 0 != 3) = true := by simpa using h3
        have hE := HE.out
        subst hE
        clear h3
        go_wp2_with fail
        obtain ⟨w5, hw5⟩ : ∃ w5, x.to.alloc (.cells #[.int .i64 (g k 0), .int .i64 (g k 1), .int .i64 (g k 2), .int .i64 (g k 3), .int .i64 (g k 4), .int .i64 (g k 5), .int .i64 (g k 6)] 113) = w5 := ⟨_, rfl⟩
        have hQ := Blk.new x.to 113 #[.int .i64 (g k 0), .int .i64 (g k 1), .int .i64 (g k 2), .int .i64 (g k 3), .int .i64 (g k 4), .int .i64 (g k 5), .int .i64 (g k 6)]
        have hup : Up x.to (x.to.alloc (.cells #[.int .i64 (g k 0), .int .i64 (g k 1), .int .i64 (g k 2), .int .i64 (g k 3), .int .i64 (g k 4), .int .i64 (g k 5), .int .i64 (g k 6)] 113)) := Up.alloc (Up.refl _) _
        rw [hw5] at hQ hup ⊢
        clear hw5
        have hK := (Blk.new w 33 #[.int .i64 T.first, .slice A T.n c, .int .i64 r]).up ((show Up (w.alloc (.cells #[.int .i64 T.first, .slice A T.n c, .int .i64 r] 33)) x.to from x.below).trans hup)
        have q0 := hQ.cell 0; have q3 := hQ.cell 3; have q6 := hQ.cell 6; have iq := hQ.inw; have c0 := hK.cell 0; have c1 := hK.cell 1; have ic := hK.inw
        have huw : Up w w5 := ((Up.alloc (Up.refl w) (.cells #[.int .i64 T.first, .slice A T.n c, .int .i64 r] 33)).trans (show Up _ x.to from x.below)).trans hup
        have iS : IntKind.i64.wrap (S + E) = S + E := IntWalk.i64_in _ (by omega)
        go_region_held3 (fun w' => w'.cell? ⟨w.heap.size, 0, none⟩ = some (.int .i64 T.first) ∧ w'.cell? ⟨w.heap.size, 1, none⟩ = some (.slice A T.n c) ∧ w'.cell? ⟨x.to.heap.size, 3, none⟩ = some (.int .i64 (g k 3)) ∧ w'.cell? ⟨x.to.heap.size, 6, none⟩ = some (.int .i64 (g k 6))) ((repeat' apply And.intro) <;> go_simp)
          (first
            | (go_at_call 160; ((with_reducible refine (HD.out _ _ (ht.up (huw.trans (by repeat' (first | (with_reducible exact Up.refl _) | (with_reducible assumption) | (with_reducible refine Up.alloc ?_ _) | (with_reducible refine Up.drew ?_) | (with_reducible refine Up.grow ?_ _) | (with_reducible refine Up.setCell ?_ (by (try simp); (try omega)) _)))))).mono ?_); rintro e w6 ⟨rfl, h6⟩; have h6 := (Up.drew (Up.refl w5)).trans h6; have hup := hup.trans h6; have huw := huw.trans h6; have hQ := hQ.up h6; have hK := hK.up h6; have q0 := hQ.cell 0; have q3 := hQ.cell 3; have q6 := hQ.cell 6; have iq := hQ.inw; have c0 := hK.cell 0; have c1 := hK.cell 1; have ic := hK.inw))
            | (go_at_call 161; ((with_reducible refine (HL0.out _ _ (ht.up huw)).mono ?_); rintro e w7 ⟨rfl, h7⟩; have hup := hup.trans h7; have huw := huw.trans h7; have hQ := hQ.up h7; have hK := hK.up h7; have q0 := hQ.cell 0; have q3 := hQ.cell 3; have q6 := hQ.cell 6; have iq := hQ.inw; have c0 := hK.cell 0; have c1 := hK.cell 1; have ic := hK.inw))
            | (go_at_call 159; ((with_reducible refine (HU.out _).mono ?_); rintro e w8 ⟨rfl, h8⟩; have hup := hup.trans h8; have hQ := hQ.up h8; have hK := hK.up h8; have q0 := hQ.cell 0; have q3 := hQ.cell 3; have q6 := hQ.cell 6; have iq := hQ.inw; have c0 := hK.cell 0; have c1 := hK.cell 1; have ic := hK.inw)))
        all_goals
          go_wp2
          go_roundw
          case rel =>
            obtain ⟨y, hy⟩ := Grow.mk' ((show Up (w.alloc (.cells #[.int .i64 T.first, .slice A T.n c, .int .i64 r] 33)) x.to from x.below).trans hup)
            exact ⟨k + 1, y, _, by omega, by go_num, rfl, hy, Lib.hid (by rw [HST.out])⟩
          case measure => simp [intOf]; omega
    · have e : k = n := by omega
      subst e
      go_wp2
      go_ret2
      exact ⟨by rw [HS.out]; rfl, (by repeat' (first | (with_reducible exact Up.refl _) | (with_reducible assumption) | (with_reducible refine Up.alloc ?_ _) | (with_reducible refine Up.drew ?_) | (with_reducible refine Up.grow ?_ _) | (with_reducible refine Up.setCell ?_ (by (try simp); (try omega)) _)))⟩
theorem s_ExpectedClaims (T : Tab) (r : Int) (n : Nat) (g : Nat → Nat → Int) (hn : n ≤ 1048576) (v vl : Value) (w : World) (hv : BasAt w T r v) (hl : HAt w vl n g) :
    Calls Try.prog 36 #[v, vl] w (Ret w (.tuple #[.int .i64 (if portB T r n g = true then hsum (fun i => ecV T (g i)) n else 0), .int .i64 (if portB T r n g = true then 0 else 1)])) := by
  by_cases hB : portB T r n g = true
  · rw [if_pos hB, if_pos hB]
    exact s_ECOk T r n g hn hB v vl w hv hl
  · rw [if_neg hB, if_neg hB]
    have HP := Lib.hid fun v vl w => s_IsPort T r n g hn false (Bool.eq_false_iff.2 hB) v vl w
    (have hv' := hv; obtain ⟨A, c, rfl, hc, hm, hbig, hI⟩ := hv; have ht : TabAt w T (.agg #[.int .i64 T.first, .slice A T.n c]) := ⟨A, c, rfl, hc, hm, hbig, hI⟩)
    have HL2 := Lib.hid hl
    clear hB
    obtain ⟨A2, c2, rfl, _, _, hHI⟩ := hl
    go_enter Try.func36, Try.ntmps36
    go_wp2_with (first | (go_at_call 20; (with_reducible refine (HP.out _ _ _ (hv'.up (by repeat' (first | (with_reducible exact Up.refl _) | (with_reducible assumption) | (with_reducible refine Up.alloc ?_ _) | (with_reducible refine Up.drew ?_) | (with_reducible refine Up.grow ?_ _) | (with_reducible refine Up.setCell ?_ (by (try simp); (try omega)) _)))) (HL2.out.up (by repeat' (first | (with_reducible exact Up.refl _) | (with_reducible assumption) | (with_reducible refine Up.alloc ?_ _) | (with_reducible refine Up.drew ?_) | (with_reducible refine Up.grow ?_ _) | (with_reducible refine Up.setCell ?_ (by (try simp); (try omega)) _))))).mono ?_); rintro e w' ⟨rfl, hb⟩; first | (obtain ⟨x, rfl⟩ := Grow.on x hb) | (obtain ⟨x, rfl⟩ := Grow.mk' hb)) | (go_at_call 142; (with_reducible refine (s_In _ _ _ _).mono ?_); rintro e w' ⟨rfl, rfl⟩) | (go_at_call 186; (with_reducible refine (i_In _ _ _ _).mono ?_); rintro e w' ⟨rfl, rfl⟩) | (go_at_call 222; (with_reducible refine (s_Rate _ _).mono ?_); rintro e w' ⟨rfl, rfl⟩) | (go_at_call 165; (with_reducible refine (i_Rate _ _).mono ?_); rintro e w' ⟨rfl, rfl⟩) | (go_at_call 262; (with_reducible refine (i_Years _ _).mono ?_); rintro e w' ⟨rfl, rfl⟩) | (go_at_call 227; (with_reducible refine (s_Amount6 _ _).mono ?_); rintro e w' ⟨rfl, rfl⟩) | (go_at_call 236; (with_reducible refine (s_Sum7 _ _).mono ?_); rintro e w' ⟨rfl, rfl⟩) | ((first | with_reducible refine wp_region_in x (by kernel_rfl) (by kernel_rfl) ?_ | with_reducible refine wp_region_here (by kernel_rfl) (by kernel_rfl) ?_); (repeat (go_big_quiet_step ((first | (go_at_call 20; with_reducible exact Ret.grow _ (HP.out _ _ _ (hv'.up (by repeat' (first | (with_reducible exact Up.refl _) | (with_reducible assumption) | (with_reducible refine Up.alloc ?_ _) | (with_reducible refine Up.drew ?_) | (with_reducible refine Up.grow ?_ _) | (with_reducible refine Up.setCell ?_ (by (try simp); (try omega)) _)))) (HL2.out.up (by repeat' (first | (with_reducible exact Up.refl _) | (with_reducible assumption) | (with_reducible refine Up.alloc ?_ _) | (with_reducible refine Up.drew ?_) | (with_reducible refine Up.grow ?_ _) | (with_reducible refine Up.setCell ?_ (by (try simp); (try omega)) _)))))) | (go_at_call 142; with_reducible exact Ret.same _ (s_In _ _ _ _)) | (go_at_call 186; with_reducible exact Ret.same _ (i_In _ _ _ _)) | (go_at_call 222; with_reducible exact Ret.same _ (s_Rate _ _)) | (go_at_call 165; with_reducible exact Ret.same _ (i_Rate _ _)) | (go_at_call 262; with_reducible exact Ret.same _ (i_Years _ _)) | (go_at_call 227; with_reducible exact Ret.same _ (s_Amount6 _ _)) | (go_at_call 236; with_reducible exact Ret.same _ (s_Sum7 _ _)))))); refine wpQuiet_nil ?_; intro w' hw'; obtain ⟨x, rfl⟩ := hw'))
    go_ret2
    exact ⟨rfl, (by repeat' (first | (with_reducible exact Up.refl _) | (with_reducible assumption) | (with_reducible refine Up.alloc ?_ _) | (with_reducible refine Up.drew ?_) | (with_reducible refine Up.grow ?_ _) | (with_reducible refine Up.setCell ?_ (by (try simp); (try omega)) _)))⟩
theorem i_ExpectedClaims (T : Tab) (r : Int) (n : Nat) (g : Nat → Nat → Int) (hn : n ≤ 1048576) (v vl : Value) (w : World) (hv : BasAt w T r v) (hl : HAt w vl n g) :
    Calls Try.prog 37 #[v, vl] w (Ret w (.tuple #[.int .i64 (if portB T r n g = true then hsum (fun i => ecV T (g i)) n else 0), .int .i64 (if portB T r n g = true then 0 else 1)])) := by
  by_cases hB : portB T r n g = true
  · rw [if_pos hB, if_pos hB]
    exact i_ECOk T r n g hn hB v vl w hv hl
  · rw [if_neg hB, if_neg hB]
    have HP := Lib.hid fun v vl w => i_IsPort T r n g hn false (Bool.eq_false_iff.2 hB) v vl w
    (have hv' := hv; obtain ⟨A, c, rfl, hc, hm, hbig, hI⟩ := hv; have ht : TabAt w T (.agg #[.int .i64 T.first, .slice A T.n c]) := ⟨A, c, rfl, hc, hm, hbig, hI⟩)
    have HL2 := Lib.hid hl
    clear hB
    obtain ⟨A2, c2, rfl, _, _, hHI⟩ := hl
    go_enter Try.func37, Try.ntmps37
    go_wp2_with (first | (go_at_call 23; (with_reducible refine (HP.out _ _ _ (hv'.up (by repeat' (first | (with_reducible exact Up.refl _) | (with_reducible assumption) | (with_reducible refine Up.alloc ?_ _) | (with_reducible refine Up.drew ?_) | (with_reducible refine Up.grow ?_ _) | (with_reducible refine Up.setCell ?_ (by (try simp); (try omega)) _)))) (HL2.out.up (by repeat' (first | (with_reducible exact Up.refl _) | (with_reducible assumption) | (with_reducible refine Up.alloc ?_ _) | (with_reducible refine Up.drew ?_) | (with_reducible refine Up.grow ?_ _) | (with_reducible refine Up.setCell ?_ (by (try simp); (try omega)) _))))).mono ?_); rintro e w' ⟨rfl, hb⟩; first | (obtain ⟨x, rfl⟩ := Grow.on x hb) | (obtain ⟨x, rfl⟩ := Grow.mk' hb)) | (go_at_call 142; (with_reducible refine (s_In _ _ _ _).mono ?_); rintro e w' ⟨rfl, rfl⟩) | (go_at_call 186; (with_reducible refine (i_In _ _ _ _).mono ?_); rintro e w' ⟨rfl, rfl⟩) | (go_at_call 222; (with_reducible refine (s_Rate _ _).mono ?_); rintro e w' ⟨rfl, rfl⟩) | (go_at_call 165; (with_reducible refine (i_Rate _ _).mono ?_); rintro e w' ⟨rfl, rfl⟩) | (go_at_call 262; (with_reducible refine (i_Years _ _).mono ?_); rintro e w' ⟨rfl, rfl⟩) | (go_at_call 227; (with_reducible refine (s_Amount6 _ _).mono ?_); rintro e w' ⟨rfl, rfl⟩) | (go_at_call 236; (with_reducible refine (s_Sum7 _ _).mono ?_); rintro e w' ⟨rfl, rfl⟩) | ((first | with_reducible refine wp_region_in x (by kernel_rfl) (by kernel_rfl) ?_ | with_reducible refine wp_region_here (by kernel_rfl) (by kernel_rfl) ?_); (repeat (go_big_quiet_step ((first | (go_at_call 23; with_reducible exact Ret.grow _ (HP.out _ _ _ (hv'.up (by repeat' (first | (with_reducible exact Up.refl _) | (with_reducible assumption) | (with_reducible refine Up.alloc ?_ _) | (with_reducible refine Up.drew ?_) | (with_reducible refine Up.grow ?_ _) | (with_reducible refine Up.setCell ?_ (by (try simp); (try omega)) _)))) (HL2.out.up (by repeat' (first | (with_reducible exact Up.refl _) | (with_reducible assumption) | (with_reducible refine Up.alloc ?_ _) | (with_reducible refine Up.drew ?_) | (with_reducible refine Up.grow ?_ _) | (with_reducible refine Up.setCell ?_ (by (try simp); (try omega)) _)))))) | (go_at_call 142; with_reducible exact Ret.same _ (s_In _ _ _ _)) | (go_at_call 186; with_reducible exact Ret.same _ (i_In _ _ _ _)) | (go_at_call 222; with_reducible exact Ret.same _ (s_Rate _ _)) | (go_at_call 165; with_reducible exact Ret.same _ (i_Rate _ _)) | (go_at_call 262; with_reducible exact Ret.same _ (i_Years _ _)) | (go_at_call 227; with_reducible exact Ret.same _ (s_Amount6 _ _)) | (go_at_call 236; with_reducible exact Ret.same _ (s_Sum7 _ _)))))); refine wpQuiet_nil ?_; intro w' hw'; obtain ⟨x, rfl⟩ := hw'))
    go_ret2
    exact ⟨rfl, (by repeat' (first | (with_reducible exact Up.refl _) | (with_reducible assumption) | (with_reducible refine Up.alloc ?_ _) | (with_reducible refine Up.drew ?_) | (with_reducible refine Up.grow ?_ _) | (with_reducible refine Up.setCell ?_ (by (try simp); (try omega)) _)))⟩
end Go.Proofs.Ytdeoampkbbbleaa
