/- Contracts of MaturingSums, both sides. Condition: the slices read as the table's numbers and the holdings. -/
import Derived.Test.YtdeoampkbbbleaaPortI
import Derived.BigQuiet
namespace Go.Proofs.Ytdeoampkbbbleaa
open Go.RowKit Pu
set_option linter.unusedVariables false
set_option linter.unusedSimpArgs false

/-- A holding is in the last year of its duration. -/
def lastB (T : Tab) (g : Nat → Int) : Bool := decide (g 5 = (T.dur (g 0) (ix T (g 1)) (g 2).toNat : Int) - 1)
def matB (T : Tab) (g : Nat → Int) : Bool := decide (2 ≤ g 0) && lastB T g
def matV (T : Tab) (g : Nat → Int) : Int := if matB T g = true then g 6 * g 3 else 0
def hsum (f : Nat → Int) : Nat → Int
  | 0 => 0
  | k + 1 => hsum f k + f k
theorem hsum_bd {f : Nat → Int} {M : Int} {n : Nat} (h : ∀ i, i < n → 0 ≤ f i ∧ f i ≤ M) : 0 ≤ hsum f n ∧ hsum f n ≤ n * M := by
  induction n with
  | zero => simp [hsum]
  | succ n ih =>
    have h1 := ih fun i hi => h i (by omega)
    have h2 := h n (by omega)
    have e : ((n + 1 : Nat) : Int) * M = n * M + M := by rw [Int.natCast_add, Int.add_mul]; simp
    rw [e]
    unfold hsum
    omega
theorem hold_mul {T : Tab} {r : Int} {g : Nat → Int} (h : portOk T r g) : 0 ≤ g 6 * g 3 ∧ g 6 * g 3 ≤ 100000000000000 ∧ 0 ≤ g 0 ∧ g 0 ≤ 3 := by
  obtain ⟨k, n, j, e1, e2, e3, hk, hj, hd⟩ := resC_ok h.1
  have hc := inR_true.1 h.2
  have h1 := hk.m1
  have h2 := hk.m2
  refine ⟨Int.mul_nonneg hc.1 (by omega), ?_, hk.k1, hk.k2⟩
  have := Int.mul_le_mul hc.2 h2 (by omega) (by omega)
  omega
set_option maxRecDepth 100000 in
set_option maxHeartbeats 2000000 in
theorem s_Last0 {T : Tab} {r kind m ld : Int} {k n : Nat} (hk : PK T r kind k n m ld) (j : Nat) (q : Int) (L : Bool) (hL : decide ((j : Int) = (T.dur kind k n : Int) - 1) = L) (v : Value) (w : World) (hv : BasAt w T r v) :
    Calls Try.prog 150 #[v, .agg #[.int .i64 kind, .int .i64 (T.first + k), .int .i64 n, .int .i64 m, .int .i64 ld, .int .i64 j, .int .i64 q]] w (Ret w (.bool L)) := by
  (have hv' := hv; obtain ⟨A, c, rfl, hc, hm, hbig, hI⟩ := hv; have ht : TabAt w T (.agg #[.int .i64 T.first, .slice A T.n c]) := ⟨A, c, rfl, hc, hm, hbig, hI⟩)
  have HU := Lib.hid (s_Dur hk)
  have db := hk.dur_bd
  have i0 : IntKind.i64.wrap ((T.dur kind k n : Int) - 1) = T.dur kind k n - 1 := IntWalk.i64_in _ (by omega)
  generalize (T.dur kind k n) = U at *
  have HL : Hid (((j : Int) == (U : Int) - 1) = L) := Lib.hid (by rw [← hL]; rfl)
  clear hL hk ht hI
  go_enter Try.func150, Try.ntmps150
  go_wp2_with fail
  go_region_held3 (fun w' => w'.cell? ⟨w.heap.size, 0, none⟩ = some (.int .i64 T.first) ∧ w'.cell? ⟨w.heap.size, 1, none⟩ = some (.slice A T.n c) ∧ w'.cell? ⟨w.heap.size, 2, none⟩ = some (.int .i64 r) ∧ w'.cell? ⟨w.heap.size + 1, 0, none⟩ = some (.int .i64 kind) ∧ w'.cell? ⟨w.heap.size + 1, 1, none⟩ = some (.int .i64 (T.first + k)) ∧ w'.cell? ⟨w.heap.size + 1, 2, none⟩ = some (.int .i64 n) ∧ w'.cell? ⟨w.heap.size + 1, 3, none⟩ = some (.int .i64 m) ∧ w'.cell? ⟨w.heap.size + 1, 4, none⟩ = some (.int .i64 ld) ∧ w'.cell? ⟨w.heap.size + 1, 5, none⟩ = some (.int .i64 j)) ((repeat' apply And.intro) <;> go_simp)
    (first | (go_at_call 219; ((with_reducible refine (HU.out _ _ (hv'.up (by repeat' (first | (with_reducible exact Up.refl _) | (with_reducible assumption) | (with_reducible refine Up.alloc ?_ _) | (with_reducible refine Up.drew ?_) | (with_reducible refine Up.grow ?_ _) | (with_reducible refine Up.setCell ?_ (by (try simp); (try omega)) _))))).mono ?_); rintro e w5 ⟨rfl, hb5⟩; have hb5 := (Up.drew (Up.refl _)).trans hb5; obtain ⟨x, rfl⟩ := Grow.mk' hb5)))
  all_goals
    go_wp2
    go_ret
    exact ⟨by simp [HL.out], (by repeat' (first | (with_reducible exact Up.refl _) | (with_reducible assumption) | (with_reducible refine Up.alloc ?_ _) | (with_reducible refine Up.drew ?_) | (with_reducible refine Up.grow ?_ _) | (with_reducible refine Up.setCell ?_ (by (try simp); (try omega)) _)))⟩
theorem s_Last {T : Tab} {r : Int} {g : Nat → Int} (h : portOk T r g) {L : Bool} (hL : lastB T g = L) (v : Value) (w : World) (hv : BasAt w T r v) :
    Calls Try.prog 150 #[v, holdV g] w (Ret w (.bool L)) := by
  obtain ⟨k, n, j, e1, e2, e3, hk, hj, hd⟩ := resC_ok h.1
  subst hL
  unfold lastB holdV
  rw [e1, e2, e3, ix_k, Int.toNat_natCast]
  exact s_Last0 hk j (g 6) _ rfl v w hv
set_option maxRecDepth 100000 in
set_option maxHeartbeats 2000000 in
theorem i_Mat0 {T : Tab} {r kind m ld : Int} {k n : Nat} (hk : PK T r kind k n m ld) (j : Nat) (q : Int) (L : Bool) (hL : (decide (2 ≤ kind) && decide ((j : Int) = (T.dur kind k n : Int) - 1)) = L) (v : Value) (w : World) (hv : BasAt w T r v) :
    Calls Try.prog 151 #[.agg #[.int .i64 kind, .int .i64 (T.first + k), .int .i64 n, .int .i64 m, .int .i64 ld, .int .i64 j, .int .i64 q], v] w (Ret w (.bool L)) := by
  (have hv' := hv; obtain ⟨A, c, rfl, hc, hm, hbig, hI⟩ := hv; have ht : TabAt w T (.agg #[.int .i64 T.first, .slice A T.n c]) := ⟨A, c, rfl, hc, hm, hbig, hI⟩)
  have HU := Lib.hid (i_Dur hk)
  have db := hk.dur_bd
  have i0 : IntKind.i64.wrap ((T.dur kind k n : Int) - 1) = T.dur kind k n - 1 := IntWalk.i64_in _ (by omega)
  generalize (T.dur kind k n) = U at *
  by_cases hk2 : 2 ≤ kind
  case neg =>
    have hk3 : decide (2 ≤ kind) = false := by simpa using hk2
    have hL : L = false := by rw [← hL, hk3]; rfl
    subst hL
    clear hk ht hI
    go_enter Try.func151, Try.ntmps151
    go_wp2_with fail
    go_quiet (fail)
    all_goals
      go_wp2
      go_ret
      exact ⟨by simp [hk2], Up.drewN (by repeat' (first | (with_reducible exact Up.refl _) | (with_reducible assumption) | (with_reducible refine Up.alloc ?_ _) | (with_reducible refine Up.drew ?_) | (with_reducible refine Up.grow ?_ _) | (with_reducible refine Up.setCell ?_ (by (try simp); (try omega)) _))) _⟩
  have hk3 : decide (2 ≤ kind) = true := by simpa using hk2
  have HL : Hid (((j : Int) == (U : Int) - 1) = L) := Lib.hid (by rw [← hL, hk3]; rfl)
  clear hL hk ht hI
  go_enter Try.func151, Try.ntmps151
  go_wp2_with fail
  go_region_held3 (fun w' => w'.cell? ⟨w.heap.size + 1, 0, none⟩ = some (.int .i64 T.first) ∧ w'.cell? ⟨w.heap.size + 1, 1, none⟩ = some (.slice A T.n c) ∧ w'.cell? ⟨w.heap.size + 1, 2, none⟩ = some (.int .i64 r) ∧ w'.cell? ⟨w.heap.size, 0, none⟩ = some (.int .i64 kind) ∧ w'.cell? ⟨w.heap.size, 1, none⟩ = some (.int .i64 (T.first + k)) ∧ w'.cell? ⟨w.heap.size, 2, none⟩ = some (.int .i64 n) ∧ w'.cell? ⟨w.heap.size, 3, none⟩ = some (.int .i64 m) ∧ w'.cell? ⟨w.heap.size, 4, none⟩ = some (.int .i64 ld) ∧ w'.cell? ⟨w.heap.size, 5, none⟩ = some (.int .i64 j)) ((repeat' apply And.intro) <;> go_simp)
    (first | (go_at_call 154; ((with_reducible refine (HU.out _ _ (hv'.up (by repeat' (first | (with_reducible exact Up.refl _) | (with_reducible assumption) | (with_reducible refine Up.alloc ?_ _) | (with_reducible refine Up.drew ?_) | (with_reducible refine Up.grow ?_ _) | (with_reducible refine Up.setCell ?_ (by (try simp); (try omega)) _))))).mono ?_); rintro e w5 ⟨rfl, hb5⟩; have hb5 := (Up.drew (Up.refl _)).trans hb5; obtain ⟨x, rfl⟩ := Grow.mk' hb5)))
  all_goals
    go_wp2
    go_ret
    exact ⟨by simp [HL.out], (by repeat' (first | (with_reducible exact Up.refl _) | (with_reducible assumption) | (with_reducible refine Up.alloc ?_ _) | (with_reducible refine Up.drew ?_) | (with_reducible refine Up.grow ?_ _) | (with_reducible refine Up.setCell ?_ (by (try simp); (try omega)) _)))⟩
theorem i_Mat {T : Tab} {r : Int} {g : Nat → Int} (h : portOk T r g) {L : Bool} (hL : matB T g = L) (v : Value) (w : World) (hv : BasAt w T r v) :
    Calls Try.prog 151 #[holdV g, v] w (Ret w (.bool L)) := by
  obtain ⟨k, n, j, e1, e2, e3, hk, hj, hd⟩ := resC_ok h.1
  subst hL
  unfold matB lastB holdV
  rw [e1, e2, e3, ix_k, Int.toNat_natCast]
  exact i_Mat0 hk j (g 6) _ rfl v w hv
set_option maxRecDepth 100000 in
set_option maxHeartbeats 4000000 in
theorem i_MatOk (T : Tab) (r : Int) (n : Nat) (g : Nat → Nat → Int) (hn : n ≤ 1048576) (hB : portB T r n g = true) (v vl : Value) (w : World) (hv : BasAt w T r v) (hl : HAt w vl n g) :
    Calls Try.prog 27 #[v, vl] w (Ret w (.tuple #[.int .i64 (hsum (fun i => matV T (g i)) n), .int .i64 0])) := by
  (have hv' := hv; obtain ⟨A, c, rfl, hc, hm, hbig, hI⟩ := hv; have ht : TabAt w T (.agg #[.int .i64 T.first, .slice A T.n c]) := ⟨A, c, rfl, hc, hm, hbig, hI⟩)
  have HP := Lib.hid fun v vl w => i_IsPort T r n g hn true hB v vl w
  have hB2 := portB_iff.1 hB
  have h30 := hB2.2.2
  have HO := Lib.hid hB2.1
  clear hB2 hB
  have HL2 := Lib.hid hl
  obtain ⟨A2, c2, rfl, _, _, hHI⟩ := hl
  have HHI := Lib.hid hHI
  clear hHI ht hI
  go_enter Try.func27, Try.ntmps27
  go_wp2_with (first | (go_at_call 23; (with_reducible refine (HP.out _ _ _ (hv'.up (by repeat' (first | (with_reducible exact Up.refl _) | (with_reducible assumption) | (with_reducible refine Up.alloc ?_ _) | (with_reducible refine Up.drew ?_) | (with_reducible refine Up.grow ?_ _) | (with_reducible refine Up.setCell ?_ (by (try simp); (try omega)) _)))) (HL2.out.up (by repeat' (first | (with_reducible exact Up.refl _) | (with_reducible assumption) | (with_reducible refine Up.alloc ?_ _) | (with_reducible refine Up.drew ?_) | (with_reducible refine Up.grow ?_ _) | (with_reducible refine Up.setCell ?_ (by (try simp); (try omega)) _))))).mono ?_); rintro e w' ⟨rfl, hb⟩; first | (obtain ⟨x, rfl⟩ := Grow.on x hb) | (obtain ⟨x, rfl⟩ := Grow.mk' hb)) | (go_at_call 142; (with_reducible refine (s_In _ _ _ _).mono ?_); rintro e w' ⟨rfl, rfl⟩) | (go_at_call 186; (with_reducible refine (i_In _ _ _ _).mono ?_); rintro e w' ⟨rfl, rfl⟩) | (go_at_call 222; (with_reducible refine (s_Rate _ _).mono ?_); rintro e w' ⟨rfl, rfl⟩) | (go_at_call 165; (with_reducible refine (i_Rate _ _).mono ?_); rintro e w' ⟨rfl, rfl⟩) | (go_at_call 262; (with_reducible refine (i_Years _ _).mono ?_); rintro e w' ⟨rfl, rfl⟩) | (go_at_call 227; (with_reducible refine (s_Amount6 _ _).mono ?_); rintro e w' ⟨rfl, rfl⟩) | (go_at_call 236; (with_reducible refine (s_Sum7 _ _).mono ?_); rintro e w' ⟨rfl, rfl⟩) | ((first | with_reducible refine wp_region_in x (by kernel_rfl) (by kernel_rfl) ?_ | with_reducible refine wp_region_here (by kernel_rfl) (by kernel_rfl) ?_); (repeat (go_big_quiet_step ((first | (go_at_call 23; with_reducible exact Ret.grow _ (HP.out _ _ _ (hv'.up (by repeat' (first | (with_reducible exact Up.refl _) | (with_reducible assumption) | (with_reducible refine Up.alloc ?_ _) | (with_reducible refine Up.drew ?_) | (with_reducible refine Up.grow ?_ _) | (with_reducible refine Up.setCell ?_ (by (try simp); (try omega)) _)))) (HL2.out.up (by repeat' (first | (with_reducible exact Up.refl _) | (with_reducible assumption) | (with_reducible refine Up.alloc ?_ _) | (with_reducible refine Up.drew ?_) | (with_reducible refine Up.grow ?_ _) | (with_reducible refine Up.setCell ?_ (by (try simp); (try omega)) _)))))) | (go_at_call 142; with_reducible exact Ret.same _ (s_In _ _ _ _)) | (go_at_call 186; with_reducible exact Ret.same _ (i_In _ _ _ _)) | (go_at_call 222; with_reducible exact Ret.same _ (s_Rate _ _)) | (go_at_call 165; with_reducible exact Ret.same _ (i_Rate _ _)) | (go_at_call 262; with_reducible exact Ret.same _ (i_Years _ _)) | (go_at_call 227; with_reducible exact Ret.same _ (s_Amount6 _ _)) | (go_at_call 236; with_reducible exact Ret.same _ (s_Sum7 _ _)))))); refine wpQuiet_nil ?_; intro w' hw'; obtain ⟨x, rfl⟩ := hw'))
  go_loopw [6, 15] (fun a i wr => ∃ (k : Nat) (y : Grow (w.alloc (.cells #[.int .i64 T.first, .slice A T.n c, .int .i64 r] 33))) (S : Int), k ≤ n ∧ i = .int .i64 k ∧ a = .int .i64 S ∧ wr = y.to ∧ Hid (hsum (fun i => matV T (g i)) k = S)) (fun a i _ => n - (intOf i).toNat)
  case atStart => exact ⟨0, x, 0, Nat.zero_le _, rfl, rfl, rfl, Lib.hid rfl⟩
  case round =>
    clear x hb
    obtain ⟨k, x, S, hk, rfl, rfl, rfl, HS⟩ := hrel
    have hbS := hsum_bd (f := fun i => matV T (g i)) (M := 100000000000000) (n := k) (fun i hi => by
      have := hold_mul (HO.out i (by omega))
      show 0 ≤ matV T (g i) ∧ matV T (g i) ≤ _
      unfold matV
      split <;> omega)
    rw [HS.out] at hbS
    by_cases hlt : k < n
    · have hok := HO.out k hlt
      obtain ⟨b2, off2, rfl, ib, e0, e1, e2, e3, e4, e5, e6⟩ := ((HHI.out.up (Up.alloc (Up.refl w) (.cells #[.int .i64 T.first, .slice A T.n c, .int .i64 r] 33))).up x.below).seven hlt
      have hP := hold_mul hok
      have HST : Hid (hsum (fun i => matV T (g i)) (k + 1) = S + matV T (g k)) := Lib.hid (by show hsum (fun i => matV T (g i)) k + matV T (g k) = _; rw [HS.out])
      obtain ⟨P, hPe⟩ : ∃ P, g k 6 * g k 3 = P := ⟨_, rfl⟩
      have HV : Hid (matV T (g k) = if matB T (g k) = true then P else 0) := Lib.hid (by unfold matV; rw [hPe])
      rw [hPe] at hP
      have i1 : IntKind.i64.wrap (g k 6 * g k 3) = P := by rw [hPe]; exact IntWalk.i64_in _ (by omega)
      have hS2 : S ≤ 3000000000000000 := by have : (k : Int) * 100000000000000 ≤ 30 * 100000000000000 := Int.mul_le_mul_of_nonneg_right (by omega) (by omega); omega
      have hS1 := hbS.1
      clear hbS hPe
      by_cases hM : matB T (g k) = true
      · have HL := Lib.hid (i_Mat hok hM)
        have HM := Lib.hid hM
        clear hM
        go_wp2_with (go_at_call 151; (with_reducible refine (HL.out _ _ (hv'.up (by repeat' (first | (with_reducible exact Up.refl _) | (with_reducible assumption) | (with_reducible refine Up.alloc ?_ _) | (with_reducible refine Up.drew ?_) | (with_reducible refine Up.grow ?_ _) | (with_reducible refine Up.setCell ?_ (by (try simp); (try omega)) _))))).mono ?_); rintro e w5 ⟨rfl, hx⟩; have hQ := (Blk.new x.to 113 #[.int .i64 (g k 0), .int .i64 (g k 1), .int .i64 (g k 2), .int .i64 (g k 3), .int .i64 (g k 4), .int .i64 (g k 5), .int .i64 (g k 6)]).up hx; have q0 := hQ.cell 0; have q3 := hQ.cell 3; have q6 := hQ.cell 6; have iq := hQ.inw; have hup : Up x.to w5 := (Up.alloc (Up.refl _) _).trans hx)
        go_roundw
        case rel =>
          obtain ⟨y, hy⟩ := Grow.mk' ((show Up (w.alloc (.cells #[.int .i64 T.first, .slice A T.n c, .int .i64 r] 33)) x.to from x.below).trans hup)
          exact ⟨k + 1, y, _, by omega, by go_num, rfl, hy, Lib.hid (by rw [HST.out, HV.out, HM.out]; simp)⟩
        case measure => simp [intOf]; omega

      · have hM := Bool.eq_false_iff.2 hM
        have HL := Lib.hid (i_Mat hok hM)
        have HM := Lib.hid hM
        clear hM
        go_wp2_with (go_at_call 151; (with_reducible refine (HL.out _ _ (hv'.up (by repeat' (first | (with_reducible exact Up.refl _) | (with_reducible assumption) | (with_reducible refine Up.alloc ?_ _) | (with_reducible refine Up.drew ?_) | (with_reducible refine Up.grow ?_ _) | (with_reducible refine Up.setCell ?_ (by (try simp); (try omega)) _))))).mono ?_); rintro e w5 ⟨rfl, hx⟩; have hQ := (Blk.new x.to 113 #[.int .i64 (g k 0), .int .i64 (g k 1), .int .i64 (g k 2), .int .i64 (g k 3), .int .i64 (g k 4), .int .i64 (g k 5), .int .i64 (g k 6)]).up hx; have q0 := hQ.cell 0; have q3 := hQ.cell 3; have q6 := hQ.cell 6; have iq := hQ.inw; have hup : Up x.to w5 := (Up.alloc (Up.refl _) _).trans hx)
        go_roundw
        case rel =>
          obtain ⟨y, hy⟩ := Grow.mk' ((show Up (w.alloc (.cells #[.int .i64 T.first, .slice A T.n c, .int .i64 r] 33)) x.to from x.below).trans hup)
          exact ⟨k + 1, y, _, by omega, by go_num, rfl, hy, Lib.hid (by rw [HST.out, HV.out, HM.out]; simp)⟩
        case measure => simp [intOf]; omega

    · have e : k = n := by omega
      subst e
      go_wp2
      go_ret2
      exact ⟨by rw [HS.out]; rfl, (by repeat' (first | (with_reducible exact Up.refl _) | (with_reducible assumption) | (with_reducible refine Up.alloc ?_ _) | (with_reducible refine Up.drew ?_) | (with_reducible refine Up.grow ?_ _) | (with_reducible refine Up.setCell ?_ (by (try simp); (try omega)) _)))⟩
set_option maxRecDepth 100000 in
set_option maxHeartbeats 4000000 in
theorem s_MatOk (T : Tab) (r : Int) (n : Nat) (g : Nat → Nat → Int) (hn : n ≤ 1048576) (hB : portB T r n g = true) (v vl : Value) (w : World) (hv : BasAt w T r v) (hl : HAt w vl n g) :
    Calls Try.prog 26 #[v, vl] w (Ret w (.tuple #[.int .i64 (hsum (fun i => matV T (g i)) n), .int .i64 0])) := by
  (have hv' := hv; obtain ⟨A, c, rfl, hc, hm, hbig, hI⟩ := hv; have ht : TabAt w T (.agg #[.int .i64 T.first, .slice A T.n c]) := ⟨A, c, rfl, hc, hm, hbig, hI⟩)
  have HP := Lib.hid fun v vl w => s_IsPort T r n g hn true hB v vl w
  have hB2 := portB_iff.1 hB
  have h30 := hB2.2.2
  have HO := Lib.hid hB2.1
  clear hB2 hB
  have HL2 := Lib.hid hl
  obtain ⟨A2, c2, rfl, _, _, hHI⟩ := hl
  have HHI := Lib.hid hHI
  clear hHI ht hI
  go_enter Try.func26, Try.ntmps26
  go_wp2_with (first | (go_at_call 20; (with_reducible refine (HP.out _ _ _ (hv'.up (by repeat' (first | (with_reducible exact Up.refl _) | (with_reducible assumption) | (with_reducible refine Up.alloc ?_ _) | (with_reducible refine Up.drew ?_) | (with_reducible refine Up.grow ?_ _) | (with_reducible refine Up.setCell ?_ (by (try simp); (try omega)) _)))) (HL2.out.up (by repeat' (first | (with_reducible exact Up.refl _) | (with_reducible assumption) | (with_reducible refine Up.alloc ?_ _) | (with_reducible refine Up.drew ?_) | (with_reducible refine Up.grow ?_ _) | (with_reducible refine Up.setCell ?_ (by (try simp); (try omega)) _))))).mono ?_); rintro e w' ⟨rfl, hb⟩; first | (obtain ⟨x, rfl⟩ := Grow.on x hb) | (obtain ⟨x, rfl⟩ := Grow.mk' hb)) | (go_at_call 142; (with_reducible refine (s_In _ _ _ _).mono ?_); rintro e w' ⟨rfl, rfl⟩) | (go_at_call 186; (with_reducible refine (i_In _ _ _ _).mono ?_); rintro e w' ⟨rfl, rfl⟩) | (go_at_call 222; (with_reducible refine (s_Rate _ _).mono ?_); rintro e w' ⟨rfl, rfl⟩) | (go_at_call 165; (with_reducible refine (i_Rate _ _).mono ?_); rintro e w' ⟨rfl, rfl⟩) | (go_at_call 262; (with_reducible refine (i_Years _ _).mono ?_); rintro e w' ⟨rfl, rfl⟩) | (go_at_call 227; (with_reducible refine (s_Amount6 _ _).mono ?_); rintro e w' ⟨rfl, rfl⟩) | (go_at_call 236; (with_reducible refine (s_Sum7 _ _).mono ?_); rintro e w' ⟨rfl, rfl⟩) | ((first | with_reducible refine wp_region_in x (by kernel_rfl) (by kernel_rfl) ?_ | with_reducible refine wp_region_here (by kernel_rfl) (by kernel_rfl) ?_); (repeat (go_big_quiet_step ((first | (go_at_call 20; with_reducible exact Ret.grow _ (HP.out _ _ _ (hv'.up (by repeat' (first | (with_reducible exact Up.refl _) | (with_reducible assumption) | (with_reducible refine Up.alloc ?_ _) | (with_reducible refine Up.drew ?_) | (with_reducible refine Up.grow ?_ _) | (with_reducible refine Up.setCell ?_ (by (try simp); (try omega)) _)))) (HL2.out.up (by repeat' (first | (with_reducible exact Up.refl _) | (with_reducible assumption) | (with_reducible refine Up.alloc ?_ _) | (with_reducible refine Up.drew ?_) | (with_reducible refine Up.grow ?_ _) | (with_reducible refine Up.setCell ?_ (by (try simp); (try omega)) _)))))) | (go_at_call 142; with_reducible exact Ret.same _ (s_In _ _ _ _)) | (go_at_call 186; with_reducible exact Ret.same _ (i_In _ _ _ _)) | (go_at_call 222; with_reducible exact Ret.same _ (s_Rate _ _)) | (go_at_call 165; with_reducible exact Ret.same _ (i_Rate _ _)) | (go_at_call 262; with_reducible exact Ret.same _ (i_Years _ _)) | (go_at_call 227; with_reducible exact Ret.same _ (s_Amount6 _ _)) | (go_at_call 236; with_reducible exact Ret.same _ (s_Sum7 _ _)))))); refine wpQuiet_nil ?_; intro w' hw'; obtain ⟨x, rfl⟩ := hw'))
  go_loopw [6, 7] (fun a i wr => ∃ (k : Nat) (y : Grow (w.alloc (.cells #[.int .i64 T.first, .slice A T.n c, .int .i64 r] 33))) (S : Int), k ≤ n ∧ i = .int .i64 k ∧ a = .int .i64 S ∧ wr = y.to ∧ Hid (hsum (fun i => matV T (g i)) k = S)) (fun a i _ => n - (intOf i).toNat)
  case atStart => exact ⟨0, x, 0, Nat.zero_le _, rfl, rfl, rfl, Lib.hid rfl⟩
  case round =>
    clear x hb
    obtain ⟨k, x, S, hk, rfl, rfl, rfl, HS⟩ := hrel
    have hbS := hsum_bd (f := fun i => matV T (g i)) (M := 100000000000000) (n := k) (fun i hi => by
      have := hold_mul (HO.out i (by omega))
      show 0 ≤ matV T (g i) ∧ matV T (g i) ≤ _
      unfold matV
      split <;> omega)
    rw [HS.out] at hbS
    by_cases hlt : k < n
    · have hok := HO.out k hlt
      obtain ⟨b2, off2, rfl, ib, e0, e1, e2, e3, e4, e5, e6⟩ := ((HHI.out.up (Up.alloc (Up.refl w) (.cells #[.int .i64 T.first, .slice A T.n c, .int .i64 r] 33))).up x.below).seven hlt
      have hP := hold_mul hok
      have HST : Hid (hsum (fun i => matV T (g i)) (k + 1) = S + matV T (g k)) := Lib.hid (by show hsum (fun i => matV T (g i)) k + matV T (g k) = _; rw [HS.out])
      obtain ⟨P, hPe⟩ : ∃ P, g k 6 * g k 3 = P := ⟨_, rfl⟩
      have HV : Hid (matV T (g k) = if matB T (g k) = true then P else 0) := Lib.hid (by unfold matV; rw [hPe])
      rw [hPe] at hP
      have i1 : IntKind.i64.wrap (g k 6 * g k 3) = P := by rw [hPe]; exact IntWalk.i64_in _ (by omega)
      have hS2 : S ≤ 3000000000000000 := by have : (k : Int) * 100000000000000 ≤ 30 * 100000000000000 := Int.mul_le_mul_of_nonneg_right (by omega) (by omega); omega
      have hS1 := hbS.1
      clear hbS hPe
      by_cases hL : lastB T (g k) = true
      · have HL := Lib.hid (s_Last hok hL)
        have HLB := Lib.hid hL
        clear hL
        by_cases h2 : g k 0 = 2
        · have HM : Hid (matB T (g k) = true) := Lib.hid (by unfold matB; rw [HLB.out]; simp; omega)
          have h23b : (g k 0 == 2) = true := by simpa using h2
          clear h2
          go_wp2_with (go_at_call 150; (with_reducible refine (HL.out _ _ (hv'.up (by repeat' (first | (with_reducible exact Up.refl _) | (with_reducible assumption) | (with_reducible refine Up.alloc ?_ _) | (with_reducible refine Up.drew ?_) | (with_reducible refine Up.grow ?_ _) | (with_reducible refine Up.setCell ?_ (by (try simp); (try omega)) _))))).mono ?_); rintro e w5 ⟨rfl, hx⟩; have hQ := (Blk.new x.to 113 #[.int .i64 (g k 0), .int .i64 (g k 1), .int .i64 (g k 2), .int .i64 (g k 3), .int .i64 (g k 4), .int .i64 (g k 5), .int .i64 (g k 6)]).up hx; have q0 := hQ.cell 0; have q3 := hQ.cell 3; have q6 := hQ.cell 6; have iq := hQ.inw; have hup : Up x.to w5 := (Up.alloc (Up.refl _) _).trans hx)
          go_roundw
          case rel =>
            obtain ⟨y, hy⟩ := Grow.mk' ((show Up (w.alloc (.cells #[.int .i64 T.first, .slice A T.n c, .int .i64 r] 33)) x.to from x.below).trans hup)
            exact ⟨k + 1, y, _, by omega, by go_num, rfl, hy, Lib.hid (by rw [HST.out, HV.out, HM.out]; simp)⟩
          case measure => simp [intOf]; omega
        by_cases h3 : g k 0 = 3
        · have HM : Hid (matB T (g k) = true) := Lib.hid (by unfold matB; rw [HLB.out]; simp; omega)
          have h2b : (g k 0 == 2) = false := by simpa using h2
          have h3b : (g k 0 == 3) = true := by simpa using h3
          clear h2 h3
          go_wp2_with (go_at_call 150; (with_reducible refine (HL.out _ _ (hv'.up (by repeat' (first | (with_reducible exact Up.refl _) | (with_reducible assumption) | (with_reducible refine Up.alloc ?_ _) | (with_reducible refine Up.drew ?_) | (with_reducible refine Up.grow ?_ _) | (with_reducible refine Up.setCell ?_ (by (try simp); (try omega)) _))))).mono ?_); rintro e w5 ⟨rfl, hx⟩; have hQ := (Blk.new x.to 113 #[.int .i64 (g k 0), .int .i64 (g k 1), .int .i64 (g k 2), .int .i64 (g k 3), .int .i64 (g k 4), .int .i64 (g k 5), .int .i64 (g k 6)]).up hx; have q0 := hQ.cell 0; have q3 := hQ.cell 3; have q6 := hQ.cell 6; have iq := hQ.inw; have hup : Up x.to w5 := (Up.alloc (Up.refl _) _).trans hx)
          go_roundw
          case rel =>
            obtain ⟨y, hy⟩ := Grow.mk' ((show Up (w.alloc (.cells #[.int .i64 T.first, .slice A T.n c, .int .i64 r] 33)) x.to from x.below).trans hup)
            exact ⟨k + 1, y, _, by omega, by go_num, rfl, hy, Lib.hid (by rw [HST.out, HV.out, HM.out]; simp)⟩
          case measure => simp [intOf]; omega
        · have HM : Hid (matB T (g k) = false) := Lib.hid (by unfold matB; rw [HLB.out]; simp; omega)
          have h2b : (g k 0 == 2) = false := by simpa using h2
          have h3b : (g k 0 == 3) = false := by simpa using h3
          go_wp2_with (go_at_call 150; (with_reducible refine (HL.out _ _ (hv'.up (by repeat' (first | (with_reducible exact Up.refl _) | (with_reducible assumption) | (with_reducible refine Up.alloc ?_ _) | (with_reducible refine Up.drew ?_) | (with_reducible refine Up.grow ?_ _) | (with_reducible refine Up.setCell ?_ (by (try simp); (try omega)) _))))).mono ?_); rintro e w5 ⟨rfl, hx⟩; have hQ := (Blk.new x.to 113 #[.int .i64 (g k 0), .int .i64 (g k 1), .int .i64 (g k 2), .int .i64 (g k 3), .int .i64 (g k 4), .int .i64 (g k 5), .int .i64 (g k 6)]).up hx; have q0 := hQ.cell 0; have q3 := hQ.cell 3; have q6 := hQ.cell 6; have iq := hQ.inw; have hup : Up x.to w5 := (Up.alloc (Up.refl _) _).trans hx)
          go_roundw
          case rel =>
            obtain ⟨y, hy⟩ := Grow.mk' ((show Up (w.alloc (.cells #[.int .i64 T.first, .slice A T.n c, .int .i64 r] 33)) x.to from x.below).trans hup)
            exact ⟨k + 1, y, _, by omega, by go_num, rfl, hy, Lib.hid (by rw [HST.out, HV.out, HM.out]; simp)⟩
          case measure => simp [intOf]; omega
      · have hL := Bool.eq_false_iff.2 hL
        have HL := Lib.hid (s_Last hok hL)
        have HM : Hid (matB T (g k) = false) := Lib.hid (by unfold matB; rw [hL]; simp)
        clear hL
        go_wp2_with (go_at_call 150; (with_reducible refine (HL.out _ _ (hv'.up (by repeat' (first | (with_reducible exact Up.refl _) | (with_reducible assumption) | (with_reducible refine Up.alloc ?_ _) | (with_reducible refine Up.drew ?_) | (with_reducible refine Up.grow ?_ _) | (with_reducible refine Up.setCell ?_ (by (try simp); (try omega)) _))))).mono ?_); rintro e w5 ⟨rfl, hx⟩; have hQ := (Blk.new x.to 113 #[.int .i64 (g k 0), .int .i64 (g k 1), .int .i64 (g k 2), .int .i64 (g k 3), .int .i64 (g k 4), .int .i64 (g k 5), .int .i64 (g k 6)]).up hx; have q0 := hQ.cell 0; have q3 := hQ.cell 3; have q6 := hQ.cell 6; have iq := hQ.inw; have hup : Up x.to w5 := (Up.alloc (Up.refl _) _).trans hx)
        go_roundw
        case rel =>
          obtain ⟨y, hy⟩ := Grow.mk' ((show Up (w.alloc (.cells #[.int .i64 T.first, .slice A T.n c, .int .i64 r] 33)) x.to from x.below).trans hup)
          exact ⟨k + 1, y, _, by omega, by go_num, rfl, hy, Lib.hid (by rw [HST.out, HV.out, HM.out]; simp)⟩
        case measure => simp [intOf]; omega
    · have e : k = n := by omega
      subst e
      go_wp2
      go_ret2
      exact ⟨by rw [HS.out]; rfl, (by repeat' (first | (with_reducible exact Up.refl _) | (with_reducible assumption) | (with_reducible refine Up.alloc ?_ _) | (with_reducible refine Up.drew ?_) | (with_reducible refine Up.grow ?_ _) | (with_reducible refine Up.setCell ?_ (by (try simp); (try omega)) _)))⟩
theorem s_MaturingSums (T : Tab) (r : Int) (n : Nat) (g : Nat → Nat → Int) (hn : n ≤ 1048576) (v vl : Value) (w : World) (hv : BasAt w T r v) (hl : HAt w vl n g) :
    Calls Try.prog 26 #[v, vl] w (Ret w (.tuple #[.int .i64 (if portB T r n g = true then hsum (fun i => matV T (g i)) n else 0), .int .i64 (if portB T r n g = true then 0 else 1)])) := by
  by_cases hB : portB T r n g = true
  · rw [if_pos hB, if_pos hB]
    exact s_MatOk T r n g hn hB v vl w hv hl
  · rw [if_neg hB, if_neg hB]
    have HP := Lib.hid fun v vl w => s_IsPort T r n g hn false (Bool.eq_false_iff.2 hB) v vl w
    (have hv' := hv; obtain ⟨A, c, rfl, hc, hm, hbig, hI⟩ := hv; have ht : TabAt w T (.agg #[.int .i64 T.first, .slice A T.n c]) := ⟨A, c, rfl, hc, hm, hbig, hI⟩)
    have HL2 := Lib.hid hl
    clear hB
    obtain ⟨A2, c2, rfl, _, _, hHI⟩ := hl
    go_enter Try.func26, Try.ntmps26
    go_wp2_with (first | (go_at_call 20; (with_reducible refine (HP.out _ _ _ (hv'.up (by repeat' (first | (with_reducible exact Up.refl _) | (with_reducible assumption) | (with_reducible refine Up.alloc ?_ _) | (with_reducible refine Up.drew ?_) | (with_reducible refine Up.grow ?_ _) | (with_reducible refine Up.setCell ?_ (by (try simp); (try omega)) _)))) (HL2.out.up (by repeat' (first | (with_reducible exact Up.refl _) | (with_reducible assumption) | (with_reducible refine Up.alloc ?_ _) | (with_reducible refine Up.drew ?_) | (with_reducible refine Up.grow ?_ _) | (with_reducible refine Up.setCell ?_ (by (try simp); (try omega)) _))))).mono ?_); rintro e w' ⟨rfl, hb⟩; first | (obtain ⟨x, rfl⟩ := Grow.on x hb) | (obtain ⟨x, rfl⟩ := Grow.mk' hb)) | (go_at_call 142; (with_reducible refine (s_In _ _ _ _).mono ?_); rintro e w' ⟨rfl, rfl⟩) | (go_at_call 186; (with_reducible refine (i_In _ _ _ _).mono ?_); rintro e w' ⟨rfl, rfl⟩) | (go_at_call 222; (with_reducible refine (s_Rate _ _).mono ?_); rintro e w' ⟨rfl, rfl⟩) | (go_at_call 165; (with_reducible refine (i_Rate _ _).mono ?_); rintro e w' ⟨rfl, rfl⟩) | (go_at_call 262; (with_reducible refine (i_Years _ _).mono ?_); rintro e w' ⟨rfl, rfl⟩) | (go_at_call 227; (with_reducible refine (s_Amount6 _ _).mono ?_); rintro e w' ⟨rfl, rfl⟩) | (go_at_call 236; (with_reducible refine (s_Sum7 _ _).mono ?_); rintro e w' ⟨rfl, rfl⟩) | ((first | with_reducible refine wp_region_in x (by kernel_rfl) (by kernel_rfl) ?_ | with_reducible refine wp_region_here (by kernel_rfl) (by kernel_rfl) ?_); (repeat (go_big_quiet_step ((first | (go_at_call 20; with_reducible exact Ret.grow _ (HP.out _ _ _ (hv'.up (by repeat' (first | (with_reducible exact Up.refl _) | (with_reducible assumption) | (with_reducible refine Up.alloc ?_ _) | (with_reducible refine Up.drew ?_) | (with_reducible refine Up.grow ?_ _) | (with_reducible refine Up.setCell ?_ (by (try simp); (try omega)) _)))) (HL2.out.up (by repeat' (first | (with_reducible exact Up.refl _) | (with_reducible assumption) | (with_reducible refine Up.alloc ?_ _) | (with_reducible refine Up.drew ?_) | (with_reducible refine Up.grow ?_ _) | (with_reducible refine Up.setCell ?_ (by (try simp); (try omega)) _)))))) | (go_at_call 142; with_reducible exact Ret.same _ (s_In _ _ _ _)) | (go_at_call 186; with_reducible exact Ret.same _ (i_In _ _ _ _)) | (go_at_call 222; with_reducible exact Ret.same _ (s_Rate _ _)) | (go_at_call 165; with_reducible exact Ret.same _ (i_Rate _ _)) | (go_at_call 262; with_reducible exact Ret.same _ (i_Years _ _)) | (go_at_call 227; with_reducible exact Ret.same _ (s_Amount6 _ _)) | (go_at_call 236; with_reducible exact Ret.same _ (s_Sum7 _ _)))))); refine wpQuiet_nil ?_; intro w' hw'; obtain ⟨x, rfl⟩ := hw'))
    go_ret2
    exact ⟨rfl, (by repeat' (first | (with_reducible exact Up.refl _) | (with_reducible assumption) | (with_reducible refine Up.alloc ?_ _) | (with_reducible refine Up.drew ?_) | (with_reducible refine Up.grow ?_ _) | (with_reducible refine Up.setCell ?_ (by (try simp); (try omega)) _)))⟩
theorem i_MaturingSums (T : Tab) (r : Int) (n : Nat) (g : Nat → Nat → Int) (hn : n ≤ 1048576) (v vl : Value) (w : World) (hv : BasAt w T r v) (hl : HAt w vl n g) :
    Calls Try.prog 27 #[v, vl] w (Ret w (.tuple #[.int .i64 (if portB T r n g = true then hsum (fun i => matV T (g i)) n else 0), .int .i64 (if portB T r n g = true then 0 else 1)])) := by
  by_cases hB : portB T r n g = true
  · rw [if_pos hB, if_pos hB]
    exact i_MatOk T r n g hn hB v vl w hv hl
  · rw [if_neg hB, if_neg hB]
    have HP := Lib.hid fun v vl w => i_IsPort T r n g hn false (Bool.eq_false_iff.2 hB) v vl w
    (have hv' := hv; obtain ⟨A, c, rfl, hc, hm, hbig, hI⟩ := hv; have ht : TabAt w T (.agg #[.int .i64 T.first, .slice A T.n c]) := ⟨A, c, rfl, hc, hm, hbig, hI⟩)
    have HL2 := Lib.hid hl
    clear hB
    obtain ⟨A2, c2, rfl, _, _, hHI⟩ := hl
    go_enter Try.func27, Try.ntmps27
    go_wp2_with (first | (go_at_call 23; (with_reducible refine (HP.out _ _ _ (hv'.up (by repeat' (first | (with_reducible exact Up.refl _) | (with_reducible assumption) | (with_reducible refine Up.alloc ?_ _) | (with_reducible refine Up.drew ?_) | (with_reducible refine Up.grow ?_ _) | (with_reducible refine Up.setCell ?_ (by (try simp); (try omega)) _)))) (HL2.out.up (by repeat' (first | (with_reducible exact Up.refl _) | (with_reducible assumption) | (with_reducible refine Up.alloc ?_ _) | (with_reducible refine Up.drew ?_) | (with_reducible refine Up.grow ?_ _) | (with_reducible refine Up.setCell ?_ (by (try simp); (try omega)) _))))).mono ?_); rintro e w' ⟨rfl, hb⟩; first | (obtain ⟨x, rfl⟩ := Grow.on x hb) | (obtain ⟨x, rfl⟩ := Grow.mk' hb)) | (go_at_call 142; (with_reducible refine (s_In _ _ _ _).mono ?_); rintro e w' ⟨rfl, rfl⟩) | (go_at_call 186; (with_reducible refine (i_In _ _ _ _).mono ?_); rintro e w' ⟨rfl, rfl⟩) | (go_at_call 222; (with_reducible refine (s_Rate _ _).mono ?_); rintro e w' ⟨rfl, rfl⟩) | (go_at_call 165; (with_reducible refine (i_Rate _ _).mono ?_); rintro e w' ⟨rfl, rfl⟩) | (go_at_call 262; (with_reducible refine (i_Years _ _).mono ?_); rintro e w' ⟨rfl, rfl⟩) | (go_at_call 227; (with_reducible refine (s_Amount6 _ _).mono ?_); rintro e w' ⟨rfl, rfl⟩) | (go_at_call 236; (with_reducible refine (s_Sum7 _ _).mono ?_); rintro e w' ⟨rfl, rfl⟩) | ((first | with_reducible refine wp_region_in x (by kernel_rfl) (by kernel_rfl) ?_ | with_reducible refine wp_region_here (by kernel_rfl) (by kernel_rfl) ?_); (repeat (go_big_quiet_step ((first | (go_at_call 23; with_reducible exact Ret.grow _ (HP.out _ _ _ (hv'.up (by repeat' (first | (with_reducible exact Up.refl _) | (with_reducible assumption) | (with_reducible refine Up.alloc ?_ _) | (with_reducible refine Up.drew ?_) | (with_reducible refine Up.grow ?_ _) | (with_reducible refine Up.setCell ?_ (by (try simp); (try omega)) _)))) (HL2.out.up (by repeat' (first | (with_reducible exact Up.refl _) | (with_reducible assumption) | (with_reducible refine Up.alloc ?_ _) | (with_reducible refine Up.drew ?_) | (with_reducible refine Up.grow ?_ _) | (with_reducible refine Up.setCell ?_ (by (try simp); (try omega)) _)))))) | (go_at_call 142; with_reducible exact Ret.same _ (s_In _ _ _ _)) | (go_at_call 186; with_reducible exact Ret.same _ (i_In _ _ _ _)) | (go_at_call 222; with_reducible exact Ret.same _ (s_Rate _ _)) | (go_at_call 165; with_reducible exact Ret.same _ (i_Rate _ _)) | (go_at_call 262; with_reducible exact Ret.same _ (i_Years _ _)) | (go_at_call 227; with_reducible exact Ret.same _ (s_Amount6 _ _)) | (go_at_call 236; with_reducible exact Ret.same _ (s_Sum7 _ _)))))); refine wpQuiet_nil ?_; intro w' hw'; obtain ⟨x, rfl⟩ := hw'))
    go_ret2
    exact ⟨rfl, (by repeat' (first | (with_reducible exact Up.refl _) | (with_reducible assumption) | (with_reducible refine Up.alloc ?_ _) | (with_reducible refine Up.drew ?_) | (with_reducible refine Up.grow ?_ _) | (with_reducible refine Up.setCell ?_ (by (try simp); (try omega)) _)))⟩
end Go.Proofs.Ytdeoampkbbbleaa
