/- Contracts of IsLifeTable, the reference's and the program's: true just for a valid table. Condition: the slice reads as the table's numbers. -/
import Derived.Test.YtdeoampkbbbleaaTabs
namespace Go.Proofs.Ytdeoampkbbbleaa
open Go.RowKit Pu

/-- What the first k numbers show. -/
def Pre (T : Tab) (k : Nat) : Prop := ∀ j, j < k → j + 1 < T.n → 1 ≤ T.f j ∧ (1 ≤ j → T.f j ≤ T.f (j - 1))

theorem ok_of {T : Tab} (h1 : 2 ≤ T.n) (h2 : T.n ≤ 120) (h3 : 0 ≤ T.first) (h4 : T.first ≤ 100) (h5 : T.f 0 ≤ 1000000) (h6 : T.f (T.n - 1) = 0) (h7 : T.first + T.n - 1 ≤ 150) (h : Pre T (T.n - 1)) : T.Ok := by
  refine ⟨h3, h4, h1, h2, h5, h6, by omega, fun i hi => (h i (by omega) hi).1, fun i hi => ?_⟩
  by_cases hl : i + 2 < T.n
  · have := (h (i + 1) (by omega) (by omega)).2 (by omega); simpa using this
  · rw [show i + 1 = T.n - 1 from by omega, h6]
    have := (h i (by omega) hi).1; omega

theorem pre_step {T : Tab} {k : Nat} (h : Pre T k) (h1 : k + 1 < T.n → 1 ≤ T.f k ∧ (1 ≤ k → T.f k ≤ T.f (k - 1))) : Pre T (k + 1) := fun j hj hn => by
  by_cases e : j = k
  · subst e; exact h1 hn
  · exact h j (by omega) hn

set_option maxHeartbeats 1000000 in
theorem s_Valid (T : Tab) (b : Bool) (hb : T.okB = b) (v : Value) (w : World) (hv : TabAt w T v) :
    Calls Try.prog 221 #[v] w (Ret w (.bool b)) := by
  subst hb
  obtain ⟨A, c, rfl, hc, hm, hbig, hI⟩ := hv
  have bad : ¬ T.Ok → T.okB = false := (Tab.okB_false T).2
  by_cases h1 : 2 ≤ T.n ∧ T.n ≤ 120
  case neg =>
    rw [bad (fun h => h1 ⟨h.n2, h.n120⟩)]
    clear bad hI
    have h1' : T.n < 2 ∨ 120 < T.n := by omega
    clear h1
    rcases h1' with h1 | h1
    all_goals
      go_enter Try.func221, Try.ntmps221
      go_wp2
      go_ret
      exact ⟨rfl, (by repeat' (first | (with_reducible exact Up.refl _) | (with_reducible assumption) | (with_reducible refine Up.alloc ?_ _) | (with_reducible refine Up.drew ?_) | (with_reducible refine Up.grow ?_ _) | (with_reducible refine Up.setCell ?_ (by (try simp); (try omega)) _)))⟩
  obtain ⟨h1, h2⟩ := h1
  obtain ⟨b, off, rfl, hlt, hcell⟩ := hI.at_ (by omega)
  have hc0 : w.cell? ⟨b, off, none⟩ = some (.int .i64 (T.f 0)) := hcell 0 (by omega)
  have hcn : w.cell? ⟨b, off + (T.n - 1), none⟩ = some (.int .i64 (T.f (T.n - 1))) := hcell _ (by omega)
  by_cases h3 : inR T.first 0 100 = true
  case neg =>
    rw [bad (fun h => h3 (inR_true.2 ⟨h.lo, h.hi⟩))]
    have h3 := Bool.eq_false_iff.2 h3
    clear bad hI hcell
    go_enter Try.func221, Try.ntmps221
    go_wp2_with (go_at_call 142; refine (s_In _ _ _ _).mono ?_; rintro e w' ⟨rfl, rfl⟩)
    go_ret
    exact ⟨rfl, (by repeat' (first | (with_reducible exact Up.refl _) | (with_reducible assumption) | (with_reducible refine Up.alloc ?_ _) | (with_reducible refine Up.drew ?_) | (with_reducible refine Up.grow ?_ _) | (with_reducible refine Up.setCell ?_ (by (try simp); (try omega)) _)))⟩
  have h3' := inR_true.1 h3
  by_cases h4 : inR (T.f 0) 1 1000000 = true
  case neg =>
    rw [bad (fun h => h4 (inR_true.2 ⟨h.pos 0 (by omega), h.top⟩))]
    have h4 := Bool.eq_false_iff.2 h4
    clear bad hI hcell
    go_enter Try.func221, Try.ntmps221
    go_wp2_with (go_at_call 142; refine (s_In _ _ _ _).mono ?_; rintro e w' ⟨rfl, rfl⟩)
    go_ret
    exact ⟨rfl, (by repeat' (first | (with_reducible exact Up.refl _) | (with_reducible assumption) | (with_reducible refine Up.alloc ?_ _) | (with_reducible refine Up.drew ?_) | (with_reducible refine Up.grow ?_ _) | (with_reducible refine Up.setCell ?_ (by (try simp); (try omega)) _)))⟩
  have h4' := inR_true.1 h4
  by_cases h5 : T.f (T.n - 1) = 0
  case neg =>
    rw [bad (fun h => h5 h.last)]
    clear bad hI hcell
    have h5' : (T.f (T.n - 1) == 0) = false := by simpa using h5
    have h5'' : (T.f (T.n - 1) != 0) = true := by simpa using h5
    go_enter Try.func221, Try.ntmps221
    go_wp2_with (go_at_call 142; refine (s_In _ _ _ _).mono ?_; rintro e w' ⟨rfl, rfl⟩)
    go_ret
    exact ⟨rfl, (by repeat' (first | (with_reducible exact Up.refl _) | (with_reducible assumption) | (with_reducible refine Up.alloc ?_ _) | (with_reducible refine Up.drew ?_) | (with_reducible refine Up.grow ?_ _) | (with_reducible refine Up.setCell ?_ (by (try simp); (try omega)) _)))⟩
  have h5' : (T.f (T.n - 1) != 0) = false := by simpa using h5
  have H5 := Lib.hid h5
  clear h5
  by_cases h6 : T.first + T.n - 1 ≤ 150
  case neg =>
    rw [bad (fun h => h6 (by have := h.fin; omega))]
    clear bad hI hcell
    go_enter Try.func221, Try.ntmps221
    go_wp2_with (go_at_call 142; refine (s_In _ _ _ _).mono ?_; rintro e w' ⟨rfl, rfl⟩)
    go_ret
    exact ⟨rfl, (by repeat' (first | (with_reducible exact Up.refl _) | (with_reducible assumption) | (with_reducible refine Up.alloc ?_ _) | (with_reducible refine Up.drew ?_) | (with_reducible refine Up.grow ?_ _) | (with_reducible refine Up.setCell ?_ (by (try simp); (try omega)) _)))⟩
  have hcell' : ∀ k, k < T.n → ∀ x : Grow (w.alloc (.cells #[.int .i64 T.first, .slice (some ⟨b, off, none⟩) T.n c] 31)), x.to.cell? ⟨b, off + k, none⟩ = some (.int .i64 (T.f k)) := fun k hk x =>
    (x.below.cell (p := ⟨b, off + k, none⟩) (by simp; omega)).trans ((World.cell?_alloc_lt _ _ _ (by exact hlt)).trans (hcell _ (by omega)))
  have HC := Lib.hid hcell'
  have HB := Lib.hid bad
  clear hcell hcell' hI bad
  go_enter Try.func221, Try.ntmps221
  go_wp2_with (go_at_call 142; refine (s_In _ _ _ _).mono ?_; rintro e w' ⟨rfl, rfl⟩)
  go_loopw [4] (fun i wr => ∃ (k : Nat) (x : Grow (w.alloc (.cells #[.int .i64 T.first, .slice (some ⟨b, off, none⟩) T.n c] 31))), 1 ≤ k ∧ k ≤ T.n ∧ i = .int .i64 k ∧ wr = x.to ∧ Pre T k) (fun i _ => T.n - (intOf i).toNat)
  case atStart => exact ⟨1, ⟨_, Below.refl _ _⟩, by omega, by omega, rfl, rfl, fun j hj hn => ⟨by rw [show j = 0 from by omega]; exact h4'.1, fun h => by omega⟩⟩
  case round =>
    obtain ⟨k, x, hk1, hk2, rfl, rfl, hp⟩ := hrel
    have HP := Lib.hid hp
    clear hp
    by_cases hlt2 : k < T.n
    case neg =>
      have e : T.okB = true := (Tab.okB_iff T).2 (ok_of h1 h2 h3'.1 h3'.2 (h4'.2) H5.out h6 (fun j hj hn => HP.out j (by omega) hn))
      have E := Lib.hid e
      clear HP e
      go_wp2
      go_ret
      exact ⟨ret_bool E.out.symm, (by repeat' (first | (with_reducible exact Up.refl _) | (with_reducible assumption) | (with_reducible refine Up.alloc ?_ _) | (with_reducible refine Up.drew ?_) | (with_reducible refine Up.grow ?_ _) | (with_reducible refine Up.setCell ?_ (by (try simp); (try omega)) _)))⟩
    have hck := HC.out k hlt2
    have hck1 := HC.out (k - 1) (by omega)
    by_cases hd : T.f (k - 1) < T.f k
    · have e : T.okB = false := HB.out (fun h => by have := h.mono (k - 1) (by omega); rw [show k - 1 + 1 = k from by omega] at this; omega)
      have E := Lib.hid e
      clear HP HC e
      go_wp2_with ((first | with_reducible refine wp_region_in x (by kernel_rfl) (by kernel_rfl) ?_ | with_reducible refine wp_region_here (by kernel_rfl) (by kernel_rfl) ?_); (repeat (go_big_quiet_step ((fail)))); refine wpQuiet_nil ?_; intro w' hw'; obtain ⟨x, rfl⟩ := hw')
      go_ret
      exact ⟨ret_bool E.out.symm, (by repeat' (first | (with_reducible exact Up.refl _) | (with_reducible assumption) | (with_reducible refine Up.alloc ?_ _) | (with_reducible refine Up.drew ?_) | (with_reducible refine Up.grow ?_ _) | (with_reducible refine Up.setCell ?_ (by (try simp); (try omega)) _)))⟩
    have hd' : T.f k ≤ T.f (k - 1) := by omega
    have hdd : decide (T.f (k - 1) < T.f k) = false := by simpa using hd
    by_cases hl : (k : Int) < T.n - 1
    · by_cases hp : T.f k < 1
      · have e : T.okB = false := HB.out (fun h => by have := h.pos k (by omega); omega)
        have E := Lib.hid e
        clear HP HC e
        go_wp2_with ((first | with_reducible refine wp_region_in x (by kernel_rfl) (by kernel_rfl) ?_ | with_reducible refine wp_region_here (by kernel_rfl) (by kernel_rfl) ?_); (repeat (go_big_quiet_step ((fail)))); refine wpQuiet_nil ?_; intro w' hw'; obtain ⟨x, rfl⟩ := hw')
        go_ret
        exact ⟨ret_bool E.out.symm, (by repeat' (first | (with_reducible exact Up.refl _) | (with_reducible assumption) | (with_reducible refine Up.alloc ?_ _) | (with_reducible refine Up.drew ?_) | (with_reducible refine Up.grow ?_ _) | (with_reducible refine Up.setCell ?_ (by (try simp); (try omega)) _)))⟩
      · go_wp2_with ((first | with_reducible refine wp_region_in x (by kernel_rfl) (by kernel_rfl) ?_ | with_reducible refine wp_region_here (by kernel_rfl) (by kernel_rfl) ?_); (repeat (go_big_quiet_step ((fail)))); refine wpQuiet_nil ?_; intro w' hw'; obtain ⟨x, rfl⟩ := hw')
        go_roundw
        case rel => exact ⟨k + 1, x, by omega, by omega, by go_num, rfl, pre_step HP.out fun _ => ⟨by omega, fun _ => hd'⟩⟩
        case measure => simp [intOf]; omega
    · have hll : decide ((k : Int) < T.n - 1) = false := by simpa using hl
      go_wp2_with ((first | with_reducible refine wp_region_in x (by kernel_rfl) (by kernel_rfl) ?_ | with_reducible refine wp_region_here (by kernel_rfl) (by kernel_rfl) ?_); (repeat (go_big_quiet_step ((fail)))); refine wpQuiet_nil ?_; intro w' hw'; obtain ⟨x, rfl⟩ := hw')
      go_roundw
      case rel => exact ⟨k + 1, x, by omega, by omega, by go_num, rfl, pre_step HP.out fun h => by omega⟩
      case measure => simp [intOf]; omega

set_option maxHeartbeats 1000000 in
theorem i_Valid (T : Tab) (b : Bool) (hb : T.okB = b) (v : Value) (w : World) (hv : TabAt w T v) :
    Calls Try.prog 74 #[v] w (Ret w (.bool b)) := by
  subst hb
  obtain ⟨A, c, rfl, hc, hm, hbig, hI⟩ := hv
  have bad : ¬ T.Ok → T.okB = false := (Tab.okB_false T).2
  by_cases h3 : inR T.first 0 100 = true
  case neg =>
    rw [bad (fun h => h3 (inR_true.2 ⟨h.lo, h.hi⟩))]
    have h3 := Bool.eq_false_iff.2 h3
    clear bad hI
    go_enter Try.func74, Try.ntmps74
    go_wp2_with (first | (go_at_call 186; refine (i_In _ _ _ _).mono ?_; rintro e w' ⟨rfl, rfl⟩) | (go_at_call 194; refine (i_Length _ _ _ (by omega) _).mono ?_; rintro e w' ⟨rfl, rfl⟩))
    go_ret
    exact ⟨rfl, (by repeat' (first | (with_reducible exact Up.refl _) | (with_reducible assumption) | (with_reducible refine Up.alloc ?_ _) | (with_reducible refine Up.drew ?_) | (with_reducible refine Up.grow ?_ _) | (with_reducible refine Up.setCell ?_ (by (try simp); (try omega)) _)))⟩
  have h3' := inR_true.1 h3
  by_cases h1 : inR T.n 2 120 = true
  case neg =>
    rw [bad (fun h => h1 (inR_true.2 ⟨by have := h.n2; omega, by have := h.n120; omega⟩))]
    have h1 := Bool.eq_false_iff.2 h1
    clear bad hI
    go_enter Try.func74, Try.ntmps74
    go_wp2_with (first | (go_at_call 186; refine (i_In _ _ _ _).mono ?_; rintro e w' ⟨rfl, rfl⟩) | (go_at_call 194; refine (i_Length _ _ _ (by omega) _).mono ?_; rintro e w' ⟨rfl, rfl⟩))
    go_ret
    exact ⟨rfl, (by repeat' (first | (with_reducible exact Up.refl _) | (with_reducible assumption) | (with_reducible refine Up.alloc ?_ _) | (with_reducible refine Up.drew ?_) | (with_reducible refine Up.grow ?_ _) | (with_reducible refine Up.setCell ?_ (by (try simp); (try omega)) _)))⟩
  have h1' := inR_true.1 h1
  obtain ⟨b, off, rfl, hlt, hcell⟩ := hI.at_ (by omega)
  have hc0 : w.cell? ⟨b, off, none⟩ = some (.int .i64 (T.f 0)) := hcell 0 (by omega)
  have hcn : w.cell? ⟨b, off + (T.n - 1), none⟩ = some (.int .i64 (T.f (T.n - 1))) := hcell _ (by omega)
  by_cases h4 : T.f 0 ≤ 1000000
  case neg =>
    rw [bad (fun h => h4 h.top)]
    clear bad hI hcell
    go_enter Try.func74, Try.ntmps74
    go_wp2_with (first | (go_at_call 186; refine (i_In _ _ _ _).mono ?_; rintro e w' ⟨rfl, rfl⟩) | (go_at_call 194; refine (i_Length _ _ _ (by omega) _).mono ?_; rintro e w' ⟨rfl, rfl⟩))
    go_ret
    exact ⟨rfl, (by repeat' (first | (with_reducible exact Up.refl _) | (with_reducible assumption) | (with_reducible refine Up.alloc ?_ _) | (with_reducible refine Up.drew ?_) | (with_reducible refine Up.grow ?_ _) | (with_reducible refine Up.setCell ?_ (by (try simp); (try omega)) _)))⟩
  by_cases h5 : T.f (T.n - 1) = 0
  case neg =>
    rw [bad (fun h => h5 h.last)]
    clear bad hI hcell
    have h5' : (T.f (T.n - 1) == 0) = false := by simpa using h5
    have h5'' : (T.f (T.n - 1) != 0) = true := by simpa using h5
    go_enter Try.func74, Try.ntmps74
    go_wp2_with (first | (go_at_call 186; refine (i_In _ _ _ _).mono ?_; rintro e w' ⟨rfl, rfl⟩) | (go_at_call 194; refine (i_Length _ _ _ (by omega) _).mono ?_; rintro e w' ⟨rfl, rfl⟩))
    go_ret
    exact ⟨rfl, (by repeat' (first | (with_reducible exact Up.refl _) | (with_reducible assumption) | (with_reducible refine Up.alloc ?_ _) | (with_reducible refine Up.drew ?_) | (with_reducible refine Up.grow ?_ _) | (with_reducible refine Up.setCell ?_ (by (try simp); (try omega)) _)))⟩
  have h5' : (T.f (T.n - 1) != 0) = false := by simpa using h5
  have H5 := Lib.hid h5
  clear h5
  by_cases h6 : T.first + T.n - 1 ≤ 150
  case neg =>
    rw [bad (fun h => h6 (by have := h.fin; omega))]
    clear bad hI hcell
    go_enter Try.func74, Try.ntmps74
    go_wp2_with (first | (go_at_call 186; refine (i_In _ _ _ _).mono ?_; rintro e w' ⟨rfl, rfl⟩) | (go_at_call 194; refine (i_Length _ _ _ (by omega) _).mono ?_; rintro e w' ⟨rfl, rfl⟩))
    go_ret
    exact ⟨rfl, (by repeat' (first | (with_reducible exact Up.refl _) | (with_reducible assumption) | (with_reducible refine Up.alloc ?_ _) | (with_reducible refine Up.drew ?_) | (with_reducible refine Up.grow ?_ _) | (with_reducible refine Up.setCell ?_ (by (try simp); (try omega)) _)))⟩
  have HC := Lib.hid hcell
  have HB := Lib.hid bad
  clear hcell hI bad
  go_enter Try.func74, Try.ntmps74
  go_wp2_with (first | (go_at_call 186; refine (i_In _ _ _ _).mono ?_; rintro e w' ⟨rfl, rfl⟩) | (go_at_call 194; refine (i_Length _ _ _ (by omega) _).mono ?_; rintro e w' ⟨rfl, rfl⟩))
  go_loop [48] (fun i => ∃ (k : Nat), k ≤ T.n - 1 ∧ i = .int .i64 k ∧ Pre T k) (fun i => T.n - (intOf i).toNat)
  case atStart => exact ⟨0, by omega, rfl, fun j hj hn => by omega⟩
  case round =>
    obtain ⟨k, hk2, rfl, hp⟩ := hrel
    have HP := Lib.hid hp
    clear hp
    by_cases hlt2 : k < T.n - 1
    case neg =>
      have e : T.okB = true := (Tab.okB_iff T).2 (ok_of (by omega) (by omega) h3'.1 h3'.2 h4 H5.out h6 (fun j hj hn => HP.out j (by omega) hn))
      have E := Lib.hid e
      clear HP HC e
      go_wp2
      go_ret
      exact ⟨ret_bool E.out.symm, (by repeat' (first | (with_reducible exact Up.refl _) | (with_reducible assumption) | (with_reducible refine Up.alloc ?_ _) | (with_reducible refine Up.drew ?_) | (with_reducible refine Up.grow ?_ _) | (with_reducible refine Up.setCell ?_ (by (try simp); (try omega)) _)))⟩
    have hck := HC.out k (by omega)
    have hck1 := HC.out (k - 1) (by omega)
    by_cases hp : T.f k < 1
    · have e : T.okB = false := HB.out (fun h => by have := h.pos k (by omega); omega)
      have E := Lib.hid e
      clear HP HC e
      go_wp2
      go_ret
      exact ⟨ret_bool E.out.symm, (by repeat' (first | (with_reducible exact Up.refl _) | (with_reducible assumption) | (with_reducible refine Up.alloc ?_ _) | (with_reducible refine Up.drew ?_) | (with_reducible refine Up.grow ?_ _) | (with_reducible refine Up.setCell ?_ (by (try simp); (try omega)) _)))⟩
    by_cases hl : (0 : Int) < k
    · by_cases hd : T.f (k - 1) < T.f k
      · have e : T.okB = false := HB.out (fun h => by have := h.mono (k - 1) (by omega); rw [show k - 1 + 1 = k from by omega] at this; omega)
        have E := Lib.hid e
        clear HP HC e
        go_wp2
        go_ret
        exact ⟨ret_bool E.out.symm, (by repeat' (first | (with_reducible exact Up.refl _) | (with_reducible assumption) | (with_reducible refine Up.alloc ?_ _) | (with_reducible refine Up.drew ?_) | (with_reducible refine Up.grow ?_ _) | (with_reducible refine Up.setCell ?_ (by (try simp); (try omega)) _)))⟩
      · go_wp2
        go_round
        case rel => exact ⟨k + 1, by omega, by go_num, pre_step HP.out fun _ => ⟨by omega, fun _ => by omega⟩⟩
        case measure => simp [intOf]; omega
    · go_wp2
      go_round
      case rel => exact ⟨k + 1, by omega, by go_num, pre_step HP.out fun _ => ⟨by omega, fun _ => by omega⟩⟩
      case measure => simp [intOf]; omega
end Go.Proofs.Ytdeoampkbbbleaa
