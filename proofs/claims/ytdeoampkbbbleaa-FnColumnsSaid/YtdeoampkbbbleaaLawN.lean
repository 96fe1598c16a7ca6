/- The law of columns: the walk. Condition: the code reads as bytes. -/
import Derived.Test.YtdeoampkbbbleaaDraw7
import Derived.Test.YtdeoampkbbbleaaLike
import Derived.Test.YtdeoampkbbbleaaCAt
import Derived.Test.YtdeoampkbbbleaaLists
import Derived.Test.YtdeoampkbbbleaaILists
import Derived.Test.YtdeoampkbbbleaaPureL
namespace Go.Proofs.Ytdeoampkbbbleaa
open Go.RowKit Pu
set_option linter.unusedVariables false
set_option linter.unusedSimpArgs false

theorem col_sum {T : Tab} {r : Int} {g : Nat → Int} (n : Nat) (h : ∀ i, 0 ≤ g i) (M : Int) (hM : S g 0 n ≤ M) : ∀ m, m ≤ n → 0 ≤ S g 0 m ∧ S g 0 m ≤ M := by
  have mono : ∀ m k, S g 0 m ≤ S g 0 (m + k) := by
    intro m k
    induction k with
    | zero => exact Int.le_refl _
    | succ k ih =>
      rw [show m + (k + 1) = (m + k) + 1 from rfl, S_succ]
      have := h (0 + (m + k))
      omega
  intro m hm
  have a := mono 0 m
  have b := mono m (n - m)
  rw [show m + (n - m) = n from by omega] at b
  rw [Nat.zero_add, S_zero'] at a
  omega
/-- The sums of the columns D and C are the first of N and M. -/
theorem cols_law {T : Tab} {r : Int} (hT : T.Ok) (h0 : 0 ≤ r) : S (T.D r) 0 T.n = T.N r 0 ∧ S (T.C r) 0 T.n = T.M r 0 ∧ (∀ m, m ≤ T.n → -9000000000000000000 ≤ S (T.D r) 0 m ∧ S (T.D r) 0 m ≤ 9000000000000000000) ∧ (∀ m, m ≤ T.n → -9000000000000000000 ≤ S (T.C r) 0 m ∧ S (T.C r) 0 m ≤ 9000000000000000000) := by
  have e1 := hT.sum_D r
  have e2 := hT.sum_C r
  have n1 := hT.N_max h0 0
  have m1 := hT.M_bd h0 0
  have d1 := hT.D_bd h0 0
  have s1 := col_sum (T := T) (r := r) (g := T.D r) T.n (fun i => (hT.D_bd h0 i).1) 9000000000000000000 (by omega)
  have s2 := col_sum (T := T) (r := r) (g := T.C r) T.n (fun i => (hT.C_bd h0 i).1) 9000000000000000000 (by omega)
  exact ⟨e1, e2, fun m hm => by have := s1 m hm; omega, fun m hm => by have := s2 m hm; omega⟩
theorem Own.fnI {w w' : World} {v : Value} {n : Nat} {g : Nat → Int} (h : Own w w' v ((List.range n).map g)) : ∃ A c, v = .slice A n c ∧ Ints w' A n g := by
  obtain ⟨A, c, h1, _, _, h4⟩ := h.form
  have hl : ((List.range n).map g).length = n := by simp
  rw [hl] at h1 h4
  refine ⟨A, c, h1, fun i hi => ?_⟩
  obtain ⟨b, rfl, _, h6, h7, _⟩ := h4 (by omega)
  exact ⟨b, 0, rfl, h6, by have := h7 i hi; rw [Nat.zero_add, this]; simp [hi]⟩
theorem Own.at0 {w w' : World} {A : Option Addr} {n c : Nat} {g : Nat → Int} (h : Own w w' (.slice A n c) ((List.range n).map g)) (hn : 0 < n) : ∃ b, A = some ⟨b, 0, none⟩ ∧ InW w' b ∧ w'.cell? ⟨b, 0, none⟩ = some (.int .i64 (g 0)) ∧ n ≤ c ∧ c ≤ 9223372036854775807 := by
  obtain ⟨A', c', h1, h2, h3, h4⟩ := h.form
  have hl : ((List.range n).map g).length = n := by simp
  rw [hl] at h1 h2 h4
  injection h1 with e1 e2 e3
  subst e1; subst e3
  obtain ⟨b, rfl, _, h6, h7, _⟩ := h4 hn
  exact ⟨b, rfl, h6, by have := h7 0 hn; rw [this]; simp [hn], h2, h3⟩
theorem colList_n (T : Tab) (r : Int) (g : Nat → Int) : colList T r g = (List.range (if code5 T r T.first = 0 then T.n else 0)).map g := by
  unfold colList
  split <;> simp
set_option maxRecDepth 100000 in
set_option maxHeartbeats 8000000 in
theorem l_Columns (A : Option Addr) (n c : Nat) (w : World) (hI : InCode w A n c) : Calls Try.prog 11 #[.slice A n c] w (Ret w (.bool true)) := by
  by_cases hb : 4096 < n
  · have HB := Lib.hid (l_Big A n c true (by simp [hb]) (by have := hI.1; have := hI.2.1; omega))
    clear hI
    go_enter Try.func11, Try.ntmps11
    go_wp2_with (go_at_call 38; (with_reducible refine (HB.out _).mono ?_); rintro e w' ⟨rfl, rfl⟩)
    go_ret
    exact ⟨rfl, (by repeat' (first | (with_reducible exact Up.refl _) | (with_reducible assumption) | (with_reducible refine Up.alloc ?_ _) | (with_reducible refine Up.drew ?_) | (with_reducible refine Up.grow ?_ _) | (with_reducible refine Up.setCell ?_ (by (try simp); (try omega)) _)))⟩
  have HB := Lib.hid (l_Big A n c false (by simp [hb]) (by have := hI.1; have := hI.2.1; omega))
  have HI := Lib.hid hI
  have hn : n ≤ 4096 := by omega
  clear hI hb
  go_enter Try.func11, Try.ntmps11
  go_upto_region 4 with (first
    | (go_at_call 38; (with_reducible refine (HB.out _).mono ?_); rintro e w' ⟨rfl, rfl⟩)
    | (go_at_call 75; (with_reducible refine (s_DrawColumnsAt A n c hn _ HI.out).mono ?_); rintro e w2 ⟨T, A1, c1, r, age, rfl, hu2, hO⟩))
  have hu3 := Up.alloc (Up.refl w2) (.cells #[.int .i64 T.first, .slice A1 T.n c1] 31)
  have hup : Up w (w2.alloc (.cells #[.int .i64 T.first, .slice A1 T.n c1] 31)) := hu2.trans hu3
  have hT := Blk.new w2 31 #[.int .i64 T.first, .slice A1 T.n c1]
  have hv := hO.tab.up hu3
  generalize w2.alloc (.cells #[.int .i64 T.first, .slice A1 T.n c1] 31) = w3 at *
  generalize w2.heap.size = bT at *
  clear hu2 hu3 HB HI hO hn
  (have q0 := hT.cell 0); (have q1 := hT.cell 1); (have qi := hT.inw)
  have H1 := Lib.hid (i_ColAt T r age)
  have H2 := Lib.hid (s_ColAt T r age)
  have HD1 := i_ColumnD T r; have HD2 := s_ColumnD T r; have HN1 := i_ColumnN T r; have HN2 := s_ColumnN T r
  have HC1 := i_ColumnC T r; have HC2 := s_ColumnC T r; have HM1 := i_ColumnM T r; have HM2 := s_ColumnM T r
  simp only [colList_n] at HD1 HD2 HN1 HN2 HC1 HC2 HM1 HM2
  have hk : code5 T r age = 0 → code5 T r T.first = 0 := fun h => by
    obtain ⟨hT, h0, h1, _, _⟩ := code5_zero.1 h
    exact code5_ok hT ⟨h0, h1, by omega, by have := hT.hi; omega⟩
  have F5 := fun h : code5 T r T.first = 0 => code5_zero.1 h
  have FC := fun h : code5 T r age = 0 => code5_zero.1 h
  have H3 := i_ColAt T r (age + 1)
  have HK3 := fun (h : code5 T r age = 0) (h2 : ¬ age = 150) => (show code5 T r (age + 1) = 0 from by
    obtain ⟨hT, h0, h1, h3, h4⟩ := code5_zero.1 h
    exact code5_ok hT ⟨h0, h1, by omega, by omega⟩)
  simp only [RetCA] at H1 H2
  have hN0 : (if code5 T r T.first = 0 then T.n else 0) ≤ 1048576 := by
    obtain ⟨_, _, _, _, _, hb, _⟩ := hv
    split <;> omega
  generalize code5 T r T.first = K5 at *
  generalize code5 T r age = Kc at *
  have hN : K5 = 0 → (if K5 = 0 then T.n else 0) = T.n := fun h => if_pos h
  have hd : Kc = 0 → (if Kc = 0 then T.D r (age - T.first).toNat else 0) = T.D r (age - T.first).toNat := fun h => if_pos h
  have hnn : Kc = 0 → (if Kc = 0 then T.N r (age - T.first).toNat else 0) = T.N r (age - T.first).toNat := fun h => if_pos h
  have hcc : Kc = 0 → (if Kc = 0 then T.C r (age - T.first).toNat else 0) = T.C r (age - T.first).toNat := fun h => if_pos h
  have hmm : Kc = 0 → (if Kc = 0 then T.M r (age - T.first).toNat else 0) = T.M r (age - T.first).toNat := fun h => if_pos h
  generalize (if K5 = 0 then T.n else 0) = N0 at *
  generalize (if Kc = 0 then T.D r (age - T.first).toNat else 0) = d at *
  generalize (if Kc = 0 then T.N r (age - T.first).toNat else 0) = nn at *
  generalize (if Kc = 0 then T.C r (age - T.first).toNat else 0) = cc at *
  generalize (if Kc = 0 then T.M r (age - T.first).toNat else 0) = mm at *
  replace H3 := Lib.hid H3; replace hk := Lib.hid hk; replace F5 := Lib.hid F5; replace FC := Lib.hid FC; replace HK3 := Lib.hid HK3
  replace hN := Lib.hid hN; replace hd := Lib.hid hd; replace hnn := Lib.hid hnn; replace hcc := Lib.hid hcc; replace hmm := Lib.hid hmm
  replace HD1 := Lib.hid HD1; replace HD2 := Lib.hid HD2; replace HN1 := Lib.hid HN1; replace HN2 := Lib.hid HN2
  replace HC1 := Lib.hid HC1; replace HC2 := Lib.hid HC2; replace HM1 := Lib.hid HM1; replace HM2 := Lib.hid HM2
  go_upto_region 5 with (go_at_call 76; (with_reducible refine (H1.out _ _ hv).mono ?_); rintro e w' ⟨rfl, hu⟩; (have hT := hT.up hu); (have hup := hup.trans hu); (have hv := hv.up hu); (try (have hT2 := hT2.up hu; have r0 := hT2.cell 0; have r1 := hT2.cell 1; have ri := hT2.inw)); (try have hv2 := hv2.up hu); (try have hi1 := hi1.up hu); (try have hi2 := hi2.up hu); (try have hq9 := hq9.trans hu); (have q0 := hT.cell 0); (have q1 := hT.cell 1); (have qi := hT.inw); (try (have hT3 := hT3.up hu; have d0 := hT3.cell 0; have d1 := hT3.cell 1; have d2 := hT3.cell 2; have d3 := hT3.cell 3; have di := hT3.inw)); (try (have hT4 := hT4.up hu; have f0 := hT4.cell 0; have f1 := hT4.cell 1; have f2 := hT4.cell 2; have f3 := hT4.cell 3; have fi := hT4.inw)); (try have iD1 := iD1.up hu); (try have iD2 := iD2.up hu); (try have iN1 := iN1.up hu); (try have iN2 := iN2.up hu); (try have iC1 := iC1.up hu); (try have iC2 := iC2.up hu); (try have iM1 := iM1.up hu); (try have iM2 := iM2.up hu); (try have hoN2 := hoN2.up hu); (try have hoM2 := hoM2.up hu))
  have hu3 : Up w' (w'.alloc (.cells #[.int .i64 d, .int .i64 nn, .int .i64 cc, .int .i64 mm] 80)) := Up.alloc (Up.refl w') _
  have hT3 := Blk.new w' 80 #[.int .i64 d, .int .i64 nn, .int .i64 cc, .int .i64 mm]
  have hT := hT.up hu3; have hup := hup.trans hu3; have hv := hv.up hu3
  generalize w'.alloc (.cells #[.int .i64 d, .int .i64 nn, .int .i64 cc, .int .i64 mm] 80) = wa at *
  generalize w'.heap.size = b3 at *
  clear hu3 q0 q1 qi
  (have q0 := hT.cell 0); (have q1 := hT.cell 1); (have qi := hT.inw)
  have d0 := hT3.cell 0; have d1 := hT3.cell 1; have d2 := hT3.cell 2; have d3 := hT3.cell 3; have di := hT3.inw
  go_upto_region 6 with (go_at_call 77; (with_reducible refine (H2.out _ _ hv).mono ?_); rintro e w' ⟨rfl, hu⟩; (have hT := hT.up hu); (have hup := hup.trans hu); (have hv := hv.up hu); (try (have hT2 := hT2.up hu; have r0 := hT2.cell 0; have r1 := hT2.cell 1; have ri := hT2.inw)); (try have hv2 := hv2.up hu); (try have hi1 := hi1.up hu); (try have hi2 := hi2.up hu); (try have hq9 := hq9.trans hu); (have q0 := hT.cell 0); (have q1 := hT.cell 1); (have qi := hT.inw); (try (have hT3 := hT3.up hu; have d0 := hT3.cell 0; have d1 := hT3.cell 1; have d2 := hT3.cell 2; have d3 := hT3.cell 3; have di := hT3.inw)); (try (have hT4 := hT4.up hu; have f0 := hT4.cell 0; have f1 := hT4.cell 1; have f2 := hT4.cell 2; have f3 := hT4.cell 3; have fi := hT4.inw)); (try have iD1 := iD1.up hu); (try have iD2 := iD2.up hu); (try have iN1 := iN1.up hu); (try have iN2 := iN2.up hu); (try have iC1 := iC1.up hu); (try have iC2 := iC2.up hu); (try have iM1 := iM1.up hu); (try have iM2 := iM2.up hu); (try have hoN2 := hoN2.up hu); (try have hoM2 := hoM2.up hu))
  have hu3 : Up w' (w'.alloc (.cells #[.int .i64 d, .int .i64 nn, .int .i64 cc, .int .i64 mm] 80)) := Up.alloc (Up.refl w') _
  have hT4 := Blk.new w' 80 #[.int .i64 d, .int .i64 nn, .int .i64 cc, .int .i64 mm]
  have hT := hT.up hu3; have hup := hup.trans hu3; have hv := hv.up hu3; have hT3 := hT3.up hu3
  generalize w'.alloc (.cells #[.int .i64 d, .int .i64 nn, .int .i64 cc, .int .i64 mm] 80) = wb at *
  generalize w'.heap.size = b4 at *
  clear hu3 q0 q1 qi d0 d1 d2 d3 di
  (have q0 := hT.cell 0); (have q1 := hT.cell 1); (have qi := hT.inw)
  have d0 := hT3.cell 0; have d1 := hT3.cell 1; have d2 := hT3.cell 2; have d3 := hT3.cell 3; have di := hT3.inw
  have f0 := hT4.cell 0; have f1 := hT4.cell 1; have f2 := hT4.cell 2; have f3 := hT4.cell 3; have fi := hT4.inw
  go_upto_region 16 with (first | (go_at_call 78; (with_reducible refine (HD1.out _ _ hv).mono ?_); rintro e w' ⟨v, rfl, hu, hoD1⟩; obtain ⟨AD1, cD1, rfl, iD1⟩ := hoD1.fnI; (have hT := hT.up hu); (have hup := hup.trans hu); (have hv := hv.up hu); (try (have hT2 := hT2.up hu; have r0 := hT2.cell 0; have r1 := hT2.cell 1; have ri := hT2.inw)); (try have hv2 := hv2.up hu); (try have hi1 := hi1.up hu); (try have hi2 := hi2.up hu); (try have hq9 := hq9.trans hu); (have q0 := hT.cell 0); (have q1 := hT.cell 1); (have qi := hT.inw); (try (have hT3 := hT3.up hu; have d0 := hT3.cell 0; have d1 := hT3.cell 1; have d2 := hT3.cell 2; have d3 := hT3.cell 3; have di := hT3.inw)); (try (have hT4 := hT4.up hu; have f0 := hT4.cell 0; have f1 := hT4.cell 1; have f2 := hT4.cell 2; have f3 := hT4.cell 3; have fi := hT4.inw)); (try have iD1 := iD1.up hu); (try have iD2 := iD2.up hu); (try have iN1 := iN1.up hu); (try have iN2 := iN2.up hu); (try have iC1 := iC1.up hu); (try have iC2 := iC2.up hu); (try have iM1 := iM1.up hu); (try have iM2 := iM2.up hu); (try have hoN2 := hoN2.up hu); (try have hoM2 := hoM2.up hu)) | (go_at_call 79; (with_reducible refine (HD2.out _ _ hv).mono ?_); rintro e w' ⟨v, rfl, hu, hoD2⟩; obtain ⟨AD2, cD2, rfl, iD2⟩ := hoD2.fnI; (have hT := hT.up hu); (have hup := hup.trans hu); (have hv := hv.up hu); (try (have hT2 := hT2.up hu; have r0 := hT2.cell 0; have r1 := hT2.cell 1; have ri := hT2.inw)); (try have hv2 := hv2.up hu); (try have hi1 := hi1.up hu); (try have hi2 := hi2.up hu); (try have hq9 := hq9.trans hu); (have q0 := hT.cell 0); (have q1 := hT.cell 1); (have qi := hT.inw); (try (have hT3 := hT3.up hu; have d0 := hT3.cell 0; have d1 := hT3.cell 1; have d2 := hT3.cell 2; have d3 := hT3.cell 3; have di := hT3.inw)); (try (have hT4 := hT4.up hu; have f0 := hT4.cell 0; have f1 := hT4.cell 1; have f2 := hT4.cell 2; have f3 := hT4.cell 3; have fi := hT4.inw)); (try have iD1 := iD1.up hu); (try have iD2 := iD2.up hu); (try have iN1 := iN1.up hu); (try have iN2 := iN2.up hu); (try have iC1 := iC1.up hu); (try have iC2 := iC2.up hu); (try have iM1 := iM1.up hu); (try have iM2 := iM2.up hu); (try have hoN2 := hoN2.up hu); (try have hoM2 := hoM2.up hu)) | (go_at_call 80; (with_reducible refine (HN1.out _ _ hv).mono ?_); rintro e w' ⟨v, rfl, hu, hoN1⟩; obtain ⟨AN1, cN1, rfl, iN1⟩ := hoN1.fnI; (have hT := hT.up hu); (have hup := hup.trans hu); (have hv := hv.up hu); (try (have hT2 := hT2.up hu; have r0 := hT2.cell 0; have r1 := hT2.cell 1; have ri := hT2.inw)); (try have hv2 := hv2.up hu); (try have hi1 := hi1.up hu); (try have hi2 := hi2.up hu); (try have hq9 := hq9.trans hu); (have q0 := hT.cell 0); (have q1 := hT.cell 1); (have qi := hT.inw); (try (have hT3 := hT3.up hu; have d0 := hT3.cell 0; have d1 := hT3.cell 1; have d2 := hT3.cell 2; have d3 := hT3.cell 3; have di := hT3.inw)); (try (have hT4 := hT4.up hu; have f0 := hT4.cell 0; have f1 := hT4.cell 1; have f2 := hT4.cell 2; have f3 := hT4.cell 3; have fi := hT4.inw)); (try have iD1 := iD1.up hu); (try have iD2 := iD2.up hu); (try have iN1 := iN1.up hu); (try have iN2 := iN2.up hu); (try have iC1 := iC1.up hu); (try have iC2 := iC2.up hu); (try have iM1 := iM1.up hu); (try have iM2 := iM2.up hu); (try have hoN2 := hoN2.up hu); (try have hoM2 := hoM2.up hu)) | (go_at_call 81; (with_reducible refine (HN2.out _ _ hv).mono ?_); rintro e w' ⟨v, rfl, hu, hoN2⟩; obtain ⟨AN2, cN2, rfl, iN2⟩ := hoN2.fnI; (have hT := hT.up hu); (have hup := hup.trans hu); (have hv := hv.up hu); (try (have hT2 := hT2.up hu; have r0 := hT2.cell 0; have r1 := hT2.cell 1; have ri := hT2.inw)); (try have hv2 := hv2.up hu); (try have hi1 := hi1.up hu); (try have hi2 := hi2.up hu); (try have hq9 := hq9.trans hu); (have q0 := hT.cell 0); (have q1 := hT.cell 1); (have qi := hT.inw); (try (have hT3 := hT3.up hu; have d0 := hT3.cell 0; have d1 := hT3.cell 1; have d2 := hT3.cell 2; have d3 := hT3.cell 3; have di := hT3.inw)); (try (have hT4 := hT4.up hu; have f0 := hT4.cell 0; have f1 := hT4.cell 1; have f2 := hT4.cell 2; have f3 := hT4.cell 3; have fi := hT4.inw)); (try have iD1 := iD1.up hu); (try have iD2 := iD2.up hu); (try have iN1 := iN1.up hu); (try have iN2 := iN2.up hu); (try have iC1 := iC1.up hu); (try have iC2 := iC2.up hu); (try have iM1 := iM1.up hu); (try have iM2 := iM2.up hu); (try have hoN2 := hoN2.up hu); (try have hoM2 := hoM2.up hu)) | (go_at_call 82; (with_reducible refine (HC1.out _ _ hv).mono ?_); rintro e w' ⟨v, rfl, hu, hoC1⟩; obtain ⟨AC1, cC1, rfl, iC1⟩ := hoC1.fnI; (have hT := hT.up hu); (have hup := hup.trans hu); (have hv := hv.up hu); (try (have hT2 := hT2.up hu; have r0 := hT2.cell 0; have r1 := hT2.cell 1; have ri := hT2.inw)); (try have hv2 := hv2.up hu); (try have hi1 := hi1.up hu); (try have hi2 := hi2.up hu); (try have hq9 := hq9.trans hu); (have q0 := hT.cell 0); (have q1 := hT.cell 1); (have qi := hT.inw); (try (have hT3 := hT3.up hu; have d0 := hT3.cell 0; have d1 := hT3.cell 1; have d2 := hT3.cell 2; have d3 := hT3.cell 3; have di := hT3.inw)); (try (have hT4 := hT4.up hu; have f0 := hT4.cell 0; have f1 := hT4.cell 1; have f2 := hT4.cell 2; have f3 := hT4.cell 3; have fi := hT4.inw)); (try have iD1 := iD1.up hu); (try have iD2 := iD2.up hu); (try have iN1 := iN1.up hu); (try have iN2 := iN2.up hu); (try have iC1 := iC1.up hu); (try have iC2 := iC2.up hu); (try have iM1 := iM1.up hu); (try have iM2 := iM2.up hu); (try have hoN2 := hoN2.up hu); (try have hoM2 := hoM2.up hu)) | (go_at_call 83; (with_reducible refine (HC2.out _ _ hv).mono ?_); rintro e w' ⟨v, rfl, hu, hoC2⟩; obtain ⟨AC2, cC2, rfl, iC2⟩ := hoC2.fnI; (have hT := hT.up hu); (have hup := hup.trans hu); (have hv := hv.up hu); (try (have hT2 := hT2.up hu; have r0 := hT2.cell 0; have r1 := hT2.cell 1; have ri := hT2.inw)); (try have hv2 := hv2.up hu); (try have hi1 := hi1.up hu); (try have hi2 := hi2.up hu); (try have hq9 := hq9.trans hu); (have q0 := hT.cell 0); (have q1 := hT.cell 1); (have qi := hT.inw); (try (have hT3 := hT3.up hu; have d0 := hT3.cell 0; have d1 := hT3.cell 1; have d2 := hT3.cell 2; have d3 := hT3.cell 3; have di := hT3.inw)); (try (have hT4 := hT4.up hu; have f0 := hT4.cell 0; have f1 := hT4.cell 1; have f2 := hT4.cell 2; have f3 := hT4.cell 3; have fi := hT4.inw)); (try have iD1 := iD1.up hu); (try have iD2 := iD2.up hu); (try have iN1 := iN1.up hu); (try have iN2 := iN2.up hu); (try have iC1 := iC1.up hu); (try have iC2 := iC2.up hu); (try have iM1 := iM1.up hu); (try have iM2 := iM2.up hu); (try have hoN2 := hoN2.up hu); (try have hoM2 := hoM2.up hu)) | (go_at_call 84; (with_reducible refine (HM1.out _ _ hv).mono ?_); rintro e w' ⟨v, rfl, hu, hoM1⟩; obtain ⟨AM1, cM1, rfl, iM1⟩ := hoM1.fnI; (have hT := hT.up hu); (have hup := hup.trans hu); (have hv := hv.up hu); (try (have hT2 := hT2.up hu; have r0 := hT2.cell 0; have r1 := hT2.cell 1; have ri := hT2.inw)); (try have hv2 := hv2.up hu); (try have hi1 := hi1.up hu); (try have hi2 := hi2.up hu); (try have hq9 := hq9.trans hu); (have q0 := hT.cell 0); (have q1 := hT.cell 1); (have qi := hT.inw); (try (have hT3 := hT3.up hu; have d0 := hT3.cell 0; have d1 := hT3.cell 1; have d2 := hT3.cell 2; have d3 := hT3.cell 3; have di := hT3.inw)); (try (have hT4 := hT4.up hu; have f0 := hT4.cell 0; have f1 := hT4.cell 1; have f2 := hT4.cell 2; have f3 := hT4.cell 3; have fi := hT4.inw)); (try have iD1 := iD1.up hu); (try have iD2 := iD2.up hu); (try have iN1 := iN1.up hu); (try have iN2 := iN2.up hu); (try have iC1 := iC1.up hu); (try have iC2 := iC2.up hu); (try have iM1 := iM1.up hu); (try have iM2 := iM2.up hu); (try have hoN2 := hoN2.up hu); (try have hoM2 := hoM2.up hu)) | (go_at_call 85; (with_reducible refine (HM2.out _ _ hv).mono ?_); rintro e w' ⟨v, rfl, hu, hoM2⟩; obtain ⟨AM2, cM2, rfl, iM2⟩ := hoM2.fnI; (have hT := hT.up hu); (have hup := hup.trans hu); (have hv := hv.up hu); (try (have hT2 := hT2.up hu; have r0 := hT2.cell 0; have r1 := hT2.cell 1; have ri := hT2.inw)); (try have hv2 := hv2.up hu); (try have hi1 := hi1.up hu); (try have hi2 := hi2.up hu); (try have hq9 := hq9.trans hu); (have q0 := hT.cell 0); (have q1 := hT.cell 1); (have qi := hT.inw); (try (have hT3 := hT3.up hu; have d0 := hT3.cell 0; have d1 := hT3.cell 1; have d2 := hT3.cell 2; have d3 := hT3.cell 3; have di := hT3.inw)); (try (have hT4 := hT4.up hu; have f0 := hT4.cell 0; have f1 := hT4.cell 1; have f2 := hT4.cell 2; have f3 := hT4.cell 3; have fi := hT4.inw)); (try have iD1 := iD1.up hu); (try have iD2 := iD2.up hu); (try have iN1 := iN1.up hu); (try have iN2 := iN2.up hu); (try have iC1 := iC1.up hu); (try have iC2 := iC2.up hu); (try have iM1 := iM1.up hu); (try have iM2 := iM2.up hu); (try have hoN2 := hoN2.up hu); (try have hoM2 := hoM2.up hu)) | (go_at_call 50; (with_reducible refine (l_Like AD1 AD2 N0 cD1 cD2 (T.D r) hN0 _ iD1 iD2).mono ?_); rintro e w' ⟨rfl, hu⟩; (have hT := hT.up hu); (have hup := hup.trans hu); (have hv := hv.up hu); (try (have hT2 := hT2.up hu; have r0 := hT2.cell 0; have r1 := hT2.cell 1; have ri := hT2.inw)); (try have hv2 := hv2.up hu); (try have hi1 := hi1.up hu); (try have hi2 := hi2.up hu); (try have hq9 := hq9.trans hu); (have q0 := hT.cell 0); (have q1 := hT.cell 1); (have qi := hT.inw); (try (have hT3 := hT3.up hu; have d0 := hT3.cell 0; have d1 := hT3.cell 1; have d2 := hT3.cell 2; have d3 := hT3.cell 3; have di := hT3.inw)); (try (have hT4 := hT4.up hu; have f0 := hT4.cell 0; have f1 := hT4.cell 1; have f2 := hT4.cell 2; have f3 := hT4.cell 3; have fi := hT4.inw)); (try have iD1 := iD1.up hu); (try have iD2 := iD2.up hu); (try have iN1 := iN1.up hu); (try have iN2 := iN2.up hu); (try have iC1 := iC1.up hu); (try have iC2 := iC2.up hu); (try have iM1 := iM1.up hu); (try have iM2 := iM2.up hu); (try have hoN2 := hoN2.up hu); (try have hoM2 := hoM2.up hu)) | (go_at_call 50; (with_reducible refine (l_Like AN1 AN2 N0 cN1 cN2 (T.N r) hN0 _ iN1 iN2).mono ?_); rintro e w' ⟨rfl, hu⟩; (have hT := hT.up hu); (have hup := hup.trans hu); (have hv := hv.up hu); (try (have hT2 := hT2.up hu; have r0 := hT2.cell 0; have r1 := hT2.cell 1; have ri := hT2.inw)); (try have hv2 := hv2.up hu); (try have hi1 := hi1.up hu); (try have hi2 := hi2.up hu); (try have hq9 := hq9.trans hu); (have q0 := hT.cell 0); (have q1 := hT.cell 1); (have qi := hT.inw); (try (have hT3 := hT3.up hu; have d0 := hT3.cell 0; have d1 := hT3.cell 1; have d2 := hT3.cell 2; have d3 := hT3.cell 3; have di := hT3.inw)); (try (have hT4 := hT4.up hu; have f0 := hT4.cell 0; have f1 := hT4.cell 1; have f2 := hT4.cell 2; have f3 := hT4.cell 3; have fi := hT4.inw)); (try have iD1 := iD1.up hu); (try have iD2 := iD2.up hu); (try have iN1 := iN1.up hu); (try have iN2 := iN2.up hu); (try have iC1 := iC1.up hu); (try have iC2 := iC2.up hu); (try have iM1 := iM1.up hu); (try have iM2 := iM2.up hu); (try have hoN2 := hoN2.up hu); (try have hoM2 := hoM2.up hu)) | (go_at_call 50; (with_reducible refine (l_Like AC1 AC2 N0 cC1 cC2 (T.C r) hN0 _ iC1 iC2).mono ?_); rintro e w' ⟨rfl, hu⟩; (have hT := hT.up hu); (have hup := hup.trans hu); (have hv := hv.up hu); (try (have hT2 := hT2.up hu; have r0 := hT2.cell 0; have r1 := hT2.cell 1; have ri := hT2.inw)); (try have hv2 := hv2.up hu); (try have hi1 := hi1.up hu); (try have hi2 := hi2.up hu); (try have hq9 := hq9.trans hu); (have q0 := hT.cell 0); (have q1 := hT.cell 1); (have qi := hT.inw); (try (have hT3 := hT3.up hu; have d0 := hT3.cell 0; have d1 := hT3.cell 1; have d2 := hT3.cell 2; have d3 := hT3.cell 3; have di := hT3.inw)); (try (have hT4 := hT4.up hu; have f0 := hT4.cell 0; have f1 := hT4.cell 1; have f2 := hT4.cell 2; have f3 := hT4.cell 3; have fi := hT4.inw)); (try have iD1 := iD1.up hu); (try have iD2 := iD2.up hu); (try have iN1 := iN1.up hu); (try have iN2 := iN2.up hu); (try have iC1 := iC1.up hu); (try have iC2 := iC2.up hu); (try have iM1 := iM1.up hu); (try have iM2 := iM2.up hu); (try have hoN2 := hoN2.up hu); (try have hoM2 := hoM2.up hu)) | (go_at_call 50; (with_reducible refine (l_Like AM1 AM2 N0 cM1 cM2 (T.M r) hN0 _ iM1 iM2).mono ?_); rintro e w' ⟨rfl, hu⟩; (have hT := hT.up hu); (have hup := hup.trans hu); (have hv := hv.up hu); (try (have hT2 := hT2.up hu; have r0 := hT2.cell 0; have r1 := hT2.cell 1; have ri := hT2.inw)); (try have hv2 := hv2.up hu); (try have hi1 := hi1.up hu); (try have hi2 := hi2.up hu); (try have hq9 := hq9.trans hu); (have q0 := hT.cell 0); (have q1 := hT.cell 1); (have qi := hT.inw); (try (have hT3 := hT3.up hu; have d0 := hT3.cell 0; have d1 := hT3.cell 1; have d2 := hT3.cell 2; have d3 := hT3.cell 3; have di := hT3.inw)); (try (have hT4 := hT4.up hu; have f0 := hT4.cell 0; have f1 := hT4.cell 1; have f2 := hT4.cell 2; have f3 := hT4.cell 3; have fi := hT4.inw)); (try have iD1 := iD1.up hu); (try have iD2 := iD2.up hu); (try have iN1 := iN1.up hu); (try have iN2 := iN2.up hu); (try have iC1 := iC1.up hu); (try have iC2 := iC2.up hu); (try have iM1 := iM1.up hu); (try have iM2 := iM2.up hu); (try have hoN2 := hoN2.up hu); (try have hoM2 := hoM2.up hu)))
  by_cases k5 : K5 = 0
  case neg =>
    have kc := fun h => k5 (hk.out h)
    (have hz1 : ((K5) != 0) = true := (by simpa using k5)); (have hz2 : ((K5) == 0) = false := (by simpa using k5))
    have kc1 : (Kc != 0) = true := by simpa using kc
    have kc2 : (Kc == 0) = false := by simpa using kc
    clear kc k5
    go_wp2_with ((first | with_reducible refine wp_region_in x (by kernel_rfl) (by kernel_rfl) ?_ | with_reducible refine wp_region_here (by kernel_rfl) (by kernel_rfl) ?_); (repeat (go_big_quiet_step ((fail)))); refine wpQuiet_nil ?_; intro w' hw'; obtain ⟨x, rfl⟩ := hw')
    go_ret
    exact ⟨rfl, hup.trans (by repeat' (first | (with_reducible exact Up.refl _) | (with_reducible assumption) | (with_reducible refine Up.alloc ?_ _) | (with_reducible refine Up.drew ?_) | (with_reducible refine Up.grow ?_ _) | (with_reducible refine Up.setCell ?_ (by (try simp); (try omega)) _)))⟩
  obtain ⟨hT1, h0, h1, _, _⟩ := F5.out k5
  obtain ⟨s1, s2, s3, s4⟩ := cols_law hT1 h0
  have hNe := hN.out k5
  subst hNe; subst k5
  have h2 := hT1.n2
  obtain ⟨bN, eN, iwN, tN, gN1, gN2⟩ := hoN2.at0 (by omega)
  obtain ⟨bM, eM, iwM, tM, gM1, gM2⟩ := hoM2.at0 (by omega)
  subst eN; subst eM
  have HS1 := Lib.hid fun (A : Option Addr) (c : Nat) (w : World) (h : Ints w A T.n (T.D r)) => l_Sum A T.n c (T.D r) hN0 s3 w h
  have HS2 := Lib.hid fun (A : Option Addr) (c : Nat) (w : World) (h : Ints w A T.n (T.C r)) => l_Sum A T.n c (T.C r) hN0 s4 w h
  rw [s1] at HS1
  rw [s2] at HS2
  have hn1 : (0 : Int) < T.n := by omega
  have hn2 : 0 < T.n := by omega
  clear s1 s2 s3 s4
  by_cases kc : Kc = 0
  case neg =>
    have kc1 : (Kc != 0) = true := by simpa using kc
    have kc2 : (Kc == 0) = false := by simpa using kc
    clear kc
    generalize T.N r 0 = N00 at *
    generalize T.M r 0 = M00 at *
    go_wp2_with (first | (go_at_call 52; (with_reducible refine (HS1.out AD1 cD1 _ (iD1.up (by repeat' (first | (with_reducible exact Up.refl _) | (with_reducible assumption) | (with_reducible refine Up.alloc ?_ _) | (with_reducible refine Up.drew ?_) | (with_reducible refine Up.grow ?_ _) | (with_reducible refine Up.setCell ?_ (by (try simp); (try omega)) _))))).mono ?_); rintro e w' ⟨rfl, rfl⟩) | (go_at_call 52; (with_reducible refine (HS2.out AC1 cC1 _ (iC1.up (by repeat' (first | (with_reducible exact Up.refl _) | (with_reducible assumption) | (with_reducible refine Up.alloc ?_ _) | (with_reducible refine Up.drew ?_) | (with_reducible refine Up.grow ?_ _) | (with_reducible refine Up.setCell ?_ (by (try simp); (try omega)) _))))).mono ?_); rintro e w' ⟨rfl, rfl⟩) | (go_at_call 142; (with_reducible refine (s_In _ _ _ _).mono ?_); rintro e w' ⟨rfl, rfl⟩) | (go_at_call 186; (with_reducible refine (i_In _ _ _ _).mono ?_); rintro e w' ⟨rfl, rfl⟩) | (go_at_call 222; (with_reducible refine (s_Rate _ _).mono ?_); rintro e w' ⟨rfl, rfl⟩) | (go_at_call 165; (with_reducible refine (i_Rate _ _).mono ?_); rintro e w' ⟨rfl, rfl⟩) | (go_at_call 262; (with_reducible refine (i_Years _ _).mono ?_); rintro e w' ⟨rfl, rfl⟩) | (go_at_call 227; (with_reducible refine (s_Amount6 _ _).mono ?_); rintro e w' ⟨rfl, rfl⟩) | (go_at_call 236; (with_reducible refine (s_Sum7 _ _).mono ?_); rintro e w' ⟨rfl, rfl⟩) | ((first | with_reducible refine wp_region_in x (by kernel_rfl) (by kernel_rfl) ?_ | with_reducible refine wp_region_here (by kernel_rfl) (by kernel_rfl) ?_); (repeat (go_big_quiet_step ((first | (go_at_call 52; with_reducible exact Ret.same _ (HS1.out AD1 cD1 _ (iD1.up (by repeat' (first | (with_reducible exact Up.refl _) | (with_reducible assumption) | (with_reducible refine Up.alloc ?_ _) | (with_reducible refine Up.drew ?_) | (with_reducible refine Up.grow ?_ _) | (with_reducible refine Up.setCell ?_ (by (try simp); (try omega)) _)))))) | (go_at_call 52; with_reducible exact Ret.same _ (HS2.out AC1 cC1 _ (iC1.up (by repeat' (first | (with_reducible exact Up.refl _) | (with_reducible assumption) | (with_reducible refine Up.alloc ?_ _) | (with_reducible refine Up.drew ?_) | (with_reducible refine Up.grow ?_ _) | (with_reducible refine Up.setCell ?_ (by (try simp); (try omega)) _)))))) | (go_at_call 142; with_reducible exact Ret.same _ (s_In _ _ _ _)) | (go_at_call 186; with_reducible exact Ret.same _ (i_In _ _ _ _)) | (go_at_call 222; with_reducible exact Ret.same _ (s_Rate _ _)) | (go_at_call 165; with_reducible exact Ret.same _ (i_Rate _ _)) | (go_at_call 262; with_reducible exact Ret.same _ (i_Years _ _)) | (go_at_call 227; with_reducible exact Ret.same _ (s_Amount6 _ _)) | (go_at_call 236; with_reducible exact Ret.same _ (s_Sum7 _ _)))))); refine wpQuiet_nil ?_; intro w' hw'; obtain ⟨x, rfl⟩ := hw'))
    go_ret
    exact ⟨rfl, hup.trans (by repeat' (first | (with_reducible exact Up.refl _) | (with_reducible assumption) | (with_reducible refine Up.alloc ?_ _) | (with_reducible refine Up.drew ?_) | (with_reducible refine Up.grow ?_ _) | (with_reducible refine Up.setCell ?_ (by (try simp); (try omega)) _)))⟩
  obtain ⟨_, _, _, ha1, ha2⟩ := FC.out kc
  obtain ⟨k, rfl⟩ : ∃ k : Nat, age = T.first + k := ⟨(age - T.first).toNat, by omega⟩
  have q1_ := hT1.lo; have q2_ := hT1.hi; have q3_ := hT1.n120; have q4_ := hT1.fin
  have hd1 := hd.out kc; have hnn1 := hnn.out kc; have hcc1 := hcc.out kc; have hmm1 := hmm.out kc
  rw [show (T.first + (k : Int) - T.first).toNat = k from by omega] at hd1 hnn1 hcc1 hmm1
  by_cases h150 : T.first + (k : Int) = 150
  · have e1 : d = 0 := by rw [hd1]; exact hT1.D_end (by omega)
    have e2 : nn = 0 := by rw [hnn1]; exact hT1.N_end (by omega)
    subst e1; subst e2; subst kc
    clear hd1 hnn1 hcc1 hmm1
    generalize T.N r 0 = N00 at *
    generalize T.M r 0 = M00 at *
    go_wp2_with (first | (go_at_call 52; (with_reducible refine (HS1.out AD1 cD1 _ (iD1.up (by repeat' (first | (with_reducible exact Up.refl _) | (with_reducible assumption) | (with_reducible refine Up.alloc ?_ _) | (with_reducible refine Up.drew ?_) | (with_reducible refine Up.grow ?_ _) | (with_reducible refine Up.setCell ?_ (by (try simp); (try omega)) _))))).mono ?_); rintro e w' ⟨rfl, rfl⟩) | (go_at_call 52; (with_reducible refine (HS2.out AC1 cC1 _ (iC1.up (by repeat' (first | (with_reducible exact Up.refl _) | (with_reducible assumption) | (with_reducible refine Up.alloc ?_ _) | (with_reducible refine Up.drew ?_) | (with_reducible refine Up.grow ?_ _) | (with_reducible refine Up.setCell ?_ (by (try simp); (try omega)) _))))).mono ?_); rintro e w' ⟨rfl, rfl⟩) | (go_at_call 142; (with_reducible refine (s_In _ _ _ _).mono ?_); rintro e w' ⟨rfl, rfl⟩) | (go_at_call 186; (with_reducible refine (i_In _ _ _ _).mono ?_); rintro e w' ⟨rfl, rfl⟩) | (go_at_call 222; (with_reducible refine (s_Rate _ _).mono ?_); rintro e w' ⟨rfl, rfl⟩) | (go_at_call 165; (with_reducible refine (i_Rate _ _).mono ?_); rintro e w' ⟨rfl, rfl⟩) | (go_at_call 262; (with_reducible refine (i_Years _ _).mono ?_); rintro e w' ⟨rfl, rfl⟩) | (go_at_call 227; (with_reducible refine (s_Amount6 _ _).mono ?_); rintro e w' ⟨rfl, rfl⟩) | (go_at_call 236; (with_reducible refine (s_Sum7 _ _).mono ?_); rintro e w' ⟨rfl, rfl⟩) | ((first | with_reducible refine wp_region_in x (by kernel_rfl) (by kernel_rfl) ?_ | with_reducible refine wp_region_here (by kernel_rfl) (by kernel_rfl) ?_); (repeat (go_big_quiet_step ((first | (go_at_call 52; with_reducible exact Ret.same _ (HS1.out AD1 cD1 _ (iD1.up (by repeat' (first | (with_reducible exact Up.refl _) | (with_reducible assumption) | (with_reducible refine Up.alloc ?_ _) | (with_reducible refine Up.drew ?_) | (with_reducible refine Up.grow ?_ _) | (with_reducible refine Up.setCell ?_ (by (try simp); (try omega)) _)))))) | (go_at_call 52; with_reducible exact Ret.same _ (HS2.out AC1 cC1 _ (iC1.up (by repeat' (first | (with_reducible exact Up.refl _) | (with_reducible assumption) | (with_reducible refine Up.alloc ?_ _) | (with_reducible refine Up.drew ?_) | (with_reducible refine Up.grow ?_ _) | (with_reducible refine Up.setCell ?_ (by (try simp); (try omega)) _)))))) | (go_at_call 142; with_reducible exact Ret.same _ (s_In _ _ _ _)) | (go_at_call 186; with_reducible exact Ret.same _ (i_In _ _ _ _)) | (go_at_call 222; with_reducible exact Ret.same _ (s_Rate _ _)) | (go_at_call 165; with_reducible exact Ret.same _ (i_Rate _ _)) | (go_at_call 262; with_reducible exact Ret.same _ (i_Years _ _)) | (go_at_call 227; with_reducible exact Ret.same _ (s_Amount6 _ _)) | (go_at_call 236; with_reducible exact Ret.same _ (s_Sum7 _ _)))))); refine wpQuiet_nil ?_; intro w' hw'; obtain ⟨x, rfl⟩ := hw'))
    go_ret
    exact ⟨rfl, hup.trans (by repeat' (first | (with_reducible exact Up.refl _) | (with_reducible assumption) | (with_reducible refine Up.alloc ?_ _) | (with_reducible refine Up.drew ?_) | (with_reducible refine Up.grow ?_ _) | (with_reducible refine Up.setCell ?_ (by (try simp); (try omega)) _)))⟩
  have HH3 := H3.out
  simp only [HK3.out kc h150, RetCA_ok, show (T.first + (k : Int) + 1 - T.first).toNat = k + 1 from by omega] at HH3
  have ns := hT1.N_step (r := r) k
  have ms := hT1.M_step (r := r) k
  have nb := hT1.N_max h0 k
  have mb := hT1.M_bd h0 k
  have db := hT1.D_bd h0 k
  subst kc
  have HX := Lib.hid HH3
  have i1 : IntKind.i64.wrap (d + T.N r (k + 1)) = nn := by rw [hnn1, hd1, ← ns]; exact IntWalk.i64_in _ (by omega)
  have i2 : IntKind.i64.wrap (cc + T.M r (k + 1)) = mm := by rw [hmm1, hcc1, ← ms]; exact IntWalk.i64_in _ (by omega)
  have i3 : IntKind.i64.wrap (T.first + k + 1) = T.first + k + 1 := IntWalk.i64_in _ (by omega)
  have h151 : (T.first + (k : Int) == 150) = false := by simpa using h150
  clear HH3 ns ms nb mb db hd1 hnn1 hcc1 hmm1
  generalize T.N r 0 = N00 at *
  generalize T.M r 0 = M00 at *
  generalize T.N r (k + 1) = n1 at *
  generalize T.M r (k + 1) = mm1 at *
  generalize T.D r (k + 1) = dd1 at *
  generalize T.C r (k + 1) = cc1 at *
  go_wp2_with (first | (go_at_call 76; (with_reducible refine (HX.out _ _ (hv.up (by repeat' (first | (with_reducible exact Up.refl _) | (with_reducible assumption) | (with_reducible refine Up.alloc ?_ _) | (with_reducible refine Up.drew ?_) | (with_reducible refine Up.grow ?_ _) | (with_reducible refine Up.setCell ?_ (by (try simp); (try omega)) _))))).mono ?_); rintro e wz ⟨rfl, hu0⟩; have hu := Up.trans (show Up _ x.to from x.below) hu0; (have hT := hT.up hu); (have hup := hup.trans hu); (have hv := hv.up hu); (try (have hT2 := hT2.up hu; have r0 := hT2.cell 0; have r1 := hT2.cell 1; have ri := hT2.inw)); (try have hv2 := hv2.up hu); (try have hi1 := hi1.up hu); (try have hi2 := hi2.up hu); (try have hq9 := hq9.trans hu); (have q0 := hT.cell 0); (have q1 := hT.cell 1); (have qi := hT.inw); (try (have hT3 := hT3.up hu; have d0 := hT3.cell 0; have d1 := hT3.cell 1; have d2 := hT3.cell 2; have d3 := hT3.cell 3; have di := hT3.inw)); (try (have hT4 := hT4.up hu; have f0 := hT4.cell 0; have f1 := hT4.cell 1; have f2 := hT4.cell 2; have f3 := hT4.cell 3; have fi := hT4.inw)); (try have iD1 := iD1.up hu); (try have iD2 := iD2.up hu); (try have iN1 := iN1.up hu); (try have iN2 := iN2.up hu); (try have iC1 := iC1.up hu); (try have iC2 := iC2.up hu); (try have iM1 := iM1.up hu); (try have iM2 := iM2.up hu); (try have hoN2 := hoN2.up hu); (try have hoM2 := hoM2.up hu)) | (go_at_call 52; (with_reducible refine (HS1.out AD1 cD1 _ (iD1.up (by repeat' (first | (with_reducible exact Up.refl _) | (with_reducible assumption) | (with_reducible refine Up.alloc ?_ _) | (with_reducible refine Up.drew ?_) | (with_reducible refine Up.grow ?_ _) | (with_reducible refine Up.setCell ?_ (by (try simp); (try omega)) _))))).mono ?_); rintro e w' ⟨rfl, rfl⟩) | (go_at_call 52; (with_reducible refine (HS2.out AC1 cC1 _ (iC1.up (by repeat' (first | (with_reducible exact Up.refl _) | (with_reducible assumption) | (with_reducible refine Up.alloc ?_ _) | (with_reducible refine Up.drew ?_) | (with_reducible refine Up.grow ?_ _) | (with_reducible refine Up.setCell ?_ (by (try simp); (try omega)) _))))).mono ?_); rintro e w' ⟨rfl, rfl⟩) | (go_at_call 142; (with_reducible refine (s_In _ _ _ _).mono ?_); rintro e w' ⟨rfl, rfl⟩) | (go_at_call 186; (with_reducible refine (i_In _ _ _ _).mono ?_); rintro e w' ⟨rfl, rfl⟩) | (go_at_call 222; (with_reducible refine (s_Rate _ _).mono ?_); rintro e w' ⟨rfl, rfl⟩) | (go_at_call 165; (with_reducible refine (i_Rate _ _).mono ?_); rintro e w' ⟨rfl, rfl⟩) | (go_at_call 262; (with_reducible refine (i_Years _ _).mono ?_); rintro e w' ⟨rfl, rfl⟩) | (go_at_call 227; (with_reducible refine (s_Amount6 _ _).mono ?_); rintro e w' ⟨rfl, rfl⟩) | (go_at_call 236; (with_reducible refine (s_Sum7 _ _).mono ?_); rintro e w' ⟨rfl, rfl⟩) | ((first | with_reducible refine wp_region_in x (by kernel_rfl) (by kernel_rfl) ?_ | with_reducible refine wp_region_here (by kernel_rfl) (by kernel_rfl) ?_); (repeat (go_big_quiet_step ((first | (go_at_call 52; with_reducible exact Ret.same _ (HS1.out AD1 cD1 _ (iD1.up (by repeat' (first | (with_reducible exact Up.refl _) | (with_reducible assumption) | (with_reducible refine Up.alloc ?_ _) | (with_reducible refine Up.drew ?_) | (with_reducible refine Up.grow ?_ _) | (with_reducible refine Up.setCell ?_ (by (try simp); (try omega)) _)))))) | (go_at_call 52; with_reducible exact Ret.same _ (HS2.out AC1 cC1 _ (iC1.up (by repeat' (first | (with_reducible exact Up.refl _) | (with_reducible assumption) | (with_reducible refine Up.alloc ?_ _) | (with_reducible refine Up.drew ?_) | (with_reducible refine Up.grow ?_ _) | (with_reducible refine Up.setCell ?_ (by (try simp); (try omega)) _)))))) | (go_at_call 142; with_reducible exact Ret.same _ (s_In _ _ _ _)) | (go_at_call 186; with_reducible exact Ret.same _ (i_In _ _ _ _)) | (go_at_call 222; with_reducible exact Ret.same _ (s_Rate _ _)) | (go_at_call 165; with_reducible exact Ret.same _ (i_Rate _ _)) | (go_at_call 262; with_reducible exact Ret.same _ (i_Years _ _)) | (go_at_call 227; with_reducible exact Ret.same _ (s_Amount6 _ _)) | (go_at_call 236; with_reducible exact Ret.same _ (s_Sum7 _ _)))))); refine wpQuiet_nil ?_; intro w' hw'; obtain ⟨x, rfl⟩ := hw'))
  go_ret
  exact ⟨rfl, hup.trans (by repeat' (first | (with_reducible exact Up.refl _) | (with_reducible assumption) | (with_reducible refine Up.alloc ?_ _) | (with_reducible refine Up.drew ?_) | (with_reducible refine Up.grow ?_ _) | (with_reducible refine Up.setCell ?_ (by (try simp); (try omega)) _)))⟩
end Go.Proofs.Ytdeoampkbbbleaa
