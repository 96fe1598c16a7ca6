/- Contracts of ColumnsAt, both sides. Condition: the slice reads as the table's numbers. -/
import Derived.Test.YtdeoampkbbbleaaChk
import Derived.Test.YtdeoampkbbbleaaCodes
import Derived.Test.YtdeoampkbbbleaaCols
namespace Go.Proofs.Ytdeoampkbbbleaa
open Go.RowKit Pu
set_option linter.unusedVariables false
set_option linter.unusedSimpArgs false

/-- What is returned: the columns at an age, or zeros, and a code. -/
def RetCA (w : World) (K d n c m : Int) : Ending → World → Prop := Ret w (.tuple #[.agg #[.int .i64 (if K = 0 then d else 0), .int .i64 (if K = 0 then n else 0), .int .i64 (if K = 0 then c else 0), .int .i64 (if K = 0 then m else 0)], .int .i64 K])
theorem RetCA_bad {w : World} {K d n c m : Int} (h : ¬ K = 0) : RetCA w K d n c m = Ret w (.tuple #[.agg #[.int .i64 0, .int .i64 0, .int .i64 0, .int .i64 0], .int .i64 K]) := by unfold RetCA; rw [if_neg h, if_neg h, if_neg h, if_neg h]
theorem RetCA_ok {w : World} {d n c m : Int} : RetCA w 0 d n c m = Ret w (.tuple #[.agg #[.int .i64 d, .int .i64 n, .int .i64 c, .int .i64 m], .int .i64 0]) := rfl
theorem up_set4 {W w : World} (h : Up W w) {b : Nat} (hb : W.heap.size ≤ b) (u0 u1 u2 u3 : Value) : Up W ((((w.setCell ⟨b, 0, none⟩ u0).setCell ⟨b, 1, none⟩ u1).setCell ⟨b, 2, none⟩ u2).setCell ⟨b, 3, none⟩ u3) :=
  (((h.setCell (p := ⟨b, 0, none⟩) hb _).setCell (p := ⟨b, 1, none⟩) hb _).setCell (p := ⟨b, 2, none⟩) hb _).setCell (p := ⟨b, 3, none⟩) hb _
set_option maxRecDepth 100000 in
set_option maxHeartbeats 4000000 in
theorem s_ColAt (T : Tab) (r age : Int) (v : Value) (w : World) (hv : TabAt w T v) :
    Calls Try.prog 77 #[v, .int .i64 r, .int .i64 age] w (RetCA w (code5 T r age) (T.D r (age - T.first).toNat) (T.N r (age - T.first).toNat) (T.C r (age - T.first).toNat) (T.M r (age - T.first).toNat)) := by
  have hv' := hv
  obtain ⟨A, c, rfl, hc, hm, _, hI⟩ := hv
  have HC := s_Code5 T r age
  by_cases hz : code5 T r age = 0
  case neg =>
    rw [RetCA_bad hz]
    replace HC := Lib.hid HC
    (have hz1 : ((code5 T r age) != 0) = true := (by simpa using hz)); (have hz2 : ((code5 T r age) == 0) = false := (by simpa using hz))
    clear hz
    generalize code5 T r age = K at *
    go_enter Try.func77, Try.ntmps77
    go_upto_region 1 with (fail)
    have h1 : Blk ((w.alloc (.cells #[.int .i64 T.first, .slice A T.n c] 31)).alloc (.cells #[.int .i64 0, .int .i64 0, .int .i64 0, .int .i64 0] 80)) w.heap.size 31 #[.int .i64 T.first, .slice A T.n c] := (Blk.new _ _ _).alloc _
    have h2 : Blk ((w.alloc (.cells #[.int .i64 T.first, .slice A T.n c] 31)).alloc (.cells #[.int .i64 0, .int .i64 0, .int .i64 0, .int .i64 0] 80)) (w.heap.size + 1) 80 #[.int .i64 0, .int .i64 0, .int .i64 0, .int .i64 0] := by
      have h := Blk.new (w.alloc (.cells #[.int .i64 T.first, .slice A T.n c] 31)) 80 #[.int .i64 0, .int .i64 0, .int .i64 0, .int .i64 0]
      simpa only [World.size_alloc] using h
    have hup : Up w ((w.alloc (.cells #[.int .i64 T.first, .slice A T.n c] 31)).alloc (.cells #[.int .i64 0, .int .i64 0, .int .i64 0, .int .i64 0] 80)) := (by repeat' (first | (with_reducible exact Up.refl _) | (with_reducible assumption) | (with_reducible refine Up.alloc ?_ _) | (with_reducible refine Up.drew ?_) | (with_reducible refine Up.grow ?_ _) | (with_reducible refine Up.setCell ?_ (by (try simp); (try omega)) _)))
    have hB2 : w.heap.size ≤ w.heap.size + 1 := by omega
    have m1 : ¬ w.heap.size = w.heap.size + 1 := by omega
    have m2 : ¬ w.heap.size + 1 = w.heap.size := by omega
    generalize (w.alloc (.cells #[.int .i64 T.first, .slice A T.n c] 31)).alloc (.cells #[.int .i64 0, .int .i64 0, .int .i64 0, .int .i64 0] 80) = w1 at *
    generalize w.heap.size + 1 = B2 at *
    have hv := hv'.up hup
    (have q0 := h1.cell 0); (have q1 := h1.cell 1); (have qi := h1.inw); (have p0 := h2.cell 0); (have p1 := h2.cell 1); (have p2 := h2.cell 2); (have p3 := h2.cell 3); (have pf := h2.frozen); (have pi_ := h2.inw)
    go_wp2_with (go_at_call 198; (with_reducible refine (HC.out _ _ hv).mono ?_); rintro e w2 ⟨rfl, hx⟩; (have h1 := h1.up hx); (have h2 := h2.up hx); (have hup := hup.trans hx); (have hv := hv.up hx); (have q0 := h1.cell 0); (have q1 := h1.cell 1); (have qi := h1.inw); (have p0 := h2.cell 0); (have p1 := h2.cell 1); (have p2 := h2.cell 2); (have p3 := h2.cell 3); (have pf := h2.frozen); (have pi_ := h2.inw))
    refine bodyPost_ret (v := .tuple #[.agg #[.int .i64 0, .int .i64 0, .int .i64 0, .int .i64 0], .int .i64 K]) (by simp [results, Try.results77, go_sem, p0, p1, p2, p3, pf, pi_]) rfl ?_
    exact ⟨rfl, up_set4 hup hB2 _ _ _ _⟩
  obtain ⟨hT, h0, h1, ha, hb⟩ := code5_zero.1 hz
  rw [hz, RetCA_ok]
  rw [hz] at HC
  replace HC := Lib.hid HC
  have HD := Lib.hid (s_D hT h0 h1 age ha (by omega))
  have HN := Lib.hid (s_N hT h0 h1 age ha)
  have HX := Lib.hid (s_C hT h0 h1 age ha (by omega))
  have HM := Lib.hid (s_M hT h0 h1 age ha)
  generalize T.D r (age - T.first).toNat = d at *
  generalize T.N r (age - T.first).toNat = nn at *
  generalize T.C r (age - T.first).toNat = cc at *
  generalize T.M r (age - T.first).toNat = mm at *
  clear hz h0 h1 ha hb
  go_enter Try.func77, Try.ntmps77
  go_upto_region 1 with (fail)
  have h1 : Blk ((w.alloc (.cells #[.int .i64 T.first, .slice A T.n c] 31)).alloc (.cells #[.int .i64 0, .int .i64 0, .int .i64 0, .int .i64 0] 80)) w.heap.size 31 #[.int .i64 T.first, .slice A T.n c] := (Blk.new _ _ _).alloc _
  have h2 : Blk ((w.alloc (.cells #[.int .i64 T.first, .slice A T.n c] 31)).alloc (.cells #[.int .i64 0, .int .i64 0, .int .i64 0, .int .i64 0] 80)) (w.heap.size + 1) 80 #[.int .i64 0, .int .i64 0, .int .i64 0, .int .i64 0] := by
    have h := Blk.new (w.alloc (.cells #[.int .i64 T.first, .slice A T.n c] 31)) 80 #[.int .i64 0, .int .i64 0, .int .i64 0, .int .i64 0]
    simpa only [World.size_alloc] using h
  have hup : Up w ((w.alloc (.cells #[.int .i64 T.first, .slice A T.n c] 31)).alloc (.cells #[.int .i64 0, .int .i64 0, .int .i64 0, .int .i64 0] 80)) := (by repeat' (first | (with_reducible exact Up.refl _) | (with_reducible assumption) | (with_reducible refine Up.alloc ?_ _) | (with_reducible refine Up.drew ?_) | (with_reducible refine Up.grow ?_ _) | (with_reducible refine Up.setCell ?_ (by (try simp); (try omega)) _)))
  have hB2 : w.heap.size ≤ w.heap.size + 1 := by omega
  have m1 : ¬ w.heap.size = w.heap.size + 1 := by omega
  have m2 : ¬ w.heap.size + 1 = w.heap.size := by omega
  generalize (w.alloc (.cells #[.int .i64 T.first, .slice A T.n c] 31)).alloc (.cells #[.int .i64 0, .int .i64 0, .int .i64 0, .int .i64 0] 80) = w1 at *
  generalize w.heap.size + 1 = B2 at *
  have hv := hv'.up hup
  (have q0 := h1.cell 0); (have q1 := h1.cell 1); (have qi := h1.inw); (have p0 := h2.cell 0); (have p1 := h2.cell 1); (have p2 := h2.cell 2); (have p3 := h2.cell 3); (have pf := h2.frozen); (have pi_ := h2.inw)
  go_upto_region 4 with (go_at_call 198; (with_reducible refine (HC.out _ _ hv).mono ?_); rintro e w2 ⟨rfl, hx⟩; (have h1 := h1.up hx); (have h2 := h2.up hx); (have hup := hup.trans hx); (have hv := hv.up hx); (have q0 := h1.cell 0); (have q1 := h1.cell 1); (have qi := h1.inw); (have p0 := h2.cell 0); (have p1 := h2.cell 1); (have p2 := h2.cell 2); (have p3 := h2.cell 3); (have pf := h2.frozen); (have pi_ := h2.inw))
  go_region_held3 (fun w' => w'.cell? ⟨w.heap.size, 0, none⟩ = some (.int .i64 T.first) ∧ w'.cell? ⟨w.heap.size, 1, none⟩ = some (.slice A T.n c)) ((repeat' apply And.intro) <;> go_simp)
    (first
      | (go_at_call 152; (with_reducible refine (HD.out _ _ (hv.up (by repeat' (first | (with_reducible exact Up.refl _) | (with_reducible assumption) | (with_reducible refine Up.alloc ?_ _) | (with_reducible refine Up.drew ?_) | (with_reducible refine Up.grow ?_ _) | (with_reducible refine Up.setCell ?_ (by (try simp); (try omega)) _))))).mono ?_); rintro e w3 ⟨rfl, hx0⟩; have hx := (show Up w2 w2.drew from (by repeat' (first | (with_reducible exact Up.refl _) | (with_reducible assumption) | (with_reducible refine Up.alloc ?_ _) | (with_reducible refine Up.drew ?_) | (with_reducible refine Up.grow ?_ _) | (with_reducible refine Up.setCell ?_ (by (try simp); (try omega)) _)))).trans hx0; (have h1 := h1.up hx); (have h2 := h2.up hx); (have hup := hup.trans hx); (have hv := hv.up hx); (have q0 := h1.cell 0); (have q1 := h1.cell 1); (have qi := h1.inw); (have p0 := h2.cell 0); (have p1 := h2.cell 1); (have p2 := h2.cell 2); (have p3 := h2.cell 3); (have pf := h2.frozen); (have pi_ := h2.inw))
      | (go_at_call 199; (with_reducible refine (HN.out _ _ hv).mono ?_); rintro e w4 ⟨rfl, hx⟩; (have h1 := h1.up hx); (have h2 := h2.up hx); (have hup := hup.trans hx); (have hv := hv.up hx); (have q0 := h1.cell 0); (have q1 := h1.cell 1); (have qi := h1.inw); (have p0 := h2.cell 0); (have p1 := h2.cell 1); (have p2 := h2.cell 2); (have p3 := h2.cell 3); (have pf := h2.frozen); (have pi_ := h2.inw))
      | (go_at_call 200; (with_reducible refine (HX.out _ _ hv).mono ?_); rintro e w5 ⟨rfl, hx⟩; (have h1 := h1.up hx); (have h2 := h2.up hx); (have hup := hup.trans hx); (have hv := hv.up hx); (have q0 := h1.cell 0); (have q1 := h1.cell 1); (have qi := h1.inw); (have p0 := h2.cell 0); (have p1 := h2.cell 1); (have p2 := h2.cell 2); (have p3 := h2.cell 3); (have pf := h2.frozen); (have pi_ := h2.inw))
      | (go_at_call 201; (with_reducible refine (HM.out _ _ hv).mono ?_); rintro e w6 ⟨rfl, hx⟩; (have h1 := h1.up hx); (have h2 := h2.up hx); (have hup := hup.trans hx); (have hv := hv.up hx); (have q0 := h1.cell 0); (have q1 := h1.cell 1); (have qi := h1.inw); (have p0 := h2.cell 0); (have p1 := h2.cell 1); (have p2 := h2.cell 2); (have p3 := h2.cell 3); (have pf := h2.frozen); (have pi_ := h2.inw)))
  all_goals
    go_wp2
    refine bodyPost_ret (v := .tuple #[.agg #[.int .i64 d, .int .i64 nn, .int .i64 cc, .int .i64 mm], .int .i64 0]) (by simp [results, Try.results77, go_sem, p0, p1, p2, p3, pf, pi_]) rfl ?_
    exact ⟨rfl, up_set4 hup hB2 _ _ _ _⟩
abbrev ldC : Op := Op.load 80 (Operand.tmp 29)
theorem ldC_eq : Op.load 80 (Operand.tmp 29) = ldC := rfl
set_option maxRecDepth 100000 in
set_option maxHeartbeats 4000000 in
theorem i_ColAt (T : Tab) (r age : Int) (v : Value) (w : World) (hv : TabAt w T v) :
    Calls Try.prog 76 #[v, .int .i64 r, .int .i64 age] w (RetCA w (code5 T r age) (T.D r (age - T.first).toNat) (T.N r (age - T.first).toNat) (T.C r (age - T.first).toNat) (T.M r (age - T.first).toNat)) := by
  have hv' := hv
  obtain ⟨A, c, rfl, hc, hm, _, hI⟩ := hv
  have HC := i_Code5 T r
  by_cases hk : code5 T r T.first = 0
  case neg =>
    have e : code5 T r age = code5 T r T.first := by
      by_cases hT : T.Ok
      · have hr : ¬ (0 ≤ r ∧ r ≤ 200) := fun h => hk (code5_ok hT ⟨h.1, h.2, by omega, by have := hT.hi; omega⟩)
        rw [code5_range hT (fun h => hr ⟨h.1, h.2.1⟩), code5_range hT (fun h => hr ⟨h.1, h.2.1⟩)]
      · rw [code5_bad hT, code5_bad hT]
    rw [RetCA_bad (by rw [e]; exact hk), e]
    replace HC := Lib.hid HC
    (have hz1 : ((code5 T r T.first) != 0) = true := (by simpa using hk)); (have hz2 : ((code5 T r T.first) == 0) = false := (by simpa using hk))
    clear hk e
    generalize code5 T r T.first = K at *
    go_enter Try.func76, Try.ntmps76
    go_upto_region 1 with (fail)
    have h1 : Blk ((w.alloc (.cells #[.int .i64 T.first, .slice A T.n c] 31)).alloc (.cells #[.int .i64 0, .int .i64 0, .int .i64 0, .int .i64 0] 80)) w.heap.size 31 #[.int .i64 T.first, .slice A T.n c] := (Blk.new _ _ _).alloc _
    have h2 : Blk ((w.alloc (.cells #[.int .i64 T.first, .slice A T.n c] 31)).alloc (.cells #[.int .i64 0, .int .i64 0, .int .i64 0, .int .i64 0] 80)) (w.heap.size + 1) 80 #[.int .i64 0, .int .i64 0, .int .i64 0, .int .i64 0] := by
      have h := Blk.new (w.alloc (.cells #[.int .i64 T.first, .slice A T.n c] 31)) 80 #[.int .i64 0, .int .i64 0, .int .i64 0, .int .i64 0]
      simpa only [World.size_alloc] using h
    have hup : Up w ((w.alloc (.cells #[.int .i64 T.first, .slice A T.n c] 31)).alloc (.cells #[.int .i64 0, .int .i64 0, .int .i64 0, .int .i64 0] 80)) := (by repeat' (first | (with_reducible exact Up.refl _) | (with_reducible assumption) | (with_reducible refine Up.alloc ?_ _) | (with_reducible refine Up.drew ?_) | (with_reducible refine Up.grow ?_ _) | (with_reducible refine Up.setCell ?_ (by (try simp); (try omega)) _)))
    have hB2 : w.heap.size ≤ w.heap.size + 1 := by omega
    have m1 : ¬ w.heap.size = w.heap.size + 1 := by omega
    have m2 : ¬ w.heap.size + 1 = w.heap.size := by omega
    generalize (w.alloc (.cells #[.int .i64 T.first, .slice A T.n c] 31)).alloc (.cells #[.int .i64 0, .int .i64 0, .int .i64 0, .int .i64 0] 80) = w1 at *
    generalize w.heap.size + 1 = B2 at *
    have hv := hv'.up hup
    (have q0 := h1.cell 0); (have q1 := h1.cell 1); (have qi := h1.inw); (have p0 := h2.cell 0); (have p1 := h2.cell 1); (have p2 := h2.cell 2); (have p3 := h2.cell 3); (have pf := h2.frozen); (have pi_ := h2.inw)
    go_wp2_with (go_at_call 196; (with_reducible refine (HC.out _ _ hv).mono ?_); rintro e w2 ⟨rfl, hx⟩; (have h1 := h1.up hx); (have h2 := h2.up hx); (have hup := hup.trans hx); (have hv := hv.up hx); (have q0 := h1.cell 0); (have q1 := h1.cell 1); (have qi := h1.inw); (have p0 := h2.cell 0); (have p1 := h2.cell 1); (have p2 := h2.cell 2); (have p3 := h2.cell 3); (have pf := h2.frozen); (have pi_ := h2.inw))
    refine bodyPost_ret (v := .tuple #[.agg #[.int .i64 0, .int .i64 0, .int .i64 0, .int .i64 0], .int .i64 K]) (by simp [results, Try.results76, go_sem, p0, p1, p2, p3, pf, pi_]) rfl ?_
    exact ⟨rfl, up_set4 hup hB2 _ _ _ _⟩
  rw [hk] at HC
  replace HC := Lib.hid HC
  obtain ⟨hT, h0, h1, _, _⟩ := code5_zero.1 hk
  by_cases ha : inR age T.first 150 = true
  case neg =>
    have e : code5 T r age = 2 := code5_range hT (fun h => ha (inR_true.2 ⟨h.2.2.1, h.2.2.2⟩))
    rw [RetCA_bad (by rw [e]; decide), e]
    have ha := Bool.eq_false_iff.2 ha
    clear hk e
    go_enter Try.func76, Try.ntmps76
    go_upto_region 1 with (fail)
    have h1 : Blk ((w.alloc (.cells #[.int .i64 T.first, .slice A T.n c] 31)).alloc (.cells #[.int .i64 0, .int .i64 0, .int .i64 0, .int .i64 0] 80)) w.heap.size 31 #[.int .i64 T.first, .slice A T.n c] := (Blk.new _ _ _).alloc _
    have h2 : Blk ((w.alloc (.cells #[.int .i64 T.first, .slice A T.n c] 31)).alloc (.cells #[.int .i64 0, .int .i64 0, .int .i64 0, .int .i64 0] 80)) (w.heap.size + 1) 80 #[.int .i64 0, .int .i64 0, .int .i64 0, .int .i64 0] := by
      have h := Blk.new (w.alloc (.cells #[.int .i64 T.first, .slice A T.n c] 31)) 80 #[.int .i64 0, .int .i64 0, .int .i64 0, .int .i64 0]
      simpa only [World.size_alloc] using h
    have hup : Up w ((w.alloc (.cells #[.int .i64 T.first, .slice A T.n c] 31)).alloc (.cells #[.int .i64 0, .int .i64 0, .int .i64 0, .int .i64 0] 80)) := (by repeat' (first | (with_reducible exact Up.refl _) | (with_reducible assumption) | (with_reducible refine Up.alloc ?_ _) | (with_reducible refine Up.drew ?_) | (with_reducible refine Up.grow ?_ _) | (with_reducible refine Up.setCell ?_ (by (try simp); (try omega)) _)))
    have hB2 : w.heap.size ≤ w.heap.size + 1 := by omega
    have m1 : ¬ w.heap.size = w.heap.size + 1 := by omega
    have m2 : ¬ w.heap.size + 1 = w.heap.size := by omega
    generalize (w.alloc (.cells #[.int .i64 T.first, .slice A T.n c] 31)).alloc (.cells #[.int .i64 0, .int .i64 0, .int .i64 0, .int .i64 0] 80) = w1 at *
    generalize w.heap.size + 1 = B2 at *
    have hv := hv'.up hup
    (have q0 := h1.cell 0); (have q1 := h1.cell 1); (have qi := h1.inw); (have p0 := h2.cell 0); (have p1 := h2.cell 1); (have p2 := h2.cell 2); (have p3 := h2.cell 3); (have pf := h2.frozen); (have pi_ := h2.inw)
    go_wp2_with (first | (go_at_call 142; refine (s_In _ _ _ _).mono ?_; rintro e w' ⟨rfl, rfl⟩) | (go_at_call 186; refine (i_In _ _ _ _).mono ?_; rintro e w' ⟨rfl, rfl⟩) | (go_at_call 222; refine (s_Rate _ _).mono ?_; rintro e w' ⟨rfl, rfl⟩) | (go_at_call 165; refine (i_Rate _ _).mono ?_; rintro e w' ⟨rfl, rfl⟩) | (go_at_call 262; refine (i_Years _ _).mono ?_; rintro e w' ⟨rfl, rfl⟩) | (go_at_call 227; refine (s_Amount6 _ _).mono ?_; rintro e w' ⟨rfl, rfl⟩) | (go_at_call 236; refine (s_Sum7 _ _).mono ?_; rintro e w' ⟨rfl, rfl⟩) | (go_at_call 196; (with_reducible refine (HC.out _ _ hv).mono ?_); rintro e w2 ⟨rfl, hx⟩; (have h1 := h1.up hx); (have h2 := h2.up hx); (have hup := hup.trans hx); (have hv := hv.up hx); (have q0 := h1.cell 0); (have q1 := h1.cell 1); (have qi := h1.inw); (have p0 := h2.cell 0); (have p1 := h2.cell 1); (have p2 := h2.cell 2); (have p3 := h2.cell 3); (have pf := h2.frozen); (have pi_ := h2.inw)))
    refine bodyPost_ret (v := .tuple #[.agg #[.int .i64 0, .int .i64 0, .int .i64 0, .int .i64 0], .int .i64 2]) (by simp [results, Try.results76, go_sem, p0, p1, p2, p3, pf, pi_]) rfl ?_
    exact ⟨rfl, up_set4 hup hB2 _ _ _ _⟩
  have hb := inR_true.1 ha
  rw [code5_ok hT ⟨h0, h1, hb.1, hb.2⟩, RetCA_ok]
  obtain ⟨k, rfl⟩ : ∃ k : Nat, age = T.first + k := ⟨(age - T.first).toNat, by omega⟩
  rw [show (T.first + (k : Int) - T.first).toNat = k from by omega]
  have hcols := Lib.hid (i_Cols hT h0 h1)
  obtain ⟨L, hL⟩ : ∃ L : Nat, (151 - T.first).toNat = L := ⟨_, rfl⟩
  have hkL : k < L := by omega
  have hkL1 : (k : Int) < L := by omega
  have hk0 : (0 : Int) ≤ k := by omega
  have q9 := hT.lo; have q8 := hT.hi
  have j1 : IntKind.i64.wrap (T.first + k - T.first) = k := by rw [IntWalk.i64_in _ (by omega)]; omega
  have HL := Lib.hid hL
  have hTH := Lib.hid hT
  clear hk hL hb h0 h1
  go_enter Try.func76, Try.ntmps76
  go_upto_region 1 with (fail)
  have h1 : Blk ((w.alloc (.cells #[.int .i64 T.first, .slice A T.n c] 31)).alloc (.cells #[.int .i64 0, .int .i64 0, .int .i64 0, .int .i64 0] 80)) w.heap.size 31 #[.int .i64 T.first, .slice A T.n c] := (Blk.new _ _ _).alloc _
  have h2 : Blk ((w.alloc (.cells #[.int .i64 T.first, .slice A T.n c] 31)).alloc (.cells #[.int .i64 0, .int .i64 0, .int .i64 0, .int .i64 0] 80)) (w.heap.size + 1) 80 #[.int .i64 0, .int .i64 0, .int .i64 0, .int .i64 0] := by
    have h := Blk.new (w.alloc (.cells #[.int .i64 T.first, .slice A T.n c] 31)) 80 #[.int .i64 0, .int .i64 0, .int .i64 0, .int .i64 0]
    simpa only [World.size_alloc] using h
  have hup : Up w ((w.alloc (.cells #[.int .i64 T.first, .slice A T.n c] 31)).alloc (.cells #[.int .i64 0, .int .i64 0, .int .i64 0, .int .i64 0] 80)) := (by repeat' (first | (with_reducible exact Up.refl _) | (with_reducible assumption) | (with_reducible refine Up.alloc ?_ _) | (with_reducible refine Up.drew ?_) | (with_reducible refine Up.grow ?_ _) | (with_reducible refine Up.setCell ?_ (by (try simp); (try omega)) _)))
  have hB2 : w.heap.size ≤ w.heap.size + 1 := by omega
  have m1 : ¬ w.heap.size = w.heap.size + 1 := by omega
  have m2 : ¬ w.heap.size + 1 = w.heap.size := by omega
  generalize (w.alloc (.cells #[.int .i64 T.first, .slice A T.n c] 31)).alloc (.cells #[.int .i64 0, .int .i64 0, .int .i64 0, .int .i64 0] 80) = w1 at *
  generalize w.heap.size + 1 = B2 at *
  have hv := hv'.up hup
  (have q0 := h1.cell 0); (have q1 := h1.cell 1); (have qi := h1.inw); (have p0 := h2.cell 0); (have p1 := h2.cell 1); (have p2 := h2.cell 2); (have p3 := h2.cell 3); (have pf := h2.frozen); (have pi_ := h2.inw)
  go_upto_region 6 with (first | (go_at_call 142; refine (s_In _ _ _ _).mono ?_; rintro e w' ⟨rfl, rfl⟩) | (go_at_call 186; refine (i_In _ _ _ _).mono ?_; rintro e w' ⟨rfl, rfl⟩) | (go_at_call 222; refine (s_Rate _ _).mono ?_; rintro e w' ⟨rfl, rfl⟩) | (go_at_call 165; refine (i_Rate _ _).mono ?_; rintro e w' ⟨rfl, rfl⟩) | (go_at_call 262; refine (i_Years _ _).mono ?_; rintro e w' ⟨rfl, rfl⟩) | (go_at_call 227; refine (s_Amount6 _ _).mono ?_; rintro e w' ⟨rfl, rfl⟩) | (go_at_call 236; refine (s_Sum7 _ _).mono ?_; rintro e w' ⟨rfl, rfl⟩) | (go_at_call 196; (with_reducible refine (HC.out _ _ hv).mono ?_); rintro e w2 ⟨rfl, hx⟩; (have h1 := h1.up hx); (have h2 := h2.up hx); (have hup := hup.trans hx); (have hv := hv.up hx); (have q0 := h1.cell 0); (have q1 := h1.cell 1); (have qi := h1.inw); (have p0 := h2.cell 0); (have p1 := h2.cell 1); (have p2 := h2.cell 2); (have p3 := h2.cell 3); (have pf := h2.frozen); (have pi_ := h2.inw)))
  rw [ldC_eq]
  go_region_held3 (fun w' => w'.cell? ⟨w.heap.size, 0, none⟩ = some (.int .i64 T.first) ∧ w'.cell? ⟨w.heap.size, 1, none⟩ = some (.slice A T.n c)) ((repeat' apply And.intro) <;> go_simp)
    (first
      | (go_at_call 197; (with_reducible refine (hcols.out _ _ (hv.up (by repeat' (first | (with_reducible exact Up.refl _) | (with_reducible assumption) | (with_reducible refine Up.alloc ?_ _) | (with_reducible refine Up.drew ?_) | (with_reducible refine Up.grow ?_ _) | (with_reducible refine Up.setCell ?_ (by (try simp); (try omega)) _))))).mono ?_); rintro e w5 ⟨v5, rfl, hx0, g, cs, rfl, hg, hcs⟩; have hx := (show Up w2 w2.drew from (by repeat' (first | (with_reducible exact Up.refl _) | (with_reducible assumption) | (with_reducible refine Up.alloc ?_ _) | (with_reducible refine Up.drew ?_) | (with_reducible refine Up.grow ?_ _) | (with_reducible refine Up.setCell ?_ (by (try simp); (try omega)) _)))).trans hx0; (have h1 := h1.up hx); (have h2 := h2.up hx); (have hup := hup.trans hx); (have hv := hv.up hx); (have q0 := h1.cell 0); (have q1 := h1.cell 1); (have qi := h1.inw); (have p0 := h2.cell 0); (have p1 := h2.cell 1); (have p2 := h2.cell 2); (have p3 := h2.cell 3); (have pf := h2.frozen); (have pi_ := h2.inw); obtain ⟨a0, a1, a2, a3⟩ := row_at hg (hcs k (by rw [HL.out]; exact hkL)); have ig := hg.inw; clear hcs hg; rw [HL.out]))
  all_goals
    go_wp2
    refine bodyPost_ret (v := .tuple #[.agg #[.int .i64 (T.D r k), .int .i64 (T.N r k), .int .i64 (T.C r k), .int .i64 (T.M r k)], .int .i64 0]) (by simp [results, Try.results76, go_sem, p0, p1, p2, p3, pf, pi_]) rfl ?_
    exact ⟨rfl, up_set4 hup hB2 _ _ _ _⟩
end Go.Proofs.Ytdeoampkbbbleaa
