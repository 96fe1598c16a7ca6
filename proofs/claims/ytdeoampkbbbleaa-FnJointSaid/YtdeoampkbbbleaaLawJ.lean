/- The law of two lives: the walk. Condition: the code reads as bytes. -/
import Derived.Test.YtdeoampkbbbleaaDrawU
import Derived.Test.YtdeoampkbbbleaaJTab
import Derived.Test.YtdeoampkbbbleaaPureL
namespace Go.Proofs.Ytdeoampkbbbleaa
open Go.RowKit Pu
set_option linter.unusedVariables false
set_option linter.unusedSimpArgs false

theorem jt_law {T U : Tab} {x y : Int} (h : code8 T x U y true = 0) : (jtT T x U y).Ok ∧ (jtT T x U y).first = x ∧ T.Ok ∧ ∃ i : Nat, x = T.first + i ∧ 0 ≤ x ∧ ∀ j : Nat, j < (jtT T x U y).n → T.first + i + j ≤ 150 ∧ (jtT T x U y).f j ≤ T.lv (i + j) := by
  have e : jtT T x U y = T.joint U x (ix T x) (ix U y) := by unfold jtT; rw [if_pos h]
  rw [e]
  obtain ⟨hT, hU, _, i, j, rfl, rfl, hx, hy, hi, hj⟩ := code8_ok h
  rw [ix_k, ix_k]
  have js := hT.joint_spec hU hi hj
  have q1 := hT.lo; have q3 := hT.fin
  refine ⟨hT.joint_ok hU hi hj rfl hx, rfl, hT, i, rfl, by omega, fun l hl => ⟨?_, (hT.both_bd hU hi hj l).2⟩⟩
  have hl' : l < fz (T.both U i j) T.n 0 + 1 := hl
  have h3 := js.2.2.1
  omega
theorem fA_le_fB {a b : Nat} (h : a ≤ b) : fA a b ≤ fB a b := Nat.div_le_div_right h
theorem ba_law {P Q : Tab} {x y n : Int} (h : code8 P x Q y (inR n 0 150) = 0) :
    ((fA (baX P Q (ix P x) (ix Q y) n.toNat) (abX P Q (ix P x) (ix Q y)) : Nat) : Int) ≤ (fB (baX P Q (ix P x) (ix Q y) n.toNat) (abX P Q (ix P x) (ix Q y)) : Nat) ∧
    ((fA (oaX P Q (ix P x) (ix Q y) n.toNat) (abX P Q (ix P x) (ix Q y)) : Nat) : Int) ≤ (fB (oaX P Q (ix P x) (ix Q y) n.toNat) (abX P Q (ix P x) (ix Q y)) : Nat) ∧
    ((fA (baX P Q (ix P x) (ix Q y) n.toNat) (abX P Q (ix P x) (ix Q y)) : Nat) : Int) * (fB (oaX P Q (ix P x) (ix Q y) n.toNat) (abX P Q (ix P x) (ix Q y)) : Nat) ≤ ((fA (oaX P Q (ix P x) (ix Q y) n.toNat) (abX P Q (ix P x) (ix Q y)) : Nat) : Int) * (fB (baX P Q (ix P x) (ix Q y) n.toNat) (abX P Q (ix P x) (ix Q y)) : Nat) := by
  obtain ⟨hT, hU, hb, i, j, rfl, rfl, hx, hy, hi, hj⟩ := code8_ok h
  rw [ix_k, ix_k]
  obtain ⟨e1, e2, e3, e4, e5, e6, e7⟩ := two_bd hT hU n.toNat hi hj
  generalize baX P Q i j n.toNat = X at *
  generalize oaX P Q i j n.toNat = Y at *
  generalize abX P Q i j = Z at *
  have a1 := fA_le_fB (a := X) (b := Z) (by omega)
  have a2 := fA_le_fB (a := Y) (b := Z) e5
  have a3 := both_le_one (P := X) (R := Y) (Q := Z) e6 e4
  exact ⟨by omega, by omega, by rw [← Int.natCast_mul, ← Int.natCast_mul]; omega⟩
theorem TabAt.ints {w : World} {T : Tab} {A : Option Addr} {c : Nat} (h : TabAt w T (.agg #[.int .i64 T.first, .slice A T.n c])) : Ints w A T.n T.f ∧ T.n ≤ c ∧ c ≤ 9223372036854775807 ∧ T.n ≤ 1048576 := by
  obtain ⟨A', c', e, h1, h2, h3, h4⟩ := h
  injection e with e
  have e1 := congrArg (fun a => a[1]?) e
  simp at e1
  obtain ⟨rfl, rfl⟩ := e1
  exact ⟨h4, h1, h2, h3⟩
set_option maxRecDepth 100000 in
set_option maxHeartbeats 8000000 in
theorem l_Joint (A : Option Addr) (n c : Nat) (w : World) (hI : InCode w A n c) : Calls Try.prog 10 #[.slice A n c] w (Ret w (.bool true)) := by
  by_cases hb : 4096 < n
  · have HB := Lib.hid (l_Big A n c true (by simp [hb]) (by have := hI.1; have := hI.2.1; omega))
    clear hI
    go_enter Try.func10, Try.ntmps10
    go_wp2_with (go_at_call 38; (with_reducible refine (HB.out _).mono ?_); rintro e w' ⟨rfl, rfl⟩)
    go_ret
    exact ⟨rfl, (by repeat' (first | (with_reducible exact Up.refl _) | (with_reducible assumption) | (with_reducible refine Up.alloc ?_ _) | (with_reducible refine Up.drew ?_) | (with_reducible refine Up.grow ?_ _) | (with_reducible refine Up.setCell ?_ (by (try simp); (try omega)) _)))⟩
  have HB := Lib.hid (l_Big A n c false (by simp [hb]) (by have := hI.1; have := hI.2.1; omega))
  have HI := Lib.hid hI
  have hn : n ≤ 4096 := by omega
  clear hI hb
  go_enter Try.func10, Try.ntmps10
  go_upto_region 4 with (first
    | (go_at_call 38; (with_reducible refine (HB.out _).mono ?_); rintro e w' ⟨rfl, rfl⟩)
    | (go_at_call 65; (with_reducible refine (s_DrawJointTable A n c hn _ HI.out).mono ?_); rintro e w2 ⟨T, A1, c1, U, A2, c2, x, y, rfl, hu2, hO, hO2⟩))
  have HI2 := HI
  have hn2 := hn
  have hu3 : Up w2 ((w2.alloc (.cells #[.int .i64 T.first, .slice A1 T.n c1] 31)).alloc (.cells #[.int .i64 U.first, .slice A2 U.n c2] 31)) := (by repeat' (first | (with_reducible exact Up.refl _) | (with_reducible assumption) | (with_reducible refine Up.alloc ?_ _) | (with_reducible refine Up.drew ?_) | (with_reducible refine Up.grow ?_ _) | (with_reducible refine Up.setCell ?_ (by (try simp); (try omega)) _)))
  have hup := hu2.trans hu3
  have hT : Blk ((w2.alloc (.cells #[.int .i64 T.first, .slice A1 T.n c1] 31)).alloc (.cells #[.int .i64 U.first, .slice A2 U.n c2] 31)) w2.heap.size 31 #[.int .i64 T.first, .slice A1 T.n c1] := (Blk.new _ _ _).alloc _
  have hT2 : Blk ((w2.alloc (.cells #[.int .i64 T.first, .slice A1 T.n c1] 31)).alloc (.cells #[.int .i64 U.first, .slice A2 U.n c2] 31)) (w2.heap.size + 1) 31 #[.int .i64 U.first, .slice A2 U.n c2] := by
    have h := Blk.new (w2.alloc (.cells #[.int .i64 T.first, .slice A1 T.n c1] 31)) 31 #[.int .i64 U.first, .slice A2 U.n c2]
    simpa only [World.size_alloc] using h
  have hv := hO.tab.up hu3
  have hv2 := hO2.tab.up hu3
  generalize (w2.alloc (.cells #[.int .i64 T.first, .slice A1 T.n c1] 31)).alloc (.cells #[.int .i64 U.first, .slice A2 U.n c2] 31) = w3 at *
  generalize w2.heap.size + 1 = bU at *
  generalize w2.heap.size = bT at *
  clear hu2 hu3 hO hO2 HB HI hn
  (have q0 := hT.cell 0); (have q1 := hT.cell 1); (have qi := hT.inw)
  have r0 := hT2.cell 0; have r1 := hT2.cell 1; have ri := hT2.inw
  have H1 := Lib.hid (i_JointTable T x U y)
  have H2 := Lib.hid (s_JointTable T x U y)
  have FJ := fun h : code8 T x U y true = 0 => jt_law h
  generalize code8 T x U y true = K1 at *
  generalize jtT T x U y = J at *
  replace FJ := Lib.hid FJ
  go_upto_region 5 with (go_at_call 66; (with_reducible refine (H1.out _ _ _ hv hv2).mono ?_); rintro e w' ⟨A3, c3, rfl, hu, hO3⟩; (have hT := hT.up hu); (have hup := hup.trans hu); (have hv := hv.up hu); (try (have hT2 := hT2.up hu; have r0 := hT2.cell 0; have r1 := hT2.cell 1; have ri := hT2.inw)); (try have hv2 := hv2.up hu); (try have hi1 := hi1.up hu); (try have hi2 := hi2.up hu); (try have hq9 := hq9.trans hu); (have q0 := hT.cell 0); (have q1 := hT.cell 1); (have qi := hT.inw))
  have hu3 := Up.alloc (Up.refl w') (.cells #[.int .i64 J.first, .slice A3 J.n c3] 31)
  have hT3 := Blk.new w' 31 #[.int .i64 J.first, .slice A3 J.n c3]
  have hv3 := hO3.tab.up hu3
  have hT := hT.up hu3
  have hT2 := hT2.up hu3
  have hv := hv.up hu3
  have hv2 := hv2.up hu3
  have hup := hup.trans hu3
  generalize w'.alloc (.cells #[.int .i64 J.first, .slice A3 J.n c3] 31) = wa at *
  generalize w'.heap.size = bx3 at *
  clear hu3 hu hO3 q0 q1 qi r0 r1 ri
  (have q0 := hT.cell 0); (have q1 := hT.cell 1); (have qi := hT.inw)
  have r0 := hT2.cell 0; have r1 := hT2.cell 1; have ri := hT2.inw; have d0 := hT3.cell 0; have d1 := hT3.cell 1; have di := hT3.inw
  go_upto_region 6 with (go_at_call 67; (with_reducible refine (H2.out _ _ _ hv hv2).mono ?_); rintro e w' ⟨A4, c4, rfl, hu, hO4⟩; (have hT := hT.up hu); (have hup := hup.trans hu); (have hv := hv.up hu); (try (have hT2 := hT2.up hu; have r0 := hT2.cell 0; have r1 := hT2.cell 1; have ri := hT2.inw)); (try have hv2 := hv2.up hu); (try have hi1 := hi1.up hu); (try have hi2 := hi2.up hu); (try have hq9 := hq9.trans hu); (have q0 := hT.cell 0); (have q1 := hT.cell 1); (have qi := hT.inw); (try (have hT3 := hT3.up hu; have d0 := hT3.cell 0; have d1 := hT3.cell 1; have di := hT3.inw)); (try (have hT4 := hT4.up hu; have f0 := hT4.cell 0; have f1 := hT4.cell 1; have fi := hT4.inw)); (try (have hT5 := hT5.up hu; have g0 := hT5.cell 0; have g1 := hT5.cell 1; have gi := hT5.inw)); (try (have hT6 := hT6.up hu; have k0 := hT6.cell 0; have k1 := hT6.cell 1; have ki := hT6.inw)); (try have hv3 := hv3.up hu); (try have hv4 := hv4.up hu); (try have hv5 := hv5.up hu); (try have hv6 := hv6.up hu))
  have hu3 := Up.alloc (Up.refl w') (.cells #[.int .i64 J.first, .slice A4 J.n c4] 31)
  have hT4 := Blk.new w' 31 #[.int .i64 J.first, .slice A4 J.n c4]
  have hv4 := hO4.tab.up hu3
  have hT := hT.up hu3
  have hT2 := hT2.up hu3
  have hv := hv.up hu3
  have hv2 := hv2.up hu3
  have hup := hup.trans hu3
  have hT3 := hT3.up hu3
  have hv3 := hv3.up hu3
  generalize w'.alloc (.cells #[.int .i64 J.first, .slice A4 J.n c4] 31) = wb at *
  generalize w'.heap.size = bx4 at *
  clear hu3 hu hO4 q0 q1 qi r0 r1 ri d0 d1 di
  (have q0 := hT.cell 0); (have q1 := hT.cell 1); (have qi := hT.inw)
  have r0 := hT2.cell 0; have r1 := hT2.cell 1; have ri := hT2.inw; have d0 := hT3.cell 0; have d1 := hT3.cell 1; have di := hT3.inw; have f0 := hT4.cell 0; have f1 := hT4.cell 1; have fi := hT4.inw
  go_upto_region 7 with (go_at_call 68; (with_reducible refine (s_DrawBothAlive A n c hn2 _ (HI2.out.up hup)).mono ?_); rintro e w' ⟨P, A5, c5, Q, A6, c6, x2, y2, n2, rfl, hu, hO5, hO6⟩; (have hT := hT.up hu); (have hup := hup.trans hu); (have hv := hv.up hu); (try (have hT2 := hT2.up hu; have r0 := hT2.cell 0; have r1 := hT2.cell 1; have ri := hT2.inw)); (try have hv2 := hv2.up hu); (try have hi1 := hi1.up hu); (try have hi2 := hi2.up hu); (try have hq9 := hq9.trans hu); (have q0 := hT.cell 0); (have q1 := hT.cell 1); (have qi := hT.inw); (try (have hT3 := hT3.up hu; have d0 := hT3.cell 0; have d1 := hT3.cell 1; have di := hT3.inw)); (try (have hT4 := hT4.up hu; have f0 := hT4.cell 0; have f1 := hT4.cell 1; have fi := hT4.inw)); (try (have hT5 := hT5.up hu; have g0 := hT5.cell 0; have g1 := hT5.cell 1; have gi := hT5.inw)); (try (have hT6 := hT6.up hu; have k0 := hT6.cell 0; have k1 := hT6.cell 1; have ki := hT6.inw)); (try have hv3 := hv3.up hu); (try have hv4 := hv4.up hu); (try have hv5 := hv5.up hu); (try have hv6 := hv6.up hu))
  have hu3 : Up w' ((w'.alloc (.cells #[.int .i64 P.first, .slice A5 P.n c5] 31)).alloc (.cells #[.int .i64 Q.first, .slice A6 Q.n c6] 31)) := (by repeat' (first | (with_reducible exact Up.refl _) | (with_reducible assumption) | (with_reducible refine Up.alloc ?_ _) | (with_reducible refine Up.drew ?_) | (with_reducible refine Up.grow ?_ _) | (with_reducible refine Up.setCell ?_ (by (try simp); (try omega)) _)))
  have hT5 : Blk ((w'.alloc (.cells #[.int .i64 P.first, .slice A5 P.n c5] 31)).alloc (.cells #[.int .i64 Q.first, .slice A6 Q.n c6] 31)) w'.heap.size 31 #[.int .i64 P.first, .slice A5 P.n c5] := (Blk.new _ _ _).alloc _
  have hT6 : Blk ((w'.alloc (.cells #[.int .i64 P.first, .slice A5 P.n c5] 31)).alloc (.cells #[.int .i64 Q.first, .slice A6 Q.n c6] 31)) (w'.heap.size + 1) 31 #[.int .i64 Q.first, .slice A6 Q.n c6] := by
    have h := Blk.new (w'.alloc (.cells #[.int .i64 P.first, .slice A5 P.n c5] 31)) 31 #[.int .i64 Q.first, .slice A6 Q.n c6]
    simpa only [World.size_alloc] using h
  have hv5 := hO5.tab.up hu3
  have hv6 := hO6.tab.up hu3
  have hT := hT.up hu3; have hT2 := hT2.up hu3; have hv := hv.up hu3; have hv2 := hv2.up hu3; have hup := hup.trans hu3; have hT3 := hT3.up hu3; have hv3 := hv3.up hu3; have hT4 := hT4.up hu3; have hv4 := hv4.up hu3
  generalize (w'.alloc (.cells #[.int .i64 P.first, .slice A5 P.n c5] 31)).alloc (.cells #[.int .i64 Q.first, .slice A6 Q.n c6] 31) = wc at *
  generalize w'.heap.size + 1 = bx6 at *
  generalize w'.heap.size = bx5 at *
  clear hu3 hu hO5 hO6 q0 q1 qi r0 r1 ri d0 d1 di f0 f1 fi
  (have q0 := hT.cell 0); (have q1 := hT.cell 1); (have qi := hT.inw)
  have r0 := hT2.cell 0; have r1 := hT2.cell 1; have ri := hT2.inw; have d0 := hT3.cell 0; have d1 := hT3.cell 1; have di := hT3.inw; have f0 := hT4.cell 0; have f1 := hT4.cell 1; have fi := hT4.inw; have g0 := hT5.cell 0; have g1 := hT5.cell 1; have gi := hT5.inw; have k0 := hT6.cell 0; have k1 := hT6.cell 1; have ki := hT6.inw
  have H3 := Lib.hid (i_BothAlive P Q x2 y2 n2)
  have H4 := Lib.hid (s_BothAlive P Q x2 y2 n2)
  have H5 := Lib.hid (i_OneAlive P Q x2 y2 n2)
  have H6 := Lib.hid (s_OneAlive P Q x2 y2 n2)
  have FB := fun h : code8 P x2 Q y2 (inR n2 0 150) = 0 => ba_law h
  simp only [RetQ3] at H3 H4 H5 H6
  generalize code8 P x2 Q y2 (inR n2 0 150) = K2 at *
  generalize fA (baX P Q (ix P x2) (ix Q y2) n2.toNat) (abX P Q (ix P x2) (ix Q y2)) = p at *
  generalize fB (baX P Q (ix P x2) (ix Q y2) n2.toNat) (abX P Q (ix P x2) (ix Q y2)) = q at *
  generalize fA (oaX P Q (ix P x2) (ix Q y2) n2.toNat) (abX P Q (ix P x2) (ix Q y2)) = r at *
  generalize fB (oaX P Q (ix P x2) (ix Q y2) n2.toNat) (abX P Q (ix P x2) (ix Q y2)) = s at *
  replace FB := Lib.hid FB
  by_cases k2 : K2 = 0
  case neg =>
    simp only [if_neg k2] at H3 H4 H5 H6
    (have hz1 : ((K2) != 0) = true := (by simpa using k2)); (have hz2 : ((K2) == 0) = false := (by simpa using k2))
    clear k2
    go_upto_region 15 with (first | (go_at_call 69; (with_reducible refine (H3.out _ _ _ hv5 hv6).mono ?_); rintro e w' ⟨rfl, hu⟩; (have hT := hT.up hu); (have hup := hup.trans hu); (have hv := hv.up hu); (try (have hT2 := hT2.up hu; have r0 := hT2.cell 0; have r1 := hT2.cell 1; have ri := hT2.inw)); (try have hv2 := hv2.up hu); (try have hi1 := hi1.up hu); (try have hi2 := hi2.up hu); (try have hq9 := hq9.trans hu); (have q0 := hT.cell 0); (have q1 := hT.cell 1); (have qi := hT.inw); (try (have hT3 := hT3.up hu; have d0 := hT3.cell 0; have d1 := hT3.cell 1; have di := hT3.inw)); (try (have hT4 := hT4.up hu; have f0 := hT4.cell 0; have f1 := hT4.cell 1; have fi := hT4.inw)); (try (have hT5 := hT5.up hu; have g0 := hT5.cell 0; have g1 := hT5.cell 1; have gi := hT5.inw)); (try (have hT6 := hT6.up hu; have k0 := hT6.cell 0; have k1 := hT6.cell 1; have ki := hT6.inw)); (try have hv3 := hv3.up hu); (try have hv4 := hv4.up hu); (try have hv5 := hv5.up hu); (try have hv6 := hv6.up hu)) | (go_at_call 70; (with_reducible refine (H4.out _ _ _ hv5 hv6).mono ?_); rintro e w' ⟨rfl, hu⟩; (have hT := hT.up hu); (have hup := hup.trans hu); (have hv := hv.up hu); (try (have hT2 := hT2.up hu; have r0 := hT2.cell 0; have r1 := hT2.cell 1; have ri := hT2.inw)); (try have hv2 := hv2.up hu); (try have hi1 := hi1.up hu); (try have hi2 := hi2.up hu); (try have hq9 := hq9.trans hu); (have q0 := hT.cell 0); (have q1 := hT.cell 1); (have qi := hT.inw); (try (have hT3 := hT3.up hu; have d0 := hT3.cell 0; have d1 := hT3.cell 1; have di := hT3.inw)); (try (have hT4 := hT4.up hu; have f0 := hT4.cell 0; have f1 := hT4.cell 1; have fi := hT4.inw)); (try (have hT5 := hT5.up hu; have g0 := hT5.cell 0; have g1 := hT5.cell 1; have gi := hT5.inw)); (try (have hT6 := hT6.up hu; have k0 := hT6.cell 0; have k1 := hT6.cell 1; have ki := hT6.inw)); (try have hv3 := hv3.up hu); (try have hv4 := hv4.up hu); (try have hv5 := hv5.up hu); (try have hv6 := hv6.up hu)) | (go_at_call 71; (with_reducible refine (H5.out _ _ _ hv5 hv6).mono ?_); rintro e w' ⟨rfl, hu⟩; (have hT := hT.up hu); (have hup := hup.trans hu); (have hv := hv.up hu); (try (have hT2 := hT2.up hu; have r0 := hT2.cell 0; have r1 := hT2.cell 1; have ri := hT2.inw)); (try have hv2 := hv2.up hu); (try have hi1 := hi1.up hu); (try have hi2 := hi2.up hu); (try have hq9 := hq9.trans hu); (have q0 := hT.cell 0); (have q1 := hT.cell 1); (have qi := hT.inw); (try (have hT3 := hT3.up hu; have d0 := hT3.cell 0; have d1 := hT3.cell 1; have di := hT3.inw)); (try (have hT4 := hT4.up hu; have f0 := hT4.cell 0; have f1 := hT4.cell 1; have fi := hT4.inw)); (try (have hT5 := hT5.up hu; have g0 := hT5.cell 0; have g1 := hT5.cell 1; have gi := hT5.inw)); (try (have hT6 := hT6.up hu; have k0 := hT6.cell 0; have k1 := hT6.cell 1; have ki := hT6.inw)); (try have hv3 := hv3.up hu); (try have hv4 := hv4.up hu); (try have hv5 := hv5.up hu); (try have hv6 := hv6.up hu)) | (go_at_call 72; (with_reducible refine (H6.out _ _ _ hv5 hv6).mono ?_); rintro e w' ⟨rfl, hu⟩; (have hT := hT.up hu); (have hup := hup.trans hu); (have hv := hv.up hu); (try (have hT2 := hT2.up hu; have r0 := hT2.cell 0; have r1 := hT2.cell 1; have ri := hT2.inw)); (try have hv2 := hv2.up hu); (try have hi1 := hi1.up hu); (try have hi2 := hi2.up hu); (try have hq9 := hq9.trans hu); (have q0 := hT.cell 0); (have q1 := hT.cell 1); (have qi := hT.inw); (try (have hT3 := hT3.up hu; have d0 := hT3.cell 0; have d1 := hT3.cell 1; have di := hT3.inw)); (try (have hT4 := hT4.up hu; have f0 := hT4.cell 0; have f1 := hT4.cell 1; have fi := hT4.inw)); (try (have hT5 := hT5.up hu; have g0 := hT5.cell 0; have g1 := hT5.cell 1; have gi := hT5.inw)); (try (have hT6 := hT6.up hu; have k0 := hT6.cell 0; have k1 := hT6.cell 1; have ki := hT6.inw)); (try have hv3 := hv3.up hu); (try have hv4 := hv4.up hu); (try have hv5 := hv5.up hu); (try have hv6 := hv6.up hu)) | (go_at_call 73; (with_reducible refine (l_LikeT J _ _ _ hv3 hv4).mono ?_); rintro e wL ⟨rfl, hu⟩; (have hT := hT.up hu); (have hup := hup.trans hu); (have hv := hv.up hu); (try (have hT2 := hT2.up hu; have r0 := hT2.cell 0; have r1 := hT2.cell 1; have ri := hT2.inw)); (try have hv2 := hv2.up hu); (try have hi1 := hi1.up hu); (try have hi2 := hi2.up hu); (try have hq9 := hq9.trans hu); (have q0 := hT.cell 0); (have q1 := hT.cell 1); (have qi := hT.inw); (try (have hT3 := hT3.up hu; have d0 := hT3.cell 0; have d1 := hT3.cell 1; have di := hT3.inw)); (try (have hT4 := hT4.up hu; have f0 := hT4.cell 0; have f1 := hT4.cell 1; have fi := hT4.inw)); (try (have hT5 := hT5.up hu; have g0 := hT5.cell 0; have g1 := hT5.cell 1; have gi := hT5.inw)); (try (have hT6 := hT6.up hu; have k0 := hT6.cell 0; have k1 := hT6.cell 1; have ki := hT6.inw)); (try have hv3 := hv3.up hu); (try have hv4 := hv4.up hu); (try have hv5 := hv5.up hu); (try have hv6 := hv6.up hu)) | ((first | with_reducible refine wp_region_in x (by kernel_rfl) (by kernel_rfl) ?_ | with_reducible refine wp_region_here (by kernel_rfl) (by kernel_rfl) ?_); (repeat (go_big_quiet_step ((fail)))); refine wpQuiet_nil ?_; intro w' hw'; obtain ⟨x, rfl⟩ := hw'))
    clear hu
    by_cases z1 : K1 = 0
    case neg =>
      (have hz1 : ((K1) != 0) = true := (by simpa using z1)); (have hz2 : ((K1) == 0) = false := (by simpa using z1))
      clear z1
      go_wp2
      go_ret
      exact ⟨rfl, hup.trans (by repeat' (first | (with_reducible exact Up.refl _) | (with_reducible assumption) | (with_reducible refine Up.alloc ?_ _) | (with_reducible refine Up.drew ?_) | (with_reducible refine Up.grow ?_ _) | (with_reducible refine Up.setCell ?_ (by (try simp); (try omega)) _)))⟩
    obtain ⟨hJ, hJf, hT1, i, hxi, hx0, HJ⟩ := FJ.out z1
    subst z1
    have HIv := Lib.hid (i_Valid J true ((Tab.okB_iff J).2 hJ))
    obtain ⟨hI3, hn3, hm3, hl3⟩ := hv3.ints
    have hJb : (J.first == x) = true := by simpa using hJf
    have hxH := Lib.hid hxi
    have HJ := Lib.hid HJ
    have q3_ := hT1.fin
    clear hJf hxi
    go_upto_region 18 with (fail)
    go_loopw [28] (fun i wr => ∃ (j : Nat) (z : Grow wL), j ≤ J.n ∧ i = .int .i64 j ∧ wr = z.to) (fun i _ => J.n - (intOf i).toNat)
    case atStart => exact ⟨0, ⟨wL, Below.refl _ _⟩, Nat.zero_le _, rfl, rfl⟩
    case round =>
      obtain ⟨j, z, hj, rfl, rfl⟩ := hrel
      have hu : Up wL z.to := z.below
      have hq9 := hu
      have hI3 := hI3.up hu
      (have hT := hT.up hu); (have hup := hup.trans hu); (have hv := hv.up hu); (try (have hT2 := hT2.up hu; have r0 := hT2.cell 0; have r1 := hT2.cell 1; have ri := hT2.inw)); (try have hv2 := hv2.up hu); (try have hi1 := hi1.up hu); (try have hi2 := hi2.up hu); (try have hq9 := hq9.trans hu); (have q0 := hT.cell 0); (have q1 := hT.cell 1); (have qi := hT.inw); (try (have hT3 := hT3.up hu; have d0 := hT3.cell 0; have d1 := hT3.cell 1; have di := hT3.inw)); (try (have hT4 := hT4.up hu; have f0 := hT4.cell 0; have f1 := hT4.cell 1; have fi := hT4.inw)); (try (have hT5 := hT5.up hu; have g0 := hT5.cell 0; have g1 := hT5.cell 1; have gi := hT5.inw)); (try (have hT6 := hT6.up hu; have k0 := hT6.cell 0; have k1 := hT6.cell 1; have ki := hT6.inw)); (try have hv3 := hv3.up hu); (try have hv4 := hv4.up hu); (try have hv5 := hv5.up hu); (try have hv6 := hv6.up hu)
      clear hu
      generalize z.to = wz at *
      by_cases hlt : j < J.n
      · obtain ⟨n1_, n2_⟩ := HJ.out j hlt
        have HLj := i_LivesAt T (T.first + ((i + j : Nat) : Int))
        simp only [aC_in hT1 (show T.first + ((i + j : Nat) : Int) ≤ 150 by omega), RetQ_ok, ix_k] at HLj
        rw [show T.first + ((i + j : Nat) : Int) = x + j from by have := hxH.out; omega] at HLj
        replace HLj := Lib.hid HLj
        obtain ⟨b3, off3, eA, hlb3, hc3⟩ := hI3 j hlt
        subst eA
        have hxj : ¬ 150 < x + (j : Int) := by have := hxH.out; omega
        have i1 : IntKind.i64.wrap (x + j) = x + j := IntWalk.i64_in _ (by omega)
        have hle : ¬ T.lv (i + j) < J.f j := by omega
        generalize T.lv (i + j) = LV at *
        generalize J.f j = JF at *
        clear n1_ n2_
        go_wp2_with (go_at_call 58; (with_reducible refine (HLj.out _ _ hv).mono ?_); rintro e wy ⟨rfl, hu⟩; (have hT := hT.up hu); (have hup := hup.trans hu); (have hv := hv.up hu); (try (have hT2 := hT2.up hu; have r0 := hT2.cell 0; have r1 := hT2.cell 1; have ri := hT2.inw)); (try have hv2 := hv2.up hu); (try have hi1 := hi1.up hu); (try have hi2 := hi2.up hu); (try have hq9 := hq9.trans hu); (have q0 := hT.cell 0); (have q1 := hT.cell 1); (have qi := hT.inw); (try (have hT3 := hT3.up hu; have d0 := hT3.cell 0; have d1 := hT3.cell 1; have di := hT3.inw)); (try (have hT4 := hT4.up hu; have f0 := hT4.cell 0; have f1 := hT4.cell 1; have fi := hT4.inw)); (try (have hT5 := hT5.up hu; have g0 := hT5.cell 0; have g1 := hT5.cell 1; have gi := hT5.inw)); (try (have hT6 := hT6.up hu; have k0 := hT6.cell 0; have k1 := hT6.cell 1; have ki := hT6.inw)); (try have hv3 := hv3.up hu); (try have hv4 := hv4.up hu); (try have hv5 := hv5.up hu); (try have hv6 := hv6.up hu); have hc3b : wy.cell? ⟨b3, off3 + j, none⟩ = some (.int .i64 JF) := (hu.cell (p := ⟨b3, off3 + j, none⟩) hlb3).trans hc3; have iw3 : InW wy b3 := Nat.lt_of_lt_of_le hlb3 hu.size)
        go_roundw
        case rel => exact ⟨j + 1, ⟨wy, hq9⟩, by omega, by go_num, rfl⟩
        case measure => simp [intOf]; omega
      · have hlt1 : ¬ (j : Int) < (J.n : Int) := by omega
        clear hI3
        go_wp2_with (first | (go_at_call 74; (with_reducible refine (HIv.out _ _ hv3).mono ?_); rintro e w' ⟨rfl, hu⟩; (have hT := hT.up hu); (have hup := hup.trans hu); (have hv := hv.up hu); (try (have hT2 := hT2.up hu; have r0 := hT2.cell 0; have r1 := hT2.cell 1; have ri := hT2.inw)); (try have hv2 := hv2.up hu); (try have hi1 := hi1.up hu); (try have hi2 := hi2.up hu); (try have hq9 := hq9.trans hu); (have q0 := hT.cell 0); (have q1 := hT.cell 1); (have qi := hT.inw); (try (have hT3 := hT3.up hu; have d0 := hT3.cell 0; have d1 := hT3.cell 1; have di := hT3.inw)); (try (have hT4 := hT4.up hu; have f0 := hT4.cell 0; have f1 := hT4.cell 1; have fi := hT4.inw)); (try (have hT5 := hT5.up hu; have g0 := hT5.cell 0; have g1 := hT5.cell 1; have gi := hT5.inw)); (try (have hT6 := hT6.up hu; have k0 := hT6.cell 0; have k1 := hT6.cell 1; have ki := hT6.inw)); (try have hv3 := hv3.up hu); (try have hv4 := hv4.up hu); (try have hv5 := hv5.up hu); (try have hv6 := hv6.up hu)) | ((first | with_reducible refine wp_region_in x (by kernel_rfl) (by kernel_rfl) ?_ | with_reducible refine wp_region_here (by kernel_rfl) (by kernel_rfl) ?_); (repeat (go_big_quiet_step ((fail)))); refine wpQuiet_nil ?_; intro w' hw'; obtain ⟨x, rfl⟩ := hw'))
        go_ret
        exact ⟨rfl, hup.trans (by repeat' (first | (with_reducible exact Up.refl _) | (with_reducible assumption) | (with_reducible refine Up.alloc ?_ _) | (with_reducible refine Up.drew ?_) | (with_reducible refine Up.grow ?_ _) | (with_reducible refine Up.setCell ?_ (by (try simp); (try omega)) _)))⟩
  simp only [if_pos k2] at H3 H4 H5 H6
  obtain ⟨f1_, f2_, f3_⟩ := FB.out k2
  subst k2
  by_cases hq : (q : Int) ≤ 1000000000
  case neg =>
    go_upto_region 15 with (first | (go_at_call 69; (with_reducible refine (H3.out _ _ _ hv5 hv6).mono ?_); rintro e w' ⟨rfl, hu⟩; (have hT := hT.up hu); (have hup := hup.trans hu); (have hv := hv.up hu); (try (have hT2 := hT2.up hu; have r0 := hT2.cell 0; have r1 := hT2.cell 1; have ri := hT2.inw)); (try have hv2 := hv2.up hu); (try have hi1 := hi1.up hu); (try have hi2 := hi2.up hu); (try have hq9 := hq9.trans hu); (have q0 := hT.cell 0); (have q1 := hT.cell 1); (have qi := hT.inw); (try (have hT3 := hT3.up hu; have d0 := hT3.cell 0; have d1 := hT3.cell 1; have di := hT3.inw)); (try (have hT4 := hT4.up hu; have f0 := hT4.cell 0; have f1 := hT4.cell 1; have fi := hT4.inw)); (try (have hT5 := hT5.up hu; have g0 := hT5.cell 0; have g1 := hT5.cell 1; have gi := hT5.inw)); (try (have hT6 := hT6.up hu; have k0 := hT6.cell 0; have k1 := hT6.cell 1; have ki := hT6.inw)); (try have hv3 := hv3.up hu); (try have hv4 := hv4.up hu); (try have hv5 := hv5.up hu); (try have hv6 := hv6.up hu)) | (go_at_call 70; (with_reducible refine (H4.out _ _ _ hv5 hv6).mono ?_); rintro e w' ⟨rfl, hu⟩; (have hT := hT.up hu); (have hup := hup.trans hu); (have hv := hv.up hu); (try (have hT2 := hT2.up hu; have r0 := hT2.cell 0; have r1 := hT2.cell 1; have ri := hT2.inw)); (try have hv2 := hv2.up hu); (try have hi1 := hi1.up hu); (try have hi2 := hi2.up hu); (try have hq9 := hq9.trans hu); (have q0 := hT.cell 0); (have q1 := hT.cell 1); (have qi := hT.inw); (try (have hT3 := hT3.up hu; have d0 := hT3.cell 0; have d1 := hT3.cell 1; have di := hT3.inw)); (try (have hT4 := hT4.up hu; have f0 := hT4.cell 0; have f1 := hT4.cell 1; have fi := hT4.inw)); (try (have hT5 := hT5.up hu; have g0 := hT5.cell 0; have g1 := hT5.cell 1; have gi := hT5.inw)); (try (have hT6 := hT6.up hu; have k0 := hT6.cell 0; have k1 := hT6.cell 1; have ki := hT6.inw)); (try have hv3 := hv3.up hu); (try have hv4 := hv4.up hu); (try have hv5 := hv5.up hu); (try have hv6 := hv6.up hu)) | (go_at_call 71; (with_reducible refine (H5.out _ _ _ hv5 hv6).mono ?_); rintro e w' ⟨rfl, hu⟩; (have hT := hT.up hu); (have hup := hup.trans hu); (have hv := hv.up hu); (try (have hT2 := hT2.up hu; have r0 := hT2.cell 0; have r1 := hT2.cell 1; have ri := hT2.inw)); (try have hv2 := hv2.up hu); (try have hi1 := hi1.up hu); (try have hi2 := hi2.up hu); (try have hq9 := hq9.trans hu); (have q0 := hT.cell 0); (have q1 := hT.cell 1); (have qi := hT.inw); (try (have hT3 := hT3.up hu; have d0 := hT3.cell 0; have d1 := hT3.cell 1; have di := hT3.inw)); (try (have hT4 := hT4.up hu; have f0 := hT4.cell 0; have f1 := hT4.cell 1; have fi := hT4.inw)); (try (have hT5 := hT5.up hu; have g0 := hT5.cell 0; have g1 := hT5.cell 1; have gi := hT5.inw)); (try (have hT6 := hT6.up hu; have k0 := hT6.cell 0; have k1 := hT6.cell 1; have ki := hT6.inw)); (try have hv3 := hv3.up hu); (try have hv4 := hv4.up hu); (try have hv5 := hv5.up hu); (try have hv6 := hv6.up hu)) | (go_at_call 72; (with_reducible refine (H6.out _ _ _ hv5 hv6).mono ?_); rintro e w' ⟨rfl, hu⟩; (have hT := hT.up hu); (have hup := hup.trans hu); (have hv := hv.up hu); (try (have hT2 := hT2.up hu; have r0 := hT2.cell 0; have r1 := hT2.cell 1; have ri := hT2.inw)); (try have hv2 := hv2.up hu); (try have hi1 := hi1.up hu); (try have hi2 := hi2.up hu); (try have hq9 := hq9.trans hu); (have q0 := hT.cell 0); (have q1 := hT.cell 1); (have qi := hT.inw); (try (have hT3 := hT3.up hu; have d0 := hT3.cell 0; have d1 := hT3.cell 1; have di := hT3.inw)); (try (have hT4 := hT4.up hu; have f0 := hT4.cell 0; have f1 := hT4.cell 1; have fi := hT4.inw)); (try (have hT5 := hT5.up hu; have g0 := hT5.cell 0; have g1 := hT5.cell 1; have gi := hT5.inw)); (try (have hT6 := hT6.up hu; have k0 := hT6.cell 0; have k1 := hT6.cell 1; have ki := hT6.inw)); (try have hv3 := hv3.up hu); (try have hv4 := hv4.up hu); (try have hv5 := hv5.up hu); (try have hv6 := hv6.up hu)) | (go_at_call 73; (with_reducible refine (l_LikeT J _ _ _ hv3 hv4).mono ?_); rintro e wL ⟨rfl, hu⟩; (have hT := hT.up hu); (have hup := hup.trans hu); (have hv := hv.up hu); (try (have hT2 := hT2.up hu; have r0 := hT2.cell 0; have r1 := hT2.cell 1; have ri := hT2.inw)); (try have hv2 := hv2.up hu); (try have hi1 := hi1.up hu); (try have hi2 := hi2.up hu); (try have hq9 := hq9.trans hu); (have q0 := hT.cell 0); (have q1 := hT.cell 1); (have qi := hT.inw); (try (have hT3 := hT3.up hu; have d0 := hT3.cell 0; have d1 := hT3.cell 1; have di := hT3.inw)); (try (have hT4 := hT4.up hu; have f0 := hT4.cell 0; have f1 := hT4.cell 1; have fi := hT4.inw)); (try (have hT5 := hT5.up hu; have g0 := hT5.cell 0; have g1 := hT5.cell 1; have gi := hT5.inw)); (try (have hT6 := hT6.up hu; have k0 := hT6.cell 0; have k1 := hT6.cell 1; have ki := hT6.inw)); (try have hv3 := hv3.up hu); (try have hv4 := hv4.up hu); (try have hv5 := hv5.up hu); (try have hv6 := hv6.up hu)) | ((first | with_reducible refine wp_region_in x (by kernel_rfl) (by kernel_rfl) ?_ | with_reducible refine wp_region_here (by kernel_rfl) (by kernel_rfl) ?_); (repeat (go_big_quiet_step ((fail)))); refine wpQuiet_nil ?_; intro w' hw'; obtain ⟨x, rfl⟩ := hw'))
    clear hu
    by_cases z1 : K1 = 0
    case neg =>
      (have hz1 : ((K1) != 0) = true := (by simpa using z1)); (have hz2 : ((K1) == 0) = false := (by simpa using z1))
      clear z1
      go_wp2
      go_ret
      exact ⟨rfl, hup.trans (by repeat' (first | (with_reducible exact Up.refl _) | (with_reducible assumption) | (with_reducible refine Up.alloc ?_ _) | (with_reducible refine Up.drew ?_) | (with_reducible refine Up.grow ?_ _) | (with_reducible refine Up.setCell ?_ (by (try simp); (try omega)) _)))⟩
    obtain ⟨hJ, hJf, hT1, i, hxi, hx0, HJ⟩ := FJ.out z1
    subst z1
    have HIv := Lib.hid (i_Valid J true ((Tab.okB_iff J).2 hJ))
    obtain ⟨hI3, hn3, hm3, hl3⟩ := hv3.ints
    have hJb : (J.first == x) = true := by simpa using hJf
    have hxH := Lib.hid hxi
    have HJ := Lib.hid HJ
    have q3_ := hT1.fin
    clear hJf hxi
    go_upto_region 18 with (fail)
    go_loopw [28] (fun i wr => ∃ (j : Nat) (z : Grow wL), j ≤ J.n ∧ i = .int .i64 j ∧ wr = z.to) (fun i _ => J.n - (intOf i).toNat)
    case atStart => exact ⟨0, ⟨wL, Below.refl _ _⟩, Nat.zero_le _, rfl, rfl⟩
    case round =>
      obtain ⟨j, z, hj, rfl, rfl⟩ := hrel
      have hu : Up wL z.to := z.below
      have hq9 := hu
      have hI3 := hI3.up hu
      (have hT := hT.up hu); (have hup := hup.trans hu); (have hv := hv.up hu); (try (have hT2 := hT2.up hu; have r0 := hT2.cell 0; have r1 := hT2.cell 1; have ri := hT2.inw)); (try have hv2 := hv2.up hu); (try have hi1 := hi1.up hu); (try have hi2 := hi2.up hu); (try have hq9 := hq9.trans hu); (have q0 := hT.cell 0); (have q1 := hT.cell 1); (have qi := hT.inw); (try (have hT3 := hT3.up hu; have d0 := hT3.cell 0; have d1 := hT3.cell 1; have di := hT3.inw)); (try (have hT4 := hT4.up hu; have f0 := hT4.cell 0; have f1 := hT4.cell 1; have fi := hT4.inw)); (try (have hT5 := hT5.up hu; have g0 := hT5.cell 0; have g1 := hT5.cell 1; have gi := hT5.inw)); (try (have hT6 := hT6.up hu; have k0 := hT6.cell 0; have k1 := hT6.cell 1; have ki := hT6.inw)); (try have hv3 := hv3.up hu); (try have hv4 := hv4.up hu); (try have hv5 := hv5.up hu); (try have hv6 := hv6.up hu)
      clear hu
      generalize z.to = wz at *
      by_cases hlt : j < J.n
      · obtain ⟨n1_, n2_⟩ := HJ.out j hlt
        have HLj := i_LivesAt T (T.first + ((i + j : Nat) : Int))
        simp only [aC_in hT1 (show T.first + ((i + j : Nat) : Int) ≤ 150 by omega), RetQ_ok, ix_k] at HLj
        rw [show T.first + ((i + j : Nat) : Int) = x + j from by have := hxH.out; omega] at HLj
        replace HLj := Lib.hid HLj
        obtain ⟨b3, off3, eA, hlb3, hc3⟩ := hI3 j hlt
        subst eA
        have hxj : ¬ 150 < x + (j : Int) := by have := hxH.out; omega
        have i1 : IntKind.i64.wrap (x + j) = x + j := IntWalk.i64_in _ (by omega)
        have hle : ¬ T.lv (i + j) < J.f j := by omega
        generalize T.lv (i + j) = LV at *
        generalize J.f j = JF at *
        clear n1_ n2_
        go_wp2_with (go_at_call 58; (with_reducible refine (HLj.out _ _ hv).mono ?_); rintro e wy ⟨rfl, hu⟩; (have hT := hT.up hu); (have hup := hup.trans hu); (have hv := hv.up hu); (try (have hT2 := hT2.up hu; have r0 := hT2.cell 0; have r1 := hT2.cell 1; have ri := hT2.inw)); (try have hv2 := hv2.up hu); (try have hi1 := hi1.up hu); (try have hi2 := hi2.up hu); (try have hq9 := hq9.trans hu); (have q0 := hT.cell 0); (have q1 := hT.cell 1); (have qi := hT.inw); (try (have hT3 := hT3.up hu; have d0 := hT3.cell 0; have d1 := hT3.cell 1; have di := hT3.inw)); (try (have hT4 := hT4.up hu; have f0 := hT4.cell 0; have f1 := hT4.cell 1; have fi := hT4.inw)); (try (have hT5 := hT5.up hu; have g0 := hT5.cell 0; have g1 := hT5.cell 1; have gi := hT5.inw)); (try (have hT6 := hT6.up hu; have k0 := hT6.cell 0; have k1 := hT6.cell 1; have ki := hT6.inw)); (try have hv3 := hv3.up hu); (try have hv4 := hv4.up hu); (try have hv5 := hv5.up hu); (try have hv6 := hv6.up hu); have hc3b : wy.cell? ⟨b3, off3 + j, none⟩ = some (.int .i64 JF) := (hu.cell (p := ⟨b3, off3 + j, none⟩) hlb3).trans hc3; have iw3 : InW wy b3 := Nat.lt_of_lt_of_le hlb3 hu.size)
        go_roundw
        case rel => exact ⟨j + 1, ⟨wy, hq9⟩, by omega, by go_num, rfl⟩
        case measure => simp [intOf]; omega
      · have hlt1 : ¬ (j : Int) < (J.n : Int) := by omega
        clear hI3
        go_wp2_with (first | (go_at_call 74; (with_reducible refine (HIv.out _ _ hv3).mono ?_); rintro e w' ⟨rfl, hu⟩; (have hT := hT.up hu); (have hup := hup.trans hu); (have hv := hv.up hu); (try (have hT2 := hT2.up hu; have r0 := hT2.cell 0; have r1 := hT2.cell 1; have ri := hT2.inw)); (try have hv2 := hv2.up hu); (try have hi1 := hi1.up hu); (try have hi2 := hi2.up hu); (try have hq9 := hq9.trans hu); (have q0 := hT.cell 0); (have q1 := hT.cell 1); (have qi := hT.inw); (try (have hT3 := hT3.up hu; have d0 := hT3.cell 0; have d1 := hT3.cell 1; have di := hT3.inw)); (try (have hT4 := hT4.up hu; have f0 := hT4.cell 0; have f1 := hT4.cell 1; have fi := hT4.inw)); (try (have hT5 := hT5.up hu; have g0 := hT5.cell 0; have g1 := hT5.cell 1; have gi := hT5.inw)); (try (have hT6 := hT6.up hu; have k0 := hT6.cell 0; have k1 := hT6.cell 1; have ki := hT6.inw)); (try have hv3 := hv3.up hu); (try have hv4 := hv4.up hu); (try have hv5 := hv5.up hu); (try have hv6 := hv6.up hu)) | ((first | with_reducible refine wp_region_in x (by kernel_rfl) (by kernel_rfl) ?_ | with_reducible refine wp_region_here (by kernel_rfl) (by kernel_rfl) ?_); (repeat (go_big_quiet_step ((fail)))); refine wpQuiet_nil ?_; intro w' hw'; obtain ⟨x, rfl⟩ := hw'))
        go_ret
        exact ⟨rfl, hup.trans (by repeat' (first | (with_reducible exact Up.refl _) | (with_reducible assumption) | (with_reducible refine Up.alloc ?_ _) | (with_reducible refine Up.drew ?_) | (with_reducible refine Up.grow ?_ _) | (with_reducible refine Up.setCell ?_ (by (try simp); (try omega)) _)))⟩
  by_cases hs : (s : Int) ≤ 1000000000
  case neg =>
    go_upto_region 15 with (first | (go_at_call 69; (with_reducible refine (H3.out _ _ _ hv5 hv6).mono ?_); rintro e w' ⟨rfl, hu⟩; (have hT := hT.up hu); (have hup := hup.trans hu); (have hv := hv.up hu); (try (have hT2 := hT2.up hu; have r0 := hT2.cell 0; have r1 := hT2.cell 1; have ri := hT2.inw)); (try have hv2 := hv2.up hu); (try have hi1 := hi1.up hu); (try have hi2 := hi2.up hu); (try have hq9 := hq9.trans hu); (have q0 := hT.cell 0); (have q1 := hT.cell 1); (have qi := hT.inw); (try (have hT3 := hT3.up hu; have d0 := hT3.cell 0; have d1 := hT3.cell 1; have di := hT3.inw)); (try (have hT4 := hT4.up hu; have f0 := hT4.cell 0; have f1 := hT4.cell 1; have fi := hT4.inw)); (try (have hT5 := hT5.up hu; have g0 := hT5.cell 0; have g1 := hT5.cell 1; have gi := hT5.inw)); (try (have hT6 := hT6.up hu; have k0 := hT6.cell 0; have k1 := hT6.cell 1; have ki := hT6.inw)); (try have hv3 := hv3.up hu); (try have hv4 := hv4.up hu); (try have hv5 := hv5.up hu); (try have hv6 := hv6.up hu)) | (go_at_call 70; (with_reducible refine (H4.out _ _ _ hv5 hv6).mono ?_); rintro e w' ⟨rfl, hu⟩; (have hT := hT.up hu); (have hup := hup.trans hu); (have hv := hv.up hu); (try (have hT2 := hT2.up hu; have r0 := hT2.cell 0; have r1 := hT2.cell 1; have ri := hT2.inw)); (try have hv2 := hv2.up hu); (try have hi1 := hi1.up hu); (try have hi2 := hi2.up hu); (try have hq9 := hq9.trans hu); (have q0 := hT.cell 0); (have q1 := hT.cell 1); (have qi := hT.inw); (try (have hT3 := hT3.up hu; have d0 := hT3.cell 0; have d1 := hT3.cell 1; have di := hT3.inw)); (try (have hT4 := hT4.up hu; have f0 := hT4.cell 0; have f1 := hT4.cell 1; have fi := hT4.inw)); (try (have hT5 := hT5.up hu; have g0 := hT5.cell 0; have g1 := hT5.cell 1; have gi := hT5.inw)); (try (have hT6 := hT6.up hu; have k0 := hT6.cell 0; have k1 := hT6.cell 1; have ki := hT6.inw)); (try have hv3 := hv3.up hu); (try have hv4 := hv4.up hu); (try have hv5 := hv5.up hu); (try have hv6 := hv6.up hu)) | (go_at_call 71; (with_reducible refine (H5.out _ _ _ hv5 hv6).mono ?_); rintro e w' ⟨rfl, hu⟩; (have hT := hT.up hu); (have hup := hup.trans hu); (have hv := hv.up hu); (try (have hT2 := hT2.up hu; have r0 := hT2.cell 0; have r1 := hT2.cell 1; have ri := hT2.inw)); (try have hv2 := hv2.up hu); (try have hi1 := hi1.up hu); (try have hi2 := hi2.up hu); (try have hq9 := hq9.trans hu); (have q0 := hT.cell 0); (have q1 := hT.cell 1); (have qi := hT.inw); (try (have hT3 := hT3.up hu; have d0 := hT3.cell 0; have d1 := hT3.cell 1; have di := hT3.inw)); (try (have hT4 := hT4.up hu; have f0 := hT4.cell 0; have f1 := hT4.cell 1; have fi := hT4.inw)); (try (have hT5 := hT5.up hu; have g0 := hT5.cell 0; have g1 := hT5.cell 1; have gi := hT5.inw)); (try (have hT6 := hT6.up hu; have k0 := hT6.cell 0; have k1 := hT6.cell 1; have ki := hT6.inw)); (try have hv3 := hv3.up hu); (try have hv4 := hv4.up hu); (try have hv5 := hv5.up hu); (try have hv6 := hv6.up hu)) | (go_at_call 72; (with_reducible refine (H6.out _ _ _ hv5 hv6).mono ?_); rintro e w' ⟨rfl, hu⟩; (have hT := hT.up hu); (have hup := hup.trans hu); (have hv := hv.up hu); (try (have hT2 := hT2.up hu; have r0 := hT2.cell 0; have r1 := hT2.cell 1; have ri := hT2.inw)); (try have hv2 := hv2.up hu); (try have hi1 := hi1.up hu); (try have hi2 := hi2.up hu); (try have hq9 := hq9.trans hu); (have q0 := hT.cell 0); (have q1 := hT.cell 1); (have qi := hT.inw); (try (have hT3 := hT3.up hu; have d0 := hT3.cell 0; have d1 := hT3.cell 1; have di := hT3.inw)); (try (have hT4 := hT4.up hu; have f0 := hT4.cell 0; have f1 := hT4.cell 1; have fi := hT4.inw)); (try (have hT5 := hT5.up hu; have g0 := hT5.cell 0; have g1 := hT5.cell 1; have gi := hT5.inw)); (try (have hT6 := hT6.up hu; have k0 := hT6.cell 0; have k1 := hT6.cell 1; have ki := hT6.inw)); (try have hv3 := hv3.up hu); (try have hv4 := hv4.up hu); (try have hv5 := hv5.up hu); (try have hv6 := hv6.up hu)) | (go_at_call 73; (with_reducible refine (l_LikeT J _ _ _ hv3 hv4).mono ?_); rintro e wL ⟨rfl, hu⟩; (have hT := hT.up hu); (have hup := hup.trans hu); (have hv := hv.up hu); (try (have hT2 := hT2.up hu; have r0 := hT2.cell 0; have r1 := hT2.cell 1; have ri := hT2.inw)); (try have hv2 := hv2.up hu); (try have hi1 := hi1.up hu); (try have hi2 := hi2.up hu); (try have hq9 := hq9.trans hu); (have q0 := hT.cell 0); (have q1 := hT.cell 1); (have qi := hT.inw); (try (have hT3 := hT3.up hu; have d0 := hT3.cell 0; have d1 := hT3.cell 1; have di := hT3.inw)); (try (have hT4 := hT4.up hu; have f0 := hT4.cell 0; have f1 := hT4.cell 1; have fi := hT4.inw)); (try (have hT5 := hT5.up hu; have g0 := hT5.cell 0; have g1 := hT5.cell 1; have gi := hT5.inw)); (try (have hT6 := hT6.up hu; have k0 := hT6.cell 0; have k1 := hT6.cell 1; have ki := hT6.inw)); (try have hv3 := hv3.up hu); (try have hv4 := hv4.up hu); (try have hv5 := hv5.up hu); (try have hv6 := hv6.up hu)) | ((first | with_reducible refine wp_region_in x (by kernel_rfl) (by kernel_rfl) ?_ | with_reducible refine wp_region_here (by kernel_rfl) (by kernel_rfl) ?_); (repeat (go_big_quiet_step ((fail)))); refine wpQuiet_nil ?_; intro w' hw'; obtain ⟨x, rfl⟩ := hw'))
    clear hu
    by_cases z1 : K1 = 0
    case neg =>
      (have hz1 : ((K1) != 0) = true := (by simpa using z1)); (have hz2 : ((K1) == 0) = false := (by simpa using z1))
      clear z1
      go_wp2
      go_ret
      exact ⟨rfl, hup.trans (by repeat' (first | (with_reducible exact Up.refl _) | (with_reducible assumption) | (with_reducible refine Up.alloc ?_ _) | (with_reducible refine Up.drew ?_) | (with_reducible refine Up.grow ?_ _) | (with_reducible refine Up.setCell ?_ (by (try simp); (try omega)) _)))⟩
    obtain ⟨hJ, hJf, hT1, i, hxi, hx0, HJ⟩ := FJ.out z1
    subst z1
    have HIv := Lib.hid (i_Valid J true ((Tab.okB_iff J).2 hJ))
    obtain ⟨hI3, hn3, hm3, hl3⟩ := hv3.ints
    have hJb : (J.first == x) = true := by simpa using hJf
    have hxH := Lib.hid hxi
    have HJ := Lib.hid HJ
    have q3_ := hT1.fin
    clear hJf hxi
    go_upto_region 18 with (fail)
    go_loopw [28] (fun i wr => ∃ (j : Nat) (z : Grow wL), j ≤ J.n ∧ i = .int .i64 j ∧ wr = z.to) (fun i _ => J.n - (intOf i).toNat)
    case atStart => exact ⟨0, ⟨wL, Below.refl _ _⟩, Nat.zero_le _, rfl, rfl⟩
    case round =>
      obtain ⟨j, z, hj, rfl, rfl⟩ := hrel
      have hu : Up wL z.to := z.below
      have hq9 := hu
      have hI3 := hI3.up hu
      (have hT := hT.up hu); (have hup := hup.trans hu); (have hv := hv.up hu); (try (have hT2 := hT2.up hu; have r0 := hT2.cell 0; have r1 := hT2.cell 1; have ri := hT2.inw)); (try have hv2 := hv2.up hu); (try have hi1 := hi1.up hu); (try have hi2 := hi2.up hu); (try have hq9 := hq9.trans hu); (have q0 := hT.cell 0); (have q1 := hT.cell 1); (have qi := hT.inw); (try (have hT3 := hT3.up hu; have d0 := hT3.cell 0; have d1 := hT3.cell 1; have di := hT3.inw)); (try (have hT4 := hT4.up hu; have f0 := hT4.cell 0; have f1 := hT4.cell 1; have fi := hT4.inw)); (try (have hT5 := hT5.up hu; have g0 := hT5.cell 0; have g1 := hT5.cell 1; have gi := hT5.inw)); (try (have hT6 := hT6.up hu; have k0 := hT6.cell 0; have k1 := hT6.cell 1; have ki := hT6.inw)); (try have hv3 := hv3.up hu); (try have hv4 := hv4.up hu); (try have hv5 := hv5.up hu); (try have hv6 := hv6.up hu)
      clear hu
      generalize z.to = wz at *
      by_cases hlt : j < J.n
      · obtain ⟨n1_, n2_⟩ := HJ.out j hlt
        have HLj := i_LivesAt T (T.first + ((i + j : Nat) : Int))
        simp only [aC_in hT1 (show T.first + ((i + j : Nat) : Int) ≤ 150 by omega), RetQ_ok, ix_k] at HLj
        rw [show T.first + ((i + j : Nat) : Int) = x + j from by have := hxH.out; omega] at HLj
        replace HLj := Lib.hid HLj
        obtain ⟨b3, off3, eA, hlb3, hc3⟩ := hI3 j hlt
        subst eA
        have hxj : ¬ 150 < x + (j : Int) := by have := hxH.out; omega
        have i1 : IntKind.i64.wrap (x + j) = x + j := IntWalk.i64_in _ (by omega)
        have hle : ¬ T.lv (i + j) < J.f j := by omega
        generalize T.lv (i + j) = LV at *
        generalize J.f j = JF at *
        clear n1_ n2_
        go_wp2_with (go_at_call 58; (with_reducible refine (HLj.out _ _ hv).mono ?_); rintro e wy ⟨rfl, hu⟩; (have hT := hT.up hu); (have hup := hup.trans hu); (have hv := hv.up hu); (try (have hT2 := hT2.up hu; have r0 := hT2.cell 0; have r1 := hT2.cell 1; have ri := hT2.inw)); (try have hv2 := hv2.up hu); (try have hi1 := hi1.up hu); (try have hi2 := hi2.up hu); (try have hq9 := hq9.trans hu); (have q0 := hT.cell 0); (have q1 := hT.cell 1); (have qi := hT.inw); (try (have hT3 := hT3.up hu; have d0 := hT3.cell 0; have d1 := hT3.cell 1; have di := hT3.inw)); (try (have hT4 := hT4.up hu; have f0 := hT4.cell 0; have f1 := hT4.cell 1; have fi := hT4.inw)); (try (have hT5 := hT5.up hu; have g0 := hT5.cell 0; have g1 := hT5.cell 1; have gi := hT5.inw)); (try (have hT6 := hT6.up hu; have k0 := hT6.cell 0; have k1 := hT6.cell 1; have ki := hT6.inw)); (try have hv3 := hv3.up hu); (try have hv4 := hv4.up hu); (try have hv5 := hv5.up hu); (try have hv6 := hv6.up hu); have hc3b : wy.cell? ⟨b3, off3 + j, none⟩ = some (.int .i64 JF) := (hu.cell (p := ⟨b3, off3 + j, none⟩) hlb3).trans hc3; have iw3 : InW wy b3 := Nat.lt_of_lt_of_le hlb3 hu.size)
        go_roundw
        case rel => exact ⟨j + 1, ⟨wy, hq9⟩, by omega, by go_num, rfl⟩
        case measure => simp [intOf]; omega
      · have hlt1 : ¬ (j : Int) < (J.n : Int) := by omega
        clear hI3
        go_wp2_with (first | (go_at_call 74; (with_reducible refine (HIv.out _ _ hv3).mono ?_); rintro e w' ⟨rfl, hu⟩; (have hT := hT.up hu); (have hup := hup.trans hu); (have hv := hv.up hu); (try (have hT2 := hT2.up hu; have r0 := hT2.cell 0; have r1 := hT2.cell 1; have ri := hT2.inw)); (try have hv2 := hv2.up hu); (try have hi1 := hi1.up hu); (try have hi2 := hi2.up hu); (try have hq9 := hq9.trans hu); (have q0 := hT.cell 0); (have q1 := hT.cell 1); (have qi := hT.inw); (try (have hT3 := hT3.up hu; have d0 := hT3.cell 0; have d1 := hT3.cell 1; have di := hT3.inw)); (try (have hT4 := hT4.up hu; have f0 := hT4.cell 0; have f1 := hT4.cell 1; have fi := hT4.inw)); (try (have hT5 := hT5.up hu; have g0 := hT5.cell 0; have g1 := hT5.cell 1; have gi := hT5.inw)); (try (have hT6 := hT6.up hu; have k0 := hT6.cell 0; have k1 := hT6.cell 1; have ki := hT6.inw)); (try have hv3 := hv3.up hu); (try have hv4 := hv4.up hu); (try have hv5 := hv5.up hu); (try have hv6 := hv6.up hu)) | ((first | with_reducible refine wp_region_in x (by kernel_rfl) (by kernel_rfl) ?_ | with_reducible refine wp_region_here (by kernel_rfl) (by kernel_rfl) ?_); (repeat (go_big_quiet_step ((fail)))); refine wpQuiet_nil ?_; intro w' hw'; obtain ⟨x, rfl⟩ := hw'))
        go_ret
        exact ⟨rfl, hup.trans (by repeat' (first | (with_reducible exact Up.refl _) | (with_reducible assumption) | (with_reducible refine Up.alloc ?_ _) | (with_reducible refine Up.drew ?_) | (with_reducible refine Up.grow ?_ _) | (with_reducible refine Up.setCell ?_ (by (try simp); (try omega)) _)))⟩
  have m1_ : (p : Int) * s ≤ 1000000000 * 1000000000 := Int.mul_le_mul (by omega) hs (by omega) (by omega)
  have m2_ : (r : Int) * q ≤ 1000000000 * 1000000000 := Int.mul_le_mul (by omega) hq (by omega) (by omega)
  have m3_ : 0 ≤ (p : Int) * s := Int.mul_nonneg (by omega) (by omega)
  have m4_ : 0 ≤ (r : Int) * q := Int.mul_nonneg (by omega) (by omega)
  obtain ⟨PS, hPS⟩ : ∃ PS, (p : Int) * s = PS := ⟨_, rfl⟩
  obtain ⟨RQ, hRQ⟩ : ∃ RQ, (r : Int) * q = RQ := ⟨_, rfl⟩
  rw [hPS] at m1_ m3_ f3_
  rw [hRQ] at m2_ m4_ f3_
  have i1_ : IntKind.i64.wrap ((p : Int) * s) = PS := by rw [hPS]; exact IntWalk.i64_in _ (by omega)
  have i2_ : IntKind.i64.wrap ((r : Int) * q) = RQ := by rw [hRQ]; exact IntWalk.i64_in _ (by omega)
  have i3_ : ¬ RQ < PS := by omega
  clear hPS hRQ
  go_upto_region 15 with (first | (go_at_call 69; (with_reducible refine (H3.out _ _ _ hv5 hv6).mono ?_); rintro e w' ⟨rfl, hu⟩; (have hT := hT.up hu); (have hup := hup.trans hu); (have hv := hv.up hu); (try (have hT2 := hT2.up hu; have r0 := hT2.cell 0; have r1 := hT2.cell 1; have ri := hT2.inw)); (try have hv2 := hv2.up hu); (try have hi1 := hi1.up hu); (try have hi2 := hi2.up hu); (try have hq9 := hq9.trans hu); (have q0 := hT.cell 0); (have q1 := hT.cell 1); (have qi := hT.inw); (try (have hT3 := hT3.up hu; have d0 := hT3.cell 0; have d1 := hT3.cell 1; have di := hT3.inw)); (try (have hT4 := hT4.up hu; have f0 := hT4.cell 0; have f1 := hT4.cell 1; have fi := hT4.inw)); (try (have hT5 := hT5.up hu; have g0 := hT5.cell 0; have g1 := hT5.cell 1; have gi := hT5.inw)); (try (have hT6 := hT6.up hu; have k0 := hT6.cell 0; have k1 := hT6.cell 1; have ki := hT6.inw)); (try have hv3 := hv3.up hu); (try have hv4 := hv4.up hu); (try have hv5 := hv5.up hu); (try have hv6 := hv6.up hu)) | (go_at_call 70; (with_reducible refine (H4.out _ _ _ hv5 hv6).mono ?_); rintro e w' ⟨rfl, hu⟩; (have hT := hT.up hu); (have hup := hup.trans hu); (have hv := hv.up hu); (try (have hT2 := hT2.up hu; have r0 := hT2.cell 0; have r1 := hT2.cell 1; have ri := hT2.inw)); (try have hv2 := hv2.up hu); (try have hi1 := hi1.up hu); (try have hi2 := hi2.up hu); (try have hq9 := hq9.trans hu); (have q0 := hT.cell 0); (have q1 := hT.cell 1); (have qi := hT.inw); (try (have hT3 := hT3.up hu; have d0 := hT3.cell 0; have d1 := hT3.cell 1; have di := hT3.inw)); (try (have hT4 := hT4.up hu; have f0 := hT4.cell 0; have f1 := hT4.cell 1; have fi := hT4.inw)); (try (have hT5 := hT5.up hu; have g0 := hT5.cell 0; have g1 := hT5.cell 1; have gi := hT5.inw)); (try (have hT6 := hT6.up hu; have k0 := hT6.cell 0; have k1 := hT6.cell 1; have ki := hT6.inw)); (try have hv3 := hv3.up hu); (try have hv4 := hv4.up hu); (try have hv5 := hv5.up hu); (try have hv6 := hv6.up hu)) | (go_at_call 71; (with_reducible refine (H5.out _ _ _ hv5 hv6).mono ?_); rintro e w' ⟨rfl, hu⟩; (have hT := hT.up hu); (have hup := hup.trans hu); (have hv := hv.up hu); (try (have hT2 := hT2.up hu; have r0 := hT2.cell 0; have r1 := hT2.cell 1; have ri := hT2.inw)); (try have hv2 := hv2.up hu); (try have hi1 := hi1.up hu); (try have hi2 := hi2.up hu); (try have hq9 := hq9.trans hu); (have q0 := hT.cell 0); (have q1 := hT.cell 1); (have qi := hT.inw); (try (have hT3 := hT3.up hu; have d0 := hT3.cell 0; have d1 := hT3.cell 1; have di := hT3.inw)); (try (have hT4 := hT4.up hu; have f0 := hT4.cell 0; have f1 := hT4.cell 1; have fi := hT4.inw)); (try (have hT5 := hT5.up hu; have g0 := hT5.cell 0; have g1 := hT5.cell 1; have gi := hT5.inw)); (try (have hT6 := hT6.up hu; have k0 := hT6.cell 0; have k1 := hT6.cell 1; have ki := hT6.inw)); (try have hv3 := hv3.up hu); (try have hv4 := hv4.up hu); (try have hv5 := hv5.up hu); (try have hv6 := hv6.up hu)) | (go_at_call 72; (with_reducible refine (H6.out _ _ _ hv5 hv6).mono ?_); rintro e w' ⟨rfl, hu⟩; (have hT := hT.up hu); (have hup := hup.trans hu); (have hv := hv.up hu); (try (have hT2 := hT2.up hu; have r0 := hT2.cell 0; have r1 := hT2.cell 1; have ri := hT2.inw)); (try have hv2 := hv2.up hu); (try have hi1 := hi1.up hu); (try have hi2 := hi2.up hu); (try have hq9 := hq9.trans hu); (have q0 := hT.cell 0); (have q1 := hT.cell 1); (have qi := hT.inw); (try (have hT3 := hT3.up hu; have d0 := hT3.cell 0; have d1 := hT3.cell 1; have di := hT3.inw)); (try (have hT4 := hT4.up hu; have f0 := hT4.cell 0; have f1 := hT4.cell 1; have fi := hT4.inw)); (try (have hT5 := hT5.up hu; have g0 := hT5.cell 0; have g1 := hT5.cell 1; have gi := hT5.inw)); (try (have hT6 := hT6.up hu; have k0 := hT6.cell 0; have k1 := hT6.cell 1; have ki := hT6.inw)); (try have hv3 := hv3.up hu); (try have hv4 := hv4.up hu); (try have hv5 := hv5.up hu); (try have hv6 := hv6.up hu)) | (go_at_call 73; (with_reducible refine (l_LikeT J _ _ _ hv3 hv4).mono ?_); rintro e wL ⟨rfl, hu⟩; (have hT := hT.up hu); (have hup := hup.trans hu); (have hv := hv.up hu); (try (have hT2 := hT2.up hu; have r0 := hT2.cell 0; have r1 := hT2.cell 1; have ri := hT2.inw)); (try have hv2 := hv2.up hu); (try have hi1 := hi1.up hu); (try have hi2 := hi2.up hu); (try have hq9 := hq9.trans hu); (have q0 := hT.cell 0); (have q1 := hT.cell 1); (have qi := hT.inw); (try (have hT3 := hT3.up hu; have d0 := hT3.cell 0; have d1 := hT3.cell 1; have di := hT3.inw)); (try (have hT4 := hT4.up hu; have f0 := hT4.cell 0; have f1 := hT4.cell 1; have fi := hT4.inw)); (try (have hT5 := hT5.up hu; have g0 := hT5.cell 0; have g1 := hT5.cell 1; have gi := hT5.inw)); (try (have hT6 := hT6.up hu; have k0 := hT6.cell 0; have k1 := hT6.cell 1; have ki := hT6.inw)); (try have hv3 := hv3.up hu); (try have hv4 := hv4.up hu); (try have hv5 := hv5.up hu); (try have hv6 := hv6.up hu)) | ((first | with_reducible refine wp_region_in x (by kernel_rfl) (by kernel_rfl) ?_ | with_reducible refine wp_region_here (by kernel_rfl) (by kernel_rfl) ?_); (repeat (go_big_quiet_step ((fail)))); refine wpQuiet_nil ?_; intro w' hw'; obtain ⟨x, rfl⟩ := hw'))
  clear hu
  by_cases z1 : K1 = 0
  case neg =>
    (have hz1 : ((K1) != 0) = true := (by simpa using z1)); (have hz2 : ((K1) == 0) = false := (by simpa using z1))
    clear z1
    go_wp2
    go_ret
    exact ⟨rfl, hup.trans (by repeat' (first | (with_reducible exact Up.refl _) | (with_reducible assumption) | (with_reducible refine Up.alloc ?_ _) | (with_reducible refine Up.drew ?_) | (with_reducible refine Up.grow ?_ _) | (with_reducible refine Up.setCell ?_ (by (try simp); (try omega)) _)))⟩
  obtain ⟨hJ, hJf, hT1, i, hxi, hx0, HJ⟩ := FJ.out z1
  subst z1
  have HIv := Lib.hid (i_Valid J true ((Tab.okB_iff J).2 hJ))
  obtain ⟨hI3, hn3, hm3, hl3⟩ := hv3.ints
  have hJb : (J.first == x) = true := by simpa using hJf
  have hxH := Lib.hid hxi
  have HJ := Lib.hid HJ
  have q3_ := hT1.fin
  clear hJf hxi
  go_upto_region 18 with (fail)
  go_loopw [28] (fun i wr => ∃ (j : Nat) (z : Grow wL), j ≤ J.n ∧ i = .int .i64 j ∧ wr = z.to) (fun i _ => J.n - (intOf i).toNat)
  case atStart => exact ⟨0, ⟨wL, Below.refl _ _⟩, Nat.zero_le _, rfl, rfl⟩
  case round =>
    obtain ⟨j, z, hj, rfl, rfl⟩ := hrel
    have hu : Up wL z.to := z.below
    have hq9 := hu
    have hI3 := hI3.up hu
    (have hT := hT.up hu); (have hup := hup.trans hu); (have hv := hv.up hu); (try (have hT2 := hT2.up hu; have r0 := hT2.cell 0; have r1 := hT2.cell 1; have ri := hT2.inw)); (try have hv2 := hv2.up hu); (try have hi1 := hi1.up hu); (try have hi2 := hi2.up hu); (try have hq9 := hq9.trans hu); (have q0 := hT.cell 0); (have q1 := hT.cell 1); (have qi := hT.inw); (try (have hT3 := hT3.up hu; have d0 := hT3.cell 0; have d1 := hT3.cell 1; have di := hT3.inw)); (try (have hT4 := hT4.up hu; have f0 := hT4.cell 0; have f1 := hT4.cell 1; have fi := hT4.inw)); (try (have hT5 := hT5.up hu; have g0 := hT5.cell 0; have g1 := hT5.cell 1; have gi := hT5.inw)); (try (have hT6 := hT6.up hu; have k0 := hT6.cell 0; have k1 := hT6.cell 1; have ki := hT6.inw)); (try have hv3 := hv3.up hu); (try have hv4 := hv4.up hu); (try have hv5 := hv5.up hu); (try have hv6 := hv6.up hu)
    clear hu
    generalize z.to = wz at *
    by_cases hlt : j < J.n
    · obtain ⟨n1_, n2_⟩ := HJ.out j hlt
      have HLj := i_LivesAt T (T.first + ((i + j : Nat) : Int))
      simp only [aC_in hT1 (show T.first + ((i + j : Nat) : Int) ≤ 150 by omega), RetQ_ok, ix_k] at HLj
      rw [show T.first + ((i + j : Nat) : Int) = x + j from by have := hxH.out; omega] at HLj
      replace HLj := Lib.hid HLj
      obtain ⟨b3, off3, eA, hlb3, hc3⟩ := hI3 j hlt
      subst eA
      have hxj : ¬ 150 < x + (j : Int) := by have := hxH.out; omega
      have i1 : IntKind.i64.wrap (x + j) = x + j := IntWalk.i64_in _ (by omega)
      have hle : ¬ T.lv (i + j) < J.f j := by omega
      generalize T.lv (i + j) = LV at *
      generalize J.f j = JF at *
      clear n1_ n2_
      go_wp2_with (go_at_call 58; (with_reducible refine (HLj.out _ _ hv).mono ?_); rintro e wy ⟨rfl, hu⟩; (have hT := hT.up hu); (have hup := hup.trans hu); (have hv := hv.up hu); (try (have hT2 := hT2.up hu; have r0 := hT2.cell 0; have r1 := hT2.cell 1; have ri := hT2.inw)); (try have hv2 := hv2.up hu); (try have hi1 := hi1.up hu); (try have hi2 := hi2.up hu); (try have hq9 := hq9.trans hu); (have q0 := hT.cell 0); (have q1 := hT.cell 1); (have qi := hT.inw); (try (have hT3 := hT3.up hu; have d0 := hT3.cell 0; have d1 := hT3.cell 1; have di := hT3.inw)); (try (have hT4 := hT4.up hu; have f0 := hT4.cell 0; have f1 := hT4.cell 1; have fi := hT4.inw)); (try (have hT5 := hT5.up hu; have g0 := hT5.cell 0; have g1 := hT5.cell 1; have gi := hT5.inw)); (try (have hT6 := hT6.up hu; have k0 := hT6.cell 0; have k1 := hT6.cell 1; have ki := hT6.inw)); (try have hv3 := hv3.up hu); (try have hv4 := hv4.up hu); (try have hv5 := hv5.up hu); (try have hv6 := hv6.up hu); have hc3b : wy.cell? ⟨b3, off3 + j, none⟩ = some (.int .i64 JF) := (hu.cell (p := ⟨b3, off3 + j, none⟩) hlb3).trans hc3; have iw3 : InW wy b3 := Nat.lt_of_lt_of_le hlb3 hu.size)
      go_roundw
      case rel => exact ⟨j + 1, ⟨wy, hq9⟩, by omega, by go_num, rfl⟩
      case measure => simp [intOf]; omega
    · have hlt1 : ¬ (j : Int) < (J.n : Int) := by omega
      clear hI3
      go_wp2_with (first | (go_at_call 74; (with_reducible refine (HIv.out _ _ hv3).mono ?_); rintro e w' ⟨rfl, hu⟩; (have hT := hT.up hu); (have hup := hup.trans hu); (have hv := hv.up hu); (try (have hT2 := hT2.up hu; have r0 := hT2.cell 0; have r1 := hT2.cell 1; have ri := hT2.inw)); (try have hv2 := hv2.up hu); (try have hi1 := hi1.up hu); (try have hi2 := hi2.up hu); (try have hq9 := hq9.trans hu); (have q0 := hT.cell 0); (have q1 := hT.cell 1); (have qi := hT.inw); (try (have hT3 := hT3.up hu; have d0 := hT3.cell 0; have d1 := hT3.cell 1; have di := hT3.inw)); (try (have hT4 := hT4.up hu; have f0 := hT4.cell 0; have f1 := hT4.cell 1; have fi := hT4.inw)); (try (have hT5 := hT5.up hu; have g0 := hT5.cell 0; have g1 := hT5.cell 1; have gi := hT5.inw)); (try (have hT6 := hT6.up hu; have k0 := hT6.cell 0; have k1 := hT6.cell 1; have ki := hT6.inw)); (try have hv3 := hv3.up hu); (try have hv4 := hv4.up hu); (try have hv5 := hv5.up hu); (try have hv6 := hv6.up hu)) | ((first | with_reducible refine wp_region_in x (by kernel_rfl) (by kernel_rfl) ?_ | with_reducible refine wp_region_here (by kernel_rfl) (by kernel_rfl) ?_); (repeat (go_big_quiet_step ((fail)))); refine wpQuiet_nil ?_; intro w' hw'; obtain ⟨x, rfl⟩ := hw'))
      go_ret
      exact ⟨rfl, hup.trans (by repeat' (first | (with_reducible exact Up.refl _) | (with_reducible assumption) | (with_reducible refine Up.alloc ?_ _) | (with_reducible refine Up.drew ?_) | (with_reducible refine Up.grow ?_ _) | (with_reducible refine Up.setCell ?_ (by (try simp); (try omega)) _)))⟩
end Go.Proofs.Ytdeoampkbbbleaa
