/- The draws of the laws of one table: a code is drawn into a table, a rate, an age, amounts. Condition: a code of at most 4096 bytes. -/
import Derived.Test.YtdeoampkbbbleaaDrawS
namespace Go.Proofs.Ytdeoampkbbbleaa
open Go.RowKit Pu
set_option linter.unusedVariables false
set_option linter.unusedSimpArgs false

set_option maxRecDepth 100000 in
set_option maxHeartbeats 4000000 in
theorem s_DrawColumnsAt (A0 : Option Addr) (L c0 : Nat) (hL : L ≤ 4096) (w : World) (hI : InCode w A0 L c0) :
    Calls Try.prog 75 #[.slice A0 L c0] w (fun e w' => ∃ T A c, ∃ r age : Int, e = .returned (.tuple #[.agg #[.int .i64 T.first, .slice A T.n c], .int .i64 r, .int .i64 age]) ∧ Up w w' ∧ TabOwn w w' T (.agg #[.int .i64 T.first, .slice A T.n c])) := by
  have HI := Lib.hid hI
  go_enter Try.func75, Try.ntmps75
  go_upto_region 2 with (go_at_call 162; refine (s_FromW A0 L c0 hL _ (HI.out.up (by repeat' (first | (with_reducible exact Up.refl _) | (with_reducible assumption) | (with_reducible refine Up.alloc ?_ _) | (with_reducible refine Up.drew ?_) | (with_reducible refine Up.grow ?_ _) | (with_reducible refine Up.setCell ?_ (by (try simp); (try omega)) _))))).mono ?_; rintro e w2 ⟨b, rfl, hu2, hRb, hs⟩)
  rw [World.size_alloc] at hRb
  have hs := hs w (Up.alloc (Up.refl w) _) HI.out
  have hR : Blk w2 w.heap.size 31 #[.int .i64 0, .slice none 0 0] := (Blk.new w _ _).up hu2
  have hb2 := hs.inw
  have hw2 := hu2.size
  rw [World.size_alloc] at hw2
  clear hu2 hI
  go_upto_region 3 with (go_at_call 195; (with_reducible refine (s_Draw5 _ hs).mono ?_); rintro e w3 ⟨T, A, c, r, rfl, hg3, hs3, hO, hf, hn, hr⟩)
  have hz3 := hg3.size
  have u4 : Up w3 (w3.alloc (.cells #[.int .i64 T.first, .slice A T.n c] 31)) := Up.alloc (Up.refl w3) _
  have hD : DT w w w2 (w3.alloc (.cells #[.int .i64 T.first, .slice A T.n c] 31)) b w.heap.size w3.heap.size T A c :=
    { src := hs3.up u4, gb := ((Gb.of hs.ups).trans hg3).up u4, l0 := Nat.le_refl _, own := hO.up u4, box := Blk.new w3 _ _, res := (hR.gb (by omega) hg3).up u4, lb := hb2, lR := Nat.le_refl _, lR1 := by omega, l1 := hz3, nT := by omega, nR := by omega }
  clear hs hg3 hs3 hO hR u4 hz3 hb2 hRb
  obtain ⟨m1, m2⟩ := hD.neq
  have hww : w.heap.size ≤ w2.heap.size := by omega
  generalize w3.alloc (.cells #[.int .i64 T.first, .slice A T.n c] 31) = w4 at *
  generalize w3.heap.size = bT at *
  (have q0 := hD.box.cell 0); (have q1 := hD.box.cell 1); (have qi := hD.box.inw); (have p0 := hD.res.cell 0); (have p1 := hD.res.cell 1); (have pf := hD.res.frozen); (have pi_ := hD.res.inw)
  go_region_held3 (fun w' => w'.cell? ⟨bT, 0, none⟩ = some (.int .i64 T.first) ∧ w'.cell? ⟨bT, 1, none⟩ = some (.slice A T.n c)) ((repeat' apply And.intro) <;> go_simp) (first | (go_at_call 184; (with_reducible refine ((hD.up (by repeat' (first | (with_reducible exact Up.refl _) | (with_reducible assumption) | (with_reducible refine Up.alloc ?_ _) | (with_reducible refine Up.drew ?_) | (with_reducible refine Up.grow ?_ _) | (with_reducible refine Up.setCell ?_ (by (try simp); (try omega)) _)))).age hf hn).mono ?_); rintro e wA ⟨age, rfl, hage, hg1, hs1⟩; (have hD := hD.on ((Gb.of (by repeat' (first | (with_reducible exact Up.refl _) | (with_reducible assumption) | (with_reducible refine Up.alloc ?_ _) | (with_reducible refine Up.drew ?_) | (with_reducible refine Up.grow ?_ _) | (with_reducible refine Up.setCell ?_ (by (try simp); (try omega)) _)))).trans hg1) hs1); ((have q0 := hD.box.cell 0); (have q1 := hD.box.cell 1); (have qi := hD.box.inw); (have p0 := hD.res.cell 0); (have p1 := hD.res.cell 1); (have pf := hD.res.frozen); (have pi_ := hD.res.inw))))
  all_goals
    go_wp2
    refine bodyPost_ret (v := .tuple #[.agg #[.int .i64 T.first, .slice A T.n c], .int .i64 r, .int .i64 age]) (by simp [results, Try.results75, go_sem, p0, p1, pf, pi_, m1, m2]) rfl ?_
    obtain ⟨_, e1, e2⟩ := hD.fin hww (.int .i64 T.first) (.slice A T.n c)
    exact ⟨T, A, c, _, _, rfl, e1.ups, e2⟩
set_option maxRecDepth 100000 in
set_option maxHeartbeats 4000000 in
theorem s_DrawLivesAt (A0 : Option Addr) (L c0 : Nat) (hL : L ≤ 4096) (w : World) (hI : InCode w A0 L c0) :
    Calls Try.prog 174 #[.slice A0 L c0] w (fun e w' => ∃ T A c, ∃ age : Int, e = .returned (.tuple #[.agg #[.int .i64 T.first, .slice A T.n c], .int .i64 age]) ∧ Up w w' ∧ TabOwn w w' T (.agg #[.int .i64 T.first, .slice A T.n c])) := by
  have HI := Lib.hid hI
  go_enter Try.func174, Try.ntmps174
  go_upto_region 2 with (go_at_call 162; refine (s_FromW A0 L c0 hL _ (HI.out.up (by repeat' (first | (with_reducible exact Up.refl _) | (with_reducible assumption) | (with_reducible refine Up.alloc ?_ _) | (with_reducible refine Up.drew ?_) | (with_reducible refine Up.grow ?_ _) | (with_reducible refine Up.setCell ?_ (by (try simp); (try omega)) _))))).mono ?_; rintro e w2 ⟨b, rfl, hu2, hRb, hs⟩)
  rw [World.size_alloc] at hRb
  have hs := hs w (Up.alloc (Up.refl w) _) HI.out
  have hR : Blk w2 w.heap.size 31 #[.int .i64 0, .slice none 0 0] := (Blk.new w _ _).up hu2
  have hb2 := hs.inw
  have hw2 := hu2.size
  rw [World.size_alloc] at hw2
  clear hu2 hI
  go_upto_region 3 with (go_at_call 182; (with_reducible refine (s_Draw3 _ hs).mono ?_); rintro e w3 h3; obtain ⟨T, A, c, rfl, hg3, hs3, hO, hf, hn⟩ := h3.form)
  have hz3 := hg3.size
  have u4 : Up w3 (w3.alloc (.cells #[.int .i64 T.first, .slice A T.n c] 31)) := Up.alloc (Up.refl w3) _
  have hD : DT w w w2 (w3.alloc (.cells #[.int .i64 T.first, .slice A T.n c] 31)) b w.heap.size w3.heap.size T A c :=
    { src := hs3.up u4, gb := ((Gb.of hs.ups).trans hg3).up u4, l0 := Nat.le_refl _, own := hO.up u4, box := Blk.new w3 _ _, res := (hR.gb (by omega) hg3).up u4, lb := hb2, lR := Nat.le_refl _, lR1 := by omega, l1 := hz3, nT := by omega, nR := by omega }
  clear hs hg3 hs3 hO hR u4 hz3 hb2 hRb
  obtain ⟨m1, m2⟩ := hD.neq
  have hww : w.heap.size ≤ w2.heap.size := by omega
  generalize w3.alloc (.cells #[.int .i64 T.first, .slice A T.n c] 31) = w4 at *
  generalize w3.heap.size = bT at *
  (have q0 := hD.box.cell 0); (have q1 := hD.box.cell 1); (have qi := hD.box.inw); (have p0 := hD.res.cell 0); (have p1 := hD.res.cell 1); (have pf := hD.res.frozen); (have pi_ := hD.res.inw)
  go_region_held3 (fun w' => w'.cell? ⟨bT, 0, none⟩ = some (.int .i64 T.first) ∧ w'.cell? ⟨bT, 1, none⟩ = some (.slice A T.n c)) ((repeat' apply And.intro) <;> go_simp) (first | (go_at_call 184; (with_reducible refine ((hD.up (by repeat' (first | (with_reducible exact Up.refl _) | (with_reducible assumption) | (with_reducible refine Up.alloc ?_ _) | (with_reducible refine Up.drew ?_) | (with_reducible refine Up.grow ?_ _) | (with_reducible refine Up.setCell ?_ (by (try simp); (try omega)) _)))).age hf hn).mono ?_); rintro e wA ⟨age, rfl, hage, hg1, hs1⟩; (have hD := hD.on ((Gb.of (by repeat' (first | (with_reducible exact Up.refl _) | (with_reducible assumption) | (with_reducible refine Up.alloc ?_ _) | (with_reducible refine Up.drew ?_) | (with_reducible refine Up.grow ?_ _) | (with_reducible refine Up.setCell ?_ (by (try simp); (try omega)) _)))).trans hg1) hs1); ((have q0 := hD.box.cell 0); (have q1 := hD.box.cell 1); (have qi := hD.box.inw); (have p0 := hD.res.cell 0); (have p1 := hD.res.cell 1); (have pf := hD.res.frozen); (have pi_ := hD.res.inw))))
  all_goals
    go_wp2
    refine bodyPost_ret (v := .tuple #[.agg #[.int .i64 T.first, .slice A T.n c], .int .i64 age]) (by simp [results, Try.results174, go_sem, p0, p1, pf, pi_, m1, m2]) rfl ?_
    obtain ⟨_, e1, e2⟩ := hD.fin hww (.int .i64 T.first) (.slice A T.n c)
    exact ⟨T, A, c, _, rfl, e1.ups, e2⟩
set_option maxRecDepth 100000 in
set_option maxHeartbeats 4000000 in
theorem s_DrawLifeAnnuity (A0 : Option Addr) (L c0 : Nat) (hL : L ≤ 4096) (w : World) (hI : InCode w A0 L c0) :
    Calls Try.prog 111 #[.slice A0 L c0] w (fun e w' => ∃ T A c, ∃ r age amt : Int, e = .returned (.tuple #[.agg #[.int .i64 T.first, .slice A T.n c], .int .i64 r, .int .i64 age, .int .i64 amt]) ∧ Up w w' ∧ TabOwn w w' T (.agg #[.int .i64 T.first, .slice A T.n c])) := by
  have HI := Lib.hid hI
  go_enter Try.func111, Try.ntmps111
  go_upto_region 2 with (go_at_call 162; refine (s_FromW A0 L c0 hL _ (HI.out.up (by repeat' (first | (with_reducible exact Up.refl _) | (with_reducible assumption) | (with_reducible refine Up.alloc ?_ _) | (with_reducible refine Up.drew ?_) | (with_reducible refine Up.grow ?_ _) | (with_reducible refine Up.setCell ?_ (by (try simp); (try omega)) _))))).mono ?_; rintro e w2 ⟨b, rfl, hu2, hRb, hs⟩)
  rw [World.size_alloc] at hRb
  have hs := hs w (Up.alloc (Up.refl w) _) HI.out
  have hR : Blk w2 w.heap.size 31 #[.int .i64 0, .slice none 0 0] := (Blk.new w _ _).up hu2
  have hb2 := hs.inw
  have hw2 := hu2.size
  rw [World.size_alloc] at hw2
  clear hu2 hI
  go_upto_region 3 with (go_at_call 195; (with_reducible refine (s_Draw5 _ hs).mono ?_); rintro e w3 ⟨T, A, c, r, rfl, hg3, hs3, hO, hf, hn, hr⟩)
  have hz3 := hg3.size
  have u4 : Up w3 (w3.alloc (.cells #[.int .i64 T.first, .slice A T.n c] 31)) := Up.alloc (Up.refl w3) _
  have hD : DT w w w2 (w3.alloc (.cells #[.int .i64 T.first, .slice A T.n c] 31)) b w.heap.size w3.heap.size T A c :=
    { src := hs3.up u4, gb := ((Gb.of hs.ups).trans hg3).up u4, l0 := Nat.le_refl _, own := hO.up u4, box := Blk.new w3 _ _, res := (hR.gb (by omega) hg3).up u4, lb := hb2, lR := Nat.le_refl _, lR1 := by omega, l1 := hz3, nT := by omega, nR := by omega }
  clear hs hg3 hs3 hO hR u4 hz3 hb2 hRb
  obtain ⟨m1, m2⟩ := hD.neq
  have hww : w.heap.size ≤ w2.heap.size := by omega
  generalize w3.alloc (.cells #[.int .i64 T.first, .slice A T.n c] 31) = w4 at *
  generalize w3.heap.size = bT at *
  (have q0 := hD.box.cell 0); (have q1 := hD.box.cell 1); (have qi := hD.box.inw); (have p0 := hD.res.cell 0); (have p1 := hD.res.cell 1); (have pf := hD.res.frozen); (have pi_ := hD.res.inw)
  go_region_held3 (fun w' => w'.cell? ⟨bT, 0, none⟩ = some (.int .i64 T.first) ∧ w'.cell? ⟨bT, 1, none⟩ = some (.slice A T.n c)) ((repeat' apply And.intro) <;> go_simp) (first | (go_at_call 184; (with_reducible refine ((hD.up (by repeat' (first | (with_reducible exact Up.refl _) | (with_reducible assumption) | (with_reducible refine Up.alloc ?_ _) | (with_reducible refine Up.drew ?_) | (with_reducible refine Up.grow ?_ _) | (with_reducible refine Up.setCell ?_ (by (try simp); (try omega)) _)))).age hf hn).mono ?_); rintro e wA ⟨age, rfl, hage, hg1, hs1⟩; (have hD := hD.on ((Gb.of (by repeat' (first | (with_reducible exact Up.refl _) | (with_reducible assumption) | (with_reducible refine Up.alloc ?_ _) | (with_reducible refine Up.drew ?_) | (with_reducible refine Up.grow ?_ _) | (with_reducible refine Up.setCell ?_ (by (try simp); (try omega)) _)))).trans hg1) hs1); ((have q0 := hD.box.cell 0); (have q1 := hD.box.cell 1); (have qi := hD.box.inw); (have p0 := hD.res.cell 0); (have p1 := hD.res.cell 1); (have pf := hD.res.frozen); (have pi_ := hD.res.inw))) | (go_at_call 224; (with_reducible refine (s_l06DrawAmount _ (hD.src.up (by repeat' (first | (with_reducible exact Up.refl _) | (with_reducible assumption) | (with_reducible refine Up.alloc ?_ _) | (with_reducible refine Up.drew ?_) | (with_reducible refine Up.grow ?_ _) | (with_reducible refine Up.setCell ?_ (by (try simp); (try omega)) _))))).mono ?_); rintro e w' ⟨amt, rfl, hamt, hg1, hs1⟩; (have hD := hD.on ((Gb.of (by repeat' (first | (with_reducible exact Up.refl _) | (with_reducible assumption) | (with_reducible refine Up.alloc ?_ _) | (with_reducible refine Up.drew ?_) | (with_reducible refine Up.grow ?_ _) | (with_reducible refine Up.setCell ?_ (by (try simp); (try omega)) _)))).trans hg1) hs1); ((have q0 := hD.box.cell 0); (have q1 := hD.box.cell 1); (have qi := hD.box.inw); (have p0 := hD.res.cell 0); (have p1 := hD.res.cell 1); (have pf := hD.res.frozen); (have pi_ := hD.res.inw))))
  all_goals
    go_wp2
    refine bodyPost_ret (v := .tuple #[.agg #[.int .i64 T.first, .slice A T.n c], .int .i64 r, .int .i64 age, .int .i64 amt]) (by simp [results, Try.results111, go_sem, p0, p1, pf, pi_, m1, m2]) rfl ?_
    obtain ⟨_, e1, e2⟩ := hD.fin hww (.int .i64 T.first) (.slice A T.n c)
    exact ⟨T, A, c, _, _, _, rfl, e1.ups, e2⟩
set_option maxRecDepth 100000 in
set_option maxHeartbeats 4000000 in
theorem s_DrawTermAnnuity (A0 : Option Addr) (L c0 : Nat) (hL : L ≤ 4096) (w : World) (hI : InCode w A0 L c0) :
    Calls Try.prog 100 #[.slice A0 L c0] w (fun e w' => ∃ T A c, ∃ r age amt n : Int, e = .returned (.tuple #[.agg #[.int .i64 T.first, .slice A T.n c], .int .i64 r, .int .i64 age, .int .i64 amt, .int .i64 n]) ∧ Up w w' ∧ TabOwn w w' T (.agg #[.int .i64 T.first, .slice A T.n c])) := by
  have HI := Lib.hid hI
  go_enter Try.func100, Try.ntmps100
  go_upto_region 2 with (go_at_call 162; refine (s_FromW A0 L c0 hL _ (HI.out.up (by repeat' (first | (with_reducible exact Up.refl _) | (with_reducible assumption) | (with_reducible refine Up.alloc ?_ _) | (with_reducible refine Up.drew ?_) | (with_reducible refine Up.grow ?_ _) | (with_reducible refine Up.setCell ?_ (by (try simp); (try omega)) _))))).mono ?_; rintro e w2 ⟨b, rfl, hu2, hRb, hs⟩)
  rw [World.size_alloc] at hRb
  have hs := hs w (Up.alloc (Up.refl w) _) HI.out
  have hR : Blk w2 w.heap.size 31 #[.int .i64 0, .slice none 0 0] := (Blk.new w _ _).up hu2
  have hb2 := hs.inw
  have hw2 := hu2.size
  rw [World.size_alloc] at hw2
  clear hu2 hI
  go_upto_region 3 with (go_at_call 195; (with_reducible refine (s_Draw5 _ hs).mono ?_); rintro e w3 ⟨T, A, c, r, rfl, hg3, hs3, hO, hf, hn, hr⟩)
  have hz3 := hg3.size
  have u4 : Up w3 (w3.alloc (.cells #[.int .i64 T.first, .slice A T.n c] 31)) := Up.alloc (Up.refl w3) _
  have hD : DT w w w2 (w3.alloc (.cells #[.int .i64 T.first, .slice A T.n c] 31)) b w.heap.size w3.heap.size T A c :=
    { src := hs3.up u4, gb := ((Gb.of hs.ups).trans hg3).up u4, l0 := Nat.le_refl _, own := hO.up u4, box := Blk.new w3 _ _, res := (hR.gb (by omega) hg3).up u4, lb := hb2, lR := Nat.le_refl _, lR1 := by omega, l1 := hz3, nT := by omega, nR := by omega }
  clear hs hg3 hs3 hO hR u4 hz3 hb2 hRb
  obtain ⟨m1, m2⟩ := hD.neq
  have hww : w.heap.size ≤ w2.heap.size := by omega
  generalize w3.alloc (.cells #[.int .i64 T.first, .slice A T.n c] 31) = w4 at *
  generalize w3.heap.size = bT at *
  (have q0 := hD.box.cell 0); (have q1 := hD.box.cell 1); (have qi := hD.box.inw); (have p0 := hD.res.cell 0); (have p1 := hD.res.cell 1); (have pf := hD.res.frozen); (have pi_ := hD.res.inw)
  go_upto_region 4 with (go_at_call 183; (with_reducible refine (s_Next _ _ (hD.src.up (by repeat' (first | (with_reducible exact Up.refl _) | (with_reducible assumption) | (with_reducible refine Up.alloc ?_ _) | (with_reducible refine Up.drew ?_) | (with_reducible refine Up.grow ?_ _) | (with_reducible refine Up.setCell ?_ (by (try simp); (try omega)) _))))).mono ?_); rintro e w5 ⟨z, rfl, hz, hg1, hs1⟩; (have hD := hD.on ((Gb.of (by repeat' (first | (with_reducible exact Up.refl _) | (with_reducible assumption) | (with_reducible refine Up.alloc ?_ _) | (with_reducible refine Up.drew ?_) | (with_reducible refine Up.grow ?_ _) | (with_reducible refine Up.setCell ?_ (by (try simp); (try omega)) _)))).trans hg1) hs1); ((have q0 := hD.box.cell 0); (have q1 := hD.box.cell 1); (have qi := hD.box.inw); (have p0 := hD.res.cell 0); (have p1 := hD.res.cell 1); (have pf := hD.res.frozen); (have pi_ := hD.res.inw)))
  · (have hB : Blk ((w5.alloc (.cells #[.int .i64 (-1), .int .i64 (0), .int .i64 (120), .int .i64 (121)] 2)).drew) w5.heap.size 2 #[.int .i64 (-1), .int .i64 (0), .int .i64 (120), .int .i64 (121)] := (Blk.new w5 2 #[.int .i64 (-1), .int .i64 (0), .int .i64 (120), .int .i64 (121)]).drew); (have hBn : w5.heap.size ≠ b := (by have h1 := hD.src.inw; omega))
    go_region_held3 (fun w' => w'.cell? ⟨bT, 0, none⟩ = some (.int .i64 T.first) ∧ w'.cell? ⟨bT, 1, none⟩ = some (.slice A T.n c)) ((repeat' apply And.intro) <;> go_simp) (first | (go_at_call 184; (with_reducible refine ((hD.up (by repeat' (first | (with_reducible exact Up.refl _) | (with_reducible assumption) | (with_reducible refine Up.alloc ?_ _) | (with_reducible refine Up.drew ?_) | (with_reducible refine Up.grow ?_ _) | (with_reducible refine Up.setCell ?_ (by (try simp); (try omega)) _)))).age hf hn).mono ?_); rintro e wA ⟨age, rfl, hage, hg1, hs1⟩; (first | (have hB : Blk _ w5.heap.size 2 #[.int .i64 (-1), .int .i64 (0), .int .i64 (120), .int .i64 (121)] := Blk.gb (by exact hB) hBn hg1) | skip); ((have hD := hD.on ((Gb.of (by repeat' (first | (with_reducible exact Up.refl _) | (with_reducible assumption) | (with_reducible refine Up.alloc ?_ _) | (with_reducible refine Up.drew ?_) | (with_reducible refine Up.grow ?_ _) | (with_reducible refine Up.setCell ?_ (by (try simp); (try omega)) _)))).trans hg1) hs1); ((have q0 := hD.box.cell 0); (have q1 := hD.box.cell 1); (have qi := hD.box.inw); (have p0 := hD.res.cell 0); (have p1 := hD.res.cell 1); (have pf := hD.res.frozen); (have pi_ := hD.res.inw)))) | (go_at_call 224; (with_reducible refine (s_l06DrawAmount _ (hD.src.up (by repeat' (first | (with_reducible exact Up.refl _) | (with_reducible assumption) | (with_reducible refine Up.alloc ?_ _) | (with_reducible refine Up.drew ?_) | (with_reducible refine Up.grow ?_ _) | (with_reducible refine Up.setCell ?_ (by (try simp); (try omega)) _))))).mono ?_); rintro e w' ⟨amt, rfl, hamt, hg1, hs1⟩; (first | (have hB : Blk _ w5.heap.size 2 #[.int .i64 (-1), .int .i64 (0), .int .i64 (120), .int .i64 (121)] := Blk.gb (by exact hB) hBn hg1) | (have hBn : wA.heap.size ≠ b := (by have h1 := hD.src.inw; omega); have hB : Blk _ wA.heap.size 2 #[.int .i64 (-1), .int .i64 (0), .int .i64 (120), .int .i64 (121)] := Blk.gb (Blk.new wA 2 #[.int .i64 (-1), .int .i64 (0), .int .i64 (120), .int .i64 (121)]) hBn hg1) | skip); ((have hD := hD.on ((Gb.of (by repeat' (first | (with_reducible exact Up.refl _) | (with_reducible assumption) | (with_reducible refine Up.alloc ?_ _) | (with_reducible refine Up.drew ?_) | (with_reducible refine Up.grow ?_ _) | (with_reducible refine Up.setCell ?_ (by (try simp); (try omega)) _)))).trans hg1) hs1); ((have q0 := hD.box.cell 0); (have q1 := hD.box.cell 1); (have qi := hD.box.inw); (have p0 := hD.res.cell 0); (have p1 := hD.res.cell 1); (have pf := hD.res.frozen); (have pi_ := hD.res.inw)))) | (go_at_call 185; (first | (with_reducible refine (s_Pick [-1, 0, 120, 121] 4 rfl (by omega) (by omega) #[.int .i64 (-1), .int .i64 (0), .int .i64 (120), .int .i64 (121)] rfl _ _ (hD.src.up (by repeat' (first | (with_reducible exact Up.refl _) | (with_reducible assumption) | (with_reducible refine Up.alloc ?_ _) | (with_reducible refine Up.drew ?_) | (with_reducible refine Up.grow ?_ _) | (with_reducible refine Up.setCell ?_ (by (try simp); (try omega)) _)))) hB hBn).mono ?_) | (with_reducible refine (s_Pick [-1, 0, 120, 121] 4 rfl (by omega) (by omega) #[.int .i64 (-1), .int .i64 (0), .int .i64 (120), .int .i64 (121)] rfl _ _ (hD.src.up (by repeat' (first | (with_reducible exact Up.refl _) | (with_reducible assumption) | (with_reducible refine Up.alloc ?_ _) | (with_reducible refine Up.drew ?_) | (with_reducible refine Up.grow ?_ _) | (with_reducible refine Up.setCell ?_ (by (try simp); (try omega)) _)))) (by simpa only [World.size_alloc] using Blk.new _ _ _) (by have h1 := hD.src.inw; omega)).mono ?_)); rintro e w' ⟨zp, rfl, hzp, hg1, hs1⟩; (have hD := hD.on ((Gb.of (by repeat' (first | (with_reducible exact Up.refl _) | (with_reducible assumption) | (with_reducible refine Up.alloc ?_ _) | (with_reducible refine Up.drew ?_) | (with_reducible refine Up.grow ?_ _) | (with_reducible refine Up.setCell ?_ (by (try simp); (try omega)) _)))).trans hg1) hs1); ((have q0 := hD.box.cell 0); (have q1 := hD.box.cell 1); (have qi := hD.box.inw); (have p0 := hD.res.cell 0); (have p1 := hD.res.cell 1); (have pf := hD.res.frozen); (have pi_ := hD.res.inw))))
    all_goals
      go_wp2
      refine bodyPost_ret (v := .tuple #[.agg #[.int .i64 T.first, .slice A T.n c], .int .i64 r, .int .i64 age, .int .i64 amt, .int .i64 zp]) (by simp [results, Try.results100, go_sem, p0, p1, pf, pi_, m1, m2]) rfl ?_
      obtain ⟨_, e1, e2⟩ := hD.fin hww (.int .i64 T.first) (.slice A T.n c)
      exact ⟨T, A, c, _, _, _, _, rfl, e1.ups, e2⟩
  · go_region_held3 (fun w' => w'.cell? ⟨bT, 0, none⟩ = some (.int .i64 T.first) ∧ w'.cell? ⟨bT, 1, none⟩ = some (.slice A T.n c)) ((repeat' apply And.intro) <;> go_simp) (first | (go_at_call 184; (with_reducible refine ((hD.up (by repeat' (first | (with_reducible exact Up.refl _) | (with_reducible assumption) | (with_reducible refine Up.alloc ?_ _) | (with_reducible refine Up.drew ?_) | (with_reducible refine Up.grow ?_ _) | (with_reducible refine Up.setCell ?_ (by (try simp); (try omega)) _)))).age hf hn).mono ?_); rintro e wA ⟨age, rfl, hage, hg1, hs1⟩; (have hD := hD.on ((Gb.of (by repeat' (first | (with_reducible exact Up.refl _) | (with_reducible assumption) | (with_reducible refine Up.alloc ?_ _) | (with_reducible refine Up.drew ?_) | (with_reducible refine Up.grow ?_ _) | (with_reducible refine Up.setCell ?_ (by (try simp); (try omega)) _)))).trans hg1) hs1); ((have q0 := hD.box.cell 0); (have q1 := hD.box.cell 1); (have qi := hD.box.inw); (have p0 := hD.res.cell 0); (have p1 := hD.res.cell 1); (have pf := hD.res.frozen); (have pi_ := hD.res.inw))) | (go_at_call 224; (with_reducible refine (s_l06DrawAmount _ (hD.src.up (by repeat' (first | (with_reducible exact Up.refl _) | (with_reducible assumption) | (with_reducible refine Up.alloc ?_ _) | (with_reducible refine Up.drew ?_) | (with_reducible refine Up.grow ?_ _) | (with_reducible refine Up.setCell ?_ (by (try simp); (try omega)) _))))).mono ?_); rintro e w' ⟨amt, rfl, hamt, hg1, hs1⟩; (have hD := hD.on ((Gb.of (by repeat' (first | (with_reducible exact Up.refl _) | (with_reducible assumption) | (with_reducible refine Up.alloc ?_ _) | (with_reducible refine Up.drew ?_) | (with_reducible refine Up.grow ?_ _) | (with_reducible refine Up.setCell ?_ (by (try simp); (try omega)) _)))).trans hg1) hs1); ((have q0 := hD.box.cell 0); (have q1 := hD.box.cell 1); (have qi := hD.box.inw); (have p0 := hD.res.cell 0); (have p1 := hD.res.cell 1); (have pf := hD.res.frozen); (have pi_ := hD.res.inw))) | (go_at_call 183; (with_reducible refine (s_Next _ _ (hD.src.up (by repeat' (first | (with_reducible exact Up.refl _) | (with_reducible assumption) | (with_reducible refine Up.alloc ?_ _) | (with_reducible refine Up.drew ?_) | (with_reducible refine Up.grow ?_ _) | (with_reducible refine Up.setCell ?_ (by (try simp); (try omega)) _))))).mono ?_); rintro e w' ⟨z, rfl, hz, hg1, hs1⟩; (have hD := hD.on ((Gb.of (by repeat' (first | (with_reducible exact Up.refl _) | (with_reducible assumption) | (with_reducible refine Up.alloc ?_ _) | (with_reducible refine Up.drew ?_) | (with_reducible refine Up.grow ?_ _) | (with_reducible refine Up.setCell ?_ (by (try simp); (try omega)) _)))).trans hg1) hs1); ((have q0 := hD.box.cell 0); (have q1 := hD.box.cell 1); (have qi := hD.box.inw); (have p0 := hD.res.cell 0); (have p1 := hD.res.cell 1); (have pf := hD.res.frozen); (have pi_ := hD.res.inw))))
    all_goals
      go_wp2
      refine bodyPost_ret (v := .tuple #[.agg #[.int .i64 T.first, .slice A T.n c], .int .i64 r, .int .i64 age, .int .i64 amt, .int .i64 z]) (by simp [results, Try.results100, go_sem, p0, p1, pf, pi_, m1, m2]) rfl ?_
      obtain ⟨_, e1, e2⟩ := hD.fin hww (.int .i64 T.first) (.slice A T.n c)
      exact ⟨T, A, c, _, _, _, _, rfl, e1.ups, e2⟩
set_option maxRecDepth 100000 in
set_option maxHeartbeats 4000000 in
theorem s_DrawAmountFor (A0 : Option Addr) (L c0 : Nat) (hL : L ≤ 4096) (w : World) (hI : InCode w A0 L c0) :
    Calls Try.prog 108 #[.slice A0 L c0] w (fun e w' => ∃ T A c, ∃ r age n : Int, e = .returned (.tuple #[.agg #[.int .i64 T.first, .slice A T.n c], .int .i64 r, .int .i64 age, .int .i64 n]) ∧ Up w w' ∧ TabOwn w w' T (.agg #[.int .i64 T.first, .slice A T.n c])) := by
  have HI := Lib.hid hI
  go_enter Try.func108, Try.ntmps108
  go_upto_region 2 with (go_at_call 162; refine (s_FromW A0 L c0 hL _ (HI.out.up (by repeat' (first | (with_reducible exact Up.refl _) | (with_reducible assumption) | (with_reducible refine Up.alloc ?_ _) | (with_reducible refine Up.drew ?_) | (with_reducible refine Up.grow ?_ _) | (with_reducible refine Up.setCell ?_ (by (try simp); (try omega)) _))))).mono ?_; rintro e w2 ⟨b, rfl, hu2, hRb, hs⟩)
  rw [World.size_alloc] at hRb
  have hs := hs w (Up.alloc (Up.refl w) _) HI.out
  have hR : Blk w2 w.heap.size 31 #[.int .i64 0, .slice none 0 0] := (Blk.new w _ _).up hu2
  have hb2 := hs.inw
  have hw2 := hu2.size
  rw [World.size_alloc] at hw2
  clear hu2 hI
  go_upto_region 3 with (go_at_call 195; (with_reducible refine (s_Draw5 _ hs).mono ?_); rintro e w3 ⟨T, A, c, r, rfl, hg3, hs3, hO, hf, hn, hr⟩)
  have hz3 := hg3.size
  have u4 : Up w3 (w3.alloc (.cells #[.int .i64 T.first, .slice A T.n c] 31)) := Up.alloc (Up.refl w3) _
  have hD : DT w w w2 (w3.alloc (.cells #[.int .i64 T.first, .slice A T.n c] 31)) b w.heap.size w3.heap.size T A c :=
    { src := hs3.up u4, gb := ((Gb.of hs.ups).trans hg3).up u4, l0 := Nat.le_refl _, own := hO.up u4, box := Blk.new w3 _ _, res := (hR.gb (by omega) hg3).up u4, lb := hb2, lR := Nat.le_refl _, lR1 := by omega, l1 := hz3, nT := by omega, nR := by omega }
  clear hs hg3 hs3 hO hR u4 hz3 hb2 hRb
  obtain ⟨m1, m2⟩ := hD.neq
  have hww : w.heap.size ≤ w2.heap.size := by omega
  generalize w3.alloc (.cells #[.int .i64 T.first, .slice A T.n c] 31) = w4 at *
  generalize w3.heap.size = bT at *
  (have q0 := hD.box.cell 0); (have q1 := hD.box.cell 1); (have qi := hD.box.inw); (have p0 := hD.res.cell 0); (have p1 := hD.res.cell 1); (have pf := hD.res.frozen); (have pi_ := hD.res.inw)
  go_upto_region 4 with (go_at_call 183; (with_reducible refine (s_Next _ _ (hD.src.up (by repeat' (first | (with_reducible exact Up.refl _) | (with_reducible assumption) | (with_reducible refine Up.alloc ?_ _) | (with_reducible refine Up.drew ?_) | (with_reducible refine Up.grow ?_ _) | (with_reducible refine Up.setCell ?_ (by (try simp); (try omega)) _))))).mono ?_); rintro e w5 ⟨z, rfl, hz, hg1, hs1⟩; (have hD := hD.on ((Gb.of (by repeat' (first | (with_reducible exact Up.refl _) | (with_reducible assumption) | (with_reducible refine Up.alloc ?_ _) | (with_reducible refine Up.drew ?_) | (with_reducible refine Up.grow ?_ _) | (with_reducible refine Up.setCell ?_ (by (try simp); (try omega)) _)))).trans hg1) hs1); ((have q0 := hD.box.cell 0); (have q1 := hD.box.cell 1); (have qi := hD.box.inw); (have p0 := hD.res.cell 0); (have p1 := hD.res.cell 1); (have pf := hD.res.frozen); (have pi_ := hD.res.inw)))
  · (have hB : Blk ((w5.alloc (.cells #[.int .i64 (0), .int .i64 (1), .int .i64 (1000000000), .int .i64 (1000000001)] 2)).drew) w5.heap.size 2 #[.int .i64 (0), .int .i64 (1), .int .i64 (1000000000), .int .i64 (1000000001)] := (Blk.new w5 2 #[.int .i64 (0), .int .i64 (1), .int .i64 (1000000000), .int .i64 (1000000001)]).drew); (have hBn : w5.heap.size ≠ b := (by have h1 := hD.src.inw; omega))
    go_region_held3 (fun w' => w'.cell? ⟨bT, 0, none⟩ = some (.int .i64 T.first) ∧ w'.cell? ⟨bT, 1, none⟩ = some (.slice A T.n c)) ((repeat' apply And.intro) <;> go_simp) (first | (go_at_call 184; (with_reducible refine ((hD.up (by repeat' (first | (with_reducible exact Up.refl _) | (with_reducible assumption) | (with_reducible refine Up.alloc ?_ _) | (with_reducible refine Up.drew ?_) | (with_reducible refine Up.grow ?_ _) | (with_reducible refine Up.setCell ?_ (by (try simp); (try omega)) _)))).age hf hn).mono ?_); rintro e wA ⟨age, rfl, hage, hg1, hs1⟩; (first | (have hB : Blk _ w5.heap.size 2 #[.int .i64 (0), .int .i64 (1), .int .i64 (1000000000), .int .i64 (1000000001)] := Blk.gb (by exact hB) hBn hg1) | skip); ((have hD := hD.on ((Gb.of (by repeat' (first | (with_reducible exact Up.refl _) | (with_reducible assumption) | (with_reducible refine Up.alloc ?_ _) | (with_reducible refine Up.drew ?_) | (with_reducible refine Up.grow ?_ _) | (with_reducible refine Up.setCell ?_ (by (try simp); (try omega)) _)))).trans hg1) hs1); ((have q0 := hD.box.cell 0); (have q1 := hD.box.cell 1); (have qi := hD.box.inw); (have p0 := hD.res.cell 0); (have p1 := hD.res.cell 1); (have pf := hD.res.frozen); (have pi_ := hD.res.inw)))) | (go_at_call 185; (first | (with_reducible refine (s_Pick [0, 1, 1000000000, 1000000001] 4 rfl (by omega) (by omega) #[.int .i64 (0), .int .i64 (1), .int .i64 (1000000000), .int .i64 (1000000001)] rfl _ _ (hD.src.up (by repeat' (first | (with_reducible exact Up.refl _) | (with_reducible assumption) | (with_reducible refine Up.alloc ?_ _) | (with_reducible refine Up.drew ?_) | (with_reducible refine Up.grow ?_ _) | (with_reducible refine Up.setCell ?_ (by (try simp); (try omega)) _)))) hB hBn).mono ?_) | (with_reducible refine (s_Pick [0, 1, 1000000000, 1000000001] 4 rfl (by omega) (by omega) #[.int .i64 (0), .int .i64 (1), .int .i64 (1000000000), .int .i64 (1000000001)] rfl _ _ (hD.src.up (by repeat' (first | (with_reducible exact Up.refl _) | (with_reducible assumption) | (with_reducible refine Up.alloc ?_ _) | (with_reducible refine Up.drew ?_) | (with_reducible refine Up.grow ?_ _) | (with_reducible refine Up.setCell ?_ (by (try simp); (try omega)) _)))) (by simpa only [World.size_alloc] using Blk.new _ _ _) (by have h1 := hD.src.inw; omega)).mono ?_)); rintro e w' ⟨zp, rfl, hzp, hg1, hs1⟩; (have hD := hD.on ((Gb.of (by repeat' (first | (with_reducible exact Up.refl _) | (with_reducible assumption) | (with_reducible refine Up.alloc ?_ _) | (with_reducible refine Up.drew ?_) | (with_reducible refine Up.grow ?_ _) | (with_reducible refine Up.setCell ?_ (by (try simp); (try omega)) _)))).trans hg1) hs1); ((have q0 := hD.box.cell 0); (have q1 := hD.box.cell 1); (have qi := hD.box.inw); (have p0 := hD.res.cell 0); (have p1 := hD.res.cell 1); (have pf := hD.res.frozen); (have pi_ := hD.res.inw))))
    all_goals
      go_wp2
      refine bodyPost_ret (v := .tuple #[.agg #[.int .i64 T.first, .slice A T.n c], .int .i64 r, .int .i64 age, .int .i64 zp]) (by simp [results, Try.results108, go_sem, p0, p1, pf, pi_, m1, m2]) rfl ?_
      obtain ⟨_, e1, e2⟩ := hD.fin hww (.int .i64 T.first) (.slice A T.n c)
      exact ⟨T, A, c, _, _, _, rfl, e1.ups, e2⟩
  · go_region_held3 (fun w' => w'.cell? ⟨bT, 0, none⟩ = some (.int .i64 T.first) ∧ w'.cell? ⟨bT, 1, none⟩ = some (.slice A T.n c)) ((repeat' apply And.intro) <;> go_simp) (first | (go_at_call 184; (with_reducible refine ((hD.up (by repeat' (first | (with_reducible exact Up.refl _) | (with_reducible assumption) | (with_reducible refine Up.alloc ?_ _) | (with_reducible refine Up.drew ?_) | (with_reducible refine Up.grow ?_ _) | (with_reducible refine Up.setCell ?_ (by (try simp); (try omega)) _)))).age hf hn).mono ?_); rintro e wA ⟨age, rfl, hage, hg1, hs1⟩; (have hD := hD.on ((Gb.of (by repeat' (first | (with_reducible exact Up.refl _) | (with_reducible assumption) | (with_reducible refine Up.alloc ?_ _) | (with_reducible refine Up.drew ?_) | (with_reducible refine Up.grow ?_ _) | (with_reducible refine Up.setCell ?_ (by (try simp); (try omega)) _)))).trans hg1) hs1); ((have q0 := hD.box.cell 0); (have q1 := hD.box.cell 1); (have qi := hD.box.inw); (have p0 := hD.res.cell 0); (have p1 := hD.res.cell 1); (have pf := hD.res.frozen); (have pi_ := hD.res.inw))) | (go_at_call 183; (with_reducible refine (s_Next 2000000 _ (hD.src.up (by repeat' (first | (with_reducible exact Up.refl _) | (with_reducible assumption) | (with_reducible refine Up.alloc ?_ _) | (with_reducible refine Up.drew ?_) | (with_reducible refine Up.grow ?_ _) | (with_reducible refine Up.setCell ?_ (by (try simp); (try omega)) _))))).mono ?_); rintro e w' ⟨z, rfl, hz, hg1, hs1⟩; have zb0 := hz.1; have zb1 := hz.2.1 (by omega); have zi : IntKind.i64.wrap (1 + z) = 1 + z := IntWalk.i64_in _ (by omega); (have hD := hD.on ((Gb.of (by repeat' (first | (with_reducible exact Up.refl _) | (with_reducible assumption) | (with_reducible refine Up.alloc ?_ _) | (with_reducible refine Up.drew ?_) | (with_reducible refine Up.grow ?_ _) | (with_reducible refine Up.setCell ?_ (by (try simp); (try omega)) _)))).trans hg1) hs1); ((have q0 := hD.box.cell 0); (have q1 := hD.box.cell 1); (have qi := hD.box.inw); (have p0 := hD.res.cell 0); (have p1 := hD.res.cell 1); (have pf := hD.res.frozen); (have pi_ := hD.res.inw))))
    all_goals
      go_wp2
      refine bodyPost_ret (v := .tuple #[.agg #[.int .i64 T.first, .slice A T.n c], .int .i64 r, .int .i64 age, .int .i64 (1 + z)]) (by simp [results, Try.results108, go_sem, p0, p1, pf, pi_, m1, m2]) rfl ?_
      obtain ⟨_, e1, e2⟩ := hD.fin hww (.int .i64 T.first) (.slice A T.n c)
      exact ⟨T, A, c, _, _, _, rfl, e1.ups, e2⟩
set_option maxRecDepth 100000 in
set_option maxHeartbeats 4000000 in
theorem s_DrawSurvivalOf (A0 : Option Addr) (L c0 : Nat) (hL : L ≤ 4096) (w : World) (hI : InCode w A0 L c0) :
    Calls Try.prog 59 #[.slice A0 L c0] w (fun e w' => ∃ T A c, ∃ age n : Int, e = .returned (.tuple #[.agg #[.int .i64 T.first, .slice A T.n c], .int .i64 age, .int .i64 n]) ∧ Up w w' ∧ TabOwn w w' T (.agg #[.int .i64 T.first, .slice A T.n c])) := by
  have HI := Lib.hid hI
  go_enter Try.func59, Try.ntmps59
  go_upto_region 2 with (go_at_call 162; refine (s_FromW A0 L c0 hL _ (HI.out.up (by repeat' (first | (with_reducible exact Up.refl _) | (with_reducible assumption) | (with_reducible refine Up.alloc ?_ _) | (with_reducible refine Up.drew ?_) | (with_reducible refine Up.grow ?_ _) | (with_reducible refine Up.setCell ?_ (by (try simp); (try omega)) _))))).mono ?_; rintro e w2 ⟨b, rfl, hu2, hRb, hs⟩)
  rw [World.size_alloc] at hRb
  have hs := hs w (Up.alloc (Up.refl w) _) HI.out
  have hR : Blk w2 w.heap.size 31 #[.int .i64 0, .slice none 0 0] := (Blk.new w _ _).up hu2
  have hb2 := hs.inw
  have hw2 := hu2.size
  rw [World.size_alloc] at hw2
  clear hu2 hI
  go_upto_region 3 with (go_at_call 182; (with_reducible refine (s_Draw3 _ hs).mono ?_); rintro e w3 h3; obtain ⟨T, A, c, rfl, hg3, hs3, hO, hf, hn⟩ := h3.form)
  have hz3 := hg3.size
  have u4 : Up w3 (w3.alloc (.cells #[.int .i64 T.first, .slice A T.n c] 31)) := Up.alloc (Up.refl w3) _
  have hD : DT w w w2 (w3.alloc (.cells #[.int .i64 T.first, .slice A T.n c] 31)) b w.heap.size w3.heap.size T A c :=
    { src := hs3.up u4, gb := ((Gb.of hs.ups).trans hg3).up u4, l0 := Nat.le_refl _, own := hO.up u4, box := Blk.new w3 _ _, res := (hR.gb (by omega) hg3).up u4, lb := hb2, lR := Nat.le_refl _, lR1 := by omega, l1 := hz3, nT := by omega, nR := by omega }
  clear hs hg3 hs3 hO hR u4 hz3 hb2 hRb
  obtain ⟨m1, m2⟩ := hD.neq
  have hww : w.heap.size ≤ w2.heap.size := by omega
  generalize w3.alloc (.cells #[.int .i64 T.first, .slice A T.n c] 31) = w4 at *
  generalize w3.heap.size = bT at *
  (have q0 := hD.box.cell 0); (have q1 := hD.box.cell 1); (have qi := hD.box.inw); (have p0 := hD.res.cell 0); (have p1 := hD.res.cell 1); (have pf := hD.res.frozen); (have pi_ := hD.res.inw)
  go_upto_region 4 with (go_at_call 183; (with_reducible refine (s_Next _ _ (hD.src.up (by repeat' (first | (with_reducible exact Up.refl _) | (with_reducible assumption) | (with_reducible refine Up.alloc ?_ _) | (with_reducible refine Up.drew ?_) | (with_reducible refine Up.grow ?_ _) | (with_reducible refine Up.setCell ?_ (by (try simp); (try omega)) _))))).mono ?_); rintro e w5 ⟨z, rfl, hz, hg1, hs1⟩; (have hD := hD.on ((Gb.of (by repeat' (first | (with_reducible exact Up.refl _) | (with_reducible assumption) | (with_reducible refine Up.alloc ?_ _) | (with_reducible refine Up.drew ?_) | (with_reducible refine Up.grow ?_ _) | (with_reducible refine Up.setCell ?_ (by (try simp); (try omega)) _)))).trans hg1) hs1); ((have q0 := hD.box.cell 0); (have q1 := hD.box.cell 1); (have qi := hD.box.inw); (have p0 := hD.res.cell 0); (have p1 := hD.res.cell 1); (have pf := hD.res.frozen); (have pi_ := hD.res.inw)))
  · (have hB : Blk ((w5.alloc (.cells #[.int .i64 (-1), .int .i64 (0), .int .i64 (150), .int .i64 (151)] 2)).drew) w5.heap.size 2 #[.int .i64 (-1), .int .i64 (0), .int .i64 (150), .int .i64 (151)] := (Blk.new w5 2 #[.int .i64 (-1), .int .i64 (0), .int .i64 (150), .int .i64 (151)]).drew); (have hBn : w5.heap.size ≠ b := (by have h1 := hD.src.inw; omega))
    go_region_held3 (fun w' => w'.cell? ⟨bT, 0, none⟩ = some (.int .i64 T.first) ∧ w'.cell? ⟨bT, 1, none⟩ = some (.slice A T.n c)) ((repeat' apply And.intro) <;> go_simp) (first | (go_at_call 184; (with_reducible refine ((hD.up (by repeat' (first | (with_reducible exact Up.refl _) | (with_reducible assumption) | (with_reducible refine Up.alloc ?_ _) | (with_reducible refine Up.drew ?_) | (with_reducible refine Up.grow ?_ _) | (with_reducible refine Up.setCell ?_ (by (try simp); (try omega)) _)))).age hf hn).mono ?_); rintro e wA ⟨age, rfl, hage, hg1, hs1⟩; (first | (have hB : Blk _ w5.heap.size 2 #[.int .i64 (-1), .int .i64 (0), .int .i64 (150), .int .i64 (151)] := Blk.gb (by exact hB) hBn hg1) | skip); ((have hD := hD.on ((Gb.of (by repeat' (first | (with_reducible exact Up.refl _) | (with_reducible assumption) | (with_reducible refine Up.alloc ?_ _) | (with_reducible refine Up.drew ?_) | (with_reducible refine Up.grow ?_ _) | (with_reducible refine Up.setCell ?_ (by (try simp); (try omega)) _)))).trans hg1) hs1); ((have q0 := hD.box.cell 0); (have q1 := hD.box.cell 1); (have qi := hD.box.inw); (have p0 := hD.res.cell 0); (have p1 := hD.res.cell 1); (have pf := hD.res.frozen); (have pi_ := hD.res.inw)))) | (go_at_call 185; (first | (with_reducible refine (s_Pick [-1, 0, 150, 151] 4 rfl (by omega) (by omega) #[.int .i64 (-1), .int .i64 (0), .int .i64 (150), .int .i64 (151)] rfl _ _ (hD.src.up (by repeat' (first | (with_reducible exact Up.refl _) | (with_reducible assumption) | (with_reducible refine Up.alloc ?_ _) | (with_reducible refine Up.drew ?_) | (with_reducible refine Up.grow ?_ _) | (with_reducible refine Up.setCell ?_ (by (try simp); (try omega)) _)))) hB hBn).mono ?_) | (with_reducible refine (s_Pick [-1, 0, 150, 151] 4 rfl (by omega) (by omega) #[.int .i64 (-1), .int .i64 (0), .int .i64 (150), .int .i64 (151)] rfl _ _ (hD.src.up (by repeat' (first | (with_reducible exact Up.refl _) | (with_reducible assumption) | (with_reducible refine Up.alloc ?_ _) | (with_reducible refine Up.drew ?_) | (with_reducible refine Up.grow ?_ _) | (with_reducible refine Up.setCell ?_ (by (try simp); (try omega)) _)))) (by simpa only [World.size_alloc] using Blk.new _ _ _) (by have h1 := hD.src.inw; omega)).mono ?_)); rintro e w' ⟨zp, rfl, hzp, hg1, hs1⟩; (have hD := hD.on ((Gb.of (by repeat' (first | (with_reducible exact Up.refl _) | (with_reducible assumption) | (with_reducible refine Up.alloc ?_ _) | (with_reducible refine Up.drew ?_) | (with_reducible refine Up.grow ?_ _) | (with_reducible refine Up.setCell ?_ (by (try simp); (try omega)) _)))).trans hg1) hs1); ((have q0 := hD.box.cell 0); (have q1 := hD.box.cell 1); (have qi := hD.box.inw); (have p0 := hD.res.cell 0); (have p1 := hD.res.cell 1); (have pf := hD.res.frozen); (have pi_ := hD.res.inw))))
    all_goals
      go_wp2
      refine bodyPost_ret (v := .tuple #[.agg #[.int .i64 T.first, .slice A T.n c], .int .i64 age, .int .i64 zp]) (by simp [results, Try.results59, go_sem, p0, p1, pf, pi_, m1, m2]) rfl ?_
      obtain ⟨_, e1, e2⟩ := hD.fin hww (.int .i64 T.first) (.slice A T.n c)
      exact ⟨T, A, c, _, _, rfl, e1.ups, e2⟩
  · go_region_held3 (fun w' => w'.cell? ⟨bT, 0, none⟩ = some (.int .i64 T.first) ∧ w'.cell? ⟨bT, 1, none⟩ = some (.slice A T.n c)) ((repeat' apply And.intro) <;> go_simp) (first | (go_at_call 184; (with_reducible refine ((hD.up (by repeat' (first | (with_reducible exact Up.refl _) | (with_reducible assumption) | (with_reducible refine Up.alloc ?_ _) | (with_reducible refine Up.drew ?_) | (with_reducible refine Up.grow ?_ _) | (with_reducible refine Up.setCell ?_ (by (try simp); (try omega)) _)))).age hf hn).mono ?_); rintro e wA ⟨age, rfl, hage, hg1, hs1⟩; (have hD := hD.on ((Gb.of (by repeat' (first | (with_reducible exact Up.refl _) | (with_reducible assumption) | (with_reducible refine Up.alloc ?_ _) | (with_reducible refine Up.drew ?_) | (with_reducible refine Up.grow ?_ _) | (with_reducible refine Up.setCell ?_ (by (try simp); (try omega)) _)))).trans hg1) hs1); ((have q0 := hD.box.cell 0); (have q1 := hD.box.cell 1); (have qi := hD.box.inw); (have p0 := hD.res.cell 0); (have p1 := hD.res.cell 1); (have pf := hD.res.frozen); (have pi_ := hD.res.inw))) | (go_at_call 183; (with_reducible refine (s_Next _ _ (hD.src.up (by repeat' (first | (with_reducible exact Up.refl _) | (with_reducible assumption) | (with_reducible refine Up.alloc ?_ _) | (with_reducible refine Up.drew ?_) | (with_reducible refine Up.grow ?_ _) | (with_reducible refine Up.setCell ?_ (by (try simp); (try omega)) _))))).mono ?_); rintro e w' ⟨z, rfl, hz, hg1, hs1⟩; (have hD := hD.on ((Gb.of (by repeat' (first | (with_reducible exact Up.refl _) | (with_reducible assumption) | (with_reducible refine Up.alloc ?_ _) | (with_reducible refine Up.drew ?_) | (with_reducible refine Up.grow ?_ _) | (with_reducible refine Up.setCell ?_ (by (try simp); (try omega)) _)))).trans hg1) hs1); ((have q0 := hD.box.cell 0); (have q1 := hD.box.cell 1); (have qi := hD.box.inw); (have p0 := hD.res.cell 0); (have p1 := hD.res.cell 1); (have pf := hD.res.frozen); (have pi_ := hD.res.inw))))
    all_goals
      go_wp2
      refine bodyPost_ret (v := .tuple #[.agg #[.int .i64 T.first, .slice A T.n c], .int .i64 age, .int .i64 z]) (by simp [results, Try.results59, go_sem, p0, p1, pf, pi_, m1, m2]) rfl ?_
      obtain ⟨_, e1, e2⟩ := hD.fin hww (.int .i64 T.first) (.slice A T.n c)
      exact ⟨T, A, c, _, _, rfl, e1.ups, e2⟩
end Go.Proofs.Ytdeoampkbbbleaa
