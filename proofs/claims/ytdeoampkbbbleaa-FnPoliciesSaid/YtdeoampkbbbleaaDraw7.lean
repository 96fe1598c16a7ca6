/- The draws of the laws of assurances: l07Draw and what is drawn by it. Condition: a source made since W; a code of at most 4096 bytes. -/
import Derived.Test.YtdeoampkbbbleaaDrawX
namespace Go.Proofs.Ytdeoampkbbbleaa
open Go.RowKit Pu
set_option linter.unusedVariables false
set_option linter.unusedSimpArgs false

/-- A table and four numbers are drawn. -/
def RetD7 (W w : World) (b : Nat) (e : Ending) (w' : World) : Prop := ∃ T A c, ∃ r kind age n : Int, e = .returned (.tuple #[.agg #[.int .i64 T.first, .slice A T.n c], .int .i64 r, .int .i64 kind, .int .i64 age, .int .i64 n]) ∧ Gb b w w' ∧ Src W w' b ∧ TabOwn w w' T (.agg #[.int .i64 T.first, .slice A T.n c]) ∧ (-1 ≤ T.first ∧ T.first ≤ 101) ∧ (2 ≤ T.n ∧ T.n ≤ 27)
set_option maxRecDepth 100000 in
set_option maxHeartbeats 4000000 in
theorem s_Draw7 {W : World} {b : Nat} (w : World) (h : Src W w b) : Calls Try.prog 233 #[.pointer (some ⟨b, 0, none⟩)] w (RetD7 W w b) := by
  have hbw := h.inw
  have hWw := h.ups.size
  have hR := Blk.new w 31 #[.int .i64 0, .slice none 0 0]
  have hs := h.up (Up.alloc (Up.refl w) (.cells #[.int .i64 0, .slice none 0 0] 31))
  have hg := (Gb.refl b w).alloc (.cells #[.int .i64 0, .slice none 0 0] 31)
  have hz := World.size_alloc w (.cells #[.int .i64 0, .slice none 0 0] 31)
  have hne : w.heap.size ≠ b := by omega
  go_enter Try.func233, Try.ntmps233
  go_upto_region 1 with (fail)
  generalize w.alloc (.cells #[.int .i64 0, .slice none 0 0] 31) = w2 at *
  go_upto_region 2 with (go_at_call 195; (with_reducible refine (s_Draw5 _ hs).mono ?_); rintro e w3 ⟨T, A, c, r, rfl, hg3, hs3, hO, hf, hn, hr⟩)
  have hz3 := hg3.size
  have u4 : Up w3 (w3.alloc (.cells #[.int .i64 T.first, .slice A T.n c] 31)) := Up.alloc (Up.refl w3) _
  have hD : DT W w w2 (w3.alloc (.cells #[.int .i64 T.first, .slice A T.n c] 31)) b w.heap.size w3.heap.size T A c :=
    { src := hs3.up u4, gb := (hg.trans hg3).up u4, l0 := Nat.le_refl _, own := hO.up u4, box := Blk.new w3 _ _, res := (hR.gb hne hg3).up u4, lb := by omega, lR := hWw, lR1 := by omega, l1 := hz3, nT := by omega, nR := hne }
  obtain ⟨m1, m2⟩ := hD.neq
  have hww : w.heap.size ≤ w2.heap.size := by omega
  clear hs hg hg3 hs3 hO hR u4 hz3 hbw hWw hne hz h
  generalize w3.alloc (.cells #[.int .i64 T.first, .slice A T.n c] 31) = w4 at *
  generalize w3.heap.size = bT at *
  (have q0 := hD.box.cell 0); (have q1 := hD.box.cell 1); (have qi := hD.box.inw); (have p0 := hD.res.cell 0); (have p1 := hD.res.cell 1); (have pf := hD.res.frozen); (have pi_ := hD.res.inw)
  go_upto_region 6 with (first | (go_at_call 183; (with_reducible refine (s_Next 4 _ (hD.src.up (by repeat' (first | (with_reducible exact Up.refl _) | (with_reducible assumption) | (with_reducible refine Up.alloc ?_ _) | (with_reducible refine Up.drew ?_) | (with_reducible refine Up.grow ?_ _) | (with_reducible refine Up.setCell ?_ (by (try simp); (try omega)) _))))).mono ?_); rintro e w' ⟨zk, rfl, hz, hg1, hs1⟩; have zk0 := hz.1; have zk1 := hz.2.1 (by omega); have zki : IntKind.i64.wrap (1 + zk) = 1 + zk := IntWalk.i64_in _ (by omega); (have hD := hD.on ((Gb.of (by repeat' (first | (with_reducible exact Up.refl _) | (with_reducible assumption) | (with_reducible refine Up.alloc ?_ _) | (with_reducible refine Up.drew ?_) | (with_reducible refine Up.grow ?_ _) | (with_reducible refine Up.setCell ?_ (by (try simp); (try omega)) _)))).trans hg1) hs1); ((have q0 := hD.box.cell 0); (have q1 := hD.box.cell 1); (have qi := hD.box.inw); (have p0 := hD.res.cell 0); (have p1 := hD.res.cell 1); (have pf := hD.res.frozen); (have pi_ := hD.res.inw))) | (go_at_call 183; (with_reducible refine (s_Next 14 _ (hD.src.up (by repeat' (first | (with_reducible exact Up.refl _) | (with_reducible assumption) | (with_reducible refine Up.alloc ?_ _) | (with_reducible refine Up.drew ?_) | (with_reducible refine Up.grow ?_ _) | (with_reducible refine Up.setCell ?_ (by (try simp); (try omega)) _))))).mono ?_); rintro e w' ⟨zn, rfl, hz, hg1, hs1⟩; have zn0 := hz.1; have zn1 := hz.2.1 (by omega); have zni : IntKind.i64.wrap (1 + zn) = 1 + zn := IntWalk.i64_in _ (by omega); (have hD := hD.on ((Gb.of (by repeat' (first | (with_reducible exact Up.refl _) | (with_reducible assumption) | (with_reducible refine Up.alloc ?_ _) | (with_reducible refine Up.drew ?_) | (with_reducible refine Up.grow ?_ _) | (with_reducible refine Up.setCell ?_ (by (try simp); (try omega)) _)))).trans hg1) hs1); ((have q0 := hD.box.cell 0); (have q1 := hD.box.cell 1); (have qi := hD.box.inw); (have p0 := hD.res.cell 0); (have p1 := hD.res.cell 1); (have pf := hD.res.frozen); (have pi_ := hD.res.inw))))
  all_goals
    go_upto_region 11 with (first | (go_at_call 183; (with_reducible refine (s_Next 40 _ (hD.src.up (by repeat' (first | (with_reducible exact Up.refl _) | (with_reducible assumption) | (with_reducible refine Up.alloc ?_ _) | (with_reducible refine Up.drew ?_) | (with_reducible refine Up.grow ?_ _) | (with_reducible refine Up.setCell ?_ (by (try simp); (try omega)) _))))).mono ?_); rintro e w' ⟨zs, rfl, hz, hg1, hs1⟩; have zs0 := hz.1; have zs1 := hz.2.1 (by omega); have zsi : IntKind.i64.wrap (1 + zs) = 1 + zs := IntWalk.i64_in _ (by omega); (have hD := hD.on ((Gb.of (by repeat' (first | (with_reducible exact Up.refl _) | (with_reducible assumption) | (with_reducible refine Up.alloc ?_ _) | (with_reducible refine Up.drew ?_) | (with_reducible refine Up.grow ?_ _) | (with_reducible refine Up.setCell ?_ (by (try simp); (try omega)) _)))).trans hg1) hs1); ((have q0 := hD.box.cell 0); (have q1 := hD.box.cell 1); (have qi := hD.box.inw); (have p0 := hD.res.cell 0); (have p1 := hD.res.cell 1); (have pf := hD.res.frozen); (have pi_ := hD.res.inw))) | (go_at_call 185; (with_reducible refine (s_Pick [-1, 4, 0, 1] 4 rfl (by omega) (by omega) #[.int .i64 (-1), .int .i64 (4), .int .i64 (0), .int .i64 (1)] rfl _ _ (hD.src.up (by repeat' (first | (with_reducible exact Up.refl _) | (with_reducible assumption) | (with_reducible refine Up.alloc ?_ _) | (with_reducible refine Up.drew ?_) | (with_reducible refine Up.grow ?_ _) | (with_reducible refine Up.setCell ?_ (by (try simp); (try omega)) _)))) (by simpa only [World.size_alloc] using Blk.new _ _ _) (by have h1 := hD.src.inw; omega)).mono ?_); rintro e w' ⟨zp, rfl, hzp, hg1, hs1⟩; (have hD := hD.on ((Gb.of (by repeat' (first | (with_reducible exact Up.refl _) | (with_reducible assumption) | (with_reducible refine Up.alloc ?_ _) | (with_reducible refine Up.drew ?_) | (with_reducible refine Up.grow ?_ _) | (with_reducible refine Up.setCell ?_ (by (try simp); (try omega)) _)))).trans hg1) hs1); ((have q0 := hD.box.cell 0); (have q1 := hD.box.cell 1); (have qi := hD.box.inw); (have p0 := hD.res.cell 0); (have p1 := hD.res.cell 1); (have pf := hD.res.frozen); (have pi_ := hD.res.inw))) | (go_at_call 185; (with_reducible refine (s_Pick [-1, 0, 1, 120, 121] 5 rfl (by omega) (by omega) #[.int .i64 (-1), .int .i64 (0), .int .i64 (1), .int .i64 (120), .int .i64 (121)] rfl _ _ (hD.src.up (by repeat' (first | (with_reducible exact Up.refl _) | (with_reducible assumption) | (with_reducible refine Up.alloc ?_ _) | (with_reducible refine Up.drew ?_) | (with_reducible refine Up.grow ?_ _) | (with_reducible refine Up.setCell ?_ (by (try simp); (try omega)) _)))) (by simpa only [World.size_alloc] using Blk.new _ _ _) (by have h1 := hD.src.inw; omega)).mono ?_); rintro e w' ⟨zp, rfl, hzp, hg1, hs1⟩; (have hD := hD.on ((Gb.of (by repeat' (first | (with_reducible exact Up.refl _) | (with_reducible assumption) | (with_reducible refine Up.alloc ?_ _) | (with_reducible refine Up.drew ?_) | (with_reducible refine Up.grow ?_ _) | (with_reducible refine Up.setCell ?_ (by (try simp); (try omega)) _)))).trans hg1) hs1); ((have q0 := hD.box.cell 0); (have q1 := hD.box.cell 1); (have qi := hD.box.inw); (have p0 := hD.res.cell 0); (have p1 := hD.res.cell 1); (have pf := hD.res.frozen); (have pi_ := hD.res.inw))))
    all_goals
      go_region_held3 (fun w' => w'.cell? ⟨bT, 0, none⟩ = some (.int .i64 T.first) ∧ w'.cell? ⟨bT, 1, none⟩ = some (.slice A T.n c)) ((repeat' apply And.intro) <;> go_simp) (first | (go_at_call 184; (with_reducible refine ((hD.up (by repeat' (first | (with_reducible exact Up.refl _) | (with_reducible assumption) | (with_reducible refine Up.alloc ?_ _) | (with_reducible refine Up.drew ?_) | (with_reducible refine Up.grow ?_ _) | (with_reducible refine Up.setCell ?_ (by (try simp); (try omega)) _)))).age hf hn).mono ?_); rintro e wA ⟨age, rfl, hage, hg1, hs1⟩; (have hD := hD.on ((Gb.of (by repeat' (first | (with_reducible exact Up.refl _) | (with_reducible assumption) | (with_reducible refine Up.alloc ?_ _) | (with_reducible refine Up.drew ?_) | (with_reducible refine Up.grow ?_ _) | (with_reducible refine Up.setCell ?_ (by (try simp); (try omega)) _)))).trans hg1) hs1); ((have q0 := hD.box.cell 0); (have q1 := hD.box.cell 1); (have qi := hD.box.inw); (have p0 := hD.res.cell 0); (have p1 := hD.res.cell 1); (have pf := hD.res.frozen); (have pi_ := hD.res.inw))))
      all_goals
        go_wp2
        refine bodyPost_ret (v := .tuple #[.agg #[.int .i64 T.first, .slice A T.n c], .int .i64 r, .int .i64 _, .int .i64 age, .int .i64 _]) (by simp [results, Try.results233, go_sem, p0, p1, pf, pi_, m1, m2] <;> exact ⟨rfl, rfl⟩) rfl ?_
        obtain ⟨e1, e2, e3⟩ := hD.fin hww (.int .i64 T.first) (.slice A T.n c)
        exact ⟨T, A, c, r, _, age, _, rfl, e1, e2, e3, hf, hn⟩
set_option maxRecDepth 100000 in
set_option maxHeartbeats 4000000 in
theorem s_DrawAssurancePrice (A0 : Option Addr) (L c0 : Nat) (hL : L ≤ 4096) (w : World) (hI : InCode w A0 L c0) :
    Calls Try.prog 125 #[.slice A0 L c0] w (fun e w' => ∃ T A c, ∃ r kind age n amt : Int, e = .returned (.tuple #[.agg #[.int .i64 T.first, .slice A T.n c], .int .i64 r, .int .i64 kind, .int .i64 age, .int .i64 n, .int .i64 amt]) ∧ Up w w' ∧ TabOwn w w' T (.agg #[.int .i64 T.first, .slice A T.n c])) := by
  have HI := Lib.hid hI
  go_enter Try.func125, Try.ntmps125
  go_upto_region 2 with (go_at_call 162; refine (s_FromW A0 L c0 hL _ (HI.out.up (by repeat' (first | (with_reducible exact Up.refl _) | (with_reducible assumption) | (with_reducible refine Up.alloc ?_ _) | (with_reducible refine Up.drew ?_) | (with_reducible refine Up.grow ?_ _) | (with_reducible refine Up.setCell ?_ (by (try simp); (try omega)) _))))).mono ?_; rintro e w2 ⟨b, rfl, hu2, hRb, hs⟩)
  rw [World.size_alloc] at hRb
  have hs := hs w (Up.alloc (Up.refl w) _) HI.out
  have hR : Blk w2 w.heap.size 31 #[.int .i64 0, .slice none 0 0] := (Blk.new w _ _).up hu2
  have hb2 := hs.inw
  have hw2 := hu2.size
  rw [World.size_alloc] at hw2
  clear hu2 hI
  go_upto_region 3 with (go_at_call 233; (with_reducible refine (s_Draw7 _ hs).mono ?_); rintro e w3 ⟨T, A, c, r, kind, age, n, rfl, hg3, hs3, hO, hf, hn⟩)
  have hz3 := hg3.size
  have u4 : Up w3 (w3.alloc (.cells #[.int .i64 T.first, .slice A T.n c] 31)) := Up.alloc (Up.refl w3) _
  have hD : DT w w w2 (w3.alloc (.cells #[.int .i64 T.first, .slice A T.n c] 31)) b w.heap.size w3.heap.size T A c :=
    { src := hs3.up u4, gb := ((Gb.of hs.ups).trans hg3).up u4, l0 := Nat.le_refl _, own := hO.up u4, box := Blk.new w3 _ _, res := (hR.gb (by omega) hg3).up u4, lb := hb2, lR := Nat.le_refl _, lR1 := by omega, l1 := hz3, nT := by omega, nR := by omega }
  clear hs hg3 hs3 hO hR u4 hz3 hb2 hRb
  obtain ⟨m1, m2⟩ := hD.neq
  have hww : w.heap.size ≤ w2.heap.size := by omega
  generalize w3.alloc (.cells #[.int .i64 T.first, .slice A T.n c] 31) = w4 at *
  generalize w3.heap.size = bT at *
  (have q0 := hD.box.cell 0); (have q1 := hD.box.cell 1); (have qi := hD.box.inw); (have p0 := hD.res.cell 0); (have p1 := hD.res.cell 1); (have pf := hD.res.frozen); (have pi_ := hD.res.inw)
  go_region_held3 (fun w' => w'.cell? ⟨bT, 0, none⟩ = some (.int .i64 T.first) ∧ w'.cell? ⟨bT, 1, none⟩ = some (.slice A T.n c)) ((repeat' apply And.intro) <;> go_simp) (first | (go_at_call 234; (with_reducible refine (s_l07DrawSum _ (hD.src.up (by repeat' (first | (with_reducible exact Up.refl _) | (with_reducible assumption) | (with_reducible refine Up.alloc ?_ _) | (with_reducible refine Up.drew ?_) | (with_reducible refine Up.grow ?_ _) | (with_reducible refine Up.setCell ?_ (by (try simp); (try omega)) _))))).mono ?_); rintro e w' ⟨amt, rfl, hamt, hg1, hs1⟩; (have hD := hD.on ((Gb.of (by repeat' (first | (with_reducible exact Up.refl _) | (with_reducible assumption) | (with_reducible refine Up.alloc ?_ _) | (with_reducible refine Up.drew ?_) | (with_reducible refine Up.grow ?_ _) | (with_reducible refine Up.setCell ?_ (by (try simp); (try omega)) _)))).trans hg1) hs1); ((have q0 := hD.box.cell 0); (have q1 := hD.box.cell 1); (have qi := hD.box.inw); (have p0 := hD.res.cell 0); (have p1 := hD.res.cell 1); (have pf := hD.res.frozen); (have pi_ := hD.res.inw))))
  all_goals
    go_wp2
    refine bodyPost_ret (v := .tuple #[.agg #[.int .i64 T.first, .slice A T.n c], .int .i64 r, .int .i64 kind, .int .i64 age, .int .i64 n, .int .i64 amt]) (by simp [results, Try.results125, go_sem, p0, p1, pf, pi_, m1, m2]) rfl ?_
    obtain ⟨_, e1, e2⟩ := hD.fin hww (.int .i64 T.first) (.slice A T.n c)
    exact ⟨T, A, c, _, _, _, _, _, rfl, e1.ups, e2⟩
set_option maxRecDepth 100000 in
set_option maxHeartbeats 4000000 in
theorem s_DrawTermPart (A0 : Option Addr) (L c0 : Nat) (hL : L ≤ 4096) (w : World) (hI : InCode w A0 L c0) :
    Calls Try.prog 115 #[.slice A0 L c0] w (fun e w' => ∃ T A c, ∃ r age n amt : Int, e = .returned (.tuple #[.agg #[.int .i64 T.first, .slice A T.n c], .int .i64 r, .int .i64 age, .int .i64 n, .int .i64 amt]) ∧ Up w w' ∧ TabOwn w w' T (.agg #[.int .i64 T.first, .slice A T.n c])) := by
  have HI := Lib.hid hI
  go_enter Try.func115, Try.ntmps115
  go_upto_region 2 with (go_at_call 162; refine (s_FromW A0 L c0 hL _ (HI.out.up (by repeat' (first | (with_reducible exact Up.refl _) | (with_reducible assumption) | (with_reducible refine Up.alloc ?_ _) | (with_reducible refine Up.drew ?_) | (with_reducible refine Up.grow ?_ _) | (with_reducible refine Up.setCell ?_ (by (try simp); (try omega)) _))))).mono ?_; rintro e w2 ⟨b, rfl, hu2, hRb, hs⟩)
  rw [World.size_alloc] at hRb
  have hs := hs w (Up.alloc (Up.refl w) _) HI.out
  have hR : Blk w2 w.heap.size 31 #[.int .i64 0, .slice none 0 0] := (Blk.new w _ _).up hu2
  have hb2 := hs.inw
  have hw2 := hu2.size
  rw [World.size_alloc] at hw2
  clear hu2 hI
  go_upto_region 3 with (go_at_call 233; (with_reducible refine (s_Draw7 _ hs).mono ?_); rintro e w3 ⟨T, A, c, r, kind, age, n, rfl, hg3, hs3, hO, hf, hn⟩)
  have hz3 := hg3.size
  have u4 : Up w3 (w3.alloc (.cells #[.int .i64 T.first, .slice A T.n c] 31)) := Up.alloc (Up.refl w3) _
  have hD : DT w w w2 (w3.alloc (.cells #[.int .i64 T.first, .slice A T.n c] 31)) b w.heap.size w3.heap.size T A c :=
    { src := hs3.up u4, gb := ((Gb.of hs.ups).trans hg3).up u4, l0 := Nat.le_refl _, own := hO.up u4, box := Blk.new w3 _ _, res := (hR.gb (by omega) hg3).up u4, lb := hb2, lR := Nat.le_refl _, lR1 := by omega, l1 := hz3, nT := by omega, nR := by omega }
  clear hs hg3 hs3 hO hR u4 hz3 hb2 hRb
  obtain ⟨m1, m2⟩ := hD.neq
  have hww : w.heap.size ≤ w2.heap.size := by omega
  generalize w3.alloc (.cells #[.int .i64 T.first, .slice A T.n c] 31) = w4 at *
  generalize w3.heap.size = bT at *
  (have q0 := hD.box.cell 0); (have q1 := hD.box.cell 1); (have qi := hD.box.inw); (have p0 := hD.res.cell 0); (have p1 := hD.res.cell 1); (have pf := hD.res.frozen); (have pi_ := hD.res.inw)
  go_region_held3 (fun w' => w'.cell? ⟨bT, 0, none⟩ = some (.int .i64 T.first) ∧ w'.cell? ⟨bT, 1, none⟩ = some (.slice A T.n c)) ((repeat' apply And.intro) <;> go_simp) (first | (go_at_call 234; (with_reducible refine (s_l07DrawSum _ (hD.src.up (by repeat' (first | (with_reducible exact Up.refl _) | (with_reducible assumption) | (with_reducible refine Up.alloc ?_ _) | (with_reducible refine Up.drew ?_) | (with_reducible refine Up.grow ?_ _) | (with_reducible refine Up.setCell ?_ (by (try simp); (try omega)) _))))).mono ?_); rintro e w' ⟨amt, rfl, hamt, hg1, hs1⟩; (have hD := hD.on ((Gb.of (by repeat' (first | (with_reducible exact Up.refl _) | (with_reducible assumption) | (with_reducible refine Up.alloc ?_ _) | (with_reducible refine Up.drew ?_) | (with_reducible refine Up.grow ?_ _) | (with_reducible refine Up.setCell ?_ (by (try simp); (try omega)) _)))).trans hg1) hs1); ((have q0 := hD.box.cell 0); (have q1 := hD.box.cell 1); (have qi := hD.box.inw); (have p0 := hD.res.cell 0); (have p1 := hD.res.cell 1); (have pf := hD.res.frozen); (have pi_ := hD.res.inw))))
  all_goals
    go_wp2
    refine bodyPost_ret (v := .tuple #[.agg #[.int .i64 T.first, .slice A T.n c], .int .i64 r, .int .i64 age, .int .i64 n, .int .i64 amt]) (by simp [results, Try.results115, go_sem, p0, p1, pf, pi_, m1, m2]) rfl ?_
    obtain ⟨_, e1, e2⟩ := hD.fin hww (.int .i64 T.first) (.slice A T.n c)
    exact ⟨T, A, c, _, _, _, _, rfl, e1.ups, e2⟩
set_option maxRecDepth 100000 in
set_option maxHeartbeats 4000000 in
theorem s_DrawNaturalPremiums (A0 : Option Addr) (L c0 : Nat) (hL : L ≤ 4096) (w : World) (hI : InCode w A0 L c0) :
    Calls Try.prog 118 #[.slice A0 L c0] w (fun e w' => ∃ T A c, ∃ r age n amt : Int, e = .returned (.tuple #[.agg #[.int .i64 T.first, .slice A T.n c], .int .i64 r, .int .i64 age, .int .i64 n, .int .i64 amt]) ∧ Up w w' ∧ TabOwn w w' T (.agg #[.int .i64 T.first, .slice A T.n c])) := by
  have HI := Lib.hid hI
  go_enter Try.func118, Try.ntmps118
  go_upto_region 2 with (go_at_call 162; refine (s_FromW A0 L c0 hL _ (HI.out.up (by repeat' (first | (with_reducible exact Up.refl _) | (with_reducible assumption) | (with_reducible refine Up.alloc ?_ _) | (with_reducible refine Up.drew ?_) | (with_reducible refine Up.grow ?_ _) | (with_reducible refine Up.setCell ?_ (by (try simp); (try omega)) _))))).mono ?_; rintro e w2 ⟨b, rfl, hu2, hRb, hs⟩)
  rw [World.size_alloc] at hRb
  have hs := hs w (Up.alloc (Up.refl w) _) HI.out
  have hR : Blk w2 w.heap.size 31 #[.int .i64 0, .slice none 0 0] := (Blk.new w _ _).up hu2
  have hb2 := hs.inw
  have hw2 := hu2.size
  rw [World.size_alloc] at hw2
  clear hu2 hI
  go_upto_region 3 with (go_at_call 233; (with_reducible refine (s_Draw7 _ hs).mono ?_); rintro e w3 ⟨T, A, c, r, kind, age, n, rfl, hg3, hs3, hO, hf, hn⟩)
  have hz3 := hg3.size
  have u4 : Up w3 (w3.alloc (.cells #[.int .i64 T.first, .slice A T.n c] 31)) := Up.alloc (Up.refl w3) _
  have hD : DT w w w2 (w3.alloc (.cells #[.int .i64 T.first, .slice A T.n c] 31)) b w.heap.size w3.heap.size T A c :=
    { src := hs3.up u4, gb := ((Gb.of hs.ups).trans hg3).up u4, l0 := Nat.le_refl _, own := hO.up u4, box := Blk.new w3 _ _, res := (hR.gb (by omega) hg3).up u4, lb := hb2, lR := Nat.le_refl _, lR1 := by omega, l1 := hz3, nT := by omega, nR := by omega }
  clear hs hg3 hs3 hO hR u4 hz3 hb2 hRb
  obtain ⟨m1, m2⟩ := hD.neq
  have hww : w.heap.size ≤ w2.heap.size := by omega
  generalize w3.alloc (.cells #[.int .i64 T.first, .slice A T.n c] 31) = w4 at *
  generalize w3.heap.size = bT at *
  (have q0 := hD.box.cell 0); (have q1 := hD.box.cell 1); (have qi := hD.box.inw); (have p0 := hD.res.cell 0); (have p1 := hD.res.cell 1); (have pf := hD.res.frozen); (have pi_ := hD.res.inw)
  go_region_held3 (fun w' => w'.cell? ⟨bT, 0, none⟩ = some (.int .i64 T.first) ∧ w'.cell? ⟨bT, 1, none⟩ = some (.slice A T.n c)) ((repeat' apply And.intro) <;> go_simp) (first | (go_at_call 183; (with_reducible refine (s_Next T.n _ (hD.src.up (by repeat' (first | (with_reducible exact Up.refl _) | (with_reducible assumption) | (with_reducible refine Up.alloc ?_ _) | (with_reducible refine Up.drew ?_) | (with_reducible refine Up.grow ?_ _) | (with_reducible refine Up.setCell ?_ (by (try simp); (try omega)) _))))).mono ?_); rintro e w' ⟨zq, rfl, hz, hg1, hs1⟩; have zq0 := hz.1; have zq1 := hz.2.1 (by omega); have zqi : IntKind.i64.wrap (1 + zq) = 1 + zq := IntWalk.i64_in _ (by omega); obtain ⟨mq, hmq⟩ : ∃ mq, (if 1 + zq < n then 1 + zq else n) = mq := ⟨_, rfl⟩; (have hD := hD.on ((Gb.of (by repeat' (first | (with_reducible exact Up.refl _) | (with_reducible assumption) | (with_reducible refine Up.alloc ?_ _) | (with_reducible refine Up.drew ?_) | (with_reducible refine Up.grow ?_ _) | (with_reducible refine Up.setCell ?_ (by (try simp); (try omega)) _)))).trans hg1) hs1); ((have q0 := hD.box.cell 0); (have q1 := hD.box.cell 1); (have qi := hD.box.inw); (have p0 := hD.res.cell 0); (have p1 := hD.res.cell 1); (have pf := hD.res.frozen); (have pi_ := hD.res.inw))) | (go_at_call 234; (with_reducible refine (s_l07DrawSum _ (hD.src.up (by repeat' (first | (with_reducible exact Up.refl _) | (with_reducible assumption) | (with_reducible refine Up.alloc ?_ _) | (with_reducible refine Up.drew ?_) | (with_reducible refine Up.grow ?_ _) | (with_reducible refine Up.setCell ?_ (by (try simp); (try omega)) _))))).mono ?_); rintro e w' ⟨amt, rfl, hamt, hg1, hs1⟩; (have hD := hD.on ((Gb.of (by repeat' (first | (with_reducible exact Up.refl _) | (with_reducible assumption) | (with_reducible refine Up.alloc ?_ _) | (with_reducible refine Up.drew ?_) | (with_reducible refine Up.grow ?_ _) | (with_reducible refine Up.setCell ?_ (by (try simp); (try omega)) _)))).trans hg1) hs1); ((have q0 := hD.box.cell 0); (have q1 := hD.box.cell 1); (have qi := hD.box.inw); (have p0 := hD.res.cell 0); (have p1 := hD.res.cell 1); (have pf := hD.res.frozen); (have pi_ := hD.res.inw))))
  all_goals
    go_wp2
    refine bodyPost_ret (v := .tuple #[.agg #[.int .i64 T.first, .slice A T.n c], .int .i64 r, .int .i64 age, .int .i64 mq, .int .i64 amt]) (by simp [results, Try.results118, go_sem, p0, p1, pf, pi_, m1, m2]) rfl ?_
    obtain ⟨_, e1, e2⟩ := hD.fin hww (.int .i64 T.first) (.slice A T.n c)
    exact ⟨T, A, c, _, _, _, _, rfl, e1.ups, e2⟩
set_option maxRecDepth 100000 in
set_option maxHeartbeats 4000000 in
theorem s_DrawSumFor (A0 : Option Addr) (L c0 : Nat) (hL : L ≤ 4096) (w : World) (hI : InCode w A0 L c0) :
    Calls Try.prog 122 #[.slice A0 L c0] w (fun e w' => ∃ T A c, ∃ r kind age n amt : Int, e = .returned (.tuple #[.agg #[.int .i64 T.first, .slice A T.n c], .int .i64 r, .int .i64 kind, .int .i64 age, .int .i64 n, .int .i64 amt]) ∧ Up w w' ∧ TabOwn w w' T (.agg #[.int .i64 T.first, .slice A T.n c])) := by
  have HI := Lib.hid hI
  have hR := Blk.new w 31 #[.int .i64 0, .slice none 0 0]
  have hz := World.size_alloc w (.cells #[.int .i64 0, .slice none 0 0] 31)
  have hu := Up.alloc (Up.refl w) (.cells #[.int .i64 0, .slice none 0 0] 31)
  go_enter Try.func122, Try.ntmps122
  go_upto_region 1 with (fail)
  generalize w.alloc (.cells #[.int .i64 0, .slice none 0 0] 31) = w1 at *
  go_wp2_with (go_at_call 125; refine (s_DrawAssurancePrice A0 L c0 hL w1 (HI.out.up hu)).mono ?_; rintro e w2 ⟨T, A, c, r, kind, age, n, amt, rfl, h2, hO⟩; have hR := hR.up h2; have p0 := hR.cell 0; have p1 := hR.cell 1; have pf := hR.frozen; have pi_ := hR.inw)
  have hl1 : w.heap.size < w1.heap.size := by omega
  refine bodyPost_ret (v := .tuple #[.agg #[.int .i64 T.first, .slice A T.n c], .int .i64 r, .int .i64 kind, .int .i64 age, .int .i64 n, .int .i64 amt]) (by simp [results, Try.results122, go_sem, p0, p1, pf, pi_]) rfl ?_
  exact ⟨T, A, c, _, _, _, _, _, rfl, ((hu.trans h2).setCell (p := ⟨w.heap.size, 0, none⟩) (Nat.le_refl _) _).setCell (p := ⟨w.heap.size, 1, none⟩) (Nat.le_refl _) _, ((hO.set_old (a := ⟨w.heap.size, 0, none⟩) hl1 _).set_old (a := ⟨w.heap.size, 1, none⟩) hl1 _).base (by omega)⟩
set_option maxRecDepth 100000 in
set_option maxHeartbeats 4000000 in
theorem s_DrawExpectedYears (A0 : Option Addr) (L c0 : Nat) (hL : L ≤ 4096) (w : World) (hI : InCode w A0 L c0) :
    Calls Try.prog 53 #[.slice A0 L c0] w (fun e w' => ∃ T A c, ∃ age : Int, e = .returned (.tuple #[.agg #[.int .i64 T.first, .slice A T.n c], .int .i64 age]) ∧ Up w w' ∧ TabOwn w w' T (.agg #[.int .i64 T.first, .slice A T.n c])) := by
  have HI := Lib.hid hI
  have hR := Blk.new w 31 #[.int .i64 0, .slice none 0 0]
  have hz := World.size_alloc w (.cells #[.int .i64 0, .slice none 0 0] 31)
  have hu := Up.alloc (Up.refl w) (.cells #[.int .i64 0, .slice none 0 0] 31)
  go_enter Try.func53, Try.ntmps53
  go_upto_region 1 with (fail)
  generalize w.alloc (.cells #[.int .i64 0, .slice none 0 0] 31) = w1 at *
  go_wp2_with (go_at_call 174; refine (s_DrawLivesAt A0 L c0 hL w1 (HI.out.up hu)).mono ?_; rintro e w2 ⟨T, A, c, age, rfl, h2, hO⟩; have hR := hR.up h2; have p0 := hR.cell 0; have p1 := hR.cell 1; have pf := hR.frozen; have pi_ := hR.inw)
  have hl1 : w.heap.size < w1.heap.size := by omega
  refine bodyPost_ret (v := .tuple #[.agg #[.int .i64 T.first, .slice A T.n c], .int .i64 age]) (by simp [results, Try.results53, go_sem, p0, p1, pf, pi_]) rfl ?_
  exact ⟨T, A, c, _, rfl, ((hu.trans h2).setCell (p := ⟨w.heap.size, 0, none⟩) (Nat.le_refl _) _).setCell (p := ⟨w.heap.size, 1, none⟩) (Nat.le_refl _) _, ((hO.set_old (a := ⟨w.heap.size, 0, none⟩) hl1 _).set_old (a := ⟨w.heap.size, 1, none⟩) hl1 _).base (by omega)⟩
end Go.Proofs.Ytdeoampkbbbleaa
