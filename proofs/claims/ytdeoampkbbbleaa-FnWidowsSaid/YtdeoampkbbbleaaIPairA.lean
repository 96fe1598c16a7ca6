/- The rest of checkPairAnnuity's contract: the ways behind the last test. Condition: the slices read as the tables' numbers. -/
import Derived.Test.YtdeoampkbbbleaaIPair
namespace Go.Proofs.Ytdeoampkbbbleaa
open Go.RowKit Pu

/-- The region's post taken as a letter. -/
theorem with_q {P : Program} {md : Region.Mode} {ops : Array Oper} {S : World → Prop} {fuel : Nat} {listed : Array Bool} {a : Act} {w : World} {Q : Exit → Act → World → Prop}
    (hq : ∀ c a (d : Nat) v w, Q (.panic c) (Act.put a (some d) v) w → Q (.panic c) a w)
    (h : ∀ Qx : Exit → Act → World → Prop, (∀ c a (d : Nat) v w, Qx (.panic c) (Act.put a (some d) v) w → Qx (.panic c) a w) → (∀ a w, Q .normal a w → Qx .normal a w) → wpAnyH P md ops Qx S fuel listed a w) : wpAnyH P md ops Q S fuel listed a w :=
  h Q hq (fun _ _ h => h)
/-- Operations that a decided guard leaves out, all at once: their numbers and temporaries. -/
def skipOk (md : Region.Mode) (ops : Array Oper) : Array Bool → Act → List (Nat × Nat) → Bool
  | _, _, [] => true
  | listed, a, (i, d) :: l => match ops[i]? with
    | some oi => (oi.dst == some d) && Region.free md ops listed i && (Region.ready md ops listed).contains i && !(Region.wanted oi (yielded ops a.tmps)) && skipOk md ops (listed.setIfInBounds i true) (a.put (some d) undef) l
    | none => false
def skipMark : Array Bool → List (Nat × Nat) → Array Bool
  | s, [] => s
  | s, (i, _) :: l => skipMark (s.setIfInBounds i true) l
def skipPut : Act → List (Nat × Nat) → Act
  | a, [] => a
  | a, (_, d) :: l => skipPut (a.put (some d) undef) l
theorem wpAnyH_skips {P : Program} {md : Region.Mode} {ops : Array Oper} {Q : Exit → Act → World → Prop} {S : World → Prop} (hs : Region.noSelect ops = true) (hQ : ∀ c a (d : Nat) v w, Q (.panic c) (Act.put a (some d) v) w → Q (.panic c) a w) :
    ∀ (l : List (Nat × Nat)) (fuel : Nat) (listed : Array Bool) (a : Act) (w : World), skipOk md ops listed a l = true → S w → wpAnyH P md ops Q S fuel (skipMark listed l) (skipPut a l) w → wpAnyH P md ops Q S (fuel + l.length) listed a w
  | [], _, _, _, _, _, _, h => h
  | (i, d) :: l, fuel, listed, a, w, hk, hS, h => by
    unfold skipOk at hk
    split at hk
    · rename_i oi hi
      simp only [Bool.and_eq_true, beq_iff_eq, Bool.not_eq_true'] at hk
      obtain ⟨⟨⟨⟨h1, h2⟩, h3⟩, h4⟩, h5⟩ := hk
      refine wpAnyH_take (i := i) (v := undef) hi hs h2 h3 (fun c a w => by rw [h1]; exact hQ c a d undef w) (Or.inr ⟨h4, rfl⟩) hS ?_
      rw [h1]
      exact wpAnyH_skips hs hQ l fuel _ _ _ h5 hS h
    · cases hk
theorem wpAnyH_takeD {P : Program} {md : Region.Mode} {ops : Array Oper} {Q : Exit → Act → World → Prop} {S : World → Prop} {i d : Nat} {oi : Oper} {v : Value} {fuel : Nat} {listed : Array Bool} {a : Act} {w : World} (hi : ops[i]? = some oi) (hd : oi.dst = some d)
    (hs : Region.noSelect ops = true) (hf : Region.free md ops listed i = true) (hr : (Region.ready md ops listed).contains i = true)
    (hQ : ∀ c a w, Q (.panic c) (a.put (some d) v) w → Q (.panic c) a w) (hy : YieldsIf P ops S oi v a) (hS : S w)
    (h : wpAnyH P md ops Q S fuel (listed.setIfInBounds i true) (a.put (some d) v) w) : wpAnyH P md ops Q S (fuel + 1) listed a w :=
  wpAnyH_take hi hs hf hr (fun c a w => by rw [hd]; exact hQ c a w) hy hS (by rw [hd]; exact h)
set_option maxRecDepth 100000 in
set_option linter.unusedSimpArgs false in
set_option maxHeartbeats 16000000 in
theorem i_PA3A (T U : Tab) (i j : Nat) (r m : Int) (v u : Value) (w : World) (hv : TabAt w T v) (hu : TabAt w U u) (hT : T.Ok) (hU : U.Ok) (h1 : inR (T.first + i) T.first 100 = true) (h2 : inR (U.first + j) U.first 150 = true) (h3 : inR r 0 200 = true) (h4 : inR m 1 1000000 = true) (hd : (T.D r i == 0) = true) :
    Calls Try.prog 241 #[v, .int .i64 (T.first + i), u, .int .i64 (U.first + j), .int .i64 r, .int .i64 m] w (Ret w (.int .i64 5)) := by
  have hv' := hv
  have hu' := hu
  obtain ⟨A, c, rfl, hc, hm, _, hI⟩ := hv
  obtain ⟨A2, c2, rfl, hc2, hm2, _, hI2⟩ := hu
  have q1 := hT.lo; have q2 := hT.hi; have q3 := hU.lo; have q4 := hU.hi
  have b1 := inR_true.1 h1; have b2 := inR_true.1 h2; have b3 := inR_true.1 h3
  have HT := Lib.hid (i_Valid T true ((Tab.okB_iff T).2 hT))
  have HU := Lib.hid (i_Valid U true ((Tab.okB_iff U).2 hU))
  have HP := Lib.hid (i_Pair (T := T) (U := U) hT.lo (T.first + i) (U.first + j) true (by rw [h1, h2]; rfl))
  have HC1 := Lib.hid (i_Cols hT b3.1 b3.2)
  have HC2 := Lib.hid (i_Cols hU b3.1 b3.2)
  obtain ⟨L1, hL1⟩ : ∃ L : Nat, (151 - T.first).toNat = L := ⟨_, rfl⟩
  obtain ⟨L2, hL2⟩ : ∃ L : Nat, (151 - U.first).toNat = L := ⟨_, rfl⟩
  have i1 : IntKind.i64.wrap (T.first + i - T.first) = i := by rw [IntWalk.i64_in _ (by omega)]; omega
  have i2 : IntKind.i64.wrap (U.first + j - U.first) = j := by rw [IntWalk.i64_in _ (by omega)]; omega
  have g1 : (i : Int) < L1 := by omega
  have g2 : (j : Int) < L2 := by omega
  have g3 : (0 : Int) ≤ i := by omega
  have g4 : (0 : Int) ≤ j := by omega
  have g5 : i < (151 - T.first).toNat := by omega
  have g6 : j < (151 - U.first).toNat := by omega
  have G5 := Lib.hid g5
  have G6 := Lib.hid g6
  have HL1 := Lib.hid hL1
  have HL2 := Lib.hid hL2
  clear h1 h2 g5 g6 hL1 hL2 hI hI2
  go_enter Try.func241, Try.ntmps241
  go_upto_region 5 with (first | (go_at_call 142; refine (s_In _ _ _ _).mono ?_; rintro e w' ⟨rfl, rfl⟩) | (go_at_call 186; refine (i_In _ _ _ _).mono ?_; rintro e w' ⟨rfl, rfl⟩) | (go_at_call 222; refine (s_Rate _ _).mono ?_; rintro e w' ⟨rfl, rfl⟩) | (go_at_call 165; refine (i_Rate _ _).mono ?_; rintro e w' ⟨rfl, rfl⟩) | (go_at_call 262; refine (i_Years _ _).mono ?_; rintro e w' ⟨rfl, rfl⟩) | (go_at_call 227; refine (s_Amount6 _ _).mono ?_; rintro e w' ⟨rfl, rfl⟩) | (go_at_call 236; refine (s_Sum7 _ _).mono ?_; rintro e w' ⟨rfl, rfl⟩) | (go_at_call 74; ((with_reducible refine (HT.out _ _ (hv'.up (by repeat' (first | (with_reducible exact Up.refl _) | (with_reducible assumption) | (with_reducible refine Up.alloc ?_ _) | (with_reducible refine Up.drew ?_) | (with_reducible refine Up.grow ?_ _) | (with_reducible refine Up.setCell ?_ (by (try simp); (try omega)) _))))).mono ?_); rintro e w' ⟨rfl, hb⟩; first | (obtain ⟨x, rfl⟩ := Grow.on x hb) | (obtain ⟨x, rfl⟩ := Grow.mk' hb))) | (go_at_call 74; ((with_reducible refine (HU.out _ _ (hu'.up (by repeat' (first | (with_reducible exact Up.refl _) | (with_reducible assumption) | (with_reducible refine Up.alloc ?_ _) | (with_reducible refine Up.drew ?_) | (with_reducible refine Up.grow ?_ _) | (with_reducible refine Up.setCell ?_ (by (try simp); (try omega)) _))))).mono ?_); rintro e w' ⟨rfl, hb⟩; first | (obtain ⟨x, rfl⟩ := Grow.on x hb) | (obtain ⟨x, rfl⟩ := Grow.mk' hb))) | (go_at_call 257; refine (HP.out _ _ _ (hv'.up (by repeat' (first | (with_reducible exact Up.refl _) | (with_reducible assumption) | (with_reducible refine Up.alloc ?_ _) | (with_reducible refine Up.drew ?_) | (with_reducible refine Up.grow ?_ _) | (with_reducible refine Up.setCell ?_ (by (try simp); (try omega)) _)))) (hu'.up (by repeat' (first | (with_reducible exact Up.refl _) | (with_reducible assumption) | (with_reducible refine Up.alloc ?_ _) | (with_reducible refine Up.drew ?_) | (with_reducible refine Up.grow ?_ _) | (with_reducible refine Up.setCell ?_ (by (try simp); (try omega)) _))))).mono ?_; rintro e w' ⟨rfl, hb⟩; first | (obtain ⟨x, rfl⟩ := Grow.on x hb) | (obtain ⟨x, rfl⟩ := Grow.mk' hb)))
  refine wp_region_held_drew (S := fun w' => w'.cell? ⟨w.heap.size, 0, none⟩ = some (.int .i64 T.first) ∧ w'.cell? ⟨w.heap.size, 1, none⟩ = some (.slice A T.n c) ∧ w'.cell? ⟨w.heap.size + 1, 0, none⟩ = some (.int .i64 U.first) ∧ w'.cell? ⟨w.heap.size + 1, 1, none⟩ = some (.slice A2 U.n c2)) (by kernel_rfl) ?_ (fun hHeld => ?_)
  · (try dsimp only); (repeat' apply And.intro) <;> go_simp
  refine with_q (fun _ _ _ _ _ h => h) ?_
  intro Qx hqx HQe
  refine wpAnyH_takeD (i := 1) (d := 41) (v := ?_) rfl rfl (by kernel_rfl) (by kernel_rfl) (by kernel_rfl) (fun c a w => hqx c a _ _ w) (Or.inl ⟨by kernel_rfl, ?_⟩) (by assumption) ?_
  rotate_left
  · intro w9 hSw; (try dsimp only at hSw); go_simp; (try with_reducible rfl)
  (try simp only [Act.put, List.setIfInBounds_toArray, List.set_cons_zero, List.set_cons_succ])
  refine wpAnyH_takeD (i := 3) (d := 43) (v := ?_) rfl rfl (by kernel_rfl) (by kernel_rfl) (by kernel_rfl) (fun c a w => hqx c a _ _ w) (Or.inl ⟨by kernel_rfl, ?_⟩) (by assumption) ?_
  rotate_left
  · intro w9 hSw; (try dsimp only at hSw); go_simp; (try with_reducible rfl)
  (try simp only [Act.put, List.setIfInBounds_toArray, List.set_cons_zero, List.set_cons_succ])
  refine wpAnyH_takeD (i := 4) (d := 44) (v := ?_) rfl rfl (by kernel_rfl) (by kernel_rfl) (by kernel_rfl) (fun c a w => hqx c a _ _ w) (Or.inl ⟨by kernel_rfl, ?_⟩) (by assumption) ?_
  rotate_left
  · intro w9 hSw; (try dsimp only at hSw); go_simp; (try with_reducible rfl)
  (try simp only [Act.put, List.setIfInBounds_toArray, List.set_cons_zero, List.set_cons_succ])
  refine wpAnyH_takeD (i := 0) (d := 40) (v := ?_) rfl rfl (by kernel_rfl) (by kernel_rfl) (by kernel_rfl) (fun c a w => hqx c a _ _ w) (Or.inl ⟨by kernel_rfl, ?_⟩) (by assumption) ?_
  rotate_left
  · intro w9 hSw; (try dsimp only at hSw); go_simp; (try with_reducible rfl)
  (try simp only [Act.put, List.setIfInBounds_toArray, List.set_cons_zero, List.set_cons_succ])
  refine wpAnyH_takeD (i := 5) (d := 45) (v := ?_) rfl rfl (by kernel_rfl) (by kernel_rfl) (by kernel_rfl) (fun c a w => hqx c a _ _ w) (Or.inl ⟨by kernel_rfl, ?_⟩) (by assumption) ?_
  rotate_left
  · intro w9 hSw; (try dsimp only at hSw); go_simp; (try with_reducible rfl)
  (try simp only [Act.put, List.setIfInBounds_toArray, List.set_cons_zero, List.set_cons_succ])
  refine wpAnyH_takeD (i := 6) (d := 46) (v := ?_) rfl rfl (by kernel_rfl) (by kernel_rfl) (by kernel_rfl) (fun c a w => hqx c a _ _ w) (Or.inl ⟨by kernel_rfl, ?_⟩) (by assumption) ?_
  rotate_left
  · intro w9 hSw; (try dsimp only at hSw); go_simp; (try with_reducible rfl)
  (try simp only [Act.put, List.setIfInBounds_toArray, List.set_cons_zero, List.set_cons_succ])
  refine wpAnyH_ready (rs := [2]) (by kernel_rfl) (by simp) ?_
  refine AllReadyH.cons (o := { dst := some 42, op := Op.call { callee := Callee.value (Operand.func 197), args := #[Operand.tmp 40, Operand.tmp 41], argTypes := #[31, 2] }, type := 155, pos := "l08_joint.go:64", after := #[{ on := 0, ground := Ground.data }, { on := 1, ground := Ground.data }], guard := none }) rfl (fun K hK => ?_) AllReadyH.nil
  go_simp
  go_wp2_with (go_at_call 197; ((with_reducible refine (HC1.out _ _ (hv'.up (by repeat' (first | (with_reducible exact Up.refl _) | (with_reducible assumption) | (with_reducible refine Up.alloc ?_ _) | (with_reducible refine Up.drew ?_) | (with_reducible refine Up.grow ?_ _) | (with_reducible refine Up.setCell ?_ (by (try simp); (try omega)) _))))).mono ?_); rintro e w6 ⟨v5, rfl, hb6, ga, cs, rfl, hg, hcs⟩; rw [HL1.out]; obtain ⟨a0, _, _, _⟩ := row_at hg (hcs i G5.out); have ia := hg.inw; clear hcs; have hb6 := (Up.drew (Up.refl x.to)).trans hb6; obtain ⟨y, rfl⟩ := Grow.on x hb6))
  refine hK.out _ _ ?_ (fun hHeld => ?_)
  · (try dsimp only); (repeat' apply And.intro) <;> go_simp
  clear hK K
  (try simp only [Act.put, List.setIfInBounds_toArray, List.set_cons_zero, List.set_cons_succ])
  refine wpAnyH_takeD (i := 7) (d := 47) (v := ?_) rfl rfl (by kernel_rfl) (by kernel_rfl) (by kernel_rfl) (fun c a w => hqx c a _ _ w) (Or.inl ⟨by kernel_rfl, ?_⟩) (by assumption) ?_
  rotate_left
  · intro w9 hSw; (try dsimp only at hSw); go_simp; (try with_reducible rfl)
  (try simp only [Act.put, List.setIfInBounds_toArray, List.set_cons_zero, List.set_cons_succ])
  refine wpAnyH_takeD (i := 8) (d := 48) (v := ?_) rfl rfl (by kernel_rfl) (by kernel_rfl) (by kernel_rfl) (fun c a w => hqx c a _ _ w) (Or.inl ⟨by kernel_rfl, ?_⟩) (by assumption) ?_
  rotate_left
  · intro w9 hSw; (try dsimp only at hSw); go_simp; (try with_reducible rfl)
  (try simp only [Act.put, List.setIfInBounds_toArray, List.set_cons_zero, List.set_cons_succ])
  refine wpAnyH_ready (rs := [9]) (by kernel_rfl) (by simp) ?_
  refine AllReadyH.cons (o := { dst := some 49, op := Op.load 2 (Operand.tmp 48), type := 2, pos := "l08_joint.go:64", after := #[{ on := 8, ground := Ground.data }], guard := none }) rfl (fun K hK => ?_) AllReadyH.nil
  go_simp
  refine hK.out _ _ ?_ (fun hHeld => ?_)
  · (try dsimp only); (repeat' apply And.intro) <;> go_simp
  clear hK K
  (try simp only [Act.put, List.setIfInBounds_toArray, List.set_cons_zero, List.set_cons_succ])
  refine wpAnyH_takeD (i := 10) (d := 50) (v := ?_) rfl rfl (by kernel_rfl) (by kernel_rfl) (by kernel_rfl) (fun c a w => hqx c a _ _ w) (Or.inl ⟨by kernel_rfl, ?_⟩) (by assumption) ?_
  rotate_left
  · intro w9 hSw; (try dsimp only at hSw); go_simp; (try with_reducible rfl)
  (try simp only [Act.put, List.setIfInBounds_toArray, List.set_cons_zero, List.set_cons_succ])
  refine wpAnyH_takeD (i := 11) (d := 51) (v := ?_) rfl rfl (by kernel_rfl) (by kernel_rfl) (by kernel_rfl) (fun c a w => hqx c a _ _ w) (Or.inl ⟨by kernel_rfl, ?_⟩) (by assumption) ?_
  rotate_left
  · intro w9 hSw; (try dsimp only at hSw); go_simp; (try with_reducible rfl)
  (try simp only [Act.put, List.setIfInBounds_toArray, List.set_cons_zero, List.set_cons_succ])
  refine wpAnyH_skips (by kernel_rfl) hqx [(12, 52), (13, 53), (14, 54), (15, 55), (16, 56), (17, 57), (18, 58), (19, 59), (20, 60), (21, 61), (22, 62)] _ _ _ _ (by kernel_rfl) hHeld ?_
  simp only [skipMark, skipPut, Act.put, List.setIfInBounds_toArray, List.set_cons_zero, List.set_cons_succ]
  refine wpAnyH_takeD (i := 23) (d := 63) (v := ?_) rfl rfl (by kernel_rfl) (by kernel_rfl) (by kernel_rfl) (fun c a w => hqx c a _ _ w) (Or.inl ⟨by kernel_rfl, ?_⟩) (by assumption) ?_
  rotate_left
  · intro w9 hSw; (try dsimp only at hSw); go_simp; (try with_reducible rfl)
  (try simp only [Act.put, List.setIfInBounds_toArray, List.set_cons_zero, List.set_cons_succ])
  refine wpAnyH_takeD (i := 24) (d := 39) (v := ?_) rfl rfl (by kernel_rfl) (by kernel_rfl) (by kernel_rfl) (fun c a w => hqx c a _ _ w) (Or.inl ⟨by kernel_rfl, ?_⟩) (by assumption) ?_
  rotate_left
  · intro w9 hSw; (try dsimp only at hSw); go_simp; (try with_reducible rfl)
  (try simp only [Act.put, List.setIfInBounds_toArray, List.set_cons_zero, List.set_cons_succ])
  refine wpAnyH_done (by kernel_rfl) (HQe _ _ ?_) _
  go_wp2
  go_ret
  exact ⟨rfl, (by repeat' (first | (with_reducible exact Up.refl _) | (with_reducible assumption) | (with_reducible refine Up.alloc ?_ _) | (with_reducible refine Up.drew ?_) | (with_reducible refine Up.grow ?_ _) | (with_reducible refine Up.setCell ?_ (by (try simp); (try omega)) _)))⟩
end Go.Proofs.Ytdeoampkbbbleaa
