/- Contracts of the reference's assurances. Condition: the slice reads as the table's numbers. -/
import Derived.Test.YtfelomijaimloaaS07
import Derived.Test.YtfelomijaimloaaDivBig
import Derived.Test.YtfelomijaimloaaStep
import Derived.Test.YtfelomijaimloaaLists
namespace Go.Proofs.Ytfelomijaimloaa
open Go.RowKit Pu

/-- Two numbers and a code are returned. -/
def RetQ3 (w : World) (code a b : Int) : Ending → World → Prop := Ret w (.tuple #[.int .i64 (if code = 0 then a else 0), .int .i64 (if code = 0 then b else 0), .int .i64 code])
theorem RetQ3_bad {w : World} {code a b : Int} (h : ¬ code = 0) : RetQ3 w code a b = Ret w (.tuple #[.int .i64 0, .int .i64 0, .int .i64 code]) := by unfold RetQ3; rw [if_neg h, if_neg h]
theorem RetQ3_ok {w : World} {a b : Int} : RetQ3 w 0 a b = Ret w (.tuple #[.int .i64 a, .int .i64 b, .int .i64 0]) := rfl

/-- Indices. -/
def ix (T : Tab) (age : Int) : Nat := (age - T.first).toNat
theorem ix_k (T : Tab) (k : Nat) : ix T (T.first + k) = k := by unfold ix; omega

noncomputable def apC (T : Tab) (r kind age n m : Int) : Int := code7 T r kind age n (inR m 1 100000000)
def apV (T : Tab) (r kind age n m : Int) : Int := up m (T.top r kind (ix T age) n.toNat) (T.D r (ix T age))
def lpV (T : Tab) (r kind age n m : Int) : Int := up m (T.top r kind (ix T age) n.toNat) (T.base r kind (ix T age) n.toNat)
open Classical in
noncomputable def sfC (T : Tab) (r kind age n m : Int) : Int :=
  if apC T r kind age n m = 0 then (if T.top r kind (ix T age) n.toNat = 0 then 4 else if qd m (T.D r (ix T age)) (T.top r kind (ix T age) n.toNat) ≤ 1000000000000000000 then 0 else 3) else apC T r kind age n m
def sfV (T : Tab) (r kind age n m : Int) : Int := qd m (T.D r (ix T age)) (T.top r kind (ix T age) n.toNat)

section
variable {T : Tab} (hT : T.Ok) {r : Int} (h0 : 0 ≤ r) {k m : Nat} {kind x : Int} (hd : 1 ≤ T.D r k) (hx : 0 ≤ x) (hx2 : x ≤ 1000000000)
include hT h0 hd hx hx2
theorem top_q : 0 ≤ qd x (T.top r kind k m) (T.D r k) ∧ qd x (T.top r kind k m) (T.D r k) ≤ 200000000000 := by
  have b := hT.top_bd h0 kind k m
  exact qd_200 (m := 1000000000) hx hx2 b.1 hd (by omega)
theorem lev_q (hn : kind = 0 ∨ 1 ≤ m) : 0 ≤ qd x (T.top r kind k m) (T.base r kind k m) ∧ qd x (T.top r kind k m) (T.base r kind k m) ≤ 200000000000 := by
  have b := hT.top_bd h0 kind k m
  have b2 := hT.base_bd h0 kind k m hn
  exact qd_200 (m := 1000000000) hx hx2 b.1 (by omega) (by omega)
end

section
variable {T : Tab} (hT : T.Ok) {r : Int} (h0 : 0 ≤ r) (h1 : r ≤ 200) {k m : Nat} {kind : Int} (hk1 : 0 ≤ kind) (hk2 : kind ≤ 3) (hl : T.first + k + m ≤ 150) (hd : 1 ≤ T.D r k) {x : Int} (hx : 1 ≤ x) (hx2 : x ≤ 1000000000)
include hT h0 h1 hk1 hk2 hl hd hx hx2
set_option maxRecDepth 100000 in
theorem s_Level (hn : kind = 0 ∨ 1 ≤ m) (v : Value) (w : World) (hv : TabAt w T v) :
    Calls Try.prog 193 #[v, .int .i64 r, .int .i64 kind, .int .i64 (T.first + k), .int .i64 m, .int .i64 x] w (Ret w (.int .i64 (up x (T.top r kind k m) (T.base r kind k m)))) := by
  have hv' := hv
  obtain ⟨A, c, rfl, hc, hm, _, hI⟩ := hv
  have b1 := hT.top_bd h0 kind k m
  have b2 := hT.base_bd h0 kind k m hn
  have b3 := lev_q hT h0 hd (kind := kind) (m := m) (x := x) (by omega) hx2 hn
  have HU := Lib.hid (s_Up x (T.top r kind k m) (T.base r kind k m) (by omega) (by omega) (by omega) (by omega) (by omega) (by omega) (by omega))
  have HT := Lib.hid (s_Top hT h0 h1 hk1 hk2 hl)
  have HB := Lib.hid (s_Base hT h0 h1 hk1 hk2 hl)
  clear b1 b2 b3 hn
  generalize T.top r kind k m = N at *
  generalize T.base r kind k m = D at *
  generalize up x N D = U at *
  go_enter Try.func193, Try.ntmps193
  go_wp2_with (first | (go_at_call 135; (with_reducible refine (HT.out _ _ (hv'.up (by repeat' (first | (with_reducible exact Up.refl _) | (with_reducible assumption) | (with_reducible refine Up.alloc ?_ _) | (with_reducible refine Up.drew ?_) | (with_reducible refine Up.grow ?_ _) | (with_reducible refine Up.setCell ?_ (by (try simp); (try omega)) _))))).mono ?_); rintro e w' ⟨rfl, hb⟩; first | (obtain ⟨x, rfl⟩ := Grow.on x hb) | (obtain ⟨x, rfl⟩ := Grow.mk' hb)) | (go_at_call 149; (with_reducible refine (HB.out _ _ (hv'.up (by repeat' (first | (with_reducible exact Up.refl _) | (with_reducible assumption) | (with_reducible refine Up.alloc ?_ _) | (with_reducible refine Up.drew ?_) | (with_reducible refine Up.grow ?_ _) | (with_reducible refine Up.setCell ?_ (by (try simp); (try omega)) _))))).mono ?_); rintro e w' ⟨rfl, hb⟩; first | (obtain ⟨x, rfl⟩ := Grow.on x hb) | (obtain ⟨x, rfl⟩ := Grow.mk' hb)) | (go_at_call 107; (with_reducible refine (HU.out _).mono ?_); rintro e w' ⟨rfl, rfl⟩) | (go_at_call 118; (with_reducible refine (s_In _ _ _ _).mono ?_); rintro e w' ⟨rfl, rfl⟩) | (go_at_call 123; (with_reducible refine (i_In _ _ _ _).mono ?_); rintro e w' ⟨rfl, rfl⟩) | (go_at_call 165; (with_reducible refine (s_Rate _ _).mono ?_); rintro e w' ⟨rfl, rfl⟩) | (go_at_call 169; (with_reducible refine (i_Rate _ _).mono ?_); rintro e w' ⟨rfl, rfl⟩) | (go_at_call 180; (with_reducible refine (i_Years _ _).mono ?_); rintro e w' ⟨rfl, rfl⟩) | (go_at_call 166; (with_reducible refine (s_Amount6 _ _).mono ?_); rintro e w' ⟨rfl, rfl⟩) | (go_at_call 120; (with_reducible refine (s_Sum7 _ _).mono ?_); rintro e w' ⟨rfl, rfl⟩) | ((first | with_reducible refine wp_region_in x (by kernel_rfl) (by kernel_rfl) ?_ | with_reducible refine wp_region_here (by kernel_rfl) (by kernel_rfl) ?_); (repeat (go_big_quiet_step ((first | (go_at_call 135; with_reducible exact Ret.grow _ (HT.out _ _ (hv'.up (by repeat' (first | (with_reducible exact Up.refl _) | (with_reducible assumption) | (with_reducible refine Up.alloc ?_ _) | (with_reducible refine Up.drew ?_) | (with_reducible refine Up.grow ?_ _) | (with_reducible refine Up.setCell ?_ (by (try simp); (try omega)) _)))))) | (go_at_call 149; with_reducible exact Ret.grow _ (HB.out _ _ (hv'.up (by repeat' (first | (with_reducible exact Up.refl _) | (with_reducible assumption) | (with_reducible refine Up.alloc ?_ _) | (with_reducible refine Up.drew ?_) | (with_reducible refine Up.grow ?_ _) | (with_reducible refine Up.setCell ?_ (by (try simp); (try omega)) _)))))) | (go_at_call 107; with_reducible exact Ret.same _ (HU.out _)) | (go_at_call 118; with_reducible exact Ret.same _ (s_In _ _ _ _)) | (go_at_call 123; with_reducible exact Ret.same _ (i_In _ _ _ _)) | (go_at_call 165; with_reducible exact Ret.same _ (s_Rate _ _)) | (go_at_call 169; with_reducible exact Ret.same _ (i_Rate _ _)) | (go_at_call 180; with_reducible exact Ret.same _ (i_Years _ _)) | (go_at_call 166; with_reducible exact Ret.same _ (s_Amount6 _ _)) | (go_at_call 120; with_reducible exact Ret.same _ (s_Sum7 _ _)))))); refine wpQuiet_nil ?_; intro w' hw'; obtain ⟨x, rfl⟩ := hw'))
  go_ret
  exact ⟨rfl, (by repeat' (first | (with_reducible exact Up.refl _) | (with_reducible assumption) | (with_reducible refine Up.alloc ?_ _) | (with_reducible refine Up.drew ?_) | (with_reducible refine Up.grow ?_ _) | (with_reducible refine Up.setCell ?_ (by (try simp); (try omega)) _)))⟩
end




noncomputable def anC (T : Tab) (r kind age n : Int) : Int := code7 T r kind age n true

noncomputable def tpC (T : Tab) (r age n m : Int) : Int := code7 T r 2 age n (inR m 1 100000000)
end Go.Proofs.Ytfelomijaimloaa
