/- The rest of checkPairAnnuity's contract: the ways behind the last test. Condition: the slices read as the tables' numbers. -/
import Derived.Test.YtdeoampkbbbleaaIPairA
import Derived.Test.YtdeoampkbbbleaaIPairB
namespace Go.Proofs.Ytdeoampkbbbleaa
open Go.RowKit Pu

theorem i_PairA (T : Tab) (x : Int) (U : Tab) (y r m : Int) (v u : Value) (w : World) (hv : TabAt w T v) (hu : TabAt w U u) :
    Calls Try.prog 241 #[v, .int .i64 x, u, .int .i64 y, .int .i64 r, .int .i64 m] w (Ret w (.int .i64 (code8m T x U y r m))) := by
  unfold code8m
  by_cases hok : T.Ok ∧ U.Ok
  case neg => rw [if_neg hok]; exact i_PA1 T x U y r m v u w hv hu hok
  rw [if_pos hok]
  by_cases hr : inR x T.first 100 = true ∧ inR y U.first 150 = true ∧ inR r 0 200 = true ∧ inR m 1 1000000 = true
  case neg => rw [if_neg hr]; exact i_PA2 T x U y r m v u w hv hu hok.1 hok.2 hr
  rw [if_pos hr]
  obtain ⟨h1, h2, h3, h4⟩ := hr
  have g1 := inR_true.1 h1
  have g2 := inR_true.1 h2
  obtain ⟨i, rfl⟩ : ∃ i : Nat, x = T.first + i := ⟨(x - T.first).toNat, by omega⟩
  obtain ⟨j, rfl⟩ : ∃ j : Nat, y = U.first + j := ⟨(y - U.first).toNat, by omega⟩
  rw [show (T.first + (i : Int) - T.first).toNat = i from by omega, show (U.first + (j : Int) - U.first).toNat = j from by omega]
  by_cases hd : T.D r i = 0
  · rw [if_pos (Or.inl hd)]; exact i_PA3A T U i j r m v u w hv hu hok.1 hok.2 h1 h2 h3 h4 (by simp [hd])
  by_cases hd2 : U.D r j = 0
  · rw [if_pos (Or.inr hd2)]; exact i_PA3B T U i j r m v u w hv hu hok.1 hok.2 h1 h2 h3 h4 (by simp [hd]) hd2
  · rw [if_neg (by rintro (h | h) <;> contradiction)]; exact i_PA3C T U i j r m v u w hv hu hok.1 hok.2 h1 h2 h3 h4 (by simp [hd]) (by simp [hd2])
end Go.Proofs.Ytdeoampkbbbleaa
