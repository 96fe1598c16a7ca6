/- Contracts of the program's annuities on two lives. Condition: the slices read as the tables' numbers. -/
import Derived.Test.YtdeoampkbbbleaaIPairC
import Derived.Test.YtdeoampkbbbleaaI08
namespace Go.Proofs.Ytdeoampkbbbleaa
open Go.RowKit Pu

theorem i_JA (T U : Tab) (x y r m : Int) (v u : Value) (w : World) (hv : TabAt w T v) (hu : TabAt w U u) : Calls Try.prog 136 #[v, .int .i64 x, u, .int .i64 y, .int .i64 r, .int .i64 m] w (RetQ w (code8m T x U y r m) (jointV T x U y r m)) :=
  i_JA0 T U x y r m (fun v u w hv hu => i_PairA T x U y r m v u w hv hu) v u w hv hu
theorem i_WA (T U : Tab) (x y r m : Int) (v u : Value) (w : World) (hv : TabAt w T v) (hu : TabAt w U u) : Calls Try.prog 134 #[v, .int .i64 x, u, .int .i64 y, .int .i64 r, .int .i64 m] w (RetQ w (code8m T x U y r m) (widowV T x U y r m)) :=
  i_WA0 T U x y r m (fun v u w hv hu => i_JA T U x y r m v u w hv hu) v u w hv hu
theorem i_LA (T U : Tab) (x y r m : Int) (v u : Value) (w : World) (hv : TabAt w T v) (hu : TabAt w U u) : Calls Try.prog 132 #[v, .int .i64 x, u, .int .i64 y, .int .i64 r, .int .i64 m] w (RetQ w (code8m T x U y r m) (lastV T x U y r m)) :=
  i_LA0 T U x y r m (fun v u w hv hu => i_WA T U x y r m v u w hv hu) v u w hv hu
end Go.Proofs.Ytdeoampkbbbleaa
