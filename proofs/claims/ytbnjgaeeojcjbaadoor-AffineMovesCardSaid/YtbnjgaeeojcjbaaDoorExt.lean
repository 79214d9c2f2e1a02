/- What a call of math/bits.Add64 and of math/bits.Sub64 gives, over this seat's program; and the package-level variables' contents as one fact on a world, which new memory leaves as it is. -/
import Derived.Test.YtbnjgaeeojcjbaaDoorProg
import Derived.Below
import Derived.WalkLawsBesides
import Derived.Laws.Externs
import Derived.Laws.World
import Derived.KernelRfl
import Derived.Test.YtbnjgaeeojcjbaaDoorWWords
namespace Go.Proofs.YtbnjgaeeojcjbaaDoor
open Go.RowKit Go.Proofs.YtbnjgaeeojcjbaaDoorW.PrintWords

def add64_lo (x y c : Int) : Int := (x + y + c) % 18446744073709551616
def add64_hi (x y c : Int) : Int := (x + y + c) / 18446744073709551616
def sub64_lo (x y b : Int) : Int := (x + 18446744073709551616 - y - b) % 18446744073709551616
def sub64_hi (x y b : Int) : Int := if x < y + b then 1 else 0

theorem add64_run (x y c : Int) (hx : 0 ≤ x) (hy : 0 ≤ y) (h0 : 0 ≤ c) (h1 : c ≤ 1) (w : World) :
    (callFunc 50 #[.int .u64 x, .int .u64 y, .int .u64 c]).run Tryd.prog w =
      .ok (.value (.tuple #[.int .u64 (add64_lo x y c), .int .u64 (add64_hi x y c)])) w := by
  rw [run_callFunc_extern Tryd.func50 (by kernel_rfl) (by kernel_rfl) (by kernel_rfl) (e := add64Entry) (by kernel_rfl), run_add64 x y c hx hy h0 h1]
  rfl
end Go.Proofs.YtbnjgaeeojcjbaaDoor
