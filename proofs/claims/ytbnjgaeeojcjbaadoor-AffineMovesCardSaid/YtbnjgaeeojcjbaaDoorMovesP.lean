/- AffineMoves over whole numbers alone: its printed function answers true. -/
import Derived.Test.YtbnjgaeeojcjbaaDoorAffP
import Derived.Test.YtbnjgaeeojcjbaaDoorPRx12
import Derived.Test.YtbnjgaeeojcjbaaDoorPRx6
namespace Go.Proofs.YtbnjgaeeojcjbaaDoor.PR
open Go.RowKit
theorem lin_one (x y c : Int) : lin 65536 x 0 y c = x + c := by unfold lin; rw [near16]; omega
theorem lin_two (x y c : Int) : lin 0 x 65536 y c = y + c := by unfold lin; rw [near16]; omega
theorem wakes_true (k : Nat) : pointillistlaw08_wakes.f (k + 7) = some true := by
  unfold pointillistlaw08_wakes.f
  rw [apply_eq]
  have : apply 131072 0 0 196608 65536 0 65536 65536 = (196608, 196608, 0) := by decide
  rw [this]
  rfl
theorem moves_true (p0 p1 q0 q1 b0 b1 : Int) (h0 : -2147483648 ≤ b0 ∧ b0 < 2147483648) (h1 : -2147483648 ≤ b1 ∧ b1 < 2147483648) :
    pointillistlaw08_AffineMoves.f 7 p0 p1 q0 q1 b0 b1 = some true := by
  have r : rightM 65536 0 0 65536 b0 b1 := by unfold rightM inZ; omega
  have r2 : rightM 65536 0 0 65536 (-b0) (-b1) := by unfold rightM inZ; omega
  have w0 : wrap64 b0 = b0 := w64_id _ (by omega) (by omega)
  have w1 : wrap64 b1 = b1 := w64_id _ (by omega) (by omega)
  have w2 : wrap64 (-b0) = -b0 := w64_id _ (by omega) (by omega)
  have w3 : wrap64 (-b1) = -b1 := w64_id _ (by omega) (by omega)
  unfold pointillistlaw08_AffineMoves.f affine_Same.f
  rw [wakes_true 0]
  simp only [Option.bind_some, if_true, w0, w1, w2, w3]
  rw [apply_eq 0, apply_eq 0]
  simp only [Option.bind_some]
  unfold apply
  rw [lin_one, lin_two, lin_one, lin_two]
  by_cases hp : rightM 65536 0 0 65536 b0 b1 ∧ inZ p0 ∧ inZ p1
  · rw [if_pos hp]
    by_cases hq : rightM 65536 0 0 65536 b0 b1 ∧ inZ q0 ∧ inZ q1
    · rw [if_pos hq]
      by_cases ha : inZ (p0 + b0) ∧ inZ (p1 + b1)
      · rw [if_pos ha]
        by_cases hb : inZ (q0 + b0) ∧ inZ (q1 + b1)
        · rw [if_pos hb]
          simp only [if_true]
          rw [apply_eq 0]
          simp only [Option.bind_some]
          have e3 : apply 65536 0 0 65536 (-b0) (-b1) (p0 + b0) (p1 + b1) = (p0, p1, 0) := by
            unfold apply
            rw [lin_one, lin_two, if_pos ⟨r2, ha⟩, show p0 + b0 + -b0 = p0 by omega, show p1 + b1 + -b1 = p1 by omega, if_pos hp.2]
          rw [e3, show q0 + b0 - (p0 + b0) = q0 - p0 by omega, show q1 + b1 - (p1 + b1) = q1 - p1 by omega]
          simp
        · rw [if_neg hb]; simp
      · rw [if_neg ha]; simp
    · rw [if_neg hq]
      by_cases ha : inZ (p0 + b0) ∧ inZ (p1 + b1)
      · rw [if_pos ha]; simp
      · rw [if_neg ha]; simp
  · rw [if_neg hp]; simp
theorem affineMoves_walk (p0 p1 q0 q1 b0 b1 : Int) (w : World) (hG : Gl w) (_ : -9223372036854775808 ≤ p0 ∧ p0 < 9223372036854775808) (_ : -9223372036854775808 ≤ p1 ∧ p1 < 9223372036854775808) (_ : -9223372036854775808 ≤ q0 ∧ q0 < 9223372036854775808) (_ : -9223372036854775808 ≤ q1 ∧ q1 < 9223372036854775808)
    (h0 : -2147483648 ≤ b0 ∧ b0 < 2147483648) (h1 : -2147483648 ≤ b1 ∧ b1 < 2147483648) :
    Calls Tryd.prog 4 #[.agg #[.int .i64 p0, .int .i64 p1], .agg #[.int .i64 q0, .int .i64 q1], .agg #[.int .i32 b0, .int .i32 b1]] w fun e w' => e = .returned (.bool true) ∧ Below w.heap.size w w' :=
  pointillistlaw08_AffineMoves.calls 7 p0 p1 q0 q1 b0 b1 w hG (moves_true p0 p1 q0 q1 b0 b1 h0 h1)
end Go.Proofs.YtbnjgaeeojcjbaaDoor.PR
