/- The affine layer's printed functions over whole numbers: what a matrix does to a point. -/
import Derived.Test.YtbnjgaeeojcjbaaDoorWideP
import Derived.Test.YtbnjgaeeojcjbaaDoorPRx6
import Derived.Test.YtbnjgaeeojcjbaaDoorPRx12
namespace Go.Proofs.YtbnjgaeeojcjbaaDoor.PR
open Go.RowKit Go.Proofs.YtbnjgaeeojcjbaaDoorW.PrintWords Go.Proofs.YtbnjgaeeojcjbaaDoorW.PrintLast Go.Proofs.YtbnjgaeeojcjbaaDoorW.PrintMore

/-- a x + b y by 16 places, rounded, and c. -/
def lin (a x b y c : Int) : Int := near (a * x + b * y) 16 + c
def inZ (a : Int) : Prop := -4294967296 < a ∧ a < 4294967296
instance (a : Int) : Decidable (inZ a) := inferInstanceAs (Decidable (_ ∧ _))
theorem inB_eq (a : Int) : inB a = decide (inZ a) := by unfold inB; rw [Bool.eq_iff_iff, Bool.and_eq_true, decide_eq_true_eq, decide_eq_true_eq]; exact ⟨fun h => decide_eq_true (p := inZ a) h, fun h => of_decide_eq_true (p := inZ a) h⟩
theorem inZ_i64 {a : Int} (h : inZ a) : I64 a := by unfold inZ I64 at *; omega
theorem mul_le_64 {a x : Int} (ha : inZ a) (hx : inZ x) : -18446744073709551616 ≤ a * x ∧ a * x ≤ 18446744073709551616 := by
  unfold inZ at *
  by_cases h1 : 0 ≤ a <;> by_cases h2 : 0 ≤ x
  · have := Int.mul_le_mul (show a ≤ 4294967296 by omega) (show x ≤ 4294967296 by omega) h2 (by omega)
    have := Int.mul_nonneg h1 h2
    omega
  · have h3 : a * (-x) ≤ 4294967296 * 4294967296 := Int.mul_le_mul (by omega) (by omega) (by omega) (by omega)
    have h4 : 0 ≤ a * (-x) := Int.mul_nonneg h1 (by omega)
    rw [Int.mul_neg] at h3 h4
    omega
  · have h3 : (-a) * x ≤ 4294967296 * 4294967296 := Int.mul_le_mul (by omega) (by omega) (by omega) (by omega)
    have h4 : 0 ≤ (-a) * x := Int.mul_nonneg (by omega) h2
    rw [Int.neg_mul] at h3 h4
    omega
  · have h3 : (-a) * (-x) ≤ 4294967296 * 4294967296 := Int.mul_le_mul (by omega) (by omega) (by omega) (by omega)
    have h4 : 0 ≤ (-a) * (-x) := Int.mul_nonneg (by omega) (by omega)
    rw [Int.neg_mul_neg] at h3 h4
    omega
theorem near16 (x : Int) : near x 16 = (x + 32768) / 65536 := rfl
theorem lin_le {a x b y c : Int} (ha : inZ a) (hx : inZ x) (hb : inZ b) (hy : inZ y) (hc : inZ c) : I64 (near (a * x + b * y) 16) ∧ I64 (lin a x b y c) := by
  have h1 := mul_le_64 ha hx
  have h2 := mul_le_64 hb hy
  unfold lin
  rw [near16]
  unfold I64 inZ at *
  omega
theorem number_eq (k : Nat) {a x b y c : Int} (ha : inZ a) (hx : inZ x) (hb : inZ b) (hy : inZ y) (hc : inZ c) :
    affine_number.r (k + 3) a x b y c = some (if inZ (lin a x b y c) then .ok (lin a x b y c) else .error 2) := by
  unfold affine_number.r
  obtain ⟨h1, h2⟩ := lin_le ha hx hb hy hc
  have hd := dot_eq (k + 1) a x b y 16 (by decide) (inZ_i64 ha) (inZ_i64 hx) (inZ_i64 hb) (inZ_i64 hy)
  have f1 : fit (near (a * x + b * y) 16) = (near (a * x + b * y) 16, true) := if_pos h1
  have f2 : fit (lin a x b y c) = (lin a x b y c, true) := if_pos h2
  have e16 : ((16 : Nat) : Int) = 16 := rfl
  rw [f1, e16] at hd
  rw [hd]
  simp only [Option.bind_some, if_true]
  rw [add2_eq k _ _ h1 (inZ_i64 hc)]
  change (some (fit (lin a x b y c))).bind _ = _
  rw [f2]
  simp only [Option.bind_some, if_true]
  rw [within_eq [lin a x b y c] (by simp) (k + 3) (by simp)]
  simp only [Option.bind_some, List.all_cons, List.all_nil, Bool.and_true]
  rw [inB_eq]
  by_cases h : inZ (lin a x b y c)
  · simp [h]
  · simp [h]
def rightM (a0 a1 a2 a3 a4 a5 : Int) : Prop := inZ a0 ∧ inZ a1 ∧ inZ a2 ∧ inZ a3 ∧ inZ a4 ∧ inZ a5
instance (a0 a1 a2 a3 a4 a5 : Int) : Decidable (rightM a0 a1 a2 a3 a4 a5) := inferInstanceAs (Decidable (_ ∧ _))
theorem right_eq (k : Nat) (a0 a1 a2 a3 a4 a5 : Int) : affine_Right.f (k + 7) a0 a1 a2 a3 a4 a5 = some (decide (rightM a0 a1 a2 a3 a4 a5)) := by
  unfold affine_Right.f
  rw [within_eq _ (by simp) (k + 7) (by simp)]
  simp only [Option.bind_some, List.all_cons, List.all_nil, Bool.and_true, inB_eq]
  congr 1
  rw [Bool.eq_iff_iff]
  simp only [Bool.and_eq_true, decide_eq_true_eq]
  exact Iff.rfl
/-- The answer of Apply: the point, 0; or no point, and the error. -/
def apply (a0 a1 a2 a3 a4 a5 x y : Int) : Int × Int × Int :=
  if rightM a0 a1 a2 a3 a4 a5 ∧ inZ x ∧ inZ y then
    if inZ (lin a0 x a2 y a4) ∧ inZ (lin a1 x a3 y a5) then (lin a0 x a2 y a4, lin a1 x a3 y a5, 0) else (0, 0, 2)
  else (0, 0, 1)
theorem apply_eq (k : Nat) (a0 a1 a2 a3 a4 a5 x y : Int) : affine_Apply.f (k + 7) a0 a1 a2 a3 a4 a5 x y = some (apply a0 a1 a2 a3 a4 a5 x y) := by
  unfold affine_Apply.f affine_moved.r apply
  rw [right_eq]
  simp only [Option.bind_some]
  by_cases hr : rightM a0 a1 a2 a3 a4 a5
  · rw [if_pos (decide_eq_true hr), within_eq _ (by simp) (k + 7) (by simp)]
    simp only [Option.bind_some, List.all_cons, List.all_nil, Bool.and_true, inB_eq]
    by_cases hp : inZ x ∧ inZ y
    · obtain ⟨hx, hy⟩ := hp
      have hr' := hr
      obtain ⟨r0, r1, r2, r3, r4, r5⟩ := hr'
      rw [if_pos (by simp [hx, hy]), if_pos ⟨hr, hx, hy⟩, number_eq (k + 4) r0 hx r2 hy r4]
      simp only [Option.bind_some]
      by_cases h1 : inZ (lin a0 x a2 y a4)
      · rw [if_pos h1]
        simp only
        rw [number_eq (k + 4) r1 hx r3 hy r5]
        simp only [Option.bind_some]
        by_cases h2 : inZ (lin a1 x a3 y a5)
        · rw [if_pos h2, if_pos ⟨h1, h2⟩]
          rfl
        · rw [if_neg h2, if_neg (fun h => h2 h.2)]
          rfl
      · rw [if_neg h1, if_neg (fun h => h1 h.1)]
        rfl
    · rw [if_neg (by simpa using hp), if_neg (fun h => hp h.2)]
      rfl
  · rw [if_neg (by simpa using hr), if_neg (fun h => hr h.1)]
    rfl
theorem same_right : rightM 65536 0 0 65536 0 0 := by decide
end Go.Proofs.YtbnjgaeeojcjbaaDoor.PR
