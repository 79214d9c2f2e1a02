/- The wide layer's printed functions over whole numbers: a number of 128 bits is its value modulo 2^128; Dot, Add and Within answer what their documents say. -/
import Derived.Test.YtbnjgaeeojcjbaaDoorPRx4
import Derived.Test.YtbnjgaeeojcjbaaDoorPRx3
import Derived.Laws.Bits64
import Derived.Laws.BitsAllLaws
import Derived.Lib.Mul64
namespace Go.Proofs.YtbnjgaeeojcjbaaDoor.PR
open Go.RowKit Go.Proofs.YtbnjgaeeojcjbaaDoorW.PrintWords Go.Proofs.YtbnjgaeeojcjbaaDoorW.PrintLast Go.Proofs.YtbnjgaeeojcjbaaDoorW.PrintMore

theorem w64 (n : Int) : wrap64 n = (n + 9223372036854775808) % 18446744073709551616 - 9223372036854775808 := by unfold wrap64; rfl
theorem w64_id (n : Int) (h : -9223372036854775808 ≤ n) (h2 : n < 9223372036854775808) : wrap64 n = n := by rw [w64]; omega
theorem uw (n : Int) : IntKind.u64.wrap n = n % 18446744073709551616 := by simp [IntKind.wrap, IntKind.bits, IntKind.signed]
def I64 (a : Int) : Prop := -9223372036854775808 ≤ a ∧ a < 9223372036854775808
/-- The two halves of a number. -/
def Bh (x : Int) : Int := (x / 18446744073709551616) % 18446744073709551616
def Bl (x : Int) : Int := x % 18446744073709551616
def In128 (x : Int) : Prop := -170141183460469231731687303715884105728 ≤ x ∧ x < 170141183460469231731687303715884105728

theorem of_B (a : Int) (h : I64 a) : wide_of.f a = some (Bh a, Bl a) := by
  unfold wide_of.f Bh Bl I64 at *
  rw [uw, uw]
  have : (a / 9223372036854775808) % 18446744073709551616 = (a / 18446744073709551616) % 18446744073709551616 := by omega
  rw [this]
theorem Bh_nn (x : Int) : 0 ≤ Bh x ∧ Bh x < 18446744073709551616 := by unfold Bh; omega
theorem Bl_nn (x : Int) : 0 ≤ Bl x ∧ Bl x < 18446744073709551616 := by unfold Bl; omega
theorem add_B (x y : Int) : wide_big_add.f (Bh x) (Bl x) (Bh y) (Bl y) = some (Bh (x + y), Bl (x + y)) := by
  unfold wide_big_add.f add64_hi add64_lo
  rw [if_pos (Bl_nn x).1, if_pos (Bl_nn y).1, if_pos (Bh_nn x).1, if_pos (Bh_nn y).1]
  have h1 : (0 : Int) ≤ (Bl x + Bl y + 0) / 18446744073709551616 := by have := Bl_nn x; have := Bl_nn y; omega
  have h2 : (Bl x + Bl y + 0) / 18446744073709551616 ≤ 1 := by have := Bl_nn x; have := Bl_nn y; omega
  rw [if_pos h1, if_pos h2]
  have e1 : (Bh x + Bh y + (Bl x + Bl y + 0) / 18446744073709551616) % 18446744073709551616 = Bh (x + y) := by unfold Bh Bl; omega
  have e2 : (Bl x + Bl y + 0) % 18446744073709551616 = Bl (x + y) := by unfold Bl; omega
  rw [e1, e2]
theorem not64 (a : Int) (h0 : 0 ≤ a) (h1 : a < 18446744073709551616) : Go.bits .xor .u64 IntKind.u64.max a = 18446744073709551615 - a := by
  obtain ⟨A, rfl⟩ := Int.eq_ofNat_of_zero_le h0
  have hA : A < 18446744073709551616 := by omega
  have hm : IntKind.u64.max = ((18446744073709551615 : Nat) : Int) := by decide
  rw [hm, bits_xor_u64_nat _ _ (by omega) hA]
  have hx : (18446744073709551615 : Nat) ^^^ A = 18446744073709551615 - A := by
    have h := BitVec.allOnes_xor (x := BitVec.ofNat 64 A)
    have h2 := congrArg BitVec.toNat h
    rw [BitVec.toNat_xor, BitVec.toNat_not, BitVec.toNat_allOnes, BitVec.toNat_ofNat, Nat.mod_eq_of_lt (by simpa using hA)] at h2
    simpa using h2
  rw [hx]
  omega
theorem minus_B (x : Int) : wide_big_minus.f (Bh x) (Bl x) = some (Bh (-x), Bl (-x)) := by
  unfold wide_big_minus.f
  rw [not64 _ (Bh_nn x).1 (Bh_nn x).2, not64 _ (Bl_nn x).1 (Bl_nn x).2]
  have e1 : 18446744073709551615 - Bh x = Bh (-1 - x) := by unfold Bh; omega
  have e2 : 18446744073709551615 - Bl x = Bl (-1 - x) := by unfold Bl; omega
  have e3 : (0 : Int) = Bh 1 := by decide
  have e4 : (1 : Int) = Bl 1 := by decide
  have := add_B (-1 - x) 1
  rw [← e3, ← e4] at this
  rw [e1, e2, this]
  simp only [Option.bind_some]
  have : (-1 - x + 1 : Int) = -x := by omega
  rw [this]
theorem below_B (x : Int) (h : In128 x) : wide_big_below.f (Bh x) (Bl x) = some (decide (x < 0)) := by
  unfold wide_big_below.f
  have : (Bh x / 9223372036854775808 == 1) = decide (x < 0) := by
    rw [Bool.eq_iff_iff]
    simp only [beq_iff_eq, decide_eq_true_eq]
    unfold Bh In128 at *
    omega
  rw [this]
def absI (x : Int) : Int := if x < 0 then -x else x
theorem size_B (x : Int) (h : In128 x) : wide_big_size.f (Bh x) (Bl x) = some (Bh (absI x), Bl (absI x)) := by
  unfold wide_big_size.f absI
  rw [below_B x h]
  by_cases hx : x < 0
  · simp [hx, minus_B]
  · simp [hx]
theorem and32 (a : Int) (h0 : 0 ≤ a) (h1 : a < 18446744073709551616) : Go.bits .and .u64 a 4294967295 = a % 4294967296 := by
  obtain ⟨A, rfl⟩ := Int.eq_ofNat_of_zero_le h0
  have := u64_and_nat A 4294967295 (by omega) (by omega)
  have h2 : ((4294967295 : Nat) : Int) = 4294967295 := rfl
  rw [h2] at this
  rw [this]
  have h3 : A &&& 4294967295 = A % 4294967296 := Nat.and_two_pow_sub_one_eq_mod A 32
  rw [h3]
  omega
theorem mul64_B (a b : Int) (ha0 : 0 ≤ a) (ha : a < 18446744073709551616) (hb0 : 0 ≤ b) (hb : b < 18446744073709551616) : bits_Mul64.f a b = some (a * b / 18446744073709551616, a * b % 18446744073709551616) := by
  unfold bits_Mul64.f
  obtain ⟨X, rfl⟩ := Int.eq_ofNat_of_zero_le ha0
  obtain ⟨Y, rfl⟩ := Int.eq_ofNat_of_zero_le hb0
  have hX : X < 18446744073709551616 := by omega
  have hY : Y < 18446744073709551616 := by omega
  obtain ⟨h1, h2, h3, h4⟩ := Lib.mul64_hi X Y hX hY
  have lo : Go.IntKind.u64.wrap ((X : Int) * (Y : Int)) = (X : Int) * Y % 18446744073709551616 := uw _
  rw [and32 _ ha0 ha, and32 _ hb0 hb, lo]
  have z1 := Lib.half_mul_le (a := X / 4294967296) (b := Y / 4294967296) (by omega) (by omega)
  have z2 := Lib.half_mul_le (a := X / 4294967296) (b := Y % 4294967296) (by omega) (by omega)
  have z3 := Lib.half_mul_le (a := X % 4294967296) (b := Y / 4294967296) (by omega) (by omega)
  have q : (X : Int) * Y / 18446744073709551616 = ((X * Y / 18446744073709551616 : Nat) : Int) := by simp
  rw [q, ← h4]
  have c1 : ((X : Int) / 4294967296) * ((Y : Int) % 4294967296) = (((X / 4294967296) * (Y % 4294967296) : Nat) : Int) := by simp
  have c2 : ((X : Int) % 4294967296) * ((Y : Int) % 4294967296) = (((X % 4294967296) * (Y % 4294967296) : Nat) : Int) := by simp
  have c3 : ((X : Int) % 4294967296) * ((Y : Int) / 4294967296) = (((X % 4294967296) * (Y / 4294967296) : Nat) : Int) := by simp
  have c4 : ((X : Int) / 4294967296) * ((Y : Int) / 4294967296) = (((X / 4294967296) * (Y / 4294967296) : Nat) : Int) := by simp
  rw [c1, c2, c3, c4]
  generalize X / 4294967296 * (Y / 4294967296) = p at *
  generalize X / 4294967296 * (Y % 4294967296) = r at *
  generalize X % 4294967296 * (Y / 4294967296) = s at *
  generalize X % 4294967296 * (Y % 4294967296) = t at *
  have e1 : IntKind.u64.wrap (t : Int) = (t : Int) := by rw [uw]; omega
  have e2 : IntKind.u64.wrap (r : Int) = (r : Int) := by rw [uw]; omega
  have e3 : IntKind.u64.wrap (s : Int) = (s : Int) := by rw [uw]; omega
  have e4 : IntKind.u64.wrap (p : Int) = (p : Int) := by rw [uw]; omega
  rw [e1, e2, e3, e4]
  have e5 : IntKind.u64.wrap ((r : Int) + (t : Int) / 4294967296) = ((r + t / 4294967296 : Nat) : Int) := by rw [uw]; omega
  rw [e5]
  generalize r + t / 4294967296 = u at *
  rw [and32 _ (by omega) (by omega)]
  have e6 : IntKind.u64.wrap ((u : Int) % 4294967296 + (s : Int)) = ((u % 4294967296 + s : Nat) : Int) := by rw [uw]; omega
  rw [e6]
  have e7 : IntKind.u64.wrap ((p : Int) + (u : Int) / 4294967296) = ((p + u / 4294967296 : Nat) : Int) := by rw [uw]; omega
  rw [e7]
  generalize u % 4294967296 + s = v at *
  have hq : X * Y / 18446744073709551616 < 18446744073709551616 := by
    have : X * Y < 18446744073709551616 * 18446744073709551616 := Nat.mul_lt_mul'' hX hY
    omega
  have e8 : IntKind.u64.wrap (((p + u / 4294967296 : Nat) : Int) + (v : Int) / 4294967296) = ((p + u / 4294967296 + v / 4294967296 : Nat) : Int) := by
    rw [uw]
    omega
  rw [e8]
theorem absI_le (a : Int) (h : I64 a) : 0 ≤ absI a ∧ absI a ≤ 9223372036854775808 := by unfold absI I64 at *; split <;> omega
theorem i64_128 (a : Int) (h : I64 a) : In128 a := by unfold I64 In128 at *; omega
theorem mul_le_126 (a b : Int) (ha : 0 ≤ a ∧ a ≤ 9223372036854775808) (hb : 0 ≤ b ∧ b ≤ 9223372036854775808) : 0 ≤ a * b ∧ a * b ≤ 85070591730234615865843651857942052864 := by
  refine ⟨Int.mul_nonneg ha.1 hb.1, ?_⟩
  have := Int.mul_le_mul ha.2 hb.2 hb.1 (by omega)
  omega
theorem times_B (a b : Int) (ha : I64 a) (hb : I64 b) : wide_times.f a b = some (Bh (a * b), Bl (a * b)) := by
  unfold wide_times.f
  have xa := absI_le a ha
  have xb := absI_le b hb
  have la : Bl (absI a) = absI a := by unfold Bl; omega
  have lb : Bl (absI b) = absI b := by unfold Bl; omega
  rw [of_B a ha, of_B b hb]
  simp only [Option.bind_some]
  rw [size_B a (i64_128 a ha)]
  simp only [Option.bind_some]
  rw [size_B b (i64_128 b hb)]
  simp only [Option.bind_some, la, lb]
  rw [mul64_B _ _ xa.1 (by omega) xb.1 (by omega)]
  simp only [Option.bind_some]
  obtain ⟨p0, p1⟩ := mul_le_126 _ _ xa xb
  have eh : absI a * absI b / 18446744073709551616 = Bh (absI a * absI b) := by unfold Bh; omega
  have el : absI a * absI b % 18446744073709551616 = Bl (absI a * absI b) := rfl
  rw [eh, el, minus_B]
  simp only [Option.bind_some]
  by_cases h1 : a < 0 <;> by_cases h2 : b < 0
  · have e : absI a * absI b = a * b := by unfold absI; rw [if_pos h1, if_pos h2]; exact Int.neg_mul_neg a b
    simp [h1, h2, e]
  · have e : -(absI a * absI b) = a * b := by unfold absI; rw [if_pos h1, if_neg h2, Int.neg_mul, Int.neg_neg]
    simp [h1, h2, e]
  · have e : -(absI a * absI b) = a * b := by unfold absI; rw [if_neg h1, if_pos h2, Int.mul_neg, Int.neg_neg]
    simp [h1, h2, e]
  · have e : absI a * absI b = a * b := by unfold absI; rw [if_neg h1, if_neg h2]
    simp [h1, h2, e]
/-- The nearest whole number to x / 2^s, of two the greater one. -/
def near (x : Int) (s : Nat) : Int := if s = 0 then x else (x + 2 ^ (s - 1)) / 2 ^ s
theorem or_parts (P Q h l : Nat) (i : Nat) (hQ : Q = 2 ^ i) (hP : P * Q = 18446744073709551616) (_hh : h < 18446744073709551616) (hl : l < 18446744073709551616) :
    (h * Q % 18446744073709551616) ||| (l / P) = (h % P) * Q + l / P := by
  have e1 : h * Q % 18446744073709551616 = (h % P) * Q := by rw [← hP, Nat.mul_mod_mul_right]
  have hP0 : 0 < P := Nat.pos_of_ne_zero (by rintro rfl; simp at hP)
  have e2 : l / P < 2 ^ i := by
    rw [← hQ]
    exact Nat.div_lt_of_lt_mul (by rw [hP]; exact hl)
  rw [e1, hQ, Nat.mul_comm (h % P) (2 ^ i), ← Nat.two_pow_add_eq_or_of_lt e2]
theorem shifted_B (x : Int) (s : Nat) (hs : s ≤ 62) (h2 : In128 (x + 2 ^ (s - 1))) : wide_big_shifted.f (Bh x) (Bl x) (s : Int) = some (Bh (near x s), Bl (near x s)) := by
  unfold wide_big_shifted.f near
  by_cases h0 : s = 0
  · subst h0; simp
  · have hs0 : ¬ ((s : Int) = 0) := by omega
    rw [if_neg hs0, if_neg h0]
    have e1 : IntKind.u64.wrap (wrap64 ((s : Int) - 1)) = ((s - 1 : Nat) : Int) := by rw [uw, w64]; omega
    have e2 : IntKind.u64.wrap (s : Int) = (s : Int) := by rw [uw]; omega
    have e3 : IntKind.u64.wrap (wrap64 (64 - (s : Int))) = ((64 - s : Nat) : Int) := by rw [uw, w64]; omega
    rw [e1, e2, e3, if_pos (by omega)]
    have hp : (2 : Int) ^ (s - 1) < 18446744073709551616 := by
      have : (2 : Nat) ^ (s - 1) < 2 ^ 64 := Nat.pow_lt_pow_right (by decide) (by omega)
      have h3 : ((2 ^ (s - 1) : Nat) : Int) < ((2 ^ 64 : Nat) : Int) := by exact_mod_cast this
      simpa using h3
    have hp0 : (0 : Int) ≤ 2 ^ (s - 1) := Int.le_of_lt (Int.pow_pos (by decide))
    have e4 : shl .u64 1 ((s - 1 : Nat) : Int) = 2 ^ (s - 1) := by
      unfold shl
      rw [uw, Int.toNat_natCast, Nat.min_eq_left (by simp [IntKind.bits]; omega), Int.one_mul]
      exact Int.emod_eq_of_lt hp0 hp
    rw [e4]
    have e5 : (0 : Int) = Bh (2 ^ (s - 1)) := by unfold Bh; rw [Int.ediv_eq_zero_of_lt hp0 hp]; rfl
    have e6 : (2 : Int) ^ (s - 1) = Bl (2 ^ (s - 1)) := by unfold Bl; rw [Int.emod_eq_of_lt hp0 hp]
    have ha := add_B x (2 ^ (s - 1))
    rw [← e5, ← e6] at ha
    rw [ha]
    simp only [Option.bind_some]
    rw [if_pos (by omega), if_pos (by omega)]
    generalize x + 2 ^ (s - 1) = y at *
    -- the two shifts
    have hP : (2 : Nat) ^ s * 2 ^ (64 - s) = 18446744073709551616 := by rw [← Nat.pow_add, show s + (64 - s) = 64 by omega]
    have hPZ : (2 : Int) ^ s * 2 ^ (64 - s) = 18446744073709551616 := by
      have h14 := congrArg (fun n : Nat => (n : Int)) hP
      simp only [Int.natCast_mul, Int.natCast_pow] at h14
      exact h14
    have hb := Bh_nn y
    have hl := Bl_nn y
    have hPi : ((2 : Int) ^ s) = ((2 ^ s : Nat) : Int) := by simp
    have f1 : IntKind.u64.wrap (shr .i64 (wrap64 (Bh y)) (s : Int)) = Bh (y / 2 ^ s) := by
      unfold shr Bh
      rw [uw, Int.toNat_natCast, Nat.min_eq_left (by simp [IntKind.bits]; omega)]
      have : wrap64 (y / 18446744073709551616 % 18446744073709551616) = y / 18446744073709551616 := by rw [w64]; unfold In128 at h2; omega
      rw [this, Int.ediv_ediv_of_nonneg (by decide : (0:Int) ≤ 18446744073709551616), Int.ediv_ediv_of_nonneg (Int.le_of_lt (Int.pow_pos (by decide))), Int.mul_comm]
    have f2 : Go.bits .or .u64 (shl .u64 (Bh y) ((64 - s : Nat) : Int)) (shr .u64 (Bl y) (s : Int)) = Bl (y / 2 ^ s) := by
      unfold shl shr
      rw [uw, Int.toNat_natCast, Int.toNat_natCast, Nat.min_eq_left (by simp [IntKind.bits]), Nat.min_eq_left (by simp [IntKind.bits]; omega)]
      obtain ⟨H, hH⟩ := Int.eq_ofNat_of_zero_le hb.1
      obtain ⟨L, hL⟩ := Int.eq_ofNat_of_zero_le hl.1
      have hH2 : H < 18446744073709551616 := by omega
      have hL2 : L < 18446744073709551616 := by omega
      have c1 : Bh y * 2 ^ (64 - s) % 18446744073709551616 = ((H * 2 ^ (64 - s) % 18446744073709551616 : Nat) : Int) := by rw [hH]; simp
      have c2 : Bl y / 2 ^ s = ((L / 2 ^ s : Nat) : Int) := by rw [hL]; simp
      rw [c1, c2, u64_or_nat _ _ (Nat.mod_lt _ (by decide)) (Nat.lt_of_le_of_lt (Nat.div_le_self _ _) hL2), or_parts (2 ^ s) (2 ^ (64 - s)) H L (64 - s) rfl hP hH2 hL2]
      unfold Bl
      have hy : y = Int.ofNat L + 18446744073709551616 * (y / 18446744073709551616) := by
        have h3 : Bl y = (L : Int) := hL
        unfold Bl at h3
        show y = (L : Int) + 18446744073709551616 * (y / 18446744073709551616)
        omega
      have hHm : (y / 18446744073709551616) % (2 ^ s) = ((H % 2 ^ s : Nat) : Int) := by
        have h4 : (y / 18446744073709551616) % 18446744073709551616 = (H : Int) := hH
        have h5 : ((y / 18446744073709551616) % 18446744073709551616) % ((2 ^ s : Nat) : Int) = (y / 18446744073709551616) % ((2 ^ s : Nat) : Int) := by
          apply Int.emod_emod_of_dvd
          exact ⟨((2 ^ (64 - s) : Nat) : Int), by rw [← Int.natCast_mul, hP]; rfl⟩
        rw [h4] at h5
        rw [hPi, ← h5]
        simp
      generalize y / 18446744073709551616 = z at *
      have hy2 : y / 2 ^ s = (L : Int) / 2 ^ s + 2 ^ (64 - s) * z := by
        rw [hy]
        have : (18446744073709551616 : Int) * z = 2 ^ s * (2 ^ (64 - s) * z) := by
          rw [← Int.mul_assoc]
          rw [hPZ]
        rw [this]
        exact Int.add_mul_ediv_left _ _ (Int.ne_of_gt (Int.pow_pos (by decide)))
      rw [hy2]
      have hz : (2 : Int) ^ (64 - s) * z = 2 ^ (64 - s) * (z % 2 ^ s) + 18446744073709551616 * (z / 2 ^ s) := by
        have h6 := Int.emod_add_mul_ediv z (2 ^ s)
        have : (18446744073709551616 : Int) = 2 ^ (64 - s) * 2 ^ s := by rw [Int.mul_comm]; exact hPZ.symm
        rw [this, Int.mul_assoc, ← Int.mul_add, h6]
      rw [hz, hHm]
      have hlt : (H % 2 ^ s) * 2 ^ (64 - s) + L / 2 ^ s < 18446744073709551616 := by
        have h7 : H % 2 ^ s < 2 ^ s := Nat.mod_lt _ (Nat.pow_pos (by decide))
        have h8 : L / 2 ^ s < 2 ^ (64 - s) := Nat.div_lt_of_lt_mul (by rw [hP]; exact hL2)
        have h9 : (H % 2 ^ s + 1) * 2 ^ (64 - s) ≤ 2 ^ s * 2 ^ (64 - s) := Nat.mul_le_mul_right _ h7
        rw [hP, Nat.add_mul] at h9
        omega
      have hcast : (L : Int) / 2 ^ s + (2 ^ (64 - s) * ((H % 2 ^ s : Nat) : Int) + 18446744073709551616 * (z / 2 ^ s)) = (((H % 2 ^ s) * 2 ^ (64 - s) + L / 2 ^ s : Nat) : Int) + 18446744073709551616 * (z / 2 ^ s) := by
        have : ((L / 2 ^ s : Nat) : Int) = (L : Int) / 2 ^ s := by simp
        rw [Int.natCast_add, Int.natCast_mul, this, Int.mul_comm (((H % 2 ^ s : Nat) : Int))]
        have : ((2 ^ (64 - s) : Nat) : Int) = 2 ^ (64 - s) := by simp
        rw [this]
        omega
      rw [hcast]
      generalize (H % 2 ^ s) * 2 ^ (64 - s) + L / 2 ^ s = v at hlt ⊢
      generalize z / 2 ^ s = q
      clear hcast hz hy2 hHm hy
      omega
    rw [f1, f2]
def fit (v : Int) : Int × Bool := if -9223372036854775808 ≤ v ∧ v < 9223372036854775808 then (v, true) else (0, false)
theorem plain_B (x : Int) (h : In128 x) : wide_big_plain.f (Bh x) (Bl x) = some (fit x) := by
  unfold wide_big_plain.f
  have hw : I64 (wrap64 (Bl x)) := by rw [w64]; unfold I64; omega
  rw [of_B _ hw]
  simp only [Option.bind_some]
  unfold fit
  by_cases hx : -9223372036854775808 ≤ x ∧ x < 9223372036854775808
  · have e : wrap64 (Bl x) = x := by rw [w64]; unfold Bl; omega
    rw [e, if_pos hx]
    simp
  · rw [if_neg hx]
    have : (!(Bh (wrap64 (Bl x)) == Bh x) || (!(Bl (wrap64 (Bl x)) == Bl x))) = true := by
      rw [Bool.or_eq_true]
      left
      simp only [Bool.not_eq_true', beq_eq_false_iff_ne, ne_eq]
      intro e
      rw [w64] at e
      unfold Bh Bl In128 at *
      omega
    rw [if_pos this]
theorem fit_eta (v : Int) : ((fit v).1, (fit v).2) = fit v := rfl
/-- Dot: the nearest number to (a b + c d) / 2^s, if it fits. -/
theorem dot_eq (k : Nat) (a b c d : Int) (s : Nat) (hs : s ≤ 62) (ha : I64 a) (hb : I64 b) (hc : I64 c) (hd : I64 d) :
    wide_Dot.f (k + 2) a b c d (s : Int) = some (fit (near (a * b + c * d) s)) := by
  unfold wide_Dot.f
  rw [if_neg (by omega), show decide ((s : Int) > 62) = false from decide_eq_false (by omega)]
  simp only [wide_Dot.j0]
  have hab : ∀ u v : Int, I64 u → I64 v → -85070591730234615865843651857942052864 ≤ u * v ∧ u * v ≤ 85070591730234615865843651857942052864 := by
    intro u v hu hv
    obtain ⟨p0, p1⟩ := mul_le_126 _ _ (absI_le u hu) (absI_le v hv)
    have : absI u * absI v = u * v ∨ absI u * absI v = -(u * v) := by
      unfold absI
      split <;> split
      · exact .inl (Int.neg_mul_neg u v)
      · exact .inr (Int.neg_mul u v)
      · exact .inr (Int.mul_neg u v)
      · exact .inl rfl
    omega
  have h1 := hab a b ha hb
  have h2 := hab c d hc hd
  -- the one sum that goes over
  have j1 : wide_Dot.j1 (k + 1) a b c d (s : Int) true = some (0, false) := by simp [wide_Dot.j1]
  have j2 : a * b + c * d < 170141183460469231731687303715884105728 → In128 (a * b + c * d + 2 ^ (s - 1)) → wide_Dot.j1 (k + 1) a b c d (s : Int) false = some (fit (near (a * b + c * d) s)) := by
    intro h3 h4
    have h5 : In128 (a * b + c * d) := by unfold In128; omega
    simp only [wide_Dot.j1, Bool.false_eq_true, if_false]
    rw [times_B a b ha hb, times_B c d hc hd]
    simp only [Option.bind_some]
    rw [add_B]
    simp only [Option.bind_some]
    rw [shifted_B _ s hs h4]
    simp only [Option.bind_some]
    have h6 : In128 (near (a * b + c * d) s) := by
      unfold near
      split
      · exact h5
      · have hp : (0 : Int) < 2 ^ s := Int.pow_pos (by decide)
        unfold In128 at *
        refine ⟨?_, ?_⟩
        · apply Int.le_ediv_of_mul_le hp
          have : (-170141183460469231731687303715884105728 : Int) * 2 ^ s ≤ -170141183460469231731687303715884105728 * 1 := Int.mul_le_mul_of_nonpos_left (by decide) hp
          omega
        · apply Int.ediv_lt_of_lt_mul hp
          have : (170141183460469231731687303715884105728 : Int) * 1 ≤ 170141183460469231731687303715884105728 * 2 ^ s := Int.mul_le_mul_of_nonneg_left hp (by decide)
          omega
    rw [plain_B _ h6]
    rfl
  have hpow : (0 : Int) ≤ 2 ^ (s - 1) ∧ (2 : Int) ^ (s - 1) ≤ 2305843009213693952 := by
    refine ⟨Int.le_of_lt (Int.pow_pos (by decide)), ?_⟩
    have h12 : (2 : Nat) ^ (s - 1) ≤ 2 ^ 61 := Nat.pow_le_pow_right (by decide) (by omega)
    have h13 : ((2 ^ (s - 1) : Nat) : Int) ≤ ((2 ^ 61 : Nat) : Int) := Int.ofNat_le.mpr h12
    rw [Int.natCast_pow] at h13
    exact h13
  by_cases hmin : a = -9223372036854775808 ∧ b = a ∧ c = a ∧ d = a
  · obtain ⟨e1, e2, e3, e4⟩ := hmin
    have e5 : b = -9223372036854775808 := by omega
    have e6 : c = -9223372036854775808 := by omega
    have e7 : d = -9223372036854775808 := by omega
    clear e2 e3 e4
    subst e1 e5 e6 e7
    rw [if_neg (show ¬ (false = true) by decide), if_pos rfl, if_pos rfl, if_pos rfl]
    rw [show ((-9223372036854775808 : Int) == -9223372036854775808) = true from rfl, j1]
    have : fit (near (-9223372036854775808 * -9223372036854775808 + -9223372036854775808 * -9223372036854775808) s) = (0, false) := by
      unfold fit
      rw [if_neg]
      intro h
      have h8 := h.2
      unfold near at h8
      split at h8
      · omega
      · have hp : (0 : Int) < 2 ^ s := Int.pow_pos (by decide)
        have h9 : (2 : Int) ^ s ≤ 4611686018427387904 := by
          have h12 : (2 : Nat) ^ s ≤ 2 ^ 62 := Nat.pow_le_pow_right (by decide) hs
          have h13 : ((2 ^ s : Nat) : Int) ≤ ((2 ^ 62 : Nat) : Int) := Int.ofNat_le.mpr h12
          rw [Int.natCast_pow] at h13
          exact h13
        have h10 := Int.lt_mul_of_ediv_lt hp h8
        omega
    rw [this]
  · have hlt : a * b + c * d ≤ 170141183460469231731687303715884105728 - 9223372036854775808 := by
      -- one factor is not the least
      have key : ∀ u v : Int, I64 u → I64 v → (u ≠ -9223372036854775808 ∨ v ≠ -9223372036854775808) → u * v ≤ 85070591730234615865843651857942052864 - 9223372036854775808 := by
        intro u v hu hv hne
        unfold I64 at hu hv
        by_cases hu0 : 0 ≤ u <;> by_cases hv0 : 0 ≤ v
        · have := Int.mul_le_mul (show u ≤ 9223372036854775807 by omega) (show v ≤ 9223372036854775807 by omega) hv0 (by omega)
          omega
        · have h11 : u * v ≤ 0 := Int.mul_nonpos_of_nonneg_of_nonpos hu0 (by omega)
          omega
        · have h11 : v * u ≤ 0 := Int.mul_nonpos_of_nonneg_of_nonpos hv0 (by omega)
          rw [Int.mul_comm] at h11
          omega
        · rcases hne with hne | hne
          · have : (-u) * (-v) ≤ 9223372036854775807 * 9223372036854775808 := Int.mul_le_mul (by omega) (by omega) (by omega) (by omega)
            rw [Int.neg_mul_neg] at this
            omega
          · have : (-u) * (-v) ≤ 9223372036854775808 * 9223372036854775807 := Int.mul_le_mul (by omega) (by omega) (by omega) (by omega)
            rw [Int.neg_mul_neg] at this
            omega
      by_cases g1 : a ≠ -9223372036854775808 ∨ b ≠ -9223372036854775808
      · have := key a b ha hb g1; omega
      · by_cases g2 : c ≠ -9223372036854775808 ∨ d ≠ -9223372036854775808
        · have := key c d hc hd g2; omega
        · exfalso
          apply hmin
          refine ⟨?_, ?_, ?_, ?_⟩ <;> omega
    have h4 : In128 (a * b + c * d + 2 ^ (s - 1)) := by unfold In128; omega
    have j3 := j2 (by omega) h4
    rw [if_neg (show ¬ (false = true) by decide)]
    by_cases g1 : a = -9223372036854775808
    · rw [if_pos g1]
      by_cases g2 : b = a
      · rw [if_pos g2]
        by_cases g3 : c = a
        · rw [if_pos g3]
          have g4 : (d == a) = false := by
            rw [beq_eq_false_iff_ne]
            intro e
            exact hmin ⟨g1, g2, g3, e⟩
          rw [g4]
          exact j3
        · rw [if_neg g3]; exact j3
      · rw [if_neg g2]; exact j3
    · rw [if_neg g1]; exact j3
/-- Within: is each number less than 2^32, either way? -/
def inB (a : Int) : Bool := decide (-4294967296 < a) && decide (a < 4294967296)
theorem within_from (l : List Int) (hl : l.length < 9223372036854775807) : ∀ (d k i : Nat), i + d = l.length → d < k →
    wide_Within.l0 k 4294967296 l (l.length : Int) (i : Int) = some ((l.drop i).all inB) := by
  intro d
  induction d with
  | zero =>
    intro k i hi hk
    obtain ⟨k, rfl⟩ : ∃ m, k = m + 1 := ⟨k - 1, by omega⟩
    simp only [wide_Within.l0]
    rw [if_neg (by omega), List.drop_eq_nil_of_le (by omega)]
    rfl
  | succ d ih =>
    intro k i hi hk
    obtain ⟨k, rfl⟩ : ∃ m, k = m + 1 := ⟨k - 1, by omega⟩
    simp only [wide_Within.l0]
    rw [if_pos (by omega), if_pos (by omega), if_pos (by omega), if_neg (by decide)]
    have hlt : i < l.length := by omega
    have e : rd l (i : Int) = l[i] := by
      unfold rd
      rw [Int.toNat_natCast, List.getD_eq_getElem?_getD, List.getElem?_eq_getElem hlt]
      rfl
    have e2 : l.drop i = l[i] :: l.drop (i + 1) := List.drop_eq_getElem_cons hlt
    have e3 : wrap64 (-4294967296) = -4294967296 := w64_id _ (by decide) (by decide)
    have e4 : wrap64 ((i : Int) + 1) = ((i + 1 : Nat) : Int) := by rw [w64]; omega
    rw [e, e2, List.all_cons, e3, e4, ih k (i + 1) (by omega) (by omega)]
    unfold inB
    by_cases h1 : l[i] ≥ 4294967296
    · rw [if_pos h1, show decide (l[i] < 4294967296) = false from decide_eq_false (by omega)]
      simp
    · rw [if_neg h1]
      by_cases h2 : l[i] ≤ -4294967296
      · rw [if_pos h2, show decide (-4294967296 < l[i]) = false from decide_eq_false (by omega)]
        simp
      · rw [if_neg h2, show decide (l[i] < 4294967296) = true from decide_eq_true (by omega), show decide (-4294967296 < l[i]) = true from decide_eq_true (by omega)]
        simp
theorem within_eq (l : List Int) (hl : l.length < 9223372036854775807) (k : Nat) (hk : l.length < k) : wide_Within.f k 4294967296 l = some (l.all inB) := by
  have := within_from l hl l.length k 0 (by omega) hk
  simpa [wide_Within.f] using this
/-- Add, of two numbers. -/
theorem add2_eq (k : Nat) (a b : Int) (ha : I64 a) (hb : I64 b) : wide_Add.f (k + 3) [a, b] = some (fit (a + b)) := by
  unfold wide_Add.f
  have e0 : (0 : Int) = Bh 0 := by decide
  have e1 : (0 : Int) = Bl 0 := by decide
  have r0 : rd [a, b] 0 = a := rfl
  have r1 : rd [a, b] 1 = b := rfl
  have w1 : wrap64 (0 + 1) = 1 := w64_id _ (by decide) (by decide)
  have w2 : wrap64 (1 + 1) = 2 := w64_id _ (by decide) (by decide)
  have s0 : wide_big_add.f 0 0 (Bh a) (Bl a) = some (Bh a, Bl a) := by
    have := add_B 0 a
    rw [← e0, ← e1, Int.zero_add] at this
    exact this
  simp only [wide_Add.l0, List.length_cons, List.length_nil]
  rw [if_pos (by decide), if_pos (by decide), if_pos (by decide), r0, of_B a ha]
  simp only [Option.bind_some]
  rw [s0]
  simp only [Option.bind_some, w1]
  rw [if_pos (by decide), if_pos (by decide), if_pos (by decide), r1, of_B b hb]
  simp only [Option.bind_some]
  rw [add_B]
  simp only [Option.bind_some, w2]
  rw [if_neg (by decide), plain_B (a + b) (by unfold I64 In128 at *; omega)]
  rfl
end Go.Proofs.YtbnjgaeeojcjbaaDoor.PR
