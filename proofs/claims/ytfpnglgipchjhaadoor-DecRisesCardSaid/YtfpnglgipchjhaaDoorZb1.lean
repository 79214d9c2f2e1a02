import Derived.ArgAppend
import Derived.Below
import Derived.BigQuiet
import Derived.Deep.AppendLies
import Derived.Deep.CutBlock
import Derived.Deep.DeepCutAuto
import Derived.Deep.Draws
import Derived.Deep.LoopGhost
import Derived.Deep.OwnRows
import Derived.Deep.QuietTactic
import Derived.Deep.RegionHeld3
import Derived.KernelRfl
import Derived.Laws.BitsLemmas
import Derived.Laws.BytesArg
import Derived.Laws.Externs
import Derived.Laws.IdiomCopy
import Derived.Laws.MakeOwn
import Derived.Laws.OwnMore
import Derived.Laws.Rows
import Derived.Laws.Slices
import Derived.Laws.StructEq
import Derived.Laws.World
import Derived.Lib.AppendStr
import Derived.Lib.ConvBytes
import Derived.Maps.AppendAt
import Derived.OrdersHeld
import Derived.OwnWalk
import Derived.RowKit
import Derived.RowKit3
import Derived.Tactics
import Derived.WalkKit
import Derived.WalkLawsBesides
import Derived.WideLaws
import Derived.Test.YtfpnglgipchjhaaDoorLen64
import Derived.Test.YtfpnglgipchjhaaDoorProg
import Derived.Test.YtfpnglgipchjhaaDoorZb0
-- What this claim needs of the words, the printed walks and this session's texts (merged and cut by wip/prune.py).
namespace Go.Proofs.YtfpnglgipchjhaaDoor.DecV
def nearQ (n d : Int) : Int := (2 * n + d) / (2 * d)
theorem nearQ_mul (n d c : Int) (hc : 0 < c) : nearQ (n * c) (d * c) = nearQ n d := by
  unfold nearQ
  have e1 : 2 * (n * c) + d * c = (2 * n + d) * c := by rw [Int.add_mul, Int.mul_assoc]
  have e2 : 2 * (d * c) = (2 * d) * c := by rw [Int.mul_assoc]
  rw [e1, e2]
  exact Int.mul_ediv_mul_of_pos_left _ _ hc
def sg (g : Bool) (m : Nat) : Int := if g then -(m : Int) else (m : Int)
theorem sg_mul (g : Bool) (m n : Nat) : sg g (m * n) = sg g m * (n : Int) := by unfold sg; cases g <;> simp [Int.neg_mul]
theorem ten_pos (n : Nat) : 0 < 10 ^ n := Nat.pow_pos (by decide)
def specN (g : Bool) (D : Nat) (pw : Int) : Int := nearQ (sg g (D * 65536 * 10 ^ pw.toNat)) ((10 ^ (-pw).toNat : Nat) : Int)
theorem specN_eq (g : Bool) (D : Nat) (pw : Int) (a b : Nat) (h : pw = (a : Int) - b) : specN g D pw = nearQ (sg g (D * 65536 * 10 ^ a)) ((10 ^ b : Nat) : Int) := by
  unfold specN
  obtain ⟨c, ha, hb⟩ : ∃ c : Nat, a = pw.toNat + c ∧ b = (-pw).toNat + c := by
    by_cases hp : 0 ≤ pw
    · exact ⟨b, by omega, by omega⟩
    · exact ⟨a, by omega, by omega⟩
  rw [ha, hb, Nat.pow_add, Nat.pow_add, ← Nat.mul_assoc, sg_mul _ _ (10 ^ c), Int.natCast_mul, nearQ_mul _ _ _ (by have := ten_pos c; omega)]
theorem specN_shift (g : Bool) (D : Nat) (pw : Int) (t : Nat) : specN g (D * 10 ^ t) (pw - t) = specN g D pw := by
  rw [specN_eq g D pw pw.toNat (-pw).toNat (by omega), specN_eq g (D * 10 ^ t) (pw - t) pw.toNat ((-pw).toNat + t) (by omega)]
  have e : D * 10 ^ t * 65536 * 10 ^ pw.toNat = D * 65536 * 10 ^ pw.toNat * 10 ^ t := by
    rw [Nat.mul_right_comm D (10 ^ t) 65536, Nat.mul_right_comm (D * 65536) (10 ^ t)]
  rw [e, sg_mul _ _ (10 ^ t), Nat.pow_add, Int.natCast_mul, nearQ_mul _ _ _ (by have := ten_pos t; omega)]
theorem specN_zero (g : Bool) (pw : Int) : specN g 0 pw = 0 := by
  unfold specN
  have h := ten_pos (-pw).toNat
  simp only [Nat.zero_mul]
  generalize (10 ^ (-pw).toNat : Nat) = T at *
  have : sg g 0 = 0 := by cases g <;> rfl
  rw [this]
  unfold nearQ
  rw [Int.mul_zero, Int.zero_add]
  exact Int.ediv_eq_zero_of_lt (by omega) (by omega)
def inb (n : Int) : Prop := -4294967296 < n ∧ n < 4294967296
instance (n : Int) : Decidable (inb n) := inferInstanceAs (Decidable (_ ∧ _))
def specR (g : Bool) (D : Nat) (pw : Int) : Int × Int := if inb (specN g D pw) then (specN g D pw, 0) else (0, 2)
def dv : List Int → Nat := fun l => l.foldl (fun a d => 10 * a + d.toNat) 0
theorem dv_snoc (l : List Int) (d : Int) : dv (l ++ [d]) = 10 * dv l + d.toNat := by unfold dv; rw [List.foldl_append]; rfl
theorem dv_nil : dv [] = 0 := rfl
def Dg (l : List Int) : Prop := ∀ a ∈ l, 0 ≤ a ∧ a ≤ 9
theorem foldl_dv (l : List Int) (a : Nat) : l.foldl (fun a d => 10 * a + d.toNat) a = a * 10 ^ l.length + dv l := by
  unfold dv
  induction l generalizing a with
  | nil => simp
  | cons d l ih =>
    simp only [List.foldl_cons, List.length_cons]
    rw [show 10 * 0 + d.toNat = d.toNat by omega, ih (10 * a + d.toNat), ih d.toNat, Nat.pow_succ, Nat.add_mul]
    have : 10 * a * 10 ^ l.length = a * (10 ^ l.length * 10) := by rw [Nat.mul_comm 10 a, Nat.mul_assoc, Nat.mul_comm 10]
    omega
theorem dv_app (l r : List Int) : dv (l ++ r) = dv l * 10 ^ r.length + dv r := by
  rw [← foldl_dv r (dv l)]
  show List.foldl _ _ (l ++ r) = _
  rw [List.foldl_append]
  rfl
theorem dv_lt {l : List Int} (h : Dg l) : dv l < 10 ^ l.length := by
  have key : ∀ (n : Nat) (l : List Int), l.length = n → Dg l → dv l < 10 ^ n := by
    intro n
    induction n with
    | zero => intro l hl _; obtain rfl := List.length_eq_zero_iff.mp hl; exact Nat.one_pos
    | succ n ih =>
      intro l hl h
      rcases List.eq_nil_or_concat l with rfl | ⟨l', a, rfl⟩
      · cases hl
      · rw [List.concat_eq_append] at *
        have h1 := ih l' (by simpa using hl) (fun x hx => h x (List.mem_append_left _ hx))
        have h2 := h a (by simp)
        rw [dv_snoc, Nat.pow_succ]
        omega
  exact key _ l rfl h
def F (l : List Int) (k : Int) : Nat := if k ≤ l.length then dv (l.take k.toNat) else dv l * 10 ^ (k - l.length).toNat
def at_ (l : List Int) (k : Int) : Int := if k < 0 then 0 else if k ≥ l.length then 0 else l.getD k.toNat 0
theorem at_ok {l : List Int} (h : Dg l) (k : Int) : 0 ≤ at_ l k ∧ at_ l k ≤ 9 := by
  unfold at_
  split
  · decide
  · split
    · decide
    · rename_i h1 h2
      have hlt : k.toNat < l.length := by omega
      rw [List.getD_eq_getElem?_getD, List.getElem?_eq_getElem hlt]
      exact h _ (List.getElem_mem hlt)
theorem F_low (l : List Int) (k : Int) (h : k ≤ 0) : F l k = 0 := by
  unfold F
  rw [if_pos (by omega), show k.toNat = 0 by omega]
  rfl
theorem F_succ (l : List Int) (k : Int) : F l (k + 1) = 10 * F l k + (at_ l k).toNat := by
  by_cases h0 : k < 0
  · rw [F_low l (k + 1) (by omega), F_low l k (by omega)]
    unfold at_
    rw [if_pos h0]
    rfl
  · by_cases h1 : k < l.length
    · have hlt : k.toNat < l.length := by omega
      unfold F at_
      rw [if_pos (by omega), if_pos (by omega), if_neg h0, if_neg (by omega), show (k + 1).toNat = k.toNat + 1 by omega, List.take_succ_eq_append_getElem hlt, dv_snoc, List.getD_eq_getElem?_getD, List.getElem?_eq_getElem hlt]
      rfl
    · have e : F l k = dv l * 10 ^ (k - l.length).toNat := by
        unfold F
        by_cases h2 : k ≤ l.length
        · rw [if_pos h2, show (k - (l.length : Int)).toNat = 0 by omega, List.take_of_length_le (by omega)]
          simp
        · rw [if_neg h2]
      have e2 : at_ l k = 0 := by unfold at_; rw [if_neg h0, if_pos (by omega)]
      rw [e, e2]
      unfold F
      rw [if_neg (by omega), show (k + 1 - (l.length : Int)).toNat = (k - l.length).toNat + 1 by omega, Nat.pow_succ]
      have : dv l * (10 ^ (k - ↑l.length).toNat * 10) = 10 * (dv l * 10 ^ (k - ↑l.length).toNat) := by rw [← Nat.mul_assoc, Nat.mul_comm]
      rw [this]
      rfl
theorem F_split {l : List Int} (hd : Dg l) (hl : ∀ a, l.getLast? = some a → a ≠ 0) (hne : l ≠ []) (k : Int) (hk : k < l.length) :
    ∃ R : Nat, dv l = F l k * 10 ^ ((l.length : Int) - k).toNat + R ∧ 0 < R ∧ R < 10 ^ ((l.length : Int) - k).toNat := by
  have hpos : ∀ r : List Int, (∃ q, l = q ++ r) → r ≠ [] → 0 < dv r := by
    rintro r ⟨q, rfl⟩ hr
    rcases List.eq_nil_or_concat r with rfl | ⟨r', a, rfl⟩
    · exact absurd rfl hr
    · rw [List.concat_eq_append] at *
      have h1 := hl a (by rw [← List.append_assoc]; simp)
      have h2 := hd a (by simp)
      rw [dv_snoc]
      omega
  unfold F
  rw [if_pos (by omega)]
  refine ⟨dv (l.drop k.toNat), ?_, hpos _ ⟨l.take k.toNat, (List.take_append_drop _ _).symm⟩ ?_, ?_⟩
  · by_cases h0 : k ≤ 0
    · rw [show k.toNat = 0 by omega]; simp [dv_nil]
    · have := dv_app (l.take k.toNat) (l.drop k.toNat)
      rw [List.take_append_drop, List.length_drop] at this
      rw [show ((l.length : Int) - k).toNat = l.length - k.toNat by omega]
      exact this
  · intro h
    have := congrArg List.length h
    rw [List.length_drop, List.length_nil] at this
    have : 0 < l.length := List.length_pos_iff.mpr hne
    omega
  · have h := dv_lt (l := l.drop k.toNat) (fun a ha => hd a (List.mem_of_mem_drop ha))
    rw [List.length_drop] at h
    exact Nat.lt_of_lt_of_le h (Nat.pow_le_pow_right (by decide) (by omega))
theorem div_is {a b q : Int} (h : 0 < b) (h1 : q * b ≤ a) (h2 : a < q * b + b) : a / b = q := by
  refine Int.le_antisymm (Int.lt_add_one_iff.1 (Int.ediv_lt_of_lt_mul h ?_)) (Int.le_ediv_of_mul_le h h1)
  rw [Int.add_mul, Int.one_mul]
  exact h2
theorem split_N (N R T : Nat) : (N * T + R) * 65536 = N * 65536 / 100000000000000000 * T * 100000000000000000 + N * 65536 % 100000000000000000 * T + R * 65536 := by
  have hN : N * 65536 = N * 65536 / 100000000000000000 * 100000000000000000 + N * 65536 % 100000000000000000 := by omega
  rw [Nat.add_mul, Nat.mul_right_comm]
  generalize N * 65536 / 100000000000000000 = v at *
  generalize N * 65536 % 100000000000000000 = r at *
  rw [hN, Nat.add_mul, Nat.mul_right_comm v]
theorem mulB (v T : Nat) : (v : Int) * (2 * ((100000000000000000 * T : Nat) : Int)) = 200000000000000000 * ((v * T : Nat) : Int) := by
  have e : (2 * ((100000000000000000 * T : Nat) : Int)) = 200000000000000000 * (T : Int) := by omega
  rw [e, Int.mul_left_comm, Int.natCast_mul]
def upB (g : Bool) (r R : Nat) : Bool := decide (50000000000000000 < r) || (r == 50000000000000000 && (decide (0 < R) || !g))
theorem near_17 (g : Bool) (N R T : Nat) (hR : R < T) : nearQ (sg g ((N * T + R) * 65536)) ((100000000000000000 * T : Nat) : Int) = sg g (N * 65536 / 100000000000000000 + if upB g (N * 65536 % 100000000000000000) R then 1 else 0) := by
  have hr2 : N * 65536 % 100000000000000000 % 65536 = 0 := by omega
  have hr1 : N * 65536 % 100000000000000000 < 100000000000000000 := Nat.mod_lt _ (by decide)
  rw [split_N]
  generalize N * 65536 / 100000000000000000 = v
  generalize N * 65536 % 100000000000000000 = r at *
  have hB : (0 : Int) < 2 * ((100000000000000000 * T : Nat) : Int) := by omega
  have hv := mulB v T
  have lo : r ≤ 49999999999934464 ∨ r = 50000000000000000 ∨ 50000000000065536 ≤ r := by omega
  unfold nearQ
  rcases lo with lo | lo | lo
  · have h2 : r * T ≤ 49999999999934464 * T := Nat.mul_le_mul_right T lo
    have hu : upB g r R = false := by unfold upB; simp; omega
    rw [hu]
    generalize r * T = rT at *
    generalize v * T = vT at *
    cases g with
    | false => exact div_is hB (by simp only [sg, Bool.false_eq_true, if_false, Nat.add_zero]; omega) (by simp only [sg, Bool.false_eq_true, if_false, Nat.add_zero]; omega)
    | true => exact div_is hB (by simp only [sg, Bool.false_eq_true, if_true, if_false, Nat.add_zero, Int.neg_mul]; omega) (by simp only [sg, Bool.false_eq_true, if_true, if_false, Nat.add_zero, Int.neg_mul]; omega)
  · subst lo
    generalize v * T = vT at *
    by_cases hR0 : 0 < R
    · have hu : upB g 50000000000000000 R = true := by unfold upB; simp [hR0]
      rw [hu]
      cases g with
      | false => exact div_is hB (by simp only [sg, Bool.false_eq_true, if_true, if_false, Int.natCast_add, Int.add_mul]; omega) (by simp only [sg, Bool.false_eq_true, if_true, if_false, Int.natCast_add, Int.add_mul]; omega)
      | true => exact div_is hB (by simp only [sg, if_true, Int.natCast_add, Int.add_mul, Int.neg_mul]; omega) (by simp only [sg, if_true, Int.natCast_add, Int.add_mul, Int.neg_mul]; omega)
    · obtain rfl : R = 0 := by omega
      cases g with
      | false =>
        have hu : upB false 50000000000000000 0 = true := by decide
        rw [hu]
        exact div_is hB (by simp only [sg, Bool.false_eq_true, if_true, if_false, Int.natCast_add, Int.add_mul]; omega) (by simp only [sg, Bool.false_eq_true, if_true, if_false, Int.natCast_add, Int.add_mul]; omega)
      | true =>
        have hu : upB true 50000000000000000 0 = false := by decide
        rw [hu]
        exact div_is hB (by simp only [sg, Bool.false_eq_true, if_true, if_false, Nat.add_zero, Int.neg_mul]; omega) (by simp only [sg, Bool.false_eq_true, if_true, if_false, Nat.add_zero, Int.neg_mul]; omega)
  · have h1 : 50000000000065536 * T ≤ r * T := Nat.mul_le_mul_right T lo
    have h2 : r * T ≤ 99999999999934464 * T := Nat.mul_le_mul_right T (by omega)
    have hu : upB g r R = true := by unfold upB; simp; omega
    rw [hu]
    generalize r * T = rT at *
    generalize v * T = vT at *
    cases g with
    | false => exact div_is hB (by simp only [sg, Bool.false_eq_true, if_true, if_false, Int.natCast_add, Int.add_mul]; omega) (by simp only [sg, Bool.false_eq_true, if_true, if_false, Int.natCast_add, Int.add_mul]; omega)
    | true => exact div_is hB (by simp only [sg, if_true, Int.natCast_add, Int.add_mul, Int.neg_mul]; omega) (by simp only [sg, if_true, Int.natCast_add, Int.add_mul, Int.neg_mul]; omega)
theorem spec_17 (g : Bool) {l : List Int} (hd : Dg l) (hl : ∀ a, l.getLast? = some a → a ≠ 0) (p : Int) :
    specN g (dv l) (p - l.length) = sg g (F l (p + 17) * 65536 / 100000000000000000 + if upB g (F l (p + 17) * 65536 % 100000000000000000) (if l ≠ [] ∧ p + 17 < l.length then 1 else 0) then 1 else 0) := by
  by_cases hne : l = []
  · subst hne
    have hF : F [] (p + 17) = 0 := by unfold F; split <;> simp [dv_nil]
    rw [dv_nil, specN_zero, hF]
    cases g <;> rfl
  by_cases hk : p + 17 < l.length
  · have hc : (if l ≠ [] ∧ p + 17 < l.length then 1 else 0 : Nat) = 1 := if_pos ⟨hne, hk⟩
    rw [hc]
    obtain ⟨R, h1, h2, h3⟩ := F_split hd hl hne (p + 17) hk
    rw [specN_eq g (dv l) (p - l.length) 0 (17 + ((l.length : Int) - (p + 17)).toNat) (by omega), Nat.pow_zero, Nat.mul_one, Nat.pow_add, h1]
    have e17 : (10 : Nat) ^ 17 = 100000000000000000 := by decide
    rw [e17, near_17 g _ R _ h3]
    have hu : ∀ r, upB g r R = upB g r 1 := by intro r; unfold upB; rw [show decide (0 < R) = decide (0 < 1) by simp [h2]]
    rw [hu]
  · have hc : (if l ≠ [] ∧ p + 17 < l.length then 1 else 0 : Nat) = 0 := if_neg (fun h => hk h.2)
    rw [hc]
    have hF : F l (p + 17) = dv l * 10 ^ (p + 17 - l.length).toNat := by
      unfold F
      by_cases h2 : p + 17 ≤ l.length
      · rw [if_pos h2, show (p + 17 - (l.length : Int)).toNat = 0 by omega, List.take_of_length_le (by omega)]
        simp
      · rw [if_neg h2]
    have h := specN_shift g (dv l) (p - l.length) (p + 17 - l.length).toNat
    rw [← h, ← hF, specN_eq g _ _ 0 17 (by omega), Nat.pow_zero, Nat.mul_one]
    have e17 : (10 : Nat) ^ 17 = 100000000000000000 * 1 := by decide
    have := near_17 g (F l (p + 17)) 0 1 (by decide)
    rw [Nat.mul_one, Nat.add_zero] at this
    rw [e17]
    exact this
theorem spec_great (g : Bool) {l : List Int} (hl : ∀ a, l.head? = some a → 1 ≤ a) (hne : l ≠ []) (p : Int) (hp : 5 < p) : ¬ inb (specN g (dv l) (p - l.length)) := by
  have hlow : 10 ^ (l.length - 1) ≤ dv l := by
    cases l with
    | nil => exact absurd rfl hne
    | cons a l =>
      have ha := hl a rfl
      have h := foldl_dv l (10 * 0 + a.toNat)
      show _ ≤ List.foldl _ _ l
      rw [h]
      have : 1 * 10 ^ l.length ≤ (10 * 0 + a.toNat) * 10 ^ l.length := Nat.mul_le_mul_right _ (by omega)
      simp only [List.length_cons, Nat.add_sub_cancel]
      omega
  have hlen : 0 < l.length := List.length_pos_iff.mpr hne

  obtain ⟨a, b, hab⟩ : ∃ a b : Nat, p - l.length = (a : Int) - b := ⟨p.toNat, l.length, by omega⟩
  rw [specN_eq g (dv l) (p - l.length) p.toNat l.length (by omega)]
  have h1 : 10 ^ l.length * 100000 ≤ dv l * 10 ^ p.toNat := by
    have e1 : p.toNat = 6 + (p.toNat - 6) := by omega
    have e2 : l.length = (l.length - 1) + 1 := by omega
    have := Nat.mul_le_mul hlow (Nat.le_refl (10 ^ 6 * 10 ^ (p.toNat - 6)))
    have one := ten_pos (p.toNat - 6)
    rw [e1, Nat.pow_add]
    have e3 : 10 ^ l.length = 10 ^ (l.length - 1) * 10 := by
      obtain ⟨q, hq⟩ : ∃ q, l.length = q + 1 := ⟨l.length - 1, by omega⟩
      rw [hq, Nat.add_sub_cancel, Nat.pow_succ]
    rw [e3]
    refine Nat.le_trans ?_ this
    have e6 : (10 : Nat) ^ 6 = 1000000 := by decide
    rw [e6, ← Nat.mul_assoc]
    have : 10 ^ (l.length - 1) * 1000000 * 1 ≤ 10 ^ (l.length - 1) * 1000000 * 10 ^ (p.toNat - 6) := Nat.mul_le_mul_left _ one
    omega
  have hT := ten_pos l.length
  rw [show dv l * 65536 * 10 ^ p.toNat = dv l * 10 ^ p.toNat * 65536 from Nat.mul_right_comm _ _ _]
  generalize dv l * 10 ^ p.toNat = X at *
  generalize (10 ^ l.length : Nat) = T at *
  unfold inb nearQ
  intro hc
  cases g with
  | false =>
    simp only [sg, Bool.false_eq_true, if_false] at hc
    have := Int.lt_mul_of_ediv_lt (show (0 : Int) < 2 * (T : Int) by omega) hc.2
    omega
  | true =>
    simp only [sg, if_true] at hc
    have := Int.le_ediv_iff_mul_le (a := -4294967295) (b := 2 * -((X * 65536 : Nat) : Int) + (T : Int)) (show (0 : Int) < 2 * (T : Int) by omega)
    have := this.1 (by omega)
    omega
end Go.Proofs.YtfpnglgipchjhaaDoor.DecV
namespace Go.Proofs.YtfpnglgipchjhaaDoor.DecV
def isD (c : Int) : Bool := decide (48 ≤ c ∧ c ≤ 57)
def isS (c : Int) : Bool := decide (c = 43 ∨ c = 45)
def isE (c : Int) : Bool := decide (c = 101 ∨ c = 69)
def lk (L : List Int) (i : Nat) : Int := L.getD i 0
theorem lk_end (L : List Int) (i : Nat) (h : L.length ≤ i) : lk L i = 0 := by unfold lk; rw [List.getD_eq_getElem?_getD, List.getElem?_eq_none h]; rfl
theorem lk_lt {L : List Int} {i : Nat} (h : lk L i ≠ 0) : i < L.length := Nat.lt_of_not_le fun h2 => h (lk_end L i h2)
theorem isD_lt {L : List Int} {i : Nat} (h : isD (lk L i) = true) : i < L.length := lk_lt fun h2 => by rw [h2] at h; exact absurd h (by decide)
theorem isS_lt {L : List Int} {i : Nat} (h : isS (lk L i) = true) : i < L.length := lk_lt fun h2 => by rw [h2] at h; exact absurd h (by decide)
theorem isE_lt {L : List Int} {i : Nat} (h : isE (lk L i) = true) : i < L.length := lk_lt fun h2 => by rw [h2] at h; exact absurd h (by decide)
def rn (L : List Int) (i : Nat) : Nat := i + ((L.drop i).takeWhile isD).length
theorem rn_ge (L : List Int) (i : Nat) : i ≤ rn L i := Nat.le_add_right _ _
theorem drop_lk {L : List Int} {i : Nat} (h : i < L.length) : L.drop i = lk L i :: L.drop (i + 1) := by
  rw [List.drop_eq_getElem_cons h]
  congr 1
  unfold lk
  rw [List.getD_eq_getElem?_getD, List.getElem?_eq_getElem h]
  rfl
theorem rn_step {L : List Int} {i : Nat} (h : isD (lk L i) = true) : rn L i = rn L (i + 1) := by
  unfold rn
  rw [drop_lk (isD_lt h), List.takeWhile_cons_of_pos h]
  simp only [List.length_cons]
  omega
theorem rn_stop {L : List Int} {i : Nat} (h : isD (lk L i) = false) : rn L i = i := by
  unfold rn
  by_cases hi : i < L.length
  · rw [drop_lk hi, List.takeWhile_cons_of_neg (by simp [h])]
    rfl
  · rw [List.drop_eq_nil_of_le (by omega)]
    rfl
theorem rn_le {L : List Int} {i : Nat} (h : i ≤ L.length) : rn L i ≤ L.length := by
  unfold rn
  have := (List.takeWhile_sublist isD (l := L.drop i)).length_le
  rw [List.length_drop] at this
  omega
theorem rn_ind {L : List Int} (P : Nat → Prop) (step : ∀ i, isD (lk L i) = true → P (i + 1) → P i) (stop : ∀ i, isD (lk L i) = false → P i) (i : Nat) : P i := by
  have key : ∀ d i, L.length ≤ i + d → P i := by
    intro d
    induction d with
    | zero =>
      intro i hi
      refine stop i ?_
      rw [lk_end L i (by omega)]
      decide
    | succ d ih =>
      intro i hi
      cases h : isD (lk L i) with
      | true => exact step i h (ih (i + 1) (by omega))
      | false => exact stop i h
  exact key L.length i (by omega)
def scanB (L : List Int) (i : Nat) : Nat := if lk L (rn L i) = 46 then rn L (rn L i + 1) else rn L i
def someB (L : List Int) (i : Nat) : Bool := decide (i < rn L i) || (decide (lk L (rn L i) = 46) && decide (rn L i + 1 < rn L (rn L i + 1)))
def expJ (L : List Int) (b : Nat) : Nat := if isS (lk L (b + 1)) = true then b + 2 else b + 1
def scanU (L : List Int) (i : Nat) : Nat × Bool :=
  if someB L i = true then
    if isE (lk L (scanB L i)) = true then (rn L (expJ L (scanB L i)), decide (expJ L (scanB L i) < rn L (expJ L (scanB L i)))) else (scanB L i, true)
  else (scanB L i, false)
def scanS (L : List Int) (i : Nat) (sg : Bool) : Nat × Bool := scanU L (if sg = true ∧ isS (lk L i) = true then i + 1 else i)
end Go.Proofs.YtfpnglgipchjhaaDoor.DecV
namespace Go.Proofs.YtfpnglgipchjhaaDoor.DecV
def runD (L : List Int) (i : Nat) : List Int := ((L.drop i).takeWhile isD).map fun c => c - 48
theorem runD_len (L : List Int) (i : Nat) : rn L i = i + (runD L i).length := by unfold rn runD; rw [List.length_map]
theorem runD_step {L : List Int} {i : Nat} (h : isD (lk L i) = true) : runD L i = (lk L i - 48) :: runD L (i + 1) := by
  unfold runD
  rw [drop_lk (isD_lt h), List.takeWhile_cons_of_pos h, List.map_cons]
theorem runD_stop {L : List Int} {i : Nat} (h : isD (lk L i) = false) : runD L i = [] := by
  unfold runD
  by_cases hi : i < L.length
  · rw [drop_lk hi, List.takeWhile_cons_of_neg (by simp [h])]
    rfl
  · rw [List.drop_eq_nil_of_le (by omega)]
    rfl
theorem isD_val {c : Int} (h : isD c = true) : 0 ≤ c - 48 ∧ c - 48 ≤ 9 := by
  unfold isD at h
  have := of_decide_eq_true h
  omega
theorem runD_ok (L : List Int) (i : Nat) : Dg (runD L i) := by
  intro a ha
  unfold runD at ha
  rw [List.mem_map] at ha
  obtain ⟨c, hc, rfl⟩ := ha
  have := List.all_takeWhile (p := isD) (l := L.drop i)
  rw [List.all_eq_true] at this
  exact isD_val (this c hc)
theorem dv_cons (d : Int) (l : List Int) : dv (d :: l) = d.toNat * 10 ^ l.length + dv l := by
  have h := foldl_dv l (10 * 0 + d.toNat)
  show List.foldl _ _ l = _
  rw [h, show 10 * 0 + d.toNat = d.toNat by omega]
def i0 (L : List Int) : Nat := if isS (lk L 0) = true then 1 else 0
def negS (L : List Int) : Bool := decide (lk L 0 = 45)
def digS (L : List Int) : List Int := runD L (i0 L) ++ (if lk L (rn L (i0 L)) = 46 then runD L (rn L (i0 L) + 1) else [])
def behS (L : List Int) : Nat := if lk L (rn L (i0 L)) = 46 then (runD L (rn L (i0 L) + 1)).length else 0
def endM (L : List Int) : Nat := scanB L (i0 L)
def epwS (M : Nat) (L : List Int) : Int := if endM L < L.length then (if lk L (endM L + 1) = 45 then -((min (dv (runD L (expJ L (endM L)))) M : Nat) : Int) else ((min (dv (runD L (expJ L (endM L)))) M : Nat) : Int)) else 0
def isNum (L : List Int) : Prop := scanS L 0 true = (L.length, true)
instance (L : List Int) : Decidable (isNum L) := inferInstanceAs (Decidable (_ = _))
theorem scanS_0 (L : List Int) : scanS L 0 true = scanU L (i0 L) := by
  unfold scanS i0
  cases h : isS (lk L 0) with
  | true => simp
  | false => simp
theorem isNum_parts {L : List Int} (h : isNum L) : someB L (i0 L) = true ∧ ((endM L = L.length) ∨ (isE (lk L (endM L)) = true ∧ rn L (expJ L (endM L)) = L.length ∧ expJ L (endM L) < L.length)) := by
  unfold isNum at h
  rw [scanS_0] at h
  unfold scanU at h
  by_cases h1 : someB L (i0 L) = true
  · refine ⟨h1, ?_⟩
    rw [if_pos h1] at h
    by_cases h2 : isE (lk L (scanB L (i0 L))) = true
    · rw [if_pos h2] at h
      obtain ⟨h3, h4⟩ := Prod.mk.inj h
      have h5 := of_decide_eq_true h4
      rw [h3] at h5
      exact .inr ⟨h2, h3, h5⟩
    · rw [if_neg h2] at h
      exact .inl (Prod.mk.inj h).1
  · rw [if_neg h1] at h
    cases (Prod.mk.inj h).2
theorem i0_le {L : List Int} (_h : 0 < L.length) : i0 L ≤ L.length := by
  unfold i0
  split <;> omega
def parseS (L : List Int) : Int × Int := if isNum L then specR (negS L) (dv (digS L)) (epwS 1000 L - behS L) else (0, 3)
theorem digS_ok (L : List Int) : Dg (digS L) := by
  intro a ha
  unfold digS at ha
  rw [List.mem_append] at ha
  rcases ha with ha | ha
  · exact runD_ok _ _ a ha
  · split at ha
    · exact runD_ok _ _ a ha
    · cases ha
theorem digS_len (L : List Int) : (digS L).length ≤ L.length := by
  unfold digS
  have h1 := runD_len L (i0 L)
  rw [List.length_append]
  by_cases h0 : 0 < L.length
  · have h2 := rn_le (i0_le h0)
    split
    · rename_i h3
      have h4 : rn L (i0 L) < L.length := lk_lt (by rw [h3]; decide)
      have h5 := runD_len L (rn L (i0 L) + 1)
      have h6 := rn_le (L := L) (i := rn L (i0 L) + 1) (by omega)
      omega
    · simp only [List.length_nil]
      omega
  · have hL : L = [] := List.length_eq_zero_iff.mp (by omega)
    subst hL
    decide
theorem spec_far (g : Bool) (D n : Nat) (hD : D < 10 ^ n) (hn : n ≤ 900) (p q : Int) (h : (n + 10 < p ∧ n + 10 < q) ∨ (p < -((n : Int) + 10) ∧ q < -((n : Int) + 10))) : specR g D p = specR g D q := by
  by_cases hz : D = 0
  · subst hz
    unfold specR
    rw [specN_zero, specN_zero]
  unfold specR
  rcases h with ⟨h1, h2⟩ | ⟨h1, h2⟩
  · have great : ∀ p : Int, (n : Int) + 10 < p → ¬ inb (specN g D p) := by
      intro p hp
      rw [specN_eq g D p p.toNat 0 (by omega)]
      have e : (10 : Nat) ^ p.toNat = 100000 * 10 ^ (p.toNat - 5) := by
        have : p.toNat = 5 + (p.toNat - 5) := by omega
        rw [this, Nat.pow_add, show 5 + (p.toNat - 5) - 5 = p.toNat - 5 by omega]
      have one := ten_pos (p.toNat - 5)
      have big : 6553600000 ≤ D * 65536 * 10 ^ p.toNat := by
        rw [e]
        have h3 : 1 * (65536 * (100000 * 1)) ≤ D * (65536 * (100000 * 10 ^ (p.toNat - 5))) := Nat.mul_le_mul (by omega) (Nat.mul_le_mul_left _ (Nat.mul_le_mul_left _ one))
        rw [Nat.mul_assoc]
        omega
      generalize D * 65536 * 10 ^ p.toNat = X at *
      unfold inb nearQ sg
      rw [Nat.pow_zero]
      intro hc
      cases g with
      | false => simp only [Bool.false_eq_true, if_false] at hc; omega
      | true => simp only [if_true] at hc; omega
    rw [if_neg (great p h1), if_neg (great q h2)]
  · have small : ∀ p : Int, p < -((n : Int) + 10) → specN g D p = 0 := by
      intro p hp
      rw [specN_eq g D p 0 (-p).toNat (by omega), Nat.pow_zero, Nat.mul_one]
      have e : (10 : Nat) ^ (-p).toNat = 10 ^ n * (1000000 * 10 ^ ((-p).toNat - n - 6)) := by
        have : (-p).toNat = n + (6 + ((-p).toNat - n - 6)) := by omega
        have e6 : (10 : Nat) ^ 6 = 1000000 := by decide
        rw [← e6, ← Nat.pow_add, ← Nat.pow_add, ← this]
      have one := ten_pos ((-p).toNat - n - 6)
      have big : D * 131072 < 10 ^ (-p).toNat := by
        rw [e]
        have h3 : 10 ^ n * (1000000 * 1) ≤ 10 ^ n * (1000000 * 10 ^ ((-p).toNat - n - 6)) := Nat.mul_le_mul_left _ (Nat.mul_le_mul_left _ one)
        have h4 := ten_pos n
        omega
      generalize (10 ^ (-p).toNat : Nat) = T at *
      unfold nearQ sg
      cases g with
      | false => simp only [Bool.false_eq_true, if_false]; exact Int.ediv_eq_zero_of_lt (by omega) (by omega)
      | true => simp only [if_true]; exact Int.ediv_eq_zero_of_lt (by omega) (by omega)
    rw [small p h1, small q h2]
theorem epw_far (g : Bool) (L : List Int) (hL : L.length ≤ 300) (M : Nat) (hM : 1000 ≤ M) : specR g (dv (digS L)) (epwS M L - behS L) = specR g (dv (digS L)) (epwS 1000 L - behS L) := by
  have hb : behS L ≤ 300 := by
    have h1 := digS_len L
    unfold digS at h1
    unfold behS
    rw [List.length_append] at h1
    split
    · rename_i h2
      rw [if_pos h2] at h1
      omega
    · omega
  unfold epwS
  by_cases h1 : endM L < L.length
  · rw [if_pos h1, if_pos h1]
    by_cases h3 : dv (runD L (expJ L (endM L))) ≤ 1000
    · rw [Nat.min_eq_left (by omega), Nat.min_eq_left h3]
    · have hD := Nat.lt_of_lt_of_le (dv_lt (digS_ok L)) (Nat.pow_le_pow_right (n := 10) (by decide) (Nat.le_trans (digS_len L) hL))
      refine spec_far g _ 300 hD (by decide) _ _ ?_
      rw [Nat.min_eq_right (a := dv (runD L (expJ L (endM L)))) (b := 1000) (by omega)]
      have h4 : 1000 ≤ min (dv (runD L (expJ L (endM L)))) M := by omega
      split
      · right; omega
      · left; omega
  · rw [if_neg h1, if_neg h1]
end Go.Proofs.YtfpnglgipchjhaaDoor.DecV
namespace Go.Proofs.YtfpnglgipchjhaaDoor.DecV
def DC (l : List Int) : Prop := ∀ c ∈ l, isD c = true
def mi (l : List Int) : List Int := l.map fun c => c - 48
theorem lk_app (p q : List Int) (i : Nat) : lk (p ++ q) (p.length + i) = lk q i := by
  unfold lk
  rw [List.getD_eq_getElem?_getD, List.getD_eq_getElem?_getD, List.getElem?_append_right (by omega), Nat.add_sub_cancel_left]
theorem lk_nil (i : Nat) : lk [] i = 0 := lk_end _ _ (Nat.zero_le _)
theorem take_run (p A q : List Int) (hA : DC A) (hq : isD (lk q 0) = false) : (((p ++ (A ++ q)).drop p.length).takeWhile isD) = A := by
  rw [List.drop_left, List.takeWhile_append_of_pos hA]
  cases q with
  | nil => simp
  | cons c q =>
    have : isD c = false := hq
    rw [List.takeWhile_cons_of_neg (by simp [this]), List.append_nil]
theorem run_app (p A q : List Int) (hA : DC A) (hq : isD (lk q 0) = false) (n : Nat) (hn : n = p.length) : runD (p ++ (A ++ q)) n = mi A ∧ rn (p ++ (A ++ q)) n = n + A.length := by
  subst hn
  unfold runD rn
  rw [take_run p A q hA hq]
  exact ⟨rfl, rfl⟩
theorem dc_head {A q : List Int} (hA : DC A) (hne : A ≠ []) : isD (lk (A ++ q) 0) = true := by
  cases A with
  | nil => exact absurd rfl hne
  | cons c A => exact hA c (List.mem_cons_self ..)
theorem isD_not {c : Int} (h : isD c = true) : isS c = false ∧ isE c = false ∧ c ≠ 46 ∧ c ≠ 45 := by
  unfold isD at h
  have := of_decide_eq_true h
  refine ⟨?_, ?_, by omega, by omega⟩
  · unfold isS; exact decide_eq_false (by omega)
  · unfold isE; exact decide_eq_false (by omega)
structure Tail where
  e : Int
  s : List Int
  c : List Int
def Tail.ok (t : Tail) : Prop := isE t.e = true ∧ (t.s = [] ∨ ∃ x, t.s = [x] ∧ isS x = true) ∧ DC t.c ∧ t.c ≠ []
def tailL : Option Tail → List Int
  | none => []
  | some t => t.e :: (t.s ++ t.c)
def ptL : Option (List Int) → List Int
  | none => []
  | some B => 46 :: B
def frac : Option (List Int) → List Int
  | none => []
  | some B => B
def tpw (M : Nat) : Option Tail → Int
  | none => 0
  | some t => if t.s = [45] then -((min (dv (mi t.c)) M : Nat) : Int) else ((min (dv (mi t.c)) M : Nat) : Int)
structure Txt where
  s : List Int
  a : List Int
  b : Option (List Int)
  x : Option Tail
structure Txt.ok (t : Txt) : Prop where
  s : t.s = [] ∨ ∃ c, t.s = [c] ∧ isS c = true
  a : DC t.a
  b : DC (frac t.b)
  ne : t.a ++ frac t.b ≠ []
  x : ∀ y, t.x = some y → y.ok
def Txt.L (t : Txt) : List Int := t.s ++ (t.a ++ (ptL t.b ++ tailL t.x))
theorem tail_head (x : Option Tail) (h : ∀ y, x = some y → y.ok) : isD (lk (tailL x) 0) = false ∧ lk (tailL x) 0 ≠ 46 := by
  cases x with
  | none => exact ⟨by rw [show tailL none = [] from rfl, lk_nil]; rfl, by rw [show tailL none = [] from rfl, lk_nil]; decide⟩
  | some y =>
    have h1 := (h y rfl).1
    have e : lk (tailL (some y)) 0 = y.e := rfl
    rw [e]
    unfold isE at h1
    have h2 := of_decide_eq_true h1
    refine ⟨?_, by omega⟩
    unfold isD
    exact decide_eq_false (by omega)
theorem Txt.says {t : Txt} (h : t.ok) (M : Nat) : isNum t.L ∧ negS t.L = decide (t.s = [45]) ∧ digS t.L = mi t.a ++ mi (frac t.b) ∧ behS t.L = (frac t.b).length ∧ epwS M t.L = tpw M t.x := by
  obtain ⟨tl1, tl2⟩ := tail_head t.x h.x

  have hq : isD (lk (ptL t.b ++ tailL t.x) 0) = false := by
    cases hb : t.b with
    | none => exact tl1
    | some B => rfl

  have hfirst : t.s = [] → isS (lk t.L 0) = false ∧ lk t.L 0 ≠ 45 := by
    intro hs
    unfold Txt.L
    rw [hs, List.nil_append]
    by_cases ha : t.a = []
    · cases hb : t.b with
      | none =>
        have := h.ne
        rw [ha, hb] at this
        exact absurd rfl this
      | some B =>
        rw [ha]
        exact ⟨rfl, by show (46 : Int) ≠ 45; decide⟩
    · have h1 := isD_not (dc_head (q := ptL t.b ++ tailL t.x) h.a ha)
      exact ⟨h1.1, h1.2.2.2⟩
  have hi0 : i0 t.L = t.s.length := by
    unfold i0
    rcases h.s with hs | ⟨c, hs, hc⟩
    · rw [(hfirst hs).1, hs]; rfl
    · have e : lk t.L 0 = c := by unfold Txt.L; rw [hs]; rfl
      rw [e, hc, hs]; rfl
  have hneg : negS t.L = decide (t.s = [45]) := by
    unfold negS
    rw [Bool.eq_iff_iff, decide_eq_true_eq, decide_eq_true_eq]
    rcases h.s with hs | ⟨c, hs, hc⟩
    · rw [hs]
      exact ⟨fun h2 => absurd h2 (hfirst hs).2, fun h2 => by cases h2⟩
    · have e : lk t.L 0 = c := by unfold Txt.L; rw [hs]; rfl
      rw [e, hs]
      simp
  obtain ⟨r1, r2⟩ := run_app t.s t.a (ptL t.b ++ tailL t.x) h.a hq _ rfl
  have e0 : t.s ++ (t.a ++ (ptL t.b ++ tailL t.x)) = t.L := rfl
  rw [e0] at r1 r2
  have hlk : lk t.L (t.s.length + t.a.length) = lk (ptL t.b ++ tailL t.x) 0 := by
    have : t.L = (t.s ++ t.a) ++ (ptL t.b ++ tailL t.x) := by unfold Txt.L; rw [List.append_assoc]
    rw [this]
    have h2 := lk_app (t.s ++ t.a) (ptL t.b ++ tailL t.x) 0
    rw [List.length_append, Nat.add_zero] at h2
    exact h2

  have hpt : scanB t.L t.s.length = t.s.length + t.a.length + (ptL t.b).length ∧ digS t.L = mi t.a ++ mi (frac t.b) ∧ behS t.L = (frac t.b).length ∧ someB t.L t.s.length = true := by
    unfold scanB digS behS someB
    rw [hi0, r1, r2, hlk]
    cases hb : t.b with
    | none =>
      have hn := tl2
      have e1 : lk (ptL none ++ tailL t.x) 0 = lk (tailL t.x) 0 := rfl
      rw [e1, if_neg hn, if_neg hn, if_neg hn, decide_eq_false hn]
      refine ⟨rfl, rfl, rfl, ?_⟩
      have ha : t.a ≠ [] := by
        have := h.ne
        rw [hb] at this
        simpa [frac] using this
      have := List.length_pos_iff.mpr ha
      rw [decide_eq_true (by omega)]
      rfl
    | some B =>
      have e1 : lk (ptL (some B) ++ tailL t.x) 0 = 46 := rfl
      have hB : DC B := by have := h.b; rw [hb] at this; exact this
      obtain ⟨s1, s2⟩ := run_app (t.s ++ (t.a ++ [46])) B (tailL t.x) hB tl1 (t.s.length + t.a.length + 1) (by simp; omega)
      have eL : (t.s ++ (t.a ++ [46])) ++ (B ++ tailL t.x) = t.L := by unfold Txt.L; rw [hb]; simp [ptL]
      rw [eL] at s1 s2
      rw [e1, if_pos rfl, if_pos rfl, if_pos rfl, s1, s2]
      refine ⟨by show _ = _ + (B.length + 1); omega, rfl, by unfold mi; rw [List.length_map]; rfl, ?_⟩
      rw [decide_eq_true (show (46 : Int) = 46 from rfl), Bool.true_and, Bool.or_eq_true, decide_eq_true_eq, decide_eq_true_eq]
      have hne := h.ne
      rw [hb] at hne
      by_cases ha : t.a = []
      · right
        rw [ha] at hne
        have := List.length_pos_iff.mpr (show B ≠ [] by simpa [frac] using hne)
        omega
      · left
        have := List.length_pos_iff.mpr ha
        omega
  obtain ⟨p1, p2, p3, p4⟩ := hpt
  have hend : endM t.L = t.s.length + t.a.length + (ptL t.b).length := by unfold endM; rw [hi0]; exact p1
  have hlen : t.L.length = t.s.length + t.a.length + (ptL t.b).length + (tailL t.x).length := by unfold Txt.L; simp only [List.length_append]; omega
  have hlkE : ∀ i, lk t.L (t.s.length + t.a.length + (ptL t.b).length + i) = lk (tailL t.x) i := by
    intro i
    have : t.L = (t.s ++ (t.a ++ ptL t.b)) ++ tailL t.x := by unfold Txt.L; simp
    rw [this]
    have h2 := lk_app (t.s ++ (t.a ++ ptL t.b)) (tailL t.x) i
    simp only [List.length_append] at h2
    rw [← Nat.add_assoc] at h2
    exact h2
  have hE0 := hlkE 0
  rw [Nat.add_zero] at hE0
  cases hx : t.x with
  | none =>
    have el : (tailL t.x).length = 0 := by rw [hx]; rfl
    refine ⟨?_, hneg, p2, p3, ?_⟩
    · unfold isNum
      rw [scanS_0, hi0]
      unfold scanU
      rw [p4, if_pos rfl, p1, hE0, hx, show lk (tailL none) 0 = 0 from lk_nil 0, if_neg (by decide), hlen, el, Nat.add_zero]
    · unfold epwS
      rw [hend, if_neg (by omega)]
      rfl
  | some y =>
    obtain ⟨y1, y2, y3, y4⟩ := h.x y hx
    have el : (tailL t.x).length = 1 + y.s.length + y.c.length := by rw [hx]; show (y.s ++ y.c).length + 1 = _; rw [List.length_append]; omega
    have hcpos := List.length_pos_iff.mpr y4
    have hE : lk (tailL t.x) 0 = y.e := by rw [hx]; rfl
    have hE1 := hlkE 1
    have e1 : lk (tailL t.x) 1 = lk (y.s ++ y.c) 0 := by rw [hx]; rfl
    rw [e1] at hE1
    have hj : expJ t.L (endM t.L) = t.s.length + t.a.length + (ptL t.b).length + 1 + y.s.length ∧ (lk t.L (endM t.L + 1) = 45 ↔ y.s = [45]) := by
      unfold expJ
      rw [hend, hE1]
      rcases y2 with hs | ⟨c, hs, hc⟩
      · have h3 := isD_not (dc_head (q := []) y3 y4)
        rw [List.append_nil] at h3
        rw [hs, List.nil_append, h3.1, if_neg (by decide)]
        exact ⟨rfl, fun h4 => absurd h4 h3.2.2.2, fun h4 => by cases h4⟩
      · have h3 : lk (y.s ++ y.c) 0 = c := by rw [hs]; rfl
        rw [h3, hc, if_pos rfl, hs]
        exact ⟨rfl, by simp⟩
    obtain ⟨j1, j2⟩ := hj
    obtain ⟨u1, u2⟩ := run_app (t.s ++ (t.a ++ (ptL t.b ++ (y.e :: y.s)))) y.c [] y3 (by rw [lk_nil]; rfl) (t.s.length + t.a.length + (ptL t.b).length + 1 + y.s.length) (by simp; omega)
    have eL : (t.s ++ (t.a ++ (ptL t.b ++ (y.e :: y.s)))) ++ (y.c ++ []) = t.L := by unfold Txt.L; rw [hx]; simp [tailL]
    rw [eL] at u1 u2
    refine ⟨?_, hneg, p2, p3, ?_⟩
    · unfold isNum
      rw [scanS_0, hi0]
      unfold scanU
      have hsc : scanB t.L t.s.length = endM t.L := by rw [hend, p1]
      rw [p4, if_pos rfl, hsc]
      have hEE : isE (lk t.L (endM t.L)) = true := by rw [hend, hE0, hE]; exact y1
      rw [hEE, if_pos rfl, j1, u2, decide_eq_true (by omega), hlen, el]
      congr 1
      omega
    · unfold epwS
      rw [if_pos (by rw [hend]; omega), j1, u1]
      unfold tpw
      by_cases h5 : y.s = [45]
      · rw [if_pos (j2.2 h5)]
        simp only [h5, if_true]
      · rw [if_neg (fun h6 => h5 (j2.1 h6))]
        simp only [h5, if_false]
theorem Txt.parse {t : Txt} (h : t.ok) : parseS t.L = specR (decide (t.s = [45])) (dv (mi t.a ++ mi (frac t.b))) (tpw 1000 t.x - (frac t.b).length) := by
  obtain ⟨h1, h2, h3, h4, h5⟩ := Txt.says h 1000
  unfold parseS
  rw [if_pos h1, h2, h3, h4, h5]
end Go.Proofs.YtfpnglgipchjhaaDoor.DecV
namespace Go.Proofs.YtfpnglgipchjhaaDoor.PR
open Go.RowKit Go.Proofs.YtfpnglgipchjhaaDoorW.PrintWords
def val : List Int → Nat
  | [] => 0
  | a :: l => a.toNat + 65536 * val l
end Go.Proofs.YtfpnglgipchjhaaDoor.PR
namespace Go.Proofs.YtfpnglgipchjhaaDoor
open Go.RowKit Go.Proofs.YtfpnglgipchjhaaDoorW.PrintWords
class Strip (W : World) (w : outParam World) : Prop where
  b : ∀ {g : Nat} {o : Obj}, w.heap[g]? = some o → W.heap[g]? = some o
  v : ∀ {α : Type} {d : Kd α} {e base : Nat} {ok : Nat → Prop} {u : Value} {xs : List α}, Kd.V d e w base ok u xs → Kd.V d e W base ok u xs
  r : ∀ {α : Type} {d : Kd α} {e base : Nat} {ok : Nat → Prop} {u : Value} {xs : List α}, Kd.R d e w base ok u xs → Kd.R d e W base ok u xs
instance (priority := low) (W : World) : Strip W W := ⟨fun h => h, fun h => h, fun h => h⟩
instance (W w : World) [s : Strip W w] (o : Obj) : Strip (W.alloc o) w := ⟨fun h => blk_alloc (s.b h) o, fun h => Kd.V_alloc (s.v h) o, fun h => Kd.R_alloc (s.r h) o⟩
instance (W w : World) [s : Strip W w] (n : Nat) : Strip (W.drewN n) w := ⟨fun h => blk_drewN (s.b h) n, fun h => Kd.V_drewN (s.v h) n, fun h => Kd.R_drewN (s.r h) n⟩
instance (W w : World) [s : Strip W w] : Strip W.drew w := ⟨fun h => blk_drew (s.b h), fun h => Kd.V_drew (s.v h), fun h => Kd.R_drew (s.r h)⟩
theorem bq {W w : World} [s : Strip W w] {g : Nat} {o : Obj} (h : w.heap[g]? = some o) : W.heap[g]? = some o := s.b h
theorem rq {W w : World} [s : Strip W w] {α : Type} {d : Kd α} {e base : Nat} {ok : Nat → Prop} {u : Value} {xs : List α} (h : Kd.R d e w base ok u xs) : Kd.R d e W base ok u xs := s.r h
class CIn (w W : World) : Prop where
  c : ∀ {α : Type} {d : Kd α} {A : Option Addr} {n : Nat} {xs : List α}, Kd.C d w A n xs → Kd.C d W A n xs
instance (priority := high) (W : World) : CIn W W := ⟨fun h => h⟩
instance (w W : World) [s : CIn w W] (o : Obj) : CIn w (W.alloc o) := ⟨fun h => Kd.C_alloc (s.c h) o⟩
instance (w W : World) [s : CIn w W] (n : Nat) : CIn w (W.drewN n) := ⟨fun h => Kd.C_drewN (s.c h) n⟩
instance (w W : World) [s : CIn w W] : CIn w W.drew := ⟨fun h => Kd.C_drew (s.c h)⟩
theorem cq {w W : World} [s : CIn w W] {α : Type} {d : Kd α} {A : Option Addr} {n : Nat} {xs : List α} (h : Kd.C d w A n xs) : Kd.C d W A n xs := s.c h
attribute [class] Aside0
class BelIn (b : Nat) (W0 W : World) : Prop where
  go : ∀ w : World, b = w.heap.size → Below b w W0 → Below b w W
instance (priority := high) (b : Nat) (W : World) : BelIn b W W := ⟨fun _ _ h => h⟩
instance (b : Nat) (W0 W : World) [s : BelIn b W0 W] (o : Obj) : BelIn b W0 (W.alloc o) := ⟨fun w e h => by have := s.go w e h; subst e; exact below_alloc this o⟩
instance (b : Nat) (W0 W : World) [s : BelIn b W0 W] (n : Nat) : BelIn b W0 (W.drewN n) := ⟨fun w e h => pw_below_drewN (s.go w e h) n⟩
instance (b : Nat) (W0 W : World) [s : BelIn b W0 W] : BelIn b W0 W.drew := ⟨fun w e h => below_drew1 (s.go w e h)⟩
instance (b : Nat) (W0 W : World) [s : BelIn b W0 W] (g j : Nat) (v : Value) [k : Aside0 (b ≤ g)] : BelIn b W0 (W.setCell ⟨g, j, none⟩ v) := ⟨fun w e h => by have := s.go w e h; subst e; exact below_set this k.out⟩
theorem wq {w W0 W : World} [s : BelIn w.heap.size W0 W] (h : Below w.heap.size w W0) : Below w.heap.size w W := s.go w rfl h
theorem apz : (∀ (a : Act) (d : Tmp) (v : Value), a.put (some d) v = { a with tmps := a.tmps.setIfInBounds d v }) ∧ (∀ (a : Act) (v : Value), a.put none v = a) ∧
    (∀ (l : List Value) (i : Nat) (v : Value), l.toArray.setIfInBounds i v = (l.set i v).toArray) ∧ (∀ (x : Value) (l : List Value) (v : Value), (x :: l).set 0 v = v :: l) ∧
    (∀ (x : Value) (l : List Value) (i : Nat) (v : Value), (x :: l).set (i + 1) v = x :: l.set i v) :=
  ⟨fun _ _ _ => rfl, fun _ _ => rfl, fun l i v => List.setIfInBounds_toArray l i v, fun _ _ _ => rfl, fun _ _ _ _ => rfl⟩
@[reducible] def bmk (a b : Nat) : Array Bool := ⟨List.replicate a true ++ List.replicate b false⟩
@[reducible] def bm (n k : Nat) : Array Bool := ⟨(List.range n).map fun i => k.testBit i⟩
end Go.Proofs.YtfpnglgipchjhaaDoor
namespace Go.Proofs.YtfpnglgipchjhaaDoor.PR
open Go.RowKit Go.Proofs.YtfpnglgipchjhaaDoorW.PrintWords
def nextL : List Int := [2, 3, 0, 1, 2, 3, 0, 0, 2, 4, 6, 0, 5, 0, 0, 0, 5, 0, 6, 0, 5, 0, 6, 0, 8, 0, 0, 7, 8, 0, 0, 0, 8, 0, 0, 0]
def endsL : List Int := [0, 0, 1, 0, 1, 1, 0, 0, 1]
structure Gl (w : World) : Prop where
  next : ∀ i, i < 36 → w.cell? ⟨1, i, none⟩ = some (.int .i64 (nextL.getD i 0))
  ends : ∀ i, i < 9 → w.cell? ⟨2, i, none⟩ = some (.int .i64 (endsL.getD i 0))
theorem Gl.below {w w' : World} (h : Gl w) (hb : Below w.heap.size w w') : Gl w' :=
  ⟨fun i hi => (hb.cell (World.block_lt_of_cell? _ _ (h.1 i hi))).trans (h.1 i hi), fun i hi => (hb.cell (World.block_lt_of_cell? _ _ (h.2 i hi))).trans (h.2 i hi)⟩
theorem Gl.drawn {w w' : World} (h : Gl w) (hd : Drawn0 w w') : Gl w' := h.below hd.below
end Go.Proofs.YtfpnglgipchjhaaDoor.PR
namespace Go.Proofs.YtfpnglgipchjhaaDoor.PR
open Go.RowKit Go.Proofs.YtfpnglgipchjhaaDoorW.PrintWords Go.Proofs.YtfpnglgipchjhaaDoorW.PrintLast Go.Proofs.YtfpnglgipchjhaaDoorW.PrintMore
attribute [local go_sem] max2_int min2_int max_two min_two max_three min_three max_four min_four
set_option linter.unusedVariables false
set_option linter.unusedSimpArgs false
def errW : Option Int → Value
  | none => .nilIface
  | some c => .iface 0 (.int .i64 c)
theorem errW_none : errW none = .nilIface := rfl
theorem errW_some (c : Int) : errW (some c) = .iface 0 (.int .i64 c) := rfl
theorem info5 : (Tryd.prog.info? 5).map (fun i => (i.zero, i.size, i.bytes)) = some (some (.int .u8 0), 1, 1) := by kernel_rfl
end Go.Proofs.YtfpnglgipchjhaaDoor.PR
namespace Go.Proofs.YtfpnglgipchjhaaDoor.PR
open Go.RowKit Go.Proofs.YtfpnglgipchjhaaDoorW.PrintWords Go.Proofs.YtfpnglgipchjhaaDoorW.PrintLast Go.Proofs.YtfpnglgipchjhaaDoorW.PrintMore
attribute [local go_sem] max2_int min2_int max_two min_two max_three min_three max_four min_four
set_option linter.unusedVariables false
set_option linter.unusedSimpArgs false
end Go.Proofs.YtfpnglgipchjhaaDoor.PR
namespace Go.Proofs.YtfpnglgipchjhaaDoor.PR
open Go.RowKit Go.Proofs.YtfpnglgipchjhaaDoorW.PrintWords Go.Proofs.YtfpnglgipchjhaaDoorW.PrintLast Go.Proofs.YtfpnglgipchjhaaDoorW.PrintMore
attribute [local go_sem] max2_int min2_int max_two min_two max_three min_three max_four min_four
set_option linter.unusedVariables false
set_option linter.unusedSimpArgs false
end Go.Proofs.YtfpnglgipchjhaaDoor.PR
namespace Go.Proofs.YtfpnglgipchjhaaDoor.PR
open Go.RowKit Go.Proofs.YtfpnglgipchjhaaDoorW.PrintWords Go.Proofs.YtfpnglgipchjhaaDoorW.PrintLast Go.Proofs.YtfpnglgipchjhaaDoorW.PrintMore
attribute [local go_sem] max2_int min2_int max_two min_two max_three min_three max_four min_four
set_option linter.unusedVariables false
set_option linter.unusedSimpArgs false
end Go.Proofs.YtfpnglgipchjhaaDoor.PR
namespace Go.Proofs.YtfpnglgipchjhaaDoor.PR
open Go.RowKit Go.Proofs.YtfpnglgipchjhaaDoorW.PrintWords Go.Proofs.YtfpnglgipchjhaaDoorW.PrintLast Go.Proofs.YtfpnglgipchjhaaDoorW.PrintMore
attribute [local go_sem] max2_int min2_int max_two min_two max_three min_three max_four min_four
set_option linter.unusedVariables false
set_option linter.unusedSimpArgs false
end Go.Proofs.YtfpnglgipchjhaaDoor.PR
namespace Go.Proofs.YtfpnglgipchjhaaDoor.PR
open Go.RowKit Go.Proofs.YtfpnglgipchjhaaDoorW.PrintWords Go.Proofs.YtfpnglgipchjhaaDoorW.PrintLast Go.Proofs.YtfpnglgipchjhaaDoorW.PrintMore
attribute [local go_sem] max2_int min2_int max_two min_two max_three min_three max_four min_four
set_option linter.unusedVariables false
set_option linter.unusedSimpArgs false
end Go.Proofs.YtfpnglgipchjhaaDoor.PR
namespace Go.Proofs.YtfpnglgipchjhaaDoor.PR
open Go.RowKit Go.Proofs.YtfpnglgipchjhaaDoorW.PrintWords Go.Proofs.YtfpnglgipchjhaaDoorW.PrintLast Go.Proofs.YtfpnglgipchjhaaDoorW.PrintMore
attribute [local go_sem] max2_int min2_int max_two min_two max_three min_three max_four min_four
set_option linter.unusedVariables false
set_option linter.unusedSimpArgs false
end Go.Proofs.YtfpnglgipchjhaaDoor.PR
namespace Go.Proofs.YtfpnglgipchjhaaDoor.PR
open Go.RowKit Go.Proofs.YtfpnglgipchjhaaDoorW.PrintWords Go.Proofs.YtfpnglgipchjhaaDoorW.PrintLast Go.Proofs.YtfpnglgipchjhaaDoorW.PrintMore
attribute [local go_sem] max2_int min2_int max_two min_two max_three min_three max_four min_four
set_option linter.unusedVariables false
set_option linter.unusedSimpArgs false
end Go.Proofs.YtfpnglgipchjhaaDoor.PR
namespace Go.Proofs.YtfpnglgipchjhaaDoor.PR
open Go.RowKit Go.Proofs.YtfpnglgipchjhaaDoorW.PrintWords Go.Proofs.YtfpnglgipchjhaaDoorW.PrintLast Go.Proofs.YtfpnglgipchjhaaDoorW.PrintMore
attribute [local go_sem] max2_int min2_int max_two min_two max_three min_three max_four min_four
set_option linter.unusedVariables false
set_option linter.unusedSimpArgs false
end Go.Proofs.YtfpnglgipchjhaaDoor.PR
namespace Go.Proofs.YtfpnglgipchjhaaDoor.PR
open Go.RowKit Go.Proofs.YtfpnglgipchjhaaDoorW.PrintWords Go.Proofs.YtfpnglgipchjhaaDoorW.PrintLast Go.Proofs.YtfpnglgipchjhaaDoorW.PrintMore
attribute [local go_sem] max2_int min2_int max_two min_two max_three min_three max_four min_four
set_option linter.unusedVariables false
set_option linter.unusedSimpArgs false
mutual
def dec_kind.j0 : Nat → Int → Bool → Option (Int)
 | 0, _, _ => none
 | k + 1, x0, x3 => if x3 = true then (some 0) else (if x0 = 46 then (some 1) else (if x0 = 101 then (dec_kind.j1 k x0 true) else (dec_kind.j1 k x0 (x0 == 69))))
def dec_kind.j1 : Nat → Int → Bool → Option (Int)
 | 0, _, _ => none
 | k + 1, x0, x13 => if x13 = true then (some 2) else (if x0 = 43 then (some 3) else (if x0 = 45 then (some 3) else (some (-1))))
end
def dec_kind.f (k : Nat) (a0 : Int) : Option (Int) := if a0 ≥ 48 then (dec_kind.j0 k a0 (decide (a0 ≤ 57))) else (dec_kind.j0 k a0 false)
theorem dec_kind.mono_l : ∀ k, (∀ y0 y1, LeO (dec_kind.j0 k y0 y1) (dec_kind.j0 (k + 1) y0 y1)) ∧ (∀ y0 y1, LeO (dec_kind.j1 k y0 y1) (dec_kind.j1 (k + 1) y0 y1))
 | 0 => ⟨fun _ _ r h => by simp [dec_kind.j0] at h, fun _ _ r h => by simp [dec_kind.j1] at h⟩
 | k + 1 => by
  obtain ⟨ih0, ih1⟩ := dec_kind.mono_l k
  refine ⟨?_, ?_⟩
  ·
   intro y0 y1
   unfold dec_kind.j0
   repeat' first
   | (with_reducible exact ih0 _ _)
   | (with_reducible exact ih1 _ _)
   | (with_reducible exact LeO.refl _)
   | (with_reducible exact LeO.none _)
   | (with_reducible refine LeO.ite ?_ ?_)
   | (with_reducible refine LeO.bind ?_ (fun _ => ?_))
   | exact ih0 _ _
   | exact ih1 _ _
   | exact LeO.none _
   | refine LeO.ite ?_ ?_
   | refine LeO.bind ?_ (fun _ => ?_)
  ·
   intro y0 y1
   unfold dec_kind.j1
   repeat' first
   | (with_reducible exact ih0 _ _)
   | (with_reducible exact ih1 _ _)
   | (with_reducible exact LeO.refl _)
   | (with_reducible exact LeO.none _)
   | (with_reducible refine LeO.ite ?_ ?_)
   | (with_reducible refine LeO.bind ?_ (fun _ => ?_))
   | exact ih0 _ _
   | exact ih1 _ _
   | exact LeO.none _
   | refine LeO.ite ?_ ?_
   | refine LeO.bind ?_ (fun _ => ?_)
theorem dec_kind.mono : ∀ a0 k, LeO (dec_kind.f k a0) (dec_kind.f (k + 1) a0) := by
 intro a0 k
 obtain ⟨ih0, ih1⟩ := dec_kind.mono_l k
 unfold dec_kind.f
 repeat' first
   | (with_reducible exact ih0 _ _)
   | (with_reducible exact ih1 _ _)
   | (with_reducible exact LeO.refl _)
   | (with_reducible exact LeO.none _)
   | (with_reducible refine LeO.ite ?_ ?_)
   | (with_reducible refine LeO.bind ?_ (fun _ => ?_))
   | exact ih0 _ _
   | exact ih1 _ _
   | exact LeO.none _
   | refine LeO.ite ?_ ?_
   | refine LeO.bind ?_ (fun _ => ?_)
set_option maxHeartbeats 8000000 in
set_option maxRecDepth 100000 in
theorem dec_kind.calls (k : Nat) (a0 : Int) (r : Int) (w : World) (h : dec_kind.f k a0 = some r) :
  Calls Tryd.prog 46 #[.int .u8 a0] w fun e w' => e = .returned (.int .i64 r) ∧ Drawn0 w w' := by
 have H : (if a0 ≥ 48 then (dec_kind.j0 k a0 (decide (a0 ≤ 57))) else (dec_kind.j0 k a0 false)) = some r := h
 clear h
 have HC2 := Aside0.mk H
 clear H
 go_enter Tryd.func46, Tryd.ntmps46
 go_upto_region 1 with (fail)
 go_cut [3] (fun v3 wc => ∃ (kq : Nat) (x3_1 : Bool), v3 = .bool x3_1 ∧ Aside0 (dec_kind.j0 kq a0 x3_1 = some r) ∧ Aside0 (kq ≤ k) ∧ Drawn0 w wc)
 case first =>
  have H := HC2.out
  clear HC2
  by_cases c3 : a0 ≥ 48
  ·
   rw [if_pos c3] at H
   have c3b0 : decide (48 ≤ a0) = true := decide_eq_true c3
   clear c3
   (first | rw [c3b0] | (simp only [i64_w, i32_w]; rw [c3b0]) | skip)
   have H' := Aside0.mk H
   clear H
   go_wp2
   go_meet
   case rel => exact ⟨_, (decide (a0 ≤ 57)), (by first | rfl | (simp; done) | (simp [*]; done)), H', ⟨by first | omega | exact Nat.le_refl _⟩, by repeat (first | exact Drawn0.refl _ | apply Drawn0.step)⟩
  ·
   rw [if_neg c3] at H
   have c3b0 : decide (48 ≤ a0) = false := decide_eq_false c3
   clear c3
   (first | rw [c3b0] | (simp only [i64_w, i32_w]; rw [c3b0]) | skip)
   have H' := Aside0.mk H
   clear H
   go_wp2
   go_meet
   case rel => exact ⟨_, (false), (by first | rfl | (simp; done) | (simp [*]; done)), H', ⟨by first | omega | exact Nat.le_refl _⟩, by repeat (first | exact Drawn0.refl _ | apply Drawn0.step)⟩
 case rest =>
  clear HC2
  try clear p2
  try clear c3
  try clear c3b0
  obtain ⟨kq, x3_1, rfl, HA, HJ1, ⟨mc1, rfl⟩⟩ := hcut
  cases kq with
  | zero => exact absurd HA.out (by simp [dec_kind.j0])
  | succ kj1 =>
   have H := HA.out
   clear HA
   simp only [dec_kind.j0] at H
   by_cases c4 : x3_1 = true
   ·
    subst c4
    have H1 : (some 0) = some r := by rw [if_pos rfl] at H; exact H
    clear H
    have H := H1
    clear H1
    obtain rfl := Option.some.inj H
    go_wp2
    go_ret
    exact ⟨by first | rfl | (simp; done) | (simp [*]; done), by repeat (first | exact Drawn0.refl _ | apply Drawn0.step)⟩
   ·
    replace c4 := Bool.eq_false_iff.mpr c4
    subst c4
    have H1 : (if a0 = 46 then (some 1) else (if a0 = 101 then (dec_kind.j1 kj1 a0 true) else (dec_kind.j1 kj1 a0 (a0 == 69)))) = some r := by rw [if_neg (show ¬ (false = true) by decide)] at H; exact H
    clear H
    have H := H1
    clear H1
    by_cases c5 : a0 = 46
    ·
     rw [if_pos c5] at H
     have c5b0 : (a0 == 46) = true := beq_iff_eq.mpr c5
     have c5b1 : (a0 != 46) = false := bne_eq_false_iff_eq.mpr c5
     clear c5
     obtain rfl := Option.some.inj H
     go_wp2
     go_ret
     exact ⟨by first | rfl | (simp; done) | (simp [*]; done), by repeat (first | exact Drawn0.refl _ | apply Drawn0.step)⟩
    ·
     rw [if_neg c5] at H
     have c5b0 : (a0 == 46) = false := beq_eq_false_iff_ne.mpr c5
     have c5b1 : (a0 != 46) = true := bne_iff_ne.mpr c5
     have HC6 := Aside0.mk H
     clear H
     go_upto_region 5 with (fail)
     go_cut [13] (fun v13 wc => ∃ (kq : Nat) (x13_5 : Bool), v13 = .bool x13_5 ∧ Aside0 (dec_kind.j1 kq a0 x13_5 = some r) ∧ Aside0 (kq ≤ kj1) ∧ Drawn0 w wc)
     case first =>
      have H := HC6.out
      clear HC6
      by_cases c7 : a0 = 101
      ·
       rw [if_pos c7] at H
       have c7b0 : (a0 == 101) = true := beq_iff_eq.mpr c7
       have c7b1 : (a0 != 101) = false := bne_eq_false_iff_eq.mpr c7
       clear c7
       (first | rw [c7b0] | (simp only [i64_w, i32_w]; rw [c7b0]) | skip)
       have H' := Aside0.mk H
       clear H
       go_wp2
       go_meet
       case rel => exact ⟨_, (true), (by first | rfl | (simp; done) | (simp [*]; done)), H', ⟨by have := HJ1.out; first | omega | exact Nat.le_refl _⟩, by repeat (first | exact Drawn0.refl _ | apply Drawn0.step)⟩
      ·
       rw [if_neg c7] at H
       have c7b0 : (a0 == 101) = false := beq_eq_false_iff_ne.mpr c7
       have c7b1 : (a0 != 101) = true := bne_iff_ne.mpr c7
       (first | rw [c7b0] | (simp only [i64_w, i32_w]; rw [c7b0]) | skip)
       have H' := Aside0.mk H
       clear H
       go_wp2
       go_meet
       case rel => exact ⟨_, ((a0 == 69)), (by first | rfl | (simp; done) | (simp [*]; done)), H', ⟨by have := HJ1.out; first | omega | exact Nat.le_refl _⟩, by repeat (first | exact Drawn0.refl _ | apply Drawn0.step)⟩
     case rest =>
      clear HC6
      try clear c1
      try clear p2
      try clear c3
      try clear c3b0
      try clear c4
      try clear c5
      try clear c5b0
      try clear c5b1
      try clear c7
      try clear c7b0
      try clear c7b1
      try clear p2
      obtain ⟨kq, x13_5, rfl, HA, HJ5, ⟨mc5, rfl⟩⟩ := hcut
      cases kq with
      | zero => exact absurd HA.out (by simp [dec_kind.j1])
      | succ kj5 =>
       have H := HA.out
       clear HA
       simp only [dec_kind.j1] at H
       by_cases c8 : x13_5 = true
       ·
        subst c8
        have H1 : (some 2) = some r := by rw [if_pos rfl] at H; exact H
        clear H
        have H := H1
        clear H1
        obtain rfl := Option.some.inj H
        go_wp2
        go_ret
        exact ⟨by first | rfl | (simp; done) | (simp [*]; done), by repeat (first | exact Drawn0.refl _ | apply Drawn0.step)⟩
       ·
        replace c8 := Bool.eq_false_iff.mpr c8
        subst c8
        have H1 : (if a0 = 43 then (some 3) else (if a0 = 45 then (some 3) else (some (-1)))) = some r := by rw [if_neg (show ¬ (false = true) by decide)] at H; exact H
        clear H
        have H := H1
        clear H1
        by_cases c9 : a0 = 43
        ·
         rw [if_pos c9] at H
         have c9b0 : (a0 == 43) = true := beq_iff_eq.mpr c9
         have c9b1 : (a0 != 43) = false := bne_eq_false_iff_eq.mpr c9
         clear c9
         obtain rfl := Option.some.inj H
         go_wp2
         go_ret
         exact ⟨by first | rfl | (simp; done) | (simp [*]; done), by repeat (first | exact Drawn0.refl _ | apply Drawn0.step)⟩
        ·
         rw [if_neg c9] at H
         have c9b0 : (a0 == 43) = false := beq_eq_false_iff_ne.mpr c9
         have c9b1 : (a0 != 43) = true := bne_iff_ne.mpr c9
         by_cases c10 : a0 = 45
         ·
          rw [if_pos c10] at H
          have c10b0 : (a0 == 45) = true := beq_iff_eq.mpr c10
          have c10b1 : (a0 != 45) = false := bne_eq_false_iff_eq.mpr c10
          clear c10
          obtain rfl := Option.some.inj H
          go_wp2
          go_ret
          exact ⟨by first | rfl | (simp; done) | (simp [*]; done), by repeat (first | exact Drawn0.refl _ | apply Drawn0.step)⟩
         ·
          rw [if_neg c10] at H
          have c10b0 : (a0 == 45) = false := beq_eq_false_iff_ne.mpr c10
          have c10b1 : (a0 != 45) = true := bne_iff_ne.mpr c10
          obtain rfl := Option.some.inj H
          go_wp2
          go_ret
          exact ⟨by first | rfl | (simp; done) | (simp [*]; done), by repeat (first | exact Drawn0.refl _ | apply Drawn0.step)⟩
def nextT (st c : Int) : Int := nextL.getD (st.toNat * 4 + c.toNat) 0
def endsT (st : Int) : Int := endsL.getD st.toNat 0
def stepT (sg : Bool) (st c : Int) : Int := if c < 0 then 0 else if c = 3 ∧ st = 0 ∧ sg = false then 0 else nextT st c
def dec_Scan.l : Nat → ByteArray → Bool → Int → Int → Option (Int × Bool)
 | 0, _, _, _, _ => none
 | k + 1, s, sg, st, i => if i < (s.size : Int) then (dec_kind.f k (bt s i)).bind fun c => (if stepT sg st c = 0 then some (i, endsT st == 1) else dec_Scan.l k s sg (stepT sg st c) (i + 1)) else some (i, endsT st == 1)
def dec_Scan.f (k : Nat) (s : ByteArray) (i : Int) (sg : Bool) : Option (Int × Bool) := if i < 0 then some (0, false) else if i > (s.size : Int) then some (0, false) else if s.size < 4611686018427387904 then dec_Scan.l k s sg 0 i else none
theorem dec_Scan.mono_l : ∀ (k : Nat) (s : ByteArray) (sg : Bool) (st i : Int), LeO (dec_Scan.l k s sg st i) (dec_Scan.l (k + 1) s sg st i)
 | 0 => fun _ _ _ _ => LeO.none _
 | k + 1 => fun s sg st i => LeO.ite (LeO.bind (dec_kind.mono _ _) (fun c => LeO.ite (LeO.refl _) (dec_Scan.mono_l k s sg _ _))) (LeO.refl _)
theorem dec_Scan.mono (s : ByteArray) (i : Int) (sg : Bool) (k : Nat) : LeO (dec_Scan.f k s i sg) (dec_Scan.f (k + 1) s i sg) :=
 LeO.ite (LeO.refl _) (LeO.ite (LeO.refl _) (LeO.ite (dec_Scan.mono_l k s sg 0 i) (LeO.refl _)))
theorem kind_range {k : Nat} {a c : Int} (h : dec_kind.f k a = some c) : c = -1 ∨ c = 0 ∨ c = 1 ∨ c = 2 ∨ c = 3 := by
 have e1 : ∀ (k : Nat) (a : Int) (b : Bool) (c : Int), dec_kind.j1 k a b = some c → c = -1 ∨ c = 0 ∨ c = 1 ∨ c = 2 ∨ c = 3 := by
  intro k a b c h
  cases k with
  | zero => simp [dec_kind.j1] at h
  | succ k =>
   rw [dec_kind.j1] at h
   split at h
   ·
    have := Option.some.inj h; omega
   ·
    split at h
    ·
     have := Option.some.inj h; omega
    ·
     split at h <;> (have := Option.some.inj h; omega)
 have e0 : ∀ (k : Nat) (a : Int) (b : Bool) (c : Int), dec_kind.j0 k a b = some c → c = -1 ∨ c = 0 ∨ c = 1 ∨ c = 2 ∨ c = 3 := by
  intro k a b c h
  cases k with
  | zero => simp [dec_kind.j0] at h
  | succ k =>
   rw [dec_kind.j0] at h
   split at h
   ·
    have := Option.some.inj h; omega
   ·
    split at h
    ·
     have := Option.some.inj h; omega
    ·
     split at h <;> exact e1 _ _ _ _ h
 unfold dec_kind.f at h
 split at h <;> exact e0 _ _ _ _ h
theorem nextT_range {st c : Int} (h0 : 0 ≤ st) (h1 : st < 9) (c0 : 0 ≤ c) (c1 : c ≤ 3) : 0 ≤ nextT st c ∧ nextT st c < 9 := by
 have hst : st = 0 ∨ st = 1 ∨ st = 2 ∨ st = 3 ∨ st = 4 ∨ st = 5 ∨ st = 6 ∨ st = 7 ∨ st = 8 := by omega
 have hc : c = 0 ∨ c = 1 ∨ c = 2 ∨ c = 3 := by omega
 rcases hst with rfl | rfl | rfl | rfl | rfl | rfl | rfl | rfl | rfl <;> rcases hc with rfl | rfl | rfl | rfl <;> decide
set_option maxHeartbeats 4000000 in
theorem dec_Scan.calls (k : Nat) (s : ByteArray) (i : Int) (sg : Bool) (r1 : Int) (r2 : Bool) (w : World) (hG : Gl w) (h : dec_Scan.f k s i sg = some (r1, r2)) :
  Calls Tryd.prog 31 #[.string s, .int .i64 i, .bool sg] w fun e w' => e = .returned (.tuple #[.int .i64 r1, .bool r2]) ∧ Drawn0 w w' := by
 unfold dec_Scan.f at h
 have HG := Aside0.mk hG
 clear hG
 by_cases h0 : i < 0
 ·
  rw [if_pos h0] at h
  simp only [Option.some.injEq, Prod.mk.injEq] at h
  obtain ⟨rfl, rfl⟩ := h
  have t0 : decide (i < 0) = true := decide_eq_true h0
  clear h0
  go_enter Tryd.func31, Tryd.ntmps31
  go_wp2
  go_step3
  go_wp2
  rw [Exit.noGoto_ret]
  go_ret2
  exact ⟨rfl, Drawn0.refl _⟩
 rw [if_neg h0] at h
 by_cases h1 : i > (s.size : Int)
 ·
  rw [if_pos h1] at h
  simp only [Option.some.injEq, Prod.mk.injEq] at h
  obtain ⟨rfl, rfl⟩ := h
  have t0 : decide (i < 0) = false := decide_eq_false h0
  have t1 : decide (i > (s.size : Int)) = true := decide_eq_true h1
  clear h0 h1
  go_enter Tryd.func31, Tryd.ntmps31
  go_wp2
  go_step3
  go_wp2
  rw [Exit.noGoto_ret]
  go_ret2
  exact ⟨rfl, Drawn0.refl _⟩
 rw [if_neg h1] at h
 by_cases hs : s.size < 4611686018427387904
 case neg => rw [if_neg hs] at h; cases h
 rw [if_pos hs] at h
 have H := Aside0.mk h
 have HS := Aside0.mk hs
 have HI := Aside0.mk (show 0 ≤ i ∧ i ≤ (s.size : Int) by omega)
 have t0 : decide (i < 0) = false := decide_eq_false h0
 have t1 : decide (i > (s.size : Int)) = false := decide_eq_false h1
 clear h0 h1 h hs
 go_enter Tryd.func31, Tryd.ntmps31
 go_wp2
 go_step3
 go_wp2
 go_step3
 go_wp2
 go_loopg [1, 8] k (fun kq v1 v8 w' => ∃ (j st : Int), v1 = .int .i64 j ∧ v8 = .int .i64 st ∧ Aside0 (0 ≤ st ∧ st < 9) ∧ Aside0 (0 ≤ j ∧ j ≤ (s.size : Int)) ∧ Aside0 (dec_Scan.l kq s sg st j = some (r1, r2)) ∧ Aside0 (kq ≤ k) ∧ Drawn0 w w')
 case atStart => exact ⟨i, 0, rfl, rfl, ⟨by decide⟩, HI, H, ⟨Nat.le_refl _⟩, Drawn0.refl _⟩
 case round =>
  clear H HI t0 t1
  obtain ⟨j, st, rfl, rfl, HT, HJ, HA, HK, ⟨m, rfl⟩⟩ := hrel
  cases gk with
  | zero => exact absurd HA.out (by simp [dec_Scan.l])
  | succ k1 =>
   have H := HA.out
   clear HA
   rw [dec_Scan.l] at H
   by_cases hlt : j < (s.size : Int)
   ·
    rw [if_pos hlt] at H
    replace H := Option.bind_eq_some_iff.mp H
    obtain ⟨c, hc, H⟩ := H
    have hr := kind_range hc
    have HC := Aside0.mk hc
    have H' := Aside0.mk H
    clear H hc
    have hlt2 : decide (j < (s.size : Int)) = true := decide_eq_true hlt
    have p6 := eq_true HJ.out.1
    have q6 := eq_true hlt
    have hx6 := bt_at s j
    have HQ := Aside0.mk hlt
    have hw1 : Aside0 (wrap64 (j + 1) = j + 1) := ⟨by have := HJ.out; have := HS.out; unfold wrap64; omega⟩
    clear hlt
    rcases hr with rfl | rfl | rfl | rfl | rfl
    ·
     have H := H'.out
     rw [show stepT sg st (-1) = 0 from if_pos (by decide), if_pos rfl] at H
     simp only [Option.some.injEq, Prod.mk.injEq] at H
     obtain ⟨rfl, rfl⟩ := H
     clear H'
     go_wp2_with (first | ((with_reducible refine gate_callee (f := 46) rfl ?_); refine goesL_ (some 25) rfl rfl Tryd.func46 (by kernel_rfl) rfl #[.int .u8 (bt s j)] rfl (by (try simp only [List.map_toArray, List.map_cons, List.map_nil]); first | done | rfl) ?_; (with_reducible refine (dec_kind.calls k1 (bt s j) _ _ HC.out).mono ?_); rintro e w' ⟨rfl, ⟨nd, rfl⟩⟩; refine ⟨_, rfl, ?_⟩))
     have he : w.cell? ⟨2, st.toNat, none⟩ = some (.int .i64 (endsT st)) := HG.out.ends st.toNat (by have := HT.out; omega)
     have s0 := eq_true HT.out.1
     have s1 := eq_true HT.out.2
     go_quiet (fail)
     go_wp2
     rw [Exit.noGoto_ret]
     go_ret2
     exact ⟨rfl, by repeat (first | exact Drawn0.refl _ | apply Drawn0.step)⟩
    ·
     have hn : w.cell? ⟨1, st.toNat * 4, none⟩ = some (.int .i64 (nextT st 0)) := HG.out.next (st.toNat * 4 + 0) (by have := HT.out; omega)
     have s0 := eq_true HT.out.1
     have s1 := eq_true HT.out.2
     have hst : stepT sg st 0 = nextT st 0 := by unfold stepT; rw [if_neg (by decide), if_neg (by intro h; exact absurd h.1 (by decide))]
     by_cases hz : nextT st 0 = 0
     ·
      have z0 : (nextT st 0 == 0) = true := beq_iff_eq.mpr hz
      rw [hz] at hst
      clear hz
      have H := H'.out
      rw [hst, if_pos rfl] at H
      simp only [Option.some.injEq, Prod.mk.injEq] at H
      obtain ⟨rfl, rfl⟩ := H
      clear H' hst
      go_wp2_with (first | ((with_reducible refine gate_callee (f := 46) rfl ?_); refine goesL_ (some 25) rfl rfl Tryd.func46 (by kernel_rfl) rfl #[.int .u8 (bt s j)] rfl (by (try simp only [List.map_toArray, List.map_cons, List.map_nil]); first | done | rfl) ?_; (with_reducible refine (dec_kind.calls k1 (bt s j) _ _ HC.out).mono ?_); rintro e w' ⟨rfl, ⟨nd, rfl⟩⟩; refine ⟨_, rfl, ?_⟩))
      have he : w.cell? ⟨2, st.toNat, none⟩ = some (.int .i64 (endsT st)) := HG.out.ends st.toNat (by have := HT.out; omega)
      have s0 := eq_true HT.out.1
      have s1 := eq_true HT.out.2
      go_quiet (fail)
      go_wp2
      rw [Exit.noGoto_ret]
      go_ret2
      exact ⟨rfl, by repeat (first | exact Drawn0.refl _ | apply Drawn0.step)⟩
     ·
      have z0 : (nextT st 0 == 0) = false := beq_eq_false_iff_ne.mpr hz
      have H := H'.out
      rw [hst, if_neg hz] at H
      have H' := Aside0.mk H
      have nr := Aside0.mk (nextT_range HT.out.1 HT.out.2 (show (0 : Int) ≤ 0 by decide) (show (0 : Int) ≤ 3 by decide))
      clear H hst hz
      go_wp2_with (first | ((with_reducible refine gate_callee (f := 46) rfl ?_); refine goesL_ (some 25) rfl rfl Tryd.func46 (by kernel_rfl) rfl #[.int .u8 (bt s j)] rfl (by (try simp only [List.map_toArray, List.map_cons, List.map_nil]); first | done | rfl) ?_; (with_reducible refine (dec_kind.calls k1 (bt s j) _ _ HC.out).mono ?_); rintro e w' ⟨rfl, ⟨nd, rfl⟩⟩; refine ⟨_, rfl, ?_⟩))
      go_roundg k1
      case measure => have := HK.out; omega
      case rel => exact ⟨j + 1, nextT st 0, by first | rfl | (rw [hw1.out]; done) | (simp [hw1.out]; done), rfl, nr, ⟨by have := HJ.out; have := HQ.out; omega⟩, H', ⟨by have := HK.out; omega⟩, by repeat (first | exact Drawn0.refl _ | apply Drawn0.step)⟩
    ·
     have hn : w.cell? ⟨1, st.toNat * 4 + 1, none⟩ = some (.int .i64 (nextT st 1)) := HG.out.next (st.toNat * 4 + 1) (by have := HT.out; omega)
     have s0 := eq_true HT.out.1
     have s1 := eq_true HT.out.2
     have hst : stepT sg st 1 = nextT st 1 := by unfold stepT; rw [if_neg (by decide), if_neg (by intro h; exact absurd h.1 (by decide))]
     by_cases hz : nextT st 1 = 0
     ·
      have z0 : (nextT st 1 == 0) = true := beq_iff_eq.mpr hz
      rw [hz] at hst
      clear hz
      have H := H'.out
      rw [hst, if_pos rfl] at H
      simp only [Option.some.injEq, Prod.mk.injEq] at H
      obtain ⟨rfl, rfl⟩ := H
      clear H' hst
      go_wp2_with (first | ((with_reducible refine gate_callee (f := 46) rfl ?_); refine goesL_ (some 25) rfl rfl Tryd.func46 (by kernel_rfl) rfl #[.int .u8 (bt s j)] rfl (by (try simp only [List.map_toArray, List.map_cons, List.map_nil]); first | done | rfl) ?_; (with_reducible refine (dec_kind.calls k1 (bt s j) _ _ HC.out).mono ?_); rintro e w' ⟨rfl, ⟨nd, rfl⟩⟩; refine ⟨_, rfl, ?_⟩))
      have he : w.cell? ⟨2, st.toNat, none⟩ = some (.int .i64 (endsT st)) := HG.out.ends st.toNat (by have := HT.out; omega)
      have s0 := eq_true HT.out.1
      have s1 := eq_true HT.out.2
      go_quiet (fail)
      go_wp2
      rw [Exit.noGoto_ret]
      go_ret2
      exact ⟨rfl, by repeat (first | exact Drawn0.refl _ | apply Drawn0.step)⟩
     ·
      have z0 : (nextT st 1 == 0) = false := beq_eq_false_iff_ne.mpr hz
      have H := H'.out
      rw [hst, if_neg hz] at H
      have H' := Aside0.mk H
      have nr := Aside0.mk (nextT_range HT.out.1 HT.out.2 (show (0 : Int) ≤ 1 by decide) (show (1 : Int) ≤ 3 by decide))
      clear H hst hz
      go_wp2_with (first | ((with_reducible refine gate_callee (f := 46) rfl ?_); refine goesL_ (some 25) rfl rfl Tryd.func46 (by kernel_rfl) rfl #[.int .u8 (bt s j)] rfl (by (try simp only [List.map_toArray, List.map_cons, List.map_nil]); first | done | rfl) ?_; (with_reducible refine (dec_kind.calls k1 (bt s j) _ _ HC.out).mono ?_); rintro e w' ⟨rfl, ⟨nd, rfl⟩⟩; refine ⟨_, rfl, ?_⟩))
      go_roundg k1
      case measure => have := HK.out; omega
      case rel => exact ⟨j + 1, nextT st 1, by first | rfl | (rw [hw1.out]; done) | (simp [hw1.out]; done), rfl, nr, ⟨by have := HJ.out; have := HQ.out; omega⟩, H', ⟨by have := HK.out; omega⟩, by repeat (first | exact Drawn0.refl _ | apply Drawn0.step)⟩
    ·
     have hn : w.cell? ⟨1, st.toNat * 4 + 2, none⟩ = some (.int .i64 (nextT st 2)) := HG.out.next (st.toNat * 4 + 2) (by have := HT.out; omega)
     have s0 := eq_true HT.out.1
     have s1 := eq_true HT.out.2
     have hst : stepT sg st 2 = nextT st 2 := by unfold stepT; rw [if_neg (by decide), if_neg (by intro h; exact absurd h.1 (by decide))]
     by_cases hz : nextT st 2 = 0
     ·
      have z0 : (nextT st 2 == 0) = true := beq_iff_eq.mpr hz
      rw [hz] at hst
      clear hz
      have H := H'.out
      rw [hst, if_pos rfl] at H
      simp only [Option.some.injEq, Prod.mk.injEq] at H
      obtain ⟨rfl, rfl⟩ := H
      clear H' hst
      go_wp2_with (first | ((with_reducible refine gate_callee (f := 46) rfl ?_); refine goesL_ (some 25) rfl rfl Tryd.func46 (by kernel_rfl) rfl #[.int .u8 (bt s j)] rfl (by (try simp only [List.map_toArray, List.map_cons, List.map_nil]); first | done | rfl) ?_; (with_reducible refine (dec_kind.calls k1 (bt s j) _ _ HC.out).mono ?_); rintro e w' ⟨rfl, ⟨nd, rfl⟩⟩; refine ⟨_, rfl, ?_⟩))
      have he : w.cell? ⟨2, st.toNat, none⟩ = some (.int .i64 (endsT st)) := HG.out.ends st.toNat (by have := HT.out; omega)
      have s0 := eq_true HT.out.1
      have s1 := eq_true HT.out.2
      go_quiet (fail)
      go_wp2
      rw [Exit.noGoto_ret]
      go_ret2
      exact ⟨rfl, by repeat (first | exact Drawn0.refl _ | apply Drawn0.step)⟩
     ·
      have z0 : (nextT st 2 == 0) = false := beq_eq_false_iff_ne.mpr hz
      have H := H'.out
      rw [hst, if_neg hz] at H
      have H' := Aside0.mk H
      have nr := Aside0.mk (nextT_range HT.out.1 HT.out.2 (show (0 : Int) ≤ 2 by decide) (show (2 : Int) ≤ 3 by decide))
      clear H hst hz
      go_wp2_with (first | ((with_reducible refine gate_callee (f := 46) rfl ?_); refine goesL_ (some 25) rfl rfl Tryd.func46 (by kernel_rfl) rfl #[.int .u8 (bt s j)] rfl (by (try simp only [List.map_toArray, List.map_cons, List.map_nil]); first | done | rfl) ?_; (with_reducible refine (dec_kind.calls k1 (bt s j) _ _ HC.out).mono ?_); rintro e w' ⟨rfl, ⟨nd, rfl⟩⟩; refine ⟨_, rfl, ?_⟩))
      go_roundg k1
      case measure => have := HK.out; omega
      case rel => exact ⟨j + 1, nextT st 2, by first | rfl | (rw [hw1.out]; done) | (simp [hw1.out]; done), rfl, nr, ⟨by have := HJ.out; have := HQ.out; omega⟩, H', ⟨by have := HK.out; omega⟩, by repeat (first | exact Drawn0.refl _ | apply Drawn0.step)⟩
    ·
     by_cases hb : st = 0
     ·
      subst hb
      cases sg with
      | false =>
       have hst : stepT false 0 3 = 0 := by decide
       have H := H'.out
       rw [hst, if_pos rfl] at H
       simp only [Option.some.injEq, Prod.mk.injEq] at H
       obtain ⟨rfl, rfl⟩ := H
       clear H' hst
       go_wp2_with (first | ((with_reducible refine gate_callee (f := 46) rfl ?_); refine goesL_ (some 25) rfl rfl Tryd.func46 (by kernel_rfl) rfl #[.int .u8 (bt s j)] rfl (by (try simp only [List.map_toArray, List.map_cons, List.map_nil]); first | done | rfl) ?_; (with_reducible refine (dec_kind.calls k1 (bt s j) _ _ HC.out).mono ?_); rintro e w' ⟨rfl, ⟨nd, rfl⟩⟩; refine ⟨_, rfl, ?_⟩))
       have he : w.cell? ⟨2, 0, none⟩ = some (.int .i64 (endsT 0)) := HG.out.ends 0 (by decide)
       skip
       skip
       go_quiet (fail)
       go_wp2
       rw [Exit.noGoto_ret]
       go_ret2
       exact ⟨rfl, by repeat (first | exact Drawn0.refl _ | apply Drawn0.step)⟩
      | true =>
       have hn : w.cell? ⟨1, 3, none⟩ = some (.int .i64 1) := HG.out.next 3 (by decide)
       have hst : stepT true 0 3 = 1 := by decide
       have H := H'.out
       rw [hst, if_neg (by decide)] at H
       have H' := Aside0.mk H
       clear H hst
       go_wp2_with (first | ((with_reducible refine gate_callee (f := 46) rfl ?_); refine goesL_ (some 25) rfl rfl Tryd.func46 (by kernel_rfl) rfl #[.int .u8 (bt s j)] rfl (by (try simp only [List.map_toArray, List.map_cons, List.map_nil]); first | done | rfl) ?_; (with_reducible refine (dec_kind.calls k1 (bt s j) _ _ HC.out).mono ?_); rintro e w' ⟨rfl, ⟨nd, rfl⟩⟩; refine ⟨_, rfl, ?_⟩))
       go_roundg k1
       case measure => have := HK.out; omega
       case rel => exact ⟨j + 1, 1, by first | rfl | (rw [hw1.out]; done) | (simp [hw1.out]; done), rfl, ⟨by decide⟩, ⟨by have := HJ.out; have := HQ.out; omega⟩, H', ⟨by have := HK.out; omega⟩, by repeat (first | exact Drawn0.refl _ | apply Drawn0.step)⟩
     ·
      have b0 : (st == 0) = false := beq_eq_false_iff_ne.mpr hb
      have hn : w.cell? ⟨1, st.toNat * 4 + 3, none⟩ = some (.int .i64 (nextT st 3)) := HG.out.next (st.toNat * 4 + 3) (by have := HT.out; omega)
      have s0 := eq_true HT.out.1
      have s1 := eq_true HT.out.2
      have hst : stepT sg st 3 = nextT st 3 := by unfold stepT; rw [if_neg (by decide), if_neg (by intro h; exact hb h.2.1)]
      clear hb
      by_cases hz : nextT st 3 = 0
      ·
       have z0 : (nextT st 3 == 0) = true := beq_iff_eq.mpr hz
       rw [hz] at hst
       clear hz
       have H := H'.out
       rw [hst, if_pos rfl] at H
       simp only [Option.some.injEq, Prod.mk.injEq] at H
       obtain ⟨rfl, rfl⟩ := H
       clear H' hst
       go_wp2_with (first | ((with_reducible refine gate_callee (f := 46) rfl ?_); refine goesL_ (some 25) rfl rfl Tryd.func46 (by kernel_rfl) rfl #[.int .u8 (bt s j)] rfl (by (try simp only [List.map_toArray, List.map_cons, List.map_nil]); first | done | rfl) ?_; (with_reducible refine (dec_kind.calls k1 (bt s j) _ _ HC.out).mono ?_); rintro e w' ⟨rfl, ⟨nd, rfl⟩⟩; refine ⟨_, rfl, ?_⟩))
       have he : w.cell? ⟨2, st.toNat, none⟩ = some (.int .i64 (endsT st)) := HG.out.ends st.toNat (by have := HT.out; omega)
       have s0 := eq_true HT.out.1
       have s1 := eq_true HT.out.2
       go_quiet (fail)
       go_wp2
       rw [Exit.noGoto_ret]
       go_ret2
       exact ⟨rfl, by repeat (first | exact Drawn0.refl _ | apply Drawn0.step)⟩
      ·
       have z0 : (nextT st 3 == 0) = false := beq_eq_false_iff_ne.mpr hz
       have H := H'.out
       rw [hst, if_neg hz] at H
       have H' := Aside0.mk H
       have nr := Aside0.mk (nextT_range HT.out.1 HT.out.2 (show (0 : Int) ≤ 3 by decide) (show (3 : Int) ≤ 3 by decide))
       clear H hst hz
       go_wp2_with (first | ((with_reducible refine gate_callee (f := 46) rfl ?_); refine goesL_ (some 25) rfl rfl Tryd.func46 (by kernel_rfl) rfl #[.int .u8 (bt s j)] rfl (by (try simp only [List.map_toArray, List.map_cons, List.map_nil]); first | done | rfl) ?_; (with_reducible refine (dec_kind.calls k1 (bt s j) _ _ HC.out).mono ?_); rintro e w' ⟨rfl, ⟨nd, rfl⟩⟩; refine ⟨_, rfl, ?_⟩))
       go_roundg k1
       case measure => have := HK.out; omega
       case rel => exact ⟨j + 1, nextT st 3, by first | rfl | (rw [hw1.out]; done) | (simp [hw1.out]; done), rfl, nr, ⟨by have := HJ.out; have := HQ.out; omega⟩, H', ⟨by have := HK.out; omega⟩, by repeat (first | exact Drawn0.refl _ | apply Drawn0.step)⟩
   ·
    rw [if_neg hlt] at H
    simp only [Option.some.injEq, Prod.mk.injEq] at H
    obtain ⟨rfl, rfl⟩ := H
    have hlt2 : decide (j < (s.size : Int)) = false := decide_eq_false hlt
    clear hlt
    go_wp2
    have he : w.cell? ⟨2, st.toNat, none⟩ = some (.int .i64 (endsT st)) := HG.out.ends st.toNat (by have := HT.out; omega)
    have s0 := eq_true HT.out.1
    have s1 := eq_true HT.out.2
    go_quiet (fail)
    go_wp2
    rw [Exit.noGoto_ret]
    go_ret2
    exact ⟨rfl, by repeat (first | exact Drawn0.refl _ | apply Drawn0.step)⟩
end Go.Proofs.YtfpnglgipchjhaaDoor.PR
namespace Go.Proofs.YtfpnglgipchjhaaDoor.PR
open Go.RowKit Go.Proofs.YtfpnglgipchjhaaDoorW.PrintWords Go.Proofs.YtfpnglgipchjhaaDoorW.PrintLast Go.Proofs.YtfpnglgipchjhaaDoorW.PrintMore
attribute [local go_sem] max2_int min2_int max_two min_two max_three min_three max_four min_four
set_option linter.unusedVariables false
set_option linter.unusedSimpArgs false
mutual
def dec_read.l0 : Nat → ByteArray → Bool → Bool → Int → Int → Bool → List Int → Int → Option (Bool × List Int × Int)
 | 0, _, _, _, _, _, _, _, _ => none
 | k + 1, x0, x4, x5, x6, x7, x103000, x103001, x103002 => if x7 < (x0.size : Int) then (if 0 ≤ x7 then ((dec_kind.f k (bt x0 x7)).bind fun t103 => (if t103 = 0 then (if (bt x0 x7) = 48 then (dec_read.j1 k x0 x4 x5 x6 x7 (bt x0 x7) (decide (0 < x103001.length)) x103000 x103001 x103002) else (dec_read.j1 k x0 x4 x5 x6 x7 (bt x0 x7) true x103000 x103001 x103002)) else (if t103 = 1 then (dec_read.l0 k x0 true x5 x6 (wrap64 (x7 + 1)) x103000 x103001 x103002) else (if t103 = 3 then (dec_read.l0 k x0 x4 x5 x6 (wrap64 (x7 + 1)) ((bt x0 x7) == 45) x103001 x103002) else (if t103 = 2 then (if 0 ≤ (wrap64 (x7 + 1)) then (if (wrap64 (x7 + 1)) < (x0.size : Int) then ((dec_kind.f k (bt x0 (wrap64 (x7 + 1)))).bind fun t107 => (if t107 = 3 then (dec_read.j3 k x0 x4 ((bt x0 (wrap64 (x7 + 1))) == 45) x6 (wrap64 ((wrap64 (x7 + 1)) + 1)) x103000 x103001 x103002) else (dec_read.j3 k x0 x4 x5 x6 (wrap64 (x7 + 1)) x103000 x103001 x103002))) else (none)) else (none)) else (dec_read.l0 k x0 x4 x5 x6 (wrap64 (x7 + 1)) x103000 x103001 x103002)))))) else (none)) else (dec_read.l2 k x5 x6 x103000 x103001 x103002)
def dec_read.j1 : Nat → ByteArray → Bool → Bool → Int → Int → Int → Bool → Bool → List Int → Int → Option (Bool × List Int × Int)
 | 0, _, _, _, _, _, _, _, _, _, _ => none
 | k + 1, x0, x4, x5, x6, x7, x8, x29, x103000, x103001, x103002 => if x29 = true then (if x103001.length < 140737488355328 then (dec_read.j2 k x0 x4 x5 x6 x7 x103000 (x103001 ++ [(x8 - 48) % 256]) x103002) else (none)) else (dec_read.j2 k x0 x4 x5 x6 x7 x103000 x103001 x103002)
def dec_read.j2 : Nat → ByteArray → Bool → Bool → Int → Int → Bool → List Int → Int → Option (Bool × List Int × Int)
 | 0, _, _, _, _, _, _, _, _ => none
 | k + 1, x0, x4, x5, x6, x7, x103000, x103001, x103002 => if x4 = true then (if (x103001.length : Int) = 0 then (dec_read.l0 k x0 x4 x5 x6 (wrap64 (x7 + 1)) x103000 x103001 (wrap64 (x103002 - 1))) else (dec_read.l0 k x0 x4 x5 x6 (wrap64 (x7 + 1)) x103000 x103001 x103002)) else (if (x103001.length : Int) > 0 then (dec_read.l0 k x0 x4 x5 x6 (wrap64 (x7 + 1)) x103000 x103001 (wrap64 (x103002 + 1))) else (dec_read.l0 k x0 x4 x5 x6 (wrap64 (x7 + 1)) x103000 x103001 x103002))
def dec_read.j3 : Nat → ByteArray → Bool → Bool → Int → Int → Bool → List Int → Int → Option (Bool × List Int × Int)
 | 0, _, _, _, _, _, _, _, _ => none
 | k + 1, x0, x4, x5, x6, x7, x103000, x103001, x103002 => dec_read.l1 k x0 x4 x5 x6 x7 x103000 x103001 x103002
def dec_read.l1 : Nat → ByteArray → Bool → Bool → Int → Int → Bool → List Int → Int → Option (Bool × List Int × Int)
 | 0, _, _, _, _, _, _, _, _ => none
 | k + 1, x0, x4, x5, x6, x7, x103000, x103001, x103002 => if x7 < (x0.size : Int) then (if 0 ≤ x7 then (dec_read.l1 k x0 x4 x5 (mn (wrap64 ((wrap64 (10 * x6)) + (((bt x0 x7) - 48) % 256))) 1099511627776) (wrap64 (x7 + 1)) x103000 x103001 x103002) else (none)) else (dec_read.l0 k x0 x4 x5 x6 (wrap64 (x7 + 1)) x103000 x103001 x103002)
def dec_read.l2 : Nat → Bool → Int → Bool → List Int → Int → Option (Bool × List Int × Int)
 | 0, _, _, _, _, _ => none
 | k + 1, x5, x6, x103000, x103001, x103002 => if (x103001.length : Int) > 0 then (if 0 ≤ (wrap64 ((x103001.length : Int) - 1)) then (if (wrap64 ((x103001.length : Int) - 1)) < (x103001.length : Int) then (if (rd x103001 (wrap64 ((x103001.length : Int) - 1))) = 0 then (if (wrap64 ((x103001.length : Int) - 1)) ≤ (x103001.length : Int) then (dec_read.l2 k x5 x6 x103000 (x103001.take ((wrap64 ((x103001.length : Int) - 1)) : Int).toNat) x103002) else (none)) else (if x5 = true then (some (x103000, x103001, wrap64 (x103002 + (wrap64 (-x6))))) else (some (x103000, x103001, wrap64 (x103002 + x6))))) else (none)) else (none)) else (if x5 = true then (some (x103000, x103001, wrap64 (x103002 + (wrap64 (-x6))))) else (some (x103000, x103001, wrap64 (x103002 + x6))))
end
def dec_read.f (k : Nat) (a0 : ByteArray) : Option (Bool × List Int × Int) := dec_read.l0 k a0 false false 0 0 false ([] : List Int) 0
theorem dec_read.mono_l : ∀ k, (∀ y0 y1 y2 y3 y4 y5 y6 y7, LeO (dec_read.l0 k y0 y1 y2 y3 y4 y5 y6 y7) (dec_read.l0 (k + 1) y0 y1 y2 y3 y4 y5 y6 y7)) ∧ (∀ y0 y1 y2 y3 y4 y5 y6 y7 y8 y9, LeO (dec_read.j1 k y0 y1 y2 y3 y4 y5 y6 y7 y8 y9) (dec_read.j1 (k + 1) y0 y1 y2 y3 y4 y5 y6 y7 y8 y9)) ∧ (∀ y0 y1 y2 y3 y4 y5 y6 y7, LeO (dec_read.j2 k y0 y1 y2 y3 y4 y5 y6 y7) (dec_read.j2 (k + 1) y0 y1 y2 y3 y4 y5 y6 y7)) ∧ (∀ y0 y1 y2 y3 y4 y5 y6 y7, LeO (dec_read.j3 k y0 y1 y2 y3 y4 y5 y6 y7) (dec_read.j3 (k + 1) y0 y1 y2 y3 y4 y5 y6 y7)) ∧ (∀ y0 y1 y2 y3 y4 y5 y6 y7, LeO (dec_read.l1 k y0 y1 y2 y3 y4 y5 y6 y7) (dec_read.l1 (k + 1) y0 y1 y2 y3 y4 y5 y6 y7)) ∧ (∀ y0 y1 y2 y3 y4, LeO (dec_read.l2 k y0 y1 y2 y3 y4) (dec_read.l2 (k + 1) y0 y1 y2 y3 y4))
 | 0 => ⟨fun _ _ _ _ _ _ _ _ r h => by simp [dec_read.l0] at h, fun _ _ _ _ _ _ _ _ _ _ r h => by simp [dec_read.j1] at h, fun _ _ _ _ _ _ _ _ r h => by simp [dec_read.j2] at h, fun _ _ _ _ _ _ _ _ r h => by simp [dec_read.j3] at h, fun _ _ _ _ _ _ _ _ r h => by simp [dec_read.l1] at h, fun _ _ _ _ _ r h => by simp [dec_read.l2] at h⟩
 | k + 1 => by
  obtain ⟨ih0, ih1, ih2, ih3, ih4, ih5⟩ := dec_read.mono_l k
  refine ⟨?_, ?_, ?_, ?_, ?_, ?_⟩
  ·
   intro y0 y1 y2 y3 y4 y5 y6 y7
   unfold dec_read.l0
   repeat' first
   | (with_reducible exact ih0 _ _ _ _ _ _ _ _)
   | (with_reducible exact ih1 _ _ _ _ _ _ _ _ _ _)
   | (with_reducible exact ih2 _ _ _ _ _ _ _ _)
   | (with_reducible exact ih3 _ _ _ _ _ _ _ _)
   | (with_reducible exact ih4 _ _ _ _ _ _ _ _)
   | (with_reducible exact ih5 _ _ _ _ _)
   | (with_reducible exact dec_kind.mono _ _)
   | (with_reducible exact LeO.refl _)
   | (with_reducible exact LeO.none _)
   | (with_reducible refine LeO.ite ?_ ?_)
   | (with_reducible refine LeO.bind ?_ (fun _ => ?_))
   | exact ih0 _ _ _ _ _ _ _ _
   | exact ih1 _ _ _ _ _ _ _ _ _ _
   | exact ih2 _ _ _ _ _ _ _ _
   | exact ih3 _ _ _ _ _ _ _ _
   | exact ih4 _ _ _ _ _ _ _ _
   | exact ih5 _ _ _ _ _
   | exact dec_kind.mono _ _
   | exact LeO.none _
   | refine LeO.ite ?_ ?_
   | refine LeO.bind ?_ (fun _ => ?_)
  ·
   intro y0 y1 y2 y3 y4 y5 y6 y7 y8 y9
   unfold dec_read.j1
   repeat' first
   | (with_reducible exact ih0 _ _ _ _ _ _ _ _)
   | (with_reducible exact ih1 _ _ _ _ _ _ _ _ _ _)
   | (with_reducible exact ih2 _ _ _ _ _ _ _ _)
   | (with_reducible exact ih3 _ _ _ _ _ _ _ _)
   | (with_reducible exact ih4 _ _ _ _ _ _ _ _)
   | (with_reducible exact ih5 _ _ _ _ _)
   | (with_reducible exact dec_kind.mono _ _)
   | (with_reducible exact LeO.refl _)
   | (with_reducible exact LeO.none _)
   | (with_reducible refine LeO.ite ?_ ?_)
   | (with_reducible refine LeO.bind ?_ (fun _ => ?_))
   | exact ih0 _ _ _ _ _ _ _ _
   | exact ih1 _ _ _ _ _ _ _ _ _ _
   | exact ih2 _ _ _ _ _ _ _ _
   | exact ih3 _ _ _ _ _ _ _ _
   | exact ih4 _ _ _ _ _ _ _ _
   | exact ih5 _ _ _ _ _
   | exact dec_kind.mono _ _
   | exact LeO.none _
   | refine LeO.ite ?_ ?_
   | refine LeO.bind ?_ (fun _ => ?_)
  ·
   intro y0 y1 y2 y3 y4 y5 y6 y7
   unfold dec_read.j2
   repeat' first
   | (with_reducible exact ih0 _ _ _ _ _ _ _ _)
   | (with_reducible exact ih1 _ _ _ _ _ _ _ _ _ _)
   | (with_reducible exact ih2 _ _ _ _ _ _ _ _)
   | (with_reducible exact ih3 _ _ _ _ _ _ _ _)
   | (with_reducible exact ih4 _ _ _ _ _ _ _ _)
   | (with_reducible exact ih5 _ _ _ _ _)
   | (with_reducible exact dec_kind.mono _ _)
   | (with_reducible exact LeO.refl _)
   | (with_reducible exact LeO.none _)
   | (with_reducible refine LeO.ite ?_ ?_)
   | (with_reducible refine LeO.bind ?_ (fun _ => ?_))
   | exact ih0 _ _ _ _ _ _ _ _
   | exact ih1 _ _ _ _ _ _ _ _ _ _
   | exact ih2 _ _ _ _ _ _ _ _
   | exact ih3 _ _ _ _ _ _ _ _
   | exact ih4 _ _ _ _ _ _ _ _
   | exact ih5 _ _ _ _ _
   | exact dec_kind.mono _ _
   | exact LeO.none _
   | refine LeO.ite ?_ ?_
   | refine LeO.bind ?_ (fun _ => ?_)
  ·
   intro y0 y1 y2 y3 y4 y5 y6 y7
   unfold dec_read.j3
   repeat' first
   | (with_reducible exact ih0 _ _ _ _ _ _ _ _)
   | (with_reducible exact ih1 _ _ _ _ _ _ _ _ _ _)
   | (with_reducible exact ih2 _ _ _ _ _ _ _ _)
   | (with_reducible exact ih3 _ _ _ _ _ _ _ _)
   | (with_reducible exact ih4 _ _ _ _ _ _ _ _)
   | (with_reducible exact ih5 _ _ _ _ _)
   | (with_reducible exact dec_kind.mono _ _)
   | (with_reducible exact LeO.refl _)
   | (with_reducible exact LeO.none _)
   | (with_reducible refine LeO.ite ?_ ?_)
   | (with_reducible refine LeO.bind ?_ (fun _ => ?_))
   | exact ih0 _ _ _ _ _ _ _ _
   | exact ih1 _ _ _ _ _ _ _ _ _ _
   | exact ih2 _ _ _ _ _ _ _ _
   | exact ih3 _ _ _ _ _ _ _ _
   | exact ih4 _ _ _ _ _ _ _ _
   | exact ih5 _ _ _ _ _
   | exact dec_kind.mono _ _
   | exact LeO.none _
   | refine LeO.ite ?_ ?_
   | refine LeO.bind ?_ (fun _ => ?_)
  ·
   intro y0 y1 y2 y3 y4 y5 y6 y7
   unfold dec_read.l1
   repeat' first
   | (with_reducible exact ih0 _ _ _ _ _ _ _ _)
   | (with_reducible exact ih1 _ _ _ _ _ _ _ _ _ _)
   | (with_reducible exact ih2 _ _ _ _ _ _ _ _)
   | (with_reducible exact ih3 _ _ _ _ _ _ _ _)
   | (with_reducible exact ih4 _ _ _ _ _ _ _ _)
   | (with_reducible exact ih5 _ _ _ _ _)
   | (with_reducible exact dec_kind.mono _ _)
   | (with_reducible exact LeO.refl _)
   | (with_reducible exact LeO.none _)
   | (with_reducible refine LeO.ite ?_ ?_)
   | (with_reducible refine LeO.bind ?_ (fun _ => ?_))
   | exact ih0 _ _ _ _ _ _ _ _
   | exact ih1 _ _ _ _ _ _ _ _ _ _
   | exact ih2 _ _ _ _ _ _ _ _
   | exact ih3 _ _ _ _ _ _ _ _
   | exact ih4 _ _ _ _ _ _ _ _
   | exact ih5 _ _ _ _ _
   | exact dec_kind.mono _ _
   | exact LeO.none _
   | refine LeO.ite ?_ ?_
   | refine LeO.bind ?_ (fun _ => ?_)
  ·
   intro y0 y1 y2 y3 y4
   unfold dec_read.l2
   repeat' first
   | (with_reducible exact ih0 _ _ _ _ _ _ _ _)
   | (with_reducible exact ih1 _ _ _ _ _ _ _ _ _ _)
   | (with_reducible exact ih2 _ _ _ _ _ _ _ _)
   | (with_reducible exact ih3 _ _ _ _ _ _ _ _)
   | (with_reducible exact ih4 _ _ _ _ _ _ _ _)
   | (with_reducible exact ih5 _ _ _ _ _)
   | (with_reducible exact dec_kind.mono _ _)
   | (with_reducible exact LeO.refl _)
   | (with_reducible exact LeO.none _)
   | (with_reducible refine LeO.ite ?_ ?_)
   | (with_reducible refine LeO.bind ?_ (fun _ => ?_))
   | exact ih0 _ _ _ _ _ _ _ _
   | exact ih1 _ _ _ _ _ _ _ _ _ _
   | exact ih2 _ _ _ _ _ _ _ _
   | exact ih3 _ _ _ _ _ _ _ _
   | exact ih4 _ _ _ _ _ _ _ _
   | exact ih5 _ _ _ _ _
   | exact dec_kind.mono _ _
   | exact LeO.none _
   | refine LeO.ite ?_ ?_
   | refine LeO.bind ?_ (fun _ => ?_)
theorem dec_read.mono : ∀ a0 k, LeO (dec_read.f k a0) (dec_read.f (k + 1) a0) := by
 intro a0 k
 obtain ⟨ih0, ih1, ih2, ih3, ih4, ih5⟩ := dec_read.mono_l k
 unfold dec_read.f
 repeat' first
   | (with_reducible exact ih0 _ _ _ _ _ _ _ _)
   | (with_reducible exact ih1 _ _ _ _ _ _ _ _ _ _)
   | (with_reducible exact ih2 _ _ _ _ _ _ _ _)
   | (with_reducible exact ih3 _ _ _ _ _ _ _ _)
   | (with_reducible exact ih4 _ _ _ _ _ _ _ _)
   | (with_reducible exact ih5 _ _ _ _ _)
   | (with_reducible exact dec_kind.mono _ _)
   | (with_reducible exact LeO.refl _)
   | (with_reducible exact LeO.none _)
   | (with_reducible refine LeO.ite ?_ ?_)
   | (with_reducible refine LeO.bind ?_ (fun _ => ?_))
   | exact ih0 _ _ _ _ _ _ _ _
   | exact ih1 _ _ _ _ _ _ _ _ _ _
   | exact ih2 _ _ _ _ _ _ _ _
   | exact ih3 _ _ _ _ _ _ _ _
   | exact ih4 _ _ _ _ _ _ _ _
   | exact ih5 _ _ _ _ _
   | exact dec_kind.mono _ _
   | exact LeO.none _
   | refine LeO.ite ?_ ?_
   | refine LeO.bind ?_ (fun _ => ?_)
set_option maxHeartbeats 8000000 in
set_option maxRecDepth 100000 in
theorem dec_read.calls (k : Nat) (a0 : ByteArray) (r1 : Bool) (r2 : List Int) (r3 : Int) (w : World) (h : dec_read.f k a0 = some (r1, r2, r3)) :
  Calls Tryd.prog 32 #[.string a0] w fun e w' => ∃ v1_ : Value, e = .returned (.agg #[.bool r1, v1_, .int .i64 r3]) ∧ Kd.R (Kd.int .u8) 5 w' w.heap.size (fun _ => True) v1_ r2 ∧ Below w.heap.size w w' := by
 have hu59 := Tryd.underlying59
 have HB := Aside0.mk (Below.refl w.heap.size w)
 have H : (dec_read.l0 k a0 false false 0 0 false ([] : List Int) 0) = some (r1, r2, r3) := h
 clear h
 have H' := Aside0.mk H
 clear H
 go_enter Tryd.func32, Tryd.ntmps32
 go_wp2_with (first | ((with_reducible refine gate_dst (N := 2) rfl ?_); (try (refine gate_guard (by rfl) ?_; dsimp only)); refine box_event ?hg (N := 2) ?hd (cs := #[.bool false, .slice none 0 0, .int .i64 0]) (t := 59) ?hr ?_; (case hd => rfl); (case hg => rfl); (case hr => first | (go_simp; done) | (go_simp; rfl)); intro gb101 hg w2 hbox hb; have n0_ := Aside0.mk (below_step (wq HB.out) hb); have n1_ := Aside0.mk (hbox); have n2_ := Aside0.mk ((by rw [hg]; exact (below_size (wq HB.out)) : w.heap.size ≤ gb101)); have n3_ := n2_; clear HB; have HB := n0_; have BK101 := n1_; have GW101 := n2_; have GE101 := n3_; clear n0_ n1_ n2_ n3_ hb hbox hg) | ((with_reducible refine gate_dst (N := 3) rfl ?_); (try (refine gate_guard (by rfl) ?_; dsimp only)); refine box_event ?hg (N := 3) ?hd (cs := #[.bool false, .slice none 0 0, .int .i64 0]) (t := 59) ?hr ?_; (case hd => rfl); (case hg => rfl); (case hr => first | (go_simp; done) | (go_simp; rfl)); intro gb102 hg w3 hbox hb; have n0_ := Aside0.mk (blk_below (bq BK101.out) hb); have n1_ := Aside0.mk (below_step (wq HB.out) hb); have n2_ := Aside0.mk (hbox); have n3_ := Aside0.mk ((by rw [hg]; exact (below_size (wq HB.out)) : w.heap.size ≤ gb102)); have n4_ := n3_; have n5_ := Aside0.mk ((by rw [hg]; exact Nat.ne_of_lt (blk_lt (bq BK101.out)) : gb101 ≠ gb102)); have n6_ := Aside0.mk ((by rw [hg]; exact Nat.ne_of_gt (blk_lt (bq BK101.out)) : gb102 ≠ gb101)); clear BK101 HB; have BK101 := n0_; have HB := n1_; have BK102 := n2_; have GW102 := n3_; have GE102 := n4_; have NB101_102 := n5_; have NB102_101 := n6_; clear n0_ n1_ n2_ n3_ n4_ n5_ n6_ hb hbox hg))
 go_loopg [4, 5, 6, 7] k (fun kq v4 v5 v6 v7 w' => ∃ (x4_1 : Bool) (x5_1 : Bool) (x6_1 : Int) (x7_1 : Int) (x103000_1 : Bool) (x103001_1 : List Int) (x103002_1 : Int) (u103001 : Value), v4 = .bool x4_1 ∧ v5 = .bool x5_1 ∧ v6 = .int .i64 x6_1 ∧ v7 = .int .i64 x7_1 ∧ Aside0 (dec_read.l0 kq a0 x4_1 x5_1 x6_1 x7_1 x103000_1 x103001_1 x103002_1 = some (r1, r2, r3)) ∧ Aside0 (kq ≤ k) ∧ Aside0 (Kd.R (Kd.int .u8) 5 w' w.heap.size (fun _ => True) u103001 x103001_1) ∧ Aside0 (w'.heap[gb101]? = some (.cells #[.bool false, (.slice none 0 0), .int .i64 0] 59 (0, 0))) ∧ Aside0 (w'.heap[gb102]? = some (.cells #[.bool x103000_1, u103001, .int .i64 x103002_1] 59 (0, 0))) ∧ Aside0 (Below w.heap.size w w'))
 case atStart => exact ⟨(false), (false), (0), (0), (false), (([] : List Int)), (0), (.slice none 0 0), (by first | rfl | (simp; done) | (simp [*]; done)), (by first | rfl | (simp; done) | (simp [*]; done)), (by first | rfl | (simp; done) | (simp [*]; done)), (by first | rfl | (simp; done) | (simp [*]; done)), H', ⟨Nat.le_refl _⟩, ⟨by first | exact Kd.R_nil _ _ _ _ _ | exact Kd.N_nil _ _ _ _ _ | exact Kd.V_nil _ _ _ _ _ | exact Kd.Q_nil _ _ _ _ _ | exact Kd.S_nil _ _ _ _ _⟩, ⟨by refine bq ?_; exact BK101.out⟩, ⟨by refine bq ?_; exact BK102.out⟩, ⟨by exact wq HB.out⟩⟩
 case round =>
  clear H'
  try clear p2
  try clear c3
  obtain ⟨x4_1, x5_1, x6_1, x7_1, x103000_1, x103001_1, x103002_1, u103001, rfl, rfl, rfl, rfl, HA, HK1, HO_103001, BK101, BK102, HB⟩ := hrel
  cases gk with
  | zero => exact absurd HA.out (by simp [dec_read.l0])
  | succ k1 =>
   have H := HA.out
   clear HA
   simp only [dec_read.l0] at H
   by_cases c4 : x7_1 < (a0.size : Int)
   ·
    rw [if_pos c4] at H
    have c4b0 : decide (x7_1 < (a0.size : Int)) = true := decide_eq_true c4
    clear c4
    by_cases c5 : 0 ≤ x7_1
    ·
     rw [if_pos c5] at H
     have c5b0 : decide (0 ≤ x7_1) = true := decide_eq_true c5
     clear c5
     replace H := Option.bind_eq_some_iff.mp H
     obtain ⟨t103, A70, H⟩ := H
     replace H : (if t103 = 0 then (if (bt a0 x7_1) = 48 then (dec_read.j1 k1 a0 x4_1 x5_1 x6_1 x7_1 (bt a0 x7_1) (decide (0 < x103001_1.length)) x103000_1 x103001_1 x103002_1) else (dec_read.j1 k1 a0 x4_1 x5_1 x6_1 x7_1 (bt a0 x7_1) true x103000_1 x103001_1 x103002_1)) else (if t103 = 1 then (dec_read.l0 k1 a0 true x5_1 x6_1 (wrap64 (x7_1 + 1)) x103000_1 x103001_1 x103002_1) else (if t103 = 3 then (dec_read.l0 k1 a0 x4_1 x5_1 x6_1 (wrap64 (x7_1 + 1)) ((bt a0 x7_1) == 45) x103001_1 x103002_1) else (if t103 = 2 then (if 0 ≤ (wrap64 (x7_1 + 1)) then (if (wrap64 (x7_1 + 1)) < (a0.size : Int) then ((dec_kind.f k1 (bt a0 (wrap64 (x7_1 + 1)))).bind fun t107 => (if t107 = 3 then (dec_read.j3 k1 a0 x4_1 ((bt a0 (wrap64 (x7_1 + 1))) == 45) x6_1 (wrap64 ((wrap64 (x7_1 + 1)) + 1)) x103000_1 x103001_1 x103002_1) else (dec_read.j3 k1 a0 x4_1 x5_1 x6_1 (wrap64 (x7_1 + 1)) x103000_1 x103001_1 x103002_1))) else (none)) else (none)) else (dec_read.l0 k1 a0 x4_1 x5_1 x6_1 (wrap64 (x7_1 + 1)) x103000_1 x103001_1 x103002_1))))) = some (r1, r2, r3) := H
     have A7 := Aside0.mk A70
     clear A70
     by_cases c8 : t103 = 0
     ·
      rw [if_pos c8] at H
      have c8b0 : (t103 == 0) = true := beq_iff_eq.mpr c8
      have c8b1 : (t103 != 0) = false := bne_eq_false_iff_eq.mpr c8
      clear c8
      have HC9 := Aside0.mk H
      clear H
      have p6 : 0 ≤ (x7_1 : Int) := of_decide_eq_true (by first | (with_reducible assumption) | assumption)
      have q6 : x7_1 < (a0.size : Int) := of_decide_eq_true (by first | (with_reducible assumption) | assumption)
      have hx6 := bt_at a0 x7_1
      replace p6 := eq_true p6
      replace q6 := eq_true q6
      go_upto_region 10 with (first | ((with_reducible refine gate_callee (f := 46) rfl ?_); refine goesL_ (some 19) rfl rfl Tryd.func46 (by kernel_rfl) rfl #[.int .u8 (bt a0 x7_1)] rfl (by (try simp only [List.map_toArray, List.map_cons, List.map_nil]); first | done | rfl | (simp only [List.length_drop, List.length_take]; rfl)) ?_; (with_reducible refine (dec_kind.calls k1 (bt a0 x7_1) t103 _ A7.out).mono ?_); rintro e w' ⟨rfl, ⟨nd, rfl⟩⟩; refine ⟨_, rfl, ?_⟩))
      (try simp only [apz])
      go_cut [29] (fun v29 wc => ∃ (kq : Nat) (x29_8 : Bool), v29 = .bool x29_8 ∧ Aside0 (dec_read.j1 kq a0 x4_1 x5_1 x6_1 x7_1 (bt a0 x7_1) x29_8 x103000_1 x103001_1 x103002_1 = some (r1, r2, r3)) ∧ Aside0 (kq ≤ k1) ∧ Aside0 (Kd.R (Kd.int .u8) 5 wc w.heap.size (fun _ => True) u103001 x103001_1) ∧ Aside0 (wc.heap[gb101]? = some (.cells #[.bool false, (.slice none 0 0), .int .i64 0] 59 (0, 0))) ∧ Aside0 (wc.heap[gb102]? = some (.cells #[.bool x103000_1, u103001, .int .i64 x103002_1] 59 (0, 0))) ∧ Aside0 (Below w.heap.size w wc))
      case first =>
       have H := HC9.out
       clear HC9
       by_cases c10 : (bt a0 x7_1) = 48
       ·
        rw [if_pos c10] at H
        have c10b0 : ((bt a0 x7_1) == 48) = true := beq_iff_eq.mpr c10
        have c10b1 : ((bt a0 x7_1) != 48) = false := bne_eq_false_iff_eq.mpr c10
        clear c10
        (first | rw [c10b0] | (simp only [i64_w, i32_w]; rw [c10b0]) | skip)
        have H' := Aside0.mk H
        clear H
        have hnb11 := NB102_101.out
        have hnc11 := NB101_102.out
        have hcz12_0 : wr.cell? ⟨gb102, 0, none⟩ = some (.bool x103000_1) := (blk_cell BK102.out 0).trans rfl
        have hcz12_1 : wr.cell? ⟨gb102, 1, none⟩ = some (u103001) := (blk_cell BK102.out 1).trans rfl
        have hcz12_2 : wr.cell? ⟨gb102, 2, none⟩ = some (.int .i64 x103002_1) := (blk_cell BK102.out 2).trans rfl
        have hfz12_0 := blk_frozen BK102.out 0
        have hfz12_1 := blk_frozen BK102.out 1
        have hfz12_2 := blk_frozen BK102.out 2
        obtain ⟨Ao13, co13, eo13⟩ := Kd.R_slice HO_103001.out
        subst eo13
        go_wp2
        go_meet
        case rel => exact ⟨_, (decide (0 < x103001_1.length)), (by first | rfl | (simp; done) | (simp [*]; done)), H', ⟨by have := HK1.out; first | omega | exact Nat.le_refl _⟩, ⟨by apply rq; exact HO_103001.out⟩, ⟨by refine bq ?_; exact BK101.out⟩, ⟨by refine bq ?_; exact BK102.out⟩, ⟨by exact wq HB.out⟩⟩
       ·
        rw [if_neg c10] at H
        have c10b0 : ((bt a0 x7_1) == 48) = false := beq_eq_false_iff_ne.mpr c10
        have c10b1 : ((bt a0 x7_1) != 48) = true := bne_iff_ne.mpr c10
        (first | rw [c10b0] | (simp only [i64_w, i32_w]; rw [c10b0]) | skip)
        have H' := Aside0.mk H
        clear H
        go_wp2
        go_meet
        case rel => exact ⟨_, (true), (by first | rfl | (simp; done) | (simp [*]; done)), H', ⟨by have := HK1.out; first | omega | exact Nat.le_refl _⟩, ⟨by apply rq; exact HO_103001.out⟩, ⟨by refine bq ?_; exact BK101.out⟩, ⟨by refine bq ?_; exact BK102.out⟩, ⟨by exact wq HB.out⟩⟩
      case rest =>
       clear HC9
       try clear c1
       try clear p2
       try clear c3
       try clear c4
       try clear c4b0
       try clear c5
       try clear c5b0
       try clear p6
       try clear q6
       try clear hx6
       try clear c8
       try clear c8b0
       try clear c8b1
       try clear c10
       try clear c10b0
       try clear c10b1
       try clear c11
       try clear hcz12_0
       try clear hcz12_1
       try clear hcz12_2
       try clear hfz12_0
       try clear hfz12_1
       try clear hfz12_2
       try clear p2
       try clear p6
       try clear q6
       obtain ⟨kq, x29_8, rfl, HA, HJ8, HO_103001, BK101, BK102, HB⟩ := hcut
       cases kq with
       | zero => exact absurd HA.out (by simp [dec_read.j1])
       | succ kj8 =>
        have H := HA.out
        clear HA
        simp only [dec_read.j1] at H
        have HC14 := Aside0.mk H
        clear H
        go_upto_if 29 with (fail)
        go_cut [] (fun wc => ∃ (kq : Nat) (x103001_13 : List Int) (u103001 : Value), Aside0 (dec_read.j2 kq a0 x4_1 x5_1 x6_1 x7_1 x103000_1 x103001_13 x103002_1 = some (r1, r2, r3)) ∧ Aside0 (kq ≤ kj8) ∧ Aside0 (Kd.R (Kd.int .u8) 5 wc w.heap.size (fun _ => True) u103001 x103001_13) ∧ Aside0 (wc.heap[gb101]? = some (.cells #[.bool false, (.slice none 0 0), .int .i64 0] 59 (0, 0))) ∧ Aside0 (wc.heap[gb102]? = some (.cells #[.bool x103000_1, u103001, .int .i64 x103002_1] 59 (0, 0))) ∧ Aside0 (Below w.heap.size w wc))
        case first =>
         have H := HC14.out
         clear HC14
         by_cases c15 : x29_8 = true
         ·
          subst c15
          have H1 : (if x103001_1.length < 140737488355328 then (dec_read.j2 kj8 a0 x4_1 x5_1 x6_1 x7_1 x103000_1 (x103001_1 ++ [((bt a0 x7_1) - 48) % 256]) x103002_1) else (none)) = some (r1, r2, r3) := by rw [if_pos rfl] at H; exact H
          clear H
          have H := H1
          clear H1
          by_cases c16 : x103001_1.length < 140737488355328
          ·
           rw [if_pos c16] at H
           have LMc16 := Aside0.mk c16
           clear c16
           obtain ⟨y104, hy104⟩ : ∃ y_ : List Int, y_ = (x103001_1 ++ [((bt a0 x7_1) - 48) % 256]) := ⟨_, rfl⟩
           replace H : (dec_read.j2 kj8 a0 x4_1 x5_1 x6_1 x7_1 x103000_1 y104 x103002_1) = some (r1, r2, r3) := by first | (rw [hy104]; with_reducible exact H) | (have H2_ := (Option.bind_some _ _).symm.trans H; rw [hy104]; with_reducible exact H2_) | (have H2_ := (Option.bind_some _ _).symm.trans H; with_reducible exact H2_) | with_reducible exact H | (rw [hy104]; exact H) | exact H
           have Ny104 := Aside0.mk hy104
           clear hy104
           have H' := Aside0.mk H
           clear H
           have hnb17 := NB102_101.out
           have hnc17 := NB101_102.out
           have hcz18_0 : wc.cell? ⟨gb102, 0, none⟩ = some (.bool x103000_1) := (blk_cell BK102.out 0).trans rfl
           have hcz18_1 : wc.cell? ⟨gb102, 1, none⟩ = some (u103001) := (blk_cell BK102.out 1).trans rfl
           have hcz18_2 : wc.cell? ⟨gb102, 2, none⟩ = some (.int .i64 x103002_1) := (blk_cell BK102.out 2).trans rfl
           have hfz18_0 := blk_frozen BK102.out 0
           have hfz18_1 := blk_frozen BK102.out 1
           have hfz18_2 := blk_frozen BK102.out 2
           go_wp2_with (first | ((with_reducible refine gate_builtin (b := .append) (xs := #[.tmp 31, .tmp 34]) rfl ?_); (try (refine gate_guard (by rfl) ?_; dsimp only)); at_builtin; refine Kd.R_append (Kd.int .u8) (w0 := w) w.heap.size rfl (.tmp 31) (.tmp 34) 36 5 (.int .u8 0) 1 rfl Tryd.underlying36 info5 rfl (by decide) (by omega) u103001 x103001_1 (((bt a0 x7_1) - 48) % 256) [.int .u8 (((bt a0 x7_1) - 48) % 256)] (fun _ => True) (fun _ => False) rfl rfl ?aP (fun _ hk => hk.elim) ?aF ?aO ?aB ?aS ?aL ?_; (case aP => exact rfl); (case aB => exact (wq HB.out)); (case aF => exact (fun _ _ => trivial)); (case aO => exact (rq HO_103001.out)); (case aS => exact (below_size (wq HB.out))); (case aL => have := LMc16.out; omega); intro v105 w19 ho hb hg hat; rw [← Ny104.out] at ho; have n0_ := Aside0.mk (blk_grown (g := gb101) (o := .cells #[.bool false, .slice none 0 0, .int .i64 0] 59 (0, 0)) (bq BK101.out) hg (Kd.R_ne HO_103001.out BK101.out (by decide))); have n1_ := Aside0.mk (blk_grown (g := gb102) (o := .cells #[.bool x103000_1, u103001, .int .i64 x103002_1] 59 (0, 0)) (bq BK102.out) hg (Kd.R_ne HO_103001.out BK102.out (by decide))); have n2_ := Aside0.mk (hb); have n3_ := Aside0.mk (ho); clear BK101 BK102 HB HO_103001; have BK101 := n0_; have BK102 := n1_; have HB := n2_; have HO106 := n3_; clear n0_ n1_ n2_ n3_ ho hb hg hat; obtain ⟨Ao20, co20, eo20⟩ := Kd.R_slice HO106.out; subst eo20; have hcz21_0 : w19.cell? ⟨gb102, 0, none⟩ = some (.bool x103000_1) := (blk_cell BK102.out 0).trans rfl; have hcz21_1 : w19.cell? ⟨gb102, 1, none⟩ = some (u103001) := (blk_cell BK102.out 1).trans rfl; have hcz21_2 : w19.cell? ⟨gb102, 2, none⟩ = some (.int .i64 x103002_1) := (blk_cell BK102.out 2).trans rfl; have hfz21_0 := blk_frozen BK102.out 0; have hfz21_1 := blk_frozen BK102.out 1; have hfz21_2 := blk_frozen BK102.out 2))
           go_meet
           case rel => exact ⟨_, (y104), (.slice Ao20 y104.length co20), H', ⟨by have := HK1.out; have := HJ8.out; first | omega | exact Nat.le_refl _⟩, ⟨by apply rq; exact Kd.R_mono (Kd.R_far (p := ⟨gb102, 1, none⟩) (Kd.R_types HO106.out BK102.out (by decide)) (fun _ hk => hk.2) (.slice Ao20 y104.length co20)) (fun _ hk => trivial)⟩, ⟨by refine bq ?_; refine blk_far ?_ NB101_102.out _; refine bq ?_; exact BK101.out⟩, ⟨by refine bq ?_; refine blk_put (cs := #[.bool x103000_1, u103001, .int .i64 x103002_1]) ?_ 1 _ rfl; refine bq ?_; exact BK102.out⟩, ⟨by exact wq HB.out⟩⟩
          ·
           rw [if_neg c16] at H
           exact absurd H (by simp)
         ·
          replace c15 := Bool.eq_false_iff.mpr c15
          subst c15
          have H1 : (dec_read.j2 kj8 a0 x4_1 x5_1 x6_1 x7_1 x103000_1 x103001_1 x103002_1) = some (r1, r2, r3) := by rw [if_neg (show ¬ (false = true) by decide)] at H; exact H
          clear H
          have H := H1
          clear H1
          have H' := Aside0.mk H
          clear H
          go_wp2
          go_meet
          case rel => exact ⟨_, (x103001_1), (u103001), H', ⟨by have := HK1.out; have := HJ8.out; first | omega | exact Nat.le_refl _⟩, ⟨by apply rq; exact HO_103001.out⟩, ⟨by refine bq ?_; exact BK101.out⟩, ⟨by refine bq ?_; exact BK102.out⟩, ⟨by exact wq HB.out⟩⟩
        case rest =>
         clear HC14
         try clear c1
         try clear p2
         try clear c3
         try clear c4
         try clear c4b0
         try clear c5
         try clear c5b0
         try clear p6
         try clear q6
         try clear hx6
         try clear c8
         try clear c8b0
         try clear c8b1
         try clear c10
         try clear c10b0
         try clear c10b1
         try clear c11
         try clear c15
         try clear c16
         try clear c17
         try clear hcz12_0
         try clear hcz12_1
         try clear hcz12_2
         try clear hcz18_0
         try clear hcz18_1
         try clear hcz18_2
         try clear hcz21_0
         try clear hcz21_1
         try clear hcz21_2
         try clear hfz12_0
         try clear hfz12_1
         try clear hfz12_2
         try clear hfz18_0
         try clear hfz18_1
         try clear hfz18_2
         try clear hfz21_0
         try clear hfz21_1
         try clear hfz21_2
         try clear p2
         try clear p6
         try clear q6
         obtain ⟨kq, x103001_13, u103001, HA, HJ13, HO_103001, BK101, BK102, HB⟩ := hcut
         cases kq with
         | zero => exact absurd HA.out (by simp [dec_read.j2])
         | succ kj13 =>
          have H := HA.out
          clear HA
          simp only [dec_read.j2] at H
          by_cases c22 : x4_1 = true
          ·
           subst c22
           have H1 : (if (x103001_13.length : Int) = 0 then (dec_read.l0 kj13 a0 true x5_1 x6_1 (wrap64 (x7_1 + 1)) x103000_1 x103001_13 (wrap64 (x103002_1 - 1))) else (dec_read.l0 kj13 a0 true x5_1 x6_1 (wrap64 (x7_1 + 1)) x103000_1 x103001_13 x103002_1)) = some (r1, r2, r3) := by rw [if_pos rfl] at H; exact H
           clear H
           have H := H1
           clear H1
           by_cases c23 : (x103001_13.length : Int) = 0
           ·
            rw [if_pos c23] at H
            have c23b0 : ((x103001_13.length : Int) == 0) = true := beq_iff_eq.mpr c23
            have c23b1 : ((x103001_13.length : Int) != 0) = false := bne_eq_false_iff_eq.mpr c23
            clear c23
            have H' := Aside0.mk H
            clear H
            have hnb24 := NB102_101.out
            have hnc24 := NB101_102.out
            have hcz25_0 : wc.cell? ⟨gb102, 0, none⟩ = some (.bool x103000_1) := (blk_cell BK102.out 0).trans rfl
            have hcz25_1 : wc.cell? ⟨gb102, 1, none⟩ = some (u103001) := (blk_cell BK102.out 1).trans rfl
            have hcz25_2 : wc.cell? ⟨gb102, 2, none⟩ = some (.int .i64 x103002_1) := (blk_cell BK102.out 2).trans rfl
            have hfz25_0 := blk_frozen BK102.out 0
            have hfz25_1 := blk_frozen BK102.out 1
            have hfz25_2 := blk_frozen BK102.out 2
            obtain ⟨Ao26, co26, eo26⟩ := Kd.R_slice HO_103001.out
            subst eo26
            go_wp2
            go_roundg kj13
            case measure => have := HK1.out; have := HJ8.out; have := HJ13.out; omega
            case rel => exact ⟨(true), (x5_1), (x6_1), (wrap64 (x7_1 + 1)), (x103000_1), (x103001_13), (wrap64 (x103002_1 - 1)), (.slice Ao26 x103001_13.length co26), (by first | rfl | (simp; done) | (simp [*]; done)), (by first | rfl | (simp; done) | (simp [*]; done)), (by first | rfl | (simp; done) | (simp [*]; done)), (by first | rfl | (simp; done) | (simp [*]; done)), H', ⟨by have := HK1.out; have := HJ8.out; have := HJ13.out; omega⟩, ⟨by apply rq; exact Kd.R_mono (Kd.R_far (p := ⟨gb102, 2, none⟩) (Kd.R_types HO_103001.out BK102.out (by decide)) (fun _ hk => hk.2) (.int .i64 (wrap64 (x103002_1 - 1)))) (fun _ hk => trivial)⟩, ⟨by refine bq ?_; refine blk_far ?_ NB101_102.out _; refine bq ?_; exact BK101.out⟩, ⟨by refine bq ?_; refine blk_put (cs := #[.bool x103000_1, .slice Ao26 x103001_13.length co26, .int .i64 x103002_1]) ?_ 2 _ rfl; refine bq ?_; exact BK102.out⟩, ⟨by exact wq HB.out⟩⟩
           ·
            rw [if_neg c23] at H
            have c23b0 : ((x103001_13.length : Int) == 0) = false := beq_eq_false_iff_ne.mpr c23
            have c23b1 : ((x103001_13.length : Int) != 0) = true := bne_iff_ne.mpr c23
            have c23b2 : ¬ (x103001_13 = []) := fun h_ => c23 (by rw [h_]; rfl)
            have H' := Aside0.mk H
            clear H
            have hnb27 := NB102_101.out
            have hnc27 := NB101_102.out
            have hcz28_0 : wc.cell? ⟨gb102, 0, none⟩ = some (.bool x103000_1) := (blk_cell BK102.out 0).trans rfl
            have hcz28_1 : wc.cell? ⟨gb102, 1, none⟩ = some (u103001) := (blk_cell BK102.out 1).trans rfl
            have hcz28_2 : wc.cell? ⟨gb102, 2, none⟩ = some (.int .i64 x103002_1) := (blk_cell BK102.out 2).trans rfl
            have hfz28_0 := blk_frozen BK102.out 0
            have hfz28_1 := blk_frozen BK102.out 1
            have hfz28_2 := blk_frozen BK102.out 2
            obtain ⟨Ao29, co29, eo29⟩ := Kd.R_slice HO_103001.out
            subst eo29
            go_wp2
            go_roundg kj13
            case measure => have := HK1.out; have := HJ8.out; have := HJ13.out; omega
            case rel => exact ⟨(true), (x5_1), (x6_1), (wrap64 (x7_1 + 1)), (x103000_1), (x103001_13), (x103002_1), (.slice Ao29 x103001_13.length co29), (by first | rfl | (simp; done) | (simp [*]; done)), (by first | rfl | (simp; done) | (simp [*]; done)), (by first | rfl | (simp; done) | (simp [*]; done)), (by first | rfl | (simp; done) | (simp [*]; done)), H', ⟨by have := HK1.out; have := HJ8.out; have := HJ13.out; omega⟩, ⟨by apply rq; exact HO_103001.out⟩, ⟨by refine bq ?_; exact BK101.out⟩, ⟨by refine bq ?_; exact BK102.out⟩, ⟨by exact wq HB.out⟩⟩
          ·
           replace c22 := Bool.eq_false_iff.mpr c22
           subst c22
           have H1 : (if (x103001_13.length : Int) > 0 then (dec_read.l0 kj13 a0 false x5_1 x6_1 (wrap64 (x7_1 + 1)) x103000_1 x103001_13 (wrap64 (x103002_1 + 1))) else (dec_read.l0 kj13 a0 false x5_1 x6_1 (wrap64 (x7_1 + 1)) x103000_1 x103001_13 x103002_1)) = some (r1, r2, r3) := by rw [if_neg (show ¬ (false = true) by decide)] at H; exact H
           clear H
           have H := H1
           clear H1
           by_cases c30 : (x103001_13.length : Int) > 0
           ·
            rw [if_pos c30] at H
            have c30b0 : decide (0 < (x103001_13.length : Int)) = true := decide_eq_true c30
            have c30b1 : decide (0 < x103001_13.length) = true := decide_eq_true (by omega)
            clear c30
            have H' := Aside0.mk H
            clear H
            have hnb31 := NB102_101.out
            have hnc31 := NB101_102.out
            have hcz32_0 : wc.cell? ⟨gb102, 0, none⟩ = some (.bool x103000_1) := (blk_cell BK102.out 0).trans rfl
            have hcz32_1 : wc.cell? ⟨gb102, 1, none⟩ = some (u103001) := (blk_cell BK102.out 1).trans rfl
            have hcz32_2 : wc.cell? ⟨gb102, 2, none⟩ = some (.int .i64 x103002_1) := (blk_cell BK102.out 2).trans rfl
            have hfz32_0 := blk_frozen BK102.out 0
            have hfz32_1 := blk_frozen BK102.out 1
            have hfz32_2 := blk_frozen BK102.out 2
            obtain ⟨Ao33, co33, eo33⟩ := Kd.R_slice HO_103001.out
            subst eo33
            go_wp2
            go_roundg kj13
            case measure => have := HK1.out; have := HJ8.out; have := HJ13.out; omega
            case rel => exact ⟨(false), (x5_1), (x6_1), (wrap64 (x7_1 + 1)), (x103000_1), (x103001_13), (wrap64 (x103002_1 + 1)), (.slice Ao33 x103001_13.length co33), (by first | rfl | (simp; done) | (simp [*]; done)), (by first | rfl | (simp; done) | (simp [*]; done)), (by first | rfl | (simp; done) | (simp [*]; done)), (by first | rfl | (simp; done) | (simp [*]; done)), H', ⟨by have := HK1.out; have := HJ8.out; have := HJ13.out; omega⟩, ⟨by apply rq; exact Kd.R_mono (Kd.R_far (p := ⟨gb102, 2, none⟩) (Kd.R_types HO_103001.out BK102.out (by decide)) (fun _ hk => hk.2) (.int .i64 (wrap64 (x103002_1 + 1)))) (fun _ hk => trivial)⟩, ⟨by refine bq ?_; refine blk_far ?_ NB101_102.out _; refine bq ?_; exact BK101.out⟩, ⟨by refine bq ?_; refine blk_put (cs := #[.bool x103000_1, .slice Ao33 x103001_13.length co33, .int .i64 x103002_1]) ?_ 2 _ rfl; refine bq ?_; exact BK102.out⟩, ⟨by exact wq HB.out⟩⟩
           ·
            rw [if_neg c30] at H
            have c30b0 : decide (0 < (x103001_13.length : Int)) = false := decide_eq_false c30
            have c30b1 : decide (0 < x103001_13.length) = false := decide_eq_false (by omega)
            clear c30
            have H' := Aside0.mk H
            clear H
            have hnb34 := NB102_101.out
            have hnc34 := NB101_102.out
            have hcz35_0 : wc.cell? ⟨gb102, 0, none⟩ = some (.bool x103000_1) := (blk_cell BK102.out 0).trans rfl
            have hcz35_1 : wc.cell? ⟨gb102, 1, none⟩ = some (u103001) := (blk_cell BK102.out 1).trans rfl
            have hcz35_2 : wc.cell? ⟨gb102, 2, none⟩ = some (.int .i64 x103002_1) := (blk_cell BK102.out 2).trans rfl
            have hfz35_0 := blk_frozen BK102.out 0
            have hfz35_1 := blk_frozen BK102.out 1
            have hfz35_2 := blk_frozen BK102.out 2
            obtain ⟨Ao36, co36, eo36⟩ := Kd.R_slice HO_103001.out
            subst eo36
            go_wp2
            go_roundg kj13
            case measure => have := HK1.out; have := HJ8.out; have := HJ13.out; omega
            case rel => exact ⟨(false), (x5_1), (x6_1), (wrap64 (x7_1 + 1)), (x103000_1), (x103001_13), (x103002_1), (.slice Ao36 x103001_13.length co36), (by first | rfl | (simp; done) | (simp [*]; done)), (by first | rfl | (simp; done) | (simp [*]; done)), (by first | rfl | (simp; done) | (simp [*]; done)), (by first | rfl | (simp; done) | (simp [*]; done)), H', ⟨by have := HK1.out; have := HJ8.out; have := HJ13.out; omega⟩, ⟨by apply rq; exact HO_103001.out⟩, ⟨by refine bq ?_; exact BK101.out⟩, ⟨by refine bq ?_; exact BK102.out⟩, ⟨by exact wq HB.out⟩⟩
     ·
      rw [if_neg c8] at H
      have c8b0 : (t103 == 0) = false := beq_eq_false_iff_ne.mpr c8
      have c8b1 : (t103 != 0) = true := bne_iff_ne.mpr c8
      by_cases c37 : t103 = 1
      ·
       rw [if_pos c37] at H
       have c37b0 : (t103 == 1) = true := beq_iff_eq.mpr c37
       have c37b1 : (t103 != 1) = false := bne_eq_false_iff_eq.mpr c37
       clear c37
       have H' := Aside0.mk H
       clear H
       have p6 : 0 ≤ (x7_1 : Int) := of_decide_eq_true (by first | (with_reducible assumption) | assumption)
       have q6 : x7_1 < (a0.size : Int) := of_decide_eq_true (by first | (with_reducible assumption) | assumption)
       have hx6 := bt_at a0 x7_1
       replace p6 := eq_true p6
       replace q6 := eq_true q6
       go_wp2_with (first | ((with_reducible refine gate_callee (f := 46) rfl ?_); refine goesL_ (some 19) rfl rfl Tryd.func46 (by kernel_rfl) rfl #[.int .u8 (bt a0 x7_1)] rfl (by (try simp only [List.map_toArray, List.map_cons, List.map_nil]); first | done | rfl | (simp only [List.length_drop, List.length_take]; rfl)) ?_; (with_reducible refine (dec_kind.calls k1 (bt a0 x7_1) t103 _ A7.out).mono ?_); rintro e w' ⟨rfl, ⟨nd, rfl⟩⟩; refine ⟨_, rfl, ?_⟩))
       go_roundg k1
       case measure => have := HK1.out; omega
       case rel => exact ⟨(true), (x5_1), (x6_1), (wrap64 (x7_1 + 1)), (x103000_1), (x103001_1), (x103002_1), (u103001), (by first | rfl | (simp; done) | (simp [*]; done)), (by first | rfl | (simp; done) | (simp [*]; done)), (by first | rfl | (simp; done) | (simp [*]; done)), (by first | rfl | (simp; done) | (simp [*]; done)), H', ⟨by have := HK1.out; omega⟩, ⟨by apply rq; exact HO_103001.out⟩, ⟨by refine bq ?_; exact BK101.out⟩, ⟨by refine bq ?_; exact BK102.out⟩, ⟨by exact wq HB.out⟩⟩
      ·
       rw [if_neg c37] at H
       have c37b0 : (t103 == 1) = false := beq_eq_false_iff_ne.mpr c37
       have c37b1 : (t103 != 1) = true := bne_iff_ne.mpr c37
       by_cases c38 : t103 = 3
       ·
        rw [if_pos c38] at H
        have c38b0 : (t103 == 3) = true := beq_iff_eq.mpr c38
        have c38b1 : (t103 != 3) = false := bne_eq_false_iff_eq.mpr c38
        clear c38
        have H' := Aside0.mk H
        clear H
        have p6 : 0 ≤ (x7_1 : Int) := of_decide_eq_true (by first | (with_reducible assumption) | assumption)
        have q6 : x7_1 < (a0.size : Int) := of_decide_eq_true (by first | (with_reducible assumption) | assumption)
        have hx6 := bt_at a0 x7_1
        replace p6 := eq_true p6
        replace q6 := eq_true q6
        go_wp2_with (first | ((with_reducible refine gate_callee (f := 46) rfl ?_); refine goesL_ (some 19) rfl rfl Tryd.func46 (by kernel_rfl) rfl #[.int .u8 (bt a0 x7_1)] rfl (by (try simp only [List.map_toArray, List.map_cons, List.map_nil]); first | done | rfl | (simp only [List.length_drop, List.length_take]; rfl)) ?_; (with_reducible refine (dec_kind.calls k1 (bt a0 x7_1) t103 _ A7.out).mono ?_); rintro e w' ⟨rfl, ⟨nd, rfl⟩⟩; refine ⟨_, rfl, ?_⟩; (try (rw [drewN_self wr]; generalize hq_ : World.drewN wr _ = wr; have n0_ : Aside0 (Kd.R (Kd.int .u8) 5 wr w.heap.size (fun _ => True) u103001 x103001_1) := ⟨by rw [← hq_]; exact (rq HO_103001.out)⟩; have n1_ : Aside0 (wr.heap[gb101]? = some (.cells #[.bool false, .slice none 0 0, .int .i64 0] 59 (0, 0))) := ⟨by rw [← hq_]; exact (bq BK101.out)⟩; have n2_ : Aside0 (wr.heap[gb102]? = some (.cells #[.bool x103000_1, u103001, .int .i64 x103002_1] 59 (0, 0))) := ⟨by rw [← hq_]; exact (bq BK102.out)⟩; have n3_ : Aside0 (Below w.heap.size w wr) := ⟨by rw [← hq_]; exact (wq HB.out)⟩; clear HO_103001 BK101 BK102 HB hq_; have HO_103001 := n0_; have BK101 := n1_; have BK102 := n2_; have HB := n3_; clear n0_ n1_ n2_ n3_)); have hnb39 := NB102_101.out; have hnc39 := NB101_102.out; have hcz40_0 : wr.cell? ⟨gb102, 0, none⟩ = some (.bool x103000_1) := (blk_cell BK102.out 0).trans rfl; have hcz40_1 : wr.cell? ⟨gb102, 1, none⟩ = some (u103001) := (blk_cell BK102.out 1).trans rfl; have hcz40_2 : wr.cell? ⟨gb102, 2, none⟩ = some (.int .i64 x103002_1) := (blk_cell BK102.out 2).trans rfl; have hfz40_0 := blk_frozen BK102.out 0; have hfz40_1 := blk_frozen BK102.out 1; have hfz40_2 := blk_frozen BK102.out 2))
        go_roundg k1
        case measure => have := HK1.out; omega
        case rel => exact ⟨(x4_1), (x5_1), (x6_1), (wrap64 (x7_1 + 1)), (((bt a0 x7_1) == 45)), (x103001_1), (x103002_1), (u103001), (by first | rfl | (simp; done) | (simp [*]; done)), (by first | rfl | (simp; done) | (simp [*]; done)), (by first | rfl | (simp; done) | (simp [*]; done)), (by first | rfl | (simp; done) | (simp [*]; done)), H', ⟨by have := HK1.out; omega⟩, ⟨by apply rq; exact Kd.R_mono (Kd.R_far (p := ⟨gb102, 0, none⟩) (Kd.R_types HO_103001.out BK102.out (by decide)) (fun _ hk => hk.2) (.bool ((bt a0 x7_1) == 45))) (fun _ hk => trivial)⟩, ⟨by refine bq ?_; refine blk_far ?_ NB101_102.out _; refine bq ?_; exact BK101.out⟩, ⟨by refine bq ?_; refine blk_put (cs := #[.bool x103000_1, u103001, .int .i64 x103002_1]) ?_ 0 _ rfl; refine bq ?_; exact BK102.out⟩, ⟨by exact wq HB.out⟩⟩
       ·
        rw [if_neg c38] at H
        have c38b0 : (t103 == 3) = false := beq_eq_false_iff_ne.mpr c38
        have c38b1 : (t103 != 3) = true := bne_iff_ne.mpr c38
        by_cases c41 : t103 = 2
        ·
         rw [if_pos c41] at H
         have c41b0 : (t103 == 2) = true := beq_iff_eq.mpr c41
         have c41b1 : (t103 != 2) = false := bne_eq_false_iff_eq.mpr c41
         clear c41
         obtain ⟨ji42, hji42⟩ : ∃ j_ : Int, (wrap64 (x7_1 + 1)) = j_ := ⟨_, rfl⟩
         replace H : (if 0 ≤ (ji42) then (if (ji42) < (a0.size : Int) then ((dec_kind.f k1 (bt a0 (ji42))).bind fun t107 => (if t107 = 3 then (dec_read.j3 k1 a0 x4_1 ((bt a0 (ji42)) == 45) x6_1 (wrap64 ((ji42) + 1)) x103000_1 x103001_1 x103002_1) else (dec_read.j3 k1 a0 x4_1 x5_1 x6_1 ji42 x103000_1 x103001_1 x103002_1))) else (none)) else (none)) = some (r1, r2, r3) := by first | (rw [hji42] at H; exact H) | (simp only [hji42] at H ⊢; exact H)
         (try rw [hji42] at A7)
         have hji42w : (IntKind.i64.wrap (x7_1 + 1)) = ji42 := (i64_w _).trans hji42
         by_cases c43 : 0 ≤ (ji42)
         ·
          rw [if_pos c43] at H
          have c43b0 : decide (0 ≤ (ji42)) = true := decide_eq_true c43
          clear c43
          by_cases c44 : (ji42) < (a0.size : Int)
          ·
           rw [if_pos c44] at H
           have c44b0 : decide ((ji42) < (a0.size : Int)) = true := decide_eq_true c44
           clear c44
           replace H := Option.bind_eq_some_iff.mp H
           obtain ⟨t107, A460, H⟩ := H
           replace H : (if t107 = 3 then (dec_read.j3 k1 a0 x4_1 ((bt a0 (ji42)) == 45) x6_1 (wrap64 ((ji42) + 1)) x103000_1 x103001_1 x103002_1) else (dec_read.j3 k1 a0 x4_1 x5_1 x6_1 ji42 x103000_1 x103001_1 x103002_1)) = some (r1, r2, r3) := H
           have A46 := Aside0.mk A460
           clear A460
           have HC47 := Aside0.mk H
           clear H
           have p6 : 0 ≤ (x7_1 : Int) := of_decide_eq_true (by first | (with_reducible assumption) | assumption)
           have q6 : x7_1 < (a0.size : Int) := of_decide_eq_true (by first | (with_reducible assumption) | assumption)
           have hx6 := bt_at a0 x7_1
           replace p6 := eq_true p6
           replace q6 := eq_true q6
           go_upto_if 70 with (first | ((with_reducible refine gate_callee (f := 46) rfl ?_); refine goesL_ (some 19) rfl rfl Tryd.func46 (by kernel_rfl) rfl #[.int .u8 (bt a0 x7_1)] rfl (by (try simp only [List.map_toArray, List.map_cons, List.map_nil]); first | done | rfl | (simp only [List.length_drop, List.length_take]; rfl)) ?_; (with_reducible refine (dec_kind.calls k1 (bt a0 x7_1) t103 _ A7.out).mono ?_); rintro e w' ⟨rfl, ⟨nd, rfl⟩⟩; refine ⟨_, rfl, ?_⟩; have p45 : 0 ≤ ((ji42) : Int) := of_decide_eq_true (by first | (with_reducible assumption) | assumption); have q45 : (ji42) < (a0.size : Int) := of_decide_eq_true (by first | (with_reducible assumption) | assumption); have hx45 := bt_at a0 (ji42); replace p45 := eq_true p45; replace q45 := eq_true q45) | ((with_reducible refine gate_callee (f := 46) rfl ?_); refine goesL_ (some 69) rfl rfl Tryd.func46 (by kernel_rfl) rfl #[.int .u8 (bt a0 (ji42))] rfl (by (try simp only [List.map_toArray, List.map_cons, List.map_nil]); first | done | (simp only [hji42]; rfl) | rfl | (simp only [List.length_drop, List.length_take]; rfl)) ?_; (with_reducible refine (dec_kind.calls k1 (bt a0 (ji42)) t107 _ A46.out).mono ?_); rintro e w' ⟨rfl, ⟨nd, rfl⟩⟩; refine ⟨_, rfl, ?_⟩))
           (try simp only [apz])
           go_cut [5, 7] (fun v5 v7 wc => ∃ (kq : Nat) (x5_46 : Bool) (x7_46 : Int), v5 = .bool x5_46 ∧ v7 = .int .i64 x7_46 ∧ Aside0 (dec_read.j3 kq a0 x4_1 x5_46 x6_1 x7_46 x103000_1 x103001_1 x103002_1 = some (r1, r2, r3)) ∧ Aside0 (kq ≤ k1) ∧ Aside0 (Kd.R (Kd.int .u8) 5 wc w.heap.size (fun _ => True) u103001 x103001_1) ∧ Aside0 (wc.heap[gb101]? = some (.cells #[.bool false, (.slice none 0 0), .int .i64 0] 59 (0, 0))) ∧ Aside0 (wc.heap[gb102]? = some (.cells #[.bool x103000_1, u103001, .int .i64 x103002_1] 59 (0, 0))) ∧ Aside0 (Below w.heap.size w wc))
           case first =>
            have H := HC47.out
            clear HC47
            by_cases c48 : t107 = 3
            ·
             rw [if_pos c48] at H
             have c48b0 : (t107 == 3) = true := beq_iff_eq.mpr c48
             have c48b1 : (t107 != 3) = false := bne_eq_false_iff_eq.mpr c48
             clear c48
             (first | rw [c48b0] | (simp only [i64_w, i32_w]; rw [c48b0]) | skip)
             have H' := Aside0.mk H
             clear H
             have p49 : 0 ≤ ((ji42) : Int) := of_decide_eq_true (by first | (with_reducible assumption) | assumption)
             have q49 : (ji42) < (a0.size : Int) := of_decide_eq_true (by first | (with_reducible assumption) | assumption)
             have hx49 := bt_at a0 (ji42)
             replace p49 := eq_true p49
             replace q49 := eq_true q49
             go_wp2
             go_meet
             case rel => exact ⟨_, (((bt a0 (ji42)) == 45)), (wrap64 ((ji42) + 1)), (by first | rfl | (simp; done) | (simp only [← hji42] <;> (first | rfl | simp)) | (simp [*]; done)), (by first | rfl | (simp; done) | (simp only [← hji42] <;> (first | rfl | simp)) | (simp [*]; done)), H', ⟨by have := HK1.out; first | omega | exact Nat.le_refl _⟩, ⟨by apply rq; exact HO_103001.out⟩, ⟨by refine bq ?_; exact BK101.out⟩, ⟨by refine bq ?_; exact BK102.out⟩, ⟨by exact wq HB.out⟩⟩
            ·
             rw [if_neg c48] at H
             have c48b0 : (t107 == 3) = false := beq_eq_false_iff_ne.mpr c48
             have c48b1 : (t107 != 3) = true := bne_iff_ne.mpr c48
             (first | rw [c48b0] | (simp only [i64_w, i32_w]; rw [c48b0]) | skip)
             have H' := Aside0.mk H
             clear H
             go_wp2
             go_meet
             case rel => exact ⟨_, (x5_1), (ji42), (by first | rfl | (simp; done) | (simp [*]; done)), (by first | rfl | (simp; done) | (simp only [← hji42] <;> (first | rfl | simp)) | (simp [*]; done)), H', ⟨by have := HK1.out; first | omega | exact Nat.le_refl _⟩, ⟨by apply rq; exact HO_103001.out⟩, ⟨by refine bq ?_; exact BK101.out⟩, ⟨by refine bq ?_; exact BK102.out⟩, ⟨by exact wq HB.out⟩⟩
           case rest =>
            clear HC47
            try clear c1
            try clear c2
            try clear p2
            try clear c3
            try clear c4
            try clear c4b0
            try clear p4
            try clear q4
            try clear hx4
            try clear c5
            try clear c5b0
            try clear p6
            try clear q6
            try clear hx6
            try clear c8
            try clear c8b0
            try clear c8b1
            try clear c10
            try clear c10b0
            try clear c10b1
            try clear c11
            try clear c15
            try clear c16
            try clear c17
            try clear c22
            try clear c23
            try clear c23b0
            try clear c23b1
            try clear c23b2
            try clear c24
            try clear c27
            try clear c30
            try clear c30b0
            try clear c30b1
            try clear c31
            try clear c32
            try clear c34
            try clear c37
            try clear c37b0
            try clear c37b1
            try clear c38
            try clear c38b0
            try clear c38b1
            try clear c39
            try clear c41
            try clear c41b0
            try clear c41b1
            try clear c43
            try clear c43b0
            try clear c44
            try clear c44b0
            try clear p45
            try clear q45
            try clear hx45
            try clear c46
            try clear c48
            try clear c48b0
            try clear c48b1
            try clear p49
            try clear q49
            try clear hx49
            try clear hcz12_0
            try clear hcz12_1
            try clear hcz12_2
            try clear hcz18_0
            try clear hcz18_1
            try clear hcz18_2
            try clear hcz21_0
            try clear hcz21_1
            try clear hcz21_2
            try clear hcz25_0
            try clear hcz25_1
            try clear hcz25_2
            try clear hcz28_0
            try clear hcz28_1
            try clear hcz28_2
            try clear hcz32_0
            try clear hcz32_1
            try clear hcz32_2
            try clear hcz35_0
            try clear hcz35_1
            try clear hcz35_2
            try clear hcz40_0
            try clear hcz40_1
            try clear hcz40_2
            try clear hfz12_0
            try clear hfz12_1
            try clear hfz12_2
            try clear hfz18_0
            try clear hfz18_1
            try clear hfz18_2
            try clear hfz21_0
            try clear hfz21_1
            try clear hfz21_2
            try clear hfz25_0
            try clear hfz25_1
            try clear hfz25_2
            try clear hfz28_0
            try clear hfz28_1
            try clear hfz28_2
            try clear hfz32_0
            try clear hfz32_1
            try clear hfz32_2
            try clear hfz35_0
            try clear hfz35_1
            try clear hfz35_2
            try clear hfz40_0
            try clear hfz40_1
            try clear hfz40_2
            try clear p2
            try clear p45
            try clear p49
            try clear p6
            try clear q45
            try clear q49
            try clear q6
            obtain ⟨kq, x5_46, x7_46, rfl, rfl, HA, HJ46, HO_103001, BK101, BK102, HB⟩ := hcut
            cases kq with
            | zero => exact absurd HA.out (by simp [dec_read.j3])
            | succ kj46 =>
             have H := HA.out
             clear HA
             simp only [dec_read.j3] at H
             have H' := Aside0.mk H
             clear H
             go_wp2
             go_loopg [6, 7] kj46 (fun kq v6 v7 w' => ∃ (x6_3 : Int) (x7_3 : Int), v6 = .int .i64 x6_3 ∧ v7 = .int .i64 x7_3 ∧ Aside0 (dec_read.l1 kq a0 x4_1 x5_46 x6_3 x7_3 x103000_1 x103001_1 x103002_1 = some (r1, r2, r3)) ∧ Aside0 (kq ≤ kj46) ∧ Aside0 (Kd.R (Kd.int .u8) 5 w' w.heap.size (fun _ => True) u103001 x103001_1) ∧ Aside0 (w'.heap[gb101]? = some (.cells #[.bool false, (.slice none 0 0), .int .i64 0] 59 (0, 0))) ∧ Aside0 (w'.heap[gb102]? = some (.cells #[.bool x103000_1, u103001, .int .i64 x103002_1] 59 (0, 0))) ∧ Aside0 (Below w.heap.size w w'))
             case atStart => exact ⟨(x6_1), (x7_46), (by first | rfl | (simp; done) | (simp [*]; done)), (by first | rfl | (simp; done) | (simp [*]; done)), H', ⟨Nat.le_refl _⟩, ⟨by apply rq; exact HO_103001.out⟩, ⟨by refine bq ?_; exact BK101.out⟩, ⟨by refine bq ?_; exact BK102.out⟩, ⟨by exact wq HB.out⟩⟩
             case round =>
              clear H'
              try clear c1
              try clear c2
              try clear p2
              try clear c3
              try clear c4
              try clear c4b0
              try clear p4
              try clear q4
              try clear hx4
              try clear c5
              try clear c5b0
              try clear p6
              try clear q6
              try clear hx6
              try clear c8
              try clear c8b0
              try clear c8b1
              try clear c10
              try clear c10b0
              try clear c10b1
              try clear c11
              try clear c15
              try clear c16
              try clear c17
              try clear c22
              try clear c23
              try clear c23b0
              try clear c23b1
              try clear c23b2
              try clear c24
              try clear c27
              try clear c30
              try clear c30b0
              try clear c30b1
              try clear c31
              try clear c32
              try clear c34
              try clear c37
              try clear c37b0
              try clear c37b1
              try clear c38
              try clear c38b0
              try clear c38b1
              try clear c39
              try clear c41
              try clear c41b0
              try clear c41b1
              try clear c43
              try clear c43b0
              try clear c44
              try clear c44b0
              try clear p45
              try clear q45
              try clear hx45
              try clear c46
              try clear c48
              try clear c48b0
              try clear c48b1
              try clear p49
              try clear q49
              try clear hx49
              try clear hcz12_0
              try clear hcz12_1
              try clear hcz12_2
              try clear hcz18_0
              try clear hcz18_1
              try clear hcz18_2
              try clear hcz21_0
              try clear hcz21_1
              try clear hcz21_2
              try clear hcz25_0
              try clear hcz25_1
              try clear hcz25_2
              try clear hcz28_0
              try clear hcz28_1
              try clear hcz28_2
              try clear hcz32_0
              try clear hcz32_1
              try clear hcz32_2
              try clear hcz35_0
              try clear hcz35_1
              try clear hcz35_2
              try clear hcz40_0
              try clear hcz40_1
              try clear hcz40_2
              try clear hfz12_0
              try clear hfz12_1
              try clear hfz12_2
              try clear hfz18_0
              try clear hfz18_1
              try clear hfz18_2
              try clear hfz21_0
              try clear hfz21_1
              try clear hfz21_2
              try clear hfz25_0
              try clear hfz25_1
              try clear hfz25_2
              try clear hfz28_0
              try clear hfz28_1
              try clear hfz28_2
              try clear hfz32_0
              try clear hfz32_1
              try clear hfz32_2
              try clear hfz35_0
              try clear hfz35_1
              try clear hfz35_2
              try clear hfz40_0
              try clear hfz40_1
              try clear hfz40_2
              try clear p2
              try clear p4
              try clear p45
              try clear p49
              try clear p6
              try clear q4
              try clear q45
              try clear q49
              try clear q6
              obtain ⟨x6_3, x7_3, rfl, rfl, HA, HK3, HO_103001, BK101, BK102, HB⟩ := hrel
              cases gk with
              | zero => exact absurd HA.out (by simp [dec_read.l1])
              | succ k3 =>
               have H := HA.out
               clear HA
               simp only [dec_read.l1] at H
               by_cases c50 : x7_3 < (a0.size : Int)
               ·
                rw [if_pos c50] at H
                have c50b0 : decide (x7_3 < (a0.size : Int)) = true := decide_eq_true c50
                clear c50
                by_cases c51 : 0 ≤ x7_3
                ·
                 rw [if_pos c51] at H
                 have c51b0 : decide (0 ≤ x7_3) = true := decide_eq_true c51
                 clear c51
                 obtain ⟨ji53, hji53⟩ : ∃ j_ : Int, (mn (wrap64 ((wrap64 (10 * x6_3)) + (((bt a0 x7_3) - 48) % 256))) 1099511627776) = j_ := ⟨_, rfl⟩
                 replace H : (dec_read.l1 k3 a0 x4_1 x5_46 ji53 (wrap64 (x7_3 + 1)) x103000_1 x103001_1 x103002_1) = some (r1, r2, r3) := by first | (rw [hji53] at H; exact H) | (simp only [hji53] at H ⊢; exact H)
                 have hji53_ : (if 1099511627776 < (wrap64 ((wrap64 (10 * x6_3)) + (((bt a0 x7_3) - 48) % 256))) then 1099511627776 else (wrap64 ((wrap64 (10 * x6_3)) + (((bt a0 x7_3) - 48) % 256)))) = ji53 := hji53
                 have H' := Aside0.mk H
                 clear H
                 have p52 : 0 ≤ (x7_3 : Int) := of_decide_eq_true (by first | (with_reducible assumption) | assumption)
                 have q52 : x7_3 < (a0.size : Int) := of_decide_eq_true (by first | (with_reducible assumption) | assumption)
                 have hx52 := bt_at a0 x7_3
                 replace p52 := eq_true p52
                 replace q52 := eq_true q52
                 go_wp2
                 go_roundg k3
                 case measure => have := HK1.out; have := HJ46.out; have := HK3.out; omega
                 case rel => exact ⟨(ji53), (wrap64 (x7_3 + 1)), (by first | rfl | (simp; done) | (simp only [← hji53] <;> (first | rfl | simp)) | (simp [*]; done)), (by first | rfl | (simp; done) | (simp [*]; done)), H', ⟨by have := HK1.out; have := HJ46.out; have := HK3.out; omega⟩, ⟨by apply rq; exact HO_103001.out⟩, ⟨by refine bq ?_; exact BK101.out⟩, ⟨by refine bq ?_; exact BK102.out⟩, ⟨by exact wq HB.out⟩⟩
                ·
                 rw [if_neg c51] at H
                 exact absurd H (by simp)
               ·
                rw [if_neg c50] at H
                have c50b0 : decide (x7_3 < (a0.size : Int)) = false := decide_eq_false c50
                clear c50
                have H' := Aside0.mk H
                clear H
                go_wp2
                go_roundg k3
                case measure => have := HK1.out; have := HJ46.out; have := HK3.out; omega
                case rel => exact ⟨(x4_1), (x5_46), (x6_3), (wrap64 (x7_3 + 1)), (x103000_1), (x103001_1), (x103002_1), (u103001), (by first | rfl | (simp; done) | (simp [*]; done)), (by first | rfl | (simp; done) | (simp [*]; done)), (by first | rfl | (simp; done) | (simp [*]; done)), (by first | rfl | (simp; done) | (simp [*]; done)), H', ⟨by have := HK1.out; have := HJ46.out; have := HK3.out; omega⟩, ⟨by apply rq; exact HO_103001.out⟩, ⟨by refine bq ?_; exact BK101.out⟩, ⟨by refine bq ?_; exact BK102.out⟩, ⟨by exact wq HB.out⟩⟩
          ·
           rw [if_neg c44] at H
           exact absurd H (by simp)
         ·
          rw [if_neg c43] at H
          exact absurd H (by simp)
        ·
         rw [if_neg c41] at H
         have c41b0 : (t103 == 2) = false := beq_eq_false_iff_ne.mpr c41
         have c41b1 : (t103 != 2) = true := bne_iff_ne.mpr c41
         have H' := Aside0.mk H
         clear H
         have p6 : 0 ≤ (x7_1 : Int) := of_decide_eq_true (by first | (with_reducible assumption) | assumption)
         have q6 : x7_1 < (a0.size : Int) := of_decide_eq_true (by first | (with_reducible assumption) | assumption)
         have hx6 := bt_at a0 x7_1
         replace p6 := eq_true p6
         replace q6 := eq_true q6
         go_wp2_with (first | ((with_reducible refine gate_callee (f := 46) rfl ?_); refine goesL_ (some 19) rfl rfl Tryd.func46 (by kernel_rfl) rfl #[.int .u8 (bt a0 x7_1)] rfl (by (try simp only [List.map_toArray, List.map_cons, List.map_nil]); first | done | rfl | (simp only [List.length_drop, List.length_take]; rfl)) ?_; (with_reducible refine (dec_kind.calls k1 (bt a0 x7_1) t103 _ A7.out).mono ?_); rintro e w' ⟨rfl, ⟨nd, rfl⟩⟩; refine ⟨_, rfl, ?_⟩))
         go_roundg k1
         case measure => have := HK1.out; omega
         case rel => exact ⟨(x4_1), (x5_1), (x6_1), (wrap64 (x7_1 + 1)), (x103000_1), (x103001_1), (x103002_1), (u103001), (by first | rfl | (simp; done) | (simp [*]; done)), (by first | rfl | (simp; done) | (simp [*]; done)), (by first | rfl | (simp; done) | (simp [*]; done)), (by first | rfl | (simp; done) | (simp [*]; done)), H', ⟨by have := HK1.out; omega⟩, ⟨by apply rq; exact HO_103001.out⟩, ⟨by refine bq ?_; exact BK101.out⟩, ⟨by refine bq ?_; exact BK102.out⟩, ⟨by exact wq HB.out⟩⟩
    ·
     rw [if_neg c5] at H
     exact absurd H (by simp)
   ·
    rw [if_neg c4] at H
    have c4b0 : decide (x7_1 < (a0.size : Int)) = false := decide_eq_false c4
    clear c4
    have H' := Aside0.mk H
    clear H
    go_wp2
    go_loopg [] k1 (fun kq w' => ∃ (x103001_2 : List Int) (u103001 : Value), Aside0 (dec_read.l2 kq x5_1 x6_1 x103000_1 x103001_2 x103002_1 = some (r1, r2, r3)) ∧ Aside0 (kq ≤ k1) ∧ Aside0 (Kd.R (Kd.int .u8) 5 w' w.heap.size (fun _ => True) u103001 x103001_2) ∧ Aside0 (w'.heap[gb101]? = some (.cells #[.bool false, (.slice none 0 0), .int .i64 0] 59 (0, 0))) ∧ Aside0 (w'.heap[gb102]? = some (.cells #[.bool x103000_1, u103001, .int .i64 x103002_1] 59 (0, 0))) ∧ Aside0 (Below w.heap.size w w'))
    case atStart => exact ⟨(x103001_1), (u103001), H', ⟨Nat.le_refl _⟩, ⟨by apply rq; exact HO_103001.out⟩, ⟨by refine bq ?_; exact BK101.out⟩, ⟨by refine bq ?_; exact BK102.out⟩, ⟨by exact wq HB.out⟩⟩
    case round =>
     clear H'
     try clear c1
     try clear c2
     try clear p2
     try clear c3
     try clear c4
     try clear c4b0
     try clear p4
     try clear q4
     try clear hx4
     try clear c5
     try clear c5b0
     try clear p5
     try clear q5
     try clear hx5
     try clear p6
     try clear q6
     try clear hx6
     try clear c8
     try clear c8b0
     try clear c8b1
     try clear c10
     try clear c10b0
     try clear c10b1
     try clear c11
     try clear c15
     try clear c16
     try clear c17
     try clear c22
     try clear c23
     try clear c23b0
     try clear c23b1
     try clear c23b2
     try clear c24
     try clear c27
     try clear c30
     try clear c30b0
     try clear c30b1
     try clear c31
     try clear c32
     try clear c34
     try clear c37
     try clear c37b0
     try clear c37b1
     try clear c38
     try clear c38b0
     try clear c38b1
     try clear c39
     try clear c41
     try clear c41b0
     try clear c41b1
     try clear c43
     try clear c43b0
     try clear c44
     try clear c44b0
     try clear p45
     try clear q45
     try clear hx45
     try clear c46
     try clear c48
     try clear c48b0
     try clear c48b1
     try clear p49
     try clear q49
     try clear hx49
     try clear c50
     try clear c50b0
     try clear c51
     try clear c51b0
     try clear p52
     try clear q52
     try clear hx52
     try clear hcz12_0
     try clear hcz12_1
     try clear hcz12_2
     try clear hcz18_0
     try clear hcz18_1
     try clear hcz18_2
     try clear hcz21_0
     try clear hcz21_1
     try clear hcz21_2
     try clear hcz25_0
     try clear hcz25_1
     try clear hcz25_2
     try clear hcz28_0
     try clear hcz28_1
     try clear hcz28_2
     try clear hcz32_0
     try clear hcz32_1
     try clear hcz32_2
     try clear hcz35_0
     try clear hcz35_1
     try clear hcz35_2
     try clear hcz40_0
     try clear hcz40_1
     try clear hcz40_2
     try clear hfz12_0
     try clear hfz12_1
     try clear hfz12_2
     try clear hfz18_0
     try clear hfz18_1
     try clear hfz18_2
     try clear hfz21_0
     try clear hfz21_1
     try clear hfz21_2
     try clear hfz25_0
     try clear hfz25_1
     try clear hfz25_2
     try clear hfz28_0
     try clear hfz28_1
     try clear hfz28_2
     try clear hfz32_0
     try clear hfz32_1
     try clear hfz32_2
     try clear hfz35_0
     try clear hfz35_1
     try clear hfz35_2
     try clear hfz40_0
     try clear hfz40_1
     try clear hfz40_2
     try clear p2
     try clear p4
     try clear p45
     try clear p49
     try clear p52
     try clear p6
     try clear q4
     try clear q45
     try clear q49
     try clear q52
     try clear q6
     obtain ⟨x103001_2, u103001, HA, HK2, HO_103001, BK101, BK102, HB⟩ := hrel
     cases gk with
     | zero => exact absurd HA.out (by simp [dec_read.l2])
     | succ k2 =>
      have H := HA.out
      clear HA
      simp only [dec_read.l2] at H
      by_cases c54 : (x103001_2.length : Int) > 0
      ·
       rw [if_pos c54] at H
       have c54b0 : decide (0 < (x103001_2.length : Int)) = true := decide_eq_true c54
       have c54b1 : decide (0 < x103001_2.length) = true := decide_eq_true (by omega)
       clear c54
       obtain ⟨ji55, hji55⟩ : ∃ j_ : Int, (wrap64 ((x103001_2.length : Int) - 1)) = j_ := ⟨_, rfl⟩
       replace H : (if 0 ≤ (ji55) then (if (ji55) < (x103001_2.length : Int) then (if (rd x103001_2 (ji55)) = 0 then (if (ji55) ≤ (x103001_2.length : Int) then (dec_read.l2 k2 x5_1 x6_1 x103000_1 (x103001_2.take ((ji55) : Int).toNat) x103002_1) else (none)) else (if x5_1 = true then (some (x103000_1, x103001_2, wrap64 (x103002_1 + (wrap64 (-x6_1))))) else (some (x103000_1, x103001_2, wrap64 (x103002_1 + x6_1))))) else (none)) else (none)) = some (r1, r2, r3) := by first | (rw [hji55] at H; exact H) | (simp only [hji55] at H ⊢; exact H)
       have hji55w : (IntKind.i64.wrap ((x103001_2.length : Int) - 1)) = ji55 := (i64_w _).trans hji55
       by_cases c56 : 0 ≤ (ji55)
       ·
        rw [if_pos c56] at H
        have c56b0 : decide (0 ≤ (ji55)) = true := decide_eq_true c56
        clear c56
        by_cases c57 : (ji55) < (x103001_2.length : Int)
        ·
         rw [if_pos c57] at H
         have c57b0 : decide ((ji55) < (x103001_2.length : Int)) = true := decide_eq_true c57
         clear c57
         by_cases c58 : (rd x103001_2 (ji55)) = 0
         ·
          rw [if_pos c58] at H
          have c58b0 : ((rd x103001_2 (ji55)) == 0) = true := beq_iff_eq.mpr c58
          have c58b1 : ((rd x103001_2 (ji55)) != 0) = false := bne_eq_false_iff_eq.mpr c58
          clear c58
          by_cases c59 : (ji55) ≤ (x103001_2.length : Int)
          ·
           rw [if_pos c59] at H
           have c59b0 := eq_true c59
           have c59b1 : decide ((ji55) ≤ (x103001_2.length : Int)) = true := decide_eq_true c59
           clear c59
           obtain ⟨y109, hy109⟩ : ∃ y_ : List Int, y_ = (x103001_2.take ((ji55) : Int).toNat) := ⟨_, rfl⟩
           replace H : (dec_read.l2 k2 x5_1 x6_1 x103000_1 y109 x103002_1) = some (r1, r2, r3) := by first | (rw [hy109]; with_reducible exact H) | (have H2_ := (Option.bind_some _ _).symm.trans H; rw [hy109]; with_reducible exact H2_) | (have H2_ := (Option.bind_some _ _).symm.trans H; with_reducible exact H2_) | with_reducible exact H | (rw [hy109]; exact H) | exact H
           have Ny109 := Aside0.mk hy109
           clear hy109
           have H' := Aside0.mk H
           clear H
           have hnb60 := NB102_101.out
           have hnc60 := NB101_102.out
           have hcz61_0 : wr.cell? ⟨gb102, 0, none⟩ = some (.bool x103000_1) := (blk_cell BK102.out 0).trans rfl
           have hcz61_1 : wr.cell? ⟨gb102, 1, none⟩ = some (u103001) := (blk_cell BK102.out 1).trans rfl
           have hcz61_2 : wr.cell? ⟨gb102, 2, none⟩ = some (.int .i64 x103002_1) := (blk_cell BK102.out 2).trans rfl
           have hfz61_0 := blk_frozen BK102.out 0
           have hfz61_1 := blk_frozen BK102.out 1
           have hfz61_2 := blk_frozen BK102.out 2
           obtain ⟨Ao62, co62, eo62⟩ := Kd.R_slice HO_103001.out
           subst eo62
           have p108 : 0 ≤ ((ji55) : Int) := of_decide_eq_true (by first | (with_reducible assumption) | assumption)
           have q108 : (ji55) < (x103001_2.length : Int) := of_decide_eq_true (by first | (with_reducible assumption) | assumption)
           obtain ⟨ad108, e108, hx108_0⟩ := Kd.at_int (Kd.R_reads' HO_103001.out).2.2 (ji55) p108 q108
           cases e108
           replace p108 := eq_true p108
           replace q108 := eq_true q108
           have q63 : ((ji55) : Int) ≤ ((x103001_2.length : Int) : Int) := of_decide_eq_true (by first | (with_reducible assumption) | assumption)
           obtain ⟨i063, hi063, _, hsz63, _⟩ := info_parts info5
           have hcut63 := cut_to (P := Tryd.prog) 36 5 .i64 Tryd.underlying36 hi063 (some ad108) x103001_2.length co62 (ji55) (of_decide_eq_true (by first | (with_reducible assumption) | assumption)) q63 (Kd.R_reads' HO_103001.out).2.1
           have hr63 := Kd.R_take (m := ((ji55) : Int).toNat) HO_103001.out (by omega)
           have hy63 : y109.length = ((ji55) : Int).toNat := (by rw [Ny109.out, List.length_take]; omega)
           rw [← Ny109.out] at hr63
           rw [← hy63] at hr63 hcut63
           clear hy63 hi063 hsz63 HO_103001
           have HO111 := Aside0.mk hr63
           clear hr63
           replace q63 := eq_true q63
           go_wp2
           go_roundg k2
           case measure => have := HK1.out; have := HK2.out; omega
           case rel => exact ⟨(y109), (.slice (some ad108) y109.length co62), H', ⟨by have := HK1.out; have := HK2.out; omega⟩, ⟨by apply rq; exact Kd.R_mono (Kd.R_far (p := ⟨gb102, 1, none⟩) (Kd.R_types HO111.out BK102.out (by decide)) (fun _ hk => hk.2) (.slice (some ad108) y109.length co62)) (fun _ hk => trivial)⟩, ⟨by refine bq ?_; refine blk_far ?_ NB101_102.out _; refine bq ?_; exact BK101.out⟩, ⟨by refine bq ?_; refine blk_put (cs := #[.bool x103000_1, .slice (some ad108) x103001_2.length co62, .int .i64 x103002_1]) ?_ 1 _ rfl; refine bq ?_; exact BK102.out⟩, ⟨by exact wq HB.out⟩⟩
          ·
           rw [if_neg c59] at H
           exact absurd H (by simp)
         ·
          rw [if_neg c58] at H
          have c58b0 : ((rd x103001_2 (ji55)) == 0) = false := beq_eq_false_iff_ne.mpr c58
          have c58b1 : ((rd x103001_2 (ji55)) != 0) = true := bne_iff_ne.mpr c58
          by_cases c64 : x5_1 = true
          ·
           subst c64
           have H1 : (some (x103000_1, x103001_2, wrap64 (x103002_1 + (wrap64 (-x6_1))))) = some (r1, r2, r3) := by rw [if_pos rfl] at H; exact H
           clear H
           have H := H1
           clear H1
           simp only [Option.some.injEq, Prod.mk.injEq] at H
           obtain ⟨rfl, rfl, rfl⟩ := H
           have hnb65 := NB102_101.out
           have hnc65 := NB101_102.out
           have hcz66_0 : wr.cell? ⟨gb102, 0, none⟩ = some (.bool x103000_1) := (blk_cell BK102.out 0).trans rfl
           have hcz66_1 : wr.cell? ⟨gb102, 1, none⟩ = some (u103001) := (blk_cell BK102.out 1).trans rfl
           have hcz66_2 : wr.cell? ⟨gb102, 2, none⟩ = some (.int .i64 x103002_1) := (blk_cell BK102.out 2).trans rfl
           have hfz66_0 := blk_frozen BK102.out 0
           have hfz66_1 := blk_frozen BK102.out 1
           have hfz66_2 := blk_frozen BK102.out 2
           obtain ⟨Ao67, co67, eo67⟩ := Kd.R_slice HO_103001.out
           subst eo67
           have p108 : 0 ≤ ((ji55) : Int) := of_decide_eq_true (by first | (with_reducible assumption) | assumption)
           have q108 : (ji55) < (x103001_2.length : Int) := of_decide_eq_true (by first | (with_reducible assumption) | assumption)
           obtain ⟨ad108, e108, hx108_0⟩ := Kd.at_int (Kd.R_reads' HO_103001.out).2.2 (ji55) p108 q108
           cases e108
           replace p108 := eq_true p108
           replace q108 := eq_true q108
           have hcz68_0 : wr.cell? ⟨gb101, 0, none⟩ = some (.bool false) := (blk_cell BK101.out 0).trans rfl
           have hcz68_1 : wr.cell? ⟨gb101, 1, none⟩ = some (.slice none 0 0) := (blk_cell BK101.out 1).trans rfl
           have hcz68_2 : wr.cell? ⟨gb101, 2, none⟩ = some (.int .i64 0) := (blk_cell BK101.out 2).trans rfl
           have hfz68_0 := blk_frozen BK101.out 0
           have hfz68_1 := blk_frozen BK101.out 1
           have hfz68_2 := blk_frozen BK101.out 2
           go_wp2
           refine bodyPost_ret (results_cell_row rfl _ _ gb101 59 #[.bool x103000_1, .slice (some ad108) x103001_2.length co67, .int .i64 (wrap64 (x103002_1 + (wrap64 (-x6_1))))] (0, 0) _ rfl (by refine bq ?_; refine blk_put (cs := #[.bool x103000_1, .slice (some ad108) x103001_2.length co67, .int .i64 0]) ?_ 2 _ rfl; refine bq ?_; refine blk_put (cs := #[.bool x103000_1, .slice none 0 0, .int .i64 0]) ?_ 1 _ rfl; refine bq ?_; refine blk_put (cs := #[.bool false, .slice none 0 0, .int .i64 0]) ?_ 0 _ rfl; refine bq ?_; refine blk_far ?_ NB101_102.out _; refine bq ?_; exact BK101.out) Tryd.underlying59 rfl (by kernel_rfl)) rfl ?_
           exact ⟨_, by first | rfl | (simp [errW_none, errW_some] <;> rfl) | (simp only [← hji55]; first | rfl | (simp [errW_none, errW_some] <;> rfl)) | (simp [*, errW_none, errW_some] <;> rfl), by apply rq; exact Kd.R_mono (Kd.R_far (p := ⟨gb101, 2, none⟩) (Kd.R_far (p := ⟨gb101, 1, none⟩) (Kd.R_far (p := ⟨gb101, 0, none⟩) (Kd.R_far (p := ⟨gb102, 2, none⟩) (Kd.R_types (Kd.R_types HO_103001.out BK102.out (by decide)) BK101.out (by decide)) (fun _ hk => hk.1.2) (.int .i64 (wrap64 (x103002_1 + (wrap64 (-x6_1)))))) (fun _ hk => hk.2) (.bool x103000_1)) (fun _ hk => hk.2) (.slice (some ad108) x103001_2.length co67)) (fun _ hk => hk.2) (.int .i64 (wrap64 (x103002_1 + (wrap64 (-x6_1)))))) (fun _ hk => trivial), by exact wq HB.out⟩
          ·
           replace c64 := Bool.eq_false_iff.mpr c64
           subst c64
           have H1 : (some (x103000_1, x103001_2, wrap64 (x103002_1 + x6_1))) = some (r1, r2, r3) := by rw [if_neg (show ¬ (false = true) by decide)] at H; exact H
           clear H
           have H := H1
           clear H1
           simp only [Option.some.injEq, Prod.mk.injEq] at H
           obtain ⟨rfl, rfl, rfl⟩ := H
           have hnb69 := NB102_101.out
           have hnc69 := NB101_102.out
           have hcz70_0 : wr.cell? ⟨gb102, 0, none⟩ = some (.bool x103000_1) := (blk_cell BK102.out 0).trans rfl
           have hcz70_1 : wr.cell? ⟨gb102, 1, none⟩ = some (u103001) := (blk_cell BK102.out 1).trans rfl
           have hcz70_2 : wr.cell? ⟨gb102, 2, none⟩ = some (.int .i64 x103002_1) := (blk_cell BK102.out 2).trans rfl
           have hfz70_0 := blk_frozen BK102.out 0
           have hfz70_1 := blk_frozen BK102.out 1
           have hfz70_2 := blk_frozen BK102.out 2
           obtain ⟨Ao71, co71, eo71⟩ := Kd.R_slice HO_103001.out
           subst eo71
           have p108 : 0 ≤ ((ji55) : Int) := of_decide_eq_true (by first | (with_reducible assumption) | assumption)
           have q108 : (ji55) < (x103001_2.length : Int) := of_decide_eq_true (by first | (with_reducible assumption) | assumption)
           obtain ⟨ad108, e108, hx108_0⟩ := Kd.at_int (Kd.R_reads' HO_103001.out).2.2 (ji55) p108 q108
           cases e108
           replace p108 := eq_true p108
           replace q108 := eq_true q108
           have hcz72_0 : wr.cell? ⟨gb101, 0, none⟩ = some (.bool false) := (blk_cell BK101.out 0).trans rfl
           have hcz72_1 : wr.cell? ⟨gb101, 1, none⟩ = some (.slice none 0 0) := (blk_cell BK101.out 1).trans rfl
           have hcz72_2 : wr.cell? ⟨gb101, 2, none⟩ = some (.int .i64 0) := (blk_cell BK101.out 2).trans rfl
           have hfz72_0 := blk_frozen BK101.out 0
           have hfz72_1 := blk_frozen BK101.out 1
           have hfz72_2 := blk_frozen BK101.out 2
           go_wp2
           refine bodyPost_ret (results_cell_row rfl _ _ gb101 59 #[.bool x103000_1, .slice (some ad108) x103001_2.length co71, .int .i64 (wrap64 (x103002_1 + x6_1))] (0, 0) _ rfl (by refine bq ?_; refine blk_put (cs := #[.bool x103000_1, .slice (some ad108) x103001_2.length co71, .int .i64 0]) ?_ 2 _ rfl; refine bq ?_; refine blk_put (cs := #[.bool x103000_1, .slice none 0 0, .int .i64 0]) ?_ 1 _ rfl; refine bq ?_; refine blk_put (cs := #[.bool false, .slice none 0 0, .int .i64 0]) ?_ 0 _ rfl; refine bq ?_; refine blk_far ?_ NB101_102.out _; refine bq ?_; exact BK101.out) Tryd.underlying59 rfl (by kernel_rfl)) rfl ?_
           exact ⟨_, by first | rfl | (simp [errW_none, errW_some] <;> rfl) | (simp only [← hji55]; first | rfl | (simp [errW_none, errW_some] <;> rfl)) | (simp [*, errW_none, errW_some] <;> rfl), by apply rq; exact Kd.R_mono (Kd.R_far (p := ⟨gb101, 2, none⟩) (Kd.R_far (p := ⟨gb101, 1, none⟩) (Kd.R_far (p := ⟨gb101, 0, none⟩) (Kd.R_far (p := ⟨gb102, 2, none⟩) (Kd.R_types (Kd.R_types HO_103001.out BK102.out (by decide)) BK101.out (by decide)) (fun _ hk => hk.1.2) (.int .i64 (wrap64 (x103002_1 + x6_1)))) (fun _ hk => hk.2) (.bool x103000_1)) (fun _ hk => hk.2) (.slice (some ad108) x103001_2.length co71)) (fun _ hk => hk.2) (.int .i64 (wrap64 (x103002_1 + x6_1)))) (fun _ hk => trivial), by exact wq HB.out⟩
        ·
         rw [if_neg c57] at H
         exact absurd H (by simp)
       ·
        rw [if_neg c56] at H
        exact absurd H (by simp)
      ·
       rw [if_neg c54] at H
       have c54b0 : decide (0 < (x103001_2.length : Int)) = false := decide_eq_false c54
       have c54b1 : decide (0 < x103001_2.length) = false := decide_eq_false (by omega)
       clear c54
       by_cases c73 : x5_1 = true
       ·
        subst c73
        have H1 : (some (x103000_1, x103001_2, wrap64 (x103002_1 + (wrap64 (-x6_1))))) = some (r1, r2, r3) := by rw [if_pos rfl] at H; exact H
        clear H
        have H := H1
        clear H1
        simp only [Option.some.injEq, Prod.mk.injEq] at H
        obtain ⟨rfl, rfl, rfl⟩ := H
        have hnb74 := NB102_101.out
        have hnc74 := NB101_102.out
        have hcz75_0 : wr.cell? ⟨gb102, 0, none⟩ = some (.bool x103000_1) := (blk_cell BK102.out 0).trans rfl
        have hcz75_1 : wr.cell? ⟨gb102, 1, none⟩ = some (u103001) := (blk_cell BK102.out 1).trans rfl
        have hcz75_2 : wr.cell? ⟨gb102, 2, none⟩ = some (.int .i64 x103002_1) := (blk_cell BK102.out 2).trans rfl
        have hfz75_0 := blk_frozen BK102.out 0
        have hfz75_1 := blk_frozen BK102.out 1
        have hfz75_2 := blk_frozen BK102.out 2
        obtain ⟨Ao76, co76, eo76⟩ := Kd.R_slice HO_103001.out
        subst eo76
        have hcz77_0 : wr.cell? ⟨gb101, 0, none⟩ = some (.bool false) := (blk_cell BK101.out 0).trans rfl
        have hcz77_1 : wr.cell? ⟨gb101, 1, none⟩ = some (.slice none 0 0) := (blk_cell BK101.out 1).trans rfl
        have hcz77_2 : wr.cell? ⟨gb101, 2, none⟩ = some (.int .i64 0) := (blk_cell BK101.out 2).trans rfl
        have hfz77_0 := blk_frozen BK101.out 0
        have hfz77_1 := blk_frozen BK101.out 1
        have hfz77_2 := blk_frozen BK101.out 2
        go_wp2
        refine bodyPost_ret (results_cell_row rfl _ _ gb101 59 #[.bool x103000_1, .slice Ao76 x103001_2.length co76, .int .i64 (wrap64 (x103002_1 + (wrap64 (-x6_1))))] (0, 0) _ rfl (by refine bq ?_; refine blk_put (cs := #[.bool x103000_1, .slice Ao76 x103001_2.length co76, .int .i64 0]) ?_ 2 _ rfl; refine bq ?_; refine blk_put (cs := #[.bool x103000_1, .slice none 0 0, .int .i64 0]) ?_ 1 _ rfl; refine bq ?_; refine blk_put (cs := #[.bool false, .slice none 0 0, .int .i64 0]) ?_ 0 _ rfl; refine bq ?_; refine blk_far ?_ NB101_102.out _; refine bq ?_; exact BK101.out) Tryd.underlying59 rfl (by kernel_rfl)) rfl ?_
        exact ⟨_, by first | rfl | (simp [errW_none, errW_some] <;> rfl) | (simp [*, errW_none, errW_some] <;> rfl), by apply rq; exact Kd.R_mono (Kd.R_far (p := ⟨gb101, 2, none⟩) (Kd.R_far (p := ⟨gb101, 1, none⟩) (Kd.R_far (p := ⟨gb101, 0, none⟩) (Kd.R_far (p := ⟨gb102, 2, none⟩) (Kd.R_types (Kd.R_types HO_103001.out BK102.out (by decide)) BK101.out (by decide)) (fun _ hk => hk.1.2) (.int .i64 (wrap64 (x103002_1 + (wrap64 (-x6_1)))))) (fun _ hk => hk.2) (.bool x103000_1)) (fun _ hk => hk.2) (.slice Ao76 x103001_2.length co76)) (fun _ hk => hk.2) (.int .i64 (wrap64 (x103002_1 + (wrap64 (-x6_1)))))) (fun _ hk => trivial), by exact wq HB.out⟩
       ·
        replace c73 := Bool.eq_false_iff.mpr c73
        subst c73
        have H1 : (some (x103000_1, x103001_2, wrap64 (x103002_1 + x6_1))) = some (r1, r2, r3) := by rw [if_neg (show ¬ (false = true) by decide)] at H; exact H
        clear H
        have H := H1
        clear H1
        simp only [Option.some.injEq, Prod.mk.injEq] at H
        obtain ⟨rfl, rfl, rfl⟩ := H
        have hnb78 := NB102_101.out
        have hnc78 := NB101_102.out
        have hcz79_0 : wr.cell? ⟨gb102, 0, none⟩ = some (.bool x103000_1) := (blk_cell BK102.out 0).trans rfl
        have hcz79_1 : wr.cell? ⟨gb102, 1, none⟩ = some (u103001) := (blk_cell BK102.out 1).trans rfl
        have hcz79_2 : wr.cell? ⟨gb102, 2, none⟩ = some (.int .i64 x103002_1) := (blk_cell BK102.out 2).trans rfl
        have hfz79_0 := blk_frozen BK102.out 0
        have hfz79_1 := blk_frozen BK102.out 1
        have hfz79_2 := blk_frozen BK102.out 2
        obtain ⟨Ao80, co80, eo80⟩ := Kd.R_slice HO_103001.out
        subst eo80
        have hcz81_0 : wr.cell? ⟨gb101, 0, none⟩ = some (.bool false) := (blk_cell BK101.out 0).trans rfl
        have hcz81_1 : wr.cell? ⟨gb101, 1, none⟩ = some (.slice none 0 0) := (blk_cell BK101.out 1).trans rfl
        have hcz81_2 : wr.cell? ⟨gb101, 2, none⟩ = some (.int .i64 0) := (blk_cell BK101.out 2).trans rfl
        have hfz81_0 := blk_frozen BK101.out 0
        have hfz81_1 := blk_frozen BK101.out 1
        have hfz81_2 := blk_frozen BK101.out 2
        go_wp2
        refine bodyPost_ret (results_cell_row rfl _ _ gb101 59 #[.bool x103000_1, .slice Ao80 x103001_2.length co80, .int .i64 (wrap64 (x103002_1 + x6_1))] (0, 0) _ rfl (by refine bq ?_; refine blk_put (cs := #[.bool x103000_1, .slice Ao80 x103001_2.length co80, .int .i64 0]) ?_ 2 _ rfl; refine bq ?_; refine blk_put (cs := #[.bool x103000_1, .slice none 0 0, .int .i64 0]) ?_ 1 _ rfl; refine bq ?_; refine blk_put (cs := #[.bool false, .slice none 0 0, .int .i64 0]) ?_ 0 _ rfl; refine bq ?_; refine blk_far ?_ NB101_102.out _; refine bq ?_; exact BK101.out) Tryd.underlying59 rfl (by kernel_rfl)) rfl ?_
        exact ⟨_, by first | rfl | (simp [errW_none, errW_some] <;> rfl) | (simp [*, errW_none, errW_some] <;> rfl), by apply rq; exact Kd.R_mono (Kd.R_far (p := ⟨gb101, 2, none⟩) (Kd.R_far (p := ⟨gb101, 1, none⟩) (Kd.R_far (p := ⟨gb101, 0, none⟩) (Kd.R_far (p := ⟨gb102, 2, none⟩) (Kd.R_types (Kd.R_types HO_103001.out BK102.out (by decide)) BK101.out (by decide)) (fun _ hk => hk.1.2) (.int .i64 (wrap64 (x103002_1 + x6_1)))) (fun _ hk => hk.2) (.bool x103000_1)) (fun _ hk => hk.2) (.slice Ao80 x103001_2.length co80)) (fun _ hk => hk.2) (.int .i64 (wrap64 (x103002_1 + x6_1)))) (fun _ hk => trivial), by exact wq HB.out⟩
end Go.Proofs.YtfpnglgipchjhaaDoor.PR
namespace Go.Proofs.YtfpnglgipchjhaaDoor.PR
open Go.RowKit Go.Proofs.YtfpnglgipchjhaaDoorW.PrintWords Go.Proofs.YtfpnglgipchjhaaDoorW.PrintLast Go.Proofs.YtfpnglgipchjhaaDoorW.PrintMore
attribute [local go_sem] max2_int min2_int max_two min_two max_three min_three max_four min_four
set_option linter.unusedVariables false
set_option linter.unusedSimpArgs false
def dec_number_digit.f (a0_0 : Bool) (l0_1 : List Int) (a0_2 : Int) (a1 : Int) : Option (Int) := if (wrap64 ((wrap64 (a0_2 + a1)) - 1)) < 0 then (some 0) else (if (wrap64 ((wrap64 (a0_2 + a1)) - 1)) ≥ (l0_1.length : Int) then (some 0) else (if 0 ≤ (wrap64 ((wrap64 (a0_2 + a1)) - 1)) then (if (wrap64 ((wrap64 (a0_2 + a1)) - 1)) < (l0_1.length : Int) then (some (IntKind.u64.wrap (rd l0_1 (wrap64 ((wrap64 (a0_2 + a1)) - 1))))) else (none)) else (none)))
set_option maxHeartbeats 8000000 in
set_option maxRecDepth 100000 in
theorem dec_number_digit.calls (a0_0 : Bool) (A0_1 : Option Addr) (c0_1 : Nat) (l0_1 : List Int) (a0_2 : Int) (a1 : Int) (r : Int) (w : World) (hr0_1 : Kd.C (Kd.int .u8) w A0_1 l0_1.length l0_1) (hc0_1 : l0_1.length ≤ c0_1) (h : dec_number_digit.f a0_0 l0_1 a0_2 a1 = some r) :
  Calls Tryd.prog 33 #[.agg #[.bool a0_0, .slice A0_1 l0_1.length c0_1, .int .i64 a0_2], .int .i64 a1] w fun e w' => e = .returned (.int .u64 r) ∧ Below w.heap.size w w' := by
 have hu59 := Tryd.underlying59
 have HR0_1 := Aside0.mk hr0_1
 have HC0_1 := Aside0.mk hc0_1
 clear hr0_1 hc0_1
 have HB := Aside0.mk (Below.refl w.heap.size w)
 have H : (if (wrap64 ((wrap64 (a0_2 + a1)) - 1)) < 0 then (some 0) else (if (wrap64 ((wrap64 (a0_2 + a1)) - 1)) ≥ (l0_1.length : Int) then (some 0) else (if 0 ≤ (wrap64 ((wrap64 (a0_2 + a1)) - 1)) then (if (wrap64 ((wrap64 (a0_2 + a1)) - 1)) < (l0_1.length : Int) then (some (IntKind.u64.wrap (rd l0_1 (wrap64 ((wrap64 (a0_2 + a1)) - 1))))) else (none)) else (none)))) = some r := h
 clear h
 by_cases c3 : (wrap64 ((wrap64 (a0_2 + a1)) - 1)) < 0
 ·
  rw [if_pos c3] at H
  have c3b0 : decide ((wrap64 ((wrap64 (a0_2 + a1)) - 1)) < 0) = true := decide_eq_true c3
  clear c3
  obtain rfl := Option.some.inj H
  go_enter Tryd.func33, Tryd.ntmps33
  go_wp2_with (first | ((with_reducible refine gate_dst (N := 2) rfl ?_); (try (refine gate_guard (by rfl) ?_; dsimp only)); refine box_event ?hg (N := 2) ?hd (cs := #[.bool a0_0, .slice A0_1 l0_1.length c0_1, .int .i64 a0_2]) (t := 59) ?hr ?_; (case hd => rfl); (case hg => rfl); (case hr => first | (go_simp; done) | (go_simp; rfl)); intro gb112 hg w4 hbox hb; have n0_ := Aside0.mk (below_step (wq HB.out) hb); have n1_ := Aside0.mk (hbox); have n2_ := Aside0.mk ((by rw [hg]; exact (below_size (wq HB.out)) : w.heap.size ≤ gb112)); have n3_ := n2_; clear HB; have HB := n0_; have BK112 := n1_; have GW112 := n2_; have GE112 := n3_; clear n0_ n1_ n2_ n3_ hb hbox hg; have hcz5_0 : w4.cell? ⟨gb112, 0, none⟩ = some (.bool a0_0) := (blk_cell BK112.out 0).trans rfl; have hcz5_1 : w4.cell? ⟨gb112, 1, none⟩ = some (.slice A0_1 l0_1.length c0_1) := (blk_cell BK112.out 1).trans rfl; have hcz5_2 : w4.cell? ⟨gb112, 2, none⟩ = some (.int .i64 a0_2) := (blk_cell BK112.out 2).trans rfl; have hfz5_0 := blk_frozen BK112.out 0; have hfz5_1 := blk_frozen BK112.out 1; have hfz5_2 := blk_frozen BK112.out 2))
  go_ret
  exact ⟨by first | rfl | (simp [errW_none, errW_some] <;> rfl) | (simp [*, errW_none, errW_some] <;> rfl), by exact wq HB.out⟩
 ·
  rw [if_neg c3] at H
  have c3b0 : decide ((wrap64 ((wrap64 (a0_2 + a1)) - 1)) < 0) = false := decide_eq_false c3
  clear c3
  by_cases c6 : (wrap64 ((wrap64 (a0_2 + a1)) - 1)) ≥ (l0_1.length : Int)
  ·
   rw [if_pos c6] at H
   have c6b0 : decide ((l0_1.length : Int) ≤ (wrap64 ((wrap64 (a0_2 + a1)) - 1))) = true := decide_eq_true c6
   clear c6
   obtain rfl := Option.some.inj H
   go_enter Tryd.func33, Tryd.ntmps33
   go_wp2_with (first | ((with_reducible refine gate_dst (N := 2) rfl ?_); (try (refine gate_guard (by rfl) ?_; dsimp only)); refine box_event ?hg (N := 2) ?hd (cs := #[.bool a0_0, .slice A0_1 l0_1.length c0_1, .int .i64 a0_2]) (t := 59) ?hr ?_; (case hd => rfl); (case hg => rfl); (case hr => first | (go_simp; done) | (go_simp; rfl)); intro gb112 hg w7 hbox hb; have n0_ := Aside0.mk (below_step (wq HB.out) hb); have n1_ := Aside0.mk (hbox); have n2_ := Aside0.mk ((by rw [hg]; exact (below_size (wq HB.out)) : w.heap.size ≤ gb112)); have n3_ := n2_; clear HB; have HB := n0_; have BK112 := n1_; have GW112 := n2_; have GE112 := n3_; clear n0_ n1_ n2_ n3_ hb hbox hg; have hcz8_0 : w7.cell? ⟨gb112, 0, none⟩ = some (.bool a0_0) := (blk_cell BK112.out 0).trans rfl; have hcz8_1 : w7.cell? ⟨gb112, 1, none⟩ = some (.slice A0_1 l0_1.length c0_1) := (blk_cell BK112.out 1).trans rfl; have hcz8_2 : w7.cell? ⟨gb112, 2, none⟩ = some (.int .i64 a0_2) := (blk_cell BK112.out 2).trans rfl; have hfz8_0 := blk_frozen BK112.out 0; have hfz8_1 := blk_frozen BK112.out 1; have hfz8_2 := blk_frozen BK112.out 2))
   go_ret
   exact ⟨by first | rfl | (simp [errW_none, errW_some] <;> rfl) | (simp [*, errW_none, errW_some] <;> rfl), by exact wq HB.out⟩
  ·
   rw [if_neg c6] at H
   have c6b0 : decide ((l0_1.length : Int) ≤ (wrap64 ((wrap64 (a0_2 + a1)) - 1))) = false := decide_eq_false c6
   clear c6
   obtain ⟨ji9, hji9⟩ : ∃ j_ : Int, (wrap64 ((wrap64 (a0_2 + a1)) - 1)) = j_ := ⟨_, rfl⟩
   replace H : (if 0 ≤ (ji9) then (if (ji9) < (l0_1.length : Int) then (some (IntKind.u64.wrap (rd l0_1 (ji9)))) else (none)) else (none)) = some r := by first | (rw [hji9] at H; exact H) | (simp only [hji9] at H ⊢; exact H)
   (try rw [hji9] at c3b0)
   (try rw [hji9] at c6b0)
   have hji9w : (IntKind.i64.wrap ((wrap64 (a0_2 + a1)) - 1)) = ji9 := (i64_w _).trans hji9
   by_cases c10 : 0 ≤ (ji9)
   ·
    rw [if_pos c10] at H
    have c10b0 : decide (0 ≤ (ji9)) = true := decide_eq_true c10
    clear c10
    by_cases c11 : (ji9) < (l0_1.length : Int)
    ·
     rw [if_pos c11] at H
     have c11b0 : decide ((ji9) < (l0_1.length : Int)) = true := decide_eq_true c11
     clear c11
     obtain rfl := Option.some.inj H
     go_enter Tryd.func33, Tryd.ntmps33
     go_wp2_with (first | ((with_reducible refine gate_dst (N := 2) rfl ?_); (try (refine gate_guard (by rfl) ?_; dsimp only)); refine box_event ?hg (N := 2) ?hd (cs := #[.bool a0_0, .slice A0_1 l0_1.length c0_1, .int .i64 a0_2]) (t := 59) ?hr ?_; (case hd => rfl); (case hg => rfl); (case hr => first | (go_simp; done) | (go_simp; rfl)); intro gb112 hg w12 hbox hb; have n0_ := Aside0.mk (below_step (wq HB.out) hb); have n1_ := Aside0.mk (hbox); have n2_ := Aside0.mk ((by rw [hg]; exact (below_size (wq HB.out)) : w.heap.size ≤ gb112)); have n3_ := n2_; clear HB; have HB := n0_; have BK112 := n1_; have GW112 := n2_; have GE112 := n3_; clear n0_ n1_ n2_ n3_ hb hbox hg; have hcz13_0 : w12.cell? ⟨gb112, 0, none⟩ = some (.bool a0_0) := (blk_cell BK112.out 0).trans rfl; have hcz13_1 : w12.cell? ⟨gb112, 1, none⟩ = some (.slice A0_1 l0_1.length c0_1) := (blk_cell BK112.out 1).trans rfl; have hcz13_2 : w12.cell? ⟨gb112, 2, none⟩ = some (.int .i64 a0_2) := (blk_cell BK112.out 2).trans rfl; have hfz13_0 := blk_frozen BK112.out 0; have hfz13_1 := blk_frozen BK112.out 1; have hfz13_2 := blk_frozen BK112.out 2; have p113 : 0 ≤ ((ji9) : Int) := of_decide_eq_true (by first | (with_reducible assumption) | assumption); have q113 : (ji9) < (l0_1.length : Int) := of_decide_eq_true (by first | (with_reducible assumption) | assumption); obtain ⟨ad113, e113, hx113_0⟩ := Kd.at_int HR0_1.out (ji9) p113 q113; cases e113; replace hx113_0 := (HB.out.cell (World.block_lt_of_cell? w _ hx113_0)).trans hx113_0; replace p113 := eq_true p113; replace q113 := eq_true q113))
     go_ret
     exact ⟨by first | rfl | (simp [errW_none, errW_some] <;> rfl) | (simp only [← hji9]; first | rfl | (simp [errW_none, errW_some] <;> rfl)) | (simp [*, errW_none, errW_some] <;> rfl), by exact wq HB.out⟩
    ·
     rw [if_neg c11] at H
     exact absurd H (by simp)
   ·
    rw [if_neg c10] at H
    exact absurd H (by simp)
def bits_Mul64.f (a0 : Int) (a1 : Int) : Option (Int × Int) := some (IntKind.u64.wrap ((IntKind.u64.wrap ((IntKind.u64.wrap ((a0 / 4294967296) * (a1 / 4294967296))) + ((IntKind.u64.wrap ((IntKind.u64.wrap ((a0 / 4294967296) * (Go.bits .and .u64 a1 4294967295))) + ((IntKind.u64.wrap ((Go.bits .and .u64 a0 4294967295) * (Go.bits .and .u64 a1 4294967295))) / 4294967296))) / 4294967296))) + ((IntKind.u64.wrap ((Go.bits .and .u64 (IntKind.u64.wrap ((IntKind.u64.wrap ((a0 / 4294967296) * (Go.bits .and .u64 a1 4294967295))) + ((IntKind.u64.wrap ((Go.bits .and .u64 a0 4294967295) * (Go.bits .and .u64 a1 4294967295))) / 4294967296))) 4294967295) + (IntKind.u64.wrap ((Go.bits .and .u64 a0 4294967295) * (a1 / 4294967296))))) / 4294967296)), IntKind.u64.wrap (a0 * a1))
set_option maxHeartbeats 8000000 in
set_option maxRecDepth 100000 in
theorem bits_Mul64.calls (a0 : Int) (a1 : Int) (r1 : Int) (r2 : Int) (w : World) (h : bits_Mul64.f a0 a1 = some (r1, r2)) :
  Calls Tryd.prog 34 #[.int .u64 a0, .int .u64 a1] w fun e w' => e = .returned (.tuple #[.int .u64 r1, .int .u64 r2]) ∧ Drawn0 w w' := by
 have H : (some (IntKind.u64.wrap ((IntKind.u64.wrap ((IntKind.u64.wrap ((a0 / 4294967296) * (a1 / 4294967296))) + ((IntKind.u64.wrap ((IntKind.u64.wrap ((a0 / 4294967296) * (Go.bits .and .u64 a1 4294967295))) + ((IntKind.u64.wrap ((Go.bits .and .u64 a0 4294967295) * (Go.bits .and .u64 a1 4294967295))) / 4294967296))) / 4294967296))) + ((IntKind.u64.wrap ((Go.bits .and .u64 (IntKind.u64.wrap ((IntKind.u64.wrap ((a0 / 4294967296) * (Go.bits .and .u64 a1 4294967295))) + ((IntKind.u64.wrap ((Go.bits .and .u64 a0 4294967295) * (Go.bits .and .u64 a1 4294967295))) / 4294967296))) 4294967295) + (IntKind.u64.wrap ((Go.bits .and .u64 a0 4294967295) * (a1 / 4294967296))))) / 4294967296)), IntKind.u64.wrap (a0 * a1))) = some (r1, r2) := h
 clear h
 simp only [Option.some.injEq, Prod.mk.injEq] at H
 obtain ⟨rfl, rfl⟩ := H
 go_enter Tryd.func34, Tryd.ntmps34
 go_wp2
 go_ret2
 exact ⟨by first | rfl | (simp; done) | (simp [*]; done), by repeat (first | exact Drawn0.refl _ | apply Drawn0.step)⟩
def bits_Len64.f (a0 : Int) : Option Int := if 0 ≤ a0 then if a0 ≤ 18446744073709551615 then some (Lib.bitLen a0.toNat : Int) else none else none
theorem bits_Len64.calls (a0 r : Int) (w : World) (h : bits_Len64.f a0 = some r) : Calls Tryd.prog 55 #[.int .u64 a0] w fun e w' => e = .returned (.int .i64 r) ∧ Drawn0 w w' := by
 unfold bits_Len64.f at h
 by_cases h0 : 0 ≤ a0
 ·
  rw [if_pos h0] at h
  by_cases h1 : a0 ≤ 18446744073709551615
  ·
   rw [if_pos h1] at h
   obtain rfl := Option.some.inj h
   refine (len64_walk a0 w h0 h1).mono ?_
   rintro e w' ⟨rfl, rfl⟩
   exact ⟨rfl, Drawn0.refl _⟩
  ·
   rw [if_neg h1] at h; cases h
 ·
  rw [if_neg h0] at h; cases h
def bits_LeadingZeros64.f (a0 : Int) : Option (Int) := (bits_Len64.f a0).bind fun t114 => (some (wrap64 (64 - t114)))
set_option maxHeartbeats 8000000 in
set_option maxRecDepth 100000 in
theorem bits_LeadingZeros64.calls (a0 : Int) (r : Int) (w : World) (h : bits_LeadingZeros64.f a0 = some r) :
  Calls Tryd.prog 47 #[.int .u64 a0] w fun e w' => e = .returned (.int .i64 r) ∧ Drawn0 w w' := by
 have H : ((bits_Len64.f a0).bind fun t114 => (some (wrap64 (64 - t114)))) = some r := h
 clear h
 replace H := Option.bind_eq_some_iff.mp H
 obtain ⟨t114, A20, H⟩ := H
 replace H : (some (wrap64 (64 - t114))) = some r := H
 have A2 := Aside0.mk A20
 clear A20
 obtain rfl := Option.some.inj H
 go_enter Tryd.func47, Tryd.ntmps47
 go_wp2_with (first | ((with_reducible refine gate_callee (f := 55) rfl ?_); refine goesL_ (some 4) rfl rfl Tryd.func55 (by kernel_rfl) rfl #[.int .u64 a0] rfl (by (try simp only [List.map_toArray, List.map_cons, List.map_nil]); first | done | rfl | (simp only [List.length_drop, List.length_take]; rfl)) ?_; (with_reducible refine (bits_Len64.calls a0 t114 _ A2.out).mono ?_); rintro e w' ⟨rfl, ⟨nd, rfl⟩⟩; refine ⟨_, rfl, ?_⟩))
 go_ret
 exact ⟨by first | rfl | (simp; done) | (simp [*]; done), by repeat (first | exact Drawn0.refl _ | apply Drawn0.step)⟩
end Go.Proofs.YtfpnglgipchjhaaDoor.PR
namespace Go.Proofs.YtfpnglgipchjhaaDoor.PR
open Go.RowKit Go.Proofs.YtfpnglgipchjhaaDoorW.PrintWords Go.Proofs.YtfpnglgipchjhaaDoorW.PrintLast Go.Proofs.YtfpnglgipchjhaaDoorW.PrintMore
attribute [local go_sem] max2_int min2_int max_two min_two max_three min_three max_four min_four
set_option linter.unusedVariables false
set_option linter.unusedSimpArgs false
mutual
def bits_Div64.j2 : Nat → Int → Int → Int → Int → Int → Int → Int → Int → Option (Int × Int)
 | 0, _, _, _, _, _, _, _, _ => none
 | k + 1, x2, x8, x9, x10, x11, x13, x14, x15 => if x9 = 0 then (none) else (bits_Div64.l1 k x2 x8 x9 x10 x14 x15 (IntKind.u64.wrap ((IntKind.u64.wrap ((IntKind.u64.wrap ((IntKind.u64.wrap (x11 * 4294967296)) + x13)) - (IntKind.u64.wrap (x15 * x2)))) - (IntKind.u64.wrap ((IntKind.u64.wrap (Int.tdiv (IntKind.u64.wrap ((IntKind.u64.wrap ((IntKind.u64.wrap (x11 * 4294967296)) + x13)) - (IntKind.u64.wrap (x15 * x2)))) x9)) * x9)))) (IntKind.u64.wrap ((IntKind.u64.wrap ((IntKind.u64.wrap (x11 * 4294967296)) + x13)) - (IntKind.u64.wrap (x15 * x2)))) (IntKind.u64.wrap (Int.tdiv (IntKind.u64.wrap ((IntKind.u64.wrap ((IntKind.u64.wrap (x11 * 4294967296)) + x13)) - (IntKind.u64.wrap (x15 * x2)))) x9)))
def bits_Div64.l1 : Nat → Int → Int → Int → Int → Int → Int → Int → Int → Int → Option (Int × Int)
 | 0, _, _, _, _, _, _, _, _, _ => none
 | k + 1, x2, x8, x9, x10, x14, x15, x16, x17, x18 => if x18 ≥ 4294967296 then (bits_Div64.j4 k x2 x8 x9 x10 x14 x15 x16 x17 x18 true) else (bits_Div64.j4 k x2 x8 x9 x10 x14 x15 x16 x17 x18 (decide ((IntKind.u64.wrap (x18 * x10)) > (IntKind.u64.wrap ((IntKind.u64.wrap (4294967296 * x16)) + x14)))))
def bits_Div64.j4 : Nat → Int → Int → Int → Int → Int → Int → Int → Int → Int → Bool → Option (Int × Int)
 | 0, _, _, _, _, _, _, _, _, _, _ => none
 | k + 1, x2, x8, x9, x10, x14, x15, x16, x17, x18, x113 => if x113 = true then (if (IntKind.u64.wrap (x16 + x9)) ≥ 4294967296 then (if 0 ≤ x8 then (some (IntKind.u64.wrap ((IntKind.u64.wrap (x15 * 4294967296)) + (IntKind.u64.wrap (x18 - 1))), shr .u64 (IntKind.u64.wrap ((IntKind.u64.wrap ((IntKind.u64.wrap (x17 * 4294967296)) + x14)) - (IntKind.u64.wrap ((IntKind.u64.wrap (x18 - 1)) * x2)))) x8)) else (none)) else (bits_Div64.l1 k x2 x8 x9 x10 x14 x15 (IntKind.u64.wrap (x16 + x9)) x17 (IntKind.u64.wrap (x18 - 1)))) else (if 0 ≤ x8 then (some (IntKind.u64.wrap ((IntKind.u64.wrap (x15 * 4294967296)) + x18), shr .u64 (IntKind.u64.wrap ((IntKind.u64.wrap ((IntKind.u64.wrap (x17 * 4294967296)) + x14)) - (IntKind.u64.wrap (x18 * x2)))) x8)) else (none))
def bits_Div64.l0 : Nat → Int → Int → Int → Int → Int → Int → Int → Int → Int → Option (Int × Int)
 | 0, _, _, _, _, _, _, _, _, _ => none
 | k + 1, x2, x8, x9, x10, x11, x13, x14, x15, x16 => if x15 ≥ 4294967296 then (bits_Div64.j1 k x2 x8 x9 x10 x11 x13 x14 x15 x16 true) else (bits_Div64.j1 k x2 x8 x9 x10 x11 x13 x14 x15 x16 (decide ((IntKind.u64.wrap (x15 * x10)) > (IntKind.u64.wrap ((IntKind.u64.wrap (4294967296 * x16)) + x13)))))
def bits_Div64.j1 : Nat → Int → Int → Int → Int → Int → Int → Int → Int → Int → Bool → Option (Int × Int)
 | 0, _, _, _, _, _, _, _, _, _, _ => none
 | k + 1, x2, x8, x9, x10, x11, x13, x14, x15, x16, x78 => if x78 = true then (if (IntKind.u64.wrap (x16 + x9)) ≥ 4294967296 then (bits_Div64.j2 k x2 x8 x9 x10 x11 x13 x14 (IntKind.u64.wrap (x15 - 1))) else (bits_Div64.l0 k x2 x8 x9 x10 x11 x13 x14 (IntKind.u64.wrap (x15 - 1)) (IntKind.u64.wrap (x16 + x9)))) else (bits_Div64.j2 k x2 x8 x9 x10 x11 x13 x14 x15)
end
def bits_Div64.f (k : Nat) (a0 : Int) (a1 : Int) (a2 : Int) : Option (Int × Int) := if a2 = 0 then (none) else (if a2 ≤ a0 then (none) else (if a0 = 0 then (some (IntKind.u64.wrap (Int.tdiv a1 a2), Int.tmod a1 a2)) else ((bits_LeadingZeros64.f a2).bind fun t115 => (if 0 ≤ (IntKind.u64.wrap (t115)) then (if 0 ≤ (IntKind.u64.wrap (64 - (IntKind.u64.wrap (t115)))) then (if ((shl .u64 a2 (IntKind.u64.wrap (t115))) / 4294967296) = 0 then (none) else (bits_Div64.l0 k (shl .u64 a2 (IntKind.u64.wrap (t115))) (IntKind.u64.wrap (t115)) ((shl .u64 a2 (IntKind.u64.wrap (t115))) / 4294967296) (Go.bits .and .u64 (shl .u64 a2 (IntKind.u64.wrap (t115))) 4294967295) (Go.bits .or .u64 (shl .u64 a0 (IntKind.u64.wrap (t115))) (shr .u64 a1 (IntKind.u64.wrap (64 - (IntKind.u64.wrap (t115)))))) ((shl .u64 a1 (IntKind.u64.wrap (t115))) / 4294967296) (Go.bits .and .u64 (shl .u64 a1 (IntKind.u64.wrap (t115))) 4294967295) (IntKind.u64.wrap (Int.tdiv (Go.bits .or .u64 (shl .u64 a0 (IntKind.u64.wrap (t115))) (shr .u64 a1 (IntKind.u64.wrap (64 - (IntKind.u64.wrap (t115)))))) ((shl .u64 a2 (IntKind.u64.wrap (t115))) / 4294967296))) (IntKind.u64.wrap ((Go.bits .or .u64 (shl .u64 a0 (IntKind.u64.wrap (t115))) (shr .u64 a1 (IntKind.u64.wrap (64 - (IntKind.u64.wrap (t115)))))) - (IntKind.u64.wrap ((IntKind.u64.wrap (Int.tdiv (Go.bits .or .u64 (shl .u64 a0 (IntKind.u64.wrap (t115))) (shr .u64 a1 (IntKind.u64.wrap (64 - (IntKind.u64.wrap (t115)))))) ((shl .u64 a2 (IntKind.u64.wrap (t115))) / 4294967296))) * ((shl .u64 a2 (IntKind.u64.wrap (t115))) / 4294967296))))))) else (none)) else (none)))))
theorem bits_Div64.mono_l : ∀ k, (∀ y0 y1 y2 y3 y4 y5 y6 y7, LeO (bits_Div64.j2 k y0 y1 y2 y3 y4 y5 y6 y7) (bits_Div64.j2 (k + 1) y0 y1 y2 y3 y4 y5 y6 y7)) ∧ (∀ y0 y1 y2 y3 y4 y5 y6 y7 y8, LeO (bits_Div64.l1 k y0 y1 y2 y3 y4 y5 y6 y7 y8) (bits_Div64.l1 (k + 1) y0 y1 y2 y3 y4 y5 y6 y7 y8)) ∧ (∀ y0 y1 y2 y3 y4 y5 y6 y7 y8 y9, LeO (bits_Div64.j4 k y0 y1 y2 y3 y4 y5 y6 y7 y8 y9) (bits_Div64.j4 (k + 1) y0 y1 y2 y3 y4 y5 y6 y7 y8 y9)) ∧ (∀ y0 y1 y2 y3 y4 y5 y6 y7 y8, LeO (bits_Div64.l0 k y0 y1 y2 y3 y4 y5 y6 y7 y8) (bits_Div64.l0 (k + 1) y0 y1 y2 y3 y4 y5 y6 y7 y8)) ∧ (∀ y0 y1 y2 y3 y4 y5 y6 y7 y8 y9, LeO (bits_Div64.j1 k y0 y1 y2 y3 y4 y5 y6 y7 y8 y9) (bits_Div64.j1 (k + 1) y0 y1 y2 y3 y4 y5 y6 y7 y8 y9))
 | 0 => ⟨fun _ _ _ _ _ _ _ _ r h => by simp [bits_Div64.j2] at h, fun _ _ _ _ _ _ _ _ _ r h => by simp [bits_Div64.l1] at h, fun _ _ _ _ _ _ _ _ _ _ r h => by simp [bits_Div64.j4] at h, fun _ _ _ _ _ _ _ _ _ r h => by simp [bits_Div64.l0] at h, fun _ _ _ _ _ _ _ _ _ _ r h => by simp [bits_Div64.j1] at h⟩
 | k + 1 => by
  obtain ⟨ih0, ih1, ih2, ih3, ih4⟩ := bits_Div64.mono_l k
  refine ⟨?_, ?_, ?_, ?_, ?_⟩
  ·
   intro y0 y1 y2 y3 y4 y5 y6 y7
   unfold bits_Div64.j2
   repeat' first
   | (with_reducible exact ih0 _ _ _ _ _ _ _ _)
   | (with_reducible exact ih1 _ _ _ _ _ _ _ _ _)
   | (with_reducible exact ih2 _ _ _ _ _ _ _ _ _ _)
   | (with_reducible exact ih3 _ _ _ _ _ _ _ _ _)
   | (with_reducible exact ih4 _ _ _ _ _ _ _ _ _ _)
   | (with_reducible exact LeO.refl _)
   | (with_reducible exact LeO.none _)
   | (with_reducible refine LeO.ite ?_ ?_)
   | (with_reducible refine LeO.bind ?_ (fun _ => ?_))
   | exact ih0 _ _ _ _ _ _ _ _
   | exact ih1 _ _ _ _ _ _ _ _ _
   | exact ih2 _ _ _ _ _ _ _ _ _ _
   | exact ih3 _ _ _ _ _ _ _ _ _
   | exact ih4 _ _ _ _ _ _ _ _ _ _
   | exact LeO.none _
   | refine LeO.ite ?_ ?_
   | refine LeO.bind ?_ (fun _ => ?_)
  ·
   intro y0 y1 y2 y3 y4 y5 y6 y7 y8
   unfold bits_Div64.l1
   repeat' first
   | (with_reducible exact ih0 _ _ _ _ _ _ _ _)
   | (with_reducible exact ih1 _ _ _ _ _ _ _ _ _)
   | (with_reducible exact ih2 _ _ _ _ _ _ _ _ _ _)
   | (with_reducible exact ih3 _ _ _ _ _ _ _ _ _)
   | (with_reducible exact ih4 _ _ _ _ _ _ _ _ _ _)
   | (with_reducible exact LeO.refl _)
   | (with_reducible exact LeO.none _)
   | (with_reducible refine LeO.ite ?_ ?_)
   | (with_reducible refine LeO.bind ?_ (fun _ => ?_))
   | exact ih0 _ _ _ _ _ _ _ _
   | exact ih1 _ _ _ _ _ _ _ _ _
   | exact ih2 _ _ _ _ _ _ _ _ _ _
   | exact ih3 _ _ _ _ _ _ _ _ _
   | exact ih4 _ _ _ _ _ _ _ _ _ _
   | exact LeO.none _
   | refine LeO.ite ?_ ?_
   | refine LeO.bind ?_ (fun _ => ?_)
  ·
   intro y0 y1 y2 y3 y4 y5 y6 y7 y8 y9
   unfold bits_Div64.j4
   repeat' first
   | (with_reducible exact ih0 _ _ _ _ _ _ _ _)
   | (with_reducible exact ih1 _ _ _ _ _ _ _ _ _)
   | (with_reducible exact ih2 _ _ _ _ _ _ _ _ _ _)
   | (with_reducible exact ih3 _ _ _ _ _ _ _ _ _)
   | (with_reducible exact ih4 _ _ _ _ _ _ _ _ _ _)
   | (with_reducible exact LeO.refl _)
   | (with_reducible exact LeO.none _)
   | (with_reducible refine LeO.ite ?_ ?_)
   | (with_reducible refine LeO.bind ?_ (fun _ => ?_))
   | exact ih0 _ _ _ _ _ _ _ _
   | exact ih1 _ _ _ _ _ _ _ _ _
   | exact ih2 _ _ _ _ _ _ _ _ _ _
   | exact ih3 _ _ _ _ _ _ _ _ _
   | exact ih4 _ _ _ _ _ _ _ _ _ _
   | exact LeO.none _
   | refine LeO.ite ?_ ?_
   | refine LeO.bind ?_ (fun _ => ?_)
  ·
   intro y0 y1 y2 y3 y4 y5 y6 y7 y8
   unfold bits_Div64.l0
   repeat' first
   | (with_reducible exact ih0 _ _ _ _ _ _ _ _)
   | (with_reducible exact ih1 _ _ _ _ _ _ _ _ _)
   | (with_reducible exact ih2 _ _ _ _ _ _ _ _ _ _)
   | (with_reducible exact ih3 _ _ _ _ _ _ _ _ _)
   | (with_reducible exact ih4 _ _ _ _ _ _ _ _ _ _)
   | (with_reducible exact LeO.refl _)
   | (with_reducible exact LeO.none _)
   | (with_reducible refine LeO.ite ?_ ?_)
   | (with_reducible refine LeO.bind ?_ (fun _ => ?_))
   | exact ih0 _ _ _ _ _ _ _ _
   | exact ih1 _ _ _ _ _ _ _ _ _
   | exact ih2 _ _ _ _ _ _ _ _ _ _
   | exact ih3 _ _ _ _ _ _ _ _ _
   | exact ih4 _ _ _ _ _ _ _ _ _ _
   | exact LeO.none _
   | refine LeO.ite ?_ ?_
   | refine LeO.bind ?_ (fun _ => ?_)
  ·
   intro y0 y1 y2 y3 y4 y5 y6 y7 y8 y9
   unfold bits_Div64.j1
   repeat' first
   | (with_reducible exact ih0 _ _ _ _ _ _ _ _)
   | (with_reducible exact ih1 _ _ _ _ _ _ _ _ _)
   | (with_reducible exact ih2 _ _ _ _ _ _ _ _ _ _)
   | (with_reducible exact ih3 _ _ _ _ _ _ _ _ _)
   | (with_reducible exact ih4 _ _ _ _ _ _ _ _ _ _)
   | (with_reducible exact LeO.refl _)
   | (with_reducible exact LeO.none _)
   | (with_reducible refine LeO.ite ?_ ?_)
   | (with_reducible refine LeO.bind ?_ (fun _ => ?_))
   | exact ih0 _ _ _ _ _ _ _ _
   | exact ih1 _ _ _ _ _ _ _ _ _
   | exact ih2 _ _ _ _ _ _ _ _ _ _
   | exact ih3 _ _ _ _ _ _ _ _ _
   | exact ih4 _ _ _ _ _ _ _ _ _ _
   | exact LeO.none _
   | refine LeO.ite ?_ ?_
   | refine LeO.bind ?_ (fun _ => ?_)
theorem bits_Div64.mono : ∀ a0 a1 a2 k, LeO (bits_Div64.f k a0 a1 a2) (bits_Div64.f (k + 1) a0 a1 a2) := by
 intro a0 a1 a2 k
 obtain ⟨ih0, ih1, ih2, ih3, ih4⟩ := bits_Div64.mono_l k
 unfold bits_Div64.f
 repeat' first
   | (with_reducible exact ih0 _ _ _ _ _ _ _ _)
   | (with_reducible exact ih1 _ _ _ _ _ _ _ _ _)
   | (with_reducible exact ih2 _ _ _ _ _ _ _ _ _ _)
   | (with_reducible exact ih3 _ _ _ _ _ _ _ _ _)
   | (with_reducible exact ih4 _ _ _ _ _ _ _ _ _ _)
   | (with_reducible exact LeO.refl _)
   | (with_reducible exact LeO.none _)
   | (with_reducible refine LeO.ite ?_ ?_)
   | (with_reducible refine LeO.bind ?_ (fun _ => ?_))
   | exact ih0 _ _ _ _ _ _ _ _
   | exact ih1 _ _ _ _ _ _ _ _ _
   | exact ih2 _ _ _ _ _ _ _ _ _ _
   | exact ih3 _ _ _ _ _ _ _ _ _
   | exact ih4 _ _ _ _ _ _ _ _ _ _
   | exact LeO.none _
   | refine LeO.ite ?_ ?_
   | refine LeO.bind ?_ (fun _ => ?_)
set_option maxHeartbeats 8000000 in
set_option maxRecDepth 100000 in
theorem bits_Div64.calls (k : Nat) (a0 : Int) (a1 : Int) (a2 : Int) (r1 : Int) (r2 : Int) (w : World) (h : bits_Div64.f k a0 a1 a2 = some (r1, r2)) :
  Calls Tryd.prog 35 #[.int .u64 a0, .int .u64 a1, .int .u64 a2] w fun e w' => e = .returned (.tuple #[.int .u64 r1, .int .u64 r2]) ∧ Drawn0 w w' := by
 have H : (if a2 = 0 then (none) else (if a2 ≤ a0 then (none) else (if a0 = 0 then (some (IntKind.u64.wrap (Int.tdiv a1 a2), Int.tmod a1 a2)) else ((bits_LeadingZeros64.f a2).bind fun t115 => (if 0 ≤ (IntKind.u64.wrap (t115)) then (if 0 ≤ (IntKind.u64.wrap (64 - (IntKind.u64.wrap (t115)))) then (if ((shl .u64 a2 (IntKind.u64.wrap (t115))) / 4294967296) = 0 then (none) else (bits_Div64.l0 k (shl .u64 a2 (IntKind.u64.wrap (t115))) (IntKind.u64.wrap (t115)) ((shl .u64 a2 (IntKind.u64.wrap (t115))) / 4294967296) (Go.bits .and .u64 (shl .u64 a2 (IntKind.u64.wrap (t115))) 4294967295) (Go.bits .or .u64 (shl .u64 a0 (IntKind.u64.wrap (t115))) (shr .u64 a1 (IntKind.u64.wrap (64 - (IntKind.u64.wrap (t115)))))) ((shl .u64 a1 (IntKind.u64.wrap (t115))) / 4294967296) (Go.bits .and .u64 (shl .u64 a1 (IntKind.u64.wrap (t115))) 4294967295) (IntKind.u64.wrap (Int.tdiv (Go.bits .or .u64 (shl .u64 a0 (IntKind.u64.wrap (t115))) (shr .u64 a1 (IntKind.u64.wrap (64 - (IntKind.u64.wrap (t115)))))) ((shl .u64 a2 (IntKind.u64.wrap (t115))) / 4294967296))) (IntKind.u64.wrap ((Go.bits .or .u64 (shl .u64 a0 (IntKind.u64.wrap (t115))) (shr .u64 a1 (IntKind.u64.wrap (64 - (IntKind.u64.wrap (t115)))))) - (IntKind.u64.wrap ((IntKind.u64.wrap (Int.tdiv (Go.bits .or .u64 (shl .u64 a0 (IntKind.u64.wrap (t115))) (shr .u64 a1 (IntKind.u64.wrap (64 - (IntKind.u64.wrap (t115)))))) ((shl .u64 a2 (IntKind.u64.wrap (t115))) / 4294967296))) * ((shl .u64 a2 (IntKind.u64.wrap (t115))) / 4294967296))))))) else (none)) else (none)))))) = some (r1, r2) := h
 clear h
 by_cases c4 : a2 = 0
 ·
  rw [if_pos c4] at H
  exact absurd H (by simp)
 ·
  rw [if_neg c4] at H
  have c4b0 : (a2 == 0) = false := beq_eq_false_iff_ne.mpr c4
  have c4b1 : (a2 != 0) = true := bne_iff_ne.mpr c4
  by_cases c5 : a2 ≤ a0
  ·
   rw [if_pos c5] at H
   exact absurd H (by simp)
  ·
   rw [if_neg c5] at H
   have c5b0 : decide (a2 ≤ a0) = false := decide_eq_false c5
   clear c5
   by_cases c6 : a0 = 0
   ·
    rw [if_pos c6] at H
    have c6b0 : (a0 == 0) = true := beq_iff_eq.mpr c6
    have c6b1 : (a0 != 0) = false := bne_eq_false_iff_eq.mpr c6
    clear c6
    simp only [Option.some.injEq, Prod.mk.injEq] at H
    obtain ⟨rfl, rfl⟩ := H
    go_enter Tryd.func35, Tryd.ntmps35
    go_wp2
    repeat (go_quiet (fail); try go_wp2)
    go_ret2
    exact ⟨by first | rfl | (simp; done) | (simp [*]; done), by repeat (first | exact Drawn0.refl _ | apply Drawn0.step)⟩
   ·
    rw [if_neg c6] at H
    have c6b0 : (a0 == 0) = false := beq_eq_false_iff_ne.mpr c6
    have c6b1 : (a0 != 0) = true := bne_iff_ne.mpr c6
    replace H := Option.bind_eq_some_iff.mp H
    obtain ⟨t115, A70, H⟩ := H
    replace H : (if 0 ≤ (IntKind.u64.wrap (t115)) then (if 0 ≤ (IntKind.u64.wrap (64 - (IntKind.u64.wrap (t115)))) then (if ((shl .u64 a2 (IntKind.u64.wrap (t115))) / 4294967296) = 0 then (none) else (bits_Div64.l0 k (shl .u64 a2 (IntKind.u64.wrap (t115))) (IntKind.u64.wrap (t115)) ((shl .u64 a2 (IntKind.u64.wrap (t115))) / 4294967296) (Go.bits .and .u64 (shl .u64 a2 (IntKind.u64.wrap (t115))) 4294967295) (Go.bits .or .u64 (shl .u64 a0 (IntKind.u64.wrap (t115))) (shr .u64 a1 (IntKind.u64.wrap (64 - (IntKind.u64.wrap (t115)))))) ((shl .u64 a1 (IntKind.u64.wrap (t115))) / 4294967296) (Go.bits .and .u64 (shl .u64 a1 (IntKind.u64.wrap (t115))) 4294967295) (IntKind.u64.wrap (Int.tdiv (Go.bits .or .u64 (shl .u64 a0 (IntKind.u64.wrap (t115))) (shr .u64 a1 (IntKind.u64.wrap (64 - (IntKind.u64.wrap (t115)))))) ((shl .u64 a2 (IntKind.u64.wrap (t115))) / 4294967296))) (IntKind.u64.wrap ((Go.bits .or .u64 (shl .u64 a0 (IntKind.u64.wrap (t115))) (shr .u64 a1 (IntKind.u64.wrap (64 - (IntKind.u64.wrap (t115)))))) - (IntKind.u64.wrap ((IntKind.u64.wrap (Int.tdiv (Go.bits .or .u64 (shl .u64 a0 (IntKind.u64.wrap (t115))) (shr .u64 a1 (IntKind.u64.wrap (64 - (IntKind.u64.wrap (t115)))))) ((shl .u64 a2 (IntKind.u64.wrap (t115))) / 4294967296))) * ((shl .u64 a2 (IntKind.u64.wrap (t115))) / 4294967296))))))) else (none)) else (none)) = some (r1, r2) := H
    have A7 := Aside0.mk A70
    clear A70
    obtain ⟨ji8, hji8⟩ : ∃ j_ : Int, (IntKind.u64.wrap (t115)) = j_ := ⟨_, rfl⟩
    replace H : (if 0 ≤ (ji8) then (if 0 ≤ (IntKind.u64.wrap (64 - (ji8))) then (if ((shl .u64 a2 (ji8)) / 4294967296) = 0 then (none) else (bits_Div64.l0 k (shl .u64 a2 (ji8)) ji8 ((shl .u64 a2 (ji8)) / 4294967296) (Go.bits .and .u64 (shl .u64 a2 (ji8)) 4294967295) (Go.bits .or .u64 (shl .u64 a0 (ji8)) (shr .u64 a1 (IntKind.u64.wrap (64 - (ji8))))) ((shl .u64 a1 (ji8)) / 4294967296) (Go.bits .and .u64 (shl .u64 a1 (ji8)) 4294967295) (IntKind.u64.wrap (Int.tdiv (Go.bits .or .u64 (shl .u64 a0 (ji8)) (shr .u64 a1 (IntKind.u64.wrap (64 - (ji8))))) ((shl .u64 a2 (ji8)) / 4294967296))) (IntKind.u64.wrap ((Go.bits .or .u64 (shl .u64 a0 (ji8)) (shr .u64 a1 (IntKind.u64.wrap (64 - (ji8))))) - (IntKind.u64.wrap ((IntKind.u64.wrap (Int.tdiv (Go.bits .or .u64 (shl .u64 a0 (ji8)) (shr .u64 a1 (IntKind.u64.wrap (64 - (ji8))))) ((shl .u64 a2 (ji8)) / 4294967296))) * ((shl .u64 a2 (ji8)) / 4294967296))))))) else (none)) else (none)) = some (r1, r2) := by first | (rw [hji8] at H; exact H) | (simp only [hji8] at H ⊢; exact H)
    (try rw [hji8] at A7)
    by_cases c9 : 0 ≤ (ji8)
    ·
     rw [if_pos c9] at H
     have c9b0 := eq_true c9
     have c9b1 : decide (0 ≤ (ji8)) = true := decide_eq_true c9
     clear c9
     obtain ⟨ji10, hji10⟩ : ∃ j_ : Int, (shl .u64 a2 (ji8)) = j_ := ⟨_, rfl⟩
     replace H : (if 0 ≤ (IntKind.u64.wrap (64 - (ji8))) then (if ((ji10) / 4294967296) = 0 then (none) else (bits_Div64.l0 k ji10 ji8 ((ji10) / 4294967296) (Go.bits .and .u64 (ji10) 4294967295) (Go.bits .or .u64 (shl .u64 a0 (ji8)) (shr .u64 a1 (IntKind.u64.wrap (64 - (ji8))))) ((shl .u64 a1 (ji8)) / 4294967296) (Go.bits .and .u64 (shl .u64 a1 (ji8)) 4294967295) (IntKind.u64.wrap (Int.tdiv (Go.bits .or .u64 (shl .u64 a0 (ji8)) (shr .u64 a1 (IntKind.u64.wrap (64 - (ji8))))) ((ji10) / 4294967296))) (IntKind.u64.wrap ((Go.bits .or .u64 (shl .u64 a0 (ji8)) (shr .u64 a1 (IntKind.u64.wrap (64 - (ji8))))) - (IntKind.u64.wrap ((IntKind.u64.wrap (Int.tdiv (Go.bits .or .u64 (shl .u64 a0 (ji8)) (shr .u64 a1 (IntKind.u64.wrap (64 - (ji8))))) ((ji10) / 4294967296))) * ((ji10) / 4294967296))))))) else (none)) = some (r1, r2) := by first | (rw [hji10] at H; exact H) | (simp only [hji10] at H ⊢; exact H)
     (try rw [hji10] at A7)
     have hji10_ : (IntKind.u64.wrap (a2 * 2 ^ min (ji8).toNat 64)) = ji10 := hji10
     have hji10z : (ji8) ≤ 64 → (IntKind.u64.wrap (a2 * 2 ^ (ji8).toNat)) = ji10 := shl_small hji10
     have c11b0 := eq_true (of_decide_eq_true (by first | (with_reducible assumption) | assumption) : 0 ≤ (ji8))
     obtain ⟨ji12, hji12⟩ : ∃ j_ : Int, (shl .u64 a0 (ji8)) = j_ := ⟨_, rfl⟩
     replace H : (if 0 ≤ (IntKind.u64.wrap (64 - (ji8))) then (if ((ji10) / 4294967296) = 0 then (none) else (bits_Div64.l0 k ji10 ji8 ((ji10) / 4294967296) (Go.bits .and .u64 (ji10) 4294967295) (Go.bits .or .u64 (ji12) (shr .u64 a1 (IntKind.u64.wrap (64 - (ji8))))) ((shl .u64 a1 (ji8)) / 4294967296) (Go.bits .and .u64 (shl .u64 a1 (ji8)) 4294967295) (IntKind.u64.wrap (Int.tdiv (Go.bits .or .u64 (ji12) (shr .u64 a1 (IntKind.u64.wrap (64 - (ji8))))) ((ji10) / 4294967296))) (IntKind.u64.wrap ((Go.bits .or .u64 (ji12) (shr .u64 a1 (IntKind.u64.wrap (64 - (ji8))))) - (IntKind.u64.wrap ((IntKind.u64.wrap (Int.tdiv (Go.bits .or .u64 (ji12) (shr .u64 a1 (IntKind.u64.wrap (64 - (ji8))))) ((ji10) / 4294967296))) * ((ji10) / 4294967296))))))) else (none)) = some (r1, r2) := by first | (rw [hji12] at H; exact H) | (simp only [hji12] at H ⊢; exact H)
     (try rw [hji12] at A7)
     have hji12_ : (IntKind.u64.wrap (a0 * 2 ^ min (ji8).toNat 64)) = ji12 := hji12
     have hji12z : (ji8) ≤ 64 → (IntKind.u64.wrap (a0 * 2 ^ (ji8).toNat)) = ji12 := shl_small hji12
     obtain ⟨ji13, hji13⟩ : ∃ j_ : Int, (IntKind.u64.wrap (64 - (ji8))) = j_ := ⟨_, rfl⟩
     replace H : (if 0 ≤ (ji13) then (if ((ji10) / 4294967296) = 0 then (none) else (bits_Div64.l0 k ji10 ji8 ((ji10) / 4294967296) (Go.bits .and .u64 (ji10) 4294967295) (Go.bits .or .u64 (ji12) (shr .u64 a1 (ji13))) ((shl .u64 a1 (ji8)) / 4294967296) (Go.bits .and .u64 (shl .u64 a1 (ji8)) 4294967295) (IntKind.u64.wrap (Int.tdiv (Go.bits .or .u64 (ji12) (shr .u64 a1 (ji13))) ((ji10) / 4294967296))) (IntKind.u64.wrap ((Go.bits .or .u64 (ji12) (shr .u64 a1 (ji13))) - (IntKind.u64.wrap ((IntKind.u64.wrap (Int.tdiv (Go.bits .or .u64 (ji12) (shr .u64 a1 (ji13))) ((ji10) / 4294967296))) * ((ji10) / 4294967296))))))) else (none)) = some (r1, r2) := by first | (rw [hji13] at H; exact H) | (simp only [hji13] at H ⊢; exact H)
     (try rw [hji13] at A7)
     by_cases c14 : 0 ≤ (ji13)
     ·
      rw [if_pos c14] at H
      have c14b0 := eq_true c14
      have c14b1 : decide (0 ≤ (ji13)) = true := decide_eq_true c14
      clear c14
      obtain ⟨ji15, hji15⟩ : ∃ j_ : Int, (shr .u64 a1 (ji13)) = j_ := ⟨_, rfl⟩
      replace H : (if ((ji10) / 4294967296) = 0 then (none) else (bits_Div64.l0 k ji10 ji8 ((ji10) / 4294967296) (Go.bits .and .u64 (ji10) 4294967295) (Go.bits .or .u64 (ji12) (ji15)) ((shl .u64 a1 (ji8)) / 4294967296) (Go.bits .and .u64 (shl .u64 a1 (ji8)) 4294967295) (IntKind.u64.wrap (Int.tdiv (Go.bits .or .u64 (ji12) (ji15)) ((ji10) / 4294967296))) (IntKind.u64.wrap ((Go.bits .or .u64 (ji12) (ji15)) - (IntKind.u64.wrap ((IntKind.u64.wrap (Int.tdiv (Go.bits .or .u64 (ji12) (ji15)) ((ji10) / 4294967296))) * ((ji10) / 4294967296))))))) = some (r1, r2) := by first | (rw [hji15] at H; exact H) | (simp only [hji15] at H ⊢; exact H)
      (try rw [hji15] at A7)
      have hji15_ : (a1 / 2 ^ min (ji13).toNat 64) = ji15 := hji15
      have hji15z : (ji13) ≤ 64 → (a1 / 2 ^ (ji13).toNat) = ji15 := shr_small hji15
      have c16b0 := eq_true (of_decide_eq_true (by first | (with_reducible assumption) | assumption) : 0 ≤ (ji8))
      obtain ⟨ji17, hji17⟩ : ∃ j_ : Int, (shl .u64 a1 (ji8)) = j_ := ⟨_, rfl⟩
      replace H : (if ((ji10) / 4294967296) = 0 then (none) else (bits_Div64.l0 k ji10 ji8 ((ji10) / 4294967296) (Go.bits .and .u64 (ji10) 4294967295) (Go.bits .or .u64 (ji12) (ji15)) ((ji17) / 4294967296) (Go.bits .and .u64 (ji17) 4294967295) (IntKind.u64.wrap (Int.tdiv (Go.bits .or .u64 (ji12) (ji15)) ((ji10) / 4294967296))) (IntKind.u64.wrap ((Go.bits .or .u64 (ji12) (ji15)) - (IntKind.u64.wrap ((IntKind.u64.wrap (Int.tdiv (Go.bits .or .u64 (ji12) (ji15)) ((ji10) / 4294967296))) * ((ji10) / 4294967296))))))) = some (r1, r2) := by first | (rw [hji17] at H; exact H) | (simp only [hji17] at H ⊢; exact H)
      (try rw [hji17] at A7)
      have hji17_ : (IntKind.u64.wrap (a1 * 2 ^ min (ji8).toNat 64)) = ji17 := hji17
      have hji17z : (ji8) ≤ 64 → (IntKind.u64.wrap (a1 * 2 ^ (ji8).toNat)) = ji17 := shl_small hji17
      by_cases c18 : ((ji10) / 4294967296) = 0
      ·
       rw [if_pos c18] at H
       exact absurd H (by simp)
      ·
       rw [if_neg c18] at H
       have c18b0 : (((ji10) / 4294967296) == 0) = false := beq_eq_false_iff_ne.mpr c18
       have c18b1 : (((ji10) / 4294967296) != 0) = true := bne_iff_ne.mpr c18
       have HC19 := Aside0.mk H
       clear H
       go_enter Tryd.func35, Tryd.ntmps35
       go_upto_block 0 with (first | (go_at_call 47; (with_reducible refine (bits_LeadingZeros64.calls a2 t115 _ A7.out).mono ?_); rintro e w' ⟨rfl, ⟨nd, rfl⟩⟩; (try first | exact ⟨rfl, _, World.drewN_drewN _ _ _⟩ | exact ⟨rfl, _, Eq.trans (World.drewN_drewN _ _ _) (congrArg (World.drewN _) (Nat.add_assoc _ _ _))⟩)))
       repeat (go_quiet (first | (go_at_call 47; (with_reducible refine (bits_LeadingZeros64.calls a2 t115 _ A7.out).mono ?_); rintro e w' ⟨rfl, ⟨nd, rfl⟩⟩; (try first | exact ⟨rfl, _, World.drewN_drewN _ _ _⟩ | exact ⟨rfl, _, Eq.trans (World.drewN_drewN _ _ _) (congrArg (World.drewN _) (Nat.add_assoc _ _ _))⟩))); go_upto_block 0 with (first | (go_at_call 47; (with_reducible refine (bits_LeadingZeros64.calls a2 t115 _ A7.out).mono ?_); rintro e w' ⟨rfl, ⟨nd, rfl⟩⟩; (try first | exact ⟨rfl, _, World.drewN_drewN _ _ _⟩ | exact ⟨rfl, _, Eq.trans (World.drewN_drewN _ _ _) (congrArg (World.drewN _) (Nat.add_assoc _ _ _))⟩))))
       (try simp only [apz])
       go_cut [15] (fun v15 wc => ∃ (kq : Nat) (x15_18 : Int), v15 = .int .u64 x15_18 ∧ Aside0 (bits_Div64.j2 kq ji10 ji8 ((ji10) / 4294967296) (Go.bits .and .u64 (ji10) 4294967295) (Go.bits .or .u64 (ji12) (ji15)) ((ji17) / 4294967296) (Go.bits .and .u64 (ji17) 4294967295) x15_18 = some (r1, r2)) ∧ Aside0 (kq ≤ k) ∧ Drawn0 w wc)
       case first =>
        have H := HC19.out
        clear HC19
        have H' := Aside0.mk H
        clear H
        go_wp2
        repeat (go_quiet (fail); try go_wp2)
        go_loopg [15, 16] k (fun kq v15 v16 w' => ∃ (x15_1 : Int) (x16_1 : Int), v15 = .int .u64 x15_1 ∧ v16 = .int .u64 x16_1 ∧ Aside0 (bits_Div64.l0 kq ji10 ji8 ((ji10) / 4294967296) (Go.bits .and .u64 (ji10) 4294967295) (Go.bits .or .u64 (ji12) (ji15)) ((ji17) / 4294967296) (Go.bits .and .u64 (ji17) 4294967295) x15_1 x16_1 = some (r1, r2)) ∧ Aside0 (kq ≤ k) ∧ Drawn0 w w')
        case atStart => exact ⟨(IntKind.u64.wrap (Int.tdiv (Go.bits .or .u64 (ji12) (ji15)) ((ji10) / 4294967296))), (IntKind.u64.wrap ((Go.bits .or .u64 (ji12) (ji15)) - (IntKind.u64.wrap ((IntKind.u64.wrap (Int.tdiv (Go.bits .or .u64 (ji12) (ji15)) ((ji10) / 4294967296))) * ((ji10) / 4294967296))))), (by first | rfl | (simp; done) | (simp only [← hji10, ← hji12, ← hji15] <;> (first | rfl | simp)) | (simp [*]; done)), (by first | rfl | (simp; done) | (simp only [← hji10, ← hji12, ← hji15] <;> (first | rfl | simp)) | (simp [*]; done)), H', ⟨Nat.le_refl _⟩, by repeat (first | exact Drawn0.refl _ | apply Drawn0.step)⟩
        case round =>
         clear H'
         try clear c1
         try clear p2
         try clear c3
         try clear c4
         try clear c4b0
         try clear c4b1
         try clear c5
         try clear c5b0
         try clear c6
         try clear c6b0
         try clear c6b1
         try clear c9
         try clear c9b0
         try clear c9b1
         try clear c11
         try clear c11b0
         try clear c14
         try clear c14b0
         try clear c14b1
         try clear c16
         try clear c16b0
         try clear c18
         try clear c18b0
         try clear c18b1
         obtain ⟨x15_1, x16_1, rfl, rfl, HA, HK1, ⟨m1, rfl⟩⟩ := hrel
         cases gk with
         | zero => exact absurd HA.out (by simp [bits_Div64.l0])
         | succ k1 =>
          have H := HA.out
          clear HA
          simp only [bits_Div64.l0] at H
          have HC20 := Aside0.mk H
          clear H
          go_upto_region 17 with (fail)
          repeat (go_quiet (fail); go_upto_region 17 with (fail))
          go_cut [78] (fun v78 wc => ∃ (kq : Nat) (x78_19 : Bool), v78 = .bool x78_19 ∧ Aside0 (bits_Div64.j1 kq ji10 ji8 ((ji10) / 4294967296) (Go.bits .and .u64 (ji10) 4294967295) (Go.bits .or .u64 (ji12) (ji15)) ((ji17) / 4294967296) (Go.bits .and .u64 (ji17) 4294967295) x15_1 x16_1 x78_19 = some (r1, r2)) ∧ Aside0 (kq ≤ k1) ∧ Drawn0 w wc)
          case first =>
           have H := HC20.out
           clear HC20
           by_cases c21 : x15_1 ≥ 4294967296
           ·
            rw [if_pos c21] at H
            have c21b0 : decide (4294967296 ≤ x15_1) = true := decide_eq_true c21
            clear c21
            (first | rw [c21b0] | (simp only [i64_w, i32_w]; rw [c21b0]) | skip)
            have H' := Aside0.mk H
            clear H
            go_wp2
            repeat (go_quiet (fail); try go_wp2)
            go_meet
            case rel => exact ⟨_, (true), (by first | rfl | (simp; done) | (simp [*]; done)), H', ⟨by have := HK1.out; first | omega | exact Nat.le_refl _⟩, by repeat (first | exact Drawn0.refl _ | apply Drawn0.step)⟩
           ·
            rw [if_neg c21] at H
            have c21b0 : decide (4294967296 ≤ x15_1) = false := decide_eq_false c21
            clear c21
            (first | rw [c21b0] | (simp only [i64_w, i32_w]; rw [c21b0]) | skip)
            have H' := Aside0.mk H
            clear H
            go_wp2
            repeat (go_quiet (fail); try go_wp2)
            go_meet
            case rel => exact ⟨_, (decide ((IntKind.u64.wrap (x15_1 * (Go.bits .and .u64 (ji10) 4294967295))) > (IntKind.u64.wrap ((IntKind.u64.wrap (4294967296 * x16_1)) + ((ji17) / 4294967296))))), (by first | rfl | (simp; done) | (simp only [← hji10, ← hji17] <;> (first | rfl | simp)) | (simp [*]; done)), H', ⟨by have := HK1.out; first | omega | exact Nat.le_refl _⟩, by repeat (first | exact Drawn0.refl _ | apply Drawn0.step)⟩
          case rest =>
           clear HC20
           try clear c1
           try clear c2
           try clear p2
           try clear c3
           try clear c4
           try clear c4b0
           try clear c4b1
           try clear c5
           try clear c5b0
           try clear c6
           try clear c6b0
           try clear c6b1
           try clear c9
           try clear c9b0
           try clear c9b1
           try clear c11
           try clear c11b0
           try clear c14
           try clear c14b0
           try clear c14b1
           try clear c16
           try clear c16b0
           try clear c18
           try clear c18b0
           try clear c18b1
           try clear c21
           try clear c21b0
           try clear p2
           obtain ⟨kq, x78_19, rfl, HA, HJ19, ⟨mc19, rfl⟩⟩ := hcut
           cases kq with
           | zero => exact absurd HA.out (by simp [bits_Div64.j1])
           | succ kj19 =>
            have H := HA.out
            clear HA
            simp only [bits_Div64.j1] at H
            by_cases c22 : x78_19 = true
            ·
             subst c22
             have H1 : (if (IntKind.u64.wrap (x16_1 + ((ji10) / 4294967296))) ≥ 4294967296 then (bits_Div64.j2 kj19 ji10 ji8 ((ji10) / 4294967296) (Go.bits .and .u64 (ji10) 4294967295) (Go.bits .or .u64 (ji12) (ji15)) ((ji17) / 4294967296) (Go.bits .and .u64 (ji17) 4294967295) (IntKind.u64.wrap (x15_1 - 1))) else (bits_Div64.l0 kj19 ji10 ji8 ((ji10) / 4294967296) (Go.bits .and .u64 (ji10) 4294967295) (Go.bits .or .u64 (ji12) (ji15)) ((ji17) / 4294967296) (Go.bits .and .u64 (ji17) 4294967295) (IntKind.u64.wrap (x15_1 - 1)) (IntKind.u64.wrap (x16_1 + ((ji10) / 4294967296))))) = some (r1, r2) := by rw [if_pos rfl] at H; exact H
             clear H
             have H := H1
             clear H1
             by_cases c23 : (IntKind.u64.wrap (x16_1 + ((ji10) / 4294967296))) ≥ 4294967296
             ·
              rw [if_pos c23] at H
              have c23b0 : decide (4294967296 ≤ (IntKind.u64.wrap (x16_1 + ((ji10) / 4294967296)))) = true := decide_eq_true c23
              clear c23
              have H' := Aside0.mk H
              clear H
              go_wp2
              repeat (go_quiet (fail); try go_wp2)
              go_meet
              case rel => exact ⟨_, (IntKind.u64.wrap (x15_1 - 1)), (by first | rfl | (simp; done) | (simp [*]; done)), H', ⟨by have := HK1.out; have := HJ19.out; first | omega | exact Nat.le_refl _⟩, by repeat (first | exact Drawn0.refl _ | apply Drawn0.step)⟩
             ·
              rw [if_neg c23] at H
              have c23b0 : decide (4294967296 ≤ (IntKind.u64.wrap (x16_1 + ((ji10) / 4294967296)))) = false := decide_eq_false c23
              clear c23
              have H' := Aside0.mk H
              clear H
              go_wp2
              repeat (go_quiet (fail); try go_wp2)
              go_roundg kj19
              case measure => have := HK1.out; have := HJ19.out; omega
              case rel => exact ⟨(IntKind.u64.wrap (x15_1 - 1)), (IntKind.u64.wrap (x16_1 + ((ji10) / 4294967296))), (by first | rfl | (simp; done) | (simp [*]; done)), (by first | rfl | (simp; done) | (simp only [← hji10] <;> (first | rfl | simp)) | (simp [*]; done)), H', ⟨by have := HK1.out; have := HJ19.out; omega⟩, by repeat (first | exact Drawn0.refl _ | apply Drawn0.step)⟩
            ·
             replace c22 := Bool.eq_false_iff.mpr c22
             subst c22
             have H1 : (bits_Div64.j2 kj19 ji10 ji8 ((ji10) / 4294967296) (Go.bits .and .u64 (ji10) 4294967295) (Go.bits .or .u64 (ji12) (ji15)) ((ji17) / 4294967296) (Go.bits .and .u64 (ji17) 4294967295) x15_1) = some (r1, r2) := by rw [if_neg (show ¬ (false = true) by decide)] at H; exact H
             clear H
             have H := H1
             clear H1
             have H' := Aside0.mk H
             clear H
             go_wp2
             repeat (go_quiet (fail); try go_wp2)
             go_meet
             case rel => exact ⟨_, (x15_1), (by first | rfl | (simp; done) | (simp [*]; done)), H', ⟨by have := HK1.out; have := HJ19.out; first | omega | exact Nat.le_refl _⟩, by repeat (first | exact Drawn0.refl _ | apply Drawn0.step)⟩
       case rest =>
        clear HC19
        try clear c1
        try clear c2
        try clear p2
        try clear c3
        try clear c4
        try clear c4b0
        try clear c4b1
        try clear c5
        try clear c5b0
        try clear c6
        try clear c6b0
        try clear c6b1
        try clear c9
        try clear c9b0
        try clear c9b1
        try clear c11
        try clear c11b0
        try clear c14
        try clear c14b0
        try clear c14b1
        try clear c16
        try clear c16b0
        try clear c18
        try clear c18b0
        try clear c18b1
        try clear c19
        try clear c21
        try clear c21b0
        try clear c22
        try clear c23
        try clear c23b0
        try clear p2
        obtain ⟨kq, x15_18, rfl, HA, HJ18, ⟨mc18, rfl⟩⟩ := hcut
        cases kq with
        | zero => exact absurd HA.out (by simp [bits_Div64.j2])
        | succ kj18 =>
         have H := HA.out
         clear HA
         simp only [bits_Div64.j2] at H
         by_cases c24 : ((ji10) / 4294967296) = 0
         ·
          rw [if_pos c24] at H
          exact absurd H (by simp)
         ·
          rw [if_neg c24] at H
          have c24b0 : (((ji10) / 4294967296) == 0) = false := beq_eq_false_iff_ne.mpr c24
          have c24b1 : (((ji10) / 4294967296) != 0) = true := bne_iff_ne.mpr c24
          have H' := Aside0.mk H
          clear H
          go_wp2
          repeat (go_quiet (fail); try go_wp2)
          go_loopg [16, 18] kj18 (fun kq v16 v18 w' => ∃ (x16_2 : Int) (x18_2 : Int), v16 = .int .u64 x16_2 ∧ v18 = .int .u64 x18_2 ∧ Aside0 (bits_Div64.l1 kq ji10 ji8 ((ji10) / 4294967296) (Go.bits .and .u64 (ji10) 4294967295) (Go.bits .and .u64 (ji17) 4294967295) x15_18 x16_2 (IntKind.u64.wrap ((IntKind.u64.wrap ((IntKind.u64.wrap ((Go.bits .or .u64 (ji12) (ji15)) * 4294967296)) + ((ji17) / 4294967296))) - (IntKind.u64.wrap (x15_18 * ji10)))) x18_2 = some (r1, r2)) ∧ Aside0 (kq ≤ kj18) ∧ Drawn0 w w')
          case atStart => exact ⟨(IntKind.u64.wrap ((IntKind.u64.wrap ((IntKind.u64.wrap ((IntKind.u64.wrap ((Go.bits .or .u64 (ji12) (ji15)) * 4294967296)) + ((ji17) / 4294967296))) - (IntKind.u64.wrap (x15_18 * ji10)))) - (IntKind.u64.wrap ((IntKind.u64.wrap (Int.tdiv (IntKind.u64.wrap ((IntKind.u64.wrap ((IntKind.u64.wrap ((Go.bits .or .u64 (ji12) (ji15)) * 4294967296)) + ((ji17) / 4294967296))) - (IntKind.u64.wrap (x15_18 * ji10)))) ((ji10) / 4294967296))) * ((ji10) / 4294967296))))), (IntKind.u64.wrap (Int.tdiv (IntKind.u64.wrap ((IntKind.u64.wrap ((IntKind.u64.wrap ((Go.bits .or .u64 (ji12) (ji15)) * 4294967296)) + ((ji17) / 4294967296))) - (IntKind.u64.wrap (x15_18 * ji10)))) ((ji10) / 4294967296))), (by first | rfl | (simp; done) | (simp only [← hji10, ← hji12, ← hji15, ← hji17] <;> (first | rfl | simp)) | (simp [*]; done)), (by first | rfl | (simp; done) | (simp only [← hji10, ← hji12, ← hji15, ← hji17] <;> (first | rfl | simp)) | (simp [*]; done)), H', ⟨Nat.le_refl _⟩, by repeat (first | exact Drawn0.refl _ | apply Drawn0.step)⟩
          case round =>
           clear H'
           try clear c1
           try clear c2
           try clear p2
           try clear c3
           try clear c4
           try clear c4b0
           try clear c4b1
           try clear c5
           try clear c5b0
           try clear c6
           try clear c6b0
           try clear c6b1
           try clear c9
           try clear c9b0
           try clear c9b1
           try clear c11
           try clear c11b0
           try clear c14
           try clear c14b0
           try clear c14b1
           try clear c16
           try clear c16b0
           try clear c18
           try clear c18b0
           try clear c18b1
           try clear c19
           try clear c21
           try clear c21b0
           try clear c22
           try clear c23
           try clear c23b0
           try clear c24
           try clear c24b0
           try clear c24b1
           try clear p2
           obtain ⟨x16_2, x18_2, rfl, rfl, HA, HK2, ⟨m2, rfl⟩⟩ := hrel
           cases gk with
           | zero => exact absurd HA.out (by simp [bits_Div64.l1])
           | succ k2 =>
            have H := HA.out
            clear HA
            simp only [bits_Div64.l1] at H
            have HC25 := Aside0.mk H
            clear H
            go_upto_region 24 with (fail)
            repeat (go_quiet (fail); go_upto_region 24 with (fail))
            go_cut [113] (fun v113 wc => ∃ (kq : Nat) (x113_24 : Bool), v113 = .bool x113_24 ∧ Aside0 (bits_Div64.j4 kq ji10 ji8 ((ji10) / 4294967296) (Go.bits .and .u64 (ji10) 4294967295) (Go.bits .and .u64 (ji17) 4294967295) x15_18 x16_2 (IntKind.u64.wrap ((IntKind.u64.wrap ((IntKind.u64.wrap ((Go.bits .or .u64 (ji12) (ji15)) * 4294967296)) + ((ji17) / 4294967296))) - (IntKind.u64.wrap (x15_18 * ji10)))) x18_2 x113_24 = some (r1, r2)) ∧ Aside0 (kq ≤ k2) ∧ Drawn0 w wc)
            case first =>
             have H := HC25.out
             clear HC25
             by_cases c26 : x18_2 ≥ 4294967296
             ·
              rw [if_pos c26] at H
              have c26b0 : decide (4294967296 ≤ x18_2) = true := decide_eq_true c26
              clear c26
              (first | rw [c26b0] | (simp only [i64_w, i32_w]; rw [c26b0]) | skip)
              have H' := Aside0.mk H
              clear H
              go_wp2
              repeat (go_quiet (fail); try go_wp2)
              go_meet
              case rel => exact ⟨_, (true), (by first | rfl | (simp; done) | (simp [*]; done)), H', ⟨by have := HJ18.out; have := HK2.out; first | omega | exact Nat.le_refl _⟩, by repeat (first | exact Drawn0.refl _ | apply Drawn0.step)⟩
             ·
              rw [if_neg c26] at H
              have c26b0 : decide (4294967296 ≤ x18_2) = false := decide_eq_false c26
              clear c26
              (first | rw [c26b0] | (simp only [i64_w, i32_w]; rw [c26b0]) | skip)
              have H' := Aside0.mk H
              clear H
              go_wp2
              repeat (go_quiet (fail); try go_wp2)
              go_meet
              case rel => exact ⟨_, (decide ((IntKind.u64.wrap (x18_2 * (Go.bits .and .u64 (ji10) 4294967295))) > (IntKind.u64.wrap ((IntKind.u64.wrap (4294967296 * x16_2)) + (Go.bits .and .u64 (ji17) 4294967295))))), (by first | rfl | (simp; done) | (simp only [← hji10, ← hji17] <;> (first | rfl | simp)) | (simp [*]; done)), H', ⟨by have := HJ18.out; have := HK2.out; first | omega | exact Nat.le_refl _⟩, by repeat (first | exact Drawn0.refl _ | apply Drawn0.step)⟩
            case rest =>
             clear HC25
             try clear c1
             try clear c2
             try clear p2
             try clear c3
             try clear c4
             try clear c4b0
             try clear c4b1
             try clear c5
             try clear c5b0
             try clear c6
             try clear c6b0
             try clear c6b1
             try clear c9
             try clear c9b0
             try clear c9b1
             try clear c11
             try clear c11b0
             try clear c14
             try clear c14b0
             try clear c14b1
             try clear c16
             try clear c16b0
             try clear c18
             try clear c18b0
             try clear c18b1
             try clear c19
             try clear c21
             try clear c21b0
             try clear c22
             try clear c23
             try clear c23b0
             try clear c24
             try clear c24b0
             try clear c24b1
             try clear c26
             try clear c26b0
             try clear p2
             obtain ⟨kq, x113_24, rfl, HA, HJ24, ⟨mc24, rfl⟩⟩ := hcut
             cases kq with
             | zero => exact absurd HA.out (by simp [bits_Div64.j4])
             | succ kj24 =>
              have H := HA.out
              clear HA
              simp only [bits_Div64.j4] at H
              by_cases c27 : x113_24 = true
              ·
               subst c27
               have H1 : (if (IntKind.u64.wrap (x16_2 + ((ji10) / 4294967296))) ≥ 4294967296 then (if 0 ≤ ji8 then (some (IntKind.u64.wrap ((IntKind.u64.wrap (x15_18 * 4294967296)) + (IntKind.u64.wrap (x18_2 - 1))), shr .u64 (IntKind.u64.wrap ((IntKind.u64.wrap ((IntKind.u64.wrap ((IntKind.u64.wrap ((IntKind.u64.wrap ((IntKind.u64.wrap ((Go.bits .or .u64 (ji12) (ji15)) * 4294967296)) + ((ji17) / 4294967296))) - (IntKind.u64.wrap (x15_18 * ji10)))) * 4294967296)) + (Go.bits .and .u64 (ji17) 4294967295))) - (IntKind.u64.wrap ((IntKind.u64.wrap (x18_2 - 1)) * ji10)))) ji8)) else (none)) else (bits_Div64.l1 kj24 ji10 ji8 ((ji10) / 4294967296) (Go.bits .and .u64 (ji10) 4294967295) (Go.bits .and .u64 (ji17) 4294967295) x15_18 (IntKind.u64.wrap (x16_2 + ((ji10) / 4294967296))) (IntKind.u64.wrap ((IntKind.u64.wrap ((IntKind.u64.wrap ((Go.bits .or .u64 (ji12) (ji15)) * 4294967296)) + ((ji17) / 4294967296))) - (IntKind.u64.wrap (x15_18 * ji10)))) (IntKind.u64.wrap (x18_2 - 1)))) = some (r1, r2) := by rw [if_pos rfl] at H; exact H
               clear H
               have H := H1
               clear H1
               by_cases c28 : (IntKind.u64.wrap (x16_2 + ((ji10) / 4294967296))) ≥ 4294967296
               ·
                rw [if_pos c28] at H
                have c28b0 : decide (4294967296 ≤ (IntKind.u64.wrap (x16_2 + ((ji10) / 4294967296)))) = true := decide_eq_true c28
                clear c28
                by_cases c29 : 0 ≤ ji8
                ·
                 rw [if_pos c29] at H
                 have c29b0 := eq_true c29
                 have c29b1 : decide (0 ≤ ji8) = true := decide_eq_true c29
                 clear c29
                 obtain ⟨ji30, hji30⟩ : ∃ j_ : Int, (shr .u64 (IntKind.u64.wrap ((IntKind.u64.wrap ((IntKind.u64.wrap ((IntKind.u64.wrap ((IntKind.u64.wrap ((IntKind.u64.wrap ((Go.bits .or .u64 (ji12) (ji15)) * 4294967296)) + ((ji17) / 4294967296))) - (IntKind.u64.wrap (x15_18 * ji10)))) * 4294967296)) + (Go.bits .and .u64 (ji17) 4294967295))) - (IntKind.u64.wrap ((IntKind.u64.wrap (x18_2 - 1)) * ji10)))) ji8) = j_ := ⟨_, rfl⟩
                 replace H : (some (IntKind.u64.wrap ((IntKind.u64.wrap (x15_18 * 4294967296)) + (IntKind.u64.wrap (x18_2 - 1))), ji30)) = some (r1, r2) := by first | (rw [hji30] at H; exact H) | (simp only [hji30] at H ⊢; exact H)
                 have hji30_ : ((IntKind.u64.wrap ((IntKind.u64.wrap ((IntKind.u64.wrap ((IntKind.u64.wrap ((IntKind.u64.wrap ((IntKind.u64.wrap ((Go.bits .or .u64 (ji12) (ji15)) * 4294967296)) + ((ji17) / 4294967296))) - (IntKind.u64.wrap (x15_18 * ji10)))) * 4294967296)) + (Go.bits .and .u64 (ji17) 4294967295))) - (IntKind.u64.wrap ((IntKind.u64.wrap (x18_2 - 1)) * ji10)))) / 2 ^ min ji8.toNat 64) = ji30 := hji30
                 have hji30z : ji8 ≤ 64 → ((IntKind.u64.wrap ((IntKind.u64.wrap ((IntKind.u64.wrap ((IntKind.u64.wrap ((IntKind.u64.wrap ((IntKind.u64.wrap ((Go.bits .or .u64 (ji12) (ji15)) * 4294967296)) + ((ji17) / 4294967296))) - (IntKind.u64.wrap (x15_18 * ji10)))) * 4294967296)) + (Go.bits .and .u64 (ji17) 4294967295))) - (IntKind.u64.wrap ((IntKind.u64.wrap (x18_2 - 1)) * ji10)))) / 2 ^ ji8.toNat) = ji30 := shr_small hji30
                 simp only [Option.some.injEq, Prod.mk.injEq] at H
                 obtain ⟨rfl, rfl⟩ := H
                 go_wp2
                 repeat (go_quiet (fail); try go_wp2)
                 go_ret2
                 exact ⟨by first | rfl | (simp; done) | (simp only [← hji8, ← hji10, ← hji12, ← hji13, ← hji15, ← hji17, ← hji30] <;> (first | rfl | simp)) | (simp [*]; done), by repeat (first | exact Drawn0.refl _ | apply Drawn0.step)⟩
                ·
                 rw [if_neg c29] at H
                 exact absurd H (by simp)
               ·
                rw [if_neg c28] at H
                have c28b0 : decide (4294967296 ≤ (IntKind.u64.wrap (x16_2 + ((ji10) / 4294967296)))) = false := decide_eq_false c28
                clear c28
                have H' := Aside0.mk H
                clear H
                go_wp2
                repeat (go_quiet (fail); try go_wp2)
                go_roundg kj24
                case measure => have := HJ18.out; have := HK2.out; have := HJ24.out; omega
                case rel => exact ⟨(IntKind.u64.wrap (x16_2 + ((ji10) / 4294967296))), (IntKind.u64.wrap (x18_2 - 1)), (by first | rfl | (simp; done) | (simp only [← hji10] <;> (first | rfl | simp)) | (simp [*]; done)), (by first | rfl | (simp; done) | (simp [*]; done)), H', ⟨by have := HJ18.out; have := HK2.out; have := HJ24.out; omega⟩, by repeat (first | exact Drawn0.refl _ | apply Drawn0.step)⟩
              ·
               replace c27 := Bool.eq_false_iff.mpr c27
               subst c27
               have H1 : (if 0 ≤ ji8 then (some (IntKind.u64.wrap ((IntKind.u64.wrap (x15_18 * 4294967296)) + x18_2), shr .u64 (IntKind.u64.wrap ((IntKind.u64.wrap ((IntKind.u64.wrap ((IntKind.u64.wrap ((IntKind.u64.wrap ((IntKind.u64.wrap ((Go.bits .or .u64 (ji12) (ji15)) * 4294967296)) + ((ji17) / 4294967296))) - (IntKind.u64.wrap (x15_18 * ji10)))) * 4294967296)) + (Go.bits .and .u64 (ji17) 4294967295))) - (IntKind.u64.wrap (x18_2 * ji10)))) ji8)) else (none)) = some (r1, r2) := by rw [if_neg (show ¬ (false = true) by decide)] at H; exact H
               clear H
               have H := H1
               clear H1
               by_cases c31 : 0 ≤ ji8
               ·
                rw [if_pos c31] at H
                have c31b0 := eq_true c31
                have c31b1 : decide (0 ≤ ji8) = true := decide_eq_true c31
                clear c31
                obtain ⟨ji32, hji32⟩ : ∃ j_ : Int, (shr .u64 (IntKind.u64.wrap ((IntKind.u64.wrap ((IntKind.u64.wrap ((IntKind.u64.wrap ((IntKind.u64.wrap ((IntKind.u64.wrap ((Go.bits .or .u64 (ji12) (ji15)) * 4294967296)) + ((ji17) / 4294967296))) - (IntKind.u64.wrap (x15_18 * ji10)))) * 4294967296)) + (Go.bits .and .u64 (ji17) 4294967295))) - (IntKind.u64.wrap (x18_2 * ji10)))) ji8) = j_ := ⟨_, rfl⟩
                replace H : (some (IntKind.u64.wrap ((IntKind.u64.wrap (x15_18 * 4294967296)) + x18_2), ji32)) = some (r1, r2) := by first | (rw [hji32] at H; exact H) | (simp only [hji32] at H ⊢; exact H)
                have hji32_ : ((IntKind.u64.wrap ((IntKind.u64.wrap ((IntKind.u64.wrap ((IntKind.u64.wrap ((IntKind.u64.wrap ((IntKind.u64.wrap ((Go.bits .or .u64 (ji12) (ji15)) * 4294967296)) + ((ji17) / 4294967296))) - (IntKind.u64.wrap (x15_18 * ji10)))) * 4294967296)) + (Go.bits .and .u64 (ji17) 4294967295))) - (IntKind.u64.wrap (x18_2 * ji10)))) / 2 ^ min ji8.toNat 64) = ji32 := hji32
                have hji32z : ji8 ≤ 64 → ((IntKind.u64.wrap ((IntKind.u64.wrap ((IntKind.u64.wrap ((IntKind.u64.wrap ((IntKind.u64.wrap ((IntKind.u64.wrap ((Go.bits .or .u64 (ji12) (ji15)) * 4294967296)) + ((ji17) / 4294967296))) - (IntKind.u64.wrap (x15_18 * ji10)))) * 4294967296)) + (Go.bits .and .u64 (ji17) 4294967295))) - (IntKind.u64.wrap (x18_2 * ji10)))) / 2 ^ ji8.toNat) = ji32 := shr_small hji32
                simp only [Option.some.injEq, Prod.mk.injEq] at H
                obtain ⟨rfl, rfl⟩ := H
                go_wp2
                repeat (go_quiet (fail); try go_wp2)
                go_ret2
                exact ⟨by first | rfl | (simp; done) | (simp only [← hji8, ← hji10, ← hji12, ← hji13, ← hji15, ← hji17, ← hji32] <;> (first | rfl | simp)) | (simp [*]; done), by repeat (first | exact Drawn0.refl _ | apply Drawn0.step)⟩
               ·
                rw [if_neg c31] at H
                exact absurd H (by simp)
     ·
      rw [if_neg c14] at H
      exact absurd H (by simp)
    ·
     rw [if_neg c9] at H
     exact absurd H (by simp)
end Go.Proofs.YtfpnglgipchjhaaDoor.PR
namespace Go.Proofs.YtfpnglgipchjhaaDoor.PR
open Go.RowKit Go.Proofs.YtfpnglgipchjhaaDoorW.PrintWords Go.Proofs.YtfpnglgipchjhaaDoorW.PrintLast Go.Proofs.YtfpnglgipchjhaaDoorW.PrintMore
attribute [local go_sem] max2_int min2_int max_two min_two max_three min_three max_four min_four
set_option linter.unusedVariables false
set_option linter.unusedSimpArgs false
mutual
def dec_Parse.j0 : Nat → ByteArray → Bool → Option (Int × Int)
 | 0, _, _ => none
 | k + 1, x0, x29 => if x29 = true then (some (0, 3)) else ((dec_read.f k x0).bind fun bt118 => (if bt118.2.2 > 5 then (dec_Parse.j1 k (decide (0 < bt118.2.1.length)) bt118.1 bt118.2.1 bt118.2.2) else (dec_Parse.j1 k false bt118.1 bt118.2.1 bt118.2.2)))
def dec_Parse.j1 : Nat → Bool → Bool → List Int → Int → Option (Int × Int)
 | 0, _, _, _, _ => none
 | k + 1, x40, x124000, x124001, x124002 => if x40 = true then (some (0, 2)) else (dec_Parse.l0 k 0 (-4) x124000 x124001 x124002)
def dec_Parse.l0 : Nat → Int → Int → Bool → List Int → Int → Option (Int × Int)
 | 0, _, _, _, _, _ => none
 | k + 1, x7, x8, x124000, x124001, x124002 => if x8 ≤ 0 then ((dec_number_digit.f x124000 x124001 x124002 x8).bind fun t124 => (dec_Parse.l0 k (IntKind.u64.wrap ((IntKind.u64.wrap (10 * x7)) + t124)) (wrap64 (x8 + 1)) x124000 x124001 x124002)) else (dec_Parse.l1 k x7 0 1 x124000 x124001 x124002)
def dec_Parse.l1 : Nat → Int → Int → Int → Bool → List Int → Int → Option (Int × Int)
 | 0, _, _, _, _, _, _ => none
 | k + 1, x7, x9, x10, x124000, x124001, x124002 => if x10 ≤ 17 then ((dec_number_digit.f x124000 x124001 x124002 x10).bind fun t125 => (dec_Parse.l1 k x7 (IntKind.u64.wrap ((IntKind.u64.wrap (10 * x9)) + t125)) (wrap64 (x10 + 1)) x124000 x124001 x124002)) else (if (x124001.length : Int) > 0 then (dec_Parse.j4 k x7 x9 (decide ((wrap64 (x124002 + 17)) < (x124001.length : Int))) x124000 x124001 x124002) else (dec_Parse.j4 k x7 x9 false x124000 x124001 x124002))
def dec_Parse.j4 : Nat → Int → Int → Bool → Bool → List Int → Int → Option (Int × Int)
 | 0, _, _, _, _, _, _ => none
 | k + 1, x7, x9, x11, x124000, x124001, x124002 => (bits_Mul64.f x9 65536).bind fun bt126 => ((bits_Div64.f k bt126.1 bt126.2 100000000000000000).bind fun bt128 => (if bt128.2 > 50000000000000000 then (dec_Parse.j5 k (IntKind.u64.wrap ((IntKind.u64.wrap (x7 * 65536)) + bt128.1)) true x124000 x124001 x124002) else (if bt128.2 = 50000000000000000 then (if x11 = true then (dec_Parse.j5 k (IntKind.u64.wrap ((IntKind.u64.wrap (x7 * 65536)) + bt128.1)) true x124000 x124001 x124002) else (dec_Parse.j5 k (IntKind.u64.wrap ((IntKind.u64.wrap (x7 * 65536)) + bt128.1)) (!x124000) x124000 x124001 x124002)) else (dec_Parse.j5 k (IntKind.u64.wrap ((IntKind.u64.wrap (x7 * 65536)) + bt128.1)) false x124000 x124001 x124002))))
def dec_Parse.j5 : Nat → Int → Bool → Bool → List Int → Int → Option (Int × Int)
 | 0, _, _, _, _, _ => none
 | k + 1, x16, x102, x124000, x124001, x124002 => if x102 = true then (dec_Parse.j6 k (IntKind.u64.wrap (x16 + 1)) x124000 x124001 x124002) else (dec_Parse.j6 k x16 x124000 x124001 x124002)
def dec_Parse.j6 : Nat → Int → Bool → List Int → Int → Option (Int × Int)
 | 0, _, _, _, _ => none
 | k + 1, x16, x124000, x124001, x124002 => if x16 ≥ 4294967296 then (some (0, 2)) else (if x124000 = true then (some (wrap64 (-(wrap64 (x16))), 0)) else (some (wrap64 (x16), 0)))
end
def dec_Parse.f (k : Nat) (a0 : ByteArray) : Option (Int × Int) := (dec_Scan.f k a0 0 true).bind fun bt116 => (if bt116.2 = true then (dec_Parse.j0 k a0 (decide (bt116.1 < (a0.size : Int)))) else (dec_Parse.j0 k a0 true))
theorem dec_Parse.mono_l : ∀ k, (∀ y0 y1, LeO (dec_Parse.j0 k y0 y1) (dec_Parse.j0 (k + 1) y0 y1)) ∧ (∀ y0 y1 y2 y3, LeO (dec_Parse.j1 k y0 y1 y2 y3) (dec_Parse.j1 (k + 1) y0 y1 y2 y3)) ∧ (∀ y0 y1 y2 y3 y4, LeO (dec_Parse.l0 k y0 y1 y2 y3 y4) (dec_Parse.l0 (k + 1) y0 y1 y2 y3 y4)) ∧ (∀ y0 y1 y2 y3 y4 y5, LeO (dec_Parse.l1 k y0 y1 y2 y3 y4 y5) (dec_Parse.l1 (k + 1) y0 y1 y2 y3 y4 y5)) ∧ (∀ y0 y1 y2 y3 y4 y5, LeO (dec_Parse.j4 k y0 y1 y2 y3 y4 y5) (dec_Parse.j4 (k + 1) y0 y1 y2 y3 y4 y5)) ∧ (∀ y0 y1 y2 y3 y4, LeO (dec_Parse.j5 k y0 y1 y2 y3 y4) (dec_Parse.j5 (k + 1) y0 y1 y2 y3 y4)) ∧ (∀ y0 y1 y2 y3, LeO (dec_Parse.j6 k y0 y1 y2 y3) (dec_Parse.j6 (k + 1) y0 y1 y2 y3))
 | 0 => ⟨fun _ _ r h => by simp [dec_Parse.j0] at h, fun _ _ _ _ r h => by simp [dec_Parse.j1] at h, fun _ _ _ _ _ r h => by simp [dec_Parse.l0] at h, fun _ _ _ _ _ _ r h => by simp [dec_Parse.l1] at h, fun _ _ _ _ _ _ r h => by simp [dec_Parse.j4] at h, fun _ _ _ _ _ r h => by simp [dec_Parse.j5] at h, fun _ _ _ _ r h => by simp [dec_Parse.j6] at h⟩
 | k + 1 => by
  obtain ⟨ih0, ih1, ih2, ih3, ih4, ih5, ih6⟩ := dec_Parse.mono_l k
  refine ⟨?_, ?_, ?_, ?_, ?_, ?_, ?_⟩
  ·
   intro y0 y1
   unfold dec_Parse.j0
   repeat' first
   | (with_reducible exact ih0 _ _)
   | (with_reducible exact ih1 _ _ _ _)
   | (with_reducible exact ih2 _ _ _ _ _)
   | (with_reducible exact ih3 _ _ _ _ _ _)
   | (with_reducible exact ih4 _ _ _ _ _ _)
   | (with_reducible exact ih5 _ _ _ _ _)
   | (with_reducible exact ih6 _ _ _ _)
   | (with_reducible exact bits_Div64.mono _ _ _ _)
   | (with_reducible exact dec_Scan.mono _ _ _ _)
   | (with_reducible exact dec_read.mono _ _)
   | (with_reducible exact LeO.refl _)
   | (with_reducible exact LeO.none _)
   | (with_reducible refine LeO.ite ?_ ?_)
   | (with_reducible refine LeO.bind ?_ (fun _ => ?_))
   | exact ih0 _ _
   | exact ih1 _ _ _ _
   | exact ih2 _ _ _ _ _
   | exact ih3 _ _ _ _ _ _
   | exact ih4 _ _ _ _ _ _
   | exact ih5 _ _ _ _ _
   | exact ih6 _ _ _ _
   | exact bits_Div64.mono _ _ _ _
   | exact dec_Scan.mono _ _ _ _
   | exact dec_read.mono _ _
   | exact LeO.none _
   | refine LeO.ite ?_ ?_
   | refine LeO.bind ?_ (fun _ => ?_)
  ·
   intro y0 y1 y2 y3
   unfold dec_Parse.j1
   repeat' first
   | (with_reducible exact ih0 _ _)
   | (with_reducible exact ih1 _ _ _ _)
   | (with_reducible exact ih2 _ _ _ _ _)
   | (with_reducible exact ih3 _ _ _ _ _ _)
   | (with_reducible exact ih4 _ _ _ _ _ _)
   | (with_reducible exact ih5 _ _ _ _ _)
   | (with_reducible exact ih6 _ _ _ _)
   | (with_reducible exact bits_Div64.mono _ _ _ _)
   | (with_reducible exact dec_Scan.mono _ _ _ _)
   | (with_reducible exact dec_read.mono _ _)
   | (with_reducible exact LeO.refl _)
   | (with_reducible exact LeO.none _)
   | (with_reducible refine LeO.ite ?_ ?_)
   | (with_reducible refine LeO.bind ?_ (fun _ => ?_))
   | exact ih0 _ _
   | exact ih1 _ _ _ _
   | exact ih2 _ _ _ _ _
   | exact ih3 _ _ _ _ _ _
   | exact ih4 _ _ _ _ _ _
   | exact ih5 _ _ _ _ _
   | exact ih6 _ _ _ _
   | exact bits_Div64.mono _ _ _ _
   | exact dec_Scan.mono _ _ _ _
   | exact dec_read.mono _ _
   | exact LeO.none _
   | refine LeO.ite ?_ ?_
   | refine LeO.bind ?_ (fun _ => ?_)
  ·
   intro y0 y1 y2 y3 y4
   unfold dec_Parse.l0
   repeat' first
   | (with_reducible exact ih0 _ _)
   | (with_reducible exact ih1 _ _ _ _)
   | (with_reducible exact ih2 _ _ _ _ _)
   | (with_reducible exact ih3 _ _ _ _ _ _)
   | (with_reducible exact ih4 _ _ _ _ _ _)
   | (with_reducible exact ih5 _ _ _ _ _)
   | (with_reducible exact ih6 _ _ _ _)
   | (with_reducible exact bits_Div64.mono _ _ _ _)
   | (with_reducible exact dec_Scan.mono _ _ _ _)
   | (with_reducible exact dec_read.mono _ _)
   | (with_reducible exact LeO.refl _)
   | (with_reducible exact LeO.none _)
   | (with_reducible refine LeO.ite ?_ ?_)
   | (with_reducible refine LeO.bind ?_ (fun _ => ?_))
   | exact ih0 _ _
   | exact ih1 _ _ _ _
   | exact ih2 _ _ _ _ _
   | exact ih3 _ _ _ _ _ _
   | exact ih4 _ _ _ _ _ _
   | exact ih5 _ _ _ _ _
   | exact ih6 _ _ _ _
   | exact bits_Div64.mono _ _ _ _
   | exact dec_Scan.mono _ _ _ _
   | exact dec_read.mono _ _
   | exact LeO.none _
   | refine LeO.ite ?_ ?_
   | refine LeO.bind ?_ (fun _ => ?_)
  ·
   intro y0 y1 y2 y3 y4 y5
   unfold dec_Parse.l1
   repeat' first
   | (with_reducible exact ih0 _ _)
   | (with_reducible exact ih1 _ _ _ _)
   | (with_reducible exact ih2 _ _ _ _ _)
   | (with_reducible exact ih3 _ _ _ _ _ _)
   | (with_reducible exact ih4 _ _ _ _ _ _)
   | (with_reducible exact ih5 _ _ _ _ _)
   | (with_reducible exact ih6 _ _ _ _)
   | (with_reducible exact bits_Div64.mono _ _ _ _)
   | (with_reducible exact dec_Scan.mono _ _ _ _)
   | (with_reducible exact dec_read.mono _ _)
   | (with_reducible exact LeO.refl _)
   | (with_reducible exact LeO.none _)
   | (with_reducible refine LeO.ite ?_ ?_)
   | (with_reducible refine LeO.bind ?_ (fun _ => ?_))
   | exact ih0 _ _
   | exact ih1 _ _ _ _
   | exact ih2 _ _ _ _ _
   | exact ih3 _ _ _ _ _ _
   | exact ih4 _ _ _ _ _ _
   | exact ih5 _ _ _ _ _
   | exact ih6 _ _ _ _
   | exact bits_Div64.mono _ _ _ _
   | exact dec_Scan.mono _ _ _ _
   | exact dec_read.mono _ _
   | exact LeO.none _
   | refine LeO.ite ?_ ?_
   | refine LeO.bind ?_ (fun _ => ?_)
  ·
   intro y0 y1 y2 y3 y4 y5
   unfold dec_Parse.j4
   repeat' first
   | (with_reducible exact ih0 _ _)
   | (with_reducible exact ih1 _ _ _ _)
   | (with_reducible exact ih2 _ _ _ _ _)
   | (with_reducible exact ih3 _ _ _ _ _ _)
   | (with_reducible exact ih4 _ _ _ _ _ _)
   | (with_reducible exact ih5 _ _ _ _ _)
   | (with_reducible exact ih6 _ _ _ _)
   | (with_reducible exact bits_Div64.mono _ _ _ _)
   | (with_reducible exact dec_Scan.mono _ _ _ _)
   | (with_reducible exact dec_read.mono _ _)
   | (with_reducible exact LeO.refl _)
   | (with_reducible exact LeO.none _)
   | (with_reducible refine LeO.ite ?_ ?_)
   | (with_reducible refine LeO.bind ?_ (fun _ => ?_))
   | exact ih0 _ _
   | exact ih1 _ _ _ _
   | exact ih2 _ _ _ _ _
   | exact ih3 _ _ _ _ _ _
   | exact ih4 _ _ _ _ _ _
   | exact ih5 _ _ _ _ _
   | exact ih6 _ _ _ _
   | exact bits_Div64.mono _ _ _ _
   | exact dec_Scan.mono _ _ _ _
   | exact dec_read.mono _ _
   | exact LeO.none _
   | refine LeO.ite ?_ ?_
   | refine LeO.bind ?_ (fun _ => ?_)
  ·
   intro y0 y1 y2 y3 y4
   unfold dec_Parse.j5
   repeat' first
   | (with_reducible exact ih0 _ _)
   | (with_reducible exact ih1 _ _ _ _)
   | (with_reducible exact ih2 _ _ _ _ _)
   | (with_reducible exact ih3 _ _ _ _ _ _)
   | (with_reducible exact ih4 _ _ _ _ _ _)
   | (with_reducible exact ih5 _ _ _ _ _)
   | (with_reducible exact ih6 _ _ _ _)
   | (with_reducible exact bits_Div64.mono _ _ _ _)
   | (with_reducible exact dec_Scan.mono _ _ _ _)
   | (with_reducible exact dec_read.mono _ _)
   | (with_reducible exact LeO.refl _)
   | (with_reducible exact LeO.none _)
   | (with_reducible refine LeO.ite ?_ ?_)
   | (with_reducible refine LeO.bind ?_ (fun _ => ?_))
   | exact ih0 _ _
   | exact ih1 _ _ _ _
   | exact ih2 _ _ _ _ _
   | exact ih3 _ _ _ _ _ _
   | exact ih4 _ _ _ _ _ _
   | exact ih5 _ _ _ _ _
   | exact ih6 _ _ _ _
   | exact bits_Div64.mono _ _ _ _
   | exact dec_Scan.mono _ _ _ _
   | exact dec_read.mono _ _
   | exact LeO.none _
   | refine LeO.ite ?_ ?_
   | refine LeO.bind ?_ (fun _ => ?_)
  ·
   intro y0 y1 y2 y3
   unfold dec_Parse.j6
   repeat' first
   | (with_reducible exact ih0 _ _)
   | (with_reducible exact ih1 _ _ _ _)
   | (with_reducible exact ih2 _ _ _ _ _)
   | (with_reducible exact ih3 _ _ _ _ _ _)
   | (with_reducible exact ih4 _ _ _ _ _ _)
   | (with_reducible exact ih5 _ _ _ _ _)
   | (with_reducible exact ih6 _ _ _ _)
   | (with_reducible exact bits_Div64.mono _ _ _ _)
   | (with_reducible exact dec_Scan.mono _ _ _ _)
   | (with_reducible exact dec_read.mono _ _)
   | (with_reducible exact LeO.refl _)
   | (with_reducible exact LeO.none _)
   | (with_reducible refine LeO.ite ?_ ?_)
   | (with_reducible refine LeO.bind ?_ (fun _ => ?_))
   | exact ih0 _ _
   | exact ih1 _ _ _ _
   | exact ih2 _ _ _ _ _
   | exact ih3 _ _ _ _ _ _
   | exact ih4 _ _ _ _ _ _
   | exact ih5 _ _ _ _ _
   | exact ih6 _ _ _ _
   | exact bits_Div64.mono _ _ _ _
   | exact dec_Scan.mono _ _ _ _
   | exact dec_read.mono _ _
   | exact LeO.none _
   | refine LeO.ite ?_ ?_
   | refine LeO.bind ?_ (fun _ => ?_)
theorem dec_Parse.mono : ∀ a0 k, LeO (dec_Parse.f k a0) (dec_Parse.f (k + 1) a0) := by
 intro a0 k
 obtain ⟨ih0, ih1, ih2, ih3, ih4, ih5, ih6⟩ := dec_Parse.mono_l k
 unfold dec_Parse.f
 repeat' first
   | (with_reducible exact ih0 _ _)
   | (with_reducible exact ih1 _ _ _ _)
   | (with_reducible exact ih2 _ _ _ _ _)
   | (with_reducible exact ih3 _ _ _ _ _ _)
   | (with_reducible exact ih4 _ _ _ _ _ _)
   | (with_reducible exact ih5 _ _ _ _ _)
   | (with_reducible exact ih6 _ _ _ _)
   | (with_reducible exact bits_Div64.mono _ _ _ _)
   | (with_reducible exact dec_Scan.mono _ _ _ _)
   | (with_reducible exact dec_read.mono _ _)
   | (with_reducible exact LeO.refl _)
   | (with_reducible exact LeO.none _)
   | (with_reducible refine LeO.ite ?_ ?_)
   | (with_reducible refine LeO.bind ?_ (fun _ => ?_))
   | exact ih0 _ _
   | exact ih1 _ _ _ _
   | exact ih2 _ _ _ _ _
   | exact ih3 _ _ _ _ _ _
   | exact ih4 _ _ _ _ _ _
   | exact ih5 _ _ _ _ _
   | exact ih6 _ _ _ _
   | exact bits_Div64.mono _ _ _ _
   | exact dec_Scan.mono _ _ _ _
   | exact dec_read.mono _ _
   | exact LeO.none _
   | refine LeO.ite ?_ ?_
   | refine LeO.bind ?_ (fun _ => ?_)
set_option maxHeartbeats 8000000 in
set_option maxRecDepth 100000 in
theorem dec_Parse.calls (k : Nat) (a0 : ByteArray) (r1 : Int) (r2 : Int) (w : World) (hG : Gl w) (h : dec_Parse.f k a0 = some (r1, r2)) :
  Calls Tryd.prog 12 #[.string a0] w fun e w' => e = .returned (.tuple #[.int .i64 r1, .int .i64 r2]) ∧ Below w.heap.size w w' := by
 have hu59 := Tryd.underlying59
 have HG := Aside0.mk hG
 clear hG
 have HB := Aside0.mk (Below.refl w.heap.size w)
 have H : ((dec_Scan.f k a0 0 true).bind fun bt116 => (if bt116.2 = true then (dec_Parse.j0 k a0 (decide (bt116.1 < (a0.size : Int)))) else (dec_Parse.j0 k a0 true))) = some (r1, r2) := h
 clear h
 replace H := Option.bind_eq_some_iff.mp H
 obtain ⟨⟨t116, t117⟩, A20, H⟩ := H
 replace H : (if t117 = true then (dec_Parse.j0 k a0 (decide (t116 < (a0.size : Int)))) else (dec_Parse.j0 k a0 true)) = some (r1, r2) := H
 have A2 := Aside0.mk A20
 clear A20
 have HC3 := Aside0.mk H
 clear H
 go_enter Tryd.func12, Tryd.ntmps12
 go_upto_region 2 with (first | ((with_reducible refine gate_callee (f := 31) rfl ?_); refine goesL_ (some 19) rfl rfl Tryd.func31 (by kernel_rfl) rfl #[.string a0, .int .i64 0, .bool true] rfl (by (try simp only [List.map_toArray, List.map_cons, List.map_nil]); first | done | rfl | (simp only [List.length_drop, List.length_take]; rfl)) ?_; (with_reducible refine (dec_Scan.calls k a0 0 true t116 t117 _ ?side1 A2.out).mono ?_); (case side1 => exact Gl.below HG.out (wq HB.out)); rintro e w' ⟨rfl, ⟨nd, rfl⟩⟩; refine ⟨_, rfl, ?_⟩))
 (try simp only [apz])
 go_cut [29] (fun v29 wc => ∃ (kq : Nat) (x29_2 : Bool), v29 = .bool x29_2 ∧ Aside0 (dec_Parse.j0 kq a0 x29_2 = some (r1, r2)) ∧ Aside0 (kq ≤ k) ∧ Aside0 (Below w.heap.size w wc))
 case first =>
  have H := HC3.out
  clear HC3
  by_cases c4 : t117 = true
  ·
   subst c4
   have H1 : (dec_Parse.j0 k a0 (decide (t116 < (a0.size : Int)))) = some (r1, r2) := by rw [if_pos rfl] at H; exact H
   clear H
   have H := H1
   clear H1
   have H' := Aside0.mk H
   clear H
   go_wp2
   go_meet
   case rel => exact ⟨_, (decide (t116 < (a0.size : Int))), (by first | rfl | (simp; done) | (simp [*]; done)), H', ⟨by first | omega | exact Nat.le_refl _⟩, ⟨by exact wq HB.out⟩⟩
  ·
   replace c4 := Bool.eq_false_iff.mpr c4
   subst c4
   have H1 : (dec_Parse.j0 k a0 true) = some (r1, r2) := by rw [if_neg (show ¬ (false = true) by decide)] at H; exact H
   clear H
   have H := H1
   clear H1
   have H' := Aside0.mk H
   clear H
   go_wp2
   go_meet
   case rel => exact ⟨_, (true), (by first | rfl | (simp; done) | (simp [*]; done)), H', ⟨by first | omega | exact Nat.le_refl _⟩, ⟨by exact wq HB.out⟩⟩
 case rest =>
  clear HC3
  try clear c1
  try clear p2
  try clear c3
  try clear c4
  obtain ⟨kq, x29_2, rfl, HA, HJ2, HB⟩ := hcut
  cases kq with
  | zero => exact absurd HA.out (by simp [dec_Parse.j0])
  | succ kj2 =>
   have H := HA.out
   clear HA
   simp only [dec_Parse.j0] at H
   by_cases c5 : x29_2 = true
   ·
    subst c5
    have H1 : (some (0, 3)) = some (r1, r2) := by rw [if_pos rfl] at H; exact H
    clear H
    have H := H1
    clear H1
    simp only [Option.some.injEq, Prod.mk.injEq] at H
    obtain ⟨rfl, rfl⟩ := H
    go_wp2
    go_ret2
    exact ⟨by first | rfl | (simp [errW_none, errW_some] <;> rfl) | (simp [*, errW_none, errW_some] <;> rfl), by exact wq HB.out⟩
   ·
    replace c5 := Bool.eq_false_iff.mpr c5
    subst c5
    have H1 : ((dec_read.f kj2 a0).bind fun bt118 => (if bt118.2.2 > 5 then (dec_Parse.j1 kj2 (decide (0 < bt118.2.1.length)) bt118.1 bt118.2.1 bt118.2.2) else (dec_Parse.j1 kj2 false bt118.1 bt118.2.1 bt118.2.2))) = some (r1, r2) := by rw [if_neg (show ¬ (false = true) by decide)] at H; exact H
    clear H
    have H := H1
    clear H1
    replace H := Option.bind_eq_some_iff.mp H
    obtain ⟨⟨t118, t119, t122⟩, A60, H⟩ := H
    replace H : (if t122 > 5 then (dec_Parse.j1 kj2 (decide (0 < t119.length)) t118 t119 t122) else (dec_Parse.j1 kj2 false t118 t119 t122)) = some (r1, r2) := H
    have A6 := Aside0.mk A60
    clear A60
    have HC7 := Aside0.mk H
    clear H
    go_upto_region 5 with (first | ((with_reducible refine gate_callee (f := 32) rfl ?_); refine goesL_ (some 31) rfl rfl Tryd.func32 (by kernel_rfl) rfl #[.string a0] rfl (by (try simp only [List.map_toArray, List.map_cons, List.map_nil]); first | done | rfl | (simp only [List.length_drop, List.length_take]; rfl)) ?_; (with_reducible refine (dec_read.calls kj2 a0 t118 t119 t122 _ A6.out).mono ?_); rintro e w8 ⟨v120, rfl, ho0, hb⟩; refine ⟨_, rfl, ?_⟩; have n0_ := Aside0.mk (Kd.R_lower ho0 (below_size (wq HB.out))); have n1_ := Aside0.mk (below_step (wq HB.out) hb); clear HB; have HO121 := n0_; have HB := n1_; clear n0_ n1_; (try clear hb); (try clear hb2); (try clear hk); (try clear hi); (try clear ho0)) | ((with_reducible refine gate_dst (N := 6) rfl ?_); (try (refine gate_guard (by rfl) ?_; dsimp only)); refine box_event ?hg (N := 6) ?hd (cs := #[.bool false, .slice none 0 0, .int .i64 0]) (t := 59) ?hr ?_; (case hd => rfl); (case hg => rfl); (case hr => first | (go_simp; done) | (go_simp; rfl)); intro gb123 hg w9 hbox hb; have n0_ := Aside0.mk (Kd.R_below (rq HO121.out) hb); have n1_ := Aside0.mk (below_step (wq HB.out) hb); have n2_ := Aside0.mk (hbox); have n3_ := Aside0.mk ((by rw [hg]; exact (below_size (wq HB.out)) : w.heap.size ≤ gb123)); have n4_ := n3_; clear HO121 HB; have HO121 := n0_; have HB := n1_; have BK123 := n2_; have GW123 := n3_; have GE123 := n4_; clear n0_ n1_ n2_ n3_ n4_ hb hbox hg; have hcz10_0 : w9.cell? ⟨gb123, 0, none⟩ = some (.bool false) := (blk_cell BK123.out 0).trans rfl; have hcz10_1 : w9.cell? ⟨gb123, 1, none⟩ = some (.slice none 0 0) := (blk_cell BK123.out 1).trans rfl; have hcz10_2 : w9.cell? ⟨gb123, 2, none⟩ = some (.int .i64 0) := (blk_cell BK123.out 2).trans rfl; have hfz10_0 := blk_frozen BK123.out 0; have hfz10_1 := blk_frozen BK123.out 1; have hfz10_2 := blk_frozen BK123.out 2; obtain ⟨Ao11, co11, eo11⟩ := Kd.R_slice HO121.out; subst eo11))
    (try simp only [apz])
    go_cut [40] (fun v40 wc => ∃ (kq : Nat) (x40_6 : Bool), v40 = .bool x40_6 ∧ Aside0 (dec_Parse.j1 kq x40_6 t118 t119 t122 = some (r1, r2)) ∧ Aside0 (kq ≤ kj2) ∧ Aside0 (Kd.R (Kd.int .u8) 5 wc w.heap.size (fun _ => True) (.slice Ao11 t119.length co11) t119) ∧ Aside0 (wc.heap[gb123]? = some (.cells #[.bool t118, (.slice Ao11 t119.length co11), .int .i64 t122] 59 (0, 0))) ∧ Aside0 (Below w.heap.size w wc))
    case first =>
     have H := HC7.out
     clear HC7
     by_cases c12 : t122 > 5
     ·
      rw [if_pos c12] at H
      have c12b0 : decide (5 < t122) = true := decide_eq_true c12
      clear c12
      (first | rw [c12b0] | (simp only [i64_w, i32_w]; rw [c12b0]) | skip)
      have H' := Aside0.mk H
      clear H
      have hcz13_0 : w9.cell? ⟨gb123, 0, none⟩ = some (.bool false) := (blk_cell BK123.out 0).trans rfl
      have hcz13_1 : w9.cell? ⟨gb123, 1, none⟩ = some (.slice none 0 0) := (blk_cell BK123.out 1).trans rfl
      have hcz13_2 : w9.cell? ⟨gb123, 2, none⟩ = some (.int .i64 0) := (blk_cell BK123.out 2).trans rfl
      have hfz13_0 := blk_frozen BK123.out 0
      have hfz13_1 := blk_frozen BK123.out 1
      have hfz13_2 := blk_frozen BK123.out 2
      go_wp2
      go_meet
      case rel => exact ⟨_, (decide (0 < t119.length)), (by first | rfl | (simp; done) | (simp [*]; done)), H', ⟨by have := HJ2.out; first | omega | exact Nat.le_refl _⟩, ⟨by apply rq; exact Kd.R_mono (Kd.R_far (p := ⟨gb123, 2, none⟩) (Kd.R_far (p := ⟨gb123, 1, none⟩) (Kd.R_far (p := ⟨gb123, 0, none⟩) (Kd.R_types HO121.out BK123.out (by decide)) (fun _ hk => hk.2) (.bool t118)) (fun _ hk => hk.2) (.slice Ao11 t119.length co11)) (fun _ hk => hk.2) (.int .i64 t122)) (fun _ hk => trivial)⟩, ⟨by refine bq ?_; refine blk_put (cs := #[.bool t118, .slice Ao11 t119.length co11, .int .i64 0]) ?_ 2 _ rfl; refine bq ?_; refine blk_put (cs := #[.bool t118, .slice none 0 0, .int .i64 0]) ?_ 1 _ rfl; refine bq ?_; refine blk_put (cs := #[.bool false, .slice none 0 0, .int .i64 0]) ?_ 0 _ rfl; refine bq ?_; exact BK123.out⟩, ⟨by exact wq HB.out⟩⟩
     ·
      rw [if_neg c12] at H
      have c12b0 : decide (5 < t122) = false := decide_eq_false c12
      clear c12
      (first | rw [c12b0] | (simp only [i64_w, i32_w]; rw [c12b0]) | skip)
      have H' := Aside0.mk H
      clear H
      have hcz14_0 : w9.cell? ⟨gb123, 0, none⟩ = some (.bool false) := (blk_cell BK123.out 0).trans rfl
      have hcz14_1 : w9.cell? ⟨gb123, 1, none⟩ = some (.slice none 0 0) := (blk_cell BK123.out 1).trans rfl
      have hcz14_2 : w9.cell? ⟨gb123, 2, none⟩ = some (.int .i64 0) := (blk_cell BK123.out 2).trans rfl
      have hfz14_0 := blk_frozen BK123.out 0
      have hfz14_1 := blk_frozen BK123.out 1
      have hfz14_2 := blk_frozen BK123.out 2
      go_wp2
      go_meet
      case rel => exact ⟨_, (false), (by first | rfl | (simp; done) | (simp [*]; done)), H', ⟨by have := HJ2.out; first | omega | exact Nat.le_refl _⟩, ⟨by apply rq; exact Kd.R_mono (Kd.R_far (p := ⟨gb123, 2, none⟩) (Kd.R_far (p := ⟨gb123, 1, none⟩) (Kd.R_far (p := ⟨gb123, 0, none⟩) (Kd.R_types HO121.out BK123.out (by decide)) (fun _ hk => hk.2) (.bool t118)) (fun _ hk => hk.2) (.slice Ao11 t119.length co11)) (fun _ hk => hk.2) (.int .i64 t122)) (fun _ hk => trivial)⟩, ⟨by refine bq ?_; refine blk_put (cs := #[.bool t118, .slice Ao11 t119.length co11, .int .i64 0]) ?_ 2 _ rfl; refine bq ?_; refine blk_put (cs := #[.bool t118, .slice none 0 0, .int .i64 0]) ?_ 1 _ rfl; refine bq ?_; refine blk_put (cs := #[.bool false, .slice none 0 0, .int .i64 0]) ?_ 0 _ rfl; refine bq ?_; exact BK123.out⟩, ⟨by exact wq HB.out⟩⟩
    case rest =>
     clear HC7
     try clear c1
     try clear p2
     try clear c3
     try clear c4
     try clear c5
     try clear c12
     try clear c12b0
     try clear hcz10_0
     try clear hcz10_1
     try clear hcz10_2
     try clear hcz13_0
     try clear hcz13_1
     try clear hcz13_2
     try clear hcz14_0
     try clear hcz14_1
     try clear hcz14_2
     try clear hfz10_0
     try clear hfz10_1
     try clear hfz10_2
     try clear hfz13_0
     try clear hfz13_1
     try clear hfz13_2
     try clear hfz14_0
     try clear hfz14_1
     try clear hfz14_2
     try clear p2
     obtain ⟨kq, x40_6, rfl, HA, HJ6, HO_124001, BK123, HB⟩ := hcut
     cases kq with
     | zero => exact absurd HA.out (by simp [dec_Parse.j1])
     | succ kj6 =>
      have H := HA.out
      clear HA
      simp only [dec_Parse.j1] at H
      by_cases c15 : x40_6 = true
      ·
       subst c15
       have H1 : (some (0, 2)) = some (r1, r2) := by rw [if_pos rfl] at H; exact H
       clear H
       have H := H1
       clear H1
       simp only [Option.some.injEq, Prod.mk.injEq] at H
       obtain ⟨rfl, rfl⟩ := H
       go_wp2
       go_ret2
       exact ⟨by first | rfl | (simp [errW_none, errW_some] <;> rfl) | (simp [*, errW_none, errW_some] <;> rfl), by exact wq HB.out⟩
      ·
       replace c15 := Bool.eq_false_iff.mpr c15
       subst c15
       have H1 : (dec_Parse.l0 kj6 0 (-4) t118 t119 t122) = some (r1, r2) := by rw [if_neg (show ¬ (false = true) by decide)] at H; exact H
       clear H
       have H := H1
       clear H1
       have H' := Aside0.mk H
       clear H
       go_wp2
       go_loopg [7, 8] kj6 (fun kq v7 v8 w' => ∃ (x7_3 : Int) (x8_3 : Int), v7 = .int .u64 x7_3 ∧ v8 = .int .i64 x8_3 ∧ Aside0 (dec_Parse.l0 kq x7_3 x8_3 t118 t119 t122 = some (r1, r2)) ∧ Aside0 (kq ≤ kj6) ∧ Aside0 (Kd.R (Kd.int .u8) 5 w' w.heap.size (fun _ => True) (.slice Ao11 t119.length co11) t119) ∧ Aside0 (w'.heap[gb123]? = some (.cells #[.bool t118, (.slice Ao11 t119.length co11), .int .i64 t122] 59 (0, 0))) ∧ Aside0 (Below w.heap.size w w'))
       case atStart => exact ⟨(0), ((-4)), (by first | rfl | (simp; done) | (simp [*]; done)), (by first | rfl | (simp; done) | (simp [*]; done)), H', ⟨Nat.le_refl _⟩, ⟨by apply rq; exact HO_124001.out⟩, ⟨by refine bq ?_; exact BK123.out⟩, ⟨by exact wq HB.out⟩⟩
       case round =>
        clear H'
        try clear c1
        try clear p2
        try clear c3
        try clear c4
        try clear c5
        try clear c12
        try clear c12b0
        try clear c15
        try clear hcz10_0
        try clear hcz10_1
        try clear hcz10_2
        try clear hcz13_0
        try clear hcz13_1
        try clear hcz13_2
        try clear hcz14_0
        try clear hcz14_1
        try clear hcz14_2
        try clear hfz10_0
        try clear hfz10_1
        try clear hfz10_2
        try clear hfz13_0
        try clear hfz13_1
        try clear hfz13_2
        try clear hfz14_0
        try clear hfz14_1
        try clear hfz14_2
        try clear p2
        obtain ⟨x7_3, x8_3, rfl, rfl, HA, HK3, HO_124001, BK123, HB⟩ := hrel
        cases gk with
        | zero => exact absurd HA.out (by simp [dec_Parse.l0])
        | succ k3 =>
         have H := HA.out
         clear HA
         simp only [dec_Parse.l0] at H
         by_cases c16 : x8_3 ≤ 0
         ·
          rw [if_pos c16] at H
          have c16b0 : decide (x8_3 ≤ 0) = true := decide_eq_true c16
          clear c16
          replace H := Option.bind_eq_some_iff.mp H
          obtain ⟨t124, A170, H⟩ := H
          replace H : (dec_Parse.l0 k3 (IntKind.u64.wrap ((IntKind.u64.wrap (10 * x7_3)) + t124)) (wrap64 (x8_3 + 1)) t118 t119 t122) = some (r1, r2) := H
          have A17 := Aside0.mk A170
          clear A170
          have H' := Aside0.mk H
          clear H
          have hcz18_0 : wr.cell? ⟨gb123, 0, none⟩ = some (.bool t118) := (blk_cell BK123.out 0).trans rfl
          have hcz18_1 : wr.cell? ⟨gb123, 1, none⟩ = some (.slice Ao11 t119.length co11) := (blk_cell BK123.out 1).trans rfl
          have hcz18_2 : wr.cell? ⟨gb123, 2, none⟩ = some (.int .i64 t122) := (blk_cell BK123.out 2).trans rfl
          have hfz18_0 := blk_frozen BK123.out 0
          have hfz18_1 := blk_frozen BK123.out 1
          have hfz18_2 := blk_frozen BK123.out 2
          go_wp2_with (first | ((with_reducible refine gate_callee (f := 33) rfl ?_); refine goesL_ (some 49) rfl rfl Tryd.func33 (by kernel_rfl) rfl #[.agg #[.bool t118, .slice Ao11 t119.length co11, .int .i64 t122], .int .i64 x8_3] rfl (by (try simp only [List.map_toArray, List.map_cons, List.map_nil]); first | done | rfl | (simp only [List.length_drop, List.length_take]; rfl)) ?_; (with_reducible refine (dec_number_digit.calls t118 _ _ t119 t122 x8_3 t124 _ ?side1 ?side2 A17.out).mono ?_); (case side1 => exact cq (Kd.R_reads' HO_124001.out).2.2); (case side2 => exact (Kd.R_reads' HO_124001.out).2.1); rintro e w19 ⟨rfl, hb⟩; refine ⟨_, rfl, ?_⟩; have n0_ := Aside0.mk (Kd.R_below (rq HO_124001.out) hb); have n1_ := Aside0.mk (blk_below (bq BK123.out) hb); have n2_ := Aside0.mk (below_step (wq HB.out) hb); clear HO_124001 BK123 HB; have HO_124001 := n0_; have BK123 := n1_; have HB := n2_; clear n0_ n1_ n2_; (try clear hb); (try clear hb2); (try clear hk); (try clear hi)))
          go_roundg k3
          case measure => have := HJ2.out; have := HJ6.out; have := HK3.out; omega
          case rel => exact ⟨(IntKind.u64.wrap ((IntKind.u64.wrap (10 * x7_3)) + t124)), (wrap64 (x8_3 + 1)), (by first | rfl | (simp; done) | (simp [*]; done)), (by first | rfl | (simp; done) | (simp [*]; done)), H', ⟨by have := HJ2.out; have := HJ6.out; have := HK3.out; omega⟩, ⟨by apply rq; exact HO_124001.out⟩, ⟨by refine bq ?_; exact BK123.out⟩, ⟨by exact wq HB.out⟩⟩
         ·
          rw [if_neg c16] at H
          have c16b0 : decide (x8_3 ≤ 0) = false := decide_eq_false c16
          clear c16
          have H' := Aside0.mk H
          clear H
          go_wp2
          go_loopg [9, 10] k3 (fun kq v9 v10 w' => ∃ (x9_4 : Int) (x10_4 : Int), v9 = .int .u64 x9_4 ∧ v10 = .int .i64 x10_4 ∧ Aside0 (dec_Parse.l1 kq x7_3 x9_4 x10_4 t118 t119 t122 = some (r1, r2)) ∧ Aside0 (kq ≤ k3) ∧ Aside0 (Kd.R (Kd.int .u8) 5 w' w.heap.size (fun _ => True) (.slice Ao11 t119.length co11) t119) ∧ Aside0 (w'.heap[gb123]? = some (.cells #[.bool t118, (.slice Ao11 t119.length co11), .int .i64 t122] 59 (0, 0))) ∧ Aside0 (Below w.heap.size w w'))
          case atStart => exact ⟨(0), (1), (by first | rfl | (simp; done) | (simp [*]; done)), (by first | rfl | (simp; done) | (simp [*]; done)), H', ⟨Nat.le_refl _⟩, ⟨by apply rq; exact HO_124001.out⟩, ⟨by refine bq ?_; exact BK123.out⟩, ⟨by exact wq HB.out⟩⟩
          case round =>
           clear H'
           try clear c1
           try clear p2
           try clear c3
           try clear c4
           try clear c5
           try clear p6
           try clear c12
           try clear c12b0
           try clear c15
           try clear c16
           try clear c16b0
           try clear hcz10_0
           try clear hcz10_1
           try clear hcz10_2
           try clear hcz13_0
           try clear hcz13_1
           try clear hcz13_2
           try clear hcz14_0
           try clear hcz14_1
           try clear hcz14_2
           try clear hcz18_0
           try clear hcz18_1
           try clear hcz18_2
           try clear hfz10_0
           try clear hfz10_1
           try clear hfz10_2
           try clear hfz13_0
           try clear hfz13_1
           try clear hfz13_2
           try clear hfz14_0
           try clear hfz14_1
           try clear hfz14_2
           try clear hfz18_0
           try clear hfz18_1
           try clear hfz18_2
           try clear p2
           obtain ⟨x9_4, x10_4, rfl, rfl, HA, HK4, HO_124001, BK123, HB⟩ := hrel
           cases gk with
           | zero => exact absurd HA.out (by simp [dec_Parse.l1])
           | succ k4 =>
            have H := HA.out
            clear HA
            simp only [dec_Parse.l1] at H
            by_cases c20 : x10_4 ≤ 17
            ·
             rw [if_pos c20] at H
             have c20b0 : decide (x10_4 ≤ 17) = true := decide_eq_true c20
             clear c20
             replace H := Option.bind_eq_some_iff.mp H
             obtain ⟨t125, A210, H⟩ := H
             replace H : (dec_Parse.l1 k4 x7_3 (IntKind.u64.wrap ((IntKind.u64.wrap (10 * x9_4)) + t125)) (wrap64 (x10_4 + 1)) t118 t119 t122) = some (r1, r2) := H
             have A21 := Aside0.mk A210
             clear A210
             have H' := Aside0.mk H
             clear H
             have hcz22_0 : wr.cell? ⟨gb123, 0, none⟩ = some (.bool t118) := (blk_cell BK123.out 0).trans rfl
             have hcz22_1 : wr.cell? ⟨gb123, 1, none⟩ = some (.slice Ao11 t119.length co11) := (blk_cell BK123.out 1).trans rfl
             have hcz22_2 : wr.cell? ⟨gb123, 2, none⟩ = some (.int .i64 t122) := (blk_cell BK123.out 2).trans rfl
             have hfz22_0 := blk_frozen BK123.out 0
             have hfz22_1 := blk_frozen BK123.out 1
             have hfz22_2 := blk_frozen BK123.out 2
             go_wp2_with (first | ((with_reducible refine gate_callee (f := 33) rfl ?_); refine goesL_ (some 59) rfl rfl Tryd.func33 (by kernel_rfl) rfl #[.agg #[.bool t118, .slice Ao11 t119.length co11, .int .i64 t122], .int .i64 x10_4] rfl (by (try simp only [List.map_toArray, List.map_cons, List.map_nil]); first | done | rfl | (simp only [List.length_drop, List.length_take]; rfl)) ?_; (with_reducible refine (dec_number_digit.calls t118 _ _ t119 t122 x10_4 t125 _ ?side1 ?side2 A21.out).mono ?_); (case side1 => exact cq (Kd.R_reads' HO_124001.out).2.2); (case side2 => exact (Kd.R_reads' HO_124001.out).2.1); rintro e w23 ⟨rfl, hb⟩; refine ⟨_, rfl, ?_⟩; have n0_ := Aside0.mk (Kd.R_below (rq HO_124001.out) hb); have n1_ := Aside0.mk (blk_below (bq BK123.out) hb); have n2_ := Aside0.mk (below_step (wq HB.out) hb); clear HO_124001 BK123 HB; have HO_124001 := n0_; have BK123 := n1_; have HB := n2_; clear n0_ n1_ n2_; (try clear hb); (try clear hb2); (try clear hk); (try clear hi)))
             go_roundg k4
             case measure => have := HJ2.out; have := HJ6.out; have := HK3.out; have := HK4.out; omega
             case rel => exact ⟨(IntKind.u64.wrap ((IntKind.u64.wrap (10 * x9_4)) + t125)), (wrap64 (x10_4 + 1)), (by first | rfl | (simp; done) | (simp [*]; done)), (by first | rfl | (simp; done) | (simp [*]; done)), H', ⟨by have := HJ2.out; have := HJ6.out; have := HK3.out; have := HK4.out; omega⟩, ⟨by apply rq; exact HO_124001.out⟩, ⟨by refine bq ?_; exact BK123.out⟩, ⟨by exact wq HB.out⟩⟩
            ·
             rw [if_neg c20] at H
             have c20b0 : decide (x10_4 ≤ 17) = false := decide_eq_false c20
             clear c20
             have HC24 := Aside0.mk H
             clear H
             go_upto_region 17 with (fail)
             go_cut [11] (fun v11 wc => ∃ (kq : Nat) (x11_23 : Bool), v11 = .bool x11_23 ∧ Aside0 (dec_Parse.j4 kq x7_3 x9_4 x11_23 t118 t119 t122 = some (r1, r2)) ∧ Aside0 (kq ≤ k4) ∧ Aside0 (Kd.R (Kd.int .u8) 5 wc w.heap.size (fun _ => True) (.slice Ao11 t119.length co11) t119) ∧ Aside0 (wc.heap[gb123]? = some (.cells #[.bool t118, (.slice Ao11 t119.length co11), .int .i64 t122] 59 (0, 0))) ∧ Aside0 (Below w.heap.size w wc))
             case first =>
              have H := HC24.out
              clear HC24
              by_cases c25 : (t119.length : Int) > 0
              ·
               rw [if_pos c25] at H
               have c25b0 : decide (0 < (t119.length : Int)) = true := decide_eq_true c25
               have c25b1 : decide (0 < t119.length) = true := decide_eq_true (by omega)
               clear c25
               (first | rw [c25b0] | (simp only [i64_w, i32_w]; rw [c25b0]) | skip)
               have H' := Aside0.mk H
               clear H
               have hcz26_0 : wr.cell? ⟨gb123, 0, none⟩ = some (.bool t118) := (blk_cell BK123.out 0).trans rfl
               have hcz26_1 : wr.cell? ⟨gb123, 1, none⟩ = some (.slice Ao11 t119.length co11) := (blk_cell BK123.out 1).trans rfl
               have hcz26_2 : wr.cell? ⟨gb123, 2, none⟩ = some (.int .i64 t122) := (blk_cell BK123.out 2).trans rfl
               have hfz26_0 := blk_frozen BK123.out 0
               have hfz26_1 := blk_frozen BK123.out 1
               have hfz26_2 := blk_frozen BK123.out 2
               go_wp2
               go_meet
               case rel => exact ⟨_, (decide ((wrap64 (t122 + 17)) < (t119.length : Int))), (by first | rfl | (simp; done) | (simp [*]; done)), H', ⟨by have := HJ2.out; have := HJ6.out; have := HK3.out; have := HK4.out; first | omega | exact Nat.le_refl _⟩, ⟨by apply rq; exact HO_124001.out⟩, ⟨by refine bq ?_; exact BK123.out⟩, ⟨by exact wq HB.out⟩⟩
              ·
               rw [if_neg c25] at H
               have c25b0 : decide (0 < (t119.length : Int)) = false := decide_eq_false c25
               have c25b1 : decide (0 < t119.length) = false := decide_eq_false (by omega)
               clear c25
               (first | rw [c25b0] | (simp only [i64_w, i32_w]; rw [c25b0]) | skip)
               have H' := Aside0.mk H
               clear H
               have hcz27_0 : wr.cell? ⟨gb123, 0, none⟩ = some (.bool t118) := (blk_cell BK123.out 0).trans rfl
               have hcz27_1 : wr.cell? ⟨gb123, 1, none⟩ = some (.slice Ao11 t119.length co11) := (blk_cell BK123.out 1).trans rfl
               have hcz27_2 : wr.cell? ⟨gb123, 2, none⟩ = some (.int .i64 t122) := (blk_cell BK123.out 2).trans rfl
               have hfz27_0 := blk_frozen BK123.out 0
               have hfz27_1 := blk_frozen BK123.out 1
               have hfz27_2 := blk_frozen BK123.out 2
               go_wp2
               go_meet
               case rel => exact ⟨_, (false), (by first | rfl | (simp; done) | (simp [*]; done)), H', ⟨by have := HJ2.out; have := HJ6.out; have := HK3.out; have := HK4.out; first | omega | exact Nat.le_refl _⟩, ⟨by apply rq; exact HO_124001.out⟩, ⟨by refine bq ?_; exact BK123.out⟩, ⟨by exact wq HB.out⟩⟩
             case rest =>
              clear HC24
              try clear c1
              try clear c2
              try clear p2
              try clear c3
              try clear c4
              try clear c5
              try clear p6
              try clear c12
              try clear c12b0
              try clear c15
              try clear c16
              try clear c16b0
              try clear c20
              try clear c20b0
              try clear c25
              try clear c25b0
              try clear c25b1
              try clear hcz10_0
              try clear hcz10_1
              try clear hcz10_2
              try clear hcz13_0
              try clear hcz13_1
              try clear hcz13_2
              try clear hcz14_0
              try clear hcz14_1
              try clear hcz14_2
              try clear hcz18_0
              try clear hcz18_1
              try clear hcz18_2
              try clear hcz22_0
              try clear hcz22_1
              try clear hcz22_2
              try clear hcz26_0
              try clear hcz26_1
              try clear hcz26_2
              try clear hcz27_0
              try clear hcz27_1
              try clear hcz27_2
              try clear hfz10_0
              try clear hfz10_1
              try clear hfz10_2
              try clear hfz13_0
              try clear hfz13_1
              try clear hfz13_2
              try clear hfz14_0
              try clear hfz14_1
              try clear hfz14_2
              try clear hfz18_0
              try clear hfz18_1
              try clear hfz18_2
              try clear hfz22_0
              try clear hfz22_1
              try clear hfz22_2
              try clear hfz26_0
              try clear hfz26_1
              try clear hfz26_2
              try clear hfz27_0
              try clear hfz27_1
              try clear hfz27_2
              try clear p2
              try clear p6
              obtain ⟨kq, x11_23, rfl, HA, HJ23, HO_124001, BK123, HB⟩ := hcut
              cases kq with
              | zero => exact absurd HA.out (by simp [dec_Parse.j4])
              | succ kj23 =>
               have H := HA.out
               clear HA
               simp only [dec_Parse.j4] at H
               replace H := Option.bind_eq_some_iff.mp H
               obtain ⟨⟨t126, t127⟩, A280, H⟩ := H
               replace H : ((bits_Div64.f kj23 t126 t127 100000000000000000).bind fun bt128 => (if bt128.2 > 50000000000000000 then (dec_Parse.j5 kj23 (IntKind.u64.wrap ((IntKind.u64.wrap (x7_3 * 65536)) + bt128.1)) true t118 t119 t122) else (if bt128.2 = 50000000000000000 then (if x11_23 = true then (dec_Parse.j5 kj23 (IntKind.u64.wrap ((IntKind.u64.wrap (x7_3 * 65536)) + bt128.1)) true t118 t119 t122) else (dec_Parse.j5 kj23 (IntKind.u64.wrap ((IntKind.u64.wrap (x7_3 * 65536)) + bt128.1)) (!t118) t118 t119 t122)) else (dec_Parse.j5 kj23 (IntKind.u64.wrap ((IntKind.u64.wrap (x7_3 * 65536)) + bt128.1)) false t118 t119 t122)))) = some (r1, r2) := H
               have A28 := Aside0.mk A280
               clear A280
               replace H := Option.bind_eq_some_iff.mp H
               obtain ⟨⟨t128, t129⟩, A290, H⟩ := H
               replace H : (if t129 > 50000000000000000 then (dec_Parse.j5 kj23 (IntKind.u64.wrap ((IntKind.u64.wrap (x7_3 * 65536)) + t128)) true t118 t119 t122) else (if t129 = 50000000000000000 then (if x11_23 = true then (dec_Parse.j5 kj23 (IntKind.u64.wrap ((IntKind.u64.wrap (x7_3 * 65536)) + t128)) true t118 t119 t122) else (dec_Parse.j5 kj23 (IntKind.u64.wrap ((IntKind.u64.wrap (x7_3 * 65536)) + t128)) (!t118) t118 t119 t122)) else (dec_Parse.j5 kj23 (IntKind.u64.wrap ((IntKind.u64.wrap (x7_3 * 65536)) + t128)) false t118 t119 t122))) = some (r1, r2) := H
               have A29 := Aside0.mk A290
               clear A290
               have HC30 := Aside0.mk H
               clear H
               go_upto_region 21 with (first | ((with_reducible refine gate_callee (f := 34) rfl ?_); refine goesL_ (some 76) rfl rfl Tryd.func34 (by kernel_rfl) rfl #[.int .u64 x9_4, .int .u64 65536] rfl (by (try simp only [List.map_toArray, List.map_cons, List.map_nil]); first | done | rfl | (simp only [List.length_drop, List.length_take]; rfl)) ?_; (with_reducible refine (bits_Mul64.calls x9_4 65536 t126 t127 _ A28.out).mono ?_); rintro e w' ⟨rfl, ⟨nd, rfl⟩⟩; refine ⟨_, rfl, ?_⟩) | ((with_reducible refine gate_callee (f := 35) rfl ?_); refine goesL_ (some 82) rfl rfl Tryd.func35 (by kernel_rfl) rfl #[.int .u64 t126, .int .u64 t127, .int .u64 100000000000000000] rfl (by (try simp only [List.map_toArray, List.map_cons, List.map_nil]); first | done | rfl | (simp only [List.length_drop, List.length_take]; rfl)) ?_; (with_reducible refine (bits_Div64.calls kj23 t126 t127 100000000000000000 t128 t129 _ A29.out).mono ?_); rintro e w' ⟨rfl, ⟨nd, rfl⟩⟩; refine ⟨_, rfl, ?_⟩))
               (try simp only [apz])
               go_cut [102] (fun v102 wc => ∃ (kq : Nat) (x102_29 : Bool), v102 = .bool x102_29 ∧ Aside0 (dec_Parse.j5 kq (IntKind.u64.wrap ((IntKind.u64.wrap (x7_3 * 65536)) + t128)) x102_29 t118 t119 t122 = some (r1, r2)) ∧ Aside0 (kq ≤ kj23) ∧ Aside0 (Kd.R (Kd.int .u8) 5 wc w.heap.size (fun _ => True) (.slice Ao11 t119.length co11) t119) ∧ Aside0 (wc.heap[gb123]? = some (.cells #[.bool t118, (.slice Ao11 t119.length co11), .int .i64 t122] 59 (0, 0))) ∧ Aside0 (Below w.heap.size w wc))
               case first =>
                have H := HC30.out
                clear HC30
                by_cases c31 : t129 > 50000000000000000
                ·
                 rw [if_pos c31] at H
                 have c31b0 : decide (50000000000000000 < t129) = true := decide_eq_true c31
                 clear c31
                 (first | rw [c31b0] | (simp only [i64_w, i32_w]; rw [c31b0]) | skip)
                 have H' := Aside0.mk H
                 clear H
                 go_wp2
                 go_meet
                 case rel => exact ⟨_, (true), (by first | rfl | (simp; done) | (simp [*]; done)), H', ⟨by have := HJ2.out; have := HJ6.out; have := HK3.out; have := HK4.out; have := HJ23.out; first | omega | exact Nat.le_refl _⟩, ⟨by apply rq; exact HO_124001.out⟩, ⟨by refine bq ?_; exact BK123.out⟩, ⟨by exact wq HB.out⟩⟩
                ·
                 rw [if_neg c31] at H
                 have c31b0 : decide (50000000000000000 < t129) = false := decide_eq_false c31
                 clear c31
                 (first | rw [c31b0] | (simp only [i64_w, i32_w]; rw [c31b0]) | skip)
                 by_cases c32 : t129 = 50000000000000000
                 ·
                  rw [if_pos c32] at H
                  have c32b0 : (t129 == 50000000000000000) = true := beq_iff_eq.mpr c32
                  have c32b1 : (t129 != 50000000000000000) = false := bne_eq_false_iff_eq.mpr c32
                  clear c32
                  by_cases c33 : x11_23 = true
                  ·
                   subst c33
                   have H1 : (dec_Parse.j5 kj23 (IntKind.u64.wrap ((IntKind.u64.wrap (x7_3 * 65536)) + t128)) true t118 t119 t122) = some (r1, r2) := by rw [if_pos rfl] at H; exact H
                   clear H
                   have H := H1
                   clear H1
                   have H' := Aside0.mk H
                   clear H
                   go_wp2
                   go_meet
                   case rel => exact ⟨_, (true), (by first | rfl | (simp; done) | (simp [*]; done)), H', ⟨by have := HJ2.out; have := HJ6.out; have := HK3.out; have := HK4.out; have := HJ23.out; first | omega | exact Nat.le_refl _⟩, ⟨by apply rq; exact HO_124001.out⟩, ⟨by refine bq ?_; exact BK123.out⟩, ⟨by exact wq HB.out⟩⟩
                  ·
                   replace c33 := Bool.eq_false_iff.mpr c33
                   subst c33
                   have H1 : (dec_Parse.j5 kj23 (IntKind.u64.wrap ((IntKind.u64.wrap (x7_3 * 65536)) + t128)) (!t118) t118 t119 t122) = some (r1, r2) := by rw [if_neg (show ¬ (false = true) by decide)] at H; exact H
                   clear H
                   have H := H1
                   clear H1
                   have H' := Aside0.mk H
                   clear H
                   have hcz34_0 : wc.cell? ⟨gb123, 0, none⟩ = some (.bool t118) := (blk_cell BK123.out 0).trans rfl
                   have hcz34_1 : wc.cell? ⟨gb123, 1, none⟩ = some (.slice Ao11 t119.length co11) := (blk_cell BK123.out 1).trans rfl
                   have hcz34_2 : wc.cell? ⟨gb123, 2, none⟩ = some (.int .i64 t122) := (blk_cell BK123.out 2).trans rfl
                   have hfz34_0 := blk_frozen BK123.out 0
                   have hfz34_1 := blk_frozen BK123.out 1
                   have hfz34_2 := blk_frozen BK123.out 2
                   go_wp2
                   go_meet
                   case rel => exact ⟨_, (!t118), (by first | rfl | (simp; done) | (simp [*]; done)), H', ⟨by have := HJ2.out; have := HJ6.out; have := HK3.out; have := HK4.out; have := HJ23.out; first | omega | exact Nat.le_refl _⟩, ⟨by apply rq; exact HO_124001.out⟩, ⟨by refine bq ?_; exact BK123.out⟩, ⟨by exact wq HB.out⟩⟩
                 ·
                  rw [if_neg c32] at H
                  have c32b0 : (t129 == 50000000000000000) = false := beq_eq_false_iff_ne.mpr c32
                  have c32b1 : (t129 != 50000000000000000) = true := bne_iff_ne.mpr c32
                  have H' := Aside0.mk H
                  clear H
                  go_wp2
                  go_meet
                  case rel => exact ⟨_, (false), (by first | rfl | (simp; done) | (simp [*]; done)), H', ⟨by have := HJ2.out; have := HJ6.out; have := HK3.out; have := HK4.out; have := HJ23.out; first | omega | exact Nat.le_refl _⟩, ⟨by apply rq; exact HO_124001.out⟩, ⟨by refine bq ?_; exact BK123.out⟩, ⟨by exact wq HB.out⟩⟩
               case rest =>
                clear HC30
                try clear c1
                try clear c2
                try clear p2
                try clear c3
                try clear c4
                try clear c5
                try clear p6
                try clear c12
                try clear c12b0
                try clear c15
                try clear c16
                try clear c16b0
                try clear c20
                try clear c20b0
                try clear c25
                try clear c25b0
                try clear c25b1
                try clear c31
                try clear c31b0
                try clear c32
                try clear c32b0
                try clear c32b1
                try clear c33
                try clear c34
                try clear hcz10_0
                try clear hcz10_1
                try clear hcz10_2
                try clear hcz13_0
                try clear hcz13_1
                try clear hcz13_2
                try clear hcz14_0
                try clear hcz14_1
                try clear hcz14_2
                try clear hcz18_0
                try clear hcz18_1
                try clear hcz18_2
                try clear hcz22_0
                try clear hcz22_1
                try clear hcz22_2
                try clear hcz26_0
                try clear hcz26_1
                try clear hcz26_2
                try clear hcz27_0
                try clear hcz27_1
                try clear hcz27_2
                try clear hcz34_0
                try clear hcz34_1
                try clear hcz34_2
                try clear hfz10_0
                try clear hfz10_1
                try clear hfz10_2
                try clear hfz13_0
                try clear hfz13_1
                try clear hfz13_2
                try clear hfz14_0
                try clear hfz14_1
                try clear hfz14_2
                try clear hfz18_0
                try clear hfz18_1
                try clear hfz18_2
                try clear hfz22_0
                try clear hfz22_1
                try clear hfz22_2
                try clear hfz26_0
                try clear hfz26_1
                try clear hfz26_2
                try clear hfz27_0
                try clear hfz27_1
                try clear hfz27_2
                try clear hfz34_0
                try clear hfz34_1
                try clear hfz34_2
                try clear p2
                try clear p6
                obtain ⟨kq, x102_29, rfl, HA, HJ29, HO_124001, BK123, HB⟩ := hcut
                cases kq with
                | zero => exact absurd HA.out (by simp [dec_Parse.j5])
                | succ kj29 =>
                 have H := HA.out
                 clear HA
                 simp only [dec_Parse.j5] at H
                 have HC35 := Aside0.mk H
                 clear H
                 go_upto_if 102 with (fail)
                 go_cut [16] (fun v16 wc => ∃ (kq : Nat) (x16_34 : Int), v16 = .int .u64 x16_34 ∧ Aside0 (dec_Parse.j6 kq x16_34 t118 t119 t122 = some (r1, r2)) ∧ Aside0 (kq ≤ kj29) ∧ Aside0 (Kd.R (Kd.int .u8) 5 wc w.heap.size (fun _ => True) (.slice Ao11 t119.length co11) t119) ∧ Aside0 (wc.heap[gb123]? = some (.cells #[.bool t118, (.slice Ao11 t119.length co11), .int .i64 t122] 59 (0, 0))) ∧ Aside0 (Below w.heap.size w wc))
                 case first =>
                  have H := HC35.out
                  clear HC35
                  by_cases c36 : x102_29 = true
                  ·
                   subst c36
                   have H1 : (dec_Parse.j6 kj29 (IntKind.u64.wrap ((IntKind.u64.wrap ((IntKind.u64.wrap (x7_3 * 65536)) + t128)) + 1)) t118 t119 t122) = some (r1, r2) := by rw [if_pos rfl] at H; exact H
                   clear H
                   have H := H1
                   clear H1
                   have H' := Aside0.mk H
                   clear H
                   go_wp2
                   go_meet
                   case rel => exact ⟨_, (IntKind.u64.wrap ((IntKind.u64.wrap ((IntKind.u64.wrap (x7_3 * 65536)) + t128)) + 1)), (by first | rfl | (simp; done) | (simp [*]; done)), H', ⟨by have := HJ2.out; have := HJ6.out; have := HK3.out; have := HK4.out; have := HJ23.out; have := HJ29.out; first | omega | exact Nat.le_refl _⟩, ⟨by apply rq; exact HO_124001.out⟩, ⟨by refine bq ?_; exact BK123.out⟩, ⟨by exact wq HB.out⟩⟩
                  ·
                   replace c36 := Bool.eq_false_iff.mpr c36
                   subst c36
                   have H1 : (dec_Parse.j6 kj29 (IntKind.u64.wrap ((IntKind.u64.wrap (x7_3 * 65536)) + t128)) t118 t119 t122) = some (r1, r2) := by rw [if_neg (show ¬ (false = true) by decide)] at H; exact H
                   clear H
                   have H := H1
                   clear H1
                   have H' := Aside0.mk H
                   clear H
                   go_wp2
                   go_meet
                   case rel => exact ⟨_, ((IntKind.u64.wrap ((IntKind.u64.wrap (x7_3 * 65536)) + t128))), (by first | rfl | (simp; done) | (simp [*]; done)), H', ⟨by have := HJ2.out; have := HJ6.out; have := HK3.out; have := HK4.out; have := HJ23.out; have := HJ29.out; first | omega | exact Nat.le_refl _⟩, ⟨by apply rq; exact HO_124001.out⟩, ⟨by refine bq ?_; exact BK123.out⟩, ⟨by exact wq HB.out⟩⟩
                 case rest =>
                  clear HC35
                  try clear c1
                  try clear c2
                  try clear p2
                  try clear c3
                  try clear c4
                  try clear c5
                  try clear p6
                  try clear c12
                  try clear c12b0
                  try clear c15
                  try clear c16
                  try clear c16b0
                  try clear c20
                  try clear c20b0
                  try clear c25
                  try clear c25b0
                  try clear c25b1
                  try clear c31
                  try clear c31b0
                  try clear c32
                  try clear c32b0
                  try clear c32b1
                  try clear c33
                  try clear c34
                  try clear c35
                  try clear c36
                  try clear hcz10_0
                  try clear hcz10_1
                  try clear hcz10_2
                  try clear hcz13_0
                  try clear hcz13_1
                  try clear hcz13_2
                  try clear hcz14_0
                  try clear hcz14_1
                  try clear hcz14_2
                  try clear hcz18_0
                  try clear hcz18_1
                  try clear hcz18_2
                  try clear hcz22_0
                  try clear hcz22_1
                  try clear hcz22_2
                  try clear hcz26_0
                  try clear hcz26_1
                  try clear hcz26_2
                  try clear hcz27_0
                  try clear hcz27_1
                  try clear hcz27_2
                  try clear hcz34_0
                  try clear hcz34_1
                  try clear hcz34_2
                  try clear hfz10_0
                  try clear hfz10_1
                  try clear hfz10_2
                  try clear hfz13_0
                  try clear hfz13_1
                  try clear hfz13_2
                  try clear hfz14_0
                  try clear hfz14_1
                  try clear hfz14_2
                  try clear hfz18_0
                  try clear hfz18_1
                  try clear hfz18_2
                  try clear hfz22_0
                  try clear hfz22_1
                  try clear hfz22_2
                  try clear hfz26_0
                  try clear hfz26_1
                  try clear hfz26_2
                  try clear hfz27_0
                  try clear hfz27_1
                  try clear hfz27_2
                  try clear hfz34_0
                  try clear hfz34_1
                  try clear hfz34_2
                  try clear p2
                  try clear p6
                  obtain ⟨kq, x16_34, rfl, HA, HJ34, HO_124001, BK123, HB⟩ := hcut
                  cases kq with
                  | zero => exact absurd HA.out (by simp [dec_Parse.j6])
                  | succ kj34 =>
                   have H := HA.out
                   clear HA
                   simp only [dec_Parse.j6] at H
                   by_cases c37 : x16_34 ≥ 4294967296
                   ·
                    rw [if_pos c37] at H
                    have c37b0 : decide (4294967296 ≤ x16_34) = true := decide_eq_true c37
                    clear c37
                    simp only [Option.some.injEq, Prod.mk.injEq] at H
                    obtain ⟨rfl, rfl⟩ := H
                    go_wp2
                    go_ret2
                    exact ⟨by first | rfl | (simp [errW_none, errW_some] <;> rfl) | (simp [*, errW_none, errW_some] <;> rfl), by exact wq HB.out⟩
                   ·
                    rw [if_neg c37] at H
                    have c37b0 : decide (4294967296 ≤ x16_34) = false := decide_eq_false c37
                    clear c37
                    by_cases c38 : t118 = true
                    ·
                     subst c38
                     have H1 : (some (wrap64 (-(wrap64 (x16_34))), 0)) = some (r1, r2) := by rw [if_pos rfl] at H; exact H
                     clear H
                     have H := H1
                     clear H1
                     simp only [Option.some.injEq, Prod.mk.injEq] at H
                     obtain ⟨rfl, rfl⟩ := H
                     have hcz39_0 : wc.cell? ⟨gb123, 0, none⟩ = some (.bool true) := (blk_cell BK123.out 0).trans rfl
                     have hcz39_1 : wc.cell? ⟨gb123, 1, none⟩ = some (.slice Ao11 t119.length co11) := (blk_cell BK123.out 1).trans rfl
                     have hcz39_2 : wc.cell? ⟨gb123, 2, none⟩ = some (.int .i64 t122) := (blk_cell BK123.out 2).trans rfl
                     have hfz39_0 := blk_frozen BK123.out 0
                     have hfz39_1 := blk_frozen BK123.out 1
                     have hfz39_2 := blk_frozen BK123.out 2
                     go_wp2
                     go_ret2
                     exact ⟨by first | rfl | (simp [errW_none, errW_some] <;> rfl) | (simp [*, errW_none, errW_some] <;> rfl), by exact wq HB.out⟩
                    ·
                     replace c38 := Bool.eq_false_iff.mpr c38
                     subst c38
                     have H1 : (some (wrap64 (x16_34), 0)) = some (r1, r2) := by rw [if_neg (show ¬ (false = true) by decide)] at H; exact H
                     clear H
                     have H := H1
                     clear H1
                     simp only [Option.some.injEq, Prod.mk.injEq] at H
                     obtain ⟨rfl, rfl⟩ := H
                     have hcz40_0 : wc.cell? ⟨gb123, 0, none⟩ = some (.bool false) := (blk_cell BK123.out 0).trans rfl
                     have hcz40_1 : wc.cell? ⟨gb123, 1, none⟩ = some (.slice Ao11 t119.length co11) := (blk_cell BK123.out 1).trans rfl
                     have hcz40_2 : wc.cell? ⟨gb123, 2, none⟩ = some (.int .i64 t122) := (blk_cell BK123.out 2).trans rfl
                     have hfz40_0 := blk_frozen BK123.out 0
                     have hfz40_1 := blk_frozen BK123.out 1
                     have hfz40_2 := blk_frozen BK123.out 2
                     go_wp2
                     go_ret2
                     exact ⟨by first | rfl | (simp [errW_none, errW_some] <;> rfl) | (simp [*, errW_none, errW_some] <;> rfl), by exact wq HB.out⟩
end Go.Proofs.YtfpnglgipchjhaaDoor.PR
namespace Go.Proofs.YtfpnglgipchjhaaDoor.PR
open Go.RowKit Go.Proofs.YtfpnglgipchjhaaDoorW.PrintWords Go.Proofs.YtfpnglgipchjhaaDoorW.PrintLast Go.Proofs.YtfpnglgipchjhaaDoorW.PrintMore
attribute [local go_sem] max2_int min2_int max_two min_two max_three min_three max_four min_four
set_option linter.unusedVariables false
set_option linter.unusedSimpArgs false
def pointillistlaw04_wakes.f (k : Nat)  : Option (Bool) := (dec_Parse.f k (⟨#[49, 46, 53]⟩ : ByteArray)).bind fun bt130 => ((dec_Parse.f k (⟨#[45, 46, 53, 101, 49]⟩ : ByteArray)).bind fun bt132 => ((dec_Parse.f k (⟨#[49, 101]⟩ : ByteArray)).bind fun bt134 => ((dec_Parse.f k (⟨#[54, 53, 53, 51, 54]⟩ : ByteArray)).bind fun bt136 => (if bt130.1 = 98304 then (if bt132.1 = (-327680) then (if bt130.2 = 0 then (if bt132.2 = 0 then (if bt134.2 = 3 then (some (bt136.2 == 2)) else (some false)) else (some false)) else (some false)) else (some false)) else (some false)))))
theorem pointillistlaw04_wakes.mono : ∀ k, LeO (pointillistlaw04_wakes.f k ) (pointillistlaw04_wakes.f (k + 1) ) := by
 intro  k
 unfold pointillistlaw04_wakes.f
 repeat' first
   | (with_reducible exact dec_Parse.mono _ _)
   | (with_reducible exact LeO.refl _)
   | (with_reducible exact LeO.none _)
   | (with_reducible refine LeO.ite ?_ ?_)
   | (with_reducible refine LeO.bind ?_ (fun _ => ?_))
   | exact dec_Parse.mono _ _
   | exact LeO.none _
   | refine LeO.ite ?_ ?_
   | refine LeO.bind ?_ (fun _ => ?_)
end Go.Proofs.YtfpnglgipchjhaaDoor.PR
