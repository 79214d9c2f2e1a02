import Derived.ArgAppend
import Derived.Below
import Derived.BigQuiet
import Derived.Deep.AppendLies
import Derived.Deep.CutBlock
import Derived.Deep.DeepCutAuto
import Derived.Deep.Draws
import Derived.Deep.LoopGhost
import Derived.Deep.OwnRows
import Derived.Deep.QuietTactic
import Derived.Deep.RegionHeld3
import Derived.KernelRfl
import Derived.Laws.Bits64
import Derived.Laws.BitsAllLaws
import Derived.Laws.BitsLemmas
import Derived.Laws.BytesArg
import Derived.Laws.Externs
import Derived.Laws.IdiomCopy
import Derived.Laws.MakeOwn
import Derived.Laws.OwnMore
import Derived.Laws.Rows
import Derived.Laws.Slices
import Derived.Laws.StructEq
import Derived.Laws.World
import Derived.Lib.AppendStr
import Derived.Lib.ConvBytes
import Derived.Lib.Mul64
import Derived.Maps.AppendAt
import Derived.OrdersHeld
import Derived.OwnWalk
import Derived.RowKit
import Derived.RowKit3
import Derived.Tactics
import Derived.WalkKit
import Derived.WalkLawsBesides
import Derived.WideLaws
import Derived.Test.YtfpnglgipchjhaaDoorLen64
import Derived.Test.YtfpnglgipchjhaaDoorProg
import Derived.Test.YtfpnglgipchjhaaDoorZa0
import Derived.Test.YtfpnglgipchjhaaDoorZa1
import Derived.Test.YtfpnglgipchjhaaDoorZa2
-- What this claim needs of the words, the printed walks and this session's texts (merged and cut by wip/prune.py).
namespace Go.Proofs.YtfpnglgipchjhaaDoor.PR
open Go.RowKit Go.Proofs.YtfpnglgipchjhaaDoorW.PrintWords Go.Proofs.YtfpnglgipchjhaaDoorW.PrintLast Go.Proofs.YtfpnglgipchjhaaDoorW.PrintMore
attribute [local go_sem] max2_int min2_int max_two min_two max_three min_three max_four min_four
set_option linter.unusedVariables false
set_option linter.unusedSimpArgs false
theorem bits_Div64.mono_l : ∀ k, (∀ y0 y1 y2 y3 y4 y5 y6 y7, LeO (bits_Div64.j2 k y0 y1 y2 y3 y4 y5 y6 y7) (bits_Div64.j2 (k + 1) y0 y1 y2 y3 y4 y5 y6 y7)) ∧ (∀ y0 y1 y2 y3 y4 y5 y6 y7 y8, LeO (bits_Div64.l1 k y0 y1 y2 y3 y4 y5 y6 y7 y8) (bits_Div64.l1 (k + 1) y0 y1 y2 y3 y4 y5 y6 y7 y8)) ∧ (∀ y0 y1 y2 y3 y4 y5 y6 y7 y8 y9, LeO (bits_Div64.j4 k y0 y1 y2 y3 y4 y5 y6 y7 y8 y9) (bits_Div64.j4 (k + 1) y0 y1 y2 y3 y4 y5 y6 y7 y8 y9)) ∧ (∀ y0 y1 y2 y3 y4 y5 y6 y7 y8, LeO (bits_Div64.l0 k y0 y1 y2 y3 y4 y5 y6 y7 y8) (bits_Div64.l0 (k + 1) y0 y1 y2 y3 y4 y5 y6 y7 y8)) ∧ (∀ y0 y1 y2 y3 y4 y5 y6 y7 y8 y9, LeO (bits_Div64.j1 k y0 y1 y2 y3 y4 y5 y6 y7 y8 y9) (bits_Div64.j1 (k + 1) y0 y1 y2 y3 y4 y5 y6 y7 y8 y9))
 | 0 => ⟨fun _ _ _ _ _ _ _ _ r h => by simp [bits_Div64.j2] at h, fun _ _ _ _ _ _ _ _ _ r h => by simp [bits_Div64.l1] at h, fun _ _ _ _ _ _ _ _ _ _ r h => by simp [bits_Div64.j4] at h, fun _ _ _ _ _ _ _ _ _ r h => by simp [bits_Div64.l0] at h, fun _ _ _ _ _ _ _ _ _ _ r h => by simp [bits_Div64.j1] at h⟩
 | k + 1 => by
  obtain ⟨ih0, ih1, ih2, ih3, ih4⟩ := bits_Div64.mono_l k
  refine ⟨?_, ?_, ?_, ?_, ?_⟩
  ·
   intro y0 y1 y2 y3 y4 y5 y6 y7
   unfold bits_Div64.j2
   repeat' first
   | (with_reducible exact ih0 _ _ _ _ _ _ _ _)
   | (with_reducible exact ih1 _ _ _ _ _ _ _ _ _)
   | (with_reducible exact ih2 _ _ _ _ _ _ _ _ _ _)
   | (with_reducible exact ih3 _ _ _ _ _ _ _ _ _)
   | (with_reducible exact ih4 _ _ _ _ _ _ _ _ _ _)
   | (with_reducible exact LeO.refl _)
   | (with_reducible exact LeO.none _)
   | (with_reducible refine LeO.ite ?_ ?_)
   | (with_reducible refine LeO.bind ?_ (fun _ => ?_))
   | exact ih0 _ _ _ _ _ _ _ _
   | exact ih1 _ _ _ _ _ _ _ _ _
   | exact ih2 _ _ _ _ _ _ _ _ _ _
   | exact ih3 _ _ _ _ _ _ _ _ _
   | exact ih4 _ _ _ _ _ _ _ _ _ _
   | exact LeO.none _
   | refine LeO.ite ?_ ?_
   | refine LeO.bind ?_ (fun _ => ?_)
  ·
   intro y0 y1 y2 y3 y4 y5 y6 y7 y8
   unfold bits_Div64.l1
   repeat' first
   | (with_reducible exact ih0 _ _ _ _ _ _ _ _)
   | (with_reducible exact ih1 _ _ _ _ _ _ _ _ _)
   | (with_reducible exact ih2 _ _ _ _ _ _ _ _ _ _)
   | (with_reducible exact ih3 _ _ _ _ _ _ _ _ _)
   | (with_reducible exact ih4 _ _ _ _ _ _ _ _ _ _)
   | (with_reducible exact LeO.refl _)
   | (with_reducible exact LeO.none _)
   | (with_reducible refine LeO.ite ?_ ?_)
   | (with_reducible refine LeO.bind ?_ (fun _ => ?_))
   | exact ih0 _ _ _ _ _ _ _ _
   | exact ih1 _ _ _ _ _ _ _ _ _
   | exact ih2 _ _ _ _ _ _ _ _ _ _
   | exact ih3 _ _ _ _ _ _ _ _ _
   | exact ih4 _ _ _ _ _ _ _ _ _ _
   | exact LeO.none _
   | refine LeO.ite ?_ ?_
   | refine LeO.bind ?_ (fun _ => ?_)
  ·
   intro y0 y1 y2 y3 y4 y5 y6 y7 y8 y9
   unfold bits_Div64.j4
   repeat' first
   | (with_reducible exact ih0 _ _ _ _ _ _ _ _)
   | (with_reducible exact ih1 _ _ _ _ _ _ _ _ _)
   | (with_reducible exact ih2 _ _ _ _ _ _ _ _ _ _)
   | (with_reducible exact ih3 _ _ _ _ _ _ _ _ _)
   | (with_reducible exact ih4 _ _ _ _ _ _ _ _ _ _)
   | (with_reducible exact LeO.refl _)
   | (with_reducible exact LeO.none _)
   | (with_reducible refine LeO.ite ?_ ?_)
   | (with_reducible refine LeO.bind ?_ (fun _ => ?_))
   | exact ih0 _ _ _ _ _ _ _ _
   | exact ih1 _ _ _ _ _ _ _ _ _
   | exact ih2 _ _ _ _ _ _ _ _ _ _
   | exact ih3 _ _ _ _ _ _ _ _ _
   | exact ih4 _ _ _ _ _ _ _ _ _ _
   | exact LeO.none _
   | refine LeO.ite ?_ ?_
   | refine LeO.bind ?_ (fun _ => ?_)
  ·
   intro y0 y1 y2 y3 y4 y5 y6 y7 y8
   unfold bits_Div64.l0
   repeat' first
   | (with_reducible exact ih0 _ _ _ _ _ _ _ _)
   | (with_reducible exact ih1 _ _ _ _ _ _ _ _ _)
   | (with_reducible exact ih2 _ _ _ _ _ _ _ _ _ _)
   | (with_reducible exact ih3 _ _ _ _ _ _ _ _ _)
   | (with_reducible exact ih4 _ _ _ _ _ _ _ _ _ _)
   | (with_reducible exact LeO.refl _)
   | (with_reducible exact LeO.none _)
   | (with_reducible refine LeO.ite ?_ ?_)
   | (with_reducible refine LeO.bind ?_ (fun _ => ?_))
   | exact ih0 _ _ _ _ _ _ _ _
   | exact ih1 _ _ _ _ _ _ _ _ _
   | exact ih2 _ _ _ _ _ _ _ _ _ _
   | exact ih3 _ _ _ _ _ _ _ _ _
   | exact ih4 _ _ _ _ _ _ _ _ _ _
   | exact LeO.none _
   | refine LeO.ite ?_ ?_
   | refine LeO.bind ?_ (fun _ => ?_)
  ·
   intro y0 y1 y2 y3 y4 y5 y6 y7 y8 y9
   unfold bits_Div64.j1
   repeat' first
   | (with_reducible exact ih0 _ _ _ _ _ _ _ _)
   | (with_reducible exact ih1 _ _ _ _ _ _ _ _ _)
   | (with_reducible exact ih2 _ _ _ _ _ _ _ _ _ _)
   | (with_reducible exact ih3 _ _ _ _ _ _ _ _ _)
   | (with_reducible exact ih4 _ _ _ _ _ _ _ _ _ _)
   | (with_reducible exact LeO.refl _)
   | (with_reducible exact LeO.none _)
   | (with_reducible refine LeO.ite ?_ ?_)
   | (with_reducible refine LeO.bind ?_ (fun _ => ?_))
   | exact ih0 _ _ _ _ _ _ _ _
   | exact ih1 _ _ _ _ _ _ _ _ _
   | exact ih2 _ _ _ _ _ _ _ _ _ _
   | exact ih3 _ _ _ _ _ _ _ _ _
   | exact ih4 _ _ _ _ _ _ _ _ _ _
   | exact LeO.none _
   | refine LeO.ite ?_ ?_
   | refine LeO.bind ?_ (fun _ => ?_)
theorem bits_Div64.mono : ∀ a0 a1 a2 k, LeO (bits_Div64.f k a0 a1 a2) (bits_Div64.f (k + 1) a0 a1 a2) := by
 intro a0 a1 a2 k
 obtain ⟨ih0, ih1, ih2, ih3, ih4⟩ := bits_Div64.mono_l k
 unfold bits_Div64.f
 repeat' first
   | (with_reducible exact ih0 _ _ _ _ _ _ _ _)
   | (with_reducible exact ih1 _ _ _ _ _ _ _ _ _)
   | (with_reducible exact ih2 _ _ _ _ _ _ _ _ _ _)
   | (with_reducible exact ih3 _ _ _ _ _ _ _ _ _)
   | (with_reducible exact ih4 _ _ _ _ _ _ _ _ _ _)
   | (with_reducible exact LeO.refl _)
   | (with_reducible exact LeO.none _)
   | (with_reducible refine LeO.ite ?_ ?_)
   | (with_reducible refine LeO.bind ?_ (fun _ => ?_))
   | exact ih0 _ _ _ _ _ _ _ _
   | exact ih1 _ _ _ _ _ _ _ _ _
   | exact ih2 _ _ _ _ _ _ _ _ _ _
   | exact ih3 _ _ _ _ _ _ _ _ _
   | exact ih4 _ _ _ _ _ _ _ _ _ _
   | exact LeO.none _
   | refine LeO.ite ?_ ?_
   | refine LeO.bind ?_ (fun _ => ?_)
set_option maxHeartbeats 8000000 in
set_option maxRecDepth 100000 in
theorem bits_Div64.calls (k : Nat) (a0 : Int) (a1 : Int) (a2 : Int) (r1 : Int) (r2 : Int) (w : World) (h : bits_Div64.f k a0 a1 a2 = some (r1, r2)) :
  Calls Tryd.prog 35 #[.int .u64 a0, .int .u64 a1, .int .u64 a2] w fun e w' => e = .returned (.tuple #[.int .u64 r1, .int .u64 r2]) ∧ Drawn0 w w' := by
 have H : (if a2 = 0 then (none) else (if a2 ≤ a0 then (none) else (if a0 = 0 then (some (IntKind.u64.wrap (Int.tdiv a1 a2), Int.tmod a1 a2)) else ((bits_LeadingZeros64.f a2).bind fun t115 => (if 0 ≤ (IntKind.u64.wrap (t115)) then (if 0 ≤ (IntKind.u64.wrap (64 - (IntKind.u64.wrap (t115)))) then (if ((shl .u64 a2 (IntKind.u64.wrap (t115))) / 4294967296) = 0 then (none) else (bits_Div64.l0 k (shl .u64 a2 (IntKind.u64.wrap (t115))) (IntKind.u64.wrap (t115)) ((shl .u64 a2 (IntKind.u64.wrap (t115))) / 4294967296) (Go.bits .and .u64 (shl .u64 a2 (IntKind.u64.wrap (t115))) 4294967295) (Go.bits .or .u64 (shl .u64 a0 (IntKind.u64.wrap (t115))) (shr .u64 a1 (IntKind.u64.wrap (64 - (IntKind.u64.wrap (t115)))))) ((shl .u64 a1 (IntKind.u64.wrap (t115))) / 4294967296) (Go.bits .and .u64 (shl .u64 a1 (IntKind.u64.wrap (t115))) 4294967295) (IntKind.u64.wrap (Int.tdiv (Go.bits .or .u64 (shl .u64 a0 (IntKind.u64.wrap (t115))) (shr .u64 a1 (IntKind.u64.wrap (64 - (IntKind.u64.wrap (t115)))))) ((shl .u64 a2 (IntKind.u64.wrap (t115))) / 4294967296))) (IntKind.u64.wrap ((Go.bits .or .u64 (shl .u64 a0 (IntKind.u64.wrap (t115))) (shr .u64 a1 (IntKind.u64.wrap (64 - (IntKind.u64.wrap (t115)))))) - (IntKind.u64.wrap ((IntKind.u64.wrap (Int.tdiv (Go.bits .or .u64 (shl .u64 a0 (IntKind.u64.wrap (t115))) (shr .u64 a1 (IntKind.u64.wrap (64 - (IntKind.u64.wrap (t115)))))) ((shl .u64 a2 (IntKind.u64.wrap (t115))) / 4294967296))) * ((shl .u64 a2 (IntKind.u64.wrap (t115))) / 4294967296))))))) else (none)) else (none)))))) = some (r1, r2) := h
 clear h
 by_cases c4 : a2 = 0
 ·
  rw [if_pos c4] at H
  exact absurd H (by simp)
 ·
  rw [if_neg c4] at H
  have c4b0 : (a2 == 0) = false := beq_eq_false_iff_ne.mpr c4
  have c4b1 : (a2 != 0) = true := bne_iff_ne.mpr c4
  by_cases c5 : a2 ≤ a0
  ·
   rw [if_pos c5] at H
   exact absurd H (by simp)
  ·
   rw [if_neg c5] at H
   have c5b0 : decide (a2 ≤ a0) = false := decide_eq_false c5
   clear c5
   by_cases c6 : a0 = 0
   ·
    rw [if_pos c6] at H
    have c6b0 : (a0 == 0) = true := beq_iff_eq.mpr c6
    have c6b1 : (a0 != 0) = false := bne_eq_false_iff_eq.mpr c6
    clear c6
    simp only [Option.some.injEq, Prod.mk.injEq] at H
    obtain ⟨rfl, rfl⟩ := H
    go_enter Tryd.func35, Tryd.ntmps35
    go_wp2
    repeat (go_quiet (fail); try go_wp2)
    go_ret2
    exact ⟨by first | rfl | (simp; done) | (simp [*]; done), by repeat (first | exact Drawn0.refl _ | apply Drawn0.step)⟩
   ·
    rw [if_neg c6] at H
    have c6b0 : (a0 == 0) = false := beq_eq_false_iff_ne.mpr c6
    have c6b1 : (a0 != 0) = true := bne_iff_ne.mpr c6
    replace H := Option.bind_eq_some_iff.mp H
    obtain ⟨t115, A70, H⟩ := H
    replace H : (if 0 ≤ (IntKind.u64.wrap (t115)) then (if 0 ≤ (IntKind.u64.wrap (64 - (IntKind.u64.wrap (t115)))) then (if ((shl .u64 a2 (IntKind.u64.wrap (t115))) / 4294967296) = 0 then (none) else (bits_Div64.l0 k (shl .u64 a2 (IntKind.u64.wrap (t115))) (IntKind.u64.wrap (t115)) ((shl .u64 a2 (IntKind.u64.wrap (t115))) / 4294967296) (Go.bits .and .u64 (shl .u64 a2 (IntKind.u64.wrap (t115))) 4294967295) (Go.bits .or .u64 (shl .u64 a0 (IntKind.u64.wrap (t115))) (shr .u64 a1 (IntKind.u64.wrap (64 - (IntKind.u64.wrap (t115)))))) ((shl .u64 a1 (IntKind.u64.wrap (t115))) / 4294967296) (Go.bits .and .u64 (shl .u64 a1 (IntKind.u64.wrap (t115))) 4294967295) (IntKind.u64.wrap (Int.tdiv (Go.bits .or .u64 (shl .u64 a0 (IntKind.u64.wrap (t115))) (shr .u64 a1 (IntKind.u64.wrap (64 - (IntKind.u64.wrap (t115)))))) ((shl .u64 a2 (IntKind.u64.wrap (t115))) / 4294967296))) (IntKind.u64.wrap ((Go.bits .or .u64 (shl .u64 a0 (IntKind.u64.wrap (t115))) (shr .u64 a1 (IntKind.u64.wrap (64 - (IntKind.u64.wrap (t115)))))) - (IntKind.u64.wrap ((IntKind.u64.wrap (Int.tdiv (Go.bits .or .u64 (shl .u64 a0 (IntKind.u64.wrap (t115))) (shr .u64 a1 (IntKind.u64.wrap (64 - (IntKind.u64.wrap (t115)))))) ((shl .u64 a2 (IntKind.u64.wrap (t115))) / 4294967296))) * ((shl .u64 a2 (IntKind.u64.wrap (t115))) / 4294967296))))))) else (none)) else (none)) = some (r1, r2) := H
    have A7 := Aside0.mk A70
    clear A70
    obtain ⟨ji8, hji8⟩ : ∃ j_ : Int, (IntKind.u64.wrap (t115)) = j_ := ⟨_, rfl⟩
    replace H : (if 0 ≤ (ji8) then (if 0 ≤ (IntKind.u64.wrap (64 - (ji8))) then (if ((shl .u64 a2 (ji8)) / 4294967296) = 0 then (none) else (bits_Div64.l0 k (shl .u64 a2 (ji8)) ji8 ((shl .u64 a2 (ji8)) / 4294967296) (Go.bits .and .u64 (shl .u64 a2 (ji8)) 4294967295) (Go.bits .or .u64 (shl .u64 a0 (ji8)) (shr .u64 a1 (IntKind.u64.wrap (64 - (ji8))))) ((shl .u64 a1 (ji8)) / 4294967296) (Go.bits .and .u64 (shl .u64 a1 (ji8)) 4294967295) (IntKind.u64.wrap (Int.tdiv (Go.bits .or .u64 (shl .u64 a0 (ji8)) (shr .u64 a1 (IntKind.u64.wrap (64 - (ji8))))) ((shl .u64 a2 (ji8)) / 4294967296))) (IntKind.u64.wrap ((Go.bits .or .u64 (shl .u64 a0 (ji8)) (shr .u64 a1 (IntKind.u64.wrap (64 - (ji8))))) - (IntKind.u64.wrap ((IntKind.u64.wrap (Int.tdiv (Go.bits .or .u64 (shl .u64 a0 (ji8)) (shr .u64 a1 (IntKind.u64.wrap (64 - (ji8))))) ((shl .u64 a2 (ji8)) / 4294967296))) * ((shl .u64 a2 (ji8)) / 4294967296))))))) else (none)) else (none)) = some (r1, r2) := by first | (rw [hji8] at H; exact H) | (simp only [hji8] at H ⊢; exact H)
    (try rw [hji8] at A7)
    by_cases c9 : 0 ≤ (ji8)
    ·
     rw [if_pos c9] at H
     have c9b0 := eq_true c9
     have c9b1 : decide (0 ≤ (ji8)) = true := decide_eq_true c9
     clear c9
     obtain ⟨ji10, hji10⟩ : ∃ j_ : Int, (shl .u64 a2 (ji8)) = j_ := ⟨_, rfl⟩
     replace H : (if 0 ≤ (IntKind.u64.wrap (64 - (ji8))) then (if ((ji10) / 4294967296) = 0 then (none) else (bits_Div64.l0 k ji10 ji8 ((ji10) / 4294967296) (Go.bits .and .u64 (ji10) 4294967295) (Go.bits .or .u64 (shl .u64 a0 (ji8)) (shr .u64 a1 (IntKind.u64.wrap (64 - (ji8))))) ((shl .u64 a1 (ji8)) / 4294967296) (Go.bits .and .u64 (shl .u64 a1 (ji8)) 4294967295) (IntKind.u64.wrap (Int.tdiv (Go.bits .or .u64 (shl .u64 a0 (ji8)) (shr .u64 a1 (IntKind.u64.wrap (64 - (ji8))))) ((ji10) / 4294967296))) (IntKind.u64.wrap ((Go.bits .or .u64 (shl .u64 a0 (ji8)) (shr .u64 a1 (IntKind.u64.wrap (64 - (ji8))))) - (IntKind.u64.wrap ((IntKind.u64.wrap (Int.tdiv (Go.bits .or .u64 (shl .u64 a0 (ji8)) (shr .u64 a1 (IntKind.u64.wrap (64 - (ji8))))) ((ji10) / 4294967296))) * ((ji10) / 4294967296))))))) else (none)) = some (r1, r2) := by first | (rw [hji10] at H; exact H) | (simp only [hji10] at H ⊢; exact H)
     (try rw [hji10] at A7)
     have hji10_ : (IntKind.u64.wrap (a2 * 2 ^ min (ji8).toNat 64)) = ji10 := hji10
     have hji10z : (ji8) ≤ 64 → (IntKind.u64.wrap (a2 * 2 ^ (ji8).toNat)) = ji10 := shl_small hji10
     have c11b0 := eq_true (of_decide_eq_true (by first | (with_reducible assumption) | assumption) : 0 ≤ (ji8))
     obtain ⟨ji12, hji12⟩ : ∃ j_ : Int, (shl .u64 a0 (ji8)) = j_ := ⟨_, rfl⟩
     replace H : (if 0 ≤ (IntKind.u64.wrap (64 - (ji8))) then (if ((ji10) / 4294967296) = 0 then (none) else (bits_Div64.l0 k ji10 ji8 ((ji10) / 4294967296) (Go.bits .and .u64 (ji10) 4294967295) (Go.bits .or .u64 (ji12) (shr .u64 a1 (IntKind.u64.wrap (64 - (ji8))))) ((shl .u64 a1 (ji8)) / 4294967296) (Go.bits .and .u64 (shl .u64 a1 (ji8)) 4294967295) (IntKind.u64.wrap (Int.tdiv (Go.bits .or .u64 (ji12) (shr .u64 a1 (IntKind.u64.wrap (64 - (ji8))))) ((ji10) / 4294967296))) (IntKind.u64.wrap ((Go.bits .or .u64 (ji12) (shr .u64 a1 (IntKind.u64.wrap (64 - (ji8))))) - (IntKind.u64.wrap ((IntKind.u64.wrap (Int.tdiv (Go.bits .or .u64 (ji12) (shr .u64 a1 (IntKind.u64.wrap (64 - (ji8))))) ((ji10) / 4294967296))) * ((ji10) / 4294967296))))))) else (none)) = some (r1, r2) := by first | (rw [hji12] at H; exact H) | (simp only [hji12] at H ⊢; exact H)
     (try rw [hji12] at A7)
     have hji12_ : (IntKind.u64.wrap (a0 * 2 ^ min (ji8).toNat 64)) = ji12 := hji12
     have hji12z : (ji8) ≤ 64 → (IntKind.u64.wrap (a0 * 2 ^ (ji8).toNat)) = ji12 := shl_small hji12
     obtain ⟨ji13, hji13⟩ : ∃ j_ : Int, (IntKind.u64.wrap (64 - (ji8))) = j_ := ⟨_, rfl⟩
     replace H : (if 0 ≤ (ji13) then (if ((ji10) / 4294967296) = 0 then (none) else (bits_Div64.l0 k ji10 ji8 ((ji10) / 4294967296) (Go.bits .and .u64 (ji10) 4294967295) (Go.bits .or .u64 (ji12) (shr .u64 a1 (ji13))) ((shl .u64 a1 (ji8)) / 4294967296) (Go.bits .and .u64 (shl .u64 a1 (ji8)) 4294967295) (IntKind.u64.wrap (Int.tdiv (Go.bits .or .u64 (ji12) (shr .u64 a1 (ji13))) ((ji10) / 4294967296))) (IntKind.u64.wrap ((Go.bits .or .u64 (ji12) (shr .u64 a1 (ji13))) - (IntKind.u64.wrap ((IntKind.u64.wrap (Int.tdiv (Go.bits .or .u64 (ji12) (shr .u64 a1 (ji13))) ((ji10) / 4294967296))) * ((ji10) / 4294967296))))))) else (none)) = some (r1, r2) := by first | (rw [hji13] at H; exact H) | (simp only [hji13] at H ⊢; exact H)
     (try rw [hji13] at A7)
     by_cases c14 : 0 ≤ (ji13)
     ·
      rw [if_pos c14] at H
      have c14b0 := eq_true c14
      have c14b1 : decide (0 ≤ (ji13)) = true := decide_eq_true c14
      clear c14
      obtain ⟨ji15, hji15⟩ : ∃ j_ : Int, (shr .u64 a1 (ji13)) = j_ := ⟨_, rfl⟩
      replace H : (if ((ji10) / 4294967296) = 0 then (none) else (bits_Div64.l0 k ji10 ji8 ((ji10) / 4294967296) (Go.bits .and .u64 (ji10) 4294967295) (Go.bits .or .u64 (ji12) (ji15)) ((shl .u64 a1 (ji8)) / 4294967296) (Go.bits .and .u64 (shl .u64 a1 (ji8)) 4294967295) (IntKind.u64.wrap (Int.tdiv (Go.bits .or .u64 (ji12) (ji15)) ((ji10) / 4294967296))) (IntKind.u64.wrap ((Go.bits .or .u64 (ji12) (ji15)) - (IntKind.u64.wrap ((IntKind.u64.wrap (Int.tdiv (Go.bits .or .u64 (ji12) (ji15)) ((ji10) / 4294967296))) * ((ji10) / 4294967296))))))) = some (r1, r2) := by first | (rw [hji15] at H; exact H) | (simp only [hji15] at H ⊢; exact H)
      (try rw [hji15] at A7)
      have hji15_ : (a1 / 2 ^ min (ji13).toNat 64) = ji15 := hji15
      have hji15z : (ji13) ≤ 64 → (a1 / 2 ^ (ji13).toNat) = ji15 := shr_small hji15
      have c16b0 := eq_true (of_decide_eq_true (by first | (with_reducible assumption) | assumption) : 0 ≤ (ji8))
      obtain ⟨ji17, hji17⟩ : ∃ j_ : Int, (shl .u64 a1 (ji8)) = j_ := ⟨_, rfl⟩
      replace H : (if ((ji10) / 4294967296) = 0 then (none) else (bits_Div64.l0 k ji10 ji8 ((ji10) / 4294967296) (Go.bits .and .u64 (ji10) 4294967295) (Go.bits .or .u64 (ji12) (ji15)) ((ji17) / 4294967296) (Go.bits .and .u64 (ji17) 4294967295) (IntKind.u64.wrap (Int.tdiv (Go.bits .or .u64 (ji12) (ji15)) ((ji10) / 4294967296))) (IntKind.u64.wrap ((Go.bits .or .u64 (ji12) (ji15)) - (IntKind.u64.wrap ((IntKind.u64.wrap (Int.tdiv (Go.bits .or .u64 (ji12) (ji15)) ((ji10) / 4294967296))) * ((ji10) / 4294967296))))))) = some (r1, r2) := by first | (rw [hji17] at H; exact H) | (simp only [hji17] at H ⊢; exact H)
      (try rw [hji17] at A7)
      have hji17_ : (IntKind.u64.wrap (a1 * 2 ^ min (ji8).toNat 64)) = ji17 := hji17
      have hji17z : (ji8) ≤ 64 → (IntKind.u64.wrap (a1 * 2 ^ (ji8).toNat)) = ji17 := shl_small hji17
      by_cases c18 : ((ji10) / 4294967296) = 0
      ·
       rw [if_pos c18] at H
       exact absurd H (by simp)
      ·
       rw [if_neg c18] at H
       have c18b0 : (((ji10) / 4294967296) == 0) = false := beq_eq_false_iff_ne.mpr c18
       have c18b1 : (((ji10) / 4294967296) != 0) = true := bne_iff_ne.mpr c18
       have HC19 := Aside0.mk H
       clear H
       go_enter Tryd.func35, Tryd.ntmps35
       go_upto_block 0 with (first | (go_at_call 47; (with_reducible refine (bits_LeadingZeros64.calls a2 t115 _ A7.out).mono ?_); rintro e w' ⟨rfl, ⟨nd, rfl⟩⟩; (try first | exact ⟨rfl, _, World.drewN_drewN _ _ _⟩ | exact ⟨rfl, _, Eq.trans (World.drewN_drewN _ _ _) (congrArg (World.drewN _) (Nat.add_assoc _ _ _))⟩)))
       repeat (go_quiet (first | (go_at_call 47; (with_reducible refine (bits_LeadingZeros64.calls a2 t115 _ A7.out).mono ?_); rintro e w' ⟨rfl, ⟨nd, rfl⟩⟩; (try first | exact ⟨rfl, _, World.drewN_drewN _ _ _⟩ | exact ⟨rfl, _, Eq.trans (World.drewN_drewN _ _ _) (congrArg (World.drewN _) (Nat.add_assoc _ _ _))⟩))); go_upto_block 0 with (first | (go_at_call 47; (with_reducible refine (bits_LeadingZeros64.calls a2 t115 _ A7.out).mono ?_); rintro e w' ⟨rfl, ⟨nd, rfl⟩⟩; (try first | exact ⟨rfl, _, World.drewN_drewN _ _ _⟩ | exact ⟨rfl, _, Eq.trans (World.drewN_drewN _ _ _) (congrArg (World.drewN _) (Nat.add_assoc _ _ _))⟩))))
       (try simp only [apz])
       go_cut [15] (fun v15 wc => ∃ (kq : Nat) (x15_18 : Int), v15 = .int .u64 x15_18 ∧ Aside0 (bits_Div64.j2 kq ji10 ji8 ((ji10) / 4294967296) (Go.bits .and .u64 (ji10) 4294967295) (Go.bits .or .u64 (ji12) (ji15)) ((ji17) / 4294967296) (Go.bits .and .u64 (ji17) 4294967295) x15_18 = some (r1, r2)) ∧ Aside0 (kq ≤ k) ∧ Drawn0 w wc)
       case first =>
        have H := HC19.out
        clear HC19
        have H' := Aside0.mk H
        clear H
        go_wp2
        repeat (go_quiet (fail); try go_wp2)
        go_loopg [15, 16] k (fun kq v15 v16 w' => ∃ (x15_1 : Int) (x16_1 : Int), v15 = .int .u64 x15_1 ∧ v16 = .int .u64 x16_1 ∧ Aside0 (bits_Div64.l0 kq ji10 ji8 ((ji10) / 4294967296) (Go.bits .and .u64 (ji10) 4294967295) (Go.bits .or .u64 (ji12) (ji15)) ((ji17) / 4294967296) (Go.bits .and .u64 (ji17) 4294967295) x15_1 x16_1 = some (r1, r2)) ∧ Aside0 (kq ≤ k) ∧ Drawn0 w w')
        case atStart => exact ⟨(IntKind.u64.wrap (Int.tdiv (Go.bits .or .u64 (ji12) (ji15)) ((ji10) / 4294967296))), (IntKind.u64.wrap ((Go.bits .or .u64 (ji12) (ji15)) - (IntKind.u64.wrap ((IntKind.u64.wrap (Int.tdiv (Go.bits .or .u64 (ji12) (ji15)) ((ji10) / 4294967296))) * ((ji10) / 4294967296))))), (by first | rfl | (simp; done) | (simp only [← hji10, ← hji12, ← hji15] <;> (first | rfl | simp)) | (simp [*]; done)), (by first | rfl | (simp; done) | (simp only [← hji10, ← hji12, ← hji15] <;> (first | rfl | simp)) | (simp [*]; done)), H', ⟨Nat.le_refl _⟩, by repeat (first | exact Drawn0.refl _ | apply Drawn0.step)⟩
        case round =>
         clear H'
         try clear c1
         try clear p2
         try clear c3
         try clear c4
         try clear c4b0
         try clear c4b1
         try clear c5
         try clear c5b0
         try clear c6
         try clear c6b0
         try clear c6b1
         try clear c9
         try clear c9b0
         try clear c9b1
         try clear c11
         try clear c11b0
         try clear c14
         try clear c14b0
         try clear c14b1
         try clear c16
         try clear c16b0
         try clear c18
         try clear c18b0
         try clear c18b1
         obtain ⟨x15_1, x16_1, rfl, rfl, HA, HK1, ⟨m1, rfl⟩⟩ := hrel
         cases gk with
         | zero => exact absurd HA.out (by simp [bits_Div64.l0])
         | succ k1 =>
          have H := HA.out
          clear HA
          simp only [bits_Div64.l0] at H
          have HC20 := Aside0.mk H
          clear H
          go_upto_region 17 with (fail)
          repeat (go_quiet (fail); go_upto_region 17 with (fail))
          go_cut [78] (fun v78 wc => ∃ (kq : Nat) (x78_19 : Bool), v78 = .bool x78_19 ∧ Aside0 (bits_Div64.j1 kq ji10 ji8 ((ji10) / 4294967296) (Go.bits .and .u64 (ji10) 4294967295) (Go.bits .or .u64 (ji12) (ji15)) ((ji17) / 4294967296) (Go.bits .and .u64 (ji17) 4294967295) x15_1 x16_1 x78_19 = some (r1, r2)) ∧ Aside0 (kq ≤ k1) ∧ Drawn0 w wc)
          case first =>
           have H := HC20.out
           clear HC20
           by_cases c21 : x15_1 ≥ 4294967296
           ·
            rw [if_pos c21] at H
            have c21b0 : decide (4294967296 ≤ x15_1) = true := decide_eq_true c21
            clear c21
            (first | rw [c21b0] | (simp only [i64_w, i32_w]; rw [c21b0]) | skip)
            have H' := Aside0.mk H
            clear H
            go_wp2
            repeat (go_quiet (fail); try go_wp2)
            go_meet
            case rel => exact ⟨_, (true), (by first | rfl | (simp; done) | (simp [*]; done)), H', ⟨by have := HK1.out; first | omega | exact Nat.le_refl _⟩, by repeat (first | exact Drawn0.refl _ | apply Drawn0.step)⟩
           ·
            rw [if_neg c21] at H
            have c21b0 : decide (4294967296 ≤ x15_1) = false := decide_eq_false c21
            clear c21
            (first | rw [c21b0] | (simp only [i64_w, i32_w]; rw [c21b0]) | skip)
            have H' := Aside0.mk H
            clear H
            go_wp2
            repeat (go_quiet (fail); try go_wp2)
            go_meet
            case rel => exact ⟨_, (decide ((IntKind.u64.wrap (x15_1 * (Go.bits .and .u64 (ji10) 4294967295))) > (IntKind.u64.wrap ((IntKind.u64.wrap (4294967296 * x16_1)) + ((ji17) / 4294967296))))), (by first | rfl | (simp; done) | (simp only [← hji10, ← hji17] <;> (first | rfl | simp)) | (simp [*]; done)), H', ⟨by have := HK1.out; first | omega | exact Nat.le_refl _⟩, by repeat (first | exact Drawn0.refl _ | apply Drawn0.step)⟩
          case rest =>
           clear HC20
           try clear c1
           try clear c2
           try clear p2
           try clear c3
           try clear c4
           try clear c4b0
           try clear c4b1
           try clear c5
           try clear c5b0
           try clear c6
           try clear c6b0
           try clear c6b1
           try clear c9
           try clear c9b0
           try clear c9b1
           try clear c11
           try clear c11b0
           try clear c14
           try clear c14b0
           try clear c14b1
           try clear c16
           try clear c16b0
           try clear c18
           try clear c18b0
           try clear c18b1
           try clear c21
           try clear c21b0
           try clear p2
           obtain ⟨kq, x78_19, rfl, HA, HJ19, ⟨mc19, rfl⟩⟩ := hcut
           cases kq with
           | zero => exact absurd HA.out (by simp [bits_Div64.j1])
           | succ kj19 =>
            have H := HA.out
            clear HA
            simp only [bits_Div64.j1] at H
            by_cases c22 : x78_19 = true
            ·
             subst c22
             have H1 : (if (IntKind.u64.wrap (x16_1 + ((ji10) / 4294967296))) ≥ 4294967296 then (bits_Div64.j2 kj19 ji10 ji8 ((ji10) / 4294967296) (Go.bits .and .u64 (ji10) 4294967295) (Go.bits .or .u64 (ji12) (ji15)) ((ji17) / 4294967296) (Go.bits .and .u64 (ji17) 4294967295) (IntKind.u64.wrap (x15_1 - 1))) else (bits_Div64.l0 kj19 ji10 ji8 ((ji10) / 4294967296) (Go.bits .and .u64 (ji10) 4294967295) (Go.bits .or .u64 (ji12) (ji15)) ((ji17) / 4294967296) (Go.bits .and .u64 (ji17) 4294967295) (IntKind.u64.wrap (x15_1 - 1)) (IntKind.u64.wrap (x16_1 + ((ji10) / 4294967296))))) = some (r1, r2) := by rw [if_pos rfl] at H; exact H
             clear H
             have H := H1
             clear H1
             by_cases c23 : (IntKind.u64.wrap (x16_1 + ((ji10) / 4294967296))) ≥ 4294967296
             ·
              rw [if_pos c23] at H
              have c23b0 : decide (4294967296 ≤ (IntKind.u64.wrap (x16_1 + ((ji10) / 4294967296)))) = true := decide_eq_true c23
              clear c23
              have H' := Aside0.mk H
              clear H
              go_wp2
              repeat (go_quiet (fail); try go_wp2)
              go_meet
              case rel => exact ⟨_, (IntKind.u64.wrap (x15_1 - 1)), (by first | rfl | (simp; done) | (simp [*]; done)), H', ⟨by have := HK1.out; have := HJ19.out; first | omega | exact Nat.le_refl _⟩, by repeat (first | exact Drawn0.refl _ | apply Drawn0.step)⟩
             ·
              rw [if_neg c23] at H
              have c23b0 : decide (4294967296 ≤ (IntKind.u64.wrap (x16_1 + ((ji10) / 4294967296)))) = false := decide_eq_false c23
              clear c23
              have H' := Aside0.mk H
              clear H
              go_wp2
              repeat (go_quiet (fail); try go_wp2)
              go_roundg kj19
              case measure => have := HK1.out; have := HJ19.out; omega
              case rel => exact ⟨(IntKind.u64.wrap (x15_1 - 1)), (IntKind.u64.wrap (x16_1 + ((ji10) / 4294967296))), (by first | rfl | (simp; done) | (simp [*]; done)), (by first | rfl | (simp; done) | (simp only [← hji10] <;> (first | rfl | simp)) | (simp [*]; done)), H', ⟨by have := HK1.out; have := HJ19.out; omega⟩, by repeat (first | exact Drawn0.refl _ | apply Drawn0.step)⟩
            ·
             replace c22 := Bool.eq_false_iff.mpr c22
             subst c22
             have H1 : (bits_Div64.j2 kj19 ji10 ji8 ((ji10) / 4294967296) (Go.bits .and .u64 (ji10) 4294967295) (Go.bits .or .u64 (ji12) (ji15)) ((ji17) / 4294967296) (Go.bits .and .u64 (ji17) 4294967295) x15_1) = some (r1, r2) := by rw [if_neg (show ¬ (false = true) by decide)] at H; exact H
             clear H
             have H := H1
             clear H1
             have H' := Aside0.mk H
             clear H
             go_wp2
             repeat (go_quiet (fail); try go_wp2)
             go_meet
             case rel => exact ⟨_, (x15_1), (by first | rfl | (simp; done) | (simp [*]; done)), H', ⟨by have := HK1.out; have := HJ19.out; first | omega | exact Nat.le_refl _⟩, by repeat (first | exact Drawn0.refl _ | apply Drawn0.step)⟩
       case rest =>
        clear HC19
        try clear c1
        try clear c2
        try clear p2
        try clear c3
        try clear c4
        try clear c4b0
        try clear c4b1
        try clear c5
        try clear c5b0
        try clear c6
        try clear c6b0
        try clear c6b1
        try clear c9
        try clear c9b0
        try clear c9b1
        try clear c11
        try clear c11b0
        try clear c14
        try clear c14b0
        try clear c14b1
        try clear c16
        try clear c16b0
        try clear c18
        try clear c18b0
        try clear c18b1
        try clear c19
        try clear c21
        try clear c21b0
        try clear c22
        try clear c23
        try clear c23b0
        try clear p2
        obtain ⟨kq, x15_18, rfl, HA, HJ18, ⟨mc18, rfl⟩⟩ := hcut
        cases kq with
        | zero => exact absurd HA.out (by simp [bits_Div64.j2])
        | succ kj18 =>
         have H := HA.out
         clear HA
         simp only [bits_Div64.j2] at H
         by_cases c24 : ((ji10) / 4294967296) = 0
         ·
          rw [if_pos c24] at H
          exact absurd H (by simp)
         ·
          rw [if_neg c24] at H
          have c24b0 : (((ji10) / 4294967296) == 0) = false := beq_eq_false_iff_ne.mpr c24
          have c24b1 : (((ji10) / 4294967296) != 0) = true := bne_iff_ne.mpr c24
          have H' := Aside0.mk H
          clear H
          go_wp2
          repeat (go_quiet (fail); try go_wp2)
          go_loopg [16, 18] kj18 (fun kq v16 v18 w' => ∃ (x16_2 : Int) (x18_2 : Int), v16 = .int .u64 x16_2 ∧ v18 = .int .u64 x18_2 ∧ Aside0 (bits_Div64.l1 kq ji10 ji8 ((ji10) / 4294967296) (Go.bits .and .u64 (ji10) 4294967295) (Go.bits .and .u64 (ji17) 4294967295) x15_18 x16_2 (IntKind.u64.wrap ((IntKind.u64.wrap ((IntKind.u64.wrap ((Go.bits .or .u64 (ji12) (ji15)) * 4294967296)) + ((ji17) / 4294967296))) - (IntKind.u64.wrap (x15_18 * ji10)))) x18_2 = some (r1, r2)) ∧ Aside0 (kq ≤ kj18) ∧ Drawn0 w w')
          case atStart => exact ⟨(IntKind.u64.wrap ((IntKind.u64.wrap ((IntKind.u64.wrap ((IntKind.u64.wrap ((Go.bits .or .u64 (ji12) (ji15)) * 4294967296)) + ((ji17) / 4294967296))) - (IntKind.u64.wrap (x15_18 * ji10)))) - (IntKind.u64.wrap ((IntKind.u64.wrap (Int.tdiv (IntKind.u64.wrap ((IntKind.u64.wrap ((IntKind.u64.wrap ((Go.bits .or .u64 (ji12) (ji15)) * 4294967296)) + ((ji17) / 4294967296))) - (IntKind.u64.wrap (x15_18 * ji10)))) ((ji10) / 4294967296))) * ((ji10) / 4294967296))))), (IntKind.u64.wrap (Int.tdiv (IntKind.u64.wrap ((IntKind.u64.wrap ((IntKind.u64.wrap ((Go.bits .or .u64 (ji12) (ji15)) * 4294967296)) + ((ji17) / 4294967296))) - (IntKind.u64.wrap (x15_18 * ji10)))) ((ji10) / 4294967296))), (by first | rfl | (simp; done) | (simp only [← hji10, ← hji12, ← hji15, ← hji17] <;> (first | rfl | simp)) | (simp [*]; done)), (by first | rfl | (simp; done) | (simp only [← hji10, ← hji12, ← hji15, ← hji17] <;> (first | rfl | simp)) | (simp [*]; done)), H', ⟨Nat.le_refl _⟩, by repeat (first | exact Drawn0.refl _ | apply Drawn0.step)⟩
          case round =>
           clear H'
           try clear c1
           try clear c2
           try clear p2
           try clear c3
           try clear c4
           try clear c4b0
           try clear c4b1
           try clear c5
           try clear c5b0
           try clear c6
           try clear c6b0
           try clear c6b1
           try clear c9
           try clear c9b0
           try clear c9b1
           try clear c11
           try clear c11b0
           try clear c14
           try clear c14b0
           try clear c14b1
           try clear c16
           try clear c16b0
           try clear c18
           try clear c18b0
           try clear c18b1
           try clear c19
           try clear c21
           try clear c21b0
           try clear c22
           try clear c23
           try clear c23b0
           try clear c24
           try clear c24b0
           try clear c24b1
           try clear p2
           obtain ⟨x16_2, x18_2, rfl, rfl, HA, HK2, ⟨m2, rfl⟩⟩ := hrel
           cases gk with
           | zero => exact absurd HA.out (by simp [bits_Div64.l1])
           | succ k2 =>
            have H := HA.out
            clear HA
            simp only [bits_Div64.l1] at H
            have HC25 := Aside0.mk H
            clear H
            go_upto_region 24 with (fail)
            repeat (go_quiet (fail); go_upto_region 24 with (fail))
            go_cut [113] (fun v113 wc => ∃ (kq : Nat) (x113_24 : Bool), v113 = .bool x113_24 ∧ Aside0 (bits_Div64.j4 kq ji10 ji8 ((ji10) / 4294967296) (Go.bits .and .u64 (ji10) 4294967295) (Go.bits .and .u64 (ji17) 4294967295) x15_18 x16_2 (IntKind.u64.wrap ((IntKind.u64.wrap ((IntKind.u64.wrap ((Go.bits .or .u64 (ji12) (ji15)) * 4294967296)) + ((ji17) / 4294967296))) - (IntKind.u64.wrap (x15_18 * ji10)))) x18_2 x113_24 = some (r1, r2)) ∧ Aside0 (kq ≤ k2) ∧ Drawn0 w wc)
            case first =>
             have H := HC25.out
             clear HC25
             by_cases c26 : x18_2 ≥ 4294967296
             ·
              rw [if_pos c26] at H
              have c26b0 : decide (4294967296 ≤ x18_2) = true := decide_eq_true c26
              clear c26
              (first | rw [c26b0] | (simp only [i64_w, i32_w]; rw [c26b0]) | skip)
              have H' := Aside0.mk H
              clear H
              go_wp2
              repeat (go_quiet (fail); try go_wp2)
              go_meet
              case rel => exact ⟨_, (true), (by first | rfl | (simp; done) | (simp [*]; done)), H', ⟨by have := HJ18.out; have := HK2.out; first | omega | exact Nat.le_refl _⟩, by repeat (first | exact Drawn0.refl _ | apply Drawn0.step)⟩
             ·
              rw [if_neg c26] at H
              have c26b0 : decide (4294967296 ≤ x18_2) = false := decide_eq_false c26
              clear c26
              (first | rw [c26b0] | (simp only [i64_w, i32_w]; rw [c26b0]) | skip)
              have H' := Aside0.mk H
              clear H
              go_wp2
              repeat (go_quiet (fail); try go_wp2)
              go_meet
              case rel => exact ⟨_, (decide ((IntKind.u64.wrap (x18_2 * (Go.bits .and .u64 (ji10) 4294967295))) > (IntKind.u64.wrap ((IntKind.u64.wrap (4294967296 * x16_2)) + (Go.bits .and .u64 (ji17) 4294967295))))), (by first | rfl | (simp; done) | (simp only [← hji10, ← hji17] <;> (first | rfl | simp)) | (simp [*]; done)), H', ⟨by have := HJ18.out; have := HK2.out; first | omega | exact Nat.le_refl _⟩, by repeat (first | exact Drawn0.refl _ | apply Drawn0.step)⟩
            case rest =>
             clear HC25
             try clear c1
             try clear c2
             try clear p2
             try clear c3
             try clear c4
             try clear c4b0
             try clear c4b1
             try clear c5
             try clear c5b0
             try clear c6
             try clear c6b0
             try clear c6b1
             try clear c9
             try clear c9b0
             try clear c9b1
             try clear c11
             try clear c11b0
             try clear c14
             try clear c14b0
             try clear c14b1
             try clear c16
             try clear c16b0
             try clear c18
             try clear c18b0
             try clear c18b1
             try clear c19
             try clear c21
             try clear c21b0
             try clear c22
             try clear c23
             try clear c23b0
             try clear c24
             try clear c24b0
             try clear c24b1
             try clear c26
             try clear c26b0
             try clear p2
             obtain ⟨kq, x113_24, rfl, HA, HJ24, ⟨mc24, rfl⟩⟩ := hcut
             cases kq with
             | zero => exact absurd HA.out (by simp [bits_Div64.j4])
             | succ kj24 =>
              have H := HA.out
              clear HA
              simp only [bits_Div64.j4] at H
              by_cases c27 : x113_24 = true
              ·
               subst c27
               have H1 : (if (IntKind.u64.wrap (x16_2 + ((ji10) / 4294967296))) ≥ 4294967296 then (if 0 ≤ ji8 then (some (IntKind.u64.wrap ((IntKind.u64.wrap (x15_18 * 4294967296)) + (IntKind.u64.wrap (x18_2 - 1))), shr .u64 (IntKind.u64.wrap ((IntKind.u64.wrap ((IntKind.u64.wrap ((IntKind.u64.wrap ((IntKind.u64.wrap ((IntKind.u64.wrap ((Go.bits .or .u64 (ji12) (ji15)) * 4294967296)) + ((ji17) / 4294967296))) - (IntKind.u64.wrap (x15_18 * ji10)))) * 4294967296)) + (Go.bits .and .u64 (ji17) 4294967295))) - (IntKind.u64.wrap ((IntKind.u64.wrap (x18_2 - 1)) * ji10)))) ji8)) else (none)) else (bits_Div64.l1 kj24 ji10 ji8 ((ji10) / 4294967296) (Go.bits .and .u64 (ji10) 4294967295) (Go.bits .and .u64 (ji17) 4294967295) x15_18 (IntKind.u64.wrap (x16_2 + ((ji10) / 4294967296))) (IntKind.u64.wrap ((IntKind.u64.wrap ((IntKind.u64.wrap ((Go.bits .or .u64 (ji12) (ji15)) * 4294967296)) + ((ji17) / 4294967296))) - (IntKind.u64.wrap (x15_18 * ji10)))) (IntKind.u64.wrap (x18_2 - 1)))) = some (r1, r2) := by rw [if_pos rfl] at H; exact H
               clear H
               have H := H1
               clear H1
               by_cases c28 : (IntKind.u64.wrap (x16_2 + ((ji10) / 4294967296))) ≥ 4294967296
               ·
                rw [if_pos c28] at H
                have c28b0 : decide (4294967296 ≤ (IntKind.u64.wrap (x16_2 + ((ji10) / 4294967296)))) = true := decide_eq_true c28
                clear c28
                by_cases c29 : 0 ≤ ji8
                ·
                 rw [if_pos c29] at H
                 have c29b0 := eq_true c29
                 have c29b1 : decide (0 ≤ ji8) = true := decide_eq_true c29
                 clear c29
                 obtain ⟨ji30, hji30⟩ : ∃ j_ : Int, (shr .u64 (IntKind.u64.wrap ((IntKind.u64.wrap ((IntKind.u64.wrap ((IntKind.u64.wrap ((IntKind.u64.wrap ((IntKind.u64.wrap ((Go.bits .or .u64 (ji12) (ji15)) * 4294967296)) + ((ji17) / 4294967296))) - (IntKind.u64.wrap (x15_18 * ji10)))) * 4294967296)) + (Go.bits .and .u64 (ji17) 4294967295))) - (IntKind.u64.wrap ((IntKind.u64.wrap (x18_2 - 1)) * ji10)))) ji8) = j_ := ⟨_, rfl⟩
                 replace H : (some (IntKind.u64.wrap ((IntKind.u64.wrap (x15_18 * 4294967296)) + (IntKind.u64.wrap (x18_2 - 1))), ji30)) = some (r1, r2) := by first | (rw [hji30] at H; exact H) | (simp only [hji30] at H ⊢; exact H)
                 have hji30_ : ((IntKind.u64.wrap ((IntKind.u64.wrap ((IntKind.u64.wrap ((IntKind.u64.wrap ((IntKind.u64.wrap ((IntKind.u64.wrap ((Go.bits .or .u64 (ji12) (ji15)) * 4294967296)) + ((ji17) / 4294967296))) - (IntKind.u64.wrap (x15_18 * ji10)))) * 4294967296)) + (Go.bits .and .u64 (ji17) 4294967295))) - (IntKind.u64.wrap ((IntKind.u64.wrap (x18_2 - 1)) * ji10)))) / 2 ^ min ji8.toNat 64) = ji30 := hji30
                 have hji30z : ji8 ≤ 64 → ((IntKind.u64.wrap ((IntKind.u64.wrap ((IntKind.u64.wrap ((IntKind.u64.wrap ((IntKind.u64.wrap ((IntKind.u64.wrap ((Go.bits .or .u64 (ji12) (ji15)) * 4294967296)) + ((ji17) / 4294967296))) - (IntKind.u64.wrap (x15_18 * ji10)))) * 4294967296)) + (Go.bits .and .u64 (ji17) 4294967295))) - (IntKind.u64.wrap ((IntKind.u64.wrap (x18_2 - 1)) * ji10)))) / 2 ^ ji8.toNat) = ji30 := shr_small hji30
                 simp only [Option.some.injEq, Prod.mk.injEq] at H
                 obtain ⟨rfl, rfl⟩ := H
                 go_wp2
                 repeat (go_quiet (fail); try go_wp2)
                 go_ret2
                 exact ⟨by first | rfl | (simp; done) | (simp only [← hji8, ← hji10, ← hji12, ← hji13, ← hji15, ← hji17, ← hji30] <;> (first | rfl | simp)) | (simp [*]; done), by repeat (first | exact Drawn0.refl _ | apply Drawn0.step)⟩
                ·
                 rw [if_neg c29] at H
                 exact absurd H (by simp)
               ·
                rw [if_neg c28] at H
                have c28b0 : decide (4294967296 ≤ (IntKind.u64.wrap (x16_2 + ((ji10) / 4294967296)))) = false := decide_eq_false c28
                clear c28
                have H' := Aside0.mk H
                clear H
                go_wp2
                repeat (go_quiet (fail); try go_wp2)
                go_roundg kj24
                case measure => have := HJ18.out; have := HK2.out; have := HJ24.out; omega
                case rel => exact ⟨(IntKind.u64.wrap (x16_2 + ((ji10) / 4294967296))), (IntKind.u64.wrap (x18_2 - 1)), (by first | rfl | (simp; done) | (simp only [← hji10] <;> (first | rfl | simp)) | (simp [*]; done)), (by first | rfl | (simp; done) | (simp [*]; done)), H', ⟨by have := HJ18.out; have := HK2.out; have := HJ24.out; omega⟩, by repeat (first | exact Drawn0.refl _ | apply Drawn0.step)⟩
              ·
               replace c27 := Bool.eq_false_iff.mpr c27
               subst c27
               have H1 : (if 0 ≤ ji8 then (some (IntKind.u64.wrap ((IntKind.u64.wrap (x15_18 * 4294967296)) + x18_2), shr .u64 (IntKind.u64.wrap ((IntKind.u64.wrap ((IntKind.u64.wrap ((IntKind.u64.wrap ((IntKind.u64.wrap ((IntKind.u64.wrap ((Go.bits .or .u64 (ji12) (ji15)) * 4294967296)) + ((ji17) / 4294967296))) - (IntKind.u64.wrap (x15_18 * ji10)))) * 4294967296)) + (Go.bits .and .u64 (ji17) 4294967295))) - (IntKind.u64.wrap (x18_2 * ji10)))) ji8)) else (none)) = some (r1, r2) := by rw [if_neg (show ¬ (false = true) by decide)] at H; exact H
               clear H
               have H := H1
               clear H1
               by_cases c31 : 0 ≤ ji8
               ·
                rw [if_pos c31] at H
                have c31b0 := eq_true c31
                have c31b1 : decide (0 ≤ ji8) = true := decide_eq_true c31
                clear c31
                obtain ⟨ji32, hji32⟩ : ∃ j_ : Int, (shr .u64 (IntKind.u64.wrap ((IntKind.u64.wrap ((IntKind.u64.wrap ((IntKind.u64.wrap ((IntKind.u64.wrap ((IntKind.u64.wrap ((Go.bits .or .u64 (ji12) (ji15)) * 4294967296)) + ((ji17) / 4294967296))) - (IntKind.u64.wrap (x15_18 * ji10)))) * 4294967296)) + (Go.bits .and .u64 (ji17) 4294967295))) - (IntKind.u64.wrap (x18_2 * ji10)))) ji8) = j_ := ⟨_, rfl⟩
                replace H : (some (IntKind.u64.wrap ((IntKind.u64.wrap (x15_18 * 4294967296)) + x18_2), ji32)) = some (r1, r2) := by first | (rw [hji32] at H; exact H) | (simp only [hji32] at H ⊢; exact H)
                have hji32_ : ((IntKind.u64.wrap ((IntKind.u64.wrap ((IntKind.u64.wrap ((IntKind.u64.wrap ((IntKind.u64.wrap ((IntKind.u64.wrap ((Go.bits .or .u64 (ji12) (ji15)) * 4294967296)) + ((ji17) / 4294967296))) - (IntKind.u64.wrap (x15_18 * ji10)))) * 4294967296)) + (Go.bits .and .u64 (ji17) 4294967295))) - (IntKind.u64.wrap (x18_2 * ji10)))) / 2 ^ min ji8.toNat 64) = ji32 := hji32
                have hji32z : ji8 ≤ 64 → ((IntKind.u64.wrap ((IntKind.u64.wrap ((IntKind.u64.wrap ((IntKind.u64.wrap ((IntKind.u64.wrap ((IntKind.u64.wrap ((Go.bits .or .u64 (ji12) (ji15)) * 4294967296)) + ((ji17) / 4294967296))) - (IntKind.u64.wrap (x15_18 * ji10)))) * 4294967296)) + (Go.bits .and .u64 (ji17) 4294967295))) - (IntKind.u64.wrap (x18_2 * ji10)))) / 2 ^ ji8.toNat) = ji32 := shr_small hji32
                simp only [Option.some.injEq, Prod.mk.injEq] at H
                obtain ⟨rfl, rfl⟩ := H
                go_wp2
                repeat (go_quiet (fail); try go_wp2)
                go_ret2
                exact ⟨by first | rfl | (simp; done) | (simp only [← hji8, ← hji10, ← hji12, ← hji13, ← hji15, ← hji17, ← hji32] <;> (first | rfl | simp)) | (simp [*]; done), by repeat (first | exact Drawn0.refl _ | apply Drawn0.step)⟩
               ·
                rw [if_neg c31] at H
                exact absurd H (by simp)
     ·
      rw [if_neg c14] at H
      exact absurd H (by simp)
    ·
     rw [if_neg c9] at H
     exact absurd H (by simp)
end Go.Proofs.YtfpnglgipchjhaaDoor.PR
namespace Go.Proofs.YtfpnglgipchjhaaDoor.PR
open Go.RowKit Go.Proofs.YtfpnglgipchjhaaDoorW.PrintWords Go.Proofs.YtfpnglgipchjhaaDoorW.PrintLast Go.Proofs.YtfpnglgipchjhaaDoorW.PrintMore
attribute [local go_sem] max2_int min2_int max_two min_two max_three min_three max_four min_four
set_option linter.unusedVariables false
set_option linter.unusedSimpArgs false
mutual
def dec_Parse.j0 : Nat → ByteArray → Bool → Option (Int × Int)
 | 0, _, _ => none
 | k + 1, x0, x29 => if x29 = true then (some (0, 3)) else ((dec_read.f k x0).bind fun bt118 => (if bt118.2.2 > 5 then (dec_Parse.j1 k (decide (0 < bt118.2.1.length)) bt118.1 bt118.2.1 bt118.2.2) else (dec_Parse.j1 k false bt118.1 bt118.2.1 bt118.2.2)))
def dec_Parse.j1 : Nat → Bool → Bool → List Int → Int → Option (Int × Int)
 | 0, _, _, _, _ => none
 | k + 1, x40, x124000, x124001, x124002 => if x40 = true then (some (0, 2)) else (dec_Parse.l0 k 0 (-4) x124000 x124001 x124002)
def dec_Parse.l0 : Nat → Int → Int → Bool → List Int → Int → Option (Int × Int)
 | 0, _, _, _, _, _ => none
 | k + 1, x7, x8, x124000, x124001, x124002 => if x8 ≤ 0 then ((dec_number_digit.f x124000 x124001 x124002 x8).bind fun t124 => (dec_Parse.l0 k (IntKind.u64.wrap ((IntKind.u64.wrap (10 * x7)) + t124)) (wrap64 (x8 + 1)) x124000 x124001 x124002)) else (dec_Parse.l1 k x7 0 1 x124000 x124001 x124002)
def dec_Parse.l1 : Nat → Int → Int → Int → Bool → List Int → Int → Option (Int × Int)
 | 0, _, _, _, _, _, _ => none
 | k + 1, x7, x9, x10, x124000, x124001, x124002 => if x10 ≤ 17 then ((dec_number_digit.f x124000 x124001 x124002 x10).bind fun t125 => (dec_Parse.l1 k x7 (IntKind.u64.wrap ((IntKind.u64.wrap (10 * x9)) + t125)) (wrap64 (x10 + 1)) x124000 x124001 x124002)) else (if (x124001.length : Int) > 0 then (dec_Parse.j4 k x7 x9 (decide ((wrap64 (x124002 + 17)) < (x124001.length : Int))) x124000 x124001 x124002) else (dec_Parse.j4 k x7 x9 false x124000 x124001 x124002))
def dec_Parse.j4 : Nat → Int → Int → Bool → Bool → List Int → Int → Option (Int × Int)
 | 0, _, _, _, _, _, _ => none
 | k + 1, x7, x9, x11, x124000, x124001, x124002 => (bits_Mul64.f x9 65536).bind fun bt126 => ((bits_Div64.f k bt126.1 bt126.2 100000000000000000).bind fun bt128 => (if bt128.2 > 50000000000000000 then (dec_Parse.j5 k (IntKind.u64.wrap ((IntKind.u64.wrap (x7 * 65536)) + bt128.1)) true x124000 x124001 x124002) else (if bt128.2 = 50000000000000000 then (if x11 = true then (dec_Parse.j5 k (IntKind.u64.wrap ((IntKind.u64.wrap (x7 * 65536)) + bt128.1)) true x124000 x124001 x124002) else (dec_Parse.j5 k (IntKind.u64.wrap ((IntKind.u64.wrap (x7 * 65536)) + bt128.1)) (!x124000) x124000 x124001 x124002)) else (dec_Parse.j5 k (IntKind.u64.wrap ((IntKind.u64.wrap (x7 * 65536)) + bt128.1)) false x124000 x124001 x124002))))
def dec_Parse.j5 : Nat → Int → Bool → Bool → List Int → Int → Option (Int × Int)
 | 0, _, _, _, _, _ => none
 | k + 1, x16, x102, x124000, x124001, x124002 => if x102 = true then (dec_Parse.j6 k (IntKind.u64.wrap (x16 + 1)) x124000 x124001 x124002) else (dec_Parse.j6 k x16 x124000 x124001 x124002)
def dec_Parse.j6 : Nat → Int → Bool → List Int → Int → Option (Int × Int)
 | 0, _, _, _, _ => none
 | k + 1, x16, x124000, x124001, x124002 => if x16 ≥ 4294967296 then (some (0, 2)) else (if x124000 = true then (some (wrap64 (-(wrap64 (x16))), 0)) else (some (wrap64 (x16), 0)))
end
def dec_Parse.f (k : Nat) (a0 : ByteArray) : Option (Int × Int) := (dec_Scan.f k a0 0 true).bind fun bt116 => (if bt116.2 = true then (dec_Parse.j0 k a0 (decide (bt116.1 < (a0.size : Int)))) else (dec_Parse.j0 k a0 true))
theorem dec_Parse.mono_l : ∀ k, (∀ y0 y1, LeO (dec_Parse.j0 k y0 y1) (dec_Parse.j0 (k + 1) y0 y1)) ∧ (∀ y0 y1 y2 y3, LeO (dec_Parse.j1 k y0 y1 y2 y3) (dec_Parse.j1 (k + 1) y0 y1 y2 y3)) ∧ (∀ y0 y1 y2 y3 y4, LeO (dec_Parse.l0 k y0 y1 y2 y3 y4) (dec_Parse.l0 (k + 1) y0 y1 y2 y3 y4)) ∧ (∀ y0 y1 y2 y3 y4 y5, LeO (dec_Parse.l1 k y0 y1 y2 y3 y4 y5) (dec_Parse.l1 (k + 1) y0 y1 y2 y3 y4 y5)) ∧ (∀ y0 y1 y2 y3 y4 y5, LeO (dec_Parse.j4 k y0 y1 y2 y3 y4 y5) (dec_Parse.j4 (k + 1) y0 y1 y2 y3 y4 y5)) ∧ (∀ y0 y1 y2 y3 y4, LeO (dec_Parse.j5 k y0 y1 y2 y3 y4) (dec_Parse.j5 (k + 1) y0 y1 y2 y3 y4)) ∧ (∀ y0 y1 y2 y3, LeO (dec_Parse.j6 k y0 y1 y2 y3) (dec_Parse.j6 (k + 1) y0 y1 y2 y3))
 | 0 => ⟨fun _ _ r h => by simp [dec_Parse.j0] at h, fun _ _ _ _ r h => by simp [dec_Parse.j1] at h, fun _ _ _ _ _ r h => by simp [dec_Parse.l0] at h, fun _ _ _ _ _ _ r h => by simp [dec_Parse.l1] at h, fun _ _ _ _ _ _ r h => by simp [dec_Parse.j4] at h, fun _ _ _ _ _ r h => by simp [dec_Parse.j5] at h, fun _ _ _ _ r h => by simp [dec_Parse.j6] at h⟩
 | k + 1 => by
  obtain ⟨ih0, ih1, ih2, ih3, ih4, ih5, ih6⟩ := dec_Parse.mono_l k
  refine ⟨?_, ?_, ?_, ?_, ?_, ?_, ?_⟩
  ·
   intro y0 y1
   unfold dec_Parse.j0
   repeat' first
   | (with_reducible exact ih0 _ _)
   | (with_reducible exact ih1 _ _ _ _)
   | (with_reducible exact ih2 _ _ _ _ _)
   | (with_reducible exact ih3 _ _ _ _ _ _)
   | (with_reducible exact ih4 _ _ _ _ _ _)
   | (with_reducible exact ih5 _ _ _ _ _)
   | (with_reducible exact ih6 _ _ _ _)
   | (with_reducible exact bits_Div64.mono _ _ _ _)
   | (with_reducible exact dec_Scan.mono _ _ _ _)
   | (with_reducible exact dec_read.mono _ _)
   | (with_reducible exact LeO.refl _)
   | (with_reducible exact LeO.none _)
   | (with_reducible refine LeO.ite ?_ ?_)
   | (with_reducible refine LeO.bind ?_ (fun _ => ?_))
   | exact ih0 _ _
   | exact ih1 _ _ _ _
   | exact ih2 _ _ _ _ _
   | exact ih3 _ _ _ _ _ _
   | exact ih4 _ _ _ _ _ _
   | exact ih5 _ _ _ _ _
   | exact ih6 _ _ _ _
   | exact bits_Div64.mono _ _ _ _
   | exact dec_Scan.mono _ _ _ _
   | exact dec_read.mono _ _
   | exact LeO.none _
   | refine LeO.ite ?_ ?_
   | refine LeO.bind ?_ (fun _ => ?_)
  ·
   intro y0 y1 y2 y3
   unfold dec_Parse.j1
   repeat' first
   | (with_reducible exact ih0 _ _)
   | (with_reducible exact ih1 _ _ _ _)
   | (with_reducible exact ih2 _ _ _ _ _)
   | (with_reducible exact ih3 _ _ _ _ _ _)
   | (with_reducible exact ih4 _ _ _ _ _ _)
   | (with_reducible exact ih5 _ _ _ _ _)
   | (with_reducible exact ih6 _ _ _ _)
   | (with_reducible exact bits_Div64.mono _ _ _ _)
   | (with_reducible exact dec_Scan.mono _ _ _ _)
   | (with_reducible exact dec_read.mono _ _)
   | (with_reducible exact LeO.refl _)
   | (with_reducible exact LeO.none _)
   | (with_reducible refine LeO.ite ?_ ?_)
   | (with_reducible refine LeO.bind ?_ (fun _ => ?_))
   | exact ih0 _ _
   | exact ih1 _ _ _ _
   | exact ih2 _ _ _ _ _
   | exact ih3 _ _ _ _ _ _
   | exact ih4 _ _ _ _ _ _
   | exact ih5 _ _ _ _ _
   | exact ih6 _ _ _ _
   | exact bits_Div64.mono _ _ _ _
   | exact dec_Scan.mono _ _ _ _
   | exact dec_read.mono _ _
   | exact LeO.none _
   | refine LeO.ite ?_ ?_
   | refine LeO.bind ?_ (fun _ => ?_)
  ·
   intro y0 y1 y2 y3 y4
   unfold dec_Parse.l0
   repeat' first
   | (with_reducible exact ih0 _ _)
   | (with_reducible exact ih1 _ _ _ _)
   | (with_reducible exact ih2 _ _ _ _ _)
   | (with_reducible exact ih3 _ _ _ _ _ _)
   | (with_reducible exact ih4 _ _ _ _ _ _)
   | (with_reducible exact ih5 _ _ _ _ _)
   | (with_reducible exact ih6 _ _ _ _)
   | (with_reducible exact bits_Div64.mono _ _ _ _)
   | (with_reducible exact dec_Scan.mono _ _ _ _)
   | (with_reducible exact dec_read.mono _ _)
   | (with_reducible exact LeO.refl _)
   | (with_reducible exact LeO.none _)
   | (with_reducible refine LeO.ite ?_ ?_)
   | (with_reducible refine LeO.bind ?_ (fun _ => ?_))
   | exact ih0 _ _
   | exact ih1 _ _ _ _
   | exact ih2 _ _ _ _ _
   | exact ih3 _ _ _ _ _ _
   | exact ih4 _ _ _ _ _ _
   | exact ih5 _ _ _ _ _
   | exact ih6 _ _ _ _
   | exact bits_Div64.mono _ _ _ _
   | exact dec_Scan.mono _ _ _ _
   | exact dec_read.mono _ _
   | exact LeO.none _
   | refine LeO.ite ?_ ?_
   | refine LeO.bind ?_ (fun _ => ?_)
  ·
   intro y0 y1 y2 y3 y4 y5
   unfold dec_Parse.l1
   repeat' first
   | (with_reducible exact ih0 _ _)
   | (with_reducible exact ih1 _ _ _ _)
   | (with_reducible exact ih2 _ _ _ _ _)
   | (with_reducible exact ih3 _ _ _ _ _ _)
   | (with_reducible exact ih4 _ _ _ _ _ _)
   | (with_reducible exact ih5 _ _ _ _ _)
   | (with_reducible exact ih6 _ _ _ _)
   | (with_reducible exact bits_Div64.mono _ _ _ _)
   | (with_reducible exact dec_Scan.mono _ _ _ _)
   | (with_reducible exact dec_read.mono _ _)
   | (with_reducible exact LeO.refl _)
   | (with_reducible exact LeO.none _)
   | (with_reducible refine LeO.ite ?_ ?_)
   | (with_reducible refine LeO.bind ?_ (fun _ => ?_))
   | exact ih0 _ _
   | exact ih1 _ _ _ _
   | exact ih2 _ _ _ _ _
   | exact ih3 _ _ _ _ _ _
   | exact ih4 _ _ _ _ _ _
   | exact ih5 _ _ _ _ _
   | exact ih6 _ _ _ _
   | exact bits_Div64.mono _ _ _ _
   | exact dec_Scan.mono _ _ _ _
   | exact dec_read.mono _ _
   | exact LeO.none _
   | refine LeO.ite ?_ ?_
   | refine LeO.bind ?_ (fun _ => ?_)
  ·
   intro y0 y1 y2 y3 y4 y5
   unfold dec_Parse.j4
   repeat' first
   | (with_reducible exact ih0 _ _)
   | (with_reducible exact ih1 _ _ _ _)
   | (with_reducible exact ih2 _ _ _ _ _)
   | (with_reducible exact ih3 _ _ _ _ _ _)
   | (with_reducible exact ih4 _ _ _ _ _ _)
   | (with_reducible exact ih5 _ _ _ _ _)
   | (with_reducible exact ih6 _ _ _ _)
   | (with_reducible exact bits_Div64.mono _ _ _ _)
   | (with_reducible exact dec_Scan.mono _ _ _ _)
   | (with_reducible exact dec_read.mono _ _)
   | (with_reducible exact LeO.refl _)
   | (with_reducible exact LeO.none _)
   | (with_reducible refine LeO.ite ?_ ?_)
   | (with_reducible refine LeO.bind ?_ (fun _ => ?_))
   | exact ih0 _ _
   | exact ih1 _ _ _ _
   | exact ih2 _ _ _ _ _
   | exact ih3 _ _ _ _ _ _
   | exact ih4 _ _ _ _ _ _
   | exact ih5 _ _ _ _ _
   | exact ih6 _ _ _ _
   | exact bits_Div64.mono _ _ _ _
   | exact dec_Scan.mono _ _ _ _
   | exact dec_read.mono _ _
   | exact LeO.none _
   | refine LeO.ite ?_ ?_
   | refine LeO.bind ?_ (fun _ => ?_)
  ·
   intro y0 y1 y2 y3 y4
   unfold dec_Parse.j5
   repeat' first
   | (with_reducible exact ih0 _ _)
   | (with_reducible exact ih1 _ _ _ _)
   | (with_reducible exact ih2 _ _ _ _ _)
   | (with_reducible exact ih3 _ _ _ _ _ _)
   | (with_reducible exact ih4 _ _ _ _ _ _)
   | (with_reducible exact ih5 _ _ _ _ _)
   | (with_reducible exact ih6 _ _ _ _)
   | (with_reducible exact bits_Div64.mono _ _ _ _)
   | (with_reducible exact dec_Scan.mono _ _ _ _)
   | (with_reducible exact dec_read.mono _ _)
   | (with_reducible exact LeO.refl _)
   | (with_reducible exact LeO.none _)
   | (with_reducible refine LeO.ite ?_ ?_)
   | (with_reducible refine LeO.bind ?_ (fun _ => ?_))
   | exact ih0 _ _
   | exact ih1 _ _ _ _
   | exact ih2 _ _ _ _ _
   | exact ih3 _ _ _ _ _ _
   | exact ih4 _ _ _ _ _ _
   | exact ih5 _ _ _ _ _
   | exact ih6 _ _ _ _
   | exact bits_Div64.mono _ _ _ _
   | exact dec_Scan.mono _ _ _ _
   | exact dec_read.mono _ _
   | exact LeO.none _
   | refine LeO.ite ?_ ?_
   | refine LeO.bind ?_ (fun _ => ?_)
  ·
   intro y0 y1 y2 y3
   unfold dec_Parse.j6
   repeat' first
   | (with_reducible exact ih0 _ _)
   | (with_reducible exact ih1 _ _ _ _)
   | (with_reducible exact ih2 _ _ _ _ _)
   | (with_reducible exact ih3 _ _ _ _ _ _)
   | (with_reducible exact ih4 _ _ _ _ _ _)
   | (with_reducible exact ih5 _ _ _ _ _)
   | (with_reducible exact ih6 _ _ _ _)
   | (with_reducible exact bits_Div64.mono _ _ _ _)
   | (with_reducible exact dec_Scan.mono _ _ _ _)
   | (with_reducible exact dec_read.mono _ _)
   | (with_reducible exact LeO.refl _)
   | (with_reducible exact LeO.none _)
   | (with_reducible refine LeO.ite ?_ ?_)
   | (with_reducible refine LeO.bind ?_ (fun _ => ?_))
   | exact ih0 _ _
   | exact ih1 _ _ _ _
   | exact ih2 _ _ _ _ _
   | exact ih3 _ _ _ _ _ _
   | exact ih4 _ _ _ _ _ _
   | exact ih5 _ _ _ _ _
   | exact ih6 _ _ _ _
   | exact bits_Div64.mono _ _ _ _
   | exact dec_Scan.mono _ _ _ _
   | exact dec_read.mono _ _
   | exact LeO.none _
   | refine LeO.ite ?_ ?_
   | refine LeO.bind ?_ (fun _ => ?_)
theorem dec_Parse.mono : ∀ a0 k, LeO (dec_Parse.f k a0) (dec_Parse.f (k + 1) a0) := by
 intro a0 k
 obtain ⟨ih0, ih1, ih2, ih3, ih4, ih5, ih6⟩ := dec_Parse.mono_l k
 unfold dec_Parse.f
 repeat' first
   | (with_reducible exact ih0 _ _)
   | (with_reducible exact ih1 _ _ _ _)
   | (with_reducible exact ih2 _ _ _ _ _)
   | (with_reducible exact ih3 _ _ _ _ _ _)
   | (with_reducible exact ih4 _ _ _ _ _ _)
   | (with_reducible exact ih5 _ _ _ _ _)
   | (with_reducible exact ih6 _ _ _ _)
   | (with_reducible exact bits_Div64.mono _ _ _ _)
   | (with_reducible exact dec_Scan.mono _ _ _ _)
   | (with_reducible exact dec_read.mono _ _)
   | (with_reducible exact LeO.refl _)
   | (with_reducible exact LeO.none _)
   | (with_reducible refine LeO.ite ?_ ?_)
   | (with_reducible refine LeO.bind ?_ (fun _ => ?_))
   | exact ih0 _ _
   | exact ih1 _ _ _ _
   | exact ih2 _ _ _ _ _
   | exact ih3 _ _ _ _ _ _
   | exact ih4 _ _ _ _ _ _
   | exact ih5 _ _ _ _ _
   | exact ih6 _ _ _ _
   | exact bits_Div64.mono _ _ _ _
   | exact dec_Scan.mono _ _ _ _
   | exact dec_read.mono _ _
   | exact LeO.none _
   | refine LeO.ite ?_ ?_
   | refine LeO.bind ?_ (fun _ => ?_)
set_option maxHeartbeats 8000000 in
set_option maxRecDepth 100000 in
theorem dec_Parse.calls (k : Nat) (a0 : ByteArray) (r1 : Int) (r2 : Int) (w : World) (hG : Gl w) (h : dec_Parse.f k a0 = some (r1, r2)) :
  Calls Tryd.prog 12 #[.string a0] w fun e w' => e = .returned (.tuple #[.int .i64 r1, .int .i64 r2]) ∧ Below w.heap.size w w' := by
 have hu59 := Tryd.underlying59
 have HG := Aside0.mk hG
 clear hG
 have HB := Aside0.mk (Below.refl w.heap.size w)
 have H : ((dec_Scan.f k a0 0 true).bind fun bt116 => (if bt116.2 = true then (dec_Parse.j0 k a0 (decide (bt116.1 < (a0.size : Int)))) else (dec_Parse.j0 k a0 true))) = some (r1, r2) := h
 clear h
 replace H := Option.bind_eq_some_iff.mp H
 obtain ⟨⟨t116, t117⟩, A20, H⟩ := H
 replace H : (if t117 = true then (dec_Parse.j0 k a0 (decide (t116 < (a0.size : Int)))) else (dec_Parse.j0 k a0 true)) = some (r1, r2) := H
 have A2 := Aside0.mk A20
 clear A20
 have HC3 := Aside0.mk H
 clear H
 go_enter Tryd.func12, Tryd.ntmps12
 go_upto_region 2 with (first | ((with_reducible refine gate_callee (f := 31) rfl ?_); refine goesL_ (some 19) rfl rfl Tryd.func31 (by kernel_rfl) rfl #[.string a0, .int .i64 0, .bool true] rfl (by (try simp only [List.map_toArray, List.map_cons, List.map_nil]); first | done | rfl | (simp only [List.length_drop, List.length_take]; rfl)) ?_; (with_reducible refine (dec_Scan.calls k a0 0 true t116 t117 _ ?side1 A2.out).mono ?_); (case side1 => exact Gl.below HG.out (wq HB.out)); rintro e w' ⟨rfl, ⟨nd, rfl⟩⟩; refine ⟨_, rfl, ?_⟩))
 (try simp only [apz])
 go_cut [29] (fun v29 wc => ∃ (kq : Nat) (x29_2 : Bool), v29 = .bool x29_2 ∧ Aside0 (dec_Parse.j0 kq a0 x29_2 = some (r1, r2)) ∧ Aside0 (kq ≤ k) ∧ Aside0 (Below w.heap.size w wc))
 case first =>
  have H := HC3.out
  clear HC3
  by_cases c4 : t117 = true
  ·
   subst c4
   have H1 : (dec_Parse.j0 k a0 (decide (t116 < (a0.size : Int)))) = some (r1, r2) := by rw [if_pos rfl] at H; exact H
   clear H
   have H := H1
   clear H1
   have H' := Aside0.mk H
   clear H
   go_wp2
   go_meet
   case rel => exact ⟨_, (decide (t116 < (a0.size : Int))), (by first | rfl | (simp; done) | (simp [*]; done)), H', ⟨by first | omega | exact Nat.le_refl _⟩, ⟨by exact wq HB.out⟩⟩
  ·
   replace c4 := Bool.eq_false_iff.mpr c4
   subst c4
   have H1 : (dec_Parse.j0 k a0 true) = some (r1, r2) := by rw [if_neg (show ¬ (false = true) by decide)] at H; exact H
   clear H
   have H := H1
   clear H1
   have H' := Aside0.mk H
   clear H
   go_wp2
   go_meet
   case rel => exact ⟨_, (true), (by first | rfl | (simp; done) | (simp [*]; done)), H', ⟨by first | omega | exact Nat.le_refl _⟩, ⟨by exact wq HB.out⟩⟩
 case rest =>
  clear HC3
  try clear c1
  try clear p2
  try clear c3
  try clear c4
  obtain ⟨kq, x29_2, rfl, HA, HJ2, HB⟩ := hcut
  cases kq with
  | zero => exact absurd HA.out (by simp [dec_Parse.j0])
  | succ kj2 =>
   have H := HA.out
   clear HA
   simp only [dec_Parse.j0] at H
   by_cases c5 : x29_2 = true
   ·
    subst c5
    have H1 : (some (0, 3)) = some (r1, r2) := by rw [if_pos rfl] at H; exact H
    clear H
    have H := H1
    clear H1
    simp only [Option.some.injEq, Prod.mk.injEq] at H
    obtain ⟨rfl, rfl⟩ := H
    go_wp2
    go_ret2
    exact ⟨by first | rfl | (simp [errW_none, errW_some] <;> rfl) | (simp [*, errW_none, errW_some] <;> rfl), by exact wq HB.out⟩
   ·
    replace c5 := Bool.eq_false_iff.mpr c5
    subst c5
    have H1 : ((dec_read.f kj2 a0).bind fun bt118 => (if bt118.2.2 > 5 then (dec_Parse.j1 kj2 (decide (0 < bt118.2.1.length)) bt118.1 bt118.2.1 bt118.2.2) else (dec_Parse.j1 kj2 false bt118.1 bt118.2.1 bt118.2.2))) = some (r1, r2) := by rw [if_neg (show ¬ (false = true) by decide)] at H; exact H
    clear H
    have H := H1
    clear H1
    replace H := Option.bind_eq_some_iff.mp H
    obtain ⟨⟨t118, t119, t122⟩, A60, H⟩ := H
    replace H : (if t122 > 5 then (dec_Parse.j1 kj2 (decide (0 < t119.length)) t118 t119 t122) else (dec_Parse.j1 kj2 false t118 t119 t122)) = some (r1, r2) := H
    have A6 := Aside0.mk A60
    clear A60
    have HC7 := Aside0.mk H
    clear H
    go_upto_region 5 with (first | ((with_reducible refine gate_callee (f := 32) rfl ?_); refine goesL_ (some 31) rfl rfl Tryd.func32 (by kernel_rfl) rfl #[.string a0] rfl (by (try simp only [List.map_toArray, List.map_cons, List.map_nil]); first | done | rfl | (simp only [List.length_drop, List.length_take]; rfl)) ?_; (with_reducible refine (dec_read.calls kj2 a0 t118 t119 t122 _ A6.out).mono ?_); rintro e w8 ⟨v120, rfl, ho0, hb⟩; refine ⟨_, rfl, ?_⟩; have n0_ := Aside0.mk (Kd.R_lower ho0 (below_size (wq HB.out))); have n1_ := Aside0.mk (below_step (wq HB.out) hb); clear HB; have HO121 := n0_; have HB := n1_; clear n0_ n1_; (try clear hb); (try clear hb2); (try clear hk); (try clear hi); (try clear ho0)) | ((with_reducible refine gate_dst (N := 6) rfl ?_); (try (refine gate_guard (by rfl) ?_; dsimp only)); refine box_event ?hg (N := 6) ?hd (cs := #[.bool false, .slice none 0 0, .int .i64 0]) (t := 59) ?hr ?_; (case hd => rfl); (case hg => rfl); (case hr => first | (go_simp; done) | (go_simp; rfl)); intro gb123 hg w9 hbox hb; have n0_ := Aside0.mk (Kd.R_below (rq HO121.out) hb); have n1_ := Aside0.mk (below_step (wq HB.out) hb); have n2_ := Aside0.mk (hbox); have n3_ := Aside0.mk ((by rw [hg]; exact (below_size (wq HB.out)) : w.heap.size ≤ gb123)); have n4_ := n3_; clear HO121 HB; have HO121 := n0_; have HB := n1_; have BK123 := n2_; have GW123 := n3_; have GE123 := n4_; clear n0_ n1_ n2_ n3_ n4_ hb hbox hg; have hcz10_0 : w9.cell? ⟨gb123, 0, none⟩ = some (.bool false) := (blk_cell BK123.out 0).trans rfl; have hcz10_1 : w9.cell? ⟨gb123, 1, none⟩ = some (.slice none 0 0) := (blk_cell BK123.out 1).trans rfl; have hcz10_2 : w9.cell? ⟨gb123, 2, none⟩ = some (.int .i64 0) := (blk_cell BK123.out 2).trans rfl; have hfz10_0 := blk_frozen BK123.out 0; have hfz10_1 := blk_frozen BK123.out 1; have hfz10_2 := blk_frozen BK123.out 2; obtain ⟨Ao11, co11, eo11⟩ := Kd.R_slice HO121.out; subst eo11))
    (try simp only [apz])
    go_cut [40] (fun v40 wc => ∃ (kq : Nat) (x40_6 : Bool), v40 = .bool x40_6 ∧ Aside0 (dec_Parse.j1 kq x40_6 t118 t119 t122 = some (r1, r2)) ∧ Aside0 (kq ≤ kj2) ∧ Aside0 (Kd.R (Kd.int .u8) 5 wc w.heap.size (fun _ => True) (.slice Ao11 t119.length co11) t119) ∧ Aside0 (wc.heap[gb123]? = some (.cells #[.bool t118, (.slice Ao11 t119.length co11), .int .i64 t122] 59 (0, 0))) ∧ Aside0 (Below w.heap.size w wc))
    case first =>
     have H := HC7.out
     clear HC7
     by_cases c12 : t122 > 5
     ·
      rw [if_pos c12] at H
      have c12b0 : decide (5 < t122) = true := decide_eq_true c12
      clear c12
      (first | rw [c12b0] | (simp only [i64_w, i32_w]; rw [c12b0]) | skip)
      have H' := Aside0.mk H
      clear H
      have hcz13_0 : w9.cell? ⟨gb123, 0, none⟩ = some (.bool false) := (blk_cell BK123.out 0).trans rfl
      have hcz13_1 : w9.cell? ⟨gb123, 1, none⟩ = some (.slice none 0 0) := (blk_cell BK123.out 1).trans rfl
      have hcz13_2 : w9.cell? ⟨gb123, 2, none⟩ = some (.int .i64 0) := (blk_cell BK123.out 2).trans rfl
      have hfz13_0 := blk_frozen BK123.out 0
      have hfz13_1 := blk_frozen BK123.out 1
      have hfz13_2 := blk_frozen BK123.out 2
      go_wp2
      go_meet
      case rel => exact ⟨_, (decide (0 < t119.length)), (by first | rfl | (simp; done) | (simp [*]; done)), H', ⟨by have := HJ2.out; first | omega | exact Nat.le_refl _⟩, ⟨by apply rq; exact Kd.R_mono (Kd.R_far (p := ⟨gb123, 2, none⟩) (Kd.R_far (p := ⟨gb123, 1, none⟩) (Kd.R_far (p := ⟨gb123, 0, none⟩) (Kd.R_types HO121.out BK123.out (by decide)) (fun _ hk => hk.2) (.bool t118)) (fun _ hk => hk.2) (.slice Ao11 t119.length co11)) (fun _ hk => hk.2) (.int .i64 t122)) (fun _ hk => trivial)⟩, ⟨by refine bq ?_; refine blk_put (cs := #[.bool t118, .slice Ao11 t119.length co11, .int .i64 0]) ?_ 2 _ rfl; refine bq ?_; refine blk_put (cs := #[.bool t118, .slice none 0 0, .int .i64 0]) ?_ 1 _ rfl; refine bq ?_; refine blk_put (cs := #[.bool false, .slice none 0 0, .int .i64 0]) ?_ 0 _ rfl; refine bq ?_; exact BK123.out⟩, ⟨by exact wq HB.out⟩⟩
     ·
      rw [if_neg c12] at H
      have c12b0 : decide (5 < t122) = false := decide_eq_false c12
      clear c12
      (first | rw [c12b0] | (simp only [i64_w, i32_w]; rw [c12b0]) | skip)
      have H' := Aside0.mk H
      clear H
      have hcz14_0 : w9.cell? ⟨gb123, 0, none⟩ = some (.bool false) := (blk_cell BK123.out 0).trans rfl
      have hcz14_1 : w9.cell? ⟨gb123, 1, none⟩ = some (.slice none 0 0) := (blk_cell BK123.out 1).trans rfl
      have hcz14_2 : w9.cell? ⟨gb123, 2, none⟩ = some (.int .i64 0) := (blk_cell BK123.out 2).trans rfl
      have hfz14_0 := blk_frozen BK123.out 0
      have hfz14_1 := blk_frozen BK123.out 1
      have hfz14_2 := blk_frozen BK123.out 2
      go_wp2
      go_meet
      case rel => exact ⟨_, (false), (by first | rfl | (simp; done) | (simp [*]; done)), H', ⟨by have := HJ2.out; first | omega | exact Nat.le_refl _⟩, ⟨by apply rq; exact Kd.R_mono (Kd.R_far (p := ⟨gb123, 2, none⟩) (Kd.R_far (p := ⟨gb123, 1, none⟩) (Kd.R_far (p := ⟨gb123, 0, none⟩) (Kd.R_types HO121.out BK123.out (by decide)) (fun _ hk => hk.2) (.bool t118)) (fun _ hk => hk.2) (.slice Ao11 t119.length co11)) (fun _ hk => hk.2) (.int .i64 t122)) (fun _ hk => trivial)⟩, ⟨by refine bq ?_; refine blk_put (cs := #[.bool t118, .slice Ao11 t119.length co11, .int .i64 0]) ?_ 2 _ rfl; refine bq ?_; refine blk_put (cs := #[.bool t118, .slice none 0 0, .int .i64 0]) ?_ 1 _ rfl; refine bq ?_; refine blk_put (cs := #[.bool false, .slice none 0 0, .int .i64 0]) ?_ 0 _ rfl; refine bq ?_; exact BK123.out⟩, ⟨by exact wq HB.out⟩⟩
    case rest =>
     clear HC7
     try clear c1
     try clear p2
     try clear c3
     try clear c4
     try clear c5
     try clear c12
     try clear c12b0
     try clear hcz10_0
     try clear hcz10_1
     try clear hcz10_2
     try clear hcz13_0
     try clear hcz13_1
     try clear hcz13_2
     try clear hcz14_0
     try clear hcz14_1
     try clear hcz14_2
     try clear hfz10_0
     try clear hfz10_1
     try clear hfz10_2
     try clear hfz13_0
     try clear hfz13_1
     try clear hfz13_2
     try clear hfz14_0
     try clear hfz14_1
     try clear hfz14_2
     try clear p2
     obtain ⟨kq, x40_6, rfl, HA, HJ6, HO_124001, BK123, HB⟩ := hcut
     cases kq with
     | zero => exact absurd HA.out (by simp [dec_Parse.j1])
     | succ kj6 =>
      have H := HA.out
      clear HA
      simp only [dec_Parse.j1] at H
      by_cases c15 : x40_6 = true
      ·
       subst c15
       have H1 : (some (0, 2)) = some (r1, r2) := by rw [if_pos rfl] at H; exact H
       clear H
       have H := H1
       clear H1
       simp only [Option.some.injEq, Prod.mk.injEq] at H
       obtain ⟨rfl, rfl⟩ := H
       go_wp2
       go_ret2
       exact ⟨by first | rfl | (simp [errW_none, errW_some] <;> rfl) | (simp [*, errW_none, errW_some] <;> rfl), by exact wq HB.out⟩
      ·
       replace c15 := Bool.eq_false_iff.mpr c15
       subst c15
       have H1 : (dec_Parse.l0 kj6 0 (-4) t118 t119 t122) = some (r1, r2) := by rw [if_neg (show ¬ (false = true) by decide)] at H; exact H
       clear H
       have H := H1
       clear H1
       have H' := Aside0.mk H
       clear H
       go_wp2
       go_loopg [7, 8] kj6 (fun kq v7 v8 w' => ∃ (x7_3 : Int) (x8_3 : Int), v7 = .int .u64 x7_3 ∧ v8 = .int .i64 x8_3 ∧ Aside0 (dec_Parse.l0 kq x7_3 x8_3 t118 t119 t122 = some (r1, r2)) ∧ Aside0 (kq ≤ kj6) ∧ Aside0 (Kd.R (Kd.int .u8) 5 w' w.heap.size (fun _ => True) (.slice Ao11 t119.length co11) t119) ∧ Aside0 (w'.heap[gb123]? = some (.cells #[.bool t118, (.slice Ao11 t119.length co11), .int .i64 t122] 59 (0, 0))) ∧ Aside0 (Below w.heap.size w w'))
       case atStart => exact ⟨(0), ((-4)), (by first | rfl | (simp; done) | (simp [*]; done)), (by first | rfl | (simp; done) | (simp [*]; done)), H', ⟨Nat.le_refl _⟩, ⟨by apply rq; exact HO_124001.out⟩, ⟨by refine bq ?_; exact BK123.out⟩, ⟨by exact wq HB.out⟩⟩
       case round =>
        clear H'
        try clear c1
        try clear p2
        try clear c3
        try clear c4
        try clear c5
        try clear c12
        try clear c12b0
        try clear c15
        try clear hcz10_0
        try clear hcz10_1
        try clear hcz10_2
        try clear hcz13_0
        try clear hcz13_1
        try clear hcz13_2
        try clear hcz14_0
        try clear hcz14_1
        try clear hcz14_2
        try clear hfz10_0
        try clear hfz10_1
        try clear hfz10_2
        try clear hfz13_0
        try clear hfz13_1
        try clear hfz13_2
        try clear hfz14_0
        try clear hfz14_1
        try clear hfz14_2
        try clear p2
        obtain ⟨x7_3, x8_3, rfl, rfl, HA, HK3, HO_124001, BK123, HB⟩ := hrel
        cases gk with
        | zero => exact absurd HA.out (by simp [dec_Parse.l0])
        | succ k3 =>
         have H := HA.out
         clear HA
         simp only [dec_Parse.l0] at H
         by_cases c16 : x8_3 ≤ 0
         ·
          rw [if_pos c16] at H
          have c16b0 : decide (x8_3 ≤ 0) = true := decide_eq_true c16
          clear c16
          replace H := Option.bind_eq_some_iff.mp H
          obtain ⟨t124, A170, H⟩ := H
          replace H : (dec_Parse.l0 k3 (IntKind.u64.wrap ((IntKind.u64.wrap (10 * x7_3)) + t124)) (wrap64 (x8_3 + 1)) t118 t119 t122) = some (r1, r2) := H
          have A17 := Aside0.mk A170
          clear A170
          have H' := Aside0.mk H
          clear H
          have hcz18_0 : wr.cell? ⟨gb123, 0, none⟩ = some (.bool t118) := (blk_cell BK123.out 0).trans rfl
          have hcz18_1 : wr.cell? ⟨gb123, 1, none⟩ = some (.slice Ao11 t119.length co11) := (blk_cell BK123.out 1).trans rfl
          have hcz18_2 : wr.cell? ⟨gb123, 2, none⟩ = some (.int .i64 t122) := (blk_cell BK123.out 2).trans rfl
          have hfz18_0 := blk_frozen BK123.out 0
          have hfz18_1 := blk_frozen BK123.out 1
          have hfz18_2 := blk_frozen BK123.out 2
          go_wp2_with (first | ((with_reducible refine gate_callee (f := 33) rfl ?_); refine goesL_ (some 49) rfl rfl Tryd.func33 (by kernel_rfl) rfl #[.agg #[.bool t118, .slice Ao11 t119.length co11, .int .i64 t122], .int .i64 x8_3] rfl (by (try simp only [List.map_toArray, List.map_cons, List.map_nil]); first | done | rfl | (simp only [List.length_drop, List.length_take]; rfl)) ?_; (with_reducible refine (dec_number_digit.calls t118 _ _ t119 t122 x8_3 t124 _ ?side1 ?side2 A17.out).mono ?_); (case side1 => exact cq (Kd.R_reads' HO_124001.out).2.2); (case side2 => exact (Kd.R_reads' HO_124001.out).2.1); rintro e w19 ⟨rfl, hb⟩; refine ⟨_, rfl, ?_⟩; have n0_ := Aside0.mk (Kd.R_below (rq HO_124001.out) hb); have n1_ := Aside0.mk (blk_below (bq BK123.out) hb); have n2_ := Aside0.mk (below_step (wq HB.out) hb); clear HO_124001 BK123 HB; have HO_124001 := n0_; have BK123 := n1_; have HB := n2_; clear n0_ n1_ n2_; (try clear hb); (try clear hb2); (try clear hk); (try clear hi)))
          go_roundg k3
          case measure => have := HJ2.out; have := HJ6.out; have := HK3.out; omega
          case rel => exact ⟨(IntKind.u64.wrap ((IntKind.u64.wrap (10 * x7_3)) + t124)), (wrap64 (x8_3 + 1)), (by first | rfl | (simp; done) | (simp [*]; done)), (by first | rfl | (simp; done) | (simp [*]; done)), H', ⟨by have := HJ2.out; have := HJ6.out; have := HK3.out; omega⟩, ⟨by apply rq; exact HO_124001.out⟩, ⟨by refine bq ?_; exact BK123.out⟩, ⟨by exact wq HB.out⟩⟩
         ·
          rw [if_neg c16] at H
          have c16b0 : decide (x8_3 ≤ 0) = false := decide_eq_false c16
          clear c16
          have H' := Aside0.mk H
          clear H
          go_wp2
          go_loopg [9, 10] k3 (fun kq v9 v10 w' => ∃ (x9_4 : Int) (x10_4 : Int), v9 = .int .u64 x9_4 ∧ v10 = .int .i64 x10_4 ∧ Aside0 (dec_Parse.l1 kq x7_3 x9_4 x10_4 t118 t119 t122 = some (r1, r2)) ∧ Aside0 (kq ≤ k3) ∧ Aside0 (Kd.R (Kd.int .u8) 5 w' w.heap.size (fun _ => True) (.slice Ao11 t119.length co11) t119) ∧ Aside0 (w'.heap[gb123]? = some (.cells #[.bool t118, (.slice Ao11 t119.length co11), .int .i64 t122] 59 (0, 0))) ∧ Aside0 (Below w.heap.size w w'))
          case atStart => exact ⟨(0), (1), (by first | rfl | (simp; done) | (simp [*]; done)), (by first | rfl | (simp; done) | (simp [*]; done)), H', ⟨Nat.le_refl _⟩, ⟨by apply rq; exact HO_124001.out⟩, ⟨by refine bq ?_; exact BK123.out⟩, ⟨by exact wq HB.out⟩⟩
          case round =>
           clear H'
           try clear c1
           try clear p2
           try clear c3
           try clear c4
           try clear c5
           try clear p6
           try clear c12
           try clear c12b0
           try clear c15
           try clear c16
           try clear c16b0
           try clear hcz10_0
           try clear hcz10_1
           try clear hcz10_2
           try clear hcz13_0
           try clear hcz13_1
           try clear hcz13_2
           try clear hcz14_0
           try clear hcz14_1
           try clear hcz14_2
           try clear hcz18_0
           try clear hcz18_1
           try clear hcz18_2
           try clear hfz10_0
           try clear hfz10_1
           try clear hfz10_2
           try clear hfz13_0
           try clear hfz13_1
           try clear hfz13_2
           try clear hfz14_0
           try clear hfz14_1
           try clear hfz14_2
           try clear hfz18_0
           try clear hfz18_1
           try clear hfz18_2
           try clear p2
           obtain ⟨x9_4, x10_4, rfl, rfl, HA, HK4, HO_124001, BK123, HB⟩ := hrel
           cases gk with
           | zero => exact absurd HA.out (by simp [dec_Parse.l1])
           | succ k4 =>
            have H := HA.out
            clear HA
            simp only [dec_Parse.l1] at H
            by_cases c20 : x10_4 ≤ 17
            ·
             rw [if_pos c20] at H
             have c20b0 : decide (x10_4 ≤ 17) = true := decide_eq_true c20
             clear c20
             replace H := Option.bind_eq_some_iff.mp H
             obtain ⟨t125, A210, H⟩ := H
             replace H : (dec_Parse.l1 k4 x7_3 (IntKind.u64.wrap ((IntKind.u64.wrap (10 * x9_4)) + t125)) (wrap64 (x10_4 + 1)) t118 t119 t122) = some (r1, r2) := H
             have A21 := Aside0.mk A210
             clear A210
             have H' := Aside0.mk H
             clear H
             have hcz22_0 : wr.cell? ⟨gb123, 0, none⟩ = some (.bool t118) := (blk_cell BK123.out 0).trans rfl
             have hcz22_1 : wr.cell? ⟨gb123, 1, none⟩ = some (.slice Ao11 t119.length co11) := (blk_cell BK123.out 1).trans rfl
             have hcz22_2 : wr.cell? ⟨gb123, 2, none⟩ = some (.int .i64 t122) := (blk_cell BK123.out 2).trans rfl
             have hfz22_0 := blk_frozen BK123.out 0
             have hfz22_1 := blk_frozen BK123.out 1
             have hfz22_2 := blk_frozen BK123.out 2
             go_wp2_with (first | ((with_reducible refine gate_callee (f := 33) rfl ?_); refine goesL_ (some 59) rfl rfl Tryd.func33 (by kernel_rfl) rfl #[.agg #[.bool t118, .slice Ao11 t119.length co11, .int .i64 t122], .int .i64 x10_4] rfl (by (try simp only [List.map_toArray, List.map_cons, List.map_nil]); first | done | rfl | (simp only [List.length_drop, List.length_take]; rfl)) ?_; (with_reducible refine (dec_number_digit.calls t118 _ _ t119 t122 x10_4 t125 _ ?side1 ?side2 A21.out).mono ?_); (case side1 => exact cq (Kd.R_reads' HO_124001.out).2.2); (case side2 => exact (Kd.R_reads' HO_124001.out).2.1); rintro e w23 ⟨rfl, hb⟩; refine ⟨_, rfl, ?_⟩; have n0_ := Aside0.mk (Kd.R_below (rq HO_124001.out) hb); have n1_ := Aside0.mk (blk_below (bq BK123.out) hb); have n2_ := Aside0.mk (below_step (wq HB.out) hb); clear HO_124001 BK123 HB; have HO_124001 := n0_; have BK123 := n1_; have HB := n2_; clear n0_ n1_ n2_; (try clear hb); (try clear hb2); (try clear hk); (try clear hi)))
             go_roundg k4
             case measure => have := HJ2.out; have := HJ6.out; have := HK3.out; have := HK4.out; omega
             case rel => exact ⟨(IntKind.u64.wrap ((IntKind.u64.wrap (10 * x9_4)) + t125)), (wrap64 (x10_4 + 1)), (by first | rfl | (simp; done) | (simp [*]; done)), (by first | rfl | (simp; done) | (simp [*]; done)), H', ⟨by have := HJ2.out; have := HJ6.out; have := HK3.out; have := HK4.out; omega⟩, ⟨by apply rq; exact HO_124001.out⟩, ⟨by refine bq ?_; exact BK123.out⟩, ⟨by exact wq HB.out⟩⟩
            ·
             rw [if_neg c20] at H
             have c20b0 : decide (x10_4 ≤ 17) = false := decide_eq_false c20
             clear c20
             have HC24 := Aside0.mk H
             clear H
             go_upto_region 17 with (fail)
             go_cut [11] (fun v11 wc => ∃ (kq : Nat) (x11_23 : Bool), v11 = .bool x11_23 ∧ Aside0 (dec_Parse.j4 kq x7_3 x9_4 x11_23 t118 t119 t122 = some (r1, r2)) ∧ Aside0 (kq ≤ k4) ∧ Aside0 (Kd.R (Kd.int .u8) 5 wc w.heap.size (fun _ => True) (.slice Ao11 t119.length co11) t119) ∧ Aside0 (wc.heap[gb123]? = some (.cells #[.bool t118, (.slice Ao11 t119.length co11), .int .i64 t122] 59 (0, 0))) ∧ Aside0 (Below w.heap.size w wc))
             case first =>
              have H := HC24.out
              clear HC24
              by_cases c25 : (t119.length : Int) > 0
              ·
               rw [if_pos c25] at H
               have c25b0 : decide (0 < (t119.length : Int)) = true := decide_eq_true c25
               have c25b1 : decide (0 < t119.length) = true := decide_eq_true (by omega)
               clear c25
               (first | rw [c25b0] | (simp only [i64_w, i32_w]; rw [c25b0]) | skip)
               have H' := Aside0.mk H
               clear H
               have hcz26_0 : wr.cell? ⟨gb123, 0, none⟩ = some (.bool t118) := (blk_cell BK123.out 0).trans rfl
               have hcz26_1 : wr.cell? ⟨gb123, 1, none⟩ = some (.slice Ao11 t119.length co11) := (blk_cell BK123.out 1).trans rfl
               have hcz26_2 : wr.cell? ⟨gb123, 2, none⟩ = some (.int .i64 t122) := (blk_cell BK123.out 2).trans rfl
               have hfz26_0 := blk_frozen BK123.out 0
               have hfz26_1 := blk_frozen BK123.out 1
               have hfz26_2 := blk_frozen BK123.out 2
               go_wp2
               go_meet
               case rel => exact ⟨_, (decide ((wrap64 (t122 + 17)) < (t119.length : Int))), (by first | rfl | (simp; done) | (simp [*]; done)), H', ⟨by have := HJ2.out; have := HJ6.out; have := HK3.out; have := HK4.out; first | omega | exact Nat.le_refl _⟩, ⟨by apply rq; exact HO_124001.out⟩, ⟨by refine bq ?_; exact BK123.out⟩, ⟨by exact wq HB.out⟩⟩
              ·
               rw [if_neg c25] at H
               have c25b0 : decide (0 < (t119.length : Int)) = false := decide_eq_false c25
               have c25b1 : decide (0 < t119.length) = false := decide_eq_false (by omega)
               clear c25
               (first | rw [c25b0] | (simp only [i64_w, i32_w]; rw [c25b0]) | skip)
               have H' := Aside0.mk H
               clear H
               have hcz27_0 : wr.cell? ⟨gb123, 0, none⟩ = some (.bool t118) := (blk_cell BK123.out 0).trans rfl
               have hcz27_1 : wr.cell? ⟨gb123, 1, none⟩ = some (.slice Ao11 t119.length co11) := (blk_cell BK123.out 1).trans rfl
               have hcz27_2 : wr.cell? ⟨gb123, 2, none⟩ = some (.int .i64 t122) := (blk_cell BK123.out 2).trans rfl
               have hfz27_0 := blk_frozen BK123.out 0
               have hfz27_1 := blk_frozen BK123.out 1
               have hfz27_2 := blk_frozen BK123.out 2
               go_wp2
               go_meet
               case rel => exact ⟨_, (false), (by first | rfl | (simp; done) | (simp [*]; done)), H', ⟨by have := HJ2.out; have := HJ6.out; have := HK3.out; have := HK4.out; first | omega | exact Nat.le_refl _⟩, ⟨by apply rq; exact HO_124001.out⟩, ⟨by refine bq ?_; exact BK123.out⟩, ⟨by exact wq HB.out⟩⟩
             case rest =>
              clear HC24
              try clear c1
              try clear c2
              try clear p2
              try clear c3
              try clear c4
              try clear c5
              try clear p6
              try clear c12
              try clear c12b0
              try clear c15
              try clear c16
              try clear c16b0
              try clear c20
              try clear c20b0
              try clear c25
              try clear c25b0
              try clear c25b1
              try clear hcz10_0
              try clear hcz10_1
              try clear hcz10_2
              try clear hcz13_0
              try clear hcz13_1
              try clear hcz13_2
              try clear hcz14_0
              try clear hcz14_1
              try clear hcz14_2
              try clear hcz18_0
              try clear hcz18_1
              try clear hcz18_2
              try clear hcz22_0
              try clear hcz22_1
              try clear hcz22_2
              try clear hcz26_0
              try clear hcz26_1
              try clear hcz26_2
              try clear hcz27_0
              try clear hcz27_1
              try clear hcz27_2
              try clear hfz10_0
              try clear hfz10_1
              try clear hfz10_2
              try clear hfz13_0
              try clear hfz13_1
              try clear hfz13_2
              try clear hfz14_0
              try clear hfz14_1
              try clear hfz14_2
              try clear hfz18_0
              try clear hfz18_1
              try clear hfz18_2
              try clear hfz22_0
              try clear hfz22_1
              try clear hfz22_2
              try clear hfz26_0
              try clear hfz26_1
              try clear hfz26_2
              try clear hfz27_0
              try clear hfz27_1
              try clear hfz27_2
              try clear p2
              try clear p6
              obtain ⟨kq, x11_23, rfl, HA, HJ23, HO_124001, BK123, HB⟩ := hcut
              cases kq with
              | zero => exact absurd HA.out (by simp [dec_Parse.j4])
              | succ kj23 =>
               have H := HA.out
               clear HA
               simp only [dec_Parse.j4] at H
               replace H := Option.bind_eq_some_iff.mp H
               obtain ⟨⟨t126, t127⟩, A280, H⟩ := H
               replace H : ((bits_Div64.f kj23 t126 t127 100000000000000000).bind fun bt128 => (if bt128.2 > 50000000000000000 then (dec_Parse.j5 kj23 (IntKind.u64.wrap ((IntKind.u64.wrap (x7_3 * 65536)) + bt128.1)) true t118 t119 t122) else (if bt128.2 = 50000000000000000 then (if x11_23 = true then (dec_Parse.j5 kj23 (IntKind.u64.wrap ((IntKind.u64.wrap (x7_3 * 65536)) + bt128.1)) true t118 t119 t122) else (dec_Parse.j5 kj23 (IntKind.u64.wrap ((IntKind.u64.wrap (x7_3 * 65536)) + bt128.1)) (!t118) t118 t119 t122)) else (dec_Parse.j5 kj23 (IntKind.u64.wrap ((IntKind.u64.wrap (x7_3 * 65536)) + bt128.1)) false t118 t119 t122)))) = some (r1, r2) := H
               have A28 := Aside0.mk A280
               clear A280
               replace H := Option.bind_eq_some_iff.mp H
               obtain ⟨⟨t128, t129⟩, A290, H⟩ := H
               replace H : (if t129 > 50000000000000000 then (dec_Parse.j5 kj23 (IntKind.u64.wrap ((IntKind.u64.wrap (x7_3 * 65536)) + t128)) true t118 t119 t122) else (if t129 = 50000000000000000 then (if x11_23 = true then (dec_Parse.j5 kj23 (IntKind.u64.wrap ((IntKind.u64.wrap (x7_3 * 65536)) + t128)) true t118 t119 t122) else (dec_Parse.j5 kj23 (IntKind.u64.wrap ((IntKind.u64.wrap (x7_3 * 65536)) + t128)) (!t118) t118 t119 t122)) else (dec_Parse.j5 kj23 (IntKind.u64.wrap ((IntKind.u64.wrap (x7_3 * 65536)) + t128)) false t118 t119 t122))) = some (r1, r2) := H
               have A29 := Aside0.mk A290
               clear A290
               have HC30 := Aside0.mk H
               clear H
               go_upto_region 21 with (first | ((with_reducible refine gate_callee (f := 34) rfl ?_); refine goesL_ (some 76) rfl rfl Tryd.func34 (by kernel_rfl) rfl #[.int .u64 x9_4, .int .u64 65536] rfl (by (try simp only [List.map_toArray, List.map_cons, List.map_nil]); first | done | rfl | (simp only [List.length_drop, List.length_take]; rfl)) ?_; (with_reducible refine (bits_Mul64.calls x9_4 65536 t126 t127 _ A28.out).mono ?_); rintro e w' ⟨rfl, ⟨nd, rfl⟩⟩; refine ⟨_, rfl, ?_⟩) | ((with_reducible refine gate_callee (f := 35) rfl ?_); refine goesL_ (some 82) rfl rfl Tryd.func35 (by kernel_rfl) rfl #[.int .u64 t126, .int .u64 t127, .int .u64 100000000000000000] rfl (by (try simp only [List.map_toArray, List.map_cons, List.map_nil]); first | done | rfl | (simp only [List.length_drop, List.length_take]; rfl)) ?_; (with_reducible refine (bits_Div64.calls kj23 t126 t127 100000000000000000 t128 t129 _ A29.out).mono ?_); rintro e w' ⟨rfl, ⟨nd, rfl⟩⟩; refine ⟨_, rfl, ?_⟩))
               (try simp only [apz])
               go_cut [102] (fun v102 wc => ∃ (kq : Nat) (x102_29 : Bool), v102 = .bool x102_29 ∧ Aside0 (dec_Parse.j5 kq (IntKind.u64.wrap ((IntKind.u64.wrap (x7_3 * 65536)) + t128)) x102_29 t118 t119 t122 = some (r1, r2)) ∧ Aside0 (kq ≤ kj23) ∧ Aside0 (Kd.R (Kd.int .u8) 5 wc w.heap.size (fun _ => True) (.slice Ao11 t119.length co11) t119) ∧ Aside0 (wc.heap[gb123]? = some (.cells #[.bool t118, (.slice Ao11 t119.length co11), .int .i64 t122] 59 (0, 0))) ∧ Aside0 (Below w.heap.size w wc))
               case first =>
                have H := HC30.out
                clear HC30
                by_cases c31 : t129 > 50000000000000000
                ·
                 rw [if_pos c31] at H
                 have c31b0 : decide (50000000000000000 < t129) = true := decide_eq_true c31
                 clear c31
                 (first | rw [c31b0] | (simp only [i64_w, i32_w]; rw [c31b0]) | skip)
                 have H' := Aside0.mk H
                 clear H
                 go_wp2
                 go_meet
                 case rel => exact ⟨_, (true), (by first | rfl | (simp; done) | (simp [*]; done)), H', ⟨by have := HJ2.out; have := HJ6.out; have := HK3.out; have := HK4.out; have := HJ23.out; first | omega | exact Nat.le_refl _⟩, ⟨by apply rq; exact HO_124001.out⟩, ⟨by refine bq ?_; exact BK123.out⟩, ⟨by exact wq HB.out⟩⟩
                ·
                 rw [if_neg c31] at H
                 have c31b0 : decide (50000000000000000 < t129) = false := decide_eq_false c31
                 clear c31
                 (first | rw [c31b0] | (simp only [i64_w, i32_w]; rw [c31b0]) | skip)
                 by_cases c32 : t129 = 50000000000000000
                 ·
                  rw [if_pos c32] at H
                  have c32b0 : (t129 == 50000000000000000) = true := beq_iff_eq.mpr c32
                  have c32b1 : (t129 != 50000000000000000) = false := bne_eq_false_iff_eq.mpr c32
                  clear c32
                  by_cases c33 : x11_23 = true
                  ·
                   subst c33
                   have H1 : (dec_Parse.j5 kj23 (IntKind.u64.wrap ((IntKind.u64.wrap (x7_3 * 65536)) + t128)) true t118 t119 t122) = some (r1, r2) := by rw [if_pos rfl] at H; exact H
                   clear H
                   have H := H1
                   clear H1
                   have H' := Aside0.mk H
                   clear H
                   go_wp2
                   go_meet
                   case rel => exact ⟨_, (true), (by first | rfl | (simp; done) | (simp [*]; done)), H', ⟨by have := HJ2.out; have := HJ6.out; have := HK3.out; have := HK4.out; have := HJ23.out; first | omega | exact Nat.le_refl _⟩, ⟨by apply rq; exact HO_124001.out⟩, ⟨by refine bq ?_; exact BK123.out⟩, ⟨by exact wq HB.out⟩⟩
                  ·
                   replace c33 := Bool.eq_false_iff.mpr c33
                   subst c33
                   have H1 : (dec_Parse.j5 kj23 (IntKind.u64.wrap ((IntKind.u64.wrap (x7_3 * 65536)) + t128)) (!t118) t118 t119 t122) = some (r1, r2) := by rw [if_neg (show ¬ (false = true) by decide)] at H; exact H
                   clear H
                   have H := H1
                   clear H1
                   have H' := Aside0.mk H
                   clear H
                   have hcz34_0 : wc.cell? ⟨gb123, 0, none⟩ = some (.bool t118) := (blk_cell BK123.out 0).trans rfl
                   have hcz34_1 : wc.cell? ⟨gb123, 1, none⟩ = some (.slice Ao11 t119.length co11) := (blk_cell BK123.out 1).trans rfl
                   have hcz34_2 : wc.cell? ⟨gb123, 2, none⟩ = some (.int .i64 t122) := (blk_cell BK123.out 2).trans rfl
                   have hfz34_0 := blk_frozen BK123.out 0
                   have hfz34_1 := blk_frozen BK123.out 1
                   have hfz34_2 := blk_frozen BK123.out 2
                   go_wp2
                   go_meet
                   case rel => exact ⟨_, (!t118), (by first | rfl | (simp; done) | (simp [*]; done)), H', ⟨by have := HJ2.out; have := HJ6.out; have := HK3.out; have := HK4.out; have := HJ23.out; first | omega | exact Nat.le_refl _⟩, ⟨by apply rq; exact HO_124001.out⟩, ⟨by refine bq ?_; exact BK123.out⟩, ⟨by exact wq HB.out⟩⟩
                 ·
                  rw [if_neg c32] at H
                  have c32b0 : (t129 == 50000000000000000) = false := beq_eq_false_iff_ne.mpr c32
                  have c32b1 : (t129 != 50000000000000000) = true := bne_iff_ne.mpr c32
                  have H' := Aside0.mk H
                  clear H
                  go_wp2
                  go_meet
                  case rel => exact ⟨_, (false), (by first | rfl | (simp; done) | (simp [*]; done)), H', ⟨by have := HJ2.out; have := HJ6.out; have := HK3.out; have := HK4.out; have := HJ23.out; first | omega | exact Nat.le_refl _⟩, ⟨by apply rq; exact HO_124001.out⟩, ⟨by refine bq ?_; exact BK123.out⟩, ⟨by exact wq HB.out⟩⟩
               case rest =>
                clear HC30
                try clear c1
                try clear c2
                try clear p2
                try clear c3
                try clear c4
                try clear c5
                try clear p6
                try clear c12
                try clear c12b0
                try clear c15
                try clear c16
                try clear c16b0
                try clear c20
                try clear c20b0
                try clear c25
                try clear c25b0
                try clear c25b1
                try clear c31
                try clear c31b0
                try clear c32
                try clear c32b0
                try clear c32b1
                try clear c33
                try clear c34
                try clear hcz10_0
                try clear hcz10_1
                try clear hcz10_2
                try clear hcz13_0
                try clear hcz13_1
                try clear hcz13_2
                try clear hcz14_0
                try clear hcz14_1
                try clear hcz14_2
                try clear hcz18_0
                try clear hcz18_1
                try clear hcz18_2
                try clear hcz22_0
                try clear hcz22_1
                try clear hcz22_2
                try clear hcz26_0
                try clear hcz26_1
                try clear hcz26_2
                try clear hcz27_0
                try clear hcz27_1
                try clear hcz27_2
                try clear hcz34_0
                try clear hcz34_1
                try clear hcz34_2
                try clear hfz10_0
                try clear hfz10_1
                try clear hfz10_2
                try clear hfz13_0
                try clear hfz13_1
                try clear hfz13_2
                try clear hfz14_0
                try clear hfz14_1
                try clear hfz14_2
                try clear hfz18_0
                try clear hfz18_1
                try clear hfz18_2
                try clear hfz22_0
                try clear hfz22_1
                try clear hfz22_2
                try clear hfz26_0
                try clear hfz26_1
                try clear hfz26_2
                try clear hfz27_0
                try clear hfz27_1
                try clear hfz27_2
                try clear hfz34_0
                try clear hfz34_1
                try clear hfz34_2
                try clear p2
                try clear p6
                obtain ⟨kq, x102_29, rfl, HA, HJ29, HO_124001, BK123, HB⟩ := hcut
                cases kq with
                | zero => exact absurd HA.out (by simp [dec_Parse.j5])
                | succ kj29 =>
                 have H := HA.out
                 clear HA
                 simp only [dec_Parse.j5] at H
                 have HC35 := Aside0.mk H
                 clear H
                 go_upto_if 102 with (fail)
                 go_cut [16] (fun v16 wc => ∃ (kq : Nat) (x16_34 : Int), v16 = .int .u64 x16_34 ∧ Aside0 (dec_Parse.j6 kq x16_34 t118 t119 t122 = some (r1, r2)) ∧ Aside0 (kq ≤ kj29) ∧ Aside0 (Kd.R (Kd.int .u8) 5 wc w.heap.size (fun _ => True) (.slice Ao11 t119.length co11) t119) ∧ Aside0 (wc.heap[gb123]? = some (.cells #[.bool t118, (.slice Ao11 t119.length co11), .int .i64 t122] 59 (0, 0))) ∧ Aside0 (Below w.heap.size w wc))
                 case first =>
                  have H := HC35.out
                  clear HC35
                  by_cases c36 : x102_29 = true
                  ·
                   subst c36
                   have H1 : (dec_Parse.j6 kj29 (IntKind.u64.wrap ((IntKind.u64.wrap ((IntKind.u64.wrap (x7_3 * 65536)) + t128)) + 1)) t118 t119 t122) = some (r1, r2) := by rw [if_pos rfl] at H; exact H
                   clear H
                   have H := H1
                   clear H1
                   have H' := Aside0.mk H
                   clear H
                   go_wp2
                   go_meet
                   case rel => exact ⟨_, (IntKind.u64.wrap ((IntKind.u64.wrap ((IntKind.u64.wrap (x7_3 * 65536)) + t128)) + 1)), (by first | rfl | (simp; done) | (simp [*]; done)), H', ⟨by have := HJ2.out; have := HJ6.out; have := HK3.out; have := HK4.out; have := HJ23.out; have := HJ29.out; first | omega | exact Nat.le_refl _⟩, ⟨by apply rq; exact HO_124001.out⟩, ⟨by refine bq ?_; exact BK123.out⟩, ⟨by exact wq HB.out⟩⟩
                  ·
                   replace c36 := Bool.eq_false_iff.mpr c36
                   subst c36
                   have H1 : (dec_Parse.j6 kj29 (IntKind.u64.wrap ((IntKind.u64.wrap (x7_3 * 65536)) + t128)) t118 t119 t122) = some (r1, r2) := by rw [if_neg (show ¬ (false = true) by decide)] at H; exact H
                   clear H
                   have H := H1
                   clear H1
                   have H' := Aside0.mk H
                   clear H
                   go_wp2
                   go_meet
                   case rel => exact ⟨_, ((IntKind.u64.wrap ((IntKind.u64.wrap (x7_3 * 65536)) + t128))), (by first | rfl | (simp; done) | (simp [*]; done)), H', ⟨by have := HJ2.out; have := HJ6.out; have := HK3.out; have := HK4.out; have := HJ23.out; have := HJ29.out; first | omega | exact Nat.le_refl _⟩, ⟨by apply rq; exact HO_124001.out⟩, ⟨by refine bq ?_; exact BK123.out⟩, ⟨by exact wq HB.out⟩⟩
                 case rest =>
                  clear HC35
                  try clear c1
                  try clear c2
                  try clear p2
                  try clear c3
                  try clear c4
                  try clear c5
                  try clear p6
                  try clear c12
                  try clear c12b0
                  try clear c15
                  try clear c16
                  try clear c16b0
                  try clear c20
                  try clear c20b0
                  try clear c25
                  try clear c25b0
                  try clear c25b1
                  try clear c31
                  try clear c31b0
                  try clear c32
                  try clear c32b0
                  try clear c32b1
                  try clear c33
                  try clear c34
                  try clear c35
                  try clear c36
                  try clear hcz10_0
                  try clear hcz10_1
                  try clear hcz10_2
                  try clear hcz13_0
                  try clear hcz13_1
                  try clear hcz13_2
                  try clear hcz14_0
                  try clear hcz14_1
                  try clear hcz14_2
                  try clear hcz18_0
                  try clear hcz18_1
                  try clear hcz18_2
                  try clear hcz22_0
                  try clear hcz22_1
                  try clear hcz22_2
                  try clear hcz26_0
                  try clear hcz26_1
                  try clear hcz26_2
                  try clear hcz27_0
                  try clear hcz27_1
                  try clear hcz27_2
                  try clear hcz34_0
                  try clear hcz34_1
                  try clear hcz34_2
                  try clear hfz10_0
                  try clear hfz10_1
                  try clear hfz10_2
                  try clear hfz13_0
                  try clear hfz13_1
                  try clear hfz13_2
                  try clear hfz14_0
                  try clear hfz14_1
                  try clear hfz14_2
                  try clear hfz18_0
                  try clear hfz18_1
                  try clear hfz18_2
                  try clear hfz22_0
                  try clear hfz22_1
                  try clear hfz22_2
                  try clear hfz26_0
                  try clear hfz26_1
                  try clear hfz26_2
                  try clear hfz27_0
                  try clear hfz27_1
                  try clear hfz27_2
                  try clear hfz34_0
                  try clear hfz34_1
                  try clear hfz34_2
                  try clear p2
                  try clear p6
                  obtain ⟨kq, x16_34, rfl, HA, HJ34, HO_124001, BK123, HB⟩ := hcut
                  cases kq with
                  | zero => exact absurd HA.out (by simp [dec_Parse.j6])
                  | succ kj34 =>
                   have H := HA.out
                   clear HA
                   simp only [dec_Parse.j6] at H
                   by_cases c37 : x16_34 ≥ 4294967296
                   ·
                    rw [if_pos c37] at H
                    have c37b0 : decide (4294967296 ≤ x16_34) = true := decide_eq_true c37
                    clear c37
                    simp only [Option.some.injEq, Prod.mk.injEq] at H
                    obtain ⟨rfl, rfl⟩ := H
                    go_wp2
                    go_ret2
                    exact ⟨by first | rfl | (simp [errW_none, errW_some] <;> rfl) | (simp [*, errW_none, errW_some] <;> rfl), by exact wq HB.out⟩
                   ·
                    rw [if_neg c37] at H
                    have c37b0 : decide (4294967296 ≤ x16_34) = false := decide_eq_false c37
                    clear c37
                    by_cases c38 : t118 = true
                    ·
                     subst c38
                     have H1 : (some (wrap64 (-(wrap64 (x16_34))), 0)) = some (r1, r2) := by rw [if_pos rfl] at H; exact H
                     clear H
                     have H := H1
                     clear H1
                     simp only [Option.some.injEq, Prod.mk.injEq] at H
                     obtain ⟨rfl, rfl⟩ := H
                     have hcz39_0 : wc.cell? ⟨gb123, 0, none⟩ = some (.bool true) := (blk_cell BK123.out 0).trans rfl
                     have hcz39_1 : wc.cell? ⟨gb123, 1, none⟩ = some (.slice Ao11 t119.length co11) := (blk_cell BK123.out 1).trans rfl
                     have hcz39_2 : wc.cell? ⟨gb123, 2, none⟩ = some (.int .i64 t122) := (blk_cell BK123.out 2).trans rfl
                     have hfz39_0 := blk_frozen BK123.out 0
                     have hfz39_1 := blk_frozen BK123.out 1
                     have hfz39_2 := blk_frozen BK123.out 2
                     go_wp2
                     go_ret2
                     exact ⟨by first | rfl | (simp [errW_none, errW_some] <;> rfl) | (simp [*, errW_none, errW_some] <;> rfl), by exact wq HB.out⟩
                    ·
                     replace c38 := Bool.eq_false_iff.mpr c38
                     subst c38
                     have H1 : (some (wrap64 (x16_34), 0)) = some (r1, r2) := by rw [if_neg (show ¬ (false = true) by decide)] at H; exact H
                     clear H
                     have H := H1
                     clear H1
                     simp only [Option.some.injEq, Prod.mk.injEq] at H
                     obtain ⟨rfl, rfl⟩ := H
                     have hcz40_0 : wc.cell? ⟨gb123, 0, none⟩ = some (.bool false) := (blk_cell BK123.out 0).trans rfl
                     have hcz40_1 : wc.cell? ⟨gb123, 1, none⟩ = some (.slice Ao11 t119.length co11) := (blk_cell BK123.out 1).trans rfl
                     have hcz40_2 : wc.cell? ⟨gb123, 2, none⟩ = some (.int .i64 t122) := (blk_cell BK123.out 2).trans rfl
                     have hfz40_0 := blk_frozen BK123.out 0
                     have hfz40_1 := blk_frozen BK123.out 1
                     have hfz40_2 := blk_frozen BK123.out 2
                     go_wp2
                     go_ret2
                     exact ⟨by first | rfl | (simp [errW_none, errW_some] <;> rfl) | (simp [*, errW_none, errW_some] <;> rfl), by exact wq HB.out⟩
end Go.Proofs.YtfpnglgipchjhaaDoor.PR
namespace Go.Proofs.YtfpnglgipchjhaaDoor.PR
open Go.RowKit Go.Proofs.YtfpnglgipchjhaaDoorW.PrintWords Go.Proofs.YtfpnglgipchjhaaDoorW.PrintLast Go.Proofs.YtfpnglgipchjhaaDoorW.PrintMore
attribute [local go_sem] max2_int min2_int max_two min_two max_three min_three max_four min_four
set_option linter.unusedVariables false
set_option linter.unusedSimpArgs false
def pointillistlaw04_wakes.f (k : Nat)  : Option (Bool) := (dec_Parse.f k (⟨#[49, 46, 53]⟩ : ByteArray)).bind fun bt130 => ((dec_Parse.f k (⟨#[45, 46, 53, 101, 49]⟩ : ByteArray)).bind fun bt132 => ((dec_Parse.f k (⟨#[49, 101]⟩ : ByteArray)).bind fun bt134 => ((dec_Parse.f k (⟨#[54, 53, 53, 51, 54]⟩ : ByteArray)).bind fun bt136 => (if bt130.1 = 98304 then (if bt132.1 = (-327680) then (if bt130.2 = 0 then (if bt132.2 = 0 then (if bt134.2 = 3 then (some (bt136.2 == 2)) else (some false)) else (some false)) else (some false)) else (some false)) else (some false)))))
theorem pointillistlaw04_wakes.mono : ∀ k, LeO (pointillistlaw04_wakes.f k ) (pointillistlaw04_wakes.f (k + 1) ) := by
 intro  k
 unfold pointillistlaw04_wakes.f
 repeat' first
   | (with_reducible exact dec_Parse.mono _ _)
   | (with_reducible exact LeO.refl _)
   | (with_reducible exact LeO.none _)
   | (with_reducible refine LeO.ite ?_ ?_)
   | (with_reducible refine LeO.bind ?_ (fun _ => ?_))
   | exact dec_Parse.mono _ _
   | exact LeO.none _
   | refine LeO.ite ?_ ?_
   | refine LeO.bind ?_ (fun _ => ?_)
set_option maxHeartbeats 8000000 in
set_option maxRecDepth 100000 in
theorem pointillistlaw04_wakes.calls (k : Nat)  (r : Bool) (w : World) (hG : Gl w) (h : pointillistlaw04_wakes.f k  = some r) :
  Calls Tryd.prog 11 #[] w fun e w' => e = .returned (.bool r) ∧ Below w.heap.size w w' := by
 have HG := Aside0.mk hG
 clear hG
 have HB := Aside0.mk (Below.refl w.heap.size w)
 have H : ((dec_Parse.f k (⟨#[49, 46, 53]⟩ : ByteArray)).bind fun bt130 => ((dec_Parse.f k (⟨#[45, 46, 53, 101, 49]⟩ : ByteArray)).bind fun bt132 => ((dec_Parse.f k (⟨#[49, 101]⟩ : ByteArray)).bind fun bt134 => ((dec_Parse.f k (⟨#[54, 53, 53, 51, 54]⟩ : ByteArray)).bind fun bt136 => (if bt130.1 = 98304 then (if bt132.1 = (-327680) then (if bt130.2 = 0 then (if bt132.2 = 0 then (if bt134.2 = 3 then (some (bt136.2 == 2)) else (some false)) else (some false)) else (some false)) else (some false)) else (some false)))))) = some r := h
 clear h
 replace H := Option.bind_eq_some_iff.mp H
 obtain ⟨⟨t130, t131⟩, A10, H⟩ := H
 replace H : ((dec_Parse.f k (⟨#[45, 46, 53, 101, 49]⟩ : ByteArray)).bind fun bt132 => ((dec_Parse.f k (⟨#[49, 101]⟩ : ByteArray)).bind fun bt134 => ((dec_Parse.f k (⟨#[54, 53, 53, 51, 54]⟩ : ByteArray)).bind fun bt136 => (if t130 = 98304 then (if bt132.1 = (-327680) then (if t131 = 0 then (if bt132.2 = 0 then (if bt134.2 = 3 then (some (bt136.2 == 2)) else (some false)) else (some false)) else (some false)) else (some false)) else (some false))))) = some r := H
 have A1 := Aside0.mk A10
 clear A10
 replace H := Option.bind_eq_some_iff.mp H
 obtain ⟨⟨t132, t133⟩, A20, H⟩ := H
 replace H : ((dec_Parse.f k (⟨#[49, 101]⟩ : ByteArray)).bind fun bt134 => ((dec_Parse.f k (⟨#[54, 53, 53, 51, 54]⟩ : ByteArray)).bind fun bt136 => (if t130 = 98304 then (if t132 = (-327680) then (if t131 = 0 then (if t133 = 0 then (if bt134.2 = 3 then (some (bt136.2 == 2)) else (some false)) else (some false)) else (some false)) else (some false)) else (some false)))) = some r := H
 have A2 := Aside0.mk A20
 clear A20
 replace H := Option.bind_eq_some_iff.mp H
 obtain ⟨⟨t134, t135⟩, A30, H⟩ := H
 replace H : ((dec_Parse.f k (⟨#[54, 53, 53, 51, 54]⟩ : ByteArray)).bind fun bt136 => (if t130 = 98304 then (if t132 = (-327680) then (if t131 = 0 then (if t133 = 0 then (if t135 = 3 then (some (bt136.2 == 2)) else (some false)) else (some false)) else (some false)) else (some false)) else (some false))) = some r := H
 have A3 := Aside0.mk A30
 clear A30
 replace H := Option.bind_eq_some_iff.mp H
 obtain ⟨⟨t136, t137⟩, A40, H⟩ := H
 replace H : (if t130 = 98304 then (if t132 = (-327680) then (if t131 = 0 then (if t133 = 0 then (if t135 = 3 then (some (t137 == 2)) else (some false)) else (some false)) else (some false)) else (some false)) else (some false)) = some r := H
 have A4 := Aside0.mk A40
 clear A40
 by_cases c5 : t130 = 98304
 ·
  rw [if_pos c5] at H
  have c5b0 : (t130 == 98304) = true := beq_iff_eq.mpr c5
  have c5b1 : (t130 != 98304) = false := bne_eq_false_iff_eq.mpr c5
  clear c5
  by_cases c6 : t132 = (-327680)
  ·
   rw [if_pos c6] at H
   have c6b0 : (t132 == (-327680)) = true := beq_iff_eq.mpr c6
   have c6b1 : (t132 != (-327680)) = false := bne_eq_false_iff_eq.mpr c6
   clear c6
   by_cases c7 : t131 = 0
   ·
    rw [if_pos c7] at H
    have c7b0 : (t131 == 0) = true := beq_iff_eq.mpr c7
    have c7b1 : (t131 != 0) = false := bne_eq_false_iff_eq.mpr c7
    clear c7
    by_cases c8 : t133 = 0
    ·
     rw [if_pos c8] at H
     have c8b0 : (t133 == 0) = true := beq_iff_eq.mpr c8
     have c8b1 : (t133 != 0) = false := bne_eq_false_iff_eq.mpr c8
     clear c8
     by_cases c9 : t135 = 3
     ·
      rw [if_pos c9] at H
      have c9b0 : (t135 == 3) = true := beq_iff_eq.mpr c9
      have c9b1 : (t135 != 3) = false := bne_eq_false_iff_eq.mpr c9
      clear c9
      obtain rfl := Option.some.inj H
      go_enter Tryd.func11, Tryd.ntmps11
      go_wp2_with (first | ((with_reducible refine gate_callee (f := 12) rfl ?_); refine goesL_ (some 10) rfl rfl Tryd.func12 (by kernel_rfl) rfl #[.string (⟨#[49, 46, 53]⟩ : ByteArray)] rfl (by (try simp only [List.map_toArray, List.map_cons, List.map_nil]); first | done | rfl | (simp only [List.length_drop, List.length_take]; rfl)) ?_; (with_reducible refine (dec_Parse.calls k (⟨#[49, 46, 53]⟩ : ByteArray) t130 t131 _ ?side1 A1.out).mono ?_); (case side1 => exact Gl.below HG.out (wq HB.out)); rintro e w10 ⟨rfl, hb⟩; refine ⟨_, rfl, ?_⟩; have n0_ := Aside0.mk (below_step (wq HB.out) hb); clear HB; have HB := n0_; clear n0_; (try clear hb); (try clear hb2); (try clear hk); (try clear hi)) | ((with_reducible refine gate_callee (f := 12) rfl ?_); refine goesL_ (some 14) rfl rfl Tryd.func12 (by kernel_rfl) rfl #[.string (⟨#[45, 46, 53, 101, 49]⟩ : ByteArray)] rfl (by (try simp only [List.map_toArray, List.map_cons, List.map_nil]); first | done | rfl | (simp only [List.length_drop, List.length_take]; rfl)) ?_; (with_reducible refine (dec_Parse.calls k (⟨#[45, 46, 53, 101, 49]⟩ : ByteArray) t132 t133 _ ?side1 A2.out).mono ?_); (case side1 => exact Gl.below HG.out (wq HB.out)); rintro e w11 ⟨rfl, hb⟩; refine ⟨_, rfl, ?_⟩; have n0_ := Aside0.mk (below_step (wq HB.out) hb); clear HB; have HB := n0_; clear n0_; (try clear hb); (try clear hb2); (try clear hk); (try clear hi)) | ((with_reducible refine gate_callee (f := 12) rfl ?_); refine goesL_ (some 18) rfl rfl Tryd.func12 (by kernel_rfl) rfl #[.string (⟨#[49, 101]⟩ : ByteArray)] rfl (by (try simp only [List.map_toArray, List.map_cons, List.map_nil]); first | done | rfl | (simp only [List.length_drop, List.length_take]; rfl)) ?_; (with_reducible refine (dec_Parse.calls k (⟨#[49, 101]⟩ : ByteArray) t134 t135 _ ?side1 A3.out).mono ?_); (case side1 => exact Gl.below HG.out (wq HB.out)); rintro e w12 ⟨rfl, hb⟩; refine ⟨_, rfl, ?_⟩; have n0_ := Aside0.mk (below_step (wq HB.out) hb); clear HB; have HB := n0_; clear n0_; (try clear hb); (try clear hb2); (try clear hk); (try clear hi)) | ((with_reducible refine gate_callee (f := 12) rfl ?_); refine goesL_ (some 22) rfl rfl Tryd.func12 (by kernel_rfl) rfl #[.string (⟨#[54, 53, 53, 51, 54]⟩ : ByteArray)] rfl (by (try simp only [List.map_toArray, List.map_cons, List.map_nil]); first | done | rfl | (simp only [List.length_drop, List.length_take]; rfl)) ?_; (with_reducible refine (dec_Parse.calls k (⟨#[54, 53, 53, 51, 54]⟩ : ByteArray) t136 t137 _ ?side1 A4.out).mono ?_); (case side1 => exact Gl.below HG.out (wq HB.out)); rintro e w13 ⟨rfl, hb⟩; refine ⟨_, rfl, ?_⟩; have n0_ := Aside0.mk (below_step (wq HB.out) hb); clear HB; have HB := n0_; clear n0_; (try clear hb); (try clear hb2); (try clear hk); (try clear hi)))
      go_ret
      exact ⟨by first | rfl | (simp [errW_none, errW_some] <;> rfl) | (simp [*, errW_none, errW_some] <;> rfl), by exact wq HB.out⟩
     ·
      rw [if_neg c9] at H
      have c9b0 : (t135 == 3) = false := beq_eq_false_iff_ne.mpr c9
      have c9b1 : (t135 != 3) = true := bne_iff_ne.mpr c9
      obtain rfl := Option.some.inj H
      go_enter Tryd.func11, Tryd.ntmps11
      go_wp2_with (first | ((with_reducible refine gate_callee (f := 12) rfl ?_); refine goesL_ (some 10) rfl rfl Tryd.func12 (by kernel_rfl) rfl #[.string (⟨#[49, 46, 53]⟩ : ByteArray)] rfl (by (try simp only [List.map_toArray, List.map_cons, List.map_nil]); first | done | rfl | (simp only [List.length_drop, List.length_take]; rfl)) ?_; (with_reducible refine (dec_Parse.calls k (⟨#[49, 46, 53]⟩ : ByteArray) t130 t131 _ ?side1 A1.out).mono ?_); (case side1 => exact Gl.below HG.out (wq HB.out)); rintro e w14 ⟨rfl, hb⟩; refine ⟨_, rfl, ?_⟩; have n0_ := Aside0.mk (below_step (wq HB.out) hb); clear HB; have HB := n0_; clear n0_; (try clear hb); (try clear hb2); (try clear hk); (try clear hi)) | ((with_reducible refine gate_callee (f := 12) rfl ?_); refine goesL_ (some 14) rfl rfl Tryd.func12 (by kernel_rfl) rfl #[.string (⟨#[45, 46, 53, 101, 49]⟩ : ByteArray)] rfl (by (try simp only [List.map_toArray, List.map_cons, List.map_nil]); first | done | rfl | (simp only [List.length_drop, List.length_take]; rfl)) ?_; (with_reducible refine (dec_Parse.calls k (⟨#[45, 46, 53, 101, 49]⟩ : ByteArray) t132 t133 _ ?side1 A2.out).mono ?_); (case side1 => exact Gl.below HG.out (wq HB.out)); rintro e w15 ⟨rfl, hb⟩; refine ⟨_, rfl, ?_⟩; have n0_ := Aside0.mk (below_step (wq HB.out) hb); clear HB; have HB := n0_; clear n0_; (try clear hb); (try clear hb2); (try clear hk); (try clear hi)) | ((with_reducible refine gate_callee (f := 12) rfl ?_); refine goesL_ (some 18) rfl rfl Tryd.func12 (by kernel_rfl) rfl #[.string (⟨#[49, 101]⟩ : ByteArray)] rfl (by (try simp only [List.map_toArray, List.map_cons, List.map_nil]); first | done | rfl | (simp only [List.length_drop, List.length_take]; rfl)) ?_; (with_reducible refine (dec_Parse.calls k (⟨#[49, 101]⟩ : ByteArray) t134 t135 _ ?side1 A3.out).mono ?_); (case side1 => exact Gl.below HG.out (wq HB.out)); rintro e w16 ⟨rfl, hb⟩; refine ⟨_, rfl, ?_⟩; have n0_ := Aside0.mk (below_step (wq HB.out) hb); clear HB; have HB := n0_; clear n0_; (try clear hb); (try clear hb2); (try clear hk); (try clear hi)) | ((with_reducible refine gate_callee (f := 12) rfl ?_); refine goesL_ (some 22) rfl rfl Tryd.func12 (by kernel_rfl) rfl #[.string (⟨#[54, 53, 53, 51, 54]⟩ : ByteArray)] rfl (by (try simp only [List.map_toArray, List.map_cons, List.map_nil]); first | done | rfl | (simp only [List.length_drop, List.length_take]; rfl)) ?_; (with_reducible refine (dec_Parse.calls k (⟨#[54, 53, 53, 51, 54]⟩ : ByteArray) t136 t137 _ ?side1 A4.out).mono ?_); (case side1 => exact Gl.below HG.out (wq HB.out)); rintro e w17 ⟨rfl, hb⟩; refine ⟨_, rfl, ?_⟩; have n0_ := Aside0.mk (below_step (wq HB.out) hb); clear HB; have HB := n0_; clear n0_; (try clear hb); (try clear hb2); (try clear hk); (try clear hi)))
      go_ret
      exact ⟨by first | rfl | (simp [errW_none, errW_some] <;> rfl) | (simp [*, errW_none, errW_some] <;> rfl), by exact wq HB.out⟩
    ·
     rw [if_neg c8] at H
     have c8b0 : (t133 == 0) = false := beq_eq_false_iff_ne.mpr c8
     have c8b1 : (t133 != 0) = true := bne_iff_ne.mpr c8
     obtain rfl := Option.some.inj H
     go_enter Tryd.func11, Tryd.ntmps11
     go_wp2_with (first | ((with_reducible refine gate_callee (f := 12) rfl ?_); refine goesL_ (some 10) rfl rfl Tryd.func12 (by kernel_rfl) rfl #[.string (⟨#[49, 46, 53]⟩ : ByteArray)] rfl (by (try simp only [List.map_toArray, List.map_cons, List.map_nil]); first | done | rfl | (simp only [List.length_drop, List.length_take]; rfl)) ?_; (with_reducible refine (dec_Parse.calls k (⟨#[49, 46, 53]⟩ : ByteArray) t130 t131 _ ?side1 A1.out).mono ?_); (case side1 => exact Gl.below HG.out (wq HB.out)); rintro e w18 ⟨rfl, hb⟩; refine ⟨_, rfl, ?_⟩; have n0_ := Aside0.mk (below_step (wq HB.out) hb); clear HB; have HB := n0_; clear n0_; (try clear hb); (try clear hb2); (try clear hk); (try clear hi)) | ((with_reducible refine gate_callee (f := 12) rfl ?_); refine goesL_ (some 14) rfl rfl Tryd.func12 (by kernel_rfl) rfl #[.string (⟨#[45, 46, 53, 101, 49]⟩ : ByteArray)] rfl (by (try simp only [List.map_toArray, List.map_cons, List.map_nil]); first | done | rfl | (simp only [List.length_drop, List.length_take]; rfl)) ?_; (with_reducible refine (dec_Parse.calls k (⟨#[45, 46, 53, 101, 49]⟩ : ByteArray) t132 t133 _ ?side1 A2.out).mono ?_); (case side1 => exact Gl.below HG.out (wq HB.out)); rintro e w19 ⟨rfl, hb⟩; refine ⟨_, rfl, ?_⟩; have n0_ := Aside0.mk (below_step (wq HB.out) hb); clear HB; have HB := n0_; clear n0_; (try clear hb); (try clear hb2); (try clear hk); (try clear hi)) | ((with_reducible refine gate_callee (f := 12) rfl ?_); refine goesL_ (some 18) rfl rfl Tryd.func12 (by kernel_rfl) rfl #[.string (⟨#[49, 101]⟩ : ByteArray)] rfl (by (try simp only [List.map_toArray, List.map_cons, List.map_nil]); first | done | rfl | (simp only [List.length_drop, List.length_take]; rfl)) ?_; (with_reducible refine (dec_Parse.calls k (⟨#[49, 101]⟩ : ByteArray) t134 t135 _ ?side1 A3.out).mono ?_); (case side1 => exact Gl.below HG.out (wq HB.out)); rintro e w20 ⟨rfl, hb⟩; refine ⟨_, rfl, ?_⟩; have n0_ := Aside0.mk (below_step (wq HB.out) hb); clear HB; have HB := n0_; clear n0_; (try clear hb); (try clear hb2); (try clear hk); (try clear hi)) | ((with_reducible refine gate_callee (f := 12) rfl ?_); refine goesL_ (some 22) rfl rfl Tryd.func12 (by kernel_rfl) rfl #[.string (⟨#[54, 53, 53, 51, 54]⟩ : ByteArray)] rfl (by (try simp only [List.map_toArray, List.map_cons, List.map_nil]); first | done | rfl | (simp only [List.length_drop, List.length_take]; rfl)) ?_; (with_reducible refine (dec_Parse.calls k (⟨#[54, 53, 53, 51, 54]⟩ : ByteArray) t136 t137 _ ?side1 A4.out).mono ?_); (case side1 => exact Gl.below HG.out (wq HB.out)); rintro e w21 ⟨rfl, hb⟩; refine ⟨_, rfl, ?_⟩; have n0_ := Aside0.mk (below_step (wq HB.out) hb); clear HB; have HB := n0_; clear n0_; (try clear hb); (try clear hb2); (try clear hk); (try clear hi)))
     go_ret
     exact ⟨by first | rfl | (simp [errW_none, errW_some] <;> rfl) | (simp [*, errW_none, errW_some] <;> rfl), by exact wq HB.out⟩
   ·
    rw [if_neg c7] at H
    have c7b0 : (t131 == 0) = false := beq_eq_false_iff_ne.mpr c7
    have c7b1 : (t131 != 0) = true := bne_iff_ne.mpr c7
    obtain rfl := Option.some.inj H
    go_enter Tryd.func11, Tryd.ntmps11
    go_wp2_with (first | ((with_reducible refine gate_callee (f := 12) rfl ?_); refine goesL_ (some 10) rfl rfl Tryd.func12 (by kernel_rfl) rfl #[.string (⟨#[49, 46, 53]⟩ : ByteArray)] rfl (by (try simp only [List.map_toArray, List.map_cons, List.map_nil]); first | done | rfl | (simp only [List.length_drop, List.length_take]; rfl)) ?_; (with_reducible refine (dec_Parse.calls k (⟨#[49, 46, 53]⟩ : ByteArray) t130 t131 _ ?side1 A1.out).mono ?_); (case side1 => exact Gl.below HG.out (wq HB.out)); rintro e w22 ⟨rfl, hb⟩; refine ⟨_, rfl, ?_⟩; have n0_ := Aside0.mk (below_step (wq HB.out) hb); clear HB; have HB := n0_; clear n0_; (try clear hb); (try clear hb2); (try clear hk); (try clear hi)) | ((with_reducible refine gate_callee (f := 12) rfl ?_); refine goesL_ (some 14) rfl rfl Tryd.func12 (by kernel_rfl) rfl #[.string (⟨#[45, 46, 53, 101, 49]⟩ : ByteArray)] rfl (by (try simp only [List.map_toArray, List.map_cons, List.map_nil]); first | done | rfl | (simp only [List.length_drop, List.length_take]; rfl)) ?_; (with_reducible refine (dec_Parse.calls k (⟨#[45, 46, 53, 101, 49]⟩ : ByteArray) t132 t133 _ ?side1 A2.out).mono ?_); (case side1 => exact Gl.below HG.out (wq HB.out)); rintro e w23 ⟨rfl, hb⟩; refine ⟨_, rfl, ?_⟩; have n0_ := Aside0.mk (below_step (wq HB.out) hb); clear HB; have HB := n0_; clear n0_; (try clear hb); (try clear hb2); (try clear hk); (try clear hi)) | ((with_reducible refine gate_callee (f := 12) rfl ?_); refine goesL_ (some 18) rfl rfl Tryd.func12 (by kernel_rfl) rfl #[.string (⟨#[49, 101]⟩ : ByteArray)] rfl (by (try simp only [List.map_toArray, List.map_cons, List.map_nil]); first | done | rfl | (simp only [List.length_drop, List.length_take]; rfl)) ?_; (with_reducible refine (dec_Parse.calls k (⟨#[49, 101]⟩ : ByteArray) t134 t135 _ ?side1 A3.out).mono ?_); (case side1 => exact Gl.below HG.out (wq HB.out)); rintro e w24 ⟨rfl, hb⟩; refine ⟨_, rfl, ?_⟩; have n0_ := Aside0.mk (below_step (wq HB.out) hb); clear HB; have HB := n0_; clear n0_; (try clear hb); (try clear hb2); (try clear hk); (try clear hi)) | ((with_reducible refine gate_callee (f := 12) rfl ?_); refine goesL_ (some 22) rfl rfl Tryd.func12 (by kernel_rfl) rfl #[.string (⟨#[54, 53, 53, 51, 54]⟩ : ByteArray)] rfl (by (try simp only [List.map_toArray, List.map_cons, List.map_nil]); first | done | rfl | (simp only [List.length_drop, List.length_take]; rfl)) ?_; (with_reducible refine (dec_Parse.calls k (⟨#[54, 53, 53, 51, 54]⟩ : ByteArray) t136 t137 _ ?side1 A4.out).mono ?_); (case side1 => exact Gl.below HG.out (wq HB.out)); rintro e w25 ⟨rfl, hb⟩; refine ⟨_, rfl, ?_⟩; have n0_ := Aside0.mk (below_step (wq HB.out) hb); clear HB; have HB := n0_; clear n0_; (try clear hb); (try clear hb2); (try clear hk); (try clear hi)))
    go_ret
    exact ⟨by first | rfl | (simp [errW_none, errW_some] <;> rfl) | (simp [*, errW_none, errW_some] <;> rfl), by exact wq HB.out⟩
  ·
   rw [if_neg c6] at H
   have c6b0 : (t132 == (-327680)) = false := beq_eq_false_iff_ne.mpr c6
   have c6b1 : (t132 != (-327680)) = true := bne_iff_ne.mpr c6
   obtain rfl := Option.some.inj H
   go_enter Tryd.func11, Tryd.ntmps11
   go_wp2_with (first | ((with_reducible refine gate_callee (f := 12) rfl ?_); refine goesL_ (some 10) rfl rfl Tryd.func12 (by kernel_rfl) rfl #[.string (⟨#[49, 46, 53]⟩ : ByteArray)] rfl (by (try simp only [List.map_toArray, List.map_cons, List.map_nil]); first | done | rfl | (simp only [List.length_drop, List.length_take]; rfl)) ?_; (with_reducible refine (dec_Parse.calls k (⟨#[49, 46, 53]⟩ : ByteArray) t130 t131 _ ?side1 A1.out).mono ?_); (case side1 => exact Gl.below HG.out (wq HB.out)); rintro e w26 ⟨rfl, hb⟩; refine ⟨_, rfl, ?_⟩; have n0_ := Aside0.mk (below_step (wq HB.out) hb); clear HB; have HB := n0_; clear n0_; (try clear hb); (try clear hb2); (try clear hk); (try clear hi)) | ((with_reducible refine gate_callee (f := 12) rfl ?_); refine goesL_ (some 14) rfl rfl Tryd.func12 (by kernel_rfl) rfl #[.string (⟨#[45, 46, 53, 101, 49]⟩ : ByteArray)] rfl (by (try simp only [List.map_toArray, List.map_cons, List.map_nil]); first | done | rfl | (simp only [List.length_drop, List.length_take]; rfl)) ?_; (with_reducible refine (dec_Parse.calls k (⟨#[45, 46, 53, 101, 49]⟩ : ByteArray) t132 t133 _ ?side1 A2.out).mono ?_); (case side1 => exact Gl.below HG.out (wq HB.out)); rintro e w27 ⟨rfl, hb⟩; refine ⟨_, rfl, ?_⟩; have n0_ := Aside0.mk (below_step (wq HB.out) hb); clear HB; have HB := n0_; clear n0_; (try clear hb); (try clear hb2); (try clear hk); (try clear hi)) | ((with_reducible refine gate_callee (f := 12) rfl ?_); refine goesL_ (some 18) rfl rfl Tryd.func12 (by kernel_rfl) rfl #[.string (⟨#[49, 101]⟩ : ByteArray)] rfl (by (try simp only [List.map_toArray, List.map_cons, List.map_nil]); first | done | rfl | (simp only [List.length_drop, List.length_take]; rfl)) ?_; (with_reducible refine (dec_Parse.calls k (⟨#[49, 101]⟩ : ByteArray) t134 t135 _ ?side1 A3.out).mono ?_); (case side1 => exact Gl.below HG.out (wq HB.out)); rintro e w28 ⟨rfl, hb⟩; refine ⟨_, rfl, ?_⟩; have n0_ := Aside0.mk (below_step (wq HB.out) hb); clear HB; have HB := n0_; clear n0_; (try clear hb); (try clear hb2); (try clear hk); (try clear hi)) | ((with_reducible refine gate_callee (f := 12) rfl ?_); refine goesL_ (some 22) rfl rfl Tryd.func12 (by kernel_rfl) rfl #[.string (⟨#[54, 53, 53, 51, 54]⟩ : ByteArray)] rfl (by (try simp only [List.map_toArray, List.map_cons, List.map_nil]); first | done | rfl | (simp only [List.length_drop, List.length_take]; rfl)) ?_; (with_reducible refine (dec_Parse.calls k (⟨#[54, 53, 53, 51, 54]⟩ : ByteArray) t136 t137 _ ?side1 A4.out).mono ?_); (case side1 => exact Gl.below HG.out (wq HB.out)); rintro e w29 ⟨rfl, hb⟩; refine ⟨_, rfl, ?_⟩; have n0_ := Aside0.mk (below_step (wq HB.out) hb); clear HB; have HB := n0_; clear n0_; (try clear hb); (try clear hb2); (try clear hk); (try clear hi)))
   go_ret
   exact ⟨by first | rfl | (simp [errW_none, errW_some] <;> rfl) | (simp [*, errW_none, errW_some] <;> rfl), by exact wq HB.out⟩
 ·
  rw [if_neg c5] at H
  have c5b0 : (t130 == 98304) = false := beq_eq_false_iff_ne.mpr c5
  have c5b1 : (t130 != 98304) = true := bne_iff_ne.mpr c5
  obtain rfl := Option.some.inj H
  go_enter Tryd.func11, Tryd.ntmps11
  go_wp2_with (first | ((with_reducible refine gate_callee (f := 12) rfl ?_); refine goesL_ (some 10) rfl rfl Tryd.func12 (by kernel_rfl) rfl #[.string (⟨#[49, 46, 53]⟩ : ByteArray)] rfl (by (try simp only [List.map_toArray, List.map_cons, List.map_nil]); first | done | rfl | (simp only [List.length_drop, List.length_take]; rfl)) ?_; (with_reducible refine (dec_Parse.calls k (⟨#[49, 46, 53]⟩ : ByteArray) t130 t131 _ ?side1 A1.out).mono ?_); (case side1 => exact Gl.below HG.out (wq HB.out)); rintro e w30 ⟨rfl, hb⟩; refine ⟨_, rfl, ?_⟩; have n0_ := Aside0.mk (below_step (wq HB.out) hb); clear HB; have HB := n0_; clear n0_; (try clear hb); (try clear hb2); (try clear hk); (try clear hi)) | ((with_reducible refine gate_callee (f := 12) rfl ?_); refine goesL_ (some 14) rfl rfl Tryd.func12 (by kernel_rfl) rfl #[.string (⟨#[45, 46, 53, 101, 49]⟩ : ByteArray)] rfl (by (try simp only [List.map_toArray, List.map_cons, List.map_nil]); first | done | rfl | (simp only [List.length_drop, List.length_take]; rfl)) ?_; (with_reducible refine (dec_Parse.calls k (⟨#[45, 46, 53, 101, 49]⟩ : ByteArray) t132 t133 _ ?side1 A2.out).mono ?_); (case side1 => exact Gl.below HG.out (wq HB.out)); rintro e w31 ⟨rfl, hb⟩; refine ⟨_, rfl, ?_⟩; have n0_ := Aside0.mk (below_step (wq HB.out) hb); clear HB; have HB := n0_; clear n0_; (try clear hb); (try clear hb2); (try clear hk); (try clear hi)) | ((with_reducible refine gate_callee (f := 12) rfl ?_); refine goesL_ (some 18) rfl rfl Tryd.func12 (by kernel_rfl) rfl #[.string (⟨#[49, 101]⟩ : ByteArray)] rfl (by (try simp only [List.map_toArray, List.map_cons, List.map_nil]); first | done | rfl | (simp only [List.length_drop, List.length_take]; rfl)) ?_; (with_reducible refine (dec_Parse.calls k (⟨#[49, 101]⟩ : ByteArray) t134 t135 _ ?side1 A3.out).mono ?_); (case side1 => exact Gl.below HG.out (wq HB.out)); rintro e w32 ⟨rfl, hb⟩; refine ⟨_, rfl, ?_⟩; have n0_ := Aside0.mk (below_step (wq HB.out) hb); clear HB; have HB := n0_; clear n0_; (try clear hb); (try clear hb2); (try clear hk); (try clear hi)) | ((with_reducible refine gate_callee (f := 12) rfl ?_); refine goesL_ (some 22) rfl rfl Tryd.func12 (by kernel_rfl) rfl #[.string (⟨#[54, 53, 53, 51, 54]⟩ : ByteArray)] rfl (by (try simp only [List.map_toArray, List.map_cons, List.map_nil]); first | done | rfl | (simp only [List.length_drop, List.length_take]; rfl)) ?_; (with_reducible refine (dec_Parse.calls k (⟨#[54, 53, 53, 51, 54]⟩ : ByteArray) t136 t137 _ ?side1 A4.out).mono ?_); (case side1 => exact Gl.below HG.out (wq HB.out)); rintro e w33 ⟨rfl, hb⟩; refine ⟨_, rfl, ?_⟩; have n0_ := Aside0.mk (below_step (wq HB.out) hb); clear HB; have HB := n0_; clear n0_; (try clear hb); (try clear hb2); (try clear hk); (try clear hi)))
  go_ret
  exact ⟨by first | rfl | (simp [errW_none, errW_some] <;> rfl) | (simp [*, errW_none, errW_some] <;> rfl), by exact wq HB.out⟩
def pointillistref04_sign.f (a0 : ByteArray) (a1 : Int) : Option (Bool) := if a1 < (a0.size : Int) then (if 0 ≤ a1 then (if (bt a0 a1) = 43 then (some true) else (some ((bt a0 a1) == 45))) else (none)) else (some false)
set_option maxHeartbeats 8000000 in
set_option maxRecDepth 100000 in
theorem pointillistref04_sign.calls (a0 : ByteArray) (a1 : Int) (r : Bool) (w : World) (h : pointillistref04_sign.f a0 a1 = some r) :
  Calls Tryd.prog 48 #[.string a0, .int .i64 a1] w fun e w' => e = .returned (.bool r) ∧ Drawn0 w w' := by
 have H : (if a1 < (a0.size : Int) then (if 0 ≤ a1 then (if (bt a0 a1) = 43 then (some true) else (some ((bt a0 a1) == 45))) else (none)) else (some false)) = some r := h
 clear h
 by_cases c3 : a1 < (a0.size : Int)
 ·
  rw [if_pos c3] at H
  have c3b0 : decide (a1 < (a0.size : Int)) = true := decide_eq_true c3
  clear c3
  by_cases c4 : 0 ≤ a1
  ·
   rw [if_pos c4] at H
   have c4b0 : decide (0 ≤ a1) = true := decide_eq_true c4
   clear c4
   by_cases c6 : (bt a0 a1) = 43
   ·
    rw [if_pos c6] at H
    have c6b0 : ((bt a0 a1) == 43) = true := beq_iff_eq.mpr c6
    have c6b1 : ((bt a0 a1) != 43) = false := bne_eq_false_iff_eq.mpr c6
    clear c6
    obtain rfl := Option.some.inj H
    have p5 : 0 ≤ (a1 : Int) := of_decide_eq_true (by first | (with_reducible assumption) | assumption)
    have q5 : a1 < (a0.size : Int) := of_decide_eq_true (by first | (with_reducible assumption) | assumption)
    have hx5 := bt_at a0 a1
    replace p5 := eq_true p5
    replace q5 := eq_true q5
    go_enter Tryd.func48, Tryd.ntmps48
    go_wp2
    go_ret
    exact ⟨by first | rfl | (simp; done) | (simp [*]; done), by repeat (first | exact Drawn0.refl _ | apply Drawn0.step)⟩
   ·
    rw [if_neg c6] at H
    have c6b0 : ((bt a0 a1) == 43) = false := beq_eq_false_iff_ne.mpr c6
    have c6b1 : ((bt a0 a1) != 43) = true := bne_iff_ne.mpr c6
    obtain rfl := Option.some.inj H
    have p5 : 0 ≤ (a1 : Int) := of_decide_eq_true (by first | (with_reducible assumption) | assumption)
    have q5 : a1 < (a0.size : Int) := of_decide_eq_true (by first | (with_reducible assumption) | assumption)
    have hx5 := bt_at a0 a1
    replace p5 := eq_true p5
    replace q5 := eq_true q5
    have p7 : 0 ≤ (a1 : Int) := of_decide_eq_true (by first | (with_reducible assumption) | assumption)
    have q7 : a1 < (a0.size : Int) := of_decide_eq_true (by first | (with_reducible assumption) | assumption)
    have hx7 := bt_at a0 a1
    replace p7 := eq_true p7
    replace q7 := eq_true q7
    go_enter Tryd.func48, Tryd.ntmps48
    go_wp2
    go_ret
    exact ⟨by first | rfl | (simp; done) | (simp [*]; done), by repeat (first | exact Drawn0.refl _ | apply Drawn0.step)⟩
  ·
   rw [if_neg c4] at H
   exact absurd H (by simp)
 ·
  rw [if_neg c3] at H
  have c3b0 : decide (a1 < (a0.size : Int)) = false := decide_eq_false c3
  clear c3
  obtain rfl := Option.some.inj H
  go_enter Tryd.func48, Tryd.ntmps48
  go_wp2
  go_ret
  exact ⟨by first | rfl | (simp; done) | (simp [*]; done), by repeat (first | exact Drawn0.refl _ | apply Drawn0.step)⟩
def pointillistref04_digit.f (a0 : ByteArray) (a1 : Int) : Option (Bool) := if a1 < (a0.size : Int) then (if 0 ≤ a1 then (if (bt a0 a1) ≥ 48 then (some (decide ((bt a0 a1) ≤ 57))) else (some false)) else (none)) else (some false)
set_option maxHeartbeats 8000000 in
set_option maxRecDepth 100000 in
theorem pointillistref04_digit.calls (a0 : ByteArray) (a1 : Int) (r : Bool) (w : World) (h : pointillistref04_digit.f a0 a1 = some r) :
  Calls Tryd.prog 56 #[.string a0, .int .i64 a1] w fun e w' => e = .returned (.bool r) ∧ Drawn0 w w' := by
 have H : (if a1 < (a0.size : Int) then (if 0 ≤ a1 then (if (bt a0 a1) ≥ 48 then (some (decide ((bt a0 a1) ≤ 57))) else (some false)) else (none)) else (some false)) = some r := h
 clear h
 by_cases c3 : a1 < (a0.size : Int)
 ·
  rw [if_pos c3] at H
  have c3b0 : decide (a1 < (a0.size : Int)) = true := decide_eq_true c3
  clear c3
  by_cases c4 : 0 ≤ a1
  ·
   rw [if_pos c4] at H
   have c4b0 : decide (0 ≤ a1) = true := decide_eq_true c4
   clear c4
   by_cases c6 : (bt a0 a1) ≥ 48
   ·
    rw [if_pos c6] at H
    have c6b0 : decide (48 ≤ (bt a0 a1)) = true := decide_eq_true c6
    clear c6
    obtain rfl := Option.some.inj H
    have p5 : 0 ≤ (a1 : Int) := of_decide_eq_true (by first | (with_reducible assumption) | assumption)
    have q5 : a1 < (a0.size : Int) := of_decide_eq_true (by first | (with_reducible assumption) | assumption)
    have hx5 := bt_at a0 a1
    replace p5 := eq_true p5
    replace q5 := eq_true q5
    have p7 : 0 ≤ (a1 : Int) := of_decide_eq_true (by first | (with_reducible assumption) | assumption)
    have q7 : a1 < (a0.size : Int) := of_decide_eq_true (by first | (with_reducible assumption) | assumption)
    have hx7 := bt_at a0 a1
    replace p7 := eq_true p7
    replace q7 := eq_true q7
    go_enter Tryd.func56, Tryd.ntmps56
    go_wp2
    go_ret
    exact ⟨by first | rfl | (simp; done) | (simp [*]; done), by repeat (first | exact Drawn0.refl _ | apply Drawn0.step)⟩
   ·
    rw [if_neg c6] at H
    have c6b0 : decide (48 ≤ (bt a0 a1)) = false := decide_eq_false c6
    clear c6
    obtain rfl := Option.some.inj H
    have p5 : 0 ≤ (a1 : Int) := of_decide_eq_true (by first | (with_reducible assumption) | assumption)
    have q5 : a1 < (a0.size : Int) := of_decide_eq_true (by first | (with_reducible assumption) | assumption)
    have hx5 := bt_at a0 a1
    replace p5 := eq_true p5
    replace q5 := eq_true q5
    go_enter Tryd.func56, Tryd.ntmps56
    go_wp2
    go_ret
    exact ⟨by first | rfl | (simp; done) | (simp [*]; done), by repeat (first | exact Drawn0.refl _ | apply Drawn0.step)⟩
  ·
   rw [if_neg c4] at H
   exact absurd H (by simp)
 ·
  rw [if_neg c3] at H
  have c3b0 : decide (a1 < (a0.size : Int)) = false := decide_eq_false c3
  clear c3
  obtain rfl := Option.some.inj H
  go_enter Tryd.func56, Tryd.ntmps56
  go_wp2
  go_ret
  exact ⟨by first | rfl | (simp; done) | (simp [*]; done), by repeat (first | exact Drawn0.refl _ | apply Drawn0.step)⟩
def pointillistref04_run.l0 : Nat → ByteArray → Int → Option (Int)
 | 0, _, _ => none
 | k + 1, x0, x1 => (pointillistref04_digit.f x0 x1).bind fun t138 => (if t138 = true then (pointillistref04_run.l0 k x0 (wrap64 (x1 + 1))) else (some x1))
def pointillistref04_run.f (k : Nat) (a0 : ByteArray) (a1 : Int) : Option (Int) := pointillistref04_run.l0 k a0 a1
theorem pointillistref04_run.mono_l : ∀ k, (∀ y0 y1, LeO (pointillistref04_run.l0 k y0 y1) (pointillistref04_run.l0 (k + 1) y0 y1))
 | 0 => fun _ _ r h => by simp [pointillistref04_run.l0] at h
 | k + 1 => by
  have ih0 := pointillistref04_run.mono_l k
  ·
   intro y0 y1
   unfold pointillistref04_run.l0
   repeat' first
   | (with_reducible exact ih0 _ _)
   | (with_reducible exact LeO.refl _)
   | (with_reducible exact LeO.none _)
   | (with_reducible refine LeO.ite ?_ ?_)
   | (with_reducible refine LeO.bind ?_ (fun _ => ?_))
   | exact ih0 _ _
   | exact LeO.none _
   | refine LeO.ite ?_ ?_
   | refine LeO.bind ?_ (fun _ => ?_)
theorem pointillistref04_run.mono : ∀ a0 a1 k, LeO (pointillistref04_run.f k a0 a1) (pointillistref04_run.f (k + 1) a0 a1) := by
 intro a0 a1 k
 have ih0 := pointillistref04_run.mono_l k
 unfold pointillistref04_run.f
 repeat' first
   | (with_reducible exact ih0 _ _)
   | (with_reducible exact LeO.refl _)
   | (with_reducible exact LeO.none _)
   | (with_reducible refine LeO.ite ?_ ?_)
   | (with_reducible refine LeO.bind ?_ (fun _ => ?_))
   | exact ih0 _ _
   | exact LeO.none _
   | refine LeO.ite ?_ ?_
   | refine LeO.bind ?_ (fun _ => ?_)
set_option maxHeartbeats 8000000 in
set_option maxRecDepth 100000 in
theorem pointillistref04_run.calls (k : Nat) (a0 : ByteArray) (a1 : Int) (r : Int) (w : World) (h : pointillistref04_run.f k a0 a1 = some r) :
  Calls Tryd.prog 49 #[.string a0, .int .i64 a1] w fun e w' => e = .returned (.int .i64 r) ∧ Drawn0 w w' := by
 have H : (pointillistref04_run.l0 k a0 a1) = some r := h
 clear h
 have H' := Aside0.mk H
 clear H
 go_enter Tryd.func49, Tryd.ntmps49
 go_wp2
 go_loopg [1] k (fun kq v1 w' => ∃ (x1_1 : Int), v1 = .int .i64 x1_1 ∧ Aside0 (pointillistref04_run.l0 kq a0 x1_1 = some r) ∧ Aside0 (kq ≤ k) ∧ Drawn0 w w')
 case atStart => exact ⟨(a1), (by first | rfl | (simp; done) | (simp [*]; done)), H', ⟨Nat.le_refl _⟩, by repeat (first | exact Drawn0.refl _ | apply Drawn0.step)⟩
 case round =>
  clear H'
  try clear p2
  obtain ⟨x1_1, rfl, HA, HK1, ⟨m1, rfl⟩⟩ := hrel
  cases gk with
  | zero => exact absurd HA.out (by simp [pointillistref04_run.l0])
  | succ k1 =>
   have H := HA.out
   clear HA
   simp only [pointillistref04_run.l0] at H
   replace H := Option.bind_eq_some_iff.mp H
   obtain ⟨t138, A30, H⟩ := H
   replace H : (if t138 = true then (pointillistref04_run.l0 k1 a0 (wrap64 (x1_1 + 1))) else (some x1_1)) = some r := H
   have A3 := Aside0.mk A30
   clear A30
   by_cases c4 : t138 = true
   ·
    subst c4
    have H1 : (pointillistref04_run.l0 k1 a0 (wrap64 (x1_1 + 1))) = some r := by rw [if_pos rfl] at H; exact H
    clear H
    have H := H1
    clear H1
    have H' := Aside0.mk H
    clear H
    go_wp2_with (first | ((with_reducible refine gate_callee (f := 56) rfl ?_); refine goesL_ (some 7) rfl rfl Tryd.func56 (by kernel_rfl) rfl #[.string a0, .int .i64 x1_1] rfl (by (try simp only [List.map_toArray, List.map_cons, List.map_nil]); first | done | rfl | (simp only [List.length_drop, List.length_take]; rfl)) ?_; (with_reducible refine (pointillistref04_digit.calls a0 x1_1 true _ A3.out).mono ?_); rintro e w' ⟨rfl, ⟨nd, rfl⟩⟩; refine ⟨_, rfl, ?_⟩))
    go_roundg k1
    case measure => have := HK1.out; omega
    case rel => exact ⟨(wrap64 (x1_1 + 1)), (by first | rfl | (simp; done) | (simp [*]; done)), H', ⟨by have := HK1.out; omega⟩, by repeat (first | exact Drawn0.refl _ | apply Drawn0.step)⟩
   ·
    replace c4 := Bool.eq_false_iff.mpr c4
    subst c4
    have H1 : (some x1_1) = some r := by rw [if_neg (show ¬ (false = true) by decide)] at H; exact H
    clear H
    have H := H1
    clear H1
    obtain rfl := Option.some.inj H
    go_wp2_with (first | ((with_reducible refine gate_callee (f := 56) rfl ?_); refine goesL_ (some 7) rfl rfl Tryd.func56 (by kernel_rfl) rfl #[.string a0, .int .i64 x1_1] rfl (by (try simp only [List.map_toArray, List.map_cons, List.map_nil]); first | done | rfl | (simp only [List.length_drop, List.length_take]; rfl)) ?_; (with_reducible refine (pointillistref04_digit.calls a0 x1_1 false _ A3.out).mono ?_); rintro e w' ⟨rfl, ⟨nd, rfl⟩⟩; refine ⟨_, rfl, ?_⟩))
    go_ret
    exact ⟨by first | rfl | (simp; done) | (simp [*]; done), by repeat (first | exact Drawn0.refl _ | apply Drawn0.step)⟩
end Go.Proofs.YtfpnglgipchjhaaDoor.PR
namespace Go.Proofs.YtfpnglgipchjhaaDoor.PR
open Go.RowKit Go.Proofs.YtfpnglgipchjhaaDoorW.PrintWords Go.Proofs.YtfpnglgipchjhaaDoorW.PrintLast Go.Proofs.YtfpnglgipchjhaaDoorW.PrintMore
attribute [local go_sem] max2_int min2_int max_two min_two max_three min_three max_four min_four
set_option linter.unusedVariables false
set_option linter.unusedSimpArgs false
mutual
def pointillistref04_Scan.j0 : Nat → ByteArray → Int → Bool → Bool → Option (Int × Bool)
 | 0, _, _, _, _ => none
 | k + 1, x0, x1, x2, x20 => if x20 = true then (some (0, false)) else (if x2 = true then ((pointillistref04_sign.f x0 x1).bind fun t139 => (pointillistref04_Scan.j1 k x0 x1 t139)) else (pointillistref04_Scan.j1 k x0 x1 false))
def pointillistref04_Scan.j1 : Nat → ByteArray → Int → Bool → Option (Int × Bool)
 | 0, _, _, _ => none
 | k + 1, x0, x8, x27 => if x27 = true then (pointillistref04_Scan.j2 k x0 (wrap64 (x8 + 1))) else (pointillistref04_Scan.j2 k x0 x8)
def pointillistref04_Scan.j2 : Nat → ByteArray → Int → Option (Int × Bool)
 | 0, _, _ => none
 | k + 1, x0, x8 => (pointillistref04_run.f k x0 x8).bind fun t140 => (if t140 < (x0.size : Int) then (if 0 ≤ t140 then (pointillistref04_Scan.j3 k x0 t140 (decide (t140 > x8)) ((bt x0 t140) == 46)) else (none)) else (pointillistref04_Scan.j3 k x0 t140 (decide (t140 > x8)) false))
def pointillistref04_Scan.j3 : Nat → ByteArray → Int → Bool → Bool → Option (Int × Bool)
 | 0, _, _, _, _ => none
 | k + 1, x0, x8, x10, x46 => if x46 = true then ((pointillistref04_run.f k x0 (wrap64 (x8 + 1))).bind fun t141 => (if x10 = true then (pointillistref04_Scan.j4 k x0 t141 true) else (pointillistref04_Scan.j4 k x0 t141 (decide (t141 > (wrap64 (x8 + 1))))))) else (pointillistref04_Scan.j4 k x0 x8 x10)
def pointillistref04_Scan.j4 : Nat → ByteArray → Int → Bool → Option (Int × Bool)
 | 0, _, _, _ => none
 | k + 1, x0, x8, x10 => if x10 = true then (if x8 < (x0.size : Int) then (if 0 ≤ x8 then (if (bt x0 x8) = 101 then (pointillistref04_Scan.j5 k x0 x8 true) else (pointillistref04_Scan.j5 k x0 x8 ((bt x0 x8) == 69))) else (none)) else (pointillistref04_Scan.j5 k x0 x8 false)) else (some (x8, false))
def pointillistref04_Scan.j5 : Nat → ByteArray → Int → Bool → Option (Int × Bool)
 | 0, _, _, _ => none
 | k + 1, x0, x8, x77 => if x77 = true then ((pointillistref04_sign.f x0 (wrap64 (x8 + 1))).bind fun t142 => (if t142 = true then ((pointillistref04_run.f k x0 (wrap64 ((wrap64 (x8 + 1)) + 1))).bind fun t143 => (some (t143, decide (t143 > (wrap64 ((wrap64 (x8 + 1)) + 1)))))) else ((pointillistref04_run.f k x0 (wrap64 (x8 + 1))).bind fun t144 => (some (t144, decide (t144 > (wrap64 (x8 + 1)))))))) else (some (x8, true))
end
def pointillistref04_Scan.f (k : Nat) (a0 : ByteArray) (a1 : Int) (a2 : Bool) : Option (Int × Bool) := if a1 < 0 then (pointillistref04_Scan.j0 k a0 a1 a2 true) else (pointillistref04_Scan.j0 k a0 a1 a2 (decide (a1 > (a0.size : Int))))
theorem pointillistref04_Scan.mono_l : ∀ k, (∀ y0 y1 y2 y3, LeO (pointillistref04_Scan.j0 k y0 y1 y2 y3) (pointillistref04_Scan.j0 (k + 1) y0 y1 y2 y3)) ∧ (∀ y0 y1 y2, LeO (pointillistref04_Scan.j1 k y0 y1 y2) (pointillistref04_Scan.j1 (k + 1) y0 y1 y2)) ∧ (∀ y0 y1, LeO (pointillistref04_Scan.j2 k y0 y1) (pointillistref04_Scan.j2 (k + 1) y0 y1)) ∧ (∀ y0 y1 y2 y3, LeO (pointillistref04_Scan.j3 k y0 y1 y2 y3) (pointillistref04_Scan.j3 (k + 1) y0 y1 y2 y3)) ∧ (∀ y0 y1 y2, LeO (pointillistref04_Scan.j4 k y0 y1 y2) (pointillistref04_Scan.j4 (k + 1) y0 y1 y2)) ∧ (∀ y0 y1 y2, LeO (pointillistref04_Scan.j5 k y0 y1 y2) (pointillistref04_Scan.j5 (k + 1) y0 y1 y2))
 | 0 => ⟨fun _ _ _ _ r h => by simp [pointillistref04_Scan.j0] at h, fun _ _ _ r h => by simp [pointillistref04_Scan.j1] at h, fun _ _ r h => by simp [pointillistref04_Scan.j2] at h, fun _ _ _ _ r h => by simp [pointillistref04_Scan.j3] at h, fun _ _ _ r h => by simp [pointillistref04_Scan.j4] at h, fun _ _ _ r h => by simp [pointillistref04_Scan.j5] at h⟩
 | k + 1 => by
  obtain ⟨ih0, ih1, ih2, ih3, ih4, ih5⟩ := pointillistref04_Scan.mono_l k
  refine ⟨?_, ?_, ?_, ?_, ?_, ?_⟩
  ·
   intro y0 y1 y2 y3
   unfold pointillistref04_Scan.j0
   repeat' first
   | (with_reducible exact ih0 _ _ _ _)
   | (with_reducible exact ih1 _ _ _)
   | (with_reducible exact ih2 _ _)
   | (with_reducible exact ih3 _ _ _ _)
   | (with_reducible exact ih4 _ _ _)
   | (with_reducible exact ih5 _ _ _)
   | (with_reducible exact pointillistref04_run.mono _ _ _)
   | (with_reducible exact LeO.refl _)
   | (with_reducible exact LeO.none _)
   | (with_reducible refine LeO.ite ?_ ?_)
   | (with_reducible refine LeO.bind ?_ (fun _ => ?_))
   | exact ih0 _ _ _ _
   | exact ih1 _ _ _
   | exact ih2 _ _
   | exact ih3 _ _ _ _
   | exact ih4 _ _ _
   | exact ih5 _ _ _
   | exact pointillistref04_run.mono _ _ _
   | exact LeO.none _
   | refine LeO.ite ?_ ?_
   | refine LeO.bind ?_ (fun _ => ?_)
  ·
   intro y0 y1 y2
   unfold pointillistref04_Scan.j1
   repeat' first
   | (with_reducible exact ih0 _ _ _ _)
   | (with_reducible exact ih1 _ _ _)
   | (with_reducible exact ih2 _ _)
   | (with_reducible exact ih3 _ _ _ _)
   | (with_reducible exact ih4 _ _ _)
   | (with_reducible exact ih5 _ _ _)
   | (with_reducible exact pointillistref04_run.mono _ _ _)
   | (with_reducible exact LeO.refl _)
   | (with_reducible exact LeO.none _)
   | (with_reducible refine LeO.ite ?_ ?_)
   | (with_reducible refine LeO.bind ?_ (fun _ => ?_))
   | exact ih0 _ _ _ _
   | exact ih1 _ _ _
   | exact ih2 _ _
   | exact ih3 _ _ _ _
   | exact ih4 _ _ _
   | exact ih5 _ _ _
   | exact pointillistref04_run.mono _ _ _
   | exact LeO.none _
   | refine LeO.ite ?_ ?_
   | refine LeO.bind ?_ (fun _ => ?_)
  ·
   intro y0 y1
   unfold pointillistref04_Scan.j2
   repeat' first
   | (with_reducible exact ih0 _ _ _ _)
   | (with_reducible exact ih1 _ _ _)
   | (with_reducible exact ih2 _ _)
   | (with_reducible exact ih3 _ _ _ _)
   | (with_reducible exact ih4 _ _ _)
   | (with_reducible exact ih5 _ _ _)
   | (with_reducible exact pointillistref04_run.mono _ _ _)
   | (with_reducible exact LeO.refl _)
   | (with_reducible exact LeO.none _)
   | (with_reducible refine LeO.ite ?_ ?_)
   | (with_reducible refine LeO.bind ?_ (fun _ => ?_))
   | exact ih0 _ _ _ _
   | exact ih1 _ _ _
   | exact ih2 _ _
   | exact ih3 _ _ _ _
   | exact ih4 _ _ _
   | exact ih5 _ _ _
   | exact pointillistref04_run.mono _ _ _
   | exact LeO.none _
   | refine LeO.ite ?_ ?_
   | refine LeO.bind ?_ (fun _ => ?_)
  ·
   intro y0 y1 y2 y3
   unfold pointillistref04_Scan.j3
   repeat' first
   | (with_reducible exact ih0 _ _ _ _)
   | (with_reducible exact ih1 _ _ _)
   | (with_reducible exact ih2 _ _)
   | (with_reducible exact ih3 _ _ _ _)
   | (with_reducible exact ih4 _ _ _)
   | (with_reducible exact ih5 _ _ _)
   | (with_reducible exact pointillistref04_run.mono _ _ _)
   | (with_reducible exact LeO.refl _)
   | (with_reducible exact LeO.none _)
   | (with_reducible refine LeO.ite ?_ ?_)
   | (with_reducible refine LeO.bind ?_ (fun _ => ?_))
   | exact ih0 _ _ _ _
   | exact ih1 _ _ _
   | exact ih2 _ _
   | exact ih3 _ _ _ _
   | exact ih4 _ _ _
   | exact ih5 _ _ _
   | exact pointillistref04_run.mono _ _ _
   | exact LeO.none _
   | refine LeO.ite ?_ ?_
   | refine LeO.bind ?_ (fun _ => ?_)
  ·
   intro y0 y1 y2
   unfold pointillistref04_Scan.j4
   repeat' first
   | (with_reducible exact ih0 _ _ _ _)
   | (with_reducible exact ih1 _ _ _)
   | (with_reducible exact ih2 _ _)
   | (with_reducible exact ih3 _ _ _ _)
   | (with_reducible exact ih4 _ _ _)
   | (with_reducible exact ih5 _ _ _)
   | (with_reducible exact pointillistref04_run.mono _ _ _)
   | (with_reducible exact LeO.refl _)
   | (with_reducible exact LeO.none _)
   | (with_reducible refine LeO.ite ?_ ?_)
   | (with_reducible refine LeO.bind ?_ (fun _ => ?_))
   | exact ih0 _ _ _ _
   | exact ih1 _ _ _
   | exact ih2 _ _
   | exact ih3 _ _ _ _
   | exact ih4 _ _ _
   | exact ih5 _ _ _
   | exact pointillistref04_run.mono _ _ _
   | exact LeO.none _
   | refine LeO.ite ?_ ?_
   | refine LeO.bind ?_ (fun _ => ?_)
  ·
   intro y0 y1 y2
   unfold pointillistref04_Scan.j5
   repeat' first
   | (with_reducible exact ih0 _ _ _ _)
   | (with_reducible exact ih1 _ _ _)
   | (with_reducible exact ih2 _ _)
   | (with_reducible exact ih3 _ _ _ _)
   | (with_reducible exact ih4 _ _ _)
   | (with_reducible exact ih5 _ _ _)
   | (with_reducible exact pointillistref04_run.mono _ _ _)
   | (with_reducible exact LeO.refl _)
   | (with_reducible exact LeO.none _)
   | (with_reducible refine LeO.ite ?_ ?_)
   | (with_reducible refine LeO.bind ?_ (fun _ => ?_))
   | exact ih0 _ _ _ _
   | exact ih1 _ _ _
   | exact ih2 _ _
   | exact ih3 _ _ _ _
   | exact ih4 _ _ _
   | exact ih5 _ _ _
   | exact pointillistref04_run.mono _ _ _
   | exact LeO.none _
   | refine LeO.ite ?_ ?_
   | refine LeO.bind ?_ (fun _ => ?_)
theorem pointillistref04_Scan.mono : ∀ a0 a1 a2 k, LeO (pointillistref04_Scan.f k a0 a1 a2) (pointillistref04_Scan.f (k + 1) a0 a1 a2) := by
 intro a0 a1 a2 k
 obtain ⟨ih0, ih1, ih2, ih3, ih4, ih5⟩ := pointillistref04_Scan.mono_l k
 unfold pointillistref04_Scan.f
 repeat' first
   | (with_reducible exact ih0 _ _ _ _)
   | (with_reducible exact ih1 _ _ _)
   | (with_reducible exact ih2 _ _)
   | (with_reducible exact ih3 _ _ _ _)
   | (with_reducible exact ih4 _ _ _)
   | (with_reducible exact ih5 _ _ _)
   | (with_reducible exact pointillistref04_run.mono _ _ _)
   | (with_reducible exact LeO.refl _)
   | (with_reducible exact LeO.none _)
   | (with_reducible refine LeO.ite ?_ ?_)
   | (with_reducible refine LeO.bind ?_ (fun _ => ?_))
   | exact ih0 _ _ _ _
   | exact ih1 _ _ _
   | exact ih2 _ _
   | exact ih3 _ _ _ _
   | exact ih4 _ _ _
   | exact ih5 _ _ _
   | exact pointillistref04_run.mono _ _ _
   | exact LeO.none _
   | refine LeO.ite ?_ ?_
   | refine LeO.bind ?_ (fun _ => ?_)
set_option maxHeartbeats 8000000 in
set_option maxRecDepth 100000 in
theorem pointillistref04_Scan.calls (k : Nat) (a0 : ByteArray) (a1 : Int) (a2 : Bool) (r1 : Int) (r2 : Bool) (w : World) (h : pointillistref04_Scan.f k a0 a1 a2 = some (r1, r2)) :
  Calls Tryd.prog 36 #[.string a0, .int .i64 a1, .bool a2] w fun e w' => e = .returned (.tuple #[.int .i64 r1, .bool r2]) ∧ Drawn0 w w' := by
 have H : (if a1 < 0 then (pointillistref04_Scan.j0 k a0 a1 a2 true) else (pointillistref04_Scan.j0 k a0 a1 a2 (decide (a1 > (a0.size : Int))))) = some (r1, r2) := h
 clear h
 have HC4 := Aside0.mk H
 clear H
 go_enter Tryd.func36, Tryd.ntmps36
 go_upto_region 1 with (fail)
 go_cut [20] (fun v20 wc => ∃ (kq : Nat) (x20_3 : Bool), v20 = .bool x20_3 ∧ Aside0 (pointillistref04_Scan.j0 kq a0 a1 a2 x20_3 = some (r1, r2)) ∧ Aside0 (kq ≤ k) ∧ Drawn0 w wc)
 case first =>
  have H := HC4.out
  clear HC4
  by_cases c5 : a1 < 0
  ·
   rw [if_pos c5] at H
   have c5b0 : decide (a1 < 0) = true := decide_eq_true c5
   clear c5
   (first | rw [c5b0] | (simp only [i64_w, i32_w]; rw [c5b0]) | skip)
   have H' := Aside0.mk H
   clear H
   go_wp2
   go_meet
   case rel => exact ⟨_, (true), (by first | rfl | (simp; done) | (simp [*]; done)), H', ⟨by first | omega | exact Nat.le_refl _⟩, by repeat (first | exact Drawn0.refl _ | apply Drawn0.step)⟩
  ·
   rw [if_neg c5] at H
   have c5b0 : decide (a1 < 0) = false := decide_eq_false c5
   clear c5
   (first | rw [c5b0] | (simp only [i64_w, i32_w]; rw [c5b0]) | skip)
   have H' := Aside0.mk H
   clear H
   go_wp2
   go_meet
   case rel => exact ⟨_, (decide (a1 > (a0.size : Int))), (by first | rfl | (simp; done) | (simp [*]; done)), H', ⟨by first | omega | exact Nat.le_refl _⟩, by repeat (first | exact Drawn0.refl _ | apply Drawn0.step)⟩
 case rest =>
  clear HC4
  try clear p2
  try clear c3
  try clear c5
  try clear c5b0
  obtain ⟨kq, x20_3, rfl, HA, HJ3, ⟨mc3, rfl⟩⟩ := hcut
  cases kq with
  | zero => exact absurd HA.out (by simp [pointillistref04_Scan.j0])
  | succ kj3 =>
   have H := HA.out
   clear HA
   simp only [pointillistref04_Scan.j0] at H
   by_cases c6 : x20_3 = true
   ·
    subst c6
    have H1 : (some (0, false)) = some (r1, r2) := by rw [if_pos rfl] at H; exact H
    clear H
    have H := H1
    clear H1
    simp only [Option.some.injEq, Prod.mk.injEq] at H
    obtain ⟨rfl, rfl⟩ := H
    go_wp2
    go_ret2
    exact ⟨by first | rfl | (simp; done) | (simp [*]; done), by repeat (first | exact Drawn0.refl _ | apply Drawn0.step)⟩
   ·
    replace c6 := Bool.eq_false_iff.mpr c6
    subst c6
    have H1 : (if a2 = true then ((pointillistref04_sign.f a0 a1).bind fun t139 => (pointillistref04_Scan.j1 kj3 a0 a1 t139)) else (pointillistref04_Scan.j1 kj3 a0 a1 false)) = some (r1, r2) := by rw [if_neg (show ¬ (false = true) by decide)] at H; exact H
    clear H
    have H := H1
    clear H1
    have HC7 := Aside0.mk H
    clear H
    go_upto_region 4 with (fail)
    go_cut [27] (fun v27 wc => ∃ (kq : Nat) (x27_6 : Bool), v27 = .bool x27_6 ∧ Aside0 (pointillistref04_Scan.j1 kq a0 a1 x27_6 = some (r1, r2)) ∧ Aside0 (kq ≤ kj3) ∧ Drawn0 w wc)
    case first =>
     have H := HC7.out
     clear HC7
     by_cases c8 : a2 = true
     ·
      subst c8
      have H1 : ((pointillistref04_sign.f a0 a1).bind fun t139 => (pointillistref04_Scan.j1 kj3 a0 a1 t139)) = some (r1, r2) := by rw [if_pos rfl] at H; exact H
      clear H
      have H := H1
      clear H1
      replace H := Option.bind_eq_some_iff.mp H
      obtain ⟨t139, A90, H⟩ := H
      replace H : (pointillistref04_Scan.j1 kj3 a0 a1 t139) = some (r1, r2) := H
      have A9 := Aside0.mk A90
      clear A90
      have H' := Aside0.mk H
      clear H
      go_wp2_with (first | (go_at_call 48; (with_reducible refine (pointillistref04_sign.calls a0 a1 t139 _ A9.out).mono ?_); rintro e w' ⟨rfl, ⟨nd, rfl⟩⟩))
      go_meet
      case rel => exact ⟨_, (t139), (by first | rfl | (simp; done) | (simp [*]; done)), H', ⟨by have := HJ3.out; first | omega | exact Nat.le_refl _⟩, by repeat (first | exact Drawn0.refl _ | apply Drawn0.step)⟩
     ·
      replace c8 := Bool.eq_false_iff.mpr c8
      subst c8
      have H1 : (pointillistref04_Scan.j1 kj3 a0 a1 false) = some (r1, r2) := by rw [if_neg (show ¬ (false = true) by decide)] at H; exact H
      clear H
      have H := H1
      clear H1
      have H' := Aside0.mk H
      clear H
      go_wp2
      go_meet
      case rel => exact ⟨_, (false), (by first | rfl | (simp; done) | (simp [*]; done)), H', ⟨by have := HJ3.out; first | omega | exact Nat.le_refl _⟩, by repeat (first | exact Drawn0.refl _ | apply Drawn0.step)⟩
    case rest =>
     clear HC7
     try clear p2
     try clear c3
     try clear c5
     try clear c5b0
     try clear c6
     try clear c8
     try clear p2
     obtain ⟨kq, x27_6, rfl, HA, HJ6, ⟨mc6, rfl⟩⟩ := hcut
     cases kq with
     | zero => exact absurd HA.out (by simp [pointillistref04_Scan.j1])
     | succ kj6 =>
      have H := HA.out
      clear HA
      simp only [pointillistref04_Scan.j1] at H
      have HC10 := Aside0.mk H
      clear H
      go_upto_if 27 with (fail)
      go_cut [8] (fun v8 wc => ∃ (kq : Nat) (x8_9 : Int), v8 = .int .i64 x8_9 ∧ Aside0 (pointillistref04_Scan.j2 kq a0 x8_9 = some (r1, r2)) ∧ Aside0 (kq ≤ kj6) ∧ Drawn0 w wc)
      case first =>
       have H := HC10.out
       clear HC10
       by_cases c11 : x27_6 = true
       ·
        subst c11
        have H1 : (pointillistref04_Scan.j2 kj6 a0 (wrap64 (a1 + 1))) = some (r1, r2) := by rw [if_pos rfl] at H; exact H
        clear H
        have H := H1
        clear H1
        have H' := Aside0.mk H
        clear H
        go_wp2
        go_meet
        case rel => exact ⟨_, (wrap64 (a1 + 1)), (by first | rfl | (simp; done) | (simp [*]; done)), H', ⟨by have := HJ3.out; have := HJ6.out; first | omega | exact Nat.le_refl _⟩, by repeat (first | exact Drawn0.refl _ | apply Drawn0.step)⟩
       ·
        replace c11 := Bool.eq_false_iff.mpr c11
        subst c11
        have H1 : (pointillistref04_Scan.j2 kj6 a0 a1) = some (r1, r2) := by rw [if_neg (show ¬ (false = true) by decide)] at H; exact H
        clear H
        have H := H1
        clear H1
        have H' := Aside0.mk H
        clear H
        go_wp2
        go_meet
        case rel => exact ⟨_, (a1), (by first | rfl | (simp; done) | (simp [*]; done)), H', ⟨by have := HJ3.out; have := HJ6.out; first | omega | exact Nat.le_refl _⟩, by repeat (first | exact Drawn0.refl _ | apply Drawn0.step)⟩
      case rest =>
       clear HC10
       try clear c1
       try clear p2
       try clear c3
       try clear c5
       try clear c5b0
       try clear c6
       try clear p6
       try clear c8
       try clear c11
       try clear p2
       obtain ⟨kq, x8_9, rfl, HA, HJ9, ⟨mc9, rfl⟩⟩ := hcut
       cases kq with
       | zero => exact absurd HA.out (by simp [pointillistref04_Scan.j2])
       | succ kj9 =>
        have H := HA.out
        clear HA
        simp only [pointillistref04_Scan.j2] at H
        replace H := Option.bind_eq_some_iff.mp H
        obtain ⟨t140, A120, H⟩ := H
        replace H : (if t140 < (a0.size : Int) then (if 0 ≤ t140 then (pointillistref04_Scan.j3 kj9 a0 t140 (decide (t140 > x8_9)) ((bt a0 t140) == 46)) else (none)) else (pointillistref04_Scan.j3 kj9 a0 t140 (decide (t140 > x8_9)) false)) = some (r1, r2) := H
        have A12 := Aside0.mk A120
        clear A120
        have HC13 := Aside0.mk H
        clear H
        go_upto_region 9 with (first | ((with_reducible refine gate_callee (f := 49) rfl ?_); refine goesL_ (some 32) rfl rfl Tryd.func49 (by kernel_rfl) rfl #[.string a0, .int .i64 x8_9] rfl (by (try simp only [List.map_toArray, List.map_cons, List.map_nil]); first | done | rfl | (simp only [List.length_drop, List.length_take]; rfl)) ?_; (with_reducible refine (pointillistref04_run.calls kj9 a0 x8_9 t140 _ A12.out).mono ?_); rintro e w' ⟨rfl, ⟨nd, rfl⟩⟩; refine ⟨_, rfl, ?_⟩))
        (try simp only [apz])
        go_cut [46] (fun v46 wc => ∃ (kq : Nat) (x46_12 : Bool), v46 = .bool x46_12 ∧ Aside0 (pointillistref04_Scan.j3 kq a0 t140 (decide (t140 > x8_9)) x46_12 = some (r1, r2)) ∧ Aside0 (kq ≤ kj9) ∧ Drawn0 w wc)
        case first =>
         have H := HC13.out
         clear HC13
         by_cases c14 : t140 < (a0.size : Int)
         ·
          rw [if_pos c14] at H
          have c14b0 : decide (t140 < (a0.size : Int)) = true := decide_eq_true c14
          clear c14
          (first | rw [c14b0] | (simp only [i64_w, i32_w]; rw [c14b0]) | skip)
          by_cases c15 : 0 ≤ t140
          ·
           rw [if_pos c15] at H
           have c15b0 : decide (0 ≤ t140) = true := decide_eq_true c15
           clear c15
           have H' := Aside0.mk H
           clear H
           have p16 : 0 ≤ (t140 : Int) := of_decide_eq_true (by first | (with_reducible assumption) | assumption)
           have q16 : t140 < (a0.size : Int) := of_decide_eq_true (by first | (with_reducible assumption) | assumption)
           have hx16 := bt_at a0 t140
           replace p16 := eq_true p16
           replace q16 := eq_true q16
           go_wp2
           go_meet
           case rel => exact ⟨_, (((bt a0 t140) == 46)), (by first | rfl | (simp; done) | (simp [*]; done)), H', ⟨by have := HJ3.out; have := HJ6.out; have := HJ9.out; first | omega | exact Nat.le_refl _⟩, by repeat (first | exact Drawn0.refl _ | apply Drawn0.step)⟩
          ·
           rw [if_neg c15] at H
           exact absurd H (by simp)
         ·
          rw [if_neg c14] at H
          have c14b0 : decide (t140 < (a0.size : Int)) = false := decide_eq_false c14
          clear c14
          (first | rw [c14b0] | (simp only [i64_w, i32_w]; rw [c14b0]) | skip)
          have H' := Aside0.mk H
          clear H
          go_wp2
          go_meet
          case rel => exact ⟨_, (false), (by first | rfl | (simp; done) | (simp [*]; done)), H', ⟨by have := HJ3.out; have := HJ6.out; have := HJ9.out; first | omega | exact Nat.le_refl _⟩, by repeat (first | exact Drawn0.refl _ | apply Drawn0.step)⟩
        case rest =>
         clear HC13
         try clear c1
         try clear p1
         try clear q1
         try clear hx1
         try clear p2
         try clear c3
         try clear c4
         try clear c5
         try clear c5b0
         try clear c6
         try clear p6
         try clear c8
         try clear c9
         try clear c11
         try clear c14
         try clear c14b0
         try clear c15
         try clear c15b0
         try clear p16
         try clear q16
         try clear hx16
         try clear p16
         try clear p2
         try clear p6
         try clear q16
         obtain ⟨kq, x46_12, rfl, HA, HJ12, ⟨mc12, rfl⟩⟩ := hcut
         cases kq with
         | zero => exact absurd HA.out (by simp [pointillistref04_Scan.j3])
         | succ kj12 =>
          have H := HA.out
          clear HA
          simp only [pointillistref04_Scan.j3] at H
          have HC17 := Aside0.mk H
          clear H
          go_upto_if 46 with (fail)
          go_cut [8, 10] (fun v8 v10 wc => ∃ (kq : Nat) (x8_16 : Int) (x10_16 : Bool), v8 = .int .i64 x8_16 ∧ v10 = .bool x10_16 ∧ Aside0 (pointillistref04_Scan.j4 kq a0 x8_16 x10_16 = some (r1, r2)) ∧ Aside0 (kq ≤ kj12) ∧ Drawn0 w wc)
          case first =>
           have H := HC17.out
           clear HC17
           by_cases c18 : x46_12 = true
           ·
            subst c18
            have H1 : ((pointillistref04_run.f kj12 a0 (wrap64 (t140 + 1))).bind fun t141 => (if (decide (t140 > x8_9)) = true then (pointillistref04_Scan.j4 kj12 a0 t141 true) else (pointillistref04_Scan.j4 kj12 a0 t141 (decide (t141 > (wrap64 (t140 + 1))))))) = some (r1, r2) := by rw [if_pos rfl] at H; exact H
            clear H
            have H := H1
            clear H1
            replace H := Option.bind_eq_some_iff.mp H
            obtain ⟨t141, A190, H⟩ := H
            replace H : (if (decide (t140 > x8_9)) = true then (pointillistref04_Scan.j4 kj12 a0 t141 true) else (pointillistref04_Scan.j4 kj12 a0 t141 (decide (t141 > (wrap64 (t140 + 1)))))) = some (r1, r2) := H
            have A19 := Aside0.mk A190
            clear A190
            by_cases c20 : (decide (t140 > x8_9)) = true
            ·
             rw [if_pos c20] at H
             have c20b0 : (decide (t140 > x8_9)) = true := c20
             clear c20
             (first | rw [c20b0] | (simp only [i64_w, i32_w]; rw [c20b0]) | skip)
             have H' := Aside0.mk H
             clear H
             go_wp2_with (first | ((with_reducible refine gate_callee (f := 49) rfl ?_); refine goesL_ (some 50) rfl rfl Tryd.func49 (by kernel_rfl) rfl #[.string a0, .int .i64 (wrap64 (t140 + 1))] rfl (by (try simp only [List.map_toArray, List.map_cons, List.map_nil]); first | done | rfl | (simp only [List.length_drop, List.length_take]; rfl)) ?_; (with_reducible refine (pointillistref04_run.calls kj12 a0 (wrap64 (t140 + 1)) t141 _ A19.out).mono ?_); rintro e w' ⟨rfl, ⟨nd, rfl⟩⟩; refine ⟨_, rfl, ?_⟩))
             go_meet
             case rel => exact ⟨_, (t141), (true), (by first | rfl | (simp; done) | (simp [*]; done)), (by first | rfl | (simp; done) | (simp [*]; done)), H', ⟨by have := HJ3.out; have := HJ6.out; have := HJ9.out; have := HJ12.out; first | omega | exact Nat.le_refl _⟩, by repeat (first | exact Drawn0.refl _ | apply Drawn0.step)⟩
            ·
             rw [if_neg c20] at H
             have c20b0 : (decide (t140 > x8_9)) = false := by simpa using c20
             clear c20
             (first | rw [c20b0] | (simp only [i64_w, i32_w]; rw [c20b0]) | skip)
             have H' := Aside0.mk H
             clear H
             go_wp2_with (first | ((with_reducible refine gate_callee (f := 49) rfl ?_); refine goesL_ (some 50) rfl rfl Tryd.func49 (by kernel_rfl) rfl #[.string a0, .int .i64 (wrap64 (t140 + 1))] rfl (by (try simp only [List.map_toArray, List.map_cons, List.map_nil]); first | done | rfl | (simp only [List.length_drop, List.length_take]; rfl)) ?_; (with_reducible refine (pointillistref04_run.calls kj12 a0 (wrap64 (t140 + 1)) t141 _ A19.out).mono ?_); rintro e w' ⟨rfl, ⟨nd, rfl⟩⟩; refine ⟨_, rfl, ?_⟩))
             go_meet
             case rel => exact ⟨_, (t141), (decide (t141 > (wrap64 (t140 + 1)))), (by first | rfl | (simp; done) | (simp [*]; done)), (by first | rfl | (simp; done) | (simp [*]; done)), H', ⟨by have := HJ3.out; have := HJ6.out; have := HJ9.out; have := HJ12.out; first | omega | exact Nat.le_refl _⟩, by repeat (first | exact Drawn0.refl _ | apply Drawn0.step)⟩
           ·
            replace c18 := Bool.eq_false_iff.mpr c18
            subst c18
            have H1 : (pointillistref04_Scan.j4 kj12 a0 t140 (decide (t140 > x8_9))) = some (r1, r2) := by rw [if_neg (show ¬ (false = true) by decide)] at H; exact H
            clear H
            have H := H1
            clear H1
            have H' := Aside0.mk H
            clear H
            go_wp2
            go_meet
            case rel => exact ⟨_, (t140), ((decide (t140 > x8_9))), (by first | rfl | (simp; done) | (simp [*]; done)), (by first | rfl | (simp; done) | (simp [*]; done)), H', ⟨by have := HJ3.out; have := HJ6.out; have := HJ9.out; have := HJ12.out; first | omega | exact Nat.le_refl _⟩, by repeat (first | exact Drawn0.refl _ | apply Drawn0.step)⟩
          case rest =>
           clear HC17
           try clear c1
           try clear p1
           try clear q1
           try clear hx1
           try clear c2
           try clear p2
           try clear c3
           try clear c4
           try clear c5
           try clear c5b0
           try clear c6
           try clear p6
           try clear c8
           try clear c9
           try clear c11
           try clear c12
           try clear c14
           try clear c14b0
           try clear c15
           try clear c15b0
           try clear p16
           try clear q16
           try clear hx16
           try clear c18
           try clear c20
           try clear c20b0
           try clear p1
           try clear p16
           try clear p2
           try clear p6
           try clear q1
           try clear q16
           obtain ⟨kq, x8_16, x10_16, rfl, rfl, HA, HJ16, ⟨mc16, rfl⟩⟩ := hcut
           cases kq with
           | zero => exact absurd HA.out (by simp [pointillistref04_Scan.j4])
           | succ kj16 =>
            have H := HA.out
            clear HA
            simp only [pointillistref04_Scan.j4] at H
            by_cases c21 : x10_16 = true
            ·
             subst c21
             have H1 : (if x8_16 < (a0.size : Int) then (if 0 ≤ x8_16 then (if (bt a0 x8_16) = 101 then (pointillistref04_Scan.j5 kj16 a0 x8_16 true) else (pointillistref04_Scan.j5 kj16 a0 x8_16 ((bt a0 x8_16) == 69))) else (none)) else (pointillistref04_Scan.j5 kj16 a0 x8_16 false)) = some (r1, r2) := by rw [if_pos rfl] at H; exact H
             clear H
             have H := H1
             clear H1
             have HC22 := Aside0.mk H
             clear H
             go_upto_region 15 with (fail)
             go_cut [77] (fun v77 wc => ∃ (kq : Nat) (x77_21 : Bool), v77 = .bool x77_21 ∧ Aside0 (pointillistref04_Scan.j5 kq a0 x8_16 x77_21 = some (r1, r2)) ∧ Aside0 (kq ≤ kj16) ∧ Drawn0 w wc)
             case first =>
              have H := HC22.out
              clear HC22
              by_cases c23 : x8_16 < (a0.size : Int)
              ·
               rw [if_pos c23] at H
               have c23b0 : decide (x8_16 < (a0.size : Int)) = true := decide_eq_true c23
               clear c23
               (first | rw [c23b0] | (simp only [i64_w, i32_w]; rw [c23b0]) | skip)
               by_cases c24 : 0 ≤ x8_16
               ·
                rw [if_pos c24] at H
                have c24b0 : decide (0 ≤ x8_16) = true := decide_eq_true c24
                clear c24
                by_cases c26 : (bt a0 x8_16) = 101
                ·
                 rw [if_pos c26] at H
                 have c26b0 : ((bt a0 x8_16) == 101) = true := beq_iff_eq.mpr c26
                 have c26b1 : ((bt a0 x8_16) != 101) = false := bne_eq_false_iff_eq.mpr c26
                 clear c26
                 have H' := Aside0.mk H
                 clear H
                 have p25 : 0 ≤ (x8_16 : Int) := of_decide_eq_true (by first | (with_reducible assumption) | assumption)
                 have q25 : x8_16 < (a0.size : Int) := of_decide_eq_true (by first | (with_reducible assumption) | assumption)
                 have hx25 := bt_at a0 x8_16
                 replace p25 := eq_true p25
                 replace q25 := eq_true q25
                 go_wp2
                 go_meet
                 case rel => exact ⟨_, (true), (by first | rfl | (simp; done) | (simp [*]; done)), H', ⟨by have := HJ3.out; have := HJ6.out; have := HJ9.out; have := HJ12.out; have := HJ16.out; first | omega | exact Nat.le_refl _⟩, by repeat (first | exact Drawn0.refl _ | apply Drawn0.step)⟩
                ·
                 rw [if_neg c26] at H
                 have c26b0 : ((bt a0 x8_16) == 101) = false := beq_eq_false_iff_ne.mpr c26
                 have c26b1 : ((bt a0 x8_16) != 101) = true := bne_iff_ne.mpr c26
                 have H' := Aside0.mk H
                 clear H
                 have p25 : 0 ≤ (x8_16 : Int) := of_decide_eq_true (by first | (with_reducible assumption) | assumption)
                 have q25 : x8_16 < (a0.size : Int) := of_decide_eq_true (by first | (with_reducible assumption) | assumption)
                 have hx25 := bt_at a0 x8_16
                 replace p25 := eq_true p25
                 replace q25 := eq_true q25
                 have p27 : 0 ≤ (x8_16 : Int) := of_decide_eq_true (by first | (with_reducible assumption) | assumption)
                 have q27 : x8_16 < (a0.size : Int) := of_decide_eq_true (by first | (with_reducible assumption) | assumption)
                 have hx27 := bt_at a0 x8_16
                 replace p27 := eq_true p27
                 replace q27 := eq_true q27
                 go_wp2
                 go_meet
                 case rel => exact ⟨_, (((bt a0 x8_16) == 69)), (by first | rfl | (simp; done) | (simp [*]; done)), H', ⟨by have := HJ3.out; have := HJ6.out; have := HJ9.out; have := HJ12.out; have := HJ16.out; first | omega | exact Nat.le_refl _⟩, by repeat (first | exact Drawn0.refl _ | apply Drawn0.step)⟩
               ·
                rw [if_neg c24] at H
                exact absurd H (by simp)
              ·
               rw [if_neg c23] at H
               have c23b0 : decide (x8_16 < (a0.size : Int)) = false := decide_eq_false c23
               clear c23
               (first | rw [c23b0] | (simp only [i64_w, i32_w]; rw [c23b0]) | skip)
               have H' := Aside0.mk H
               clear H
               go_wp2
               go_meet
               case rel => exact ⟨_, (false), (by first | rfl | (simp; done) | (simp [*]; done)), H', ⟨by have := HJ3.out; have := HJ6.out; have := HJ9.out; have := HJ12.out; have := HJ16.out; first | omega | exact Nat.le_refl _⟩, by repeat (first | exact Drawn0.refl _ | apply Drawn0.step)⟩
             case rest =>
              clear HC22
              try clear c1
              try clear p1
              try clear q1
              try clear hx1
              try clear c2
              try clear p2
              try clear q2
              try clear hx2
              try clear c3
              try clear c4
              try clear c5
              try clear c5b0
              try clear c6
              try clear p6
              try clear c8
              try clear c9
              try clear c11
              try clear c12
              try clear c14
              try clear c14b0
              try clear c15
              try clear c15b0
              try clear c16
              try clear p16
              try clear q16
              try clear hx16
              try clear c18
              try clear c20
              try clear c20b0
              try clear c21
              try clear c23
              try clear c23b0
              try clear c24
              try clear c24b0
              try clear p25
              try clear q25
              try clear hx25
              try clear c26
              try clear c26b0
              try clear c26b1
              try clear p27
              try clear q27
              try clear hx27
              try clear p1
              try clear p16
              try clear p2
              try clear p25
              try clear p27
              try clear p6
              try clear q1
              try clear q16
              try clear q25
              try clear q27
              obtain ⟨kq, x77_21, rfl, HA, HJ21, ⟨mc21, rfl⟩⟩ := hcut
              cases kq with
              | zero => exact absurd HA.out (by simp [pointillistref04_Scan.j5])
              | succ kj21 =>
               have H := HA.out
               clear HA
               simp only [pointillistref04_Scan.j5] at H
               by_cases c28 : x77_21 = true
               ·
                subst c28
                have H1 : ((pointillistref04_sign.f a0 (wrap64 (x8_16 + 1))).bind fun t142 => (if t142 = true then ((pointillistref04_run.f kj21 a0 (wrap64 ((wrap64 (x8_16 + 1)) + 1))).bind fun t143 => (some (t143, decide (t143 > (wrap64 ((wrap64 (x8_16 + 1)) + 1)))))) else ((pointillistref04_run.f kj21 a0 (wrap64 (x8_16 + 1))).bind fun t144 => (some (t144, decide (t144 > (wrap64 (x8_16 + 1)))))))) = some (r1, r2) := by rw [if_pos rfl] at H; exact H
                clear H
                have H := H1
                clear H1
                replace H := Option.bind_eq_some_iff.mp H
                obtain ⟨t142, A290, H⟩ := H
                replace H : (if t142 = true then ((pointillistref04_run.f kj21 a0 (wrap64 ((wrap64 (x8_16 + 1)) + 1))).bind fun t143 => (some (t143, decide (t143 > (wrap64 ((wrap64 (x8_16 + 1)) + 1)))))) else ((pointillistref04_run.f kj21 a0 (wrap64 (x8_16 + 1))).bind fun t144 => (some (t144, decide (t144 > (wrap64 (x8_16 + 1))))))) = some (r1, r2) := H
                have A29 := Aside0.mk A290
                clear A290
                by_cases c30 : t142 = true
                ·
                 subst c30
                 have H1 : ((pointillistref04_run.f kj21 a0 (wrap64 ((wrap64 (x8_16 + 1)) + 1))).bind fun t143 => (some (t143, decide (t143 > (wrap64 ((wrap64 (x8_16 + 1)) + 1)))))) = some (r1, r2) := by rw [if_pos rfl] at H; exact H
                 clear H
                 have H := H1
                 clear H1
                 replace H := Option.bind_eq_some_iff.mp H
                 obtain ⟨t143, A310, H⟩ := H
                 replace H : (some (t143, decide (t143 > (wrap64 ((wrap64 (x8_16 + 1)) + 1))))) = some (r1, r2) := H
                 have A31 := Aside0.mk A310
                 clear A310
                 simp only [Option.some.injEq, Prod.mk.injEq] at H
                 obtain ⟨rfl, rfl⟩ := H
                 go_wp2_with (first | ((with_reducible refine gate_callee (f := 48) rfl ?_); refine goesL_ (some 82) rfl rfl Tryd.func48 (by kernel_rfl) rfl #[.string a0, .int .i64 (wrap64 (x8_16 + 1))] rfl (by (try simp only [List.map_toArray, List.map_cons, List.map_nil]); first | done | rfl | (simp only [List.length_drop, List.length_take]; rfl)) ?_; (with_reducible refine (pointillistref04_sign.calls a0 (wrap64 (x8_16 + 1)) true _ A29.out).mono ?_); rintro e w' ⟨rfl, ⟨nd, rfl⟩⟩; refine ⟨_, rfl, ?_⟩) | ((with_reducible refine gate_callee (f := 49) rfl ?_); refine goesL_ (some 87) rfl rfl Tryd.func49 (by kernel_rfl) rfl #[.string a0, .int .i64 (wrap64 ((wrap64 (x8_16 + 1)) + 1))] rfl (by (try simp only [List.map_toArray, List.map_cons, List.map_nil]); first | done | rfl | (simp only [List.length_drop, List.length_take]; rfl)) ?_; (with_reducible refine (pointillistref04_run.calls kj21 a0 (wrap64 ((wrap64 (x8_16 + 1)) + 1)) t143 _ A31.out).mono ?_); rintro e w' ⟨rfl, ⟨nd, rfl⟩⟩; refine ⟨_, rfl, ?_⟩))
                 go_ret2
                 exact ⟨by first | rfl | (simp; done) | (simp [*]; done), by repeat (first | exact Drawn0.refl _ | apply Drawn0.step)⟩
                ·
                 replace c30 := Bool.eq_false_iff.mpr c30
                 subst c30
                 have H1 : ((pointillistref04_run.f kj21 a0 (wrap64 (x8_16 + 1))).bind fun t144 => (some (t144, decide (t144 > (wrap64 (x8_16 + 1)))))) = some (r1, r2) := by rw [if_neg (show ¬ (false = true) by decide)] at H; exact H
                 clear H
                 have H := H1
                 clear H1
                 replace H := Option.bind_eq_some_iff.mp H
                 obtain ⟨t144, A320, H⟩ := H
                 replace H : (some (t144, decide (t144 > (wrap64 (x8_16 + 1))))) = some (r1, r2) := H
                 have A32 := Aside0.mk A320
                 clear A320
                 simp only [Option.some.injEq, Prod.mk.injEq] at H
                 obtain ⟨rfl, rfl⟩ := H
                 go_wp2_with (first | ((with_reducible refine gate_callee (f := 48) rfl ?_); refine goesL_ (some 82) rfl rfl Tryd.func48 (by kernel_rfl) rfl #[.string a0, .int .i64 (wrap64 (x8_16 + 1))] rfl (by (try simp only [List.map_toArray, List.map_cons, List.map_nil]); first | done | rfl | (simp only [List.length_drop, List.length_take]; rfl)) ?_; (with_reducible refine (pointillistref04_sign.calls a0 (wrap64 (x8_16 + 1)) false _ A29.out).mono ?_); rintro e w' ⟨rfl, ⟨nd, rfl⟩⟩; refine ⟨_, rfl, ?_⟩) | ((with_reducible refine gate_callee (f := 49) rfl ?_); refine goesL_ (some 87) rfl rfl Tryd.func49 (by kernel_rfl) rfl #[.string a0, .int .i64 (wrap64 (x8_16 + 1))] rfl (by (try simp only [List.map_toArray, List.map_cons, List.map_nil]); first | done | rfl | (simp only [List.length_drop, List.length_take]; rfl)) ?_; (with_reducible refine (pointillistref04_run.calls kj21 a0 (wrap64 (x8_16 + 1)) t144 _ A32.out).mono ?_); rintro e w' ⟨rfl, ⟨nd, rfl⟩⟩; refine ⟨_, rfl, ?_⟩))
                 go_ret2
                 exact ⟨by first | rfl | (simp; done) | (simp [*]; done), by repeat (first | exact Drawn0.refl _ | apply Drawn0.step)⟩
               ·
                replace c28 := Bool.eq_false_iff.mpr c28
                subst c28
                have H1 : (some (x8_16, true)) = some (r1, r2) := by rw [if_neg (show ¬ (false = true) by decide)] at H; exact H
                clear H
                have H := H1
                clear H1
                simp only [Option.some.injEq, Prod.mk.injEq] at H
                obtain ⟨rfl, rfl⟩ := H
                go_wp2
                go_ret2
                exact ⟨by first | rfl | (simp; done) | (simp [*]; done), by repeat (first | exact Drawn0.refl _ | apply Drawn0.step)⟩
            ·
             replace c21 := Bool.eq_false_iff.mpr c21
             subst c21
             have H1 : (some (x8_16, false)) = some (r1, r2) := by rw [if_neg (show ¬ (false = true) by decide)] at H; exact H
             clear H
             have H := H1
             clear H1
             simp only [Option.some.injEq, Prod.mk.injEq] at H
             obtain ⟨rfl, rfl⟩ := H
             go_wp2
             go_ret2
             exact ⟨by first | rfl | (simp; done) | (simp [*]; done), by repeat (first | exact Drawn0.refl _ | apply Drawn0.step)⟩
end Go.Proofs.YtfpnglgipchjhaaDoor.PR
namespace Go.Proofs.YtfpnglgipchjhaaDoor.PR
open Go.RowKit Go.Proofs.YtfpnglgipchjhaaDoorW.PrintWords Go.Proofs.YtfpnglgipchjhaaDoorW.PrintLast Go.Proofs.YtfpnglgipchjhaaDoorW.PrintMore Go.Proofs.YtfpnglgipchjhaaDoor.DecV
theorem w64s (n : Int) (h : -9223372036854775808 ≤ n) (h2 : n < 9223372036854775808) : wrap64 n = n := by
  have : wrap64 n = (n + 9223372036854775808) % 18446744073709551616 - 9223372036854775808 := by unfold wrap64; rfl
  rw [this]; omega
theorem bt_lk (s : ByteArray) (i : Nat) : bt s (i : Int) = lk (bytesOf s) i := by
  rw [← rd_bytesOf]
  unfold rd lk
  rw [Int.toNat_natCast]
theorem w1 (i : Nat) (h : i < 4611686018427387904) : wrap64 ((i : Int) + 1) = ((i + 1 : Nat) : Int) := by rw [w64s _ (by omega) (by omega)]; omega
theorem refdigit_eq (s : ByteArray) (i : Nat) : pointillistref04_digit.f s (i : Int) = some (isD (lk (bytesOf s) i)) := by
  unfold pointillistref04_digit.f
  rw [bt_lk]
  by_cases h : (i : Int) < (s.size : Int)
  · rw [if_pos h, if_pos (by omega)]
    by_cases h2 : lk (bytesOf s) i ≥ 48
    · rw [if_pos h2]
      congr 1
      unfold isD
      rw [Bool.eq_iff_iff, decide_eq_true_eq, decide_eq_true_eq]
      omega
    · rw [if_neg h2]
      congr 1
      unfold isD
      rw [decide_eq_false (by omega)]
  · rw [if_neg h, lk_end _ _ (by rw [bytesOf_length]; omega)]
    rfl
theorem refsign_eq (s : ByteArray) (i : Nat) : pointillistref04_sign.f s (i : Int) = some (isS (lk (bytesOf s) i)) := by
  unfold pointillistref04_sign.f
  rw [bt_lk]
  by_cases h : (i : Int) < (s.size : Int)
  · rw [if_pos h, if_pos (by omega)]
    unfold isS
    by_cases h2 : lk (bytesOf s) i = 43
    · rw [if_pos h2, h2]; rfl
    · rw [if_neg h2]
      congr 1
      rw [Bool.eq_iff_iff, decide_eq_true_eq, beq_iff_eq]
      omega
  · rw [if_neg h, lk_end _ _ (by rw [bytesOf_length]; omega)]
    rfl
theorem refrun_ev (s : ByteArray) (hs : s.size < 1152921504606846976) (i : Nat) : i ≤ s.size → Ev (fun k => pointillistref04_run.f k s (i : Int)) ((rn (bytesOf s) i : Nat) : Int) := by
  refine rn_ind (L := bytesOf s) (fun i => i ≤ s.size → Ev (fun k => pointillistref04_run.f k s (i : Int)) ((rn (bytesOf s) i : Nat) : Int)) (fun i h ih hi => ?_) (fun i h hi => ?_) i
  · have hlt := isD_lt h
    rw [bytesOf_length] at hlt
    have := ih (by omega)
    rw [rn_step h]
    refine Ev.step (f := fun k => pointillistref04_run.l0 k s ((i + 1 : Nat) : Int)) (fun k => ?_) this
    show pointillistref04_run.l0 (k + 1) s (i : Int) = _
    rw [pointillistref04_run.l0, refdigit_eq, h]
    simp only [Option.bind_some, if_true]
    rw [w1 i (by omega)]
  · rw [rn_stop h]
    refine Ev.step (f := fun _ => some (i : Int)) (fun k => ?_) (Ev.now _)
    show pointillistref04_run.l0 (k + 1) s (i : Int) = _
    rw [pointillistref04_run.l0, refdigit_eq, h]
    rfl
theorem scanB_le {L : List Int} {i : Nat} (h : i ≤ L.length) : scanB L i ≤ L.length := by
  unfold scanB
  have h1 := rn_le h
  split
  · rename_i h2
    have h3 : rn L i < L.length := lk_lt (by rw [h2]; decide)
    exact rn_le h3
  · exact h1
theorem ref_j5 (s : ByteArray) (hs : s.size < 1152921504606846976) (b : Nat) (_hb : b ≤ s.size) :
    Ev (fun k => pointillistref04_Scan.j5 k s (b : Int) (isE (lk (bytesOf s) b))) (if isE (lk (bytesOf s) b) = true then (((rn (bytesOf s) (expJ (bytesOf s) b) : Nat) : Int), decide (expJ (bytesOf s) b < rn (bytesOf s) (expJ (bytesOf s) b))) else ((b : Int), true)) := by
  cases he : isE (lk (bytesOf s) b) with
  | false =>
    refine Ev.step (fun k => by rw [pointillistref04_Scan.j5, if_neg (by decide)]) ?_
    exact Ev.now _
  | true =>
    have hlt := isE_lt he
    rw [bytesOf_length] at hlt
    refine Ev.step (fun k => by rw [pointillistref04_Scan.j5, if_pos rfl, w1 b (by omega), refsign_eq]) ?_
    simp only [Option.bind_some, if_true]
    unfold expJ
    have dg : ∀ (x y : Nat), decide ((x : Int) > (y : Int)) = decide (y < x) := fun x y => by rw [Bool.eq_iff_iff, decide_eq_true_eq, decide_eq_true_eq]; omega
    cases hg : isS (lk (bytesOf s) (b + 1)) with
    | true =>
      have hlt2 := isS_lt hg
      rw [bytesOf_length] at hlt2
      simp only [if_true]
      rw [w1 (b + 1) (by omega)]
      refine Ev.bind (refrun_ev s hs (b + 1 + 1) (by omega)) ?_
      rw [dg]
      exact Ev.now _
    | false =>
      simp only [Bool.false_eq_true, if_false]
      refine Ev.bind (refrun_ev s hs (b + 1) (by omega)) ?_
      rw [dg]
      exact Ev.now _
theorem refscan_u (s : ByteArray) (hs : s.size < 1152921504606846976) (i : Nat) (hi : i ≤ s.size) :
    Ev (fun k => pointillistref04_Scan.j2 k s (i : Int)) (((scanU (bytesOf s) i).1 : Int), (scanU (bytesOf s) i).2) := by
  have ha := rn_le (L := bytesOf s) (i := i) (by rw [bytesOf_length]; exact hi)
  have hb := scanB_le (L := bytesOf s) (i := i) (by rw [bytesOf_length]; exact hi)
  rw [bytesOf_length] at ha hb
  have dg : ∀ (x y : Nat), decide ((x : Int) > (y : Int)) = decide (y < x) := fun x y => by rw [Bool.eq_iff_iff, decide_eq_true_eq, decide_eq_true_eq]; omega

  have h4 : Ev (fun k => pointillistref04_Scan.j4 k s (scanB (bytesOf s) i : Int) (someB (bytesOf s) i)) (((scanU (bytesOf s) i).1 : Int), (scanU (bytesOf s) i).2) := by
    unfold scanU
    cases hsome : someB (bytesOf s) i with
    | false =>
      refine Ev.step (fun k => by rw [pointillistref04_Scan.j4, if_neg (by decide)]) ?_
      exact Ev.now _
    | true =>
      have h5 := ref_j5 s hs (scanB (bytesOf s) i) hb
      have e : ∀ k, pointillistref04_Scan.j4 (k + 1) s (scanB (bytesOf s) i : Int) true = pointillistref04_Scan.j5 k s (scanB (bytesOf s) i : Int) (isE (lk (bytesOf s) (scanB (bytesOf s) i))) := by
        intro k
        rw [pointillistref04_Scan.j4, if_pos rfl, bt_lk]
        by_cases h : (scanB (bytesOf s) i : Int) < (s.size : Int)
        · rw [if_pos h, if_pos (by omega)]
          unfold isE
          by_cases h2 : lk (bytesOf s) (scanB (bytesOf s) i) = 101
          · rw [if_pos h2, h2]; rfl
          · rw [if_neg h2]
            congr 1
            rw [Bool.eq_iff_iff, decide_eq_true_eq, beq_iff_eq]
            omega
        · rw [if_neg h, lk_end _ _ (by rw [bytesOf_length]; omega)]
          rfl
      refine Ev.step e ?_
      simp only [if_true]
      cases he : isE (lk (bytesOf s) (scanB (bytesOf s) i)) with
      | true =>
        rw [he] at h5
        simp only [if_true] at h5 ⊢
        exact h5
      | false =>
        rw [he] at h5
        simp only [Bool.false_eq_true, if_false] at h5 ⊢
        exact h5

  have h3 : Ev (fun k => pointillistref04_Scan.j3 k s (rn (bytesOf s) i : Int) (decide (i < rn (bytesOf s) i)) (decide (lk (bytesOf s) (rn (bytesOf s) i) = 46))) (((scanU (bytesOf s) i).1 : Int), (scanU (bytesOf s) i).2) := by
    unfold someB scanB at h4
    by_cases hp : lk (bytesOf s) (rn (bytesOf s) i) = 46
    · have hlt : rn (bytesOf s) i < (bytesOf s).length := lk_lt (by rw [hp]; decide)
      rw [bytesOf_length] at hlt
      rw [if_pos hp, decide_eq_true hp] at h4
      rw [decide_eq_true hp]
      refine Ev.step (fun k => by rw [pointillistref04_Scan.j3, if_pos rfl, w1 _ (by omega)]) ?_
      refine Ev.bind (refrun_ev s hs (rn (bytesOf s) i + 1) (by omega)) ?_
      rw [dg]
      cases hd : decide (i < rn (bytesOf s) i) with
      | true =>
        rw [hd] at h4
        simp only [if_true]
        exact h4
      | false =>
        rw [hd] at h4
        simp only [Bool.false_eq_true, if_false]
        simpa only [Bool.false_or, Bool.true_and] using h4
    · rw [if_neg hp, decide_eq_false hp] at h4
      rw [decide_eq_false hp]
      refine Ev.step (fun k => by rw [pointillistref04_Scan.j3, if_neg (by decide)]) ?_
      simpa only [Bool.false_and, Bool.or_false] using h4
  refine Ev.step (fun k => by rw [pointillistref04_Scan.j2]) ?_
  refine Ev.bind (refrun_ev s hs i hi) ?_
  rw [dg, bt_lk]
  by_cases h : ((rn (bytesOf s) i : Nat) : Int) < (s.size : Int)
  · have h0 : (0 : Int) ≤ ((rn (bytesOf s) i : Nat) : Int) := by omega
    simp only [if_pos h, if_pos h0]
    have e : (lk (bytesOf s) (rn (bytesOf s) i) == 46) = decide (lk (bytesOf s) (rn (bytesOf s) i) = 46) := by rw [Bool.eq_iff_iff, decide_eq_true_eq, beq_iff_eq]
    rw [e]
    exact h3
  · simp only [if_neg h]
    rw [lk_end _ _ (by rw [bytesOf_length]; omega)] at h3
    exact h3
theorem refscan_ev (s : ByteArray) (hs : s.size < 1152921504606846976) (i : Nat) (hi : i ≤ s.size) (sg : Bool) :
    Ev (fun k => pointillistref04_Scan.f k s (i : Int) sg) (((scanS (bytesOf s) i sg).1 : Int), (scanS (bytesOf s) i sg).2) := by
  unfold pointillistref04_Scan.f scanS
  have h0 : ¬ (i : Int) < 0 := by omega
  have h1 : ¬ (i : Int) > (s.size : Int) := by omega
  simp only [if_neg h0, decide_eq_false h1]
  refine Ev.step (fun k => by rw [pointillistref04_Scan.j0, if_neg (by decide)]) ?_
  cases sg with
  | false =>
    simp only [Bool.false_eq_true, if_false, false_and]
    refine Ev.step (fun k => by rw [pointillistref04_Scan.j1, if_neg (by decide)]) ?_
    exact refscan_u s hs i hi
  | true =>
    simp only [if_true, true_and]
    rw [refsign_eq]
    simp only [Option.bind_some]
    cases hg : isS (lk (bytesOf s) i) with
    | false =>
      simp only [Bool.false_eq_true, if_false]
      refine Ev.step (fun k => by rw [pointillistref04_Scan.j1, if_neg (by decide)]) ?_
      exact refscan_u s hs i hi
    | true =>
      have hlt := isS_lt hg
      rw [bytesOf_length] at hlt
      simp only [if_true]
      refine Ev.step (fun k => by rw [pointillistref04_Scan.j1, if_pos rfl, w1 i (by omega)]) ?_
      exact refscan_u s hs (i + 1) (by omega)
end Go.Proofs.YtfpnglgipchjhaaDoor.PR
namespace Go.Proofs.YtfpnglgipchjhaaDoor.PR
open Go.RowKit Go.Proofs.YtfpnglgipchjhaaDoorW.PrintWords Go.Proofs.YtfpnglgipchjhaaDoorW.PrintLast Go.Proofs.YtfpnglgipchjhaaDoorW.PrintMore Go.Proofs.YtfpnglgipchjhaaDoor.DecV
def kd (c : Int) : Int := if isD c = true then 0 else if c = 46 then 1 else if isE c = true then 2 else if isS c = true then 3 else -1
theorem kind_eq (k : Nat) (c : Int) : dec_kind.f (k + 2) c = some (kd c) := by
  unfold dec_kind.f kd isD isE isS
  simp only [dec_kind.j0, dec_kind.j1]
  by_cases a1 : c ≥ 48 <;> by_cases a2 : c ≤ 57 <;> by_cases a3 : c = 46 <;> by_cases a4 : c = 101 <;> by_cases a5 : c = 69 <;> by_cases a6 : c = 43 <;> by_cases a7 : c = 45 <;> first | omega | (subst c; rfl) | (simp [a1, a2, a3, a4, a5, a6, a7]; done)
theorem kind_ev (c : Int) : Ev (fun k => dec_kind.f k c) (kd c) := ⟨2, fun k hk => by obtain ⟨j, rfl⟩ := Nat.exists_eq_add_of_le hk; rw [Nat.add_comm]; exact kind_eq j c⟩
theorem kd_D {c : Int} (h : isD c = true) : kd c = 0 := if_pos h
theorem kd_P {c : Int} (h : c = 46) : kd c = 1 := by subst h; rfl
theorem kd_E {c : Int} (h : isE c = true) : kd c = 2 := by
  unfold isE at h
  rcases of_decide_eq_true h with rfl | rfl <;> rfl
theorem kd_S {c : Int} (h : isS c = true) : kd c = 3 := by
  unfold isS at h
  rcases of_decide_eq_true h with rfl | rfl <;> rfl
theorem kd_cases (c : Int) : (isD c = true ∧ kd c = 0) ∨ (isD c = false ∧ ((c = 46 ∧ isE c = false ∧ isS c = false ∧ kd c = 1) ∨ (c ≠ 46 ∧ isE c = true ∧ isS c = false ∧ kd c = 2) ∨ (c ≠ 46 ∧ isE c = false ∧ isS c = true ∧ kd c = 3) ∨ (c ≠ 46 ∧ isE c = false ∧ isS c = false ∧ kd c = -1))) := by
  cases hd : isD c with
  | true => exact .inl ⟨rfl, kd_D hd⟩
  | false =>
    refine .inr ⟨rfl, ?_⟩
    by_cases hp : c = 46
    · subst hp; exact .inl ⟨rfl, rfl, rfl, rfl⟩
    · cases he : isE c with
      | true =>
        refine .inr (.inl ⟨hp, rfl, ?_, kd_E he⟩)
        unfold isE at he
        rcases of_decide_eq_true he with rfl | rfl <;> rfl
      | false =>
        cases hs : isS c with
        | true => exact .inr (.inr (.inl ⟨hp, rfl, rfl, kd_S hs⟩))
        | false => exact .inr (.inr (.inr ⟨hp, rfl, rfl, by unfold kd; rw [hd, he, hs, if_neg (by decide), if_neg hp, if_neg (by decide), if_neg (by decide)]⟩))
section
variable {s : ByteArray} {sg : Bool}
theorem sc_go (_hs : s.size < 1152921504606846976) {st st' : Int} {i : Nat} {r : Int × Bool} (h : stepT sg st (kd (lk (bytesOf s) i)) = st') (hne : st' ≠ 0) (hev : Ev (fun k => dec_Scan.l k s sg st' ((i + 1 : Nat) : Int)) r) : Ev (fun k => dec_Scan.l k s sg st (i : Int)) r := by
  have hlt : i < s.size := by
    refine Nat.lt_of_not_le fun h2 => hne ?_
    rw [← h, lk_end _ _ (by rw [bytesOf_length]; exact h2)]
    unfold stepT
    exact if_pos (by decide)
  refine Ev.step (fun k => by rw [dec_Scan.l, if_pos (by omega), bt_lk]) (Ev.bind (kind_ev _) ?_)
  rw [h]
  have e : ((i : Int) + 1) = ((i + 1 : Nat) : Int) := by omega
  simp only [if_neg hne, e]
  exact hev
theorem sc_stop {st : Int} {i : Nat} (_hi : i ≤ s.size) (h : stepT sg st (kd (lk (bytesOf s) i)) = 0) : Ev (fun k => dec_Scan.l k s sg st (i : Int)) ((i : Int), endsT st == 1) := by
  by_cases hlt : (i : Int) < (s.size : Int)
  · refine Ev.step (fun k => by rw [dec_Scan.l, if_pos hlt, bt_lk]) (Ev.bind (kind_ev _) ?_)
    simp only [if_pos h]
    exact Ev.now _
  · exact Ev.step (fun k => by rw [dec_Scan.l, if_neg hlt]) (Ev.now _)
theorem st_digits (sg : Bool) : stepT sg 8 0 = 8 ∧ stepT sg 8 1 = 0 ∧ stepT sg 8 2 = 0 ∧ stepT sg 8 3 = 0 ∧ stepT sg 8 (-1) = 0 := by cases sg <;> decide
theorem st_power (sg : Bool) : stepT sg 7 0 = 8 ∧ stepT sg 7 1 = 0 ∧ stepT sg 7 2 = 0 ∧ stepT sg 7 3 = 0 ∧ stepT sg 7 (-1) = 0 := by cases sg <;> decide
theorem st_letter (sg : Bool) : stepT sg 6 0 = 8 ∧ stepT sg 6 1 = 0 ∧ stepT sg 6 2 = 0 ∧ stepT sg 6 3 = 7 ∧ stepT sg 6 (-1) = 0 := by cases sg <;> decide
theorem st_part (sg : Bool) : stepT sg 5 0 = 5 ∧ stepT sg 5 1 = 0 ∧ stepT sg 5 2 = 6 ∧ stepT sg 5 3 = 0 ∧ stepT sg 5 (-1) = 0 := by cases sg <;> decide
theorem st_point (sg : Bool) : stepT sg 4 0 = 5 ∧ stepT sg 4 1 = 0 ∧ stepT sg 4 2 = 6 ∧ stepT sg 4 3 = 0 ∧ stepT sg 4 (-1) = 0 := by cases sg <;> decide
theorem st_bare (sg : Bool) : stepT sg 3 0 = 5 ∧ stepT sg 3 1 = 0 ∧ stepT sg 3 2 = 0 ∧ stepT sg 3 3 = 0 ∧ stepT sg 3 (-1) = 0 := by cases sg <;> decide
theorem st_whole (sg : Bool) : stepT sg 2 0 = 2 ∧ stepT sg 2 1 = 4 ∧ stepT sg 2 2 = 6 ∧ stepT sg 2 3 = 0 ∧ stepT sg 2 (-1) = 0 := by cases sg <;> decide
theorem st_sign (sg : Bool) : stepT sg 1 0 = 2 ∧ stepT sg 1 1 = 3 ∧ stepT sg 1 2 = 0 ∧ stepT sg 1 3 = 0 ∧ stepT sg 1 (-1) = 0 := by cases sg <;> decide
theorem st_begin (sg : Bool) : stepT sg 0 0 = 2 ∧ stepT sg 0 1 = 3 ∧ stepT sg 0 2 = 0 ∧ stepT sg 0 3 = (if sg = true then 1 else 0) ∧ stepT sg 0 (-1) = 0 := by cases sg <;> decide
theorem sc_digits (hs : s.size < 1152921504606846976) (i : Nat) : i ≤ s.size → Ev (fun k => dec_Scan.l k s sg 8 (i : Int)) (((rn (bytesOf s) i : Nat) : Int), true) := by
  obtain ⟨t0, t1, t2, t3, t4⟩ := st_digits sg
  refine rn_ind (L := bytesOf s) (fun i => i ≤ s.size → Ev (fun k => dec_Scan.l k s sg 8 (i : Int)) (((rn (bytesOf s) i : Nat) : Int), true)) (fun i h ih hi => ?_) (fun i h hi => ?_) i
  · have hlt := isD_lt h
    rw [bytesOf_length] at hlt
    rw [rn_step h]
    exact sc_go hs (by rw [kd_D h]; exact t0) (by decide) (ih (by omega))
  · rw [rn_stop h]
    refine sc_stop hi ?_
    rcases kd_cases (lk (bytesOf s) i) with ⟨h1, _⟩ | ⟨_, ⟨_, _, _, e⟩ | ⟨_, _, _, e⟩ | ⟨_, _, _, e⟩ | ⟨_, _, _, e⟩⟩
    · rw [h] at h1; cases h1
    · rw [e]; exact t1
    · rw [e]; exact t2
    · rw [e]; exact t3
    · rw [e]; exact t4
theorem sc_exp (hs : s.size < 1152921504606846976) (b : Nat) (hb : b + 1 ≤ s.size) : Ev (fun k => dec_Scan.l k s sg 6 ((b + 1 : Nat) : Int)) (((rn (bytesOf s) (expJ (bytesOf s) b) : Nat) : Int), decide (expJ (bytesOf s) b < rn (bytesOf s) (expJ (bytesOf s) b))) := by
  obtain ⟨t0, t1, t2, t3, t4⟩ := st_letter sg
  unfold expJ
  rcases kd_cases (lk (bytesOf s) (b + 1)) with ⟨h1, e⟩ | ⟨h1, h2⟩
  · have hns : isS (lk (bytesOf s) (b + 1)) = false := by
      unfold isD at h1
      have := of_decide_eq_true h1
      unfold isS
      exact decide_eq_false (by omega)
    have hlt := isD_lt h1
    rw [bytesOf_length] at hlt
    rw [hns, if_neg (by decide), rn_step h1]
    have h3 := rn_ge (bytesOf s) (b + 1 + 1)
    rw [decide_eq_true (by omega)]
    exact sc_go hs (by rw [e]; exact t0) (by decide) (sc_digits hs (b + 1 + 1) (by omega))
  · have stop : isS (lk (bytesOf s) (b + 1)) = false → stepT sg 6 (kd (lk (bytesOf s) (b + 1))) = 0 → Ev (fun k => dec_Scan.l k s sg 6 ((b + 1 : Nat) : Int)) (((rn (bytesOf s) (if isS (lk (bytesOf s) (b + 1)) = true then b + 2 else b + 1) : Nat) : Int), decide ((if isS (lk (bytesOf s) (b + 1)) = true then b + 2 else b + 1) < rn (bytesOf s) (if isS (lk (bytesOf s) (b + 1)) = true then b + 2 else b + 1))) := by
      intro hns hz
      rw [hns, if_neg (by decide), rn_stop h1, decide_eq_false (by omega)]
      exact sc_stop hb hz
    rcases h2 with ⟨_, _, g, e⟩ | ⟨_, _, g, e⟩ | ⟨_, _, g, e⟩ | ⟨_, _, g, e⟩
    · exact stop g (by rw [e]; exact t1)
    · exact stop g (by rw [e]; exact t2)
    · rw [g, if_pos rfl]
      have hlt := isS_lt g
      rw [bytesOf_length] at hlt
      refine sc_go hs (st' := 7) (by rw [e]; exact t3) (by decide) ?_
      obtain ⟨u0, u1, u2, u3, u4⟩ := st_power sg
      rcases kd_cases (lk (bytesOf s) (b + 1 + 1)) with ⟨h5, e5⟩ | ⟨h5, h6⟩
      · have hlt2 := isD_lt h5
        rw [bytesOf_length] at hlt2
        have h3 := rn_ge (bytesOf s) (b + 1 + 1 + 1)
        rw [show b + 2 = b + 1 + 1 from rfl, rn_step h5, decide_eq_true (by omega)]
        exact sc_go hs (by rw [e5]; exact u0) (by decide) (sc_digits hs (b + 1 + 1 + 1) (by omega))
      · rw [show b + 2 = b + 1 + 1 from rfl, rn_stop h5, decide_eq_false (by omega)]
        refine sc_stop (by omega) ?_
        rcases h6 with ⟨_, _, _, e⟩ | ⟨_, _, _, e⟩ | ⟨_, _, _, e⟩ | ⟨_, _, _, e⟩
        · rw [e]; exact u1
        · rw [e]; exact u2
        · rw [e]; exact u3
        · rw [e]; exact u4
    · exact stop g (by rw [e]; exact t4)
def tailU (L : List Int) (b : Nat) : Nat × Bool := if isE (lk L b) = true then (rn L (expJ L b), decide (expJ L b < rn L (expJ L b))) else (b, true)
theorem sc_tail (hs : s.size < 1152921504606846976) (st : Int) (ht : endsT st = 1) (h2 : stepT sg st 2 = 6) (h3 : stepT sg st 3 = 0) (h4 : stepT sg st (-1) = 0) (b : Nat) (hb : b ≤ s.size) (hd : isD (lk (bytesOf s) b) = false) (hp : lk (bytesOf s) b = 46 → stepT sg st 1 = 0) :
    Ev (fun k => dec_Scan.l k s sg st (b : Int)) (((tailU (bytesOf s) b).1 : Int), (tailU (bytesOf s) b).2) := by
  unfold tailU
  have he : (endsT st == 1) = true := by rw [ht]; rfl
  rcases kd_cases (lk (bytesOf s) b) with ⟨h1, _⟩ | ⟨_, ⟨p, g, _, e⟩ | ⟨_, g, _, e⟩ | ⟨_, g, _, e⟩ | ⟨_, g, _, e⟩⟩
  · rw [hd] at h1; cases h1
  · rw [g, if_neg (by decide), ← he]
    exact sc_stop hb (by rw [e]; exact hp p)
  · rw [g, if_pos rfl]
    have hlt := isE_lt g
    rw [bytesOf_length] at hlt
    exact sc_go hs (by rw [e]; exact h2) (by decide) (sc_exp hs b (by omega))
  · rw [g, if_neg (by decide), ← he]
    exact sc_stop hb (by rw [e]; exact h3)
  · rw [g, if_neg (by decide), ← he]
    exact sc_stop hb (by rw [e]; exact h4)
theorem sc_part (hs : s.size < 1152921504606846976) (i : Nat) : i ≤ s.size → Ev (fun k => dec_Scan.l k s sg 5 (i : Int)) (((tailU (bytesOf s) (rn (bytesOf s) i)).1 : Int), (tailU (bytesOf s) (rn (bytesOf s) i)).2) := by
  obtain ⟨t0, t1, t2, t3, t4⟩ := st_part sg
  refine rn_ind (L := bytesOf s) (fun i => i ≤ s.size → Ev (fun k => dec_Scan.l k s sg 5 (i : Int)) (((tailU (bytesOf s) (rn (bytesOf s) i)).1 : Int), (tailU (bytesOf s) (rn (bytesOf s) i)).2)) (fun i h ih hi => ?_) (fun i h hi => ?_) i
  · have hlt := isD_lt h
    rw [bytesOf_length] at hlt
    rw [rn_step h]
    exact sc_go hs (by rw [kd_D h]; exact t0) (by decide) (ih (by omega))
  · rw [rn_stop h]
    exact sc_tail hs 5 (by decide) t2 t3 t4 i hi h (fun _ => t1)
theorem sc_point (hs : s.size < 1152921504606846976) (a : Nat) (ha : a + 1 ≤ s.size) : Ev (fun k => dec_Scan.l k s sg 4 ((a + 1 : Nat) : Int)) (((tailU (bytesOf s) (rn (bytesOf s) (a + 1))).1 : Int), (tailU (bytesOf s) (rn (bytesOf s) (a + 1))).2) := by
  obtain ⟨t0, t1, t2, t3, t4⟩ := st_point sg
  cases hd : isD (lk (bytesOf s) (a + 1)) with
  | true =>
    have hlt := isD_lt hd
    rw [bytesOf_length] at hlt
    rw [rn_step hd]
    exact sc_go hs (by rw [kd_D hd]; exact t0) (by decide) (sc_part hs (a + 1 + 1) (by omega))
  | false =>
    rw [rn_stop hd]
    exact sc_tail hs 4 (by decide) t2 t3 t4 (a + 1) ha hd (fun _ => t1)
theorem sc_bare (hs : s.size < 1152921504606846976) (a : Nat) (ha : a + 1 ≤ s.size) : Ev (fun k => dec_Scan.l k s sg 3 ((a + 1 : Nat) : Int)) (if a + 1 < rn (bytesOf s) (a + 1) then (((tailU (bytesOf s) (rn (bytesOf s) (a + 1))).1 : Int), (tailU (bytesOf s) (rn (bytesOf s) (a + 1))).2) else (((a + 1 : Nat) : Int), false)) := by
  obtain ⟨t0, t1, t2, t3, t4⟩ := st_bare sg
  cases hd : isD (lk (bytesOf s) (a + 1)) with
  | true =>
    have hlt := isD_lt hd
    rw [bytesOf_length] at hlt
    have h3 := rn_ge (bytesOf s) (a + 1 + 1)
    rw [rn_step hd, if_pos (by omega)]
    exact sc_go hs (by rw [kd_D hd]; exact t0) (by decide) (sc_part hs (a + 1 + 1) (by omega))
  | false =>
    rw [rn_stop hd, if_neg (by omega)]
    have he : (endsT 3 == 1) = false := by decide
    rw [← he]
    refine sc_stop ha ?_
    rcases kd_cases (lk (bytesOf s) (a + 1)) with ⟨h1, _⟩ | ⟨_, ⟨_, _, _, e⟩ | ⟨_, _, _, e⟩ | ⟨_, _, _, e⟩ | ⟨_, _, _, e⟩⟩
    · rw [hd] at h1; cases h1
    · rw [e]; exact t1
    · rw [e]; exact t2
    · rw [e]; exact t3
    · rw [e]; exact t4
def afterU (L : List Int) (a : Nat) : Nat × Bool := if lk L a = 46 then tailU L (rn L (a + 1)) else tailU L a
theorem sc_whole (hs : s.size < 1152921504606846976) (i : Nat) : i ≤ s.size → Ev (fun k => dec_Scan.l k s sg 2 (i : Int)) (((afterU (bytesOf s) (rn (bytesOf s) i)).1 : Int), (afterU (bytesOf s) (rn (bytesOf s) i)).2) := by
  obtain ⟨t0, t1, t2, t3, t4⟩ := st_whole sg
  refine rn_ind (L := bytesOf s) (fun i => i ≤ s.size → Ev (fun k => dec_Scan.l k s sg 2 (i : Int)) (((afterU (bytesOf s) (rn (bytesOf s) i)).1 : Int), (afterU (bytesOf s) (rn (bytesOf s) i)).2)) (fun i h ih hi => ?_) (fun i h hi => ?_) i
  · have hlt := isD_lt h
    rw [bytesOf_length] at hlt
    rw [rn_step h]
    exact sc_go hs (by rw [kd_D h]; exact t0) (by decide) (ih (by omega))
  · rw [rn_stop h]
    unfold afterU
    by_cases hp : lk (bytesOf s) i = 46
    · have hlt : i < (bytesOf s).length := lk_lt (by rw [hp]; decide)
      rw [bytesOf_length] at hlt
      rw [if_pos hp]
      exact sc_go hs (by rw [kd_P hp]; exact t1) (by decide) (sc_point hs i (by omega))
    · rw [if_neg hp]
      exact sc_tail hs 2 (by decide) t2 t3 t4 i hi h (fun h => absurd h hp)
theorem sc_unsigned (hs : s.size < 1152921504606846976) (st : Int) (t0 : stepT sg st 0 = 2) (t1 : stepT sg st 1 = 3) (t2 : stepT sg st 2 = 0) (t4 : stepT sg st (-1) = 0) (hend : endsT st = 0) (i : Nat) (hi : i ≤ s.size) (t3 : isS (lk (bytesOf s) i) = true → stepT sg st 3 = 0) :
    Ev (fun k => dec_Scan.l k s sg st (i : Int)) (((scanU (bytesOf s) i).1 : Int), (scanU (bytesOf s) i).2) := by
  have he : (endsT st == 1) = false := by rw [hend]; rfl
  have tl : ∀ b, (if isE (lk (bytesOf s) b) = true then (rn (bytesOf s) (expJ (bytesOf s) b), decide (expJ (bytesOf s) b < rn (bytesOf s) (expJ (bytesOf s) b))) else (b, true)) = tailU (bytesOf s) b := fun _ => rfl
  unfold scanU
  rw [tl]
  cases hd : isD (lk (bytesOf s) i) with
  | true =>
    have hlt := isD_lt hd
    rw [bytesOf_length] at hlt
    have h3 := rn_ge (bytesOf s) (i + 1)
    have hsome : someB (bytesOf s) i = true := by unfold someB; rw [rn_step hd, decide_eq_true (by omega)]; rfl
    rw [hsome, if_pos rfl]
    have e : tailU (bytesOf s) (scanB (bytesOf s) i) = afterU (bytesOf s) (rn (bytesOf s) (i + 1)) := by
      unfold afterU scanB
      rw [rn_step hd]
      split <;> rfl
    rw [e]
    exact sc_go hs (by rw [kd_D hd]; exact t0) (by decide) (sc_whole hs (i + 1) (by omega))
  | false =>
    have hr := rn_stop hd
    by_cases hp : lk (bytesOf s) i = 46
    · have hlt : i < (bytesOf s).length := lk_lt (by rw [hp]; decide)
      rw [bytesOf_length] at hlt
      have hsome : someB (bytesOf s) i = decide (i + 1 < rn (bytesOf s) (i + 1)) := by unfold someB; rw [hr, decide_eq_false (by omega), decide_eq_true hp]; rfl
      have hB : scanB (bytesOf s) i = rn (bytesOf s) (i + 1) := by unfold scanB; rw [hr, if_pos hp]
      rw [hsome, hB]
      have h := sc_go hs (sg := sg) (st := st) (by rw [kd_P hp]; exact t1) (by decide) (sc_bare hs i (by omega))
      by_cases h5 : i + 1 < rn (bytesOf s) (i + 1)
      · rw [if_pos h5] at h
        rw [decide_eq_true h5, if_pos rfl]
        exact h
      · rw [if_neg h5] at h
        have h6 := rn_ge (bytesOf s) (i + 1)
        rw [decide_eq_false h5, if_neg (by decide), show rn (bytesOf s) (i + 1) = i + 1 by omega]
        exact h
    · have hsome : someB (bytesOf s) i = false := by unfold someB; rw [hr, decide_eq_false (by omega), decide_eq_false hp]; rfl
      have hB : scanB (bytesOf s) i = i := by unfold scanB; rw [hr, if_neg hp]
      rw [hsome, hB, if_neg (by decide), ← he]
      refine sc_stop hi ?_
      rcases kd_cases (lk (bytesOf s) i) with ⟨h1, _⟩ | ⟨_, ⟨q, _, _, e⟩ | ⟨_, _, _, e⟩ | ⟨_, _, g, e⟩ | ⟨_, _, _, e⟩⟩
      · rw [hd] at h1; cases h1
      · exact absurd q hp
      · rw [e]; exact t2
      · rw [e]; exact t3 g
      · rw [e]; exact t4
end
theorem decscan_ev (s : ByteArray) (hs : s.size < 1152921504606846976) (i : Nat) (hi : i ≤ s.size) (sg : Bool) :
    Ev (fun k => dec_Scan.f k s (i : Int) sg) (((scanS (bytesOf s) i sg).1 : Int), (scanS (bytesOf s) i sg).2) := by
  have h0 : ¬ (i : Int) < 0 := by omega
  have h1 : ¬ (i : Int) > (s.size : Int) := by omega
  have h2 : s.size < 4611686018427387904 := by omega
  unfold dec_Scan.f scanS
  simp only [if_neg h0, if_neg h1, if_pos h2]
  obtain ⟨t0, t1, t2, t3, t4⟩ := st_begin sg
  by_cases h : sg = true ∧ isS (lk (bytesOf s) i) = true
  · rw [if_pos h]
    obtain ⟨rfl, hg⟩ := h
    have hlt := isS_lt hg
    rw [bytesOf_length] at hlt
    obtain ⟨u0, u1, u2, u3, u4⟩ := st_sign true
    exact sc_go hs (by rw [kd_S hg]; exact t3) (by decide) (sc_unsigned hs 1 u0 u1 u2 u4 (by decide) (i + 1) (by omega) (fun _ => u3))
  · rw [if_neg h]
    refine sc_unsigned hs 0 t0 t1 t2 t4 (by decide) i hi (fun hg => ?_)
    rw [t3, if_neg (fun hsg => h ⟨hsg, hg⟩)]
end Go.Proofs.YtfpnglgipchjhaaDoor.PR
namespace Go.Proofs.YtfpnglgipchjhaaDoor.DecV
def runD (L : List Int) (i : Nat) : List Int := ((L.drop i).takeWhile isD).map fun c => c - 48
theorem runD_len (L : List Int) (i : Nat) : rn L i = i + (runD L i).length := by unfold rn runD; rw [List.length_map]
theorem runD_step {L : List Int} {i : Nat} (h : isD (lk L i) = true) : runD L i = (lk L i - 48) :: runD L (i + 1) := by
  unfold runD
  rw [drop_lk (isD_lt h), List.takeWhile_cons_of_pos h, List.map_cons]
theorem runD_stop {L : List Int} {i : Nat} (h : isD (lk L i) = false) : runD L i = [] := by
  unfold runD
  by_cases hi : i < L.length
  · rw [drop_lk hi, List.takeWhile_cons_of_neg (by simp [h])]
    rfl
  · rw [List.drop_eq_nil_of_le (by omega)]
    rfl
theorem isD_val {c : Int} (h : isD c = true) : 0 ≤ c - 48 ∧ c - 48 ≤ 9 := by
  unfold isD at h
  have := of_decide_eq_true h
  omega
theorem runD_ok (L : List Int) (i : Nat) : Dg (runD L i) := by
  intro a ha
  unfold runD at ha
  rw [List.mem_map] at ha
  obtain ⟨c, hc, rfl⟩ := ha
  have := List.all_takeWhile (p := isD) (l := L.drop i)
  rw [List.all_eq_true] at this
  exact isD_val (this c hc)
theorem dv_cons (d : Int) (l : List Int) : dv (d :: l) = d.toNat * 10 ^ l.length + dv l := by
  have h := foldl_dv l (10 * 0 + d.toNat)
  show List.foldl _ _ l = _
  rw [h, show 10 * 0 + d.toNat = d.toNat by omega]
def i0 (L : List Int) : Nat := if isS (lk L 0) = true then 1 else 0
def negS (L : List Int) : Bool := decide (lk L 0 = 45)
def digS (L : List Int) : List Int := runD L (i0 L) ++ (if lk L (rn L (i0 L)) = 46 then runD L (rn L (i0 L) + 1) else [])
def behS (L : List Int) : Nat := if lk L (rn L (i0 L)) = 46 then (runD L (rn L (i0 L) + 1)).length else 0
def endM (L : List Int) : Nat := scanB L (i0 L)
def epwS (M : Nat) (L : List Int) : Int := if endM L < L.length then (if lk L (endM L + 1) = 45 then -((min (dv (runD L (expJ L (endM L)))) M : Nat) : Int) else ((min (dv (runD L (expJ L (endM L)))) M : Nat) : Int)) else 0
def isNum (L : List Int) : Prop := scanS L 0 true = (L.length, true)
instance (L : List Int) : Decidable (isNum L) := inferInstanceAs (Decidable (_ = _))
theorem scanS_0 (L : List Int) : scanS L 0 true = scanU L (i0 L) := by
  unfold scanS i0
  cases h : isS (lk L 0) with
  | true => simp
  | false => simp
theorem isNum_parts {L : List Int} (h : isNum L) : someB L (i0 L) = true ∧ ((endM L = L.length) ∨ (isE (lk L (endM L)) = true ∧ rn L (expJ L (endM L)) = L.length ∧ expJ L (endM L) < L.length)) := by
  unfold isNum at h
  rw [scanS_0] at h
  unfold scanU at h
  by_cases h1 : someB L (i0 L) = true
  · refine ⟨h1, ?_⟩
    rw [if_pos h1] at h
    by_cases h2 : isE (lk L (scanB L (i0 L))) = true
    · rw [if_pos h2] at h
      obtain ⟨h3, h4⟩ := Prod.mk.inj h
      have h5 := of_decide_eq_true h4
      rw [h3] at h5
      exact .inr ⟨h2, h3, h5⟩
    · rw [if_neg h2] at h
      exact .inl (Prod.mk.inj h).1
  · rw [if_neg h1] at h
    cases (Prod.mk.inj h).2
theorem i0_le {L : List Int} (_h : 0 < L.length) : i0 L ≤ L.length := by
  unfold i0
  split <;> omega
def parseS (L : List Int) : Int × Int := if isNum L then specR (negS L) (dv (digS L)) (epwS 1000 L - behS L) else (0, 3)
theorem digS_ok (L : List Int) : Dg (digS L) := by
  intro a ha
  unfold digS at ha
  rw [List.mem_append] at ha
  rcases ha with ha | ha
  · exact runD_ok _ _ a ha
  · split at ha
    · exact runD_ok _ _ a ha
    · cases ha
theorem digS_len (L : List Int) : (digS L).length ≤ L.length := by
  unfold digS
  have h1 := runD_len L (i0 L)
  rw [List.length_append]
  by_cases h0 : 0 < L.length
  · have h2 := rn_le (i0_le h0)
    split
    · rename_i h3
      have h4 : rn L (i0 L) < L.length := lk_lt (by rw [h3]; decide)
      have h5 := runD_len L (rn L (i0 L) + 1)
      have h6 := rn_le (L := L) (i := rn L (i0 L) + 1) (by omega)
      omega
    · simp only [List.length_nil]
      omega
  · have hL : L = [] := List.length_eq_zero_iff.mp (by omega)
    subst hL
    decide
theorem spec_far (g : Bool) (D n : Nat) (hD : D < 10 ^ n) (hn : n ≤ 900) (p q : Int) (h : (n + 10 < p ∧ n + 10 < q) ∨ (p < -((n : Int) + 10) ∧ q < -((n : Int) + 10))) : specR g D p = specR g D q := by
  by_cases hz : D = 0
  · subst hz
    unfold specR
    rw [specN_zero, specN_zero]
  unfold specR
  rcases h with ⟨h1, h2⟩ | ⟨h1, h2⟩
  · have great : ∀ p : Int, (n : Int) + 10 < p → ¬ inb (specN g D p) := by
      intro p hp
      rw [specN_eq g D p p.toNat 0 (by omega)]
      have e : (10 : Nat) ^ p.toNat = 100000 * 10 ^ (p.toNat - 5) := by
        have : p.toNat = 5 + (p.toNat - 5) := by omega
        rw [this, Nat.pow_add, show 5 + (p.toNat - 5) - 5 = p.toNat - 5 by omega]
      have one := ten_pos (p.toNat - 5)
      have big : 6553600000 ≤ D * 65536 * 10 ^ p.toNat := by
        rw [e]
        have h3 : 1 * (65536 * (100000 * 1)) ≤ D * (65536 * (100000 * 10 ^ (p.toNat - 5))) := Nat.mul_le_mul (by omega) (Nat.mul_le_mul_left _ (Nat.mul_le_mul_left _ one))
        rw [Nat.mul_assoc]
        omega
      generalize D * 65536 * 10 ^ p.toNat = X at *
      unfold inb nearQ sg
      rw [Nat.pow_zero]
      intro hc
      cases g with
      | false => simp only [Bool.false_eq_true, if_false] at hc; omega
      | true => simp only [if_true] at hc; omega
    rw [if_neg (great p h1), if_neg (great q h2)]
  · have small : ∀ p : Int, p < -((n : Int) + 10) → specN g D p = 0 := by
      intro p hp
      rw [specN_eq g D p 0 (-p).toNat (by omega), Nat.pow_zero, Nat.mul_one]
      have e : (10 : Nat) ^ (-p).toNat = 10 ^ n * (1000000 * 10 ^ ((-p).toNat - n - 6)) := by
        have : (-p).toNat = n + (6 + ((-p).toNat - n - 6)) := by omega
        have e6 : (10 : Nat) ^ 6 = 1000000 := by decide
        rw [← e6, ← Nat.pow_add, ← Nat.pow_add, ← this]
      have one := ten_pos ((-p).toNat - n - 6)
      have big : D * 131072 < 10 ^ (-p).toNat := by
        rw [e]
        have h3 : 10 ^ n * (1000000 * 1) ≤ 10 ^ n * (1000000 * 10 ^ ((-p).toNat - n - 6)) := Nat.mul_le_mul_left _ (Nat.mul_le_mul_left _ one)
        have h4 := ten_pos n
        omega
      generalize (10 ^ (-p).toNat : Nat) = T at *
      unfold nearQ sg
      cases g with
      | false => simp only [Bool.false_eq_true, if_false]; exact Int.ediv_eq_zero_of_lt (by omega) (by omega)
      | true => simp only [if_true]; exact Int.ediv_eq_zero_of_lt (by omega) (by omega)
    rw [small p h1, small q h2]
theorem epw_far (g : Bool) (L : List Int) (hL : L.length ≤ 300) (M : Nat) (hM : 1000 ≤ M) : specR g (dv (digS L)) (epwS M L - behS L) = specR g (dv (digS L)) (epwS 1000 L - behS L) := by
  have hb : behS L ≤ 300 := by
    have h1 := digS_len L
    unfold digS at h1
    unfold behS
    rw [List.length_append] at h1
    split
    · rename_i h2
      rw [if_pos h2] at h1
      omega
    · omega
  unfold epwS
  by_cases h1 : endM L < L.length
  · rw [if_pos h1, if_pos h1]
    by_cases h3 : dv (runD L (expJ L (endM L))) ≤ 1000
    · rw [Nat.min_eq_left (by omega), Nat.min_eq_left h3]
    · have hD := Nat.lt_of_lt_of_le (dv_lt (digS_ok L)) (Nat.pow_le_pow_right (n := 10) (by decide) (Nat.le_trans (digS_len L) hL))
      refine spec_far g _ 300 hD (by decide) _ _ ?_
      rw [Nat.min_eq_right (a := dv (runD L (expJ L (endM L)))) (b := 1000) (by omega)]
      have h4 : 1000 ≤ min (dv (runD L (expJ L (endM L)))) M := by omega
      split
      · right; omega
      · left; omega
  · rw [if_neg h1, if_neg h1]
end Go.Proofs.YtfpnglgipchjhaaDoor.DecV
namespace Go.Proofs.YtfpnglgipchjhaaDoor.PR
open Go.RowKit Go.Proofs.YtfpnglgipchjhaaDoorW.PrintWords Go.Proofs.YtfpnglgipchjhaaDoorW.PrintLast Go.Proofs.YtfpnglgipchjhaaDoorW.PrintMore Go.Proofs.YtfpnglgipchjhaaDoor.DecV
structure Inv (g : List Int) (p : Int) (D b : Nat) : Prop where
  ok : Dg g
  hd : ∀ a, g.head? = some a → 1 ≤ a
  val : dv g = D
  pt : p = (g.length : Int) - b
theorem Inv.push {g : List Int} {p : Int} {D b : Nat} (h : Inv g p D b) {d : Int} (d0 : 0 ≤ d) (d9 : d ≤ 9) (hg : g ≠ [] ∨ d ≠ 0) : Dg (g ++ [d]) ∧ (∀ a, (g ++ [d]).head? = some a → 1 ≤ a) ∧ dv (g ++ [d]) = 10 * D + d.toNat := by
  refine ⟨?_, ?_, ?_⟩
  · intro a ha
    rw [List.mem_append, List.mem_singleton] at ha
    rcases ha with ha | rfl
    · exact h.ok a ha
    · exact ⟨d0, d9⟩
  · intro a ha
    cases g with
    | nil =>
      have : a = d := by simpa using ha.symm
      rcases hg with hg | hg
      · exact absurd rfl hg
      · omega
    | cons x g => exact h.hd a (by simpa using ha)
  · rw [dv_snoc, h.val]
theorem read_digits (s : ByteArray) (hs : s.size < 1099511627776) (seen down : Bool) (pw : Int) (ng : Bool) (i : Nat) : i ≤ s.size → ∀ (g : List Int) (p : Int) (D b : Nat), Inv g p D b → g.length ≤ i → b ≤ i →
    ∃ g' p', Inv g' p' (D * 10 ^ (runD (bytesOf s) i).length + dv (runD (bytesOf s) i)) (b + if seen = true then (runD (bytesOf s) i).length else 0) ∧ g'.length ≤ rn (bytesOf s) i ∧
      ∀ r, Ev (fun k => dec_read.l0 k s seen down pw ((rn (bytesOf s) i : Nat) : Int) ng g' p') r → Ev (fun k => dec_read.l0 k s seen down pw (i : Int) ng g p) r := by
  refine rn_ind (L := bytesOf s) (fun i => i ≤ s.size → ∀ (g : List Int) (p : Int) (D b : Nat), Inv g p D b → g.length ≤ i → b ≤ i →
    ∃ g' p', Inv g' p' (D * 10 ^ (runD (bytesOf s) i).length + dv (runD (bytesOf s) i)) (b + if seen = true then (runD (bytesOf s) i).length else 0) ∧ g'.length ≤ rn (bytesOf s) i ∧
      ∀ r, Ev (fun k => dec_read.l0 k s seen down pw ((rn (bytesOf s) i : Nat) : Int) ng g' p') r → Ev (fun k => dec_read.l0 k s seen down pw (i : Int) ng g p) r) (fun i h ih hi g p D b hI hg hb => ?_) (fun i h hi g p D b hI hg hb => ?_) i
  · have hlt := isD_lt h
    rw [bytesOf_length] at hlt
    obtain ⟨v0, v9⟩ := isD_val h

    have step : ∃ g1 p1, Inv g1 p1 (10 * D + (lk (bytesOf s) i - 48).toNat) (b + if seen = true then 1 else 0) ∧ g1.length ≤ i + 1 ∧
        ∀ r, Ev (fun k => dec_read.l0 k s seen down pw ((i + 1 : Nat) : Int) ng g1 p1) r → Ev (fun k => dec_read.l0 k s seen down pw (i : Int) ng g p) r := by
      have hp := hI.pt
      have hm : (lk (bytesOf s) i - 48) % 256 = lk (bytesOf s) i - 48 := by omega
      have e1 : ∀ r, Ev (fun k => dec_read.j1 k s seen down pw (i : Int) (lk (bytesOf s) i) (decide (g ≠ [] ∨ lk (bytesOf s) i - 48 ≠ 0)) ng g p) r → Ev (fun k => dec_read.l0 k s seen down pw (i : Int) ng g p) r := by
        intro r hr
        refine Ev.step (fun k => by rw [dec_read.l0, if_pos (by omega), if_pos (by omega), bt_lk]) (Ev.bind (kind_ev _) ?_)
        rw [kd_D h]
        simp only [if_true]
        by_cases hc : lk (bytesOf s) i = 48
        · have e : decide (g ≠ [] ∨ lk (bytesOf s) i - 48 ≠ 0) = decide (0 < g.length) := by
            rw [Bool.eq_iff_iff, decide_eq_true_eq, decide_eq_true_eq, List.length_pos_iff]
            exact ⟨fun h => h.resolve_right (by omega), .inl⟩
          rw [e] at hr
          simp only [if_pos hc]
          exact hr
        · have e : decide (g ≠ [] ∨ lk (bytesOf s) i - 48 ≠ 0) = true := decide_eq_true (.inr (by omega))
          rw [e] at hr
          simp only [if_neg hc]
          exact hr
      by_cases hgd : g ≠ [] ∨ lk (bytesOf s) i - 48 ≠ 0
      · obtain ⟨q1, q2, q3⟩ := hI.push v0 v9 hgd
        rw [decide_eq_true hgd] at e1
        have hlen : (g ++ [lk (bytesOf s) i - 48]).length = g.length + 1 := by simp
        cases seen with
        | true =>
          refine ⟨g ++ [lk (bytesOf s) i - 48], p, ⟨q1, q2, q3, by rw [hlen, hp]; simp only [if_true]; omega⟩, by omega, fun r hr => e1 r ?_⟩
          refine Ev.step (fun k => by rw [dec_read.j1, if_pos rfl, if_pos (by omega), hm]) ?_
          refine Ev.step (fun k => by rw [dec_read.j2, if_pos rfl, if_neg (by omega), w1 i (by omega)]) hr
        | false =>
          refine ⟨g ++ [lk (bytesOf s) i - 48], p + 1, ⟨q1, q2, q3, by rw [hlen, hp]; simp only [Bool.false_eq_true, if_false]; omega⟩, by omega, fun r hr => e1 r ?_⟩
          refine Ev.step (fun k => by rw [dec_read.j1, if_pos rfl, if_pos (by omega), hm]) ?_
          refine Ev.step (fun k => by rw [dec_read.j2, if_neg (by decide), if_pos (by omega), w1 i (by omega), w64s (p + 1) (by omega) (by omega)]) hr
      · have hg0 : g = [] := Classical.byContradiction fun hn => hgd (.inl hn)
        have hd0 : lk (bytesOf s) i - 48 = 0 := Classical.byContradiction fun hn => hgd (.inr hn)
        subst hg0
        rw [decide_eq_false hgd] at e1
        have hD : D = 0 := hI.val.symm
        subst hD
        have hl : (([] : List Int).length : Int) = 0 := rfl
        have hI2 : ∀ b' : Nat, Inv [] (-(b' : Int)) (10 * 0 + (lk (bytesOf s) i - 48).toNat) b' := fun b' => ⟨(fun a ha => by cases ha), (fun a ha => by cases ha), (by rw [hd0]; rfl), (by rw [hl]; omega)⟩
        rw [hl] at hp
        cases seen with
        | true =>
          have e : p - 1 = -((b + 1 : Nat) : Int) := by omega
          refine ⟨[], p - 1, by rw [e]; exact hI2 (b + 1), by simp, fun r hr => e1 r ?_⟩
          refine Ev.step (fun k => by rw [dec_read.j1, if_neg (by decide)]) ?_
          refine Ev.step (fun k => by rw [dec_read.j2, if_pos rfl, if_pos hl, w1 i (by omega), w64s (p - 1) (by omega) (by omega)]) hr
        | false =>
          have e : p = -((b + 0 : Nat) : Int) := by omega
          refine ⟨[], p, by rw [e]; exact hI2 (b + 0), by simp, fun r hr => e1 r ?_⟩
          refine Ev.step (fun k => by rw [dec_read.j1, if_neg (by decide)]) ?_
          refine Ev.step (fun k => by rw [dec_read.j2, if_neg (by decide), if_neg (by rw [hl]; decide), w1 i (by omega)]) hr
    obtain ⟨g1, p1, hI1, hg1, hs1⟩ := step
    obtain ⟨g2, p2, hI2, hg2, hs2⟩ := ih (by omega) g1 p1 _ _ hI1 hg1 (by split <;> omega)
    refine ⟨g2, p2, ?_, by rw [rn_step h]; exact hg2, fun r hr => hs1 r (hs2 r (by rw [← rn_step h]; exact hr))⟩
    rw [runD_step h, dv_cons]
    have e1 : D * 10 ^ ((lk (bytesOf s) i - 48) :: runD (bytesOf s) (i + 1)).length + ((lk (bytesOf s) i - 48).toNat * 10 ^ (runD (bytesOf s) (i + 1)).length + dv (runD (bytesOf s) (i + 1))) = (10 * D + (lk (bytesOf s) i - 48).toNat) * 10 ^ (runD (bytesOf s) (i + 1)).length + dv (runD (bytesOf s) (i + 1)) := by
      rw [List.length_cons, Nat.pow_succ, Nat.add_mul, Nat.mul_comm 10 D, Nat.mul_assoc, Nat.mul_comm 10]
      omega
    have e2 : (b + if seen = true then ((lk (bytesOf s) i - 48) :: runD (bytesOf s) (i + 1)).length else 0) = (b + (if seen = true then 1 else 0)) + (if seen = true then (runD (bytesOf s) (i + 1)).length else 0) := by
      rw [List.length_cons]
      split <;> omega
    rw [e1, e2]
    exact hI2
  · refine ⟨g, p, ?_, by rw [rn_stop h]; exact hg, fun r hr => by rw [rn_stop h] at hr; exact hr⟩
    rw [runD_stop h]
    have e1 : D * 10 ^ ([] : List Int).length + dv [] = D := by rw [dv_nil]; simp
    have e2 : (b + if seen = true then ([] : List Int).length else 0) = b := by split <;> simp
    rw [e1, e2]
    exact hI
theorem mn_cap (x : Nat) (d : Int) (h0 : 0 ≤ d) (h9 : d ≤ 9) : mn (wrap64 (wrap64 (10 * ((min x 1099511627776 : Nat) : Int)) + d)) 1099511627776 = ((min (10 * x + d.toNat) 1099511627776 : Nat) : Int) := by
  have e : wrap64 (10 * ((min x 1099511627776 : Nat) : Int)) = 10 * ((min x 1099511627776 : Nat) : Int) := w64s _ (by omega) (by omega)
  rw [e, w64s _ (by omega) (by omega)]
  unfold mn
  split <;> omega
theorem read_power (s : ByteArray) (hs : s.size < 1099511627776) (seen down : Bool) (ng : Bool) (g : List Int) (p : Int) (i : Nat) : i ≤ s.size → rn (bytesOf s) i = s.size → ∀ (x : Nat) r,
    Ev (fun k => dec_read.l0 k s seen down ((min (x * 10 ^ (runD (bytesOf s) i).length + dv (runD (bytesOf s) i)) 1099511627776 : Nat) : Int) ((s.size + 1 : Nat) : Int) ng g p) r → Ev (fun k => dec_read.l1 k s seen down ((min x 1099511627776 : Nat) : Int) (i : Int) ng g p) r := by
  refine rn_ind (L := bytesOf s) (fun i => i ≤ s.size → rn (bytesOf s) i = s.size → ∀ (x : Nat) r,
    Ev (fun k => dec_read.l0 k s seen down ((min (x * 10 ^ (runD (bytesOf s) i).length + dv (runD (bytesOf s) i)) 1099511627776 : Nat) : Int) ((s.size + 1 : Nat) : Int) ng g p) r → Ev (fun k => dec_read.l1 k s seen down ((min x 1099511627776 : Nat) : Int) (i : Int) ng g p) r) (fun i h ih hi hr x r hev => ?_) (fun i h hi hr x r hev => ?_) i
  · have hlt := isD_lt h
    rw [bytesOf_length] at hlt
    obtain ⟨v0, v9⟩ := isD_val h
    have hm : (lk (bytesOf s) i - 48) % 256 = lk (bytesOf s) i - 48 := by omega
    refine Ev.step (fun k => by rw [dec_read.l1, if_pos (by omega), if_pos (by omega), bt_lk, hm, mn_cap x _ v0 v9, w1 i (by omega)]) (ih (by omega) (by rw [← rn_step h]; exact hr) _ r ?_)
    have e : (10 * x + (lk (bytesOf s) i - 48).toNat) * 10 ^ (runD (bytesOf s) (i + 1)).length + dv (runD (bytesOf s) (i + 1)) = x * 10 ^ (runD (bytesOf s) i).length + dv (runD (bytesOf s) i) := by
      rw [runD_step h, dv_cons, List.length_cons, Nat.pow_succ, Nat.add_mul, Nat.mul_comm 10 x, Nat.mul_assoc, Nat.mul_comm 10]
      omega
    rw [e]
    exact hev
  · rw [rn_stop h] at hr
    subst hr
    rw [runD_stop h] at hev
    have e : x * 10 ^ ([] : List Int).length + dv [] = x := by rw [dv_nil]; simp
    rw [e] at hev
    exact Ev.step (fun k => by rw [dec_read.l1, if_neg (by omega), w1 s.size (by omega)]) hev
theorem read_strip (down ng : Bool) (pw p : Int) (hp : -1125899906842624 < p ∧ p < 1125899906842624) (hpw : -1125899906842624 < pw ∧ pw < 1125899906842624) : ∀ (n : Nat) (g : List Int), g.length = n → n < 4611686018427387904 → Dg g → (∀ a, g.head? = some a → 1 ≤ a) →
    ∃ (g' : List Int) (t : Nat), dv g = dv g' * 10 ^ t ∧ g.length = g'.length + t ∧ Dg g' ∧ (∀ a, g'.head? = some a → 1 ≤ a) ∧ (∀ a, g'.getLast? = some a → a ≠ 0) ∧ Ev (fun k => dec_read.l2 k down pw ng g p) (ng, g', p + (if down = true then -pw else pw)) := by
  have last : ∀ g : List Int, Ev (fun _ => if down = true then some (ng, g, wrap64 (p + wrap64 (-pw))) else some (ng, g, wrap64 (p + pw))) (ng, g, p + (if down = true then -pw else pw)) := by
    intro g
    cases down with
    | true =>
      simp only [if_true]
      rw [w64s (-pw) (by omega) (by omega), w64s _ (by omega) (by omega)]
      exact Ev.now _
    | false =>
      simp only [Bool.false_eq_true, if_false]
      rw [w64s _ (by omega) (by omega)]
      exact Ev.now _
  intro n
  induction n with
  | zero =>
    intro g hg _ hd hh
    obtain rfl := List.length_eq_zero_iff.mp hg
    exact ⟨[], 0, by simp, rfl, hd, hh, (fun a ha => by cases ha), Ev.step (fun k => by rw [dec_read.l2, if_neg (by decide)]) (last [])⟩
  | succ n ih =>
    intro g hg hn hd hh
    rcases List.eq_nil_or_concat g with rfl | ⟨g0, a, rfl⟩
    · cases hg
    rw [List.concat_eq_append] at *
    have hl : g0.length = n := by simpa using hg
    have e1 : ((g0 ++ [a]).length : Int) = (g0.length : Int) + 1 := by simp
    have e2 : wrap64 (((g0 ++ [a]).length : Int) - 1) = (g0.length : Int) := by rw [e1, w64s _ (by omega) (by omega)]; omega
    have e3 : rd (g0 ++ [a]) (g0.length : Int) = a := by
      unfold rd
      rw [Int.toNat_natCast, List.getD_eq_getElem?_getD, List.getElem?_append_right (Nat.le_refl _), Nat.sub_self]
      rfl
    by_cases ha : a = 0
    · subst ha
      obtain ⟨g', t, h1, h2, h3, h4, h5, h6⟩ := ih g0 hl (by omega) (fun x hx => hd x (List.mem_append_left _ hx)) (fun x hx => hh x (by
        cases g0 with
        | nil => cases hx
        | cons y g0 => simpa using hx))
      refine ⟨g', t + 1, ?_, by rw [List.length_append, h2]; simp; omega, h3, h4, h5, ?_⟩
      · rw [dv_snoc, h1, Nat.pow_succ]
        have : ((0 : Int)).toNat = 0 := rfl
        rw [this, ← Nat.mul_assoc (dv g'), Nat.mul_comm 10, Nat.add_zero]
      · refine Ev.step (fun k => ?_) h6
        rw [dec_read.l2, e2, e3, if_pos (by rw [e1]; omega), if_pos (by omega), if_pos (by rw [e1]; omega), if_pos rfl, if_pos (by rw [e1]; omega), Int.toNat_natCast, List.take_left]
    · refine ⟨g0 ++ [a], 0, by simp, by simp, hd, hh, fun x hx => ?_, ?_⟩
      · rw [List.getLast?_append] at hx
        simp at hx
        rw [← hx]
        exact ha
      · refine Ev.step (fun k => ?_) (last (g0 ++ [a]))
        rw [dec_read.l2, e2, e3, if_pos (by rw [e1]; omega), if_pos (by omega), if_pos (by rw [e1]; omega), if_neg ha]
theorem read_end (s : ByteArray) (hs : s.size < 1099511627776) (hn : isNum (bytesOf s)) (seen ng : Bool) (g : List Int) (p : Int) (D : Nat) (hI : Inv g p D (behS (bytesOf s))) (hg : g.length ≤ s.size) (hb : behS (bytesOf s) ≤ s.size) :
    ∃ (g' : List Int) (p' : Int) (t : Nat), D = dv g' * 10 ^ t ∧ p' - g'.length = epwS 1099511627776 (bytesOf s) - behS (bytesOf s) + t ∧ Dg g' ∧ (∀ a, g'.head? = some a → 1 ≤ a) ∧ (∀ a, g'.getLast? = some a → a ≠ 0) ∧ (-1125899906842624 < p' ∧ p' < 1125899906842624) ∧ g'.length ≤ s.size ∧
      Ev (fun k => dec_read.l0 k s seen false 0 ((endM (bytesOf s) : Nat) : Int) ng g p) (ng, g', p') := by
  have hp := hI.pt

  have fin : ∀ (e : Nat), s.size ≤ e → ∀ (down : Bool) (pw : Int), 0 ≤ pw → pw ≤ 1099511627776 → epwS 1099511627776 (bytesOf s) = (if down = true then -pw else pw) →
      ∃ (g' : List Int) (p' : Int) (t : Nat), D = dv g' * 10 ^ t ∧ p' - g'.length = epwS 1099511627776 (bytesOf s) - behS (bytesOf s) + t ∧ Dg g' ∧ (∀ a, g'.head? = some a → 1 ≤ a) ∧ (∀ a, g'.getLast? = some a → a ≠ 0) ∧ (-1125899906842624 < p' ∧ p' < 1125899906842624) ∧ g'.length ≤ s.size ∧
        Ev (fun k => dec_read.l0 k s seen down pw (e : Int) ng g p) (ng, g', p') := by
    intro e hee down pw h0 h1 he
    obtain ⟨g', t, q1, q2, q3, q4, q5, q6⟩ := read_strip down ng pw p (by omega) (by omega) g.length g rfl (by omega) hI.ok hI.hd
    refine ⟨g', p + (if down = true then -pw else pw), t, by rw [← hI.val, q1], by rw [he]; split <;> omega, q3, q4, q5, by split <;> omega, by omega, ?_⟩
    exact Ev.step (fun k => by rw [dec_read.l0, if_neg (by omega)]) q6
  obtain ⟨_, hend⟩ := isNum_parts hn
  rcases hend with h1 | ⟨h1, h2, h3⟩
  · rw [h1, bytesOf_length]
    refine fin s.size (Nat.le_refl _) false 0 (by decide) (by decide) ?_
    unfold epwS
    rw [if_neg (by omega)]
    rfl
  · rw [bytesOf_length] at h2 h3
    have hlt := isE_lt h1
    rw [bytesOf_length] at hlt
    have hj : endM (bytesOf s) + 1 ≤ expJ (bytesOf s) (endM (bytesOf s)) := by unfold expJ; split <;> omega
    have hw := w1 (endM (bytesOf s)) (by omega)
    have hP : (0 : Nat) * 10 ^ (runD (bytesOf s) (expJ (bytesOf s) (endM (bytesOf s)))).length + dv (runD (bytesOf s) (expJ (bytesOf s) (endM (bytesOf s)))) = dv (runD (bytesOf s) (expJ (bytesOf s) (endM (bytesOf s)))) := by omega
    cases hg2 : isS (lk (bytesOf s) (endM (bytesOf s) + 1)) with
    | true =>
      have hj2 : expJ (bytesOf s) (endM (bytesOf s)) = endM (bytesOf s) + 2 := by unfold expJ; rw [hg2]; rfl
      obtain ⟨g', p', t, q1, q2, q3, q4, q5, q6, q7, q8⟩ := fin (s.size + 1) (by omega) (lk (bytesOf s) (endM (bytesOf s) + 1) == 45) ((min (dv (runD (bytesOf s) (expJ (bytesOf s) (endM (bytesOf s))))) 1099511627776 : Nat) : Int) (by omega) (by omega) (by
        unfold epwS
        rw [bytesOf_length, if_pos hlt]
        simp only [beq_iff_eq])
      refine ⟨g', p', t, q1, q2, q3, q4, q5, q6, q7, ?_⟩
      refine Ev.step (fun k => by rw [dec_read.l0, if_pos (by omega), if_pos (by omega), bt_lk, hw]) (Ev.bind (kind_ev _) ?_)
      have n0 : ¬ (2 : Int) = 0 := by decide
      have n1 : ¬ (2 : Int) = 1 := by decide
      have n3 : ¬ (2 : Int) = 3 := by decide
      have c0 : (0 : Int) ≤ ((endM (bytesOf s) + 1 : Nat) : Int) := by omega
      have c1 : ((endM (bytesOf s) + 1 : Nat) : Int) < (s.size : Int) := by omega
      rw [kd_E h1]
      simp only [if_neg n0, if_neg n1, if_neg n3, if_pos c0, if_pos c1, if_true, bt_lk]
      refine Ev.bind (kind_ev _) ?_
      rw [kd_S hg2]
      simp only [if_true]
      rw [w1 (endM (bytesOf s) + 1) (by omega)]
      refine Ev.step (fun k => by rw [dec_read.j3]) ?_
      refine read_power s hs seen _ ng g p (endM (bytesOf s) + 1 + 1) (by omega) (by rw [show endM (bytesOf s) + 1 + 1 = endM (bytesOf s) + 2 from rfl, ← hj2]; exact h2) 0 _ ?_
      rw [show endM (bytesOf s) + 1 + 1 = endM (bytesOf s) + 2 from rfl, ← hj2, hP]
      exact q8
    | false =>
      have hj2 : expJ (bytesOf s) (endM (bytesOf s)) = endM (bytesOf s) + 1 := by unfold expJ; rw [hg2]; rfl
      have h45 : ¬ lk (bytesOf s) (endM (bytesOf s) + 1) = 45 := by
        intro h
        rw [h] at hg2
        exact absurd hg2 (by decide)
      obtain ⟨g', p', t, q1, q2, q3, q4, q5, q6, q7, q8⟩ := fin (s.size + 1) (by omega) false ((min (dv (runD (bytesOf s) (expJ (bytesOf s) (endM (bytesOf s))))) 1099511627776 : Nat) : Int) (by omega) (by omega) (by
        unfold epwS
        rw [bytesOf_length, if_pos hlt, if_neg h45]
        rfl)
      refine ⟨g', p', t, q1, q2, q3, q4, q5, q6, q7, ?_⟩
      refine Ev.step (fun k => by rw [dec_read.l0, if_pos (by omega), if_pos (by omega), bt_lk, hw]) (Ev.bind (kind_ev _) ?_)
      have n0 : ¬ (2 : Int) = 0 := by decide
      have n1 : ¬ (2 : Int) = 1 := by decide
      have n3 : ¬ (2 : Int) = 3 := by decide
      have c0 : (0 : Int) ≤ ((endM (bytesOf s) + 1 : Nat) : Int) := by omega
      have c1 : ((endM (bytesOf s) + 1 : Nat) : Int) < (s.size : Int) := by omega
      rw [kd_E h1]
      simp only [if_neg n0, if_neg n1, if_neg n3, if_pos c0, if_pos c1, if_true, bt_lk]
      refine Ev.bind (kind_ev _) ?_
      have h3k : ¬ kd (lk (bytesOf s) (endM (bytesOf s) + 1)) = 3 := by
        rcases kd_cases (lk (bytesOf s) (endM (bytesOf s) + 1)) with ⟨_, e⟩ | ⟨_, ⟨_, _, _, e⟩ | ⟨_, _, _, e⟩ | ⟨_, _, e, _⟩ | ⟨_, _, _, e⟩⟩
        · rw [e]; decide
        · rw [e]; decide
        · rw [e]; decide
        · rw [hg2] at e; cases e
        · rw [e]; decide
      simp only [if_neg h3k]
      refine Ev.step (fun k => by rw [dec_read.j3]) ?_
      refine read_power s hs seen false ng g p (endM (bytesOf s) + 1) (by omega) (by rw [← hj2]; exact h2) 0 _ ?_
      rw [← hj2, hP]
      exact q8
theorem read_ev (s : ByteArray) (hs : s.size < 1099511627776) (hn : isNum (bytesOf s)) :
    ∃ (g : List Int) (p : Int) (t : Nat), dv (digS (bytesOf s)) = dv g * 10 ^ t ∧ p - g.length = epwS 1099511627776 (bytesOf s) - behS (bytesOf s) + t ∧ Dg g ∧ (∀ a, g.head? = some a → 1 ≤ a) ∧ (∀ a, g.getLast? = some a → a ≠ 0) ∧ (-1125899906842624 < p ∧ p < 1125899906842624) ∧ g.length ≤ s.size ∧
      Ev (fun k => dec_read.f k s) (negS (bytesOf s), g, p) := by
  have hi0 : i0 (bytesOf s) ≤ s.size := by
    unfold i0
    split
    · rename_i h
      have := isS_lt h
      rw [bytesOf_length] at this
      omega
    · omega
  have start : Inv [] 0 0 0 := ⟨(fun a ha => by cases ha), (fun a ha => by cases ha), rfl, rfl⟩
  obtain ⟨g1, p1, hI1, hg1, hs1⟩ := read_digits s hs false false 0 (negS (bytesOf s)) (i0 (bytesOf s)) hi0 [] 0 0 0 start (Nat.zero_le _) (Nat.zero_le _)
  have ha := rn_le (L := bytesOf s) (i := i0 (bytesOf s)) (by rw [bytesOf_length]; exact hi0)
  rw [bytesOf_length] at ha
  have first : ∀ r, Ev (fun k => dec_read.l0 k s false false 0 ((i0 (bytesOf s) : Nat) : Int) (negS (bytesOf s)) [] 0) r → Ev (fun k => dec_read.f k s) r := by
    intro r hr
    unfold dec_read.f
    cases hg : isS (lk (bytesOf s) 0) with
    | true =>
      have e1 : i0 (bytesOf s) = 1 := by unfold i0; rw [hg]; rfl
      have hlt := isS_lt hg
      rw [bytesOf_length] at hlt
      rw [e1] at hr
      have hb0 : bt s 0 = lk (bytesOf s) 0 := bt_lk s 0
      refine Ev.step (fun k => by rw [dec_read.l0, if_pos (by omega), if_pos (by decide), hb0]) (Ev.bind (kind_ev _) ?_)
      rw [kd_S hg]
      have n0 : ¬ (3 : Int) = 0 := by decide
      have n1 : ¬ (3 : Int) = 1 := by decide
      simp only [if_neg n0, if_neg n1, if_true]
      have e2 : (lk (bytesOf s) 0 == 45) = negS (bytesOf s) := by unfold negS; rw [Bool.eq_iff_iff, decide_eq_true_eq, beq_iff_eq]
      have e4 : wrap64 (0 + 1) = ((1 : Nat) : Int) := w64s _ (by decide) (by decide)
      rw [e2, e4]
      exact hr
    | false =>
      have e1 : i0 (bytesOf s) = 0 := by unfold i0; rw [hg]; rfl
      have e2 : negS (bytesOf s) = false := by
        unfold negS
        refine decide_eq_false fun h => ?_
        rw [h] at hg
        exact absurd hg (by decide)
      have e3 : ((0 : Nat) : Int) = 0 := rfl
      rw [e1, e2, e3] at hr
      exact hr
  have e0 : 0 * 10 ^ (runD (bytesOf s) (i0 (bytesOf s))).length + dv (runD (bytesOf s) (i0 (bytesOf s))) = dv (runD (bytesOf s) (i0 (bytesOf s))) := by omega
  have e00 : (0 + if false = true then (runD (bytesOf s) (i0 (bytesOf s))).length else 0) = 0 := rfl
  rw [e0, e00] at hI1
  by_cases hp : lk (bytesOf s) (rn (bytesOf s) (i0 (bytesOf s))) = 46
  · have hlt : rn (bytesOf s) (i0 (bytesOf s)) < (bytesOf s).length := lk_lt (by rw [hp]; decide)
    rw [bytesOf_length] at hlt
    obtain ⟨g2, p2, hI2, hg2, hs2⟩ := read_digits s hs true false 0 (negS (bytesOf s)) (rn (bytesOf s) (i0 (bytesOf s)) + 1) (by omega) g1 p1 _ 0 hI1 (by omega) (Nat.zero_le _)
    have hE : endM (bytesOf s) = rn (bytesOf s) (rn (bytesOf s) (i0 (bytesOf s)) + 1) := by unfold endM scanB; rw [if_pos hp]
    have hB : behS (bytesOf s) = (runD (bytesOf s) (rn (bytesOf s) (i0 (bytesOf s)) + 1)).length := by unfold behS; rw [if_pos hp]
    have hD : dv (digS (bytesOf s)) = dv (runD (bytesOf s) (i0 (bytesOf s))) * 10 ^ (runD (bytesOf s) (rn (bytesOf s) (i0 (bytesOf s)) + 1)).length + dv (runD (bytesOf s) (rn (bytesOf s) (i0 (bytesOf s)) + 1)) := by unfold digS; rw [if_pos hp, dv_app]
    have hr2 := rn_le (L := bytesOf s) (i := rn (bytesOf s) (i0 (bytesOf s)) + 1) (by rw [bytesOf_length]; omega)
    have hl2 := runD_len (bytesOf s) (rn (bytesOf s) (i0 (bytesOf s)) + 1)
    rw [bytesOf_length] at hr2
    have e3 : (0 + if true = true then (runD (bytesOf s) (rn (bytesOf s) (i0 (bytesOf s)) + 1)).length else 0) = behS (bytesOf s) := by rw [hB]; simp
    rw [e3, ← hD] at hI2
    obtain ⟨g', p', t, q1, q2, q3, q4, q5, q6, q7, q8⟩ := read_end s hs hn true (negS (bytesOf s)) g2 p2 _ hI2 (by omega) (by omega)
    refine ⟨g', p', t, q1, q2, q3, q4, q5, q6, q7, first _ (hs1 _ ?_)⟩
    refine Ev.step (fun k => by rw [dec_read.l0, if_pos (by omega), if_pos (by omega), bt_lk]) (Ev.bind (kind_ev _) ?_)
    rw [kd_P hp]
    have n0 : ¬ (1 : Int) = 0 := by decide
    simp only [if_neg n0, if_true]
    rw [w1 _ (by omega)]
    refine hs2 _ ?_
    rw [← hE]
    exact q8
  · have hE : endM (bytesOf s) = rn (bytesOf s) (i0 (bytesOf s)) := by unfold endM scanB; rw [if_neg hp]
    have hB : behS (bytesOf s) = 0 := by unfold behS; rw [if_neg hp]
    have hD : dv (digS (bytesOf s)) = dv (runD (bytesOf s) (i0 (bytesOf s))) := by unfold digS; rw [if_neg hp, List.append_nil]
    rw [← hD, ← hB] at hI1
    obtain ⟨g', p', t, q1, q2, q3, q4, q5, q6, q7, q8⟩ := read_end s hs hn false (negS (bytesOf s)) g1 p1 _ hI1 (by omega) (by omega)
    refine ⟨g', p', t, q1, q2, q3, q4, q5, q6, q7, first _ (hs1 _ ?_)⟩
    rw [← hE]
    exact q8
end Go.Proofs.YtfpnglgipchjhaaDoor.PR
namespace Go.Proofs.YtfpnglgipchjhaaDoor.PR
open Go.RowKit Go.Proofs.YtfpnglgipchjhaaDoorW.PrintWords Go.Proofs.YtfpnglgipchjhaaDoorW.PrintLast Go.Proofs.YtfpnglgipchjhaaDoorW.PrintMore
theorem uw (n : Int) : IntKind.u64.wrap n = n % 18446744073709551616 := by simp [IntKind.wrap, IntKind.bits, IntKind.signed]
theorem and32 (a : Int) (h0 : 0 ≤ a) (h1 : a < 18446744073709551616) : Go.bits .and .u64 a 4294967295 = a % 4294967296 := by
  obtain ⟨A, rfl⟩ := Int.eq_ofNat_of_zero_le h0
  have := u64_and_nat A 4294967295 (by omega) (by omega)
  have h2 : ((4294967295 : Nat) : Int) = 4294967295 := rfl
  rw [h2] at this
  rw [this]
  have h3 : A &&& 4294967295 = A % 4294967296 := Nat.and_two_pow_sub_one_eq_mod A 32
  rw [h3]
  omega
theorem mul64_B (a b : Int) (ha0 : 0 ≤ a) (ha : a < 18446744073709551616) (hb0 : 0 ≤ b) (hb : b < 18446744073709551616) : bits_Mul64.f a b = some (a * b / 18446744073709551616, a * b % 18446744073709551616) := by
  unfold bits_Mul64.f
  obtain ⟨X, rfl⟩ := Int.eq_ofNat_of_zero_le ha0
  obtain ⟨Y, rfl⟩ := Int.eq_ofNat_of_zero_le hb0
  have hX : X < 18446744073709551616 := by omega
  have hY : Y < 18446744073709551616 := by omega
  obtain ⟨h1, h2, h3, h4⟩ := Lib.mul64_hi X Y hX hY
  have lo : Go.IntKind.u64.wrap ((X : Int) * (Y : Int)) = (X : Int) * Y % 18446744073709551616 := uw _
  rw [and32 _ ha0 ha, and32 _ hb0 hb, lo]
  have z1 := Lib.half_mul_le (a := X / 4294967296) (b := Y / 4294967296) (by omega) (by omega)
  have z2 := Lib.half_mul_le (a := X / 4294967296) (b := Y % 4294967296) (by omega) (by omega)
  have z3 := Lib.half_mul_le (a := X % 4294967296) (b := Y / 4294967296) (by omega) (by omega)
  have q : (X : Int) * Y / 18446744073709551616 = ((X * Y / 18446744073709551616 : Nat) : Int) := by simp
  rw [q, ← h4]
  have c1 : ((X : Int) / 4294967296) * ((Y : Int) % 4294967296) = (((X / 4294967296) * (Y % 4294967296) : Nat) : Int) := by simp
  have c2 : ((X : Int) % 4294967296) * ((Y : Int) % 4294967296) = (((X % 4294967296) * (Y % 4294967296) : Nat) : Int) := by simp
  have c3 : ((X : Int) % 4294967296) * ((Y : Int) / 4294967296) = (((X % 4294967296) * (Y / 4294967296) : Nat) : Int) := by simp
  have c4 : ((X : Int) / 4294967296) * ((Y : Int) / 4294967296) = (((X / 4294967296) * (Y / 4294967296) : Nat) : Int) := by simp
  rw [c1, c2, c3, c4]
  generalize X / 4294967296 * (Y / 4294967296) = p at *
  generalize X / 4294967296 * (Y % 4294967296) = r at *
  generalize X % 4294967296 * (Y / 4294967296) = s at *
  generalize X % 4294967296 * (Y % 4294967296) = t at *
  have e1 : IntKind.u64.wrap (t : Int) = (t : Int) := by rw [uw]; omega
  have e2 : IntKind.u64.wrap (r : Int) = (r : Int) := by rw [uw]; omega
  have e3 : IntKind.u64.wrap (s : Int) = (s : Int) := by rw [uw]; omega
  have e4 : IntKind.u64.wrap (p : Int) = (p : Int) := by rw [uw]; omega
  rw [e1, e2, e3, e4]
  have e5 : IntKind.u64.wrap ((r : Int) + (t : Int) / 4294967296) = ((r + t / 4294967296 : Nat) : Int) := by rw [uw]; omega
  rw [e5]
  generalize r + t / 4294967296 = u at *
  rw [and32 _ (by omega) (by omega)]
  have e6 : IntKind.u64.wrap ((u : Int) % 4294967296 + (s : Int)) = ((u % 4294967296 + s : Nat) : Int) := by rw [uw]; omega
  rw [e6]
  have e7 : IntKind.u64.wrap ((p : Int) + (u : Int) / 4294967296) = ((p + u / 4294967296 : Nat) : Int) := by rw [uw]; omega
  rw [e7]
  generalize u % 4294967296 + s = v at *
  have hq : X * Y / 18446744073709551616 < 18446744073709551616 := by
    have : X * Y < 18446744073709551616 * 18446744073709551616 := Nat.mul_lt_mul'' hX hY
    omega
  have e8 : IntKind.u64.wrap (((p + u / 4294967296 : Nat) : Int) + (v : Int) / 4294967296) = ((p + u / 4294967296 + v / 4294967296 : Nat) : Int) := by
    rw [uw]
    omega
  rw [e8]
theorem or7 (a b : Int) (ha0 : 0 ≤ a) (ha : a < 144115188075855872) (hb0 : 0 ≤ b) (hb : b < 128) : Go.bits .or .u64 (a * 128) b = a * 128 + b := by
  obtain ⟨A, rfl⟩ := Int.eq_ofNat_of_zero_le ha0
  obtain ⟨B, rfl⟩ := Int.eq_ofNat_of_zero_le hb0
  have e : ((A : Int) * 128) = ((2 ^ 7 * A : Nat) : Int) := by omega
  rw [e, u64_or_nat _ _ (by omega) (by omega), ← Nat.two_pow_add_eq_or_of_lt (show B < 2 ^ 7 by omega)]
  omega
theorem lz_all : bits_LeadingZeros64.f 100000000000000000 = some 7 := by decide +kernel
theorem div_l1 (u un21 un0 : Int) (hU : u * 128 = un21 * 4294967296 + un0) (h0 : 0 ≤ un0) (h1 : un0 < 4294967296) (hu0 : 0 ≤ u) (hu : u < 6553600000000000000000) :
    ∀ (d : Nat) (q : Int), q = u / 100000000000000000 + d → d ≤ 3 → un21 - q * 2980232238 < 4294967296 → 0 ≤ un21 - q * 2980232238 →
      Ev (fun k => bits_Div64.l1 k 12800000000000000000 7 2980232238 3305111552 un0 0 (un21 - q * 2980232238) un21 q) (u / 100000000000000000, u % 100000000000000000) := by
  have fin : ∀ (b : Bool), b = false → Ev (fun k => bits_Div64.j4 k 12800000000000000000 7 2980232238 3305111552 un0 0 (un21 - u / 100000000000000000 * 2980232238) un21 (u / 100000000000000000) b) (u / 100000000000000000, u % 100000000000000000) := by
    intro b hb
    subst hb
    refine Ev.step (fun k => by rw [bits_Div64.j4, if_neg (by decide), if_pos (by decide)]) ?_
    simp only [uw]
    have e1 : (0 * 4294967296 % 18446744073709551616 + u / 100000000000000000) % 18446744073709551616 = u / 100000000000000000 := by omega
    have e2 : shr .u64 (((un21 * 4294967296 % 18446744073709551616 + un0) % 18446744073709551616 - u / 100000000000000000 * 12800000000000000000 % 18446744073709551616) % 18446744073709551616) 7 = u % 100000000000000000 := by
      unfold shr
      have e7 : (2 : Int) ^ min (7 : Int).toNat IntKind.u64.bits = 128 := by decide
      rw [e7]
      omega
    rw [e1, e2]
    exact Ev.now _
  intro d
  induction d with
  | zero =>
    intro q hq _ h3 h4
    have hq' : q = u / 100000000000000000 := by omega
    subst hq'
    refine Ev.step (fun k => by rw [bits_Div64.l1, if_neg (by omega)]) ?_
    refine fin _ (decide_eq_false ?_)
    have m1 : u / 100000000000000000 * 3305111552 % 18446744073709551616 = u / 100000000000000000 * 3305111552 := Int.emod_eq_of_lt (by omega) (by omega)
    have m2 : 4294967296 * (un21 - u / 100000000000000000 * 2980232238) % 18446744073709551616 = 4294967296 * (un21 - u / 100000000000000000 * 2980232238) := Int.emod_eq_of_lt (by omega) (by omega)
    have m3 : (4294967296 * (un21 - u / 100000000000000000 * 2980232238) + un0) % 18446744073709551616 = 4294967296 * (un21 - u / 100000000000000000 * 2980232238) + un0 := Int.emod_eq_of_lt (by omega) (by omega)
    rw [uw, uw, uw, m1, m2, m3]
    omega
  | succ d ih =>
    intro q hq hd h3 h4
    refine Ev.step (fun k => by rw [bits_Div64.l1, if_neg (by omega)]) ?_
    have ht : decide (IntKind.u64.wrap (q * 3305111552) > IntKind.u64.wrap (IntKind.u64.wrap (4294967296 * (un21 - q * 2980232238)) + un0)) = true := by
      have m1 : q * 3305111552 % 18446744073709551616 = q * 3305111552 := Int.emod_eq_of_lt (by omega) (by omega)
      have m2 : 4294967296 * (un21 - q * 2980232238) % 18446744073709551616 = 4294967296 * (un21 - q * 2980232238) := Int.emod_eq_of_lt (by omega) (by omega)
      have m3 : (4294967296 * (un21 - q * 2980232238) + un0) % 18446744073709551616 = 4294967296 * (un21 - q * 2980232238) + un0 := Int.emod_eq_of_lt (by omega) (by omega)
      rw [decide_eq_true_eq, uw, uw, uw, m1, m2, m3]
      omega
    rw [ht]
    have e1 : IntKind.u64.wrap (q - 1) = q - 1 := by rw [uw]; omega
    have e2 : IntKind.u64.wrap (un21 - q * 2980232238 + 2980232238) = un21 - (q - 1) * 2980232238 := by rw [uw]; omega
    refine Ev.step (fun k => by rw [bits_Div64.j4, if_pos rfl, e1, e2]) ?_
    by_cases h5 : un21 - (q - 1) * 2980232238 ≥ 4294967296
    · have hq' : q - 1 = u / 100000000000000000 := by omega
      simp only [if_pos h5]
      have h := fin false rfl
      obtain ⟨K, hK⟩ := h
      refine ⟨K + 1, fun k hk => ?_⟩
      obtain ⟨j, rfl⟩ : ∃ j, k = j + 1 := ⟨k - 1, by omega⟩
      have h6 := hK (j + 1) (by omega)
      dsimp only at h6
      rw [bits_Div64.j4, if_neg (by decide), if_pos (by decide)] at h6
      dsimp only
      rw [hq', if_pos (by decide)]
      exact h6
    · simp only [if_neg h5]
      exact ih (q - 1) (by omega) (by omega) (by omega) (by omega)
theorem div64_ev (u : Int) (hu0 : 0 ≤ u) (hu : u < 6553600000000000000000) :
    Ev (fun k => bits_Div64.f k (u / 18446744073709551616) (u % 18446744073709551616) 100000000000000000) (u / 100000000000000000, u % 100000000000000000) := by
  unfold bits_Div64.f
  have h1 : ¬ (100000000000000000 : Int) = 0 := by decide
  have h2 : ¬ (100000000000000000 : Int) ≤ u / 18446744073709551616 := by omega
  simp only [if_neg h1, if_neg h2]
  by_cases h3 : u / 18446744073709551616 = 0
  · simp only [if_pos h3]
    have e : u % 18446744073709551616 = u := by omega
    rw [e, uw, Int.tdiv_eq_ediv_of_nonneg hu0, Int.tmod_eq_emod_of_nonneg hu0]
    have e2 : u / 100000000000000000 % 18446744073709551616 = u / 100000000000000000 := by omega
    rw [e2]
    exact Ev.now _
  · simp only [if_neg h3]
    rw [lz_all]
    simp only [Option.bind_some]
    have c0 : (0 : Int) ≤ IntKind.u64.wrap 7 := by decide
    have c1 : (0 : Int) ≤ IntKind.u64.wrap (64 - IntKind.u64.wrap 7) := by decide
    have c2 : shl .u64 100000000000000000 (IntKind.u64.wrap 7) = 12800000000000000000 := by decide +kernel
    have c3 : IntKind.u64.wrap 7 = 7 := by decide
    have c4 : IntKind.u64.wrap (64 - 7) = 57 := by decide
    have c5 : Go.bits .and .u64 12800000000000000000 4294967295 = 3305111552 := by rw [and32 _ (by decide) (by decide)]; decide
    have c6 : (12800000000000000000 : Int) / 4294967296 = 2980232238 := by decide
    simp only [if_pos c0, if_pos c1, c2]
    rw [c3, c4, c5, c6]
    have c7 : ¬ (2980232238 : Int) = 0 := by decide
    simp only [if_neg c7]
    have s1 : shl .u64 (u / 18446744073709551616) 7 = u / 18446744073709551616 * 128 := by
      unfold shl
      have e7 : (2 : Int) ^ min (7 : Int).toNat IntKind.u64.bits = 128 := by decide
      rw [e7, uw]
      omega
    have s2 : shr .u64 (u % 18446744073709551616) 57 = u % 18446744073709551616 / 144115188075855872 := by
      unfold shr
      have e7 : (2 : Int) ^ min (57 : Int).toNat IntKind.u64.bits = 144115188075855872 := by decide
      rw [e7]
    have s3 : shl .u64 (u % 18446744073709551616) 7 = u % 18446744073709551616 * 128 % 18446744073709551616 := by
      unfold shl
      have e7 : (2 : Int) ^ min (7 : Int).toNat IntKind.u64.bits = 128 := by decide
      rw [e7, uw]
    rw [s1, s2, s3, or7 _ _ (by omega) (by omega) (by omega) (by omega), and32 _ (by omega) (by omega)]
    have hn : u / 18446744073709551616 * 128 + u % 18446744073709551616 / 144115188075855872 = u / 144115188075855872 := by omega
    rw [hn]
    have q1 : IntKind.u64.wrap (Int.tdiv (u / 144115188075855872) 2980232238) = 0 := by
      rw [uw, Int.tdiv_eq_ediv_of_nonneg (by omega)]
      omega
    rw [q1]
    have r1 : IntKind.u64.wrap (u / 144115188075855872 - IntKind.u64.wrap (0 * 2980232238)) = u / 144115188075855872 := by rw [uw, uw]; omega
    rw [r1]
    obtain ⟨un1, hun1⟩ : ∃ x, x = u % 18446744073709551616 * 128 % 18446744073709551616 / 4294967296 := ⟨_, rfl⟩
    obtain ⟨un0, hun0⟩ : ∃ x, x = u % 18446744073709551616 * 128 % 18446744073709551616 % 4294967296 := ⟨_, rfl⟩
    obtain ⟨un32, hun32⟩ : ∃ x, x = u / 144115188075855872 := ⟨_, rfl⟩
    rw [← hun1, ← hun0, ← hun32]
    have hU : u * 128 = (un32 * 4294967296 + un1) * 4294967296 + un0 := by omega
    have b1 : 0 ≤ un1 ∧ un1 < 4294967296 := by omega
    have b0 : 0 ≤ un0 ∧ un0 < 4294967296 := by omega
    have b3 : 0 ≤ un32 ∧ un32 < 45500 := by omega
    clear hun1 hun0 hun32 hn h3 h2 s1 s2 s3 q1 r1
    refine Ev.step (fun k => by rw [bits_Div64.l0, if_neg (by decide)]) ?_
    have d1 : decide (IntKind.u64.wrap (0 * 3305111552) > IntKind.u64.wrap (IntKind.u64.wrap (4294967296 * un32) + un1)) = false := by
      rw [decide_eq_false_iff_not, uw, uw, uw]
      omega
    rw [d1]
    refine Ev.step (fun k => by rw [bits_Div64.j1, if_neg (by decide)]) ?_
    have d2 : IntKind.u64.wrap (IntKind.u64.wrap (IntKind.u64.wrap (un32 * 4294967296) + un1) - IntKind.u64.wrap (0 * 12800000000000000000)) = un32 * 4294967296 + un1 := by
      simp only [uw]
      omega
    refine Ev.step (fun k => by rw [bits_Div64.j2, if_neg c7, d2]) ?_
    obtain ⟨n, hn⟩ : ∃ x, x = un32 * 4294967296 + un1 := ⟨_, rfl⟩
    rw [← hn] at hU ⊢
    have bn : 0 ≤ n ∧ n < 195421012000000 := by omega
    have d3 : IntKind.u64.wrap (Int.tdiv n 2980232238) = n / 2980232238 := by
      rw [uw, Int.tdiv_eq_ediv_of_nonneg bn.1]
      omega
    rw [d3]
    have d4 : IntKind.u64.wrap (n - IntKind.u64.wrap (n / 2980232238 * 2980232238)) = n - n / 2980232238 * 2980232238 := by
      rw [uw, uw]
      omega
    rw [d4]
    refine div_l1 u n un0 hU b0.1 b0.2 hu0 hu (n / 2980232238 - u / 100000000000000000).toNat (n / 2980232238) (by omega) (by omega) (by omega) (by omega)
end Go.Proofs.YtfpnglgipchjhaaDoor.PR
namespace Go.Proofs.YtfpnglgipchjhaaDoor.PR
open Go.RowKit Go.Proofs.YtfpnglgipchjhaaDoorW.PrintWords Go.Proofs.YtfpnglgipchjhaaDoorW.PrintLast Go.Proofs.YtfpnglgipchjhaaDoorW.PrintMore Go.Proofs.YtfpnglgipchjhaaDoor.DecV
theorem scanU_le {L : List Int} {i : Nat} (h : i ≤ L.length) : (scanU L i).1 ≤ L.length := by
  have hb := scanB_le h
  unfold scanU
  split
  · split
    · rename_i h2
      have h3 := isE_lt h2
      refine rn_le ?_
      unfold expJ
      split
      · rename_i h4
        have := isS_lt h4
        omega
      · omega
    · exact hb
  · exact hb
theorem scanS_le {L : List Int} {i : Nat} (h : i ≤ L.length) (sg : Bool) : (scanS L i sg).1 ≤ L.length := by
  unfold scanS
  split
  · rename_i h2
    have := isS_lt h2.2
    exact scanU_le (by omega)
  · exact scanU_le h
theorem digit_eq (ng : Bool) {g : List Int} (hg : Dg g) (_hl : g.length < 1099511627776) (p x : Int) (hp : -1125899906842624 < p ∧ p < 1125899906842624) (hx : -100 < x ∧ x < 100) : dec_number_digit.f ng g p x = some (at_ g (p + x - 1)) := by
  have e : wrap64 (wrap64 (p + x) - 1) = p + x - 1 := by rw [w64s (p + x) (by omega) (by omega), w64s _ (by omega) (by omega)]
  unfold dec_number_digit.f
  rw [e]
  unfold at_
  by_cases h0 : p + x - 1 < 0
  · rw [if_pos h0, if_pos h0]
  · rw [if_neg h0, if_neg h0]
    by_cases h1 : p + x - 1 ≥ (g.length : Int)
    · rw [if_pos h1, if_pos h1]
    · rw [if_neg h1, if_neg h1, if_pos (by omega), if_pos (by omega)]
      have hlt : (p + x - 1).toNat < g.length := by omega
      have hv : rd g (p + x - 1) = g[(p + x - 1).toNat] := by unfold rd; rw [List.getD_eq_getElem?_getD, List.getElem?_eq_getElem hlt]; rfl
      have hv2 : g.getD (p + x - 1).toNat 0 = g[(p + x - 1).toNat] := by rw [List.getD_eq_getElem?_getD, List.getElem?_eq_getElem hlt]; rfl
      have hr := hg _ (List.getElem_mem hlt)
      rw [hv, hv2, uw, Int.emod_eq_of_lt hr.1 (by omega)]
theorem parse_up (ng : Bool) {g : List Int} (hg : Dg g) (hl : g.length < 1099511627776) (p : Int) (hp : -1125899906842624 < p ∧ p < 1125899906842624) (r : Int × Int) :
    ∀ (d : Nat) (x : Int) (u : Nat), x = 1 - (d : Int) → d ≤ 5 → u = F g (p + x - 1) → u < 10 ^ (5 - d) → (F g p < 100000 → Ev (fun k => dec_Parse.l1 k (F g p : Int) 0 1 ng g p) r) → Ev (fun k => dec_Parse.l0 k (u : Int) x ng g p) r := by
  intro d
  induction d with
  | zero =>
    intro x u hx _ hu hlt hr
    have e : p + x - 1 = p := by omega
    rw [e] at hu
    subst hu
    exact Ev.step (fun k => by rw [dec_Parse.l0, if_neg (by omega)]) (hr hlt)
  | succ d ih =>
    intro x u hx hd hu hlt hr
    have ha := at_ok hg (p + x - 1)
    have hF := F_succ g (p + x - 1)
    have hu2 : u < 100000 := Nat.lt_of_lt_of_le hlt (Nat.pow_le_pow_right (n := 10) (by decide) (show 5 - (d + 1) ≤ 5 by omega))
    refine Ev.step (fun k => by rw [dec_Parse.l0, if_pos (by omega), digit_eq ng hg hl p x hp (by omega)]) ?_
    simp only [Option.bind_some]
    have e1 : IntKind.u64.wrap (IntKind.u64.wrap (10 * (u : Int)) + at_ g (p + x - 1)) = ((10 * u + (at_ g (p + x - 1)).toNat : Nat) : Int) := by rw [uw, uw]; omega
    have e2 : wrap64 (x + 1) = x + 1 := w64s _ (by omega) (by omega)
    rw [e1, e2]
    refine ih (x + 1) _ (by omega) (by omega) ?_ ?_ hr
    · rw [show p + (x + 1) - 1 = p + x - 1 + 1 by omega, hF, ← hu]
    · have e3 : 5 - d = (5 - (d + 1)) + 1 := by omega
      rw [e3, Nat.pow_succ]
      omega
theorem parse_behind (ng : Bool) {g : List Int} (hg : Dg g) (hl : g.length < 1099511627776) (p : Int) (hp : -1125899906842624 < p ∧ p < 1125899906842624) (r : Int × Int) (U : Int) :
    ∀ (d : Nat) (x : Int) (u : Nat), x = 18 - (d : Int) → d ≤ 17 → F g p * 10 ^ (17 - d) + u = F g (p + x - 1) → u < 10 ^ (17 - d) →
      (∀ v : Nat, F g p * 100000000000000000 + v = F g (p + 17) → v < 100000000000000000 → Ev (fun k => dec_Parse.j4 k U (v : Int) (decide (g ≠ [] ∧ p + 17 < g.length)) ng g p) r) → Ev (fun k => dec_Parse.l1 k U (u : Int) x ng g p) r := by
  intro d
  induction d with
  | zero =>
    intro x u hx _ hu hlt hr
    have e : p + x - 1 = p + 17 := by omega
    rw [e] at hu
    have h := hr u hu hlt
    have hw : wrap64 (p + 17) = p + 17 := w64s _ (by omega) (by omega)
    refine Ev.step (fun k => by rw [dec_Parse.l1, if_neg (by omega), hw]) ?_
    by_cases hn : g = []
    · subst hn
      have h0 : ¬ ((([] : List Int).length : Int) > 0) := by decide
      simp only [if_neg h0]
      rw [decide_eq_false (fun h => h.1 rfl)] at h
      exact h
    · have h0 : (g.length : Int) > 0 := by have := List.length_pos_iff.mpr hn; omega
      simp only [if_pos h0]
      have e2 : decide (g ≠ [] ∧ p + 17 < (g.length : Int)) = decide (p + 17 < (g.length : Int)) := by
        rw [Bool.eq_iff_iff, decide_eq_true_eq, decide_eq_true_eq]
        exact ⟨fun h => h.2, fun h => ⟨hn, h⟩⟩
      rw [e2] at h
      exact h
  | succ d ih =>
    intro x u hx hd hu hlt hr
    have ha := at_ok hg (p + x - 1)
    have hF := F_succ g (p + x - 1)
    have hu2 : u < 100000000000000000 := Nat.lt_of_lt_of_le hlt (Nat.pow_le_pow_right (n := 10) (by decide) (show 17 - (d + 1) ≤ 17 by omega))
    refine Ev.step (fun k => by rw [dec_Parse.l1, if_pos (by omega), digit_eq ng hg hl p x hp (by omega)]) ?_
    simp only [Option.bind_some]
    have e1 : IntKind.u64.wrap (IntKind.u64.wrap (10 * (u : Int)) + at_ g (p + x - 1)) = ((10 * u + (at_ g (p + x - 1)).toNat : Nat) : Int) := by rw [uw, uw]; omega
    have e2 : wrap64 (x + 1) = x + 1 := w64s _ (by omega) (by omega)
    rw [e1, e2]
    have e3 : 17 - d = (17 - (d + 1)) + 1 := by omega
    refine ih (x + 1) _ (by omega) (by omega) ?_ ?_ hr
    · rw [show p + (x + 1) - 1 = p + x - 1 + 1 by omega, hF, ← hu, e3, Nat.pow_succ, ← Nat.mul_assoc]
      omega
    · rw [e3, Nat.pow_succ]
      omega
theorem parse_round (ng : Bool) (g : List Int) (p : Int) (U V : Nat) (more : Bool) (hU : U < 100000) (hV : V < 100000000000000000) :
    Ev (fun k => dec_Parse.j4 k (U : Int) (V : Int) more ng g p) (if U * 65536 + V * 65536 / 100000000000000000 + (if upB ng (V * 65536 % 100000000000000000) (if more = true then 1 else 0) = true then 1 else 0) < 4294967296 then (sg ng (U * 65536 + V * 65536 / 100000000000000000 + (if upB ng (V * 65536 % 100000000000000000) (if more = true then 1 else 0) = true then 1 else 0)), 0) else (0, 2)) := by
  have hq : ((V * 65536 : Nat) : Int) / 100000000000000000 = ((V * 65536 / 100000000000000000 : Nat) : Int) := by omega
  have hr : ((V * 65536 : Nat) : Int) % 100000000000000000 = ((V * 65536 % 100000000000000000 : Nat) : Int) := by omega
  have hm : bits_Mul64.f (V : Int) 65536 = some (((V * 65536 : Nat) : Int) / 18446744073709551616, ((V * 65536 : Nat) : Int) % 18446744073709551616) := by
    rw [mul64_B _ _ (by omega) (by omega) (by decide) (by decide)]
    rfl
  have hd := div64_ev ((V * 65536 : Nat) : Int) (by omega) (by omega)
  rw [hq, hr] at hd
  have q1 : V * 65536 / 100000000000000000 < 65536 := by omega
  have r1 : V * 65536 % 100000000000000000 < 100000000000000000 := Nat.mod_lt _ (by decide)
  generalize V * 65536 / 100000000000000000 = q at *
  generalize V * 65536 % 100000000000000000 = r at *
  have e1 : IntKind.u64.wrap (IntKind.u64.wrap ((U : Int) * 65536) + (q : Int)) = ((U * 65536 + q : Nat) : Int) := by rw [uw, uw]; omega

  have fin : ∀ b : Bool, b = upB ng r (if more = true then 1 else 0) → Ev (fun k => dec_Parse.j5 k ((U * 65536 + q : Nat) : Int) b ng g p) (if U * 65536 + q + (if upB ng r (if more = true then 1 else 0) = true then 1 else 0) < 4294967296 then (sg ng (U * 65536 + q + (if upB ng r (if more = true then 1 else 0) = true then 1 else 0)), 0) else (0, 2)) := by
    intro b hb
    rw [← hb]
    have g6 : ∀ v : Nat, v < 8589934592 → Ev (fun k => dec_Parse.j6 k (v : Int) ng g p) (if v < 4294967296 then (sg ng v, 0) else (0, 2)) := by
      intro v hv
      by_cases h : v < 4294967296
      · rw [if_pos h]
        refine Ev.step (fun k => by rw [dec_Parse.j6, if_neg (by omega)]) ?_
        cases ng with
        | true =>
          simp only [if_true]
          rw [w64s (v : Int) (by omega) (by omega), w64s (-(v : Int)) (by omega) (by omega)]
          exact Ev.now _
        | false =>
          simp only [Bool.false_eq_true, if_false]
          rw [w64s (v : Int) (by omega) (by omega)]
          exact Ev.now _
      · rw [if_neg h]
        exact Ev.step (fun k => by rw [dec_Parse.j6, if_pos (by omega)]) (Ev.now _)
    cases b with
    | true =>
      have e2 : IntKind.u64.wrap (((U * 65536 + q : Nat) : Int) + 1) = ((U * 65536 + q + 1 : Nat) : Int) := by rw [uw]; omega
      simp only [if_true]
      exact Ev.step (fun k => by rw [dec_Parse.j5, if_pos rfl, e2]) (g6 _ (by omega))
    | false =>
      simp only [Bool.false_eq_true, if_false, Nat.add_zero]
      exact Ev.step (fun k => by rw [dec_Parse.j5, if_neg (by decide)]) (g6 _ (by omega))
  refine Ev.step (fun k => by rw [dec_Parse.j4, hm]) ?_
  simp only [Option.bind_some]
  refine Ev.bind hd ?_
  simp only [e1]
  by_cases h1 : (r : Int) > 50000000000000000
  · simp only [if_pos h1]
    exact fin true (by unfold upB; rw [decide_eq_true (show 50000000000000000 < r by omega)]; rfl)
  · simp only [if_neg h1]
    by_cases h2 : (r : Int) = 50000000000000000
    · simp only [if_pos h2]
      have hr2 : r = 50000000000000000 := by omega
      cases more with
      | true =>
        simp only [if_true]
        exact fin true (by subst hr2; cases ng <;> decide)
      | false =>
        simp only [Bool.false_eq_true, if_false]
        exact fin (!ng) (by subst hr2; cases ng <;> decide)
    · simp only [if_neg h2]
      exact fin false (by
        unfold upB
        rw [decide_eq_false (show ¬ 50000000000000000 < r by omega), beq_eq_false_iff_ne.mpr (show r ≠ 50000000000000000 by omega)]
        rfl)
theorem inb_sg (g : Bool) (v : Nat) : inb (sg g v) ↔ v < 4294967296 := by
  unfold inb sg
  cases g with
  | true => simp only [if_true]; omega
  | false => simp only [Bool.false_eq_true, if_false]; omega
theorem decparse_ev (s : ByteArray) (hs : s.size ≤ 300) : Ev (fun k => dec_Parse.f k s) (parseS (bytesOf s)) := by
  unfold dec_Parse.f parseS
  have h0 : ((0 : Nat) : Int) = 0 := rfl
  have hsc := decscan_ev s (by omega) 0 (Nat.zero_le _) true
  rw [h0] at hsc
  refine Ev.bind hsc ?_
  have hle := scanS_le (L := bytesOf s) (i := 0) (Nat.zero_le _) true
  have bad : Ev (fun k => dec_Parse.j0 k s true) (0, 3) := Ev.step (f := fun _ => some (0, 3)) (fun k => by rw [dec_Parse.j0, if_pos rfl]) (Ev.now _)
  by_cases hn : isNum (bytesOf s)
  · rw [if_pos hn]
    have e1 : (scanS (bytesOf s) 0 true).1 = s.size := by rw [show scanS (bytesOf s) 0 true = _ from hn, bytesOf_length]
    have e2 : (scanS (bytesOf s) 0 true).2 = true := by rw [show scanS (bytesOf s) 0 true = _ from hn]
    simp only [e1, e2, if_true]
    rw [decide_eq_false (Int.lt_irrefl _)]
    obtain ⟨g, p, t, q1, q2, q3, q4, q5, q6, q7, q8⟩ := read_ev s (by omega) hn
    have hspec : specR (negS (bytesOf s)) (dv (digS (bytesOf s))) (epwS 1000 (bytesOf s) - behS (bytesOf s)) = specR (negS (bytesOf s)) (dv g) (p - g.length) := by
      rw [← epw_far _ _ (by rw [bytesOf_length]; exact hs) 1099511627776 (by decide)]
      unfold specR
      have h := specN_shift (negS (bytesOf s)) (dv g) (p - g.length) t
      rw [← q1, show p - (g.length : Int) - (t : Int) = epwS 1099511627776 (bytesOf s) - behS (bytesOf s) by omega] at h
      rw [h]
    rw [hspec]
    refine Ev.step (fun k => by rw [dec_Parse.j0, if_neg (by decide)]) (Ev.bind q8 ?_)
    generalize negS (bytesOf s) = ng at *

    have go : (g ≠ [] → p ≤ 5) → Ev (fun k => dec_Parse.j1 k false ng g p) (specR ng (dv g) (p - g.length)) := by
      intro hp5
      have hlow : F g (p + (-4) - 1) = 0 := by
        by_cases hg0 : g = []
        · subst hg0; unfold F; split <;> simp [dv_nil]
        · exact F_low _ _ (by have := hp5 hg0; omega)
      refine Ev.step (fun k => by rw [dec_Parse.j1, if_neg (by decide)]) ?_
      refine parse_up ng q3 (by omega) p q6 _ 5 (-4) 0 (by decide) (by decide) hlow.symm (by decide) (fun hup => ?_)
      refine parse_behind ng q3 (by omega) p q6 _ _ 17 1 0 (by decide) (by decide) (by simp) (by decide) (fun v hv hvlt => ?_)
      have h := parse_round ng g p (F g p) v (decide (g ≠ [] ∧ p + 17 < g.length)) hup hvlt
      have h17 := spec_17 ng q3 q5 p
      rw [← hv] at h17
      have a1 : (F g p * 100000000000000000 + v) * 65536 / 100000000000000000 = F g p * 65536 + v * 65536 / 100000000000000000 := by omega
      have a2 : (F g p * 100000000000000000 + v) * 65536 % 100000000000000000 = v * 65536 % 100000000000000000 := by omega
      rw [a1, a2] at h17
      have a3 : (if decide (g ≠ [] ∧ p + 17 < (g.length : Int)) = true then 1 else 0 : Nat) = (if g ≠ [] ∧ p + 17 < (g.length : Int) then 1 else 0) := by simp only [decide_eq_true_eq]
      rw [a3] at h
      unfold specR
      rw [h17]
      by_cases hb : F g p * 65536 + v * 65536 / 100000000000000000 + (if upB ng (v * 65536 % 100000000000000000) (if g ≠ [] ∧ p + 17 < (g.length : Int) then 1 else 0) = true then 1 else 0) < 4294967296
      · rw [if_pos hb] at h
        rw [if_pos ((inb_sg _ _).2 hb)]
        exact h
      · rw [if_neg hb] at h
        rw [if_neg (fun hi => hb ((inb_sg _ _).1 hi))]
        exact h
    by_cases hp : p > 5
    · simp only [if_pos hp]
      by_cases hg0 : g = []
      · subst hg0
        exact go (fun h => absurd rfl h)
      · have hpos := List.length_pos_iff.mpr hg0
        rw [decide_eq_true hpos]
        have hns := spec_great ng q4 hg0 p hp
        unfold specR
        rw [if_neg hns]
        exact Ev.step (fun k => by rw [dec_Parse.j1, if_pos rfl]) (Ev.now _)
    · simp only [if_neg hp]
      exact go (fun _ => by omega)
  · rw [if_neg hn]
    cases h2 : (scanS (bytesOf s) 0 true).2 with
    | false =>
      simp only [Bool.false_eq_true, if_false]
      exact bad
    | true =>
      simp only [if_true]
      have h1 : (scanS (bytesOf s) 0 true).1 ≠ (bytesOf s).length := fun h => hn (Prod.ext h h2)
      rw [bytesOf_length] at hle h1
      rw [decide_eq_true (show ((scanS (bytesOf s) 0 true).1 : Int) < (s.size : Int) by omega)]
      exact bad
end Go.Proofs.YtfpnglgipchjhaaDoor.PR
namespace Go.Proofs.YtfpnglgipchjhaaDoor.PR
open Go.RowKit Go.Proofs.YtfpnglgipchjhaaDoorW.PrintWords Go.Proofs.YtfpnglgipchjhaaDoorW.PrintLast Go.Proofs.YtfpnglgipchjhaaDoorW.PrintMore
attribute [local go_sem] max2_int min2_int max_two min_two max_three min_three max_four min_four
set_option linter.unusedVariables false
set_option linter.unusedSimpArgs false
mutual
def pointillistref04_Read.j0 : Nat → ByteArray → Int → Bool → Bool → Int → Option (Bool × Bool × List Int × Int)
 | 0, _, _, _, _, _ => none
 | k + 1, x0, x4, x240000, x240001, x240003 => pointillistref04_Read.l0 k x0 x4 0 false x240000 x240001 ([] : List Int) x240003
def pointillistref04_Read.l0 : Nat → ByteArray → Int → Int → Bool → Bool → Bool → List Int → Int → Option (Bool × Bool × List Int × Int)
 | 0, _, _, _, _, _, _, _, _ => none
 | k + 1, x0, x4, x5, x6, x240000, x240001, x240002, x240003 => if x4 < (x0.size : Int) then (if 0 ≤ x4 then (if (bt x0 x4) = 101 then (pointillistref04_Read.j2 k x0 x4 x5 x6 false x240000 x240001 x240002 x240003) else (pointillistref04_Read.j2 k x0 x4 x5 x6 ((bt x0 x4) != 69) x240000 x240001 x240002 x240003)) else (none)) else (pointillistref04_Read.j2 k x0 x4 x5 x6 false x240000 x240001 x240002 x240003)
def pointillistref04_Read.j2 : Nat → ByteArray → Int → Int → Bool → Bool → Bool → Bool → List Int → Int → Option (Bool × Bool × List Int × Int)
 | 0, _, _, _, _, _, _, _, _, _ => none
 | k + 1, x0, x4, x5, x6, x34, x240000, x240001, x240002, x240003 => if x34 = true then (if 0 ≤ x4 then (if x4 < (x0.size : Int) then (if (bt x0 x4) = 46 then (pointillistref04_Read.l0 k x0 (wrap64 (x4 + 1)) x5 true x240000 x240001 x240002 x240003) else ((pointillistref04_small.f k 10).bind fun bt241 => ((pointillistref01_Mul.f k x240001 x240002 bt241.1 bt241.2).bind fun bt245 => ((pointillistref04_small.f k (((bt x0 x4) - 48) % 256)).bind fun bt249 => ((pointillistref01_Add.f k bt245.1 bt245.2 bt249.1 bt249.2).bind fun bt253 => (if x6 = true then (pointillistref04_Read.l0 k x0 (wrap64 (x4 + 1)) (wrap64 (x5 + 1)) x6 x240000 bt253.1 bt253.2 x240003) else (pointillistref04_Read.l0 k x0 (wrap64 (x4 + 1)) x5 x6 x240000 bt253.1 bt253.2 x240003))))))) else (none)) else (none)) else (if x4 < (x0.size : Int) then ((pointillistref04_sign.f x0 (wrap64 (x4 + 1))).bind fun t257 => (if t257 = true then (if 0 ≤ (wrap64 (x4 + 1)) then (if (wrap64 (x4 + 1)) < (x0.size : Int) then (pointillistref04_Read.j3 k x0 (wrap64 ((wrap64 (x4 + 1)) + 1)) x5 0 ((bt x0 (wrap64 (x4 + 1))) == 45) x240000 x240001 x240002 x240003) else (none)) else (none)) else (pointillistref04_Read.j3 k x0 (wrap64 (x4 + 1)) x5 0 false x240000 x240001 x240002 x240003))) else (some (x240000, x240001, x240002, wrap64 (-x5))))
def pointillistref04_Read.j3 : Nat → ByteArray → Int → Int → Int → Bool → Bool → Bool → List Int → Int → Option (Bool × Bool × List Int × Int)
 | 0, _, _, _, _, _, _, _, _, _ => none
 | k + 1, x0, x4, x5, x7, x8, x240000, x240001, x240002, x240003 => pointillistref04_Read.l1 k x0 x4 x5 x7 x8 x240000 x240001 x240002 x240003
def pointillistref04_Read.l1 : Nat → ByteArray → Int → Int → Int → Bool → Bool → Bool → List Int → Int → Option (Bool × Bool × List Int × Int)
 | 0, _, _, _, _, _, _, _, _, _ => none
 | k + 1, x0, x4, x5, x7, x8, x240000, x240001, x240002, x240003 => if x4 < (x0.size : Int) then (if 0 ≤ x4 then (if (wrap64 ((wrap64 (x7 * 10)) + (((bt x0 x4) - 48) % 256))) > 1000 then (pointillistref04_Read.l1 k x0 (wrap64 (x4 + 1)) x5 1000 x8 x240000 x240001 x240002 x240003) else (pointillistref04_Read.l1 k x0 (wrap64 (x4 + 1)) x5 (wrap64 ((wrap64 (x7 * 10)) + (((bt x0 x4) - 48) % 256))) x8 x240000 x240001 x240002 x240003)) else (none)) else (if x8 = true then (some (x240000, x240001, x240002, wrap64 ((wrap64 (-x7)) - x5))) else (some (x240000, x240001, x240002, wrap64 (x7 - x5))))
end
def pointillistref04_Read.f (k : Nat) (a0 : ByteArray) : Option (Bool × Bool × List Int × Int) := (pointillistref04_sign.f a0 0).bind fun t240 => (if t240 = true then (if 0 < (a0.size : Int) then (pointillistref04_Read.j0 k a0 (0 + 1) ((bt a0 0) == 45) false 0) else (none)) else (pointillistref04_Read.j0 k a0 0 false false 0))
theorem pointillistref04_Read.mono_l : ∀ k, (∀ y0 y1 y2 y3 y4, LeO (pointillistref04_Read.j0 k y0 y1 y2 y3 y4) (pointillistref04_Read.j0 (k + 1) y0 y1 y2 y3 y4)) ∧ (∀ y0 y1 y2 y3 y4 y5 y6 y7, LeO (pointillistref04_Read.l0 k y0 y1 y2 y3 y4 y5 y6 y7) (pointillistref04_Read.l0 (k + 1) y0 y1 y2 y3 y4 y5 y6 y7)) ∧ (∀ y0 y1 y2 y3 y4 y5 y6 y7 y8, LeO (pointillistref04_Read.j2 k y0 y1 y2 y3 y4 y5 y6 y7 y8) (pointillistref04_Read.j2 (k + 1) y0 y1 y2 y3 y4 y5 y6 y7 y8)) ∧ (∀ y0 y1 y2 y3 y4 y5 y6 y7 y8, LeO (pointillistref04_Read.j3 k y0 y1 y2 y3 y4 y5 y6 y7 y8) (pointillistref04_Read.j3 (k + 1) y0 y1 y2 y3 y4 y5 y6 y7 y8)) ∧ (∀ y0 y1 y2 y3 y4 y5 y6 y7 y8, LeO (pointillistref04_Read.l1 k y0 y1 y2 y3 y4 y5 y6 y7 y8) (pointillistref04_Read.l1 (k + 1) y0 y1 y2 y3 y4 y5 y6 y7 y8))
 | 0 => ⟨fun _ _ _ _ _ r h => by simp [pointillistref04_Read.j0] at h, fun _ _ _ _ _ _ _ _ r h => by simp [pointillistref04_Read.l0] at h, fun _ _ _ _ _ _ _ _ _ r h => by simp [pointillistref04_Read.j2] at h, fun _ _ _ _ _ _ _ _ _ r h => by simp [pointillistref04_Read.j3] at h, fun _ _ _ _ _ _ _ _ _ r h => by simp [pointillistref04_Read.l1] at h⟩
 | k + 1 => by
  obtain ⟨ih0, ih1, ih2, ih3, ih4⟩ := pointillistref04_Read.mono_l k
  refine ⟨?_, ?_, ?_, ?_, ?_⟩
  ·
   intro y0 y1 y2 y3 y4
   unfold pointillistref04_Read.j0
   repeat' first
   | (with_reducible exact ih0 _ _ _ _ _)
   | (with_reducible exact ih1 _ _ _ _ _ _ _ _)
   | (with_reducible exact ih2 _ _ _ _ _ _ _ _ _)
   | (with_reducible exact ih3 _ _ _ _ _ _ _ _ _)
   | (with_reducible exact ih4 _ _ _ _ _ _ _ _ _)
   | (with_reducible exact pointillistref01_Add.mono _ _ _ _ _)
   | (with_reducible exact pointillistref01_Mul.mono _ _ _ _ _)
   | (with_reducible exact pointillistref04_small.mono _ _)
   | (with_reducible exact LeO.refl _)
   | (with_reducible exact LeO.none _)
   | (with_reducible refine LeO.ite ?_ ?_)
   | (with_reducible refine LeO.bind ?_ (fun _ => ?_))
   | exact ih0 _ _ _ _ _
   | exact ih1 _ _ _ _ _ _ _ _
   | exact ih2 _ _ _ _ _ _ _ _ _
   | exact ih3 _ _ _ _ _ _ _ _ _
   | exact ih4 _ _ _ _ _ _ _ _ _
   | exact pointillistref01_Add.mono _ _ _ _ _
   | exact pointillistref01_Mul.mono _ _ _ _ _
   | exact pointillistref04_small.mono _ _
   | exact LeO.none _
   | refine LeO.ite ?_ ?_
   | refine LeO.bind ?_ (fun _ => ?_)
  ·
   intro y0 y1 y2 y3 y4 y5 y6 y7
   unfold pointillistref04_Read.l0
   repeat' first
   | (with_reducible exact ih0 _ _ _ _ _)
   | (with_reducible exact ih1 _ _ _ _ _ _ _ _)
   | (with_reducible exact ih2 _ _ _ _ _ _ _ _ _)
   | (with_reducible exact ih3 _ _ _ _ _ _ _ _ _)
   | (with_reducible exact ih4 _ _ _ _ _ _ _ _ _)
   | (with_reducible exact pointillistref01_Add.mono _ _ _ _ _)
   | (with_reducible exact pointillistref01_Mul.mono _ _ _ _ _)
   | (with_reducible exact pointillistref04_small.mono _ _)
   | (with_reducible exact LeO.refl _)
   | (with_reducible exact LeO.none _)
   | (with_reducible refine LeO.ite ?_ ?_)
   | (with_reducible refine LeO.bind ?_ (fun _ => ?_))
   | exact ih0 _ _ _ _ _
   | exact ih1 _ _ _ _ _ _ _ _
   | exact ih2 _ _ _ _ _ _ _ _ _
   | exact ih3 _ _ _ _ _ _ _ _ _
   | exact ih4 _ _ _ _ _ _ _ _ _
   | exact pointillistref01_Add.mono _ _ _ _ _
   | exact pointillistref01_Mul.mono _ _ _ _ _
   | exact pointillistref04_small.mono _ _
   | exact LeO.none _
   | refine LeO.ite ?_ ?_
   | refine LeO.bind ?_ (fun _ => ?_)
  ·
   intro y0 y1 y2 y3 y4 y5 y6 y7 y8
   unfold pointillistref04_Read.j2
   repeat' first
   | (with_reducible exact ih0 _ _ _ _ _)
   | (with_reducible exact ih1 _ _ _ _ _ _ _ _)
   | (with_reducible exact ih2 _ _ _ _ _ _ _ _ _)
   | (with_reducible exact ih3 _ _ _ _ _ _ _ _ _)
   | (with_reducible exact ih4 _ _ _ _ _ _ _ _ _)
   | (with_reducible exact pointillistref01_Add.mono _ _ _ _ _)
   | (with_reducible exact pointillistref01_Mul.mono _ _ _ _ _)
   | (with_reducible exact pointillistref04_small.mono _ _)
   | (with_reducible exact LeO.refl _)
   | (with_reducible exact LeO.none _)
   | (with_reducible refine LeO.ite ?_ ?_)
   | (with_reducible refine LeO.bind ?_ (fun _ => ?_))
   | exact ih0 _ _ _ _ _
   | exact ih1 _ _ _ _ _ _ _ _
   | exact ih2 _ _ _ _ _ _ _ _ _
   | exact ih3 _ _ _ _ _ _ _ _ _
   | exact ih4 _ _ _ _ _ _ _ _ _
   | exact pointillistref01_Add.mono _ _ _ _ _
   | exact pointillistref01_Mul.mono _ _ _ _ _
   | exact pointillistref04_small.mono _ _
   | exact LeO.none _
   | refine LeO.ite ?_ ?_
   | refine LeO.bind ?_ (fun _ => ?_)
  ·
   intro y0 y1 y2 y3 y4 y5 y6 y7 y8
   unfold pointillistref04_Read.j3
   repeat' first
   | (with_reducible exact ih0 _ _ _ _ _)
   | (with_reducible exact ih1 _ _ _ _ _ _ _ _)
   | (with_reducible exact ih2 _ _ _ _ _ _ _ _ _)
   | (with_reducible exact ih3 _ _ _ _ _ _ _ _ _)
   | (with_reducible exact ih4 _ _ _ _ _ _ _ _ _)
   | (with_reducible exact pointillistref01_Add.mono _ _ _ _ _)
   | (with_reducible exact pointillistref01_Mul.mono _ _ _ _ _)
   | (with_reducible exact pointillistref04_small.mono _ _)
   | (with_reducible exact LeO.refl _)
   | (with_reducible exact LeO.none _)
   | (with_reducible refine LeO.ite ?_ ?_)
   | (with_reducible refine LeO.bind ?_ (fun _ => ?_))
   | exact ih0 _ _ _ _ _
   | exact ih1 _ _ _ _ _ _ _ _
   | exact ih2 _ _ _ _ _ _ _ _ _
   | exact ih3 _ _ _ _ _ _ _ _ _
   | exact ih4 _ _ _ _ _ _ _ _ _
   | exact pointillistref01_Add.mono _ _ _ _ _
   | exact pointillistref01_Mul.mono _ _ _ _ _
   | exact pointillistref04_small.mono _ _
   | exact LeO.none _
   | refine LeO.ite ?_ ?_
   | refine LeO.bind ?_ (fun _ => ?_)
  ·
   intro y0 y1 y2 y3 y4 y5 y6 y7 y8
   unfold pointillistref04_Read.l1
   repeat' first
   | (with_reducible exact ih0 _ _ _ _ _)
   | (with_reducible exact ih1 _ _ _ _ _ _ _ _)
   | (with_reducible exact ih2 _ _ _ _ _ _ _ _ _)
   | (with_reducible exact ih3 _ _ _ _ _ _ _ _ _)
   | (with_reducible exact ih4 _ _ _ _ _ _ _ _ _)
   | (with_reducible exact pointillistref01_Add.mono _ _ _ _ _)
   | (with_reducible exact pointillistref01_Mul.mono _ _ _ _ _)
   | (with_reducible exact pointillistref04_small.mono _ _)
   | (with_reducible exact LeO.refl _)
   | (with_reducible exact LeO.none _)
   | (with_reducible refine LeO.ite ?_ ?_)
   | (with_reducible refine LeO.bind ?_ (fun _ => ?_))
   | exact ih0 _ _ _ _ _
   | exact ih1 _ _ _ _ _ _ _ _
   | exact ih2 _ _ _ _ _ _ _ _ _
   | exact ih3 _ _ _ _ _ _ _ _ _
   | exact ih4 _ _ _ _ _ _ _ _ _
   | exact pointillistref01_Add.mono _ _ _ _ _
   | exact pointillistref01_Mul.mono _ _ _ _ _
   | exact pointillistref04_small.mono _ _
   | exact LeO.none _
   | refine LeO.ite ?_ ?_
   | refine LeO.bind ?_ (fun _ => ?_)
theorem pointillistref04_Read.mono : ∀ a0 k, LeO (pointillistref04_Read.f k a0) (pointillistref04_Read.f (k + 1) a0) := by
 intro a0 k
 obtain ⟨ih0, ih1, ih2, ih3, ih4⟩ := pointillistref04_Read.mono_l k
 unfold pointillistref04_Read.f
 repeat' first
   | (with_reducible exact ih0 _ _ _ _ _)
   | (with_reducible exact ih1 _ _ _ _ _ _ _ _)
   | (with_reducible exact ih2 _ _ _ _ _ _ _ _ _)
   | (with_reducible exact ih3 _ _ _ _ _ _ _ _ _)
   | (with_reducible exact ih4 _ _ _ _ _ _ _ _ _)
   | (with_reducible exact pointillistref01_Add.mono _ _ _ _ _)
   | (with_reducible exact pointillistref01_Mul.mono _ _ _ _ _)
   | (with_reducible exact pointillistref04_small.mono _ _)
   | (with_reducible exact LeO.refl _)
   | (with_reducible exact LeO.none _)
   | (with_reducible refine LeO.ite ?_ ?_)
   | (with_reducible refine LeO.bind ?_ (fun _ => ?_))
   | exact ih0 _ _ _ _ _
   | exact ih1 _ _ _ _ _ _ _ _
   | exact ih2 _ _ _ _ _ _ _ _ _
   | exact ih3 _ _ _ _ _ _ _ _ _
   | exact ih4 _ _ _ _ _ _ _ _ _
   | exact pointillistref01_Add.mono _ _ _ _ _
   | exact pointillistref01_Mul.mono _ _ _ _ _
   | exact pointillistref04_small.mono _ _
   | exact LeO.none _
   | refine LeO.ite ?_ ?_
   | refine LeO.bind ?_ (fun _ => ?_)
def pointillistref04_Read.T12 : Bool × List (List Nat × List Nat) := (true, [([], []), ([0], [0]), ([], []), ([1, 2, 2], [1, 2]), ([], []), ([], []), ([4, 5], [4, 5]), ([6], [6]), ([7], [7]), ([8, 3], [8]), ([3, 9, 9], [3, 9]), ([0, 1, 2, 3, 4, 5, 6, 7, 8, 9, 10], []), ([11, 10, 10, 0, 1, 2, 3, 4, 5, 6, 7, 8, 9, 10], [10, 11])])
def pointillistref04_Read.B12 : List Nat := [0, 1, 0, 7, 0, 0, 48, 112, 240, 511, 1023, 2047, 4095]
theorem pointillistref04_Read.tab12 : rtab .any (opsOf Tryd.f37 12) = pointillistref04_Read.T12 := by kernel_rfl
theorem pointillistref04_Read.bits12 : waitsOk pointillistref04_Read.T12.2 pointillistref04_Read.B12 = true := by kernel_rfl
end Go.Proofs.YtfpnglgipchjhaaDoor.PR
