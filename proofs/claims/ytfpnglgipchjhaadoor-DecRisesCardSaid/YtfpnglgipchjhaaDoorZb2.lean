/- The row and the card of the law DecRises: for every input it answers true, and each argument reads behind the call as before. The listed package-level variables read as the program's text lays them (tied by the given tie). -/
import Derived.ArgAppend
import Derived.Below
import Derived.BigQuiet
import Derived.ChangeOld
import Derived.Deep.AppendLies
import Derived.Deep.CutBlock
import Derived.Deep.DeepCutAuto
import Derived.Deep.Draws
import Derived.Deep.LoopGhost
import Derived.Deep.OwnRows
import Derived.Deep.QuietTactic
import Derived.Deep.RegionHeld3
import Derived.KernelRfl
import Derived.LaidMore
import Derived.Laws.Bits64
import Derived.Laws.BitsAllLaws
import Derived.Laws.BitsLemmas
import Derived.Laws.BytesArg
import Derived.Laws.Externs
import Derived.Laws.IdiomCopy
import Derived.Laws.MakeOwn
import Derived.Laws.OwnMore
import Derived.Laws.Rows
import Derived.Laws.Slices
import Derived.Laws.StructEq
import Derived.Laws.World
import Derived.Lib.AppendStr
import Derived.Lib.ConvBytes
import Derived.Lib.Mul64
import Derived.Maps.AppendAt
import Derived.OpenShut
import Derived.OrdersHeld
import Derived.OwnWalk
import Derived.ProofKit
import Derived.RowKit
import Derived.RowKit3
import Derived.SevenTiedAt
import Derived.ShutString
import Derived.SizedLaws
import Derived.Stop.Joined
import Derived.Tactics
import Derived.WalkKit
import Derived.WalkLawsBesides
import Derived.WideLaws
import Derived.Test.YtfpnglgipchjhaaDoorCards
import Derived.Test.YtfpnglgipchjhaaDoorLen64
import Derived.Test.YtfpnglgipchjhaaDoorProg
import Derived.Test.YtfpnglgipchjhaaDoorRows
import Derived.Test.YtfpnglgipchjhaaDoorTie
import Derived.Test.YtfpnglgipchjhaaDoorZb0
import Derived.Test.YtfpnglgipchjhaaDoorZb1
-- What this claim needs of the words, the printed walks and this session's texts (merged and cut by wip/prune.py).
namespace Go.Proofs.YtfpnglgipchjhaaDoor.PR
open Go.RowKit Go.Proofs.YtfpnglgipchjhaaDoorW.PrintWords Go.Proofs.YtfpnglgipchjhaaDoorW.PrintLast Go.Proofs.YtfpnglgipchjhaaDoorW.PrintMore
attribute [local go_sem] max2_int min2_int max_two min_two max_three min_three max_four min_four
set_option linter.unusedVariables false
set_option linter.unusedSimpArgs false
set_option maxHeartbeats 8000000 in
set_option maxRecDepth 100000 in
theorem pointillistlaw04_wakes.calls (k : Nat)  (r : Bool) (w : World) (hG : Gl w) (h : pointillistlaw04_wakes.f k  = some r) :
  Calls Tryd.prog 11 #[] w fun e w' => e = .returned (.bool r) ∧ Below w.heap.size w w' := by
 have HG := Aside0.mk hG
 clear hG
 have HB := Aside0.mk (Below.refl w.heap.size w)
 have H : ((dec_Parse.f k (⟨#[49, 46, 53]⟩ : ByteArray)).bind fun bt130 => ((dec_Parse.f k (⟨#[45, 46, 53, 101, 49]⟩ : ByteArray)).bind fun bt132 => ((dec_Parse.f k (⟨#[49, 101]⟩ : ByteArray)).bind fun bt134 => ((dec_Parse.f k (⟨#[54, 53, 53, 51, 54]⟩ : ByteArray)).bind fun bt136 => (if bt130.1 = 98304 then (if bt132.1 = (-327680) then (if bt130.2 = 0 then (if bt132.2 = 0 then (if bt134.2 = 3 then (some (bt136.2 == 2)) else (some false)) else (some false)) else (some false)) else (some false)) else (some false)))))) = some r := h
 clear h
 replace H := Option.bind_eq_some_iff.mp H
 obtain ⟨⟨t130, t131⟩, A10, H⟩ := H
 replace H : ((dec_Parse.f k (⟨#[45, 46, 53, 101, 49]⟩ : ByteArray)).bind fun bt132 => ((dec_Parse.f k (⟨#[49, 101]⟩ : ByteArray)).bind fun bt134 => ((dec_Parse.f k (⟨#[54, 53, 53, 51, 54]⟩ : ByteArray)).bind fun bt136 => (if t130 = 98304 then (if bt132.1 = (-327680) then (if t131 = 0 then (if bt132.2 = 0 then (if bt134.2 = 3 then (some (bt136.2 == 2)) else (some false)) else (some false)) else (some false)) else (some false)) else (some false))))) = some r := H
 have A1 := Aside0.mk A10
 clear A10
 replace H := Option.bind_eq_some_iff.mp H
 obtain ⟨⟨t132, t133⟩, A20, H⟩ := H
 replace H : ((dec_Parse.f k (⟨#[49, 101]⟩ : ByteArray)).bind fun bt134 => ((dec_Parse.f k (⟨#[54, 53, 53, 51, 54]⟩ : ByteArray)).bind fun bt136 => (if t130 = 98304 then (if t132 = (-327680) then (if t131 = 0 then (if t133 = 0 then (if bt134.2 = 3 then (some (bt136.2 == 2)) else (some false)) else (some false)) else (some false)) else (some false)) else (some false)))) = some r := H
 have A2 := Aside0.mk A20
 clear A20
 replace H := Option.bind_eq_some_iff.mp H
 obtain ⟨⟨t134, t135⟩, A30, H⟩ := H
 replace H : ((dec_Parse.f k (⟨#[54, 53, 53, 51, 54]⟩ : ByteArray)).bind fun bt136 => (if t130 = 98304 then (if t132 = (-327680) then (if t131 = 0 then (if t133 = 0 then (if t135 = 3 then (some (bt136.2 == 2)) else (some false)) else (some false)) else (some false)) else (some false)) else (some false))) = some r := H
 have A3 := Aside0.mk A30
 clear A30
 replace H := Option.bind_eq_some_iff.mp H
 obtain ⟨⟨t136, t137⟩, A40, H⟩ := H
 replace H : (if t130 = 98304 then (if t132 = (-327680) then (if t131 = 0 then (if t133 = 0 then (if t135 = 3 then (some (t137 == 2)) else (some false)) else (some false)) else (some false)) else (some false)) else (some false)) = some r := H
 have A4 := Aside0.mk A40
 clear A40
 by_cases c5 : t130 = 98304
 ·
  rw [if_pos c5] at H
  have c5b0 : (t130 == 98304) = true := beq_iff_eq.mpr c5
  have c5b1 : (t130 != 98304) = false := bne_eq_false_iff_eq.mpr c5
  clear c5
  by_cases c6 : t132 = (-327680)
  ·
   rw [if_pos c6] at H
   have c6b0 : (t132 == (-327680)) = true := beq_iff_eq.mpr c6
   have c6b1 : (t132 != (-327680)) = false := bne_eq_false_iff_eq.mpr c6
   clear c6
   by_cases c7 : t131 = 0
   ·
    rw [if_pos c7] at H
    have c7b0 : (t131 == 0) = true := beq_iff_eq.mpr c7
    have c7b1 : (t131 != 0) = false := bne_eq_false_iff_eq.mpr c7
    clear c7
    by_cases c8 : t133 = 0
    ·
     rw [if_pos c8] at H
     have c8b0 : (t133 == 0) = true := beq_iff_eq.mpr c8
     have c8b1 : (t133 != 0) = false := bne_eq_false_iff_eq.mpr c8
     clear c8
     by_cases c9 : t135 = 3
     ·
      rw [if_pos c9] at H
      have c9b0 : (t135 == 3) = true := beq_iff_eq.mpr c9
      have c9b1 : (t135 != 3) = false := bne_eq_false_iff_eq.mpr c9
      clear c9
      obtain rfl := Option.some.inj H
      go_enter Tryd.func11, Tryd.ntmps11
      go_wp2_with (first | ((with_reducible refine gate_callee (f := 12) rfl ?_); refine goesL_ (some 10) rfl rfl Tryd.func12 (by kernel_rfl) rfl #[.string (⟨#[49, 46, 53]⟩ : ByteArray)] rfl (by (try simp only [List.map_toArray, List.map_cons, List.map_nil]); first | done | rfl | (simp only [List.length_drop, List.length_take]; rfl)) ?_; (with_reducible refine (dec_Parse.calls k (⟨#[49, 46, 53]⟩ : ByteArray) t130 t131 _ ?side1 A1.out).mono ?_); (case side1 => exact Gl.below HG.out (wq HB.out)); rintro e w10 ⟨rfl, hb⟩; refine ⟨_, rfl, ?_⟩; have n0_ := Aside0.mk (below_step (wq HB.out) hb); clear HB; have HB := n0_; clear n0_; (try clear hb); (try clear hb2); (try clear hk); (try clear hi)) | ((with_reducible refine gate_callee (f := 12) rfl ?_); refine goesL_ (some 14) rfl rfl Tryd.func12 (by kernel_rfl) rfl #[.string (⟨#[45, 46, 53, 101, 49]⟩ : ByteArray)] rfl (by (try simp only [List.map_toArray, List.map_cons, List.map_nil]); first | done | rfl | (simp only [List.length_drop, List.length_take]; rfl)) ?_; (with_reducible refine (dec_Parse.calls k (⟨#[45, 46, 53, 101, 49]⟩ : ByteArray) t132 t133 _ ?side1 A2.out).mono ?_); (case side1 => exact Gl.below HG.out (wq HB.out)); rintro e w11 ⟨rfl, hb⟩; refine ⟨_, rfl, ?_⟩; have n0_ := Aside0.mk (below_step (wq HB.out) hb); clear HB; have HB := n0_; clear n0_; (try clear hb); (try clear hb2); (try clear hk); (try clear hi)) | ((with_reducible refine gate_callee (f := 12) rfl ?_); refine goesL_ (some 18) rfl rfl Tryd.func12 (by kernel_rfl) rfl #[.string (⟨#[49, 101]⟩ : ByteArray)] rfl (by (try simp only [List.map_toArray, List.map_cons, List.map_nil]); first | done | rfl | (simp only [List.length_drop, List.length_take]; rfl)) ?_; (with_reducible refine (dec_Parse.calls k (⟨#[49, 101]⟩ : ByteArray) t134 t135 _ ?side1 A3.out).mono ?_); (case side1 => exact Gl.below HG.out (wq HB.out)); rintro e w12 ⟨rfl, hb⟩; refine ⟨_, rfl, ?_⟩; have n0_ := Aside0.mk (below_step (wq HB.out) hb); clear HB; have HB := n0_; clear n0_; (try clear hb); (try clear hb2); (try clear hk); (try clear hi)) | ((with_reducible refine gate_callee (f := 12) rfl ?_); refine goesL_ (some 22) rfl rfl Tryd.func12 (by kernel_rfl) rfl #[.string (⟨#[54, 53, 53, 51, 54]⟩ : ByteArray)] rfl (by (try simp only [List.map_toArray, List.map_cons, List.map_nil]); first | done | rfl | (simp only [List.length_drop, List.length_take]; rfl)) ?_; (with_reducible refine (dec_Parse.calls k (⟨#[54, 53, 53, 51, 54]⟩ : ByteArray) t136 t137 _ ?side1 A4.out).mono ?_); (case side1 => exact Gl.below HG.out (wq HB.out)); rintro e w13 ⟨rfl, hb⟩; refine ⟨_, rfl, ?_⟩; have n0_ := Aside0.mk (below_step (wq HB.out) hb); clear HB; have HB := n0_; clear n0_; (try clear hb); (try clear hb2); (try clear hk); (try clear hi)))
      go_ret
      exact ⟨by first | rfl | (simp [errW_none, errW_some] <;> rfl) | (simp [*, errW_none, errW_some] <;> rfl), by exact wq HB.out⟩
     ·
      rw [if_neg c9] at H
      have c9b0 : (t135 == 3) = false := beq_eq_false_iff_ne.mpr c9
      have c9b1 : (t135 != 3) = true := bne_iff_ne.mpr c9
      obtain rfl := Option.some.inj H
      go_enter Tryd.func11, Tryd.ntmps11
      go_wp2_with (first | ((with_reducible refine gate_callee (f := 12) rfl ?_); refine goesL_ (some 10) rfl rfl Tryd.func12 (by kernel_rfl) rfl #[.string (⟨#[49, 46, 53]⟩ : ByteArray)] rfl (by (try simp only [List.map_toArray, List.map_cons, List.map_nil]); first | done | rfl | (simp only [List.length_drop, List.length_take]; rfl)) ?_; (with_reducible refine (dec_Parse.calls k (⟨#[49, 46, 53]⟩ : ByteArray) t130 t131 _ ?side1 A1.out).mono ?_); (case side1 => exact Gl.below HG.out (wq HB.out)); rintro e w14 ⟨rfl, hb⟩; refine ⟨_, rfl, ?_⟩; have n0_ := Aside0.mk (below_step (wq HB.out) hb); clear HB; have HB := n0_; clear n0_; (try clear hb); (try clear hb2); (try clear hk); (try clear hi)) | ((with_reducible refine gate_callee (f := 12) rfl ?_); refine goesL_ (some 14) rfl rfl Tryd.func12 (by kernel_rfl) rfl #[.string (⟨#[45, 46, 53, 101, 49]⟩ : ByteArray)] rfl (by (try simp only [List.map_toArray, List.map_cons, List.map_nil]); first | done | rfl | (simp only [List.length_drop, List.length_take]; rfl)) ?_; (with_reducible refine (dec_Parse.calls k (⟨#[45, 46, 53, 101, 49]⟩ : ByteArray) t132 t133 _ ?side1 A2.out).mono ?_); (case side1 => exact Gl.below HG.out (wq HB.out)); rintro e w15 ⟨rfl, hb⟩; refine ⟨_, rfl, ?_⟩; have n0_ := Aside0.mk (below_step (wq HB.out) hb); clear HB; have HB := n0_; clear n0_; (try clear hb); (try clear hb2); (try clear hk); (try clear hi)) | ((with_reducible refine gate_callee (f := 12) rfl ?_); refine goesL_ (some 18) rfl rfl Tryd.func12 (by kernel_rfl) rfl #[.string (⟨#[49, 101]⟩ : ByteArray)] rfl (by (try simp only [List.map_toArray, List.map_cons, List.map_nil]); first | done | rfl | (simp only [List.length_drop, List.length_take]; rfl)) ?_; (with_reducible refine (dec_Parse.calls k (⟨#[49, 101]⟩ : ByteArray) t134 t135 _ ?side1 A3.out).mono ?_); (case side1 => exact Gl.below HG.out (wq HB.out)); rintro e w16 ⟨rfl, hb⟩; refine ⟨_, rfl, ?_⟩; have n0_ := Aside0.mk (below_step (wq HB.out) hb); clear HB; have HB := n0_; clear n0_; (try clear hb); (try clear hb2); (try clear hk); (try clear hi)) | ((with_reducible refine gate_callee (f := 12) rfl ?_); refine goesL_ (some 22) rfl rfl Tryd.func12 (by kernel_rfl) rfl #[.string (⟨#[54, 53, 53, 51, 54]⟩ : ByteArray)] rfl (by (try simp only [List.map_toArray, List.map_cons, List.map_nil]); first | done | rfl | (simp only [List.length_drop, List.length_take]; rfl)) ?_; (with_reducible refine (dec_Parse.calls k (⟨#[54, 53, 53, 51, 54]⟩ : ByteArray) t136 t137 _ ?side1 A4.out).mono ?_); (case side1 => exact Gl.below HG.out (wq HB.out)); rintro e w17 ⟨rfl, hb⟩; refine ⟨_, rfl, ?_⟩; have n0_ := Aside0.mk (below_step (wq HB.out) hb); clear HB; have HB := n0_; clear n0_; (try clear hb); (try clear hb2); (try clear hk); (try clear hi)))
      go_ret
      exact ⟨by first | rfl | (simp [errW_none, errW_some] <;> rfl) | (simp [*, errW_none, errW_some] <;> rfl), by exact wq HB.out⟩
    ·
     rw [if_neg c8] at H
     have c8b0 : (t133 == 0) = false := beq_eq_false_iff_ne.mpr c8
     have c8b1 : (t133 != 0) = true := bne_iff_ne.mpr c8
     obtain rfl := Option.some.inj H
     go_enter Tryd.func11, Tryd.ntmps11
     go_wp2_with (first | ((with_reducible refine gate_callee (f := 12) rfl ?_); refine goesL_ (some 10) rfl rfl Tryd.func12 (by kernel_rfl) rfl #[.string (⟨#[49, 46, 53]⟩ : ByteArray)] rfl (by (try simp only [List.map_toArray, List.map_cons, List.map_nil]); first | done | rfl | (simp only [List.length_drop, List.length_take]; rfl)) ?_; (with_reducible refine (dec_Parse.calls k (⟨#[49, 46, 53]⟩ : ByteArray) t130 t131 _ ?side1 A1.out).mono ?_); (case side1 => exact Gl.below HG.out (wq HB.out)); rintro e w18 ⟨rfl, hb⟩; refine ⟨_, rfl, ?_⟩; have n0_ := Aside0.mk (below_step (wq HB.out) hb); clear HB; have HB := n0_; clear n0_; (try clear hb); (try clear hb2); (try clear hk); (try clear hi)) | ((with_reducible refine gate_callee (f := 12) rfl ?_); refine goesL_ (some 14) rfl rfl Tryd.func12 (by kernel_rfl) rfl #[.string (⟨#[45, 46, 53, 101, 49]⟩ : ByteArray)] rfl (by (try simp only [List.map_toArray, List.map_cons, List.map_nil]); first | done | rfl | (simp only [List.length_drop, List.length_take]; rfl)) ?_; (with_reducible refine (dec_Parse.calls k (⟨#[45, 46, 53, 101, 49]⟩ : ByteArray) t132 t133 _ ?side1 A2.out).mono ?_); (case side1 => exact Gl.below HG.out (wq HB.out)); rintro e w19 ⟨rfl, hb⟩; refine ⟨_, rfl, ?_⟩; have n0_ := Aside0.mk (below_step (wq HB.out) hb); clear HB; have HB := n0_; clear n0_; (try clear hb); (try clear hb2); (try clear hk); (try clear hi)) | ((with_reducible refine gate_callee (f := 12) rfl ?_); refine goesL_ (some 18) rfl rfl Tryd.func12 (by kernel_rfl) rfl #[.string (⟨#[49, 101]⟩ : ByteArray)] rfl (by (try simp only [List.map_toArray, List.map_cons, List.map_nil]); first | done | rfl | (simp only [List.length_drop, List.length_take]; rfl)) ?_; (with_reducible refine (dec_Parse.calls k (⟨#[49, 101]⟩ : ByteArray) t134 t135 _ ?side1 A3.out).mono ?_); (case side1 => exact Gl.below HG.out (wq HB.out)); rintro e w20 ⟨rfl, hb⟩; refine ⟨_, rfl, ?_⟩; have n0_ := Aside0.mk (below_step (wq HB.out) hb); clear HB; have HB := n0_; clear n0_; (try clear hb); (try clear hb2); (try clear hk); (try clear hi)) | ((with_reducible refine gate_callee (f := 12) rfl ?_); refine goesL_ (some 22) rfl rfl Tryd.func12 (by kernel_rfl) rfl #[.string (⟨#[54, 53, 53, 51, 54]⟩ : ByteArray)] rfl (by (try simp only [List.map_toArray, List.map_cons, List.map_nil]); first | done | rfl | (simp only [List.length_drop, List.length_take]; rfl)) ?_; (with_reducible refine (dec_Parse.calls k (⟨#[54, 53, 53, 51, 54]⟩ : ByteArray) t136 t137 _ ?side1 A4.out).mono ?_); (case side1 => exact Gl.below HG.out (wq HB.out)); rintro e w21 ⟨rfl, hb⟩; refine ⟨_, rfl, ?_⟩; have n0_ := Aside0.mk (below_step (wq HB.out) hb); clear HB; have HB := n0_; clear n0_; (try clear hb); (try clear hb2); (try clear hk); (try clear hi)))
     go_ret
     exact ⟨by first | rfl | (simp [errW_none, errW_some] <;> rfl) | (simp [*, errW_none, errW_some] <;> rfl), by exact wq HB.out⟩
   ·
    rw [if_neg c7] at H
    have c7b0 : (t131 == 0) = false := beq_eq_false_iff_ne.mpr c7
    have c7b1 : (t131 != 0) = true := bne_iff_ne.mpr c7
    obtain rfl := Option.some.inj H
    go_enter Tryd.func11, Tryd.ntmps11
    go_wp2_with (first | ((with_reducible refine gate_callee (f := 12) rfl ?_); refine goesL_ (some 10) rfl rfl Tryd.func12 (by kernel_rfl) rfl #[.string (⟨#[49, 46, 53]⟩ : ByteArray)] rfl (by (try simp only [List.map_toArray, List.map_cons, List.map_nil]); first | done | rfl | (simp only [List.length_drop, List.length_take]; rfl)) ?_; (with_reducible refine (dec_Parse.calls k (⟨#[49, 46, 53]⟩ : ByteArray) t130 t131 _ ?side1 A1.out).mono ?_); (case side1 => exact Gl.below HG.out (wq HB.out)); rintro e w22 ⟨rfl, hb⟩; refine ⟨_, rfl, ?_⟩; have n0_ := Aside0.mk (below_step (wq HB.out) hb); clear HB; have HB := n0_; clear n0_; (try clear hb); (try clear hb2); (try clear hk); (try clear hi)) | ((with_reducible refine gate_callee (f := 12) rfl ?_); refine goesL_ (some 14) rfl rfl Tryd.func12 (by kernel_rfl) rfl #[.string (⟨#[45, 46, 53, 101, 49]⟩ : ByteArray)] rfl (by (try simp only [List.map_toArray, List.map_cons, List.map_nil]); first | done | rfl | (simp only [List.length_drop, List.length_take]; rfl)) ?_; (with_reducible refine (dec_Parse.calls k (⟨#[45, 46, 53, 101, 49]⟩ : ByteArray) t132 t133 _ ?side1 A2.out).mono ?_); (case side1 => exact Gl.below HG.out (wq HB.out)); rintro e w23 ⟨rfl, hb⟩; refine ⟨_, rfl, ?_⟩; have n0_ := Aside0.mk (below_step (wq HB.out) hb); clear HB; have HB := n0_; clear n0_; (try clear hb); (try clear hb2); (try clear hk); (try clear hi)) | ((with_reducible refine gate_callee (f := 12) rfl ?_); refine goesL_ (some 18) rfl rfl Tryd.func12 (by kernel_rfl) rfl #[.string (⟨#[49, 101]⟩ : ByteArray)] rfl (by (try simp only [List.map_toArray, List.map_cons, List.map_nil]); first | done | rfl | (simp only [List.length_drop, List.length_take]; rfl)) ?_; (with_reducible refine (dec_Parse.calls k (⟨#[49, 101]⟩ : ByteArray) t134 t135 _ ?side1 A3.out).mono ?_); (case side1 => exact Gl.below HG.out (wq HB.out)); rintro e w24 ⟨rfl, hb⟩; refine ⟨_, rfl, ?_⟩; have n0_ := Aside0.mk (below_step (wq HB.out) hb); clear HB; have HB := n0_; clear n0_; (try clear hb); (try clear hb2); (try clear hk); (try clear hi)) | ((with_reducible refine gate_callee (f := 12) rfl ?_); refine goesL_ (some 22) rfl rfl Tryd.func12 (by kernel_rfl) rfl #[.string (⟨#[54, 53, 53, 51, 54]⟩ : ByteArray)] rfl (by (try simp only [List.map_toArray, List.map_cons, List.map_nil]); first | done | rfl | (simp only [List.length_drop, List.length_take]; rfl)) ?_; (with_reducible refine (dec_Parse.calls k (⟨#[54, 53, 53, 51, 54]⟩ : ByteArray) t136 t137 _ ?side1 A4.out).mono ?_); (case side1 => exact Gl.below HG.out (wq HB.out)); rintro e w25 ⟨rfl, hb⟩; refine ⟨_, rfl, ?_⟩; have n0_ := Aside0.mk (below_step (wq HB.out) hb); clear HB; have HB := n0_; clear n0_; (try clear hb); (try clear hb2); (try clear hk); (try clear hi)))
    go_ret
    exact ⟨by first | rfl | (simp [errW_none, errW_some] <;> rfl) | (simp [*, errW_none, errW_some] <;> rfl), by exact wq HB.out⟩
  ·
   rw [if_neg c6] at H
   have c6b0 : (t132 == (-327680)) = false := beq_eq_false_iff_ne.mpr c6
   have c6b1 : (t132 != (-327680)) = true := bne_iff_ne.mpr c6
   obtain rfl := Option.some.inj H
   go_enter Tryd.func11, Tryd.ntmps11
   go_wp2_with (first | ((with_reducible refine gate_callee (f := 12) rfl ?_); refine goesL_ (some 10) rfl rfl Tryd.func12 (by kernel_rfl) rfl #[.string (⟨#[49, 46, 53]⟩ : ByteArray)] rfl (by (try simp only [List.map_toArray, List.map_cons, List.map_nil]); first | done | rfl | (simp only [List.length_drop, List.length_take]; rfl)) ?_; (with_reducible refine (dec_Parse.calls k (⟨#[49, 46, 53]⟩ : ByteArray) t130 t131 _ ?side1 A1.out).mono ?_); (case side1 => exact Gl.below HG.out (wq HB.out)); rintro e w26 ⟨rfl, hb⟩; refine ⟨_, rfl, ?_⟩; have n0_ := Aside0.mk (below_step (wq HB.out) hb); clear HB; have HB := n0_; clear n0_; (try clear hb); (try clear hb2); (try clear hk); (try clear hi)) | ((with_reducible refine gate_callee (f := 12) rfl ?_); refine goesL_ (some 14) rfl rfl Tryd.func12 (by kernel_rfl) rfl #[.string (⟨#[45, 46, 53, 101, 49]⟩ : ByteArray)] rfl (by (try simp only [List.map_toArray, List.map_cons, List.map_nil]); first | done | rfl | (simp only [List.length_drop, List.length_take]; rfl)) ?_; (with_reducible refine (dec_Parse.calls k (⟨#[45, 46, 53, 101, 49]⟩ : ByteArray) t132 t133 _ ?side1 A2.out).mono ?_); (case side1 => exact Gl.below HG.out (wq HB.out)); rintro e w27 ⟨rfl, hb⟩; refine ⟨_, rfl, ?_⟩; have n0_ := Aside0.mk (below_step (wq HB.out) hb); clear HB; have HB := n0_; clear n0_; (try clear hb); (try clear hb2); (try clear hk); (try clear hi)) | ((with_reducible refine gate_callee (f := 12) rfl ?_); refine goesL_ (some 18) rfl rfl Tryd.func12 (by kernel_rfl) rfl #[.string (⟨#[49, 101]⟩ : ByteArray)] rfl (by (try simp only [List.map_toArray, List.map_cons, List.map_nil]); first | done | rfl | (simp only [List.length_drop, List.length_take]; rfl)) ?_; (with_reducible refine (dec_Parse.calls k (⟨#[49, 101]⟩ : ByteArray) t134 t135 _ ?side1 A3.out).mono ?_); (case side1 => exact Gl.below HG.out (wq HB.out)); rintro e w28 ⟨rfl, hb⟩; refine ⟨_, rfl, ?_⟩; have n0_ := Aside0.mk (below_step (wq HB.out) hb); clear HB; have HB := n0_; clear n0_; (try clear hb); (try clear hb2); (try clear hk); (try clear hi)) | ((with_reducible refine gate_callee (f := 12) rfl ?_); refine goesL_ (some 22) rfl rfl Tryd.func12 (by kernel_rfl) rfl #[.string (⟨#[54, 53, 53, 51, 54]⟩ : ByteArray)] rfl (by (try simp only [List.map_toArray, List.map_cons, List.map_nil]); first | done | rfl | (simp only [List.length_drop, List.length_take]; rfl)) ?_; (with_reducible refine (dec_Parse.calls k (⟨#[54, 53, 53, 51, 54]⟩ : ByteArray) t136 t137 _ ?side1 A4.out).mono ?_); (case side1 => exact Gl.below HG.out (wq HB.out)); rintro e w29 ⟨rfl, hb⟩; refine ⟨_, rfl, ?_⟩; have n0_ := Aside0.mk (below_step (wq HB.out) hb); clear HB; have HB := n0_; clear n0_; (try clear hb); (try clear hb2); (try clear hk); (try clear hi)))
   go_ret
   exact ⟨by first | rfl | (simp [errW_none, errW_some] <;> rfl) | (simp [*, errW_none, errW_some] <;> rfl), by exact wq HB.out⟩
 ·
  rw [if_neg c5] at H
  have c5b0 : (t130 == 98304) = false := beq_eq_false_iff_ne.mpr c5
  have c5b1 : (t130 != 98304) = true := bne_iff_ne.mpr c5
  obtain rfl := Option.some.inj H
  go_enter Tryd.func11, Tryd.ntmps11
  go_wp2_with (first | ((with_reducible refine gate_callee (f := 12) rfl ?_); refine goesL_ (some 10) rfl rfl Tryd.func12 (by kernel_rfl) rfl #[.string (⟨#[49, 46, 53]⟩ : ByteArray)] rfl (by (try simp only [List.map_toArray, List.map_cons, List.map_nil]); first | done | rfl | (simp only [List.length_drop, List.length_take]; rfl)) ?_; (with_reducible refine (dec_Parse.calls k (⟨#[49, 46, 53]⟩ : ByteArray) t130 t131 _ ?side1 A1.out).mono ?_); (case side1 => exact Gl.below HG.out (wq HB.out)); rintro e w30 ⟨rfl, hb⟩; refine ⟨_, rfl, ?_⟩; have n0_ := Aside0.mk (below_step (wq HB.out) hb); clear HB; have HB := n0_; clear n0_; (try clear hb); (try clear hb2); (try clear hk); (try clear hi)) | ((with_reducible refine gate_callee (f := 12) rfl ?_); refine goesL_ (some 14) rfl rfl Tryd.func12 (by kernel_rfl) rfl #[.string (⟨#[45, 46, 53, 101, 49]⟩ : ByteArray)] rfl (by (try simp only [List.map_toArray, List.map_cons, List.map_nil]); first | done | rfl | (simp only [List.length_drop, List.length_take]; rfl)) ?_; (with_reducible refine (dec_Parse.calls k (⟨#[45, 46, 53, 101, 49]⟩ : ByteArray) t132 t133 _ ?side1 A2.out).mono ?_); (case side1 => exact Gl.below HG.out (wq HB.out)); rintro e w31 ⟨rfl, hb⟩; refine ⟨_, rfl, ?_⟩; have n0_ := Aside0.mk (below_step (wq HB.out) hb); clear HB; have HB := n0_; clear n0_; (try clear hb); (try clear hb2); (try clear hk); (try clear hi)) | ((with_reducible refine gate_callee (f := 12) rfl ?_); refine goesL_ (some 18) rfl rfl Tryd.func12 (by kernel_rfl) rfl #[.string (⟨#[49, 101]⟩ : ByteArray)] rfl (by (try simp only [List.map_toArray, List.map_cons, List.map_nil]); first | done | rfl | (simp only [List.length_drop, List.length_take]; rfl)) ?_; (with_reducible refine (dec_Parse.calls k (⟨#[49, 101]⟩ : ByteArray) t134 t135 _ ?side1 A3.out).mono ?_); (case side1 => exact Gl.below HG.out (wq HB.out)); rintro e w32 ⟨rfl, hb⟩; refine ⟨_, rfl, ?_⟩; have n0_ := Aside0.mk (below_step (wq HB.out) hb); clear HB; have HB := n0_; clear n0_; (try clear hb); (try clear hb2); (try clear hk); (try clear hi)) | ((with_reducible refine gate_callee (f := 12) rfl ?_); refine goesL_ (some 22) rfl rfl Tryd.func12 (by kernel_rfl) rfl #[.string (⟨#[54, 53, 53, 51, 54]⟩ : ByteArray)] rfl (by (try simp only [List.map_toArray, List.map_cons, List.map_nil]); first | done | rfl | (simp only [List.length_drop, List.length_take]; rfl)) ?_; (with_reducible refine (dec_Parse.calls k (⟨#[54, 53, 53, 51, 54]⟩ : ByteArray) t136 t137 _ ?side1 A4.out).mono ?_); (case side1 => exact Gl.below HG.out (wq HB.out)); rintro e w33 ⟨rfl, hb⟩; refine ⟨_, rfl, ?_⟩; have n0_ := Aside0.mk (below_step (wq HB.out) hb); clear HB; have HB := n0_; clear n0_; (try clear hb); (try clear hb2); (try clear hk); (try clear hi)))
  go_ret
  exact ⟨by first | rfl | (simp [errW_none, errW_some] <;> rfl) | (simp [*, errW_none, errW_some] <;> rfl), by exact wq HB.out⟩
end Go.Proofs.YtfpnglgipchjhaaDoor.PR
namespace Go.Proofs.YtfpnglgipchjhaaDoor.PR
open Go.RowKit Go.Proofs.YtfpnglgipchjhaaDoorW.PrintWords Go.Proofs.YtfpnglgipchjhaaDoorW.PrintLast Go.Proofs.YtfpnglgipchjhaaDoorW.PrintMore
attribute [local go_sem] max2_int min2_int max_two min_two max_three min_three max_four min_four
set_option linter.unusedVariables false
set_option linter.unusedSimpArgs false
end Go.Proofs.YtfpnglgipchjhaaDoor.PR
namespace Go.Proofs.YtfpnglgipchjhaaDoor.PR
open Go.RowKit Go.Proofs.YtfpnglgipchjhaaDoorW.PrintWords Go.Proofs.YtfpnglgipchjhaaDoorW.PrintLast Go.Proofs.YtfpnglgipchjhaaDoorW.PrintMore Go.Proofs.YtfpnglgipchjhaaDoor.DecV
theorem w64s (n : Int) (h : -9223372036854775808 ≤ n) (h2 : n < 9223372036854775808) : wrap64 n = n := by
  have : wrap64 n = (n + 9223372036854775808) % 18446744073709551616 - 9223372036854775808 := by unfold wrap64; rfl
  rw [this]; omega
theorem bt_lk (s : ByteArray) (i : Nat) : bt s (i : Int) = lk (bytesOf s) i := by
  rw [← rd_bytesOf]
  unfold rd lk
  rw [Int.toNat_natCast]
theorem w1 (i : Nat) (h : i < 4611686018427387904) : wrap64 ((i : Int) + 1) = ((i + 1 : Nat) : Int) := by rw [w64s _ (by omega) (by omega)]; omega
theorem scanB_le {L : List Int} {i : Nat} (h : i ≤ L.length) : scanB L i ≤ L.length := by
  unfold scanB
  have h1 := rn_le h
  split
  · rename_i h2
    have h3 : rn L i < L.length := lk_lt (by rw [h2]; decide)
    exact rn_le h3
  · exact h1
end Go.Proofs.YtfpnglgipchjhaaDoor.PR
namespace Go.Proofs.YtfpnglgipchjhaaDoor.PR
open Go.RowKit Go.Proofs.YtfpnglgipchjhaaDoorW.PrintWords Go.Proofs.YtfpnglgipchjhaaDoorW.PrintLast Go.Proofs.YtfpnglgipchjhaaDoorW.PrintMore Go.Proofs.YtfpnglgipchjhaaDoor.DecV
def kd (c : Int) : Int := if isD c = true then 0 else if c = 46 then 1 else if isE c = true then 2 else if isS c = true then 3 else -1
theorem kind_eq (k : Nat) (c : Int) : dec_kind.f (k + 2) c = some (kd c) := by
  unfold dec_kind.f kd isD isE isS
  simp only [dec_kind.j0, dec_kind.j1]
  by_cases a1 : c ≥ 48 <;> by_cases a2 : c ≤ 57 <;> by_cases a3 : c = 46 <;> by_cases a4 : c = 101 <;> by_cases a5 : c = 69 <;> by_cases a6 : c = 43 <;> by_cases a7 : c = 45 <;> first | omega | (subst c; rfl) | (simp [a1, a2, a3, a4, a5, a6, a7]; done)
theorem kind_ev (c : Int) : Ev (fun k => dec_kind.f k c) (kd c) := ⟨2, fun k hk => by obtain ⟨j, rfl⟩ := Nat.exists_eq_add_of_le hk; rw [Nat.add_comm]; exact kind_eq j c⟩
theorem kd_D {c : Int} (h : isD c = true) : kd c = 0 := if_pos h
theorem kd_P {c : Int} (h : c = 46) : kd c = 1 := by subst h; rfl
theorem kd_E {c : Int} (h : isE c = true) : kd c = 2 := by
  unfold isE at h
  rcases of_decide_eq_true h with rfl | rfl <;> rfl
theorem kd_S {c : Int} (h : isS c = true) : kd c = 3 := by
  unfold isS at h
  rcases of_decide_eq_true h with rfl | rfl <;> rfl
theorem kd_cases (c : Int) : (isD c = true ∧ kd c = 0) ∨ (isD c = false ∧ ((c = 46 ∧ isE c = false ∧ isS c = false ∧ kd c = 1) ∨ (c ≠ 46 ∧ isE c = true ∧ isS c = false ∧ kd c = 2) ∨ (c ≠ 46 ∧ isE c = false ∧ isS c = true ∧ kd c = 3) ∨ (c ≠ 46 ∧ isE c = false ∧ isS c = false ∧ kd c = -1))) := by
  cases hd : isD c with
  | true => exact .inl ⟨rfl, kd_D hd⟩
  | false =>
    refine .inr ⟨rfl, ?_⟩
    by_cases hp : c = 46
    · subst hp; exact .inl ⟨rfl, rfl, rfl, rfl⟩
    · cases he : isE c with
      | true =>
        refine .inr (.inl ⟨hp, rfl, ?_, kd_E he⟩)
        unfold isE at he
        rcases of_decide_eq_true he with rfl | rfl <;> rfl
      | false =>
        cases hs : isS c with
        | true => exact .inr (.inr (.inl ⟨hp, rfl, rfl, kd_S hs⟩))
        | false => exact .inr (.inr (.inr ⟨hp, rfl, rfl, by unfold kd; rw [hd, he, hs, if_neg (by decide), if_neg hp, if_neg (by decide), if_neg (by decide)]⟩))
section
variable {s : ByteArray} {sg : Bool}
theorem sc_go (_hs : s.size < 1152921504606846976) {st st' : Int} {i : Nat} {r : Int × Bool} (h : stepT sg st (kd (lk (bytesOf s) i)) = st') (hne : st' ≠ 0) (hev : Ev (fun k => dec_Scan.l k s sg st' ((i + 1 : Nat) : Int)) r) : Ev (fun k => dec_Scan.l k s sg st (i : Int)) r := by
  have hlt : i < s.size := by
    refine Nat.lt_of_not_le fun h2 => hne ?_
    rw [← h, lk_end _ _ (by rw [bytesOf_length]; exact h2)]
    unfold stepT
    exact if_pos (by decide)
  refine Ev.step (fun k => by rw [dec_Scan.l, if_pos (by omega), bt_lk]) (Ev.bind (kind_ev _) ?_)
  rw [h]
  have e : ((i : Int) + 1) = ((i + 1 : Nat) : Int) := by omega
  simp only [if_neg hne, e]
  exact hev
theorem sc_stop {st : Int} {i : Nat} (_hi : i ≤ s.size) (h : stepT sg st (kd (lk (bytesOf s) i)) = 0) : Ev (fun k => dec_Scan.l k s sg st (i : Int)) ((i : Int), endsT st == 1) := by
  by_cases hlt : (i : Int) < (s.size : Int)
  · refine Ev.step (fun k => by rw [dec_Scan.l, if_pos hlt, bt_lk]) (Ev.bind (kind_ev _) ?_)
    simp only [if_pos h]
    exact Ev.now _
  · exact Ev.step (fun k => by rw [dec_Scan.l, if_neg hlt]) (Ev.now _)
theorem st_digits (sg : Bool) : stepT sg 8 0 = 8 ∧ stepT sg 8 1 = 0 ∧ stepT sg 8 2 = 0 ∧ stepT sg 8 3 = 0 ∧ stepT sg 8 (-1) = 0 := by cases sg <;> decide
theorem st_power (sg : Bool) : stepT sg 7 0 = 8 ∧ stepT sg 7 1 = 0 ∧ stepT sg 7 2 = 0 ∧ stepT sg 7 3 = 0 ∧ stepT sg 7 (-1) = 0 := by cases sg <;> decide
theorem st_letter (sg : Bool) : stepT sg 6 0 = 8 ∧ stepT sg 6 1 = 0 ∧ stepT sg 6 2 = 0 ∧ stepT sg 6 3 = 7 ∧ stepT sg 6 (-1) = 0 := by cases sg <;> decide
theorem st_part (sg : Bool) : stepT sg 5 0 = 5 ∧ stepT sg 5 1 = 0 ∧ stepT sg 5 2 = 6 ∧ stepT sg 5 3 = 0 ∧ stepT sg 5 (-1) = 0 := by cases sg <;> decide
theorem st_point (sg : Bool) : stepT sg 4 0 = 5 ∧ stepT sg 4 1 = 0 ∧ stepT sg 4 2 = 6 ∧ stepT sg 4 3 = 0 ∧ stepT sg 4 (-1) = 0 := by cases sg <;> decide
theorem st_bare (sg : Bool) : stepT sg 3 0 = 5 ∧ stepT sg 3 1 = 0 ∧ stepT sg 3 2 = 0 ∧ stepT sg 3 3 = 0 ∧ stepT sg 3 (-1) = 0 := by cases sg <;> decide
theorem st_whole (sg : Bool) : stepT sg 2 0 = 2 ∧ stepT sg 2 1 = 4 ∧ stepT sg 2 2 = 6 ∧ stepT sg 2 3 = 0 ∧ stepT sg 2 (-1) = 0 := by cases sg <;> decide
theorem st_sign (sg : Bool) : stepT sg 1 0 = 2 ∧ stepT sg 1 1 = 3 ∧ stepT sg 1 2 = 0 ∧ stepT sg 1 3 = 0 ∧ stepT sg 1 (-1) = 0 := by cases sg <;> decide
theorem st_begin (sg : Bool) : stepT sg 0 0 = 2 ∧ stepT sg 0 1 = 3 ∧ stepT sg 0 2 = 0 ∧ stepT sg 0 3 = (if sg = true then 1 else 0) ∧ stepT sg 0 (-1) = 0 := by cases sg <;> decide
theorem sc_digits (hs : s.size < 1152921504606846976) (i : Nat) : i ≤ s.size → Ev (fun k => dec_Scan.l k s sg 8 (i : Int)) (((rn (bytesOf s) i : Nat) : Int), true) := by
  obtain ⟨t0, t1, t2, t3, t4⟩ := st_digits sg
  refine rn_ind (L := bytesOf s) (fun i => i ≤ s.size → Ev (fun k => dec_Scan.l k s sg 8 (i : Int)) (((rn (bytesOf s) i : Nat) : Int), true)) (fun i h ih hi => ?_) (fun i h hi => ?_) i
  · have hlt := isD_lt h
    rw [bytesOf_length] at hlt
    rw [rn_step h]
    exact sc_go hs (by rw [kd_D h]; exact t0) (by decide) (ih (by omega))
  · rw [rn_stop h]
    refine sc_stop hi ?_
    rcases kd_cases (lk (bytesOf s) i) with ⟨h1, _⟩ | ⟨_, ⟨_, _, _, e⟩ | ⟨_, _, _, e⟩ | ⟨_, _, _, e⟩ | ⟨_, _, _, e⟩⟩
    · rw [h] at h1; cases h1
    · rw [e]; exact t1
    · rw [e]; exact t2
    · rw [e]; exact t3
    · rw [e]; exact t4
theorem sc_exp (hs : s.size < 1152921504606846976) (b : Nat) (hb : b + 1 ≤ s.size) : Ev (fun k => dec_Scan.l k s sg 6 ((b + 1 : Nat) : Int)) (((rn (bytesOf s) (expJ (bytesOf s) b) : Nat) : Int), decide (expJ (bytesOf s) b < rn (bytesOf s) (expJ (bytesOf s) b))) := by
  obtain ⟨t0, t1, t2, t3, t4⟩ := st_letter sg
  unfold expJ
  rcases kd_cases (lk (bytesOf s) (b + 1)) with ⟨h1, e⟩ | ⟨h1, h2⟩
  · have hns : isS (lk (bytesOf s) (b + 1)) = false := by
      unfold isD at h1
      have := of_decide_eq_true h1
      unfold isS
      exact decide_eq_false (by omega)
    have hlt := isD_lt h1
    rw [bytesOf_length] at hlt
    rw [hns, if_neg (by decide), rn_step h1]
    have h3 := rn_ge (bytesOf s) (b + 1 + 1)
    rw [decide_eq_true (by omega)]
    exact sc_go hs (by rw [e]; exact t0) (by decide) (sc_digits hs (b + 1 + 1) (by omega))
  · have stop : isS (lk (bytesOf s) (b + 1)) = false → stepT sg 6 (kd (lk (bytesOf s) (b + 1))) = 0 → Ev (fun k => dec_Scan.l k s sg 6 ((b + 1 : Nat) : Int)) (((rn (bytesOf s) (if isS (lk (bytesOf s) (b + 1)) = true then b + 2 else b + 1) : Nat) : Int), decide ((if isS (lk (bytesOf s) (b + 1)) = true then b + 2 else b + 1) < rn (bytesOf s) (if isS (lk (bytesOf s) (b + 1)) = true then b + 2 else b + 1))) := by
      intro hns hz
      rw [hns, if_neg (by decide), rn_stop h1, decide_eq_false (by omega)]
      exact sc_stop hb hz
    rcases h2 with ⟨_, _, g, e⟩ | ⟨_, _, g, e⟩ | ⟨_, _, g, e⟩ | ⟨_, _, g, e⟩
    · exact stop g (by rw [e]; exact t1)
    · exact stop g (by rw [e]; exact t2)
    · rw [g, if_pos rfl]
      have hlt := isS_lt g
      rw [bytesOf_length] at hlt
      refine sc_go hs (st' := 7) (by rw [e]; exact t3) (by decide) ?_
      obtain ⟨u0, u1, u2, u3, u4⟩ := st_power sg
      rcases kd_cases (lk (bytesOf s) (b + 1 + 1)) with ⟨h5, e5⟩ | ⟨h5, h6⟩
      · have hlt2 := isD_lt h5
        rw [bytesOf_length] at hlt2
        have h3 := rn_ge (bytesOf s) (b + 1 + 1 + 1)
        rw [show b + 2 = b + 1 + 1 from rfl, rn_step h5, decide_eq_true (by omega)]
        exact sc_go hs (by rw [e5]; exact u0) (by decide) (sc_digits hs (b + 1 + 1 + 1) (by omega))
      · rw [show b + 2 = b + 1 + 1 from rfl, rn_stop h5, decide_eq_false (by omega)]
        refine sc_stop (by omega) ?_
        rcases h6 with ⟨_, _, _, e⟩ | ⟨_, _, _, e⟩ | ⟨_, _, _, e⟩ | ⟨_, _, _, e⟩
        · rw [e]; exact u1
        · rw [e]; exact u2
        · rw [e]; exact u3
        · rw [e]; exact u4
    · exact stop g (by rw [e]; exact t4)
def tailU (L : List Int) (b : Nat) : Nat × Bool := if isE (lk L b) = true then (rn L (expJ L b), decide (expJ L b < rn L (expJ L b))) else (b, true)
theorem sc_tail (hs : s.size < 1152921504606846976) (st : Int) (ht : endsT st = 1) (h2 : stepT sg st 2 = 6) (h3 : stepT sg st 3 = 0) (h4 : stepT sg st (-1) = 0) (b : Nat) (hb : b ≤ s.size) (hd : isD (lk (bytesOf s) b) = false) (hp : lk (bytesOf s) b = 46 → stepT sg st 1 = 0) :
    Ev (fun k => dec_Scan.l k s sg st (b : Int)) (((tailU (bytesOf s) b).1 : Int), (tailU (bytesOf s) b).2) := by
  unfold tailU
  have he : (endsT st == 1) = true := by rw [ht]; rfl
  rcases kd_cases (lk (bytesOf s) b) with ⟨h1, _⟩ | ⟨_, ⟨p, g, _, e⟩ | ⟨_, g, _, e⟩ | ⟨_, g, _, e⟩ | ⟨_, g, _, e⟩⟩
  · rw [hd] at h1; cases h1
  · rw [g, if_neg (by decide), ← he]
    exact sc_stop hb (by rw [e]; exact hp p)
  · rw [g, if_pos rfl]
    have hlt := isE_lt g
    rw [bytesOf_length] at hlt
    exact sc_go hs (by rw [e]; exact h2) (by decide) (sc_exp hs b (by omega))
  · rw [g, if_neg (by decide), ← he]
    exact sc_stop hb (by rw [e]; exact h3)
  · rw [g, if_neg (by decide), ← he]
    exact sc_stop hb (by rw [e]; exact h4)
theorem sc_part (hs : s.size < 1152921504606846976) (i : Nat) : i ≤ s.size → Ev (fun k => dec_Scan.l k s sg 5 (i : Int)) (((tailU (bytesOf s) (rn (bytesOf s) i)).1 : Int), (tailU (bytesOf s) (rn (bytesOf s) i)).2) := by
  obtain ⟨t0, t1, t2, t3, t4⟩ := st_part sg
  refine rn_ind (L := bytesOf s) (fun i => i ≤ s.size → Ev (fun k => dec_Scan.l k s sg 5 (i : Int)) (((tailU (bytesOf s) (rn (bytesOf s) i)).1 : Int), (tailU (bytesOf s) (rn (bytesOf s) i)).2)) (fun i h ih hi => ?_) (fun i h hi => ?_) i
  · have hlt := isD_lt h
    rw [bytesOf_length] at hlt
    rw [rn_step h]
    exact sc_go hs (by rw [kd_D h]; exact t0) (by decide) (ih (by omega))
  · rw [rn_stop h]
    exact sc_tail hs 5 (by decide) t2 t3 t4 i hi h (fun _ => t1)
theorem sc_point (hs : s.size < 1152921504606846976) (a : Nat) (ha : a + 1 ≤ s.size) : Ev (fun k => dec_Scan.l k s sg 4 ((a + 1 : Nat) : Int)) (((tailU (bytesOf s) (rn (bytesOf s) (a + 1))).1 : Int), (tailU (bytesOf s) (rn (bytesOf s) (a + 1))).2) := by
  obtain ⟨t0, t1, t2, t3, t4⟩ := st_point sg
  cases hd : isD (lk (bytesOf s) (a + 1)) with
  | true =>
    have hlt := isD_lt hd
    rw [bytesOf_length] at hlt
    rw [rn_step hd]
    exact sc_go hs (by rw [kd_D hd]; exact t0) (by decide) (sc_part hs (a + 1 + 1) (by omega))
  | false =>
    rw [rn_stop hd]
    exact sc_tail hs 4 (by decide) t2 t3 t4 (a + 1) ha hd (fun _ => t1)
theorem sc_bare (hs : s.size < 1152921504606846976) (a : Nat) (ha : a + 1 ≤ s.size) : Ev (fun k => dec_Scan.l k s sg 3 ((a + 1 : Nat) : Int)) (if a + 1 < rn (bytesOf s) (a + 1) then (((tailU (bytesOf s) (rn (bytesOf s) (a + 1))).1 : Int), (tailU (bytesOf s) (rn (bytesOf s) (a + 1))).2) else (((a + 1 : Nat) : Int), false)) := by
  obtain ⟨t0, t1, t2, t3, t4⟩ := st_bare sg
  cases hd : isD (lk (bytesOf s) (a + 1)) with
  | true =>
    have hlt := isD_lt hd
    rw [bytesOf_length] at hlt
    have h3 := rn_ge (bytesOf s) (a + 1 + 1)
    rw [rn_step hd, if_pos (by omega)]
    exact sc_go hs (by rw [kd_D hd]; exact t0) (by decide) (sc_part hs (a + 1 + 1) (by omega))
  | false =>
    rw [rn_stop hd, if_neg (by omega)]
    have he : (endsT 3 == 1) = false := by decide
    rw [← he]
    refine sc_stop ha ?_
    rcases kd_cases (lk (bytesOf s) (a + 1)) with ⟨h1, _⟩ | ⟨_, ⟨_, _, _, e⟩ | ⟨_, _, _, e⟩ | ⟨_, _, _, e⟩ | ⟨_, _, _, e⟩⟩
    · rw [hd] at h1; cases h1
    · rw [e]; exact t1
    · rw [e]; exact t2
    · rw [e]; exact t3
    · rw [e]; exact t4
def afterU (L : List Int) (a : Nat) : Nat × Bool := if lk L a = 46 then tailU L (rn L (a + 1)) else tailU L a
theorem sc_whole (hs : s.size < 1152921504606846976) (i : Nat) : i ≤ s.size → Ev (fun k => dec_Scan.l k s sg 2 (i : Int)) (((afterU (bytesOf s) (rn (bytesOf s) i)).1 : Int), (afterU (bytesOf s) (rn (bytesOf s) i)).2) := by
  obtain ⟨t0, t1, t2, t3, t4⟩ := st_whole sg
  refine rn_ind (L := bytesOf s) (fun i => i ≤ s.size → Ev (fun k => dec_Scan.l k s sg 2 (i : Int)) (((afterU (bytesOf s) (rn (bytesOf s) i)).1 : Int), (afterU (bytesOf s) (rn (bytesOf s) i)).2)) (fun i h ih hi => ?_) (fun i h hi => ?_) i
  · have hlt := isD_lt h
    rw [bytesOf_length] at hlt
    rw [rn_step h]
    exact sc_go hs (by rw [kd_D h]; exact t0) (by decide) (ih (by omega))
  · rw [rn_stop h]
    unfold afterU
    by_cases hp : lk (bytesOf s) i = 46
    · have hlt : i < (bytesOf s).length := lk_lt (by rw [hp]; decide)
      rw [bytesOf_length] at hlt
      rw [if_pos hp]
      exact sc_go hs (by rw [kd_P hp]; exact t1) (by decide) (sc_point hs i (by omega))
    · rw [if_neg hp]
      exact sc_tail hs 2 (by decide) t2 t3 t4 i hi h (fun h => absurd h hp)
theorem sc_unsigned (hs : s.size < 1152921504606846976) (st : Int) (t0 : stepT sg st 0 = 2) (t1 : stepT sg st 1 = 3) (t2 : stepT sg st 2 = 0) (t4 : stepT sg st (-1) = 0) (hend : endsT st = 0) (i : Nat) (hi : i ≤ s.size) (t3 : isS (lk (bytesOf s) i) = true → stepT sg st 3 = 0) :
    Ev (fun k => dec_Scan.l k s sg st (i : Int)) (((scanU (bytesOf s) i).1 : Int), (scanU (bytesOf s) i).2) := by
  have he : (endsT st == 1) = false := by rw [hend]; rfl
  have tl : ∀ b, (if isE (lk (bytesOf s) b) = true then (rn (bytesOf s) (expJ (bytesOf s) b), decide (expJ (bytesOf s) b < rn (bytesOf s) (expJ (bytesOf s) b))) else (b, true)) = tailU (bytesOf s) b := fun _ => rfl
  unfold scanU
  rw [tl]
  cases hd : isD (lk (bytesOf s) i) with
  | true =>
    have hlt := isD_lt hd
    rw [bytesOf_length] at hlt
    have h3 := rn_ge (bytesOf s) (i + 1)
    have hsome : someB (bytesOf s) i = true := by unfold someB; rw [rn_step hd, decide_eq_true (by omega)]; rfl
    rw [hsome, if_pos rfl]
    have e : tailU (bytesOf s) (scanB (bytesOf s) i) = afterU (bytesOf s) (rn (bytesOf s) (i + 1)) := by
      unfold afterU scanB
      rw [rn_step hd]
      split <;> rfl
    rw [e]
    exact sc_go hs (by rw [kd_D hd]; exact t0) (by decide) (sc_whole hs (i + 1) (by omega))
  | false =>
    have hr := rn_stop hd
    by_cases hp : lk (bytesOf s) i = 46
    · have hlt : i < (bytesOf s).length := lk_lt (by rw [hp]; decide)
      rw [bytesOf_length] at hlt
      have hsome : someB (bytesOf s) i = decide (i + 1 < rn (bytesOf s) (i + 1)) := by unfold someB; rw [hr, decide_eq_false (by omega), decide_eq_true hp]; rfl
      have hB : scanB (bytesOf s) i = rn (bytesOf s) (i + 1) := by unfold scanB; rw [hr, if_pos hp]
      rw [hsome, hB]
      have h := sc_go hs (sg := sg) (st := st) (by rw [kd_P hp]; exact t1) (by decide) (sc_bare hs i (by omega))
      by_cases h5 : i + 1 < rn (bytesOf s) (i + 1)
      · rw [if_pos h5] at h
        rw [decide_eq_true h5, if_pos rfl]
        exact h
      · rw [if_neg h5] at h
        have h6 := rn_ge (bytesOf s) (i + 1)
        rw [decide_eq_false h5, if_neg (by decide), show rn (bytesOf s) (i + 1) = i + 1 by omega]
        exact h
    · have hsome : someB (bytesOf s) i = false := by unfold someB; rw [hr, decide_eq_false (by omega), decide_eq_false hp]; rfl
      have hB : scanB (bytesOf s) i = i := by unfold scanB; rw [hr, if_neg hp]
      rw [hsome, hB, if_neg (by decide), ← he]
      refine sc_stop hi ?_
      rcases kd_cases (lk (bytesOf s) i) with ⟨h1, _⟩ | ⟨_, ⟨q, _, _, e⟩ | ⟨_, _, _, e⟩ | ⟨_, _, g, e⟩ | ⟨_, _, _, e⟩⟩
      · rw [hd] at h1; cases h1
      · exact absurd q hp
      · rw [e]; exact t2
      · rw [e]; exact t3 g
      · rw [e]; exact t4
end
theorem decscan_ev (s : ByteArray) (hs : s.size < 1152921504606846976) (i : Nat) (hi : i ≤ s.size) (sg : Bool) :
    Ev (fun k => dec_Scan.f k s (i : Int) sg) (((scanS (bytesOf s) i sg).1 : Int), (scanS (bytesOf s) i sg).2) := by
  have h0 : ¬ (i : Int) < 0 := by omega
  have h1 : ¬ (i : Int) > (s.size : Int) := by omega
  have h2 : s.size < 4611686018427387904 := by omega
  unfold dec_Scan.f scanS
  simp only [if_neg h0, if_neg h1, if_pos h2]
  obtain ⟨t0, t1, t2, t3, t4⟩ := st_begin sg
  by_cases h : sg = true ∧ isS (lk (bytesOf s) i) = true
  · rw [if_pos h]
    obtain ⟨rfl, hg⟩ := h
    have hlt := isS_lt hg
    rw [bytesOf_length] at hlt
    obtain ⟨u0, u1, u2, u3, u4⟩ := st_sign true
    exact sc_go hs (by rw [kd_S hg]; exact t3) (by decide) (sc_unsigned hs 1 u0 u1 u2 u4 (by decide) (i + 1) (by omega) (fun _ => u3))
  · rw [if_neg h]
    refine sc_unsigned hs 0 t0 t1 t2 t4 (by decide) i hi (fun hg => ?_)
    rw [t3, if_neg (fun hsg => h ⟨hsg, hg⟩)]
end Go.Proofs.YtfpnglgipchjhaaDoor.PR
namespace Go.Proofs.YtfpnglgipchjhaaDoor.PR
open Go.RowKit Go.Proofs.YtfpnglgipchjhaaDoorW.PrintWords Go.Proofs.YtfpnglgipchjhaaDoorW.PrintLast Go.Proofs.YtfpnglgipchjhaaDoorW.PrintMore Go.Proofs.YtfpnglgipchjhaaDoor.DecV
structure Inv (g : List Int) (p : Int) (D b : Nat) : Prop where
  ok : Dg g
  hd : ∀ a, g.head? = some a → 1 ≤ a
  val : dv g = D
  pt : p = (g.length : Int) - b
theorem Inv.push {g : List Int} {p : Int} {D b : Nat} (h : Inv g p D b) {d : Int} (d0 : 0 ≤ d) (d9 : d ≤ 9) (hg : g ≠ [] ∨ d ≠ 0) : Dg (g ++ [d]) ∧ (∀ a, (g ++ [d]).head? = some a → 1 ≤ a) ∧ dv (g ++ [d]) = 10 * D + d.toNat := by
  refine ⟨?_, ?_, ?_⟩
  · intro a ha
    rw [List.mem_append, List.mem_singleton] at ha
    rcases ha with ha | rfl
    · exact h.ok a ha
    · exact ⟨d0, d9⟩
  · intro a ha
    cases g with
    | nil =>
      have : a = d := by simpa using ha.symm
      rcases hg with hg | hg
      · exact absurd rfl hg
      · omega
    | cons x g => exact h.hd a (by simpa using ha)
  · rw [dv_snoc, h.val]
theorem read_digits (s : ByteArray) (hs : s.size < 1099511627776) (seen down : Bool) (pw : Int) (ng : Bool) (i : Nat) : i ≤ s.size → ∀ (g : List Int) (p : Int) (D b : Nat), Inv g p D b → g.length ≤ i → b ≤ i →
    ∃ g' p', Inv g' p' (D * 10 ^ (runD (bytesOf s) i).length + dv (runD (bytesOf s) i)) (b + if seen = true then (runD (bytesOf s) i).length else 0) ∧ g'.length ≤ rn (bytesOf s) i ∧
      ∀ r, Ev (fun k => dec_read.l0 k s seen down pw ((rn (bytesOf s) i : Nat) : Int) ng g' p') r → Ev (fun k => dec_read.l0 k s seen down pw (i : Int) ng g p) r := by
  refine rn_ind (L := bytesOf s) (fun i => i ≤ s.size → ∀ (g : List Int) (p : Int) (D b : Nat), Inv g p D b → g.length ≤ i → b ≤ i →
    ∃ g' p', Inv g' p' (D * 10 ^ (runD (bytesOf s) i).length + dv (runD (bytesOf s) i)) (b + if seen = true then (runD (bytesOf s) i).length else 0) ∧ g'.length ≤ rn (bytesOf s) i ∧
      ∀ r, Ev (fun k => dec_read.l0 k s seen down pw ((rn (bytesOf s) i : Nat) : Int) ng g' p') r → Ev (fun k => dec_read.l0 k s seen down pw (i : Int) ng g p) r) (fun i h ih hi g p D b hI hg hb => ?_) (fun i h hi g p D b hI hg hb => ?_) i
  · have hlt := isD_lt h
    rw [bytesOf_length] at hlt
    obtain ⟨v0, v9⟩ := isD_val h

    have step : ∃ g1 p1, Inv g1 p1 (10 * D + (lk (bytesOf s) i - 48).toNat) (b + if seen = true then 1 else 0) ∧ g1.length ≤ i + 1 ∧
        ∀ r, Ev (fun k => dec_read.l0 k s seen down pw ((i + 1 : Nat) : Int) ng g1 p1) r → Ev (fun k => dec_read.l0 k s seen down pw (i : Int) ng g p) r := by
      have hp := hI.pt
      have hm : (lk (bytesOf s) i - 48) % 256 = lk (bytesOf s) i - 48 := by omega
      have e1 : ∀ r, Ev (fun k => dec_read.j1 k s seen down pw (i : Int) (lk (bytesOf s) i) (decide (g ≠ [] ∨ lk (bytesOf s) i - 48 ≠ 0)) ng g p) r → Ev (fun k => dec_read.l0 k s seen down pw (i : Int) ng g p) r := by
        intro r hr
        refine Ev.step (fun k => by rw [dec_read.l0, if_pos (by omega), if_pos (by omega), bt_lk]) (Ev.bind (kind_ev _) ?_)
        rw [kd_D h]
        simp only [if_true]
        by_cases hc : lk (bytesOf s) i = 48
        · have e : decide (g ≠ [] ∨ lk (bytesOf s) i - 48 ≠ 0) = decide (0 < g.length) := by
            rw [Bool.eq_iff_iff, decide_eq_true_eq, decide_eq_true_eq, List.length_pos_iff]
            exact ⟨fun h => h.resolve_right (by omega), .inl⟩
          rw [e] at hr
          simp only [if_pos hc]
          exact hr
        · have e : decide (g ≠ [] ∨ lk (bytesOf s) i - 48 ≠ 0) = true := decide_eq_true (.inr (by omega))
          rw [e] at hr
          simp only [if_neg hc]
          exact hr
      by_cases hgd : g ≠ [] ∨ lk (bytesOf s) i - 48 ≠ 0
      · obtain ⟨q1, q2, q3⟩ := hI.push v0 v9 hgd
        rw [decide_eq_true hgd] at e1
        have hlen : (g ++ [lk (bytesOf s) i - 48]).length = g.length + 1 := by simp
        cases seen with
        | true =>
          refine ⟨g ++ [lk (bytesOf s) i - 48], p, ⟨q1, q2, q3, by rw [hlen, hp]; simp only [if_true]; omega⟩, by omega, fun r hr => e1 r ?_⟩
          refine Ev.step (fun k => by rw [dec_read.j1, if_pos rfl, if_pos (by omega), hm]) ?_
          refine Ev.step (fun k => by rw [dec_read.j2, if_pos rfl, if_neg (by omega), w1 i (by omega)]) hr
        | false =>
          refine ⟨g ++ [lk (bytesOf s) i - 48], p + 1, ⟨q1, q2, q3, by rw [hlen, hp]; simp only [Bool.false_eq_true, if_false]; omega⟩, by omega, fun r hr => e1 r ?_⟩
          refine Ev.step (fun k => by rw [dec_read.j1, if_pos rfl, if_pos (by omega), hm]) ?_
          refine Ev.step (fun k => by rw [dec_read.j2, if_neg (by decide), if_pos (by omega), w1 i (by omega), w64s (p + 1) (by omega) (by omega)]) hr
      · have hg0 : g = [] := Classical.byContradiction fun hn => hgd (.inl hn)
        have hd0 : lk (bytesOf s) i - 48 = 0 := Classical.byContradiction fun hn => hgd (.inr hn)
        subst hg0
        rw [decide_eq_false hgd] at e1
        have hD : D = 0 := hI.val.symm
        subst hD
        have hl : (([] : List Int).length : Int) = 0 := rfl
        have hI2 : ∀ b' : Nat, Inv [] (-(b' : Int)) (10 * 0 + (lk (bytesOf s) i - 48).toNat) b' := fun b' => ⟨(fun a ha => by cases ha), (fun a ha => by cases ha), (by rw [hd0]; rfl), (by rw [hl]; omega)⟩
        rw [hl] at hp
        cases seen with
        | true =>
          have e : p - 1 = -((b + 1 : Nat) : Int) := by omega
          refine ⟨[], p - 1, by rw [e]; exact hI2 (b + 1), by simp, fun r hr => e1 r ?_⟩
          refine Ev.step (fun k => by rw [dec_read.j1, if_neg (by decide)]) ?_
          refine Ev.step (fun k => by rw [dec_read.j2, if_pos rfl, if_pos hl, w1 i (by omega), w64s (p - 1) (by omega) (by omega)]) hr
        | false =>
          have e : p = -((b + 0 : Nat) : Int) := by omega
          refine ⟨[], p, by rw [e]; exact hI2 (b + 0), by simp, fun r hr => e1 r ?_⟩
          refine Ev.step (fun k => by rw [dec_read.j1, if_neg (by decide)]) ?_
          refine Ev.step (fun k => by rw [dec_read.j2, if_neg (by decide), if_neg (by rw [hl]; decide), w1 i (by omega)]) hr
    obtain ⟨g1, p1, hI1, hg1, hs1⟩ := step
    obtain ⟨g2, p2, hI2, hg2, hs2⟩ := ih (by omega) g1 p1 _ _ hI1 hg1 (by split <;> omega)
    refine ⟨g2, p2, ?_, by rw [rn_step h]; exact hg2, fun r hr => hs1 r (hs2 r (by rw [← rn_step h]; exact hr))⟩
    rw [runD_step h, dv_cons]
    have e1 : D * 10 ^ ((lk (bytesOf s) i - 48) :: runD (bytesOf s) (i + 1)).length + ((lk (bytesOf s) i - 48).toNat * 10 ^ (runD (bytesOf s) (i + 1)).length + dv (runD (bytesOf s) (i + 1))) = (10 * D + (lk (bytesOf s) i - 48).toNat) * 10 ^ (runD (bytesOf s) (i + 1)).length + dv (runD (bytesOf s) (i + 1)) := by
      rw [List.length_cons, Nat.pow_succ, Nat.add_mul, Nat.mul_comm 10 D, Nat.mul_assoc, Nat.mul_comm 10]
      omega
    have e2 : (b + if seen = true then ((lk (bytesOf s) i - 48) :: runD (bytesOf s) (i + 1)).length else 0) = (b + (if seen = true then 1 else 0)) + (if seen = true then (runD (bytesOf s) (i + 1)).length else 0) := by
      rw [List.length_cons]
      split <;> omega
    rw [e1, e2]
    exact hI2
  · refine ⟨g, p, ?_, by rw [rn_stop h]; exact hg, fun r hr => by rw [rn_stop h] at hr; exact hr⟩
    rw [runD_stop h]
    have e1 : D * 10 ^ ([] : List Int).length + dv [] = D := by rw [dv_nil]; simp
    have e2 : (b + if seen = true then ([] : List Int).length else 0) = b := by split <;> simp
    rw [e1, e2]
    exact hI
theorem mn_cap (x : Nat) (d : Int) (h0 : 0 ≤ d) (h9 : d ≤ 9) : mn (wrap64 (wrap64 (10 * ((min x 1099511627776 : Nat) : Int)) + d)) 1099511627776 = ((min (10 * x + d.toNat) 1099511627776 : Nat) : Int) := by
  have e : wrap64 (10 * ((min x 1099511627776 : Nat) : Int)) = 10 * ((min x 1099511627776 : Nat) : Int) := w64s _ (by omega) (by omega)
  rw [e, w64s _ (by omega) (by omega)]
  unfold mn
  split <;> omega
theorem read_power (s : ByteArray) (hs : s.size < 1099511627776) (seen down : Bool) (ng : Bool) (g : List Int) (p : Int) (i : Nat) : i ≤ s.size → rn (bytesOf s) i = s.size → ∀ (x : Nat) r,
    Ev (fun k => dec_read.l0 k s seen down ((min (x * 10 ^ (runD (bytesOf s) i).length + dv (runD (bytesOf s) i)) 1099511627776 : Nat) : Int) ((s.size + 1 : Nat) : Int) ng g p) r → Ev (fun k => dec_read.l1 k s seen down ((min x 1099511627776 : Nat) : Int) (i : Int) ng g p) r := by
  refine rn_ind (L := bytesOf s) (fun i => i ≤ s.size → rn (bytesOf s) i = s.size → ∀ (x : Nat) r,
    Ev (fun k => dec_read.l0 k s seen down ((min (x * 10 ^ (runD (bytesOf s) i).length + dv (runD (bytesOf s) i)) 1099511627776 : Nat) : Int) ((s.size + 1 : Nat) : Int) ng g p) r → Ev (fun k => dec_read.l1 k s seen down ((min x 1099511627776 : Nat) : Int) (i : Int) ng g p) r) (fun i h ih hi hr x r hev => ?_) (fun i h hi hr x r hev => ?_) i
  · have hlt := isD_lt h
    rw [bytesOf_length] at hlt
    obtain ⟨v0, v9⟩ := isD_val h
    have hm : (lk (bytesOf s) i - 48) % 256 = lk (bytesOf s) i - 48 := by omega
    refine Ev.step (fun k => by rw [dec_read.l1, if_pos (by omega), if_pos (by omega), bt_lk, hm, mn_cap x _ v0 v9, w1 i (by omega)]) (ih (by omega) (by rw [← rn_step h]; exact hr) _ r ?_)
    have e : (10 * x + (lk (bytesOf s) i - 48).toNat) * 10 ^ (runD (bytesOf s) (i + 1)).length + dv (runD (bytesOf s) (i + 1)) = x * 10 ^ (runD (bytesOf s) i).length + dv (runD (bytesOf s) i) := by
      rw [runD_step h, dv_cons, List.length_cons, Nat.pow_succ, Nat.add_mul, Nat.mul_comm 10 x, Nat.mul_assoc, Nat.mul_comm 10]
      omega
    rw [e]
    exact hev
  · rw [rn_stop h] at hr
    subst hr
    rw [runD_stop h] at hev
    have e : x * 10 ^ ([] : List Int).length + dv [] = x := by rw [dv_nil]; simp
    rw [e] at hev
    exact Ev.step (fun k => by rw [dec_read.l1, if_neg (by omega), w1 s.size (by omega)]) hev
theorem read_strip (down ng : Bool) (pw p : Int) (hp : -1125899906842624 < p ∧ p < 1125899906842624) (hpw : -1125899906842624 < pw ∧ pw < 1125899906842624) : ∀ (n : Nat) (g : List Int), g.length = n → n < 4611686018427387904 → Dg g → (∀ a, g.head? = some a → 1 ≤ a) →
    ∃ (g' : List Int) (t : Nat), dv g = dv g' * 10 ^ t ∧ g.length = g'.length + t ∧ Dg g' ∧ (∀ a, g'.head? = some a → 1 ≤ a) ∧ (∀ a, g'.getLast? = some a → a ≠ 0) ∧ Ev (fun k => dec_read.l2 k down pw ng g p) (ng, g', p + (if down = true then -pw else pw)) := by
  have last : ∀ g : List Int, Ev (fun _ => if down = true then some (ng, g, wrap64 (p + wrap64 (-pw))) else some (ng, g, wrap64 (p + pw))) (ng, g, p + (if down = true then -pw else pw)) := by
    intro g
    cases down with
    | true =>
      simp only [if_true]
      rw [w64s (-pw) (by omega) (by omega), w64s _ (by omega) (by omega)]
      exact Ev.now _
    | false =>
      simp only [Bool.false_eq_true, if_false]
      rw [w64s _ (by omega) (by omega)]
      exact Ev.now _
  intro n
  induction n with
  | zero =>
    intro g hg _ hd hh
    obtain rfl := List.length_eq_zero_iff.mp hg
    exact ⟨[], 0, by simp, rfl, hd, hh, (fun a ha => by cases ha), Ev.step (fun k => by rw [dec_read.l2, if_neg (by decide)]) (last [])⟩
  | succ n ih =>
    intro g hg hn hd hh
    rcases List.eq_nil_or_concat g with rfl | ⟨g0, a, rfl⟩
    · cases hg
    rw [List.concat_eq_append] at *
    have hl : g0.length = n := by simpa using hg
    have e1 : ((g0 ++ [a]).length : Int) = (g0.length : Int) + 1 := by simp
    have e2 : wrap64 (((g0 ++ [a]).length : Int) - 1) = (g0.length : Int) := by rw [e1, w64s _ (by omega) (by omega)]; omega
    have e3 : rd (g0 ++ [a]) (g0.length : Int) = a := by
      unfold rd
      rw [Int.toNat_natCast, List.getD_eq_getElem?_getD, List.getElem?_append_right (Nat.le_refl _), Nat.sub_self]
      rfl
    by_cases ha : a = 0
    · subst ha
      obtain ⟨g', t, h1, h2, h3, h4, h5, h6⟩ := ih g0 hl (by omega) (fun x hx => hd x (List.mem_append_left _ hx)) (fun x hx => hh x (by
        cases g0 with
        | nil => cases hx
        | cons y g0 => simpa using hx))
      refine ⟨g', t + 1, ?_, by rw [List.length_append, h2]; simp; omega, h3, h4, h5, ?_⟩
      · rw [dv_snoc, h1, Nat.pow_succ]
        have : ((0 : Int)).toNat = 0 := rfl
        rw [this, ← Nat.mul_assoc (dv g'), Nat.mul_comm 10, Nat.add_zero]
      · refine Ev.step (fun k => ?_) h6
        rw [dec_read.l2, e2, e3, if_pos (by rw [e1]; omega), if_pos (by omega), if_pos (by rw [e1]; omega), if_pos rfl, if_pos (by rw [e1]; omega), Int.toNat_natCast, List.take_left]
    · refine ⟨g0 ++ [a], 0, by simp, by simp, hd, hh, fun x hx => ?_, ?_⟩
      · rw [List.getLast?_append] at hx
        simp at hx
        rw [← hx]
        exact ha
      · refine Ev.step (fun k => ?_) (last (g0 ++ [a]))
        rw [dec_read.l2, e2, e3, if_pos (by rw [e1]; omega), if_pos (by omega), if_pos (by rw [e1]; omega), if_neg ha]
theorem read_end (s : ByteArray) (hs : s.size < 1099511627776) (hn : isNum (bytesOf s)) (seen ng : Bool) (g : List Int) (p : Int) (D : Nat) (hI : Inv g p D (behS (bytesOf s))) (hg : g.length ≤ s.size) (hb : behS (bytesOf s) ≤ s.size) :
    ∃ (g' : List Int) (p' : Int) (t : Nat), D = dv g' * 10 ^ t ∧ p' - g'.length = epwS 1099511627776 (bytesOf s) - behS (bytesOf s) + t ∧ Dg g' ∧ (∀ a, g'.head? = some a → 1 ≤ a) ∧ (∀ a, g'.getLast? = some a → a ≠ 0) ∧ (-1125899906842624 < p' ∧ p' < 1125899906842624) ∧ g'.length ≤ s.size ∧
      Ev (fun k => dec_read.l0 k s seen false 0 ((endM (bytesOf s) : Nat) : Int) ng g p) (ng, g', p') := by
  have hp := hI.pt

  have fin : ∀ (e : Nat), s.size ≤ e → ∀ (down : Bool) (pw : Int), 0 ≤ pw → pw ≤ 1099511627776 → epwS 1099511627776 (bytesOf s) = (if down = true then -pw else pw) →
      ∃ (g' : List Int) (p' : Int) (t : Nat), D = dv g' * 10 ^ t ∧ p' - g'.length = epwS 1099511627776 (bytesOf s) - behS (bytesOf s) + t ∧ Dg g' ∧ (∀ a, g'.head? = some a → 1 ≤ a) ∧ (∀ a, g'.getLast? = some a → a ≠ 0) ∧ (-1125899906842624 < p' ∧ p' < 1125899906842624) ∧ g'.length ≤ s.size ∧
        Ev (fun k => dec_read.l0 k s seen down pw (e : Int) ng g p) (ng, g', p') := by
    intro e hee down pw h0 h1 he
    obtain ⟨g', t, q1, q2, q3, q4, q5, q6⟩ := read_strip down ng pw p (by omega) (by omega) g.length g rfl (by omega) hI.ok hI.hd
    refine ⟨g', p + (if down = true then -pw else pw), t, by rw [← hI.val, q1], by rw [he]; split <;> omega, q3, q4, q5, by split <;> omega, by omega, ?_⟩
    exact Ev.step (fun k => by rw [dec_read.l0, if_neg (by omega)]) q6
  obtain ⟨_, hend⟩ := isNum_parts hn
  rcases hend with h1 | ⟨h1, h2, h3⟩
  · rw [h1, bytesOf_length]
    refine fin s.size (Nat.le_refl _) false 0 (by decide) (by decide) ?_
    unfold epwS
    rw [if_neg (by omega)]
    rfl
  · rw [bytesOf_length] at h2 h3
    have hlt := isE_lt h1
    rw [bytesOf_length] at hlt
    have hj : endM (bytesOf s) + 1 ≤ expJ (bytesOf s) (endM (bytesOf s)) := by unfold expJ; split <;> omega
    have hw := w1 (endM (bytesOf s)) (by omega)
    have hP : (0 : Nat) * 10 ^ (runD (bytesOf s) (expJ (bytesOf s) (endM (bytesOf s)))).length + dv (runD (bytesOf s) (expJ (bytesOf s) (endM (bytesOf s)))) = dv (runD (bytesOf s) (expJ (bytesOf s) (endM (bytesOf s)))) := by omega
    cases hg2 : isS (lk (bytesOf s) (endM (bytesOf s) + 1)) with
    | true =>
      have hj2 : expJ (bytesOf s) (endM (bytesOf s)) = endM (bytesOf s) + 2 := by unfold expJ; rw [hg2]; rfl
      obtain ⟨g', p', t, q1, q2, q3, q4, q5, q6, q7, q8⟩ := fin (s.size + 1) (by omega) (lk (bytesOf s) (endM (bytesOf s) + 1) == 45) ((min (dv (runD (bytesOf s) (expJ (bytesOf s) (endM (bytesOf s))))) 1099511627776 : Nat) : Int) (by omega) (by omega) (by
        unfold epwS
        rw [bytesOf_length, if_pos hlt]
        simp only [beq_iff_eq])
      refine ⟨g', p', t, q1, q2, q3, q4, q5, q6, q7, ?_⟩
      refine Ev.step (fun k => by rw [dec_read.l0, if_pos (by omega), if_pos (by omega), bt_lk, hw]) (Ev.bind (kind_ev _) ?_)
      have n0 : ¬ (2 : Int) = 0 := by decide
      have n1 : ¬ (2 : Int) = 1 := by decide
      have n3 : ¬ (2 : Int) = 3 := by decide
      have c0 : (0 : Int) ≤ ((endM (bytesOf s) + 1 : Nat) : Int) := by omega
      have c1 : ((endM (bytesOf s) + 1 : Nat) : Int) < (s.size : Int) := by omega
      rw [kd_E h1]
      simp only [if_neg n0, if_neg n1, if_neg n3, if_pos c0, if_pos c1, if_true, bt_lk]
      refine Ev.bind (kind_ev _) ?_
      rw [kd_S hg2]
      simp only [if_true]
      rw [w1 (endM (bytesOf s) + 1) (by omega)]
      refine Ev.step (fun k => by rw [dec_read.j3]) ?_
      refine read_power s hs seen _ ng g p (endM (bytesOf s) + 1 + 1) (by omega) (by rw [show endM (bytesOf s) + 1 + 1 = endM (bytesOf s) + 2 from rfl, ← hj2]; exact h2) 0 _ ?_
      rw [show endM (bytesOf s) + 1 + 1 = endM (bytesOf s) + 2 from rfl, ← hj2, hP]
      exact q8
    | false =>
      have hj2 : expJ (bytesOf s) (endM (bytesOf s)) = endM (bytesOf s) + 1 := by unfold expJ; rw [hg2]; rfl
      have h45 : ¬ lk (bytesOf s) (endM (bytesOf s) + 1) = 45 := by
        intro h
        rw [h] at hg2
        exact absurd hg2 (by decide)
      obtain ⟨g', p', t, q1, q2, q3, q4, q5, q6, q7, q8⟩ := fin (s.size + 1) (by omega) false ((min (dv (runD (bytesOf s) (expJ (bytesOf s) (endM (bytesOf s))))) 1099511627776 : Nat) : Int) (by omega) (by omega) (by
        unfold epwS
        rw [bytesOf_length, if_pos hlt, if_neg h45]
        rfl)
      refine ⟨g', p', t, q1, q2, q3, q4, q5, q6, q7, ?_⟩
      refine Ev.step (fun k => by rw [dec_read.l0, if_pos (by omega), if_pos (by omega), bt_lk, hw]) (Ev.bind (kind_ev _) ?_)
      have n0 : ¬ (2 : Int) = 0 := by decide
      have n1 : ¬ (2 : Int) = 1 := by decide
      have n3 : ¬ (2 : Int) = 3 := by decide
      have c0 : (0 : Int) ≤ ((endM (bytesOf s) + 1 : Nat) : Int) := by omega
      have c1 : ((endM (bytesOf s) + 1 : Nat) : Int) < (s.size : Int) := by omega
      rw [kd_E h1]
      simp only [if_neg n0, if_neg n1, if_neg n3, if_pos c0, if_pos c1, if_true, bt_lk]
      refine Ev.bind (kind_ev _) ?_
      have h3k : ¬ kd (lk (bytesOf s) (endM (bytesOf s) + 1)) = 3 := by
        rcases kd_cases (lk (bytesOf s) (endM (bytesOf s) + 1)) with ⟨_, e⟩ | ⟨_, ⟨_, _, _, e⟩ | ⟨_, _, _, e⟩ | ⟨_, _, e, _⟩ | ⟨_, _, _, e⟩⟩
        · rw [e]; decide
        · rw [e]; decide
        · rw [e]; decide
        · rw [hg2] at e; cases e
        · rw [e]; decide
      simp only [if_neg h3k]
      refine Ev.step (fun k => by rw [dec_read.j3]) ?_
      refine read_power s hs seen false ng g p (endM (bytesOf s) + 1) (by omega) (by rw [← hj2]; exact h2) 0 _ ?_
      rw [← hj2, hP]
      exact q8
theorem read_ev (s : ByteArray) (hs : s.size < 1099511627776) (hn : isNum (bytesOf s)) :
    ∃ (g : List Int) (p : Int) (t : Nat), dv (digS (bytesOf s)) = dv g * 10 ^ t ∧ p - g.length = epwS 1099511627776 (bytesOf s) - behS (bytesOf s) + t ∧ Dg g ∧ (∀ a, g.head? = some a → 1 ≤ a) ∧ (∀ a, g.getLast? = some a → a ≠ 0) ∧ (-1125899906842624 < p ∧ p < 1125899906842624) ∧ g.length ≤ s.size ∧
      Ev (fun k => dec_read.f k s) (negS (bytesOf s), g, p) := by
  have hi0 : i0 (bytesOf s) ≤ s.size := by
    unfold i0
    split
    · rename_i h
      have := isS_lt h
      rw [bytesOf_length] at this
      omega
    · omega
  have start : Inv [] 0 0 0 := ⟨(fun a ha => by cases ha), (fun a ha => by cases ha), rfl, rfl⟩
  obtain ⟨g1, p1, hI1, hg1, hs1⟩ := read_digits s hs false false 0 (negS (bytesOf s)) (i0 (bytesOf s)) hi0 [] 0 0 0 start (Nat.zero_le _) (Nat.zero_le _)
  have ha := rn_le (L := bytesOf s) (i := i0 (bytesOf s)) (by rw [bytesOf_length]; exact hi0)
  rw [bytesOf_length] at ha
  have first : ∀ r, Ev (fun k => dec_read.l0 k s false false 0 ((i0 (bytesOf s) : Nat) : Int) (negS (bytesOf s)) [] 0) r → Ev (fun k => dec_read.f k s) r := by
    intro r hr
    unfold dec_read.f
    cases hg : isS (lk (bytesOf s) 0) with
    | true =>
      have e1 : i0 (bytesOf s) = 1 := by unfold i0; rw [hg]; rfl
      have hlt := isS_lt hg
      rw [bytesOf_length] at hlt
      rw [e1] at hr
      have hb0 : bt s 0 = lk (bytesOf s) 0 := bt_lk s 0
      refine Ev.step (fun k => by rw [dec_read.l0, if_pos (by omega), if_pos (by decide), hb0]) (Ev.bind (kind_ev _) ?_)
      rw [kd_S hg]
      have n0 : ¬ (3 : Int) = 0 := by decide
      have n1 : ¬ (3 : Int) = 1 := by decide
      simp only [if_neg n0, if_neg n1, if_true]
      have e2 : (lk (bytesOf s) 0 == 45) = negS (bytesOf s) := by unfold negS; rw [Bool.eq_iff_iff, decide_eq_true_eq, beq_iff_eq]
      have e4 : wrap64 (0 + 1) = ((1 : Nat) : Int) := w64s _ (by decide) (by decide)
      rw [e2, e4]
      exact hr
    | false =>
      have e1 : i0 (bytesOf s) = 0 := by unfold i0; rw [hg]; rfl
      have e2 : negS (bytesOf s) = false := by
        unfold negS
        refine decide_eq_false fun h => ?_
        rw [h] at hg
        exact absurd hg (by decide)
      have e3 : ((0 : Nat) : Int) = 0 := rfl
      rw [e1, e2, e3] at hr
      exact hr
  have e0 : 0 * 10 ^ (runD (bytesOf s) (i0 (bytesOf s))).length + dv (runD (bytesOf s) (i0 (bytesOf s))) = dv (runD (bytesOf s) (i0 (bytesOf s))) := by omega
  have e00 : (0 + if false = true then (runD (bytesOf s) (i0 (bytesOf s))).length else 0) = 0 := rfl
  rw [e0, e00] at hI1
  by_cases hp : lk (bytesOf s) (rn (bytesOf s) (i0 (bytesOf s))) = 46
  · have hlt : rn (bytesOf s) (i0 (bytesOf s)) < (bytesOf s).length := lk_lt (by rw [hp]; decide)
    rw [bytesOf_length] at hlt
    obtain ⟨g2, p2, hI2, hg2, hs2⟩ := read_digits s hs true false 0 (negS (bytesOf s)) (rn (bytesOf s) (i0 (bytesOf s)) + 1) (by omega) g1 p1 _ 0 hI1 (by omega) (Nat.zero_le _)
    have hE : endM (bytesOf s) = rn (bytesOf s) (rn (bytesOf s) (i0 (bytesOf s)) + 1) := by unfold endM scanB; rw [if_pos hp]
    have hB : behS (bytesOf s) = (runD (bytesOf s) (rn (bytesOf s) (i0 (bytesOf s)) + 1)).length := by unfold behS; rw [if_pos hp]
    have hD : dv (digS (bytesOf s)) = dv (runD (bytesOf s) (i0 (bytesOf s))) * 10 ^ (runD (bytesOf s) (rn (bytesOf s) (i0 (bytesOf s)) + 1)).length + dv (runD (bytesOf s) (rn (bytesOf s) (i0 (bytesOf s)) + 1)) := by unfold digS; rw [if_pos hp, dv_app]
    have hr2 := rn_le (L := bytesOf s) (i := rn (bytesOf s) (i0 (bytesOf s)) + 1) (by rw [bytesOf_length]; omega)
    have hl2 := runD_len (bytesOf s) (rn (bytesOf s) (i0 (bytesOf s)) + 1)
    rw [bytesOf_length] at hr2
    have e3 : (0 + if true = true then (runD (bytesOf s) (rn (bytesOf s) (i0 (bytesOf s)) + 1)).length else 0) = behS (bytesOf s) := by rw [hB]; simp
    rw [e3, ← hD] at hI2
    obtain ⟨g', p', t, q1, q2, q3, q4, q5, q6, q7, q8⟩ := read_end s hs hn true (negS (bytesOf s)) g2 p2 _ hI2 (by omega) (by omega)
    refine ⟨g', p', t, q1, q2, q3, q4, q5, q6, q7, first _ (hs1 _ ?_)⟩
    refine Ev.step (fun k => by rw [dec_read.l0, if_pos (by omega), if_pos (by omega), bt_lk]) (Ev.bind (kind_ev _) ?_)
    rw [kd_P hp]
    have n0 : ¬ (1 : Int) = 0 := by decide
    simp only [if_neg n0, if_true]
    rw [w1 _ (by omega)]
    refine hs2 _ ?_
    rw [← hE]
    exact q8
  · have hE : endM (bytesOf s) = rn (bytesOf s) (i0 (bytesOf s)) := by unfold endM scanB; rw [if_neg hp]
    have hB : behS (bytesOf s) = 0 := by unfold behS; rw [if_neg hp]
    have hD : dv (digS (bytesOf s)) = dv (runD (bytesOf s) (i0 (bytesOf s))) := by unfold digS; rw [if_neg hp, List.append_nil]
    rw [← hD, ← hB] at hI1
    obtain ⟨g', p', t, q1, q2, q3, q4, q5, q6, q7, q8⟩ := read_end s hs hn false (negS (bytesOf s)) g1 p1 _ hI1 (by omega) (by omega)
    refine ⟨g', p', t, q1, q2, q3, q4, q5, q6, q7, first _ (hs1 _ ?_)⟩
    rw [← hE]
    exact q8
end Go.Proofs.YtfpnglgipchjhaaDoor.PR
namespace Go.Proofs.YtfpnglgipchjhaaDoor.PR
open Go.RowKit Go.Proofs.YtfpnglgipchjhaaDoorW.PrintWords Go.Proofs.YtfpnglgipchjhaaDoorW.PrintLast Go.Proofs.YtfpnglgipchjhaaDoorW.PrintMore
theorem uw (n : Int) : IntKind.u64.wrap n = n % 18446744073709551616 := by simp [IntKind.wrap, IntKind.bits, IntKind.signed]
theorem and32 (a : Int) (h0 : 0 ≤ a) (h1 : a < 18446744073709551616) : Go.bits .and .u64 a 4294967295 = a % 4294967296 := by
  obtain ⟨A, rfl⟩ := Int.eq_ofNat_of_zero_le h0
  have := u64_and_nat A 4294967295 (by omega) (by omega)
  have h2 : ((4294967295 : Nat) : Int) = 4294967295 := rfl
  rw [h2] at this
  rw [this]
  have h3 : A &&& 4294967295 = A % 4294967296 := Nat.and_two_pow_sub_one_eq_mod A 32
  rw [h3]
  omega
theorem mul64_B (a b : Int) (ha0 : 0 ≤ a) (ha : a < 18446744073709551616) (hb0 : 0 ≤ b) (hb : b < 18446744073709551616) : bits_Mul64.f a b = some (a * b / 18446744073709551616, a * b % 18446744073709551616) := by
  unfold bits_Mul64.f
  obtain ⟨X, rfl⟩ := Int.eq_ofNat_of_zero_le ha0
  obtain ⟨Y, rfl⟩ := Int.eq_ofNat_of_zero_le hb0
  have hX : X < 18446744073709551616 := by omega
  have hY : Y < 18446744073709551616 := by omega
  obtain ⟨h1, h2, h3, h4⟩ := Lib.mul64_hi X Y hX hY
  have lo : Go.IntKind.u64.wrap ((X : Int) * (Y : Int)) = (X : Int) * Y % 18446744073709551616 := uw _
  rw [and32 _ ha0 ha, and32 _ hb0 hb, lo]
  have z1 := Lib.half_mul_le (a := X / 4294967296) (b := Y / 4294967296) (by omega) (by omega)
  have z2 := Lib.half_mul_le (a := X / 4294967296) (b := Y % 4294967296) (by omega) (by omega)
  have z3 := Lib.half_mul_le (a := X % 4294967296) (b := Y / 4294967296) (by omega) (by omega)
  have q : (X : Int) * Y / 18446744073709551616 = ((X * Y / 18446744073709551616 : Nat) : Int) := by simp
  rw [q, ← h4]
  have c1 : ((X : Int) / 4294967296) * ((Y : Int) % 4294967296) = (((X / 4294967296) * (Y % 4294967296) : Nat) : Int) := by simp
  have c2 : ((X : Int) % 4294967296) * ((Y : Int) % 4294967296) = (((X % 4294967296) * (Y % 4294967296) : Nat) : Int) := by simp
  have c3 : ((X : Int) % 4294967296) * ((Y : Int) / 4294967296) = (((X % 4294967296) * (Y / 4294967296) : Nat) : Int) := by simp
  have c4 : ((X : Int) / 4294967296) * ((Y : Int) / 4294967296) = (((X / 4294967296) * (Y / 4294967296) : Nat) : Int) := by simp
  rw [c1, c2, c3, c4]
  generalize X / 4294967296 * (Y / 4294967296) = p at *
  generalize X / 4294967296 * (Y % 4294967296) = r at *
  generalize X % 4294967296 * (Y / 4294967296) = s at *
  generalize X % 4294967296 * (Y % 4294967296) = t at *
  have e1 : IntKind.u64.wrap (t : Int) = (t : Int) := by rw [uw]; omega
  have e2 : IntKind.u64.wrap (r : Int) = (r : Int) := by rw [uw]; omega
  have e3 : IntKind.u64.wrap (s : Int) = (s : Int) := by rw [uw]; omega
  have e4 : IntKind.u64.wrap (p : Int) = (p : Int) := by rw [uw]; omega
  rw [e1, e2, e3, e4]
  have e5 : IntKind.u64.wrap ((r : Int) + (t : Int) / 4294967296) = ((r + t / 4294967296 : Nat) : Int) := by rw [uw]; omega
  rw [e5]
  generalize r + t / 4294967296 = u at *
  rw [and32 _ (by omega) (by omega)]
  have e6 : IntKind.u64.wrap ((u : Int) % 4294967296 + (s : Int)) = ((u % 4294967296 + s : Nat) : Int) := by rw [uw]; omega
  rw [e6]
  have e7 : IntKind.u64.wrap ((p : Int) + (u : Int) / 4294967296) = ((p + u / 4294967296 : Nat) : Int) := by rw [uw]; omega
  rw [e7]
  generalize u % 4294967296 + s = v at *
  have hq : X * Y / 18446744073709551616 < 18446744073709551616 := by
    have : X * Y < 18446744073709551616 * 18446744073709551616 := Nat.mul_lt_mul'' hX hY
    omega
  have e8 : IntKind.u64.wrap (((p + u / 4294967296 : Nat) : Int) + (v : Int) / 4294967296) = ((p + u / 4294967296 + v / 4294967296 : Nat) : Int) := by
    rw [uw]
    omega
  rw [e8]
theorem or7 (a b : Int) (ha0 : 0 ≤ a) (ha : a < 144115188075855872) (hb0 : 0 ≤ b) (hb : b < 128) : Go.bits .or .u64 (a * 128) b = a * 128 + b := by
  obtain ⟨A, rfl⟩ := Int.eq_ofNat_of_zero_le ha0
  obtain ⟨B, rfl⟩ := Int.eq_ofNat_of_zero_le hb0
  have e : ((A : Int) * 128) = ((2 ^ 7 * A : Nat) : Int) := by omega
  rw [e, u64_or_nat _ _ (by omega) (by omega), ← Nat.two_pow_add_eq_or_of_lt (show B < 2 ^ 7 by omega)]
  omega
theorem lz_all : bits_LeadingZeros64.f 100000000000000000 = some 7 := by decide +kernel
theorem div_l1 (u un21 un0 : Int) (hU : u * 128 = un21 * 4294967296 + un0) (h0 : 0 ≤ un0) (h1 : un0 < 4294967296) (hu0 : 0 ≤ u) (hu : u < 6553600000000000000000) :
    ∀ (d : Nat) (q : Int), q = u / 100000000000000000 + d → d ≤ 3 → un21 - q * 2980232238 < 4294967296 → 0 ≤ un21 - q * 2980232238 →
      Ev (fun k => bits_Div64.l1 k 12800000000000000000 7 2980232238 3305111552 un0 0 (un21 - q * 2980232238) un21 q) (u / 100000000000000000, u % 100000000000000000) := by
  have fin : ∀ (b : Bool), b = false → Ev (fun k => bits_Div64.j4 k 12800000000000000000 7 2980232238 3305111552 un0 0 (un21 - u / 100000000000000000 * 2980232238) un21 (u / 100000000000000000) b) (u / 100000000000000000, u % 100000000000000000) := by
    intro b hb
    subst hb
    refine Ev.step (fun k => by rw [bits_Div64.j4, if_neg (by decide), if_pos (by decide)]) ?_
    simp only [uw]
    have e1 : (0 * 4294967296 % 18446744073709551616 + u / 100000000000000000) % 18446744073709551616 = u / 100000000000000000 := by omega
    have e2 : shr .u64 (((un21 * 4294967296 % 18446744073709551616 + un0) % 18446744073709551616 - u / 100000000000000000 * 12800000000000000000 % 18446744073709551616) % 18446744073709551616) 7 = u % 100000000000000000 := by
      unfold shr
      have e7 : (2 : Int) ^ min (7 : Int).toNat IntKind.u64.bits = 128 := by decide
      rw [e7]
      omega
    rw [e1, e2]
    exact Ev.now _
  intro d
  induction d with
  | zero =>
    intro q hq _ h3 h4
    have hq' : q = u / 100000000000000000 := by omega
    subst hq'
    refine Ev.step (fun k => by rw [bits_Div64.l1, if_neg (by omega)]) ?_
    refine fin _ (decide_eq_false ?_)
    have m1 : u / 100000000000000000 * 3305111552 % 18446744073709551616 = u / 100000000000000000 * 3305111552 := Int.emod_eq_of_lt (by omega) (by omega)
    have m2 : 4294967296 * (un21 - u / 100000000000000000 * 2980232238) % 18446744073709551616 = 4294967296 * (un21 - u / 100000000000000000 * 2980232238) := Int.emod_eq_of_lt (by omega) (by omega)
    have m3 : (4294967296 * (un21 - u / 100000000000000000 * 2980232238) + un0) % 18446744073709551616 = 4294967296 * (un21 - u / 100000000000000000 * 2980232238) + un0 := Int.emod_eq_of_lt (by omega) (by omega)
    rw [uw, uw, uw, m1, m2, m3]
    omega
  | succ d ih =>
    intro q hq hd h3 h4
    refine Ev.step (fun k => by rw [bits_Div64.l1, if_neg (by omega)]) ?_
    have ht : decide (IntKind.u64.wrap (q * 3305111552) > IntKind.u64.wrap (IntKind.u64.wrap (4294967296 * (un21 - q * 2980232238)) + un0)) = true := by
      have m1 : q * 3305111552 % 18446744073709551616 = q * 3305111552 := Int.emod_eq_of_lt (by omega) (by omega)
      have m2 : 4294967296 * (un21 - q * 2980232238) % 18446744073709551616 = 4294967296 * (un21 - q * 2980232238) := Int.emod_eq_of_lt (by omega) (by omega)
      have m3 : (4294967296 * (un21 - q * 2980232238) + un0) % 18446744073709551616 = 4294967296 * (un21 - q * 2980232238) + un0 := Int.emod_eq_of_lt (by omega) (by omega)
      rw [decide_eq_true_eq, uw, uw, uw, m1, m2, m3]
      omega
    rw [ht]
    have e1 : IntKind.u64.wrap (q - 1) = q - 1 := by rw [uw]; omega
    have e2 : IntKind.u64.wrap (un21 - q * 2980232238 + 2980232238) = un21 - (q - 1) * 2980232238 := by rw [uw]; omega
    refine Ev.step (fun k => by rw [bits_Div64.j4, if_pos rfl, e1, e2]) ?_
    by_cases h5 : un21 - (q - 1) * 2980232238 ≥ 4294967296
    · have hq' : q - 1 = u / 100000000000000000 := by omega
      simp only [if_pos h5]
      have h := fin false rfl
      obtain ⟨K, hK⟩ := h
      refine ⟨K + 1, fun k hk => ?_⟩
      obtain ⟨j, rfl⟩ : ∃ j, k = j + 1 := ⟨k - 1, by omega⟩
      have h6 := hK (j + 1) (by omega)
      dsimp only at h6
      rw [bits_Div64.j4, if_neg (by decide), if_pos (by decide)] at h6
      dsimp only
      rw [hq', if_pos (by decide)]
      exact h6
    · simp only [if_neg h5]
      exact ih (q - 1) (by omega) (by omega) (by omega) (by omega)
theorem div64_ev (u : Int) (hu0 : 0 ≤ u) (hu : u < 6553600000000000000000) :
    Ev (fun k => bits_Div64.f k (u / 18446744073709551616) (u % 18446744073709551616) 100000000000000000) (u / 100000000000000000, u % 100000000000000000) := by
  unfold bits_Div64.f
  have h1 : ¬ (100000000000000000 : Int) = 0 := by decide
  have h2 : ¬ (100000000000000000 : Int) ≤ u / 18446744073709551616 := by omega
  simp only [if_neg h1, if_neg h2]
  by_cases h3 : u / 18446744073709551616 = 0
  · simp only [if_pos h3]
    have e : u % 18446744073709551616 = u := by omega
    rw [e, uw, Int.tdiv_eq_ediv_of_nonneg hu0, Int.tmod_eq_emod_of_nonneg hu0]
    have e2 : u / 100000000000000000 % 18446744073709551616 = u / 100000000000000000 := by omega
    rw [e2]
    exact Ev.now _
  · simp only [if_neg h3]
    rw [lz_all]
    simp only [Option.bind_some]
    have c0 : (0 : Int) ≤ IntKind.u64.wrap 7 := by decide
    have c1 : (0 : Int) ≤ IntKind.u64.wrap (64 - IntKind.u64.wrap 7) := by decide
    have c2 : shl .u64 100000000000000000 (IntKind.u64.wrap 7) = 12800000000000000000 := by decide +kernel
    have c3 : IntKind.u64.wrap 7 = 7 := by decide
    have c4 : IntKind.u64.wrap (64 - 7) = 57 := by decide
    have c5 : Go.bits .and .u64 12800000000000000000 4294967295 = 3305111552 := by rw [and32 _ (by decide) (by decide)]; decide
    have c6 : (12800000000000000000 : Int) / 4294967296 = 2980232238 := by decide
    simp only [if_pos c0, if_pos c1, c2]
    rw [c3, c4, c5, c6]
    have c7 : ¬ (2980232238 : Int) = 0 := by decide
    simp only [if_neg c7]
    have s1 : shl .u64 (u / 18446744073709551616) 7 = u / 18446744073709551616 * 128 := by
      unfold shl
      have e7 : (2 : Int) ^ min (7 : Int).toNat IntKind.u64.bits = 128 := by decide
      rw [e7, uw]
      omega
    have s2 : shr .u64 (u % 18446744073709551616) 57 = u % 18446744073709551616 / 144115188075855872 := by
      unfold shr
      have e7 : (2 : Int) ^ min (57 : Int).toNat IntKind.u64.bits = 144115188075855872 := by decide
      rw [e7]
    have s3 : shl .u64 (u % 18446744073709551616) 7 = u % 18446744073709551616 * 128 % 18446744073709551616 := by
      unfold shl
      have e7 : (2 : Int) ^ min (7 : Int).toNat IntKind.u64.bits = 128 := by decide
      rw [e7, uw]
    rw [s1, s2, s3, or7 _ _ (by omega) (by omega) (by omega) (by omega), and32 _ (by omega) (by omega)]
    have hn : u / 18446744073709551616 * 128 + u % 18446744073709551616 / 144115188075855872 = u / 144115188075855872 := by omega
    rw [hn]
    have q1 : IntKind.u64.wrap (Int.tdiv (u / 144115188075855872) 2980232238) = 0 := by
      rw [uw, Int.tdiv_eq_ediv_of_nonneg (by omega)]
      omega
    rw [q1]
    have r1 : IntKind.u64.wrap (u / 144115188075855872 - IntKind.u64.wrap (0 * 2980232238)) = u / 144115188075855872 := by rw [uw, uw]; omega
    rw [r1]
    obtain ⟨un1, hun1⟩ : ∃ x, x = u % 18446744073709551616 * 128 % 18446744073709551616 / 4294967296 := ⟨_, rfl⟩
    obtain ⟨un0, hun0⟩ : ∃ x, x = u % 18446744073709551616 * 128 % 18446744073709551616 % 4294967296 := ⟨_, rfl⟩
    obtain ⟨un32, hun32⟩ : ∃ x, x = u / 144115188075855872 := ⟨_, rfl⟩
    rw [← hun1, ← hun0, ← hun32]
    have hU : u * 128 = (un32 * 4294967296 + un1) * 4294967296 + un0 := by omega
    have b1 : 0 ≤ un1 ∧ un1 < 4294967296 := by omega
    have b0 : 0 ≤ un0 ∧ un0 < 4294967296 := by omega
    have b3 : 0 ≤ un32 ∧ un32 < 45500 := by omega
    clear hun1 hun0 hun32 hn h3 h2 s1 s2 s3 q1 r1
    refine Ev.step (fun k => by rw [bits_Div64.l0, if_neg (by decide)]) ?_
    have d1 : decide (IntKind.u64.wrap (0 * 3305111552) > IntKind.u64.wrap (IntKind.u64.wrap (4294967296 * un32) + un1)) = false := by
      rw [decide_eq_false_iff_not, uw, uw, uw]
      omega
    rw [d1]
    refine Ev.step (fun k => by rw [bits_Div64.j1, if_neg (by decide)]) ?_
    have d2 : IntKind.u64.wrap (IntKind.u64.wrap (IntKind.u64.wrap (un32 * 4294967296) + un1) - IntKind.u64.wrap (0 * 12800000000000000000)) = un32 * 4294967296 + un1 := by
      simp only [uw]
      omega
    refine Ev.step (fun k => by rw [bits_Div64.j2, if_neg c7, d2]) ?_
    obtain ⟨n, hn⟩ : ∃ x, x = un32 * 4294967296 + un1 := ⟨_, rfl⟩
    rw [← hn] at hU ⊢
    have bn : 0 ≤ n ∧ n < 195421012000000 := by omega
    have d3 : IntKind.u64.wrap (Int.tdiv n 2980232238) = n / 2980232238 := by
      rw [uw, Int.tdiv_eq_ediv_of_nonneg bn.1]
      omega
    rw [d3]
    have d4 : IntKind.u64.wrap (n - IntKind.u64.wrap (n / 2980232238 * 2980232238)) = n - n / 2980232238 * 2980232238 := by
      rw [uw, uw]
      omega
    rw [d4]
    refine div_l1 u n un0 hU b0.1 b0.2 hu0 hu (n / 2980232238 - u / 100000000000000000).toNat (n / 2980232238) (by omega) (by omega) (by omega) (by omega)
end Go.Proofs.YtfpnglgipchjhaaDoor.PR
namespace Go.Proofs.YtfpnglgipchjhaaDoor.PR
open Go.RowKit Go.Proofs.YtfpnglgipchjhaaDoorW.PrintWords Go.Proofs.YtfpnglgipchjhaaDoorW.PrintLast Go.Proofs.YtfpnglgipchjhaaDoorW.PrintMore Go.Proofs.YtfpnglgipchjhaaDoor.DecV
theorem scanU_le {L : List Int} {i : Nat} (h : i ≤ L.length) : (scanU L i).1 ≤ L.length := by
  have hb := scanB_le h
  unfold scanU
  split
  · split
    · rename_i h2
      have h3 := isE_lt h2
      refine rn_le ?_
      unfold expJ
      split
      · rename_i h4
        have := isS_lt h4
        omega
      · omega
    · exact hb
  · exact hb
theorem scanS_le {L : List Int} {i : Nat} (h : i ≤ L.length) (sg : Bool) : (scanS L i sg).1 ≤ L.length := by
  unfold scanS
  split
  · rename_i h2
    have := isS_lt h2.2
    exact scanU_le (by omega)
  · exact scanU_le h
theorem digit_eq (ng : Bool) {g : List Int} (hg : Dg g) (_hl : g.length < 1099511627776) (p x : Int) (hp : -1125899906842624 < p ∧ p < 1125899906842624) (hx : -100 < x ∧ x < 100) : dec_number_digit.f ng g p x = some (at_ g (p + x - 1)) := by
  have e : wrap64 (wrap64 (p + x) - 1) = p + x - 1 := by rw [w64s (p + x) (by omega) (by omega), w64s _ (by omega) (by omega)]
  unfold dec_number_digit.f
  rw [e]
  unfold at_
  by_cases h0 : p + x - 1 < 0
  · rw [if_pos h0, if_pos h0]
  · rw [if_neg h0, if_neg h0]
    by_cases h1 : p + x - 1 ≥ (g.length : Int)
    · rw [if_pos h1, if_pos h1]
    · rw [if_neg h1, if_neg h1, if_pos (by omega), if_pos (by omega)]
      have hlt : (p + x - 1).toNat < g.length := by omega
      have hv : rd g (p + x - 1) = g[(p + x - 1).toNat] := by unfold rd; rw [List.getD_eq_getElem?_getD, List.getElem?_eq_getElem hlt]; rfl
      have hv2 : g.getD (p + x - 1).toNat 0 = g[(p + x - 1).toNat] := by rw [List.getD_eq_getElem?_getD, List.getElem?_eq_getElem hlt]; rfl
      have hr := hg _ (List.getElem_mem hlt)
      rw [hv, hv2, uw, Int.emod_eq_of_lt hr.1 (by omega)]
theorem parse_up (ng : Bool) {g : List Int} (hg : Dg g) (hl : g.length < 1099511627776) (p : Int) (hp : -1125899906842624 < p ∧ p < 1125899906842624) (r : Int × Int) :
    ∀ (d : Nat) (x : Int) (u : Nat), x = 1 - (d : Int) → d ≤ 5 → u = F g (p + x - 1) → u < 10 ^ (5 - d) → (F g p < 100000 → Ev (fun k => dec_Parse.l1 k (F g p : Int) 0 1 ng g p) r) → Ev (fun k => dec_Parse.l0 k (u : Int) x ng g p) r := by
  intro d
  induction d with
  | zero =>
    intro x u hx _ hu hlt hr
    have e : p + x - 1 = p := by omega
    rw [e] at hu
    subst hu
    exact Ev.step (fun k => by rw [dec_Parse.l0, if_neg (by omega)]) (hr hlt)
  | succ d ih =>
    intro x u hx hd hu hlt hr
    have ha := at_ok hg (p + x - 1)
    have hF := F_succ g (p + x - 1)
    have hu2 : u < 100000 := Nat.lt_of_lt_of_le hlt (Nat.pow_le_pow_right (n := 10) (by decide) (show 5 - (d + 1) ≤ 5 by omega))
    refine Ev.step (fun k => by rw [dec_Parse.l0, if_pos (by omega), digit_eq ng hg hl p x hp (by omega)]) ?_
    simp only [Option.bind_some]
    have e1 : IntKind.u64.wrap (IntKind.u64.wrap (10 * (u : Int)) + at_ g (p + x - 1)) = ((10 * u + (at_ g (p + x - 1)).toNat : Nat) : Int) := by rw [uw, uw]; omega
    have e2 : wrap64 (x + 1) = x + 1 := w64s _ (by omega) (by omega)
    rw [e1, e2]
    refine ih (x + 1) _ (by omega) (by omega) ?_ ?_ hr
    · rw [show p + (x + 1) - 1 = p + x - 1 + 1 by omega, hF, ← hu]
    · have e3 : 5 - d = (5 - (d + 1)) + 1 := by omega
      rw [e3, Nat.pow_succ]
      omega
theorem parse_behind (ng : Bool) {g : List Int} (hg : Dg g) (hl : g.length < 1099511627776) (p : Int) (hp : -1125899906842624 < p ∧ p < 1125899906842624) (r : Int × Int) (U : Int) :
    ∀ (d : Nat) (x : Int) (u : Nat), x = 18 - (d : Int) → d ≤ 17 → F g p * 10 ^ (17 - d) + u = F g (p + x - 1) → u < 10 ^ (17 - d) →
      (∀ v : Nat, F g p * 100000000000000000 + v = F g (p + 17) → v < 100000000000000000 → Ev (fun k => dec_Parse.j4 k U (v : Int) (decide (g ≠ [] ∧ p + 17 < g.length)) ng g p) r) → Ev (fun k => dec_Parse.l1 k U (u : Int) x ng g p) r := by
  intro d
  induction d with
  | zero =>
    intro x u hx _ hu hlt hr
    have e : p + x - 1 = p + 17 := by omega
    rw [e] at hu
    have h := hr u hu hlt
    have hw : wrap64 (p + 17) = p + 17 := w64s _ (by omega) (by omega)
    refine Ev.step (fun k => by rw [dec_Parse.l1, if_neg (by omega), hw]) ?_
    by_cases hn : g = []
    · subst hn
      have h0 : ¬ ((([] : List Int).length : Int) > 0) := by decide
      simp only [if_neg h0]
      rw [decide_eq_false (fun h => h.1 rfl)] at h
      exact h
    · have h0 : (g.length : Int) > 0 := by have := List.length_pos_iff.mpr hn; omega
      simp only [if_pos h0]
      have e2 : decide (g ≠ [] ∧ p + 17 < (g.length : Int)) = decide (p + 17 < (g.length : Int)) := by
        rw [Bool.eq_iff_iff, decide_eq_true_eq, decide_eq_true_eq]
        exact ⟨fun h => h.2, fun h => ⟨hn, h⟩⟩
      rw [e2] at h
      exact h
  | succ d ih =>
    intro x u hx hd hu hlt hr
    have ha := at_ok hg (p + x - 1)
    have hF := F_succ g (p + x - 1)
    have hu2 : u < 100000000000000000 := Nat.lt_of_lt_of_le hlt (Nat.pow_le_pow_right (n := 10) (by decide) (show 17 - (d + 1) ≤ 17 by omega))
    refine Ev.step (fun k => by rw [dec_Parse.l1, if_pos (by omega), digit_eq ng hg hl p x hp (by omega)]) ?_
    simp only [Option.bind_some]
    have e1 : IntKind.u64.wrap (IntKind.u64.wrap (10 * (u : Int)) + at_ g (p + x - 1)) = ((10 * u + (at_ g (p + x - 1)).toNat : Nat) : Int) := by rw [uw, uw]; omega
    have e2 : wrap64 (x + 1) = x + 1 := w64s _ (by omega) (by omega)
    rw [e1, e2]
    have e3 : 17 - d = (17 - (d + 1)) + 1 := by omega
    refine ih (x + 1) _ (by omega) (by omega) ?_ ?_ hr
    · rw [show p + (x + 1) - 1 = p + x - 1 + 1 by omega, hF, ← hu, e3, Nat.pow_succ, ← Nat.mul_assoc]
      omega
    · rw [e3, Nat.pow_succ]
      omega
theorem parse_round (ng : Bool) (g : List Int) (p : Int) (U V : Nat) (more : Bool) (hU : U < 100000) (hV : V < 100000000000000000) :
    Ev (fun k => dec_Parse.j4 k (U : Int) (V : Int) more ng g p) (if U * 65536 + V * 65536 / 100000000000000000 + (if upB ng (V * 65536 % 100000000000000000) (if more = true then 1 else 0) = true then 1 else 0) < 4294967296 then (sg ng (U * 65536 + V * 65536 / 100000000000000000 + (if upB ng (V * 65536 % 100000000000000000) (if more = true then 1 else 0) = true then 1 else 0)), 0) else (0, 2)) := by
  have hq : ((V * 65536 : Nat) : Int) / 100000000000000000 = ((V * 65536 / 100000000000000000 : Nat) : Int) := by omega
  have hr : ((V * 65536 : Nat) : Int) % 100000000000000000 = ((V * 65536 % 100000000000000000 : Nat) : Int) := by omega
  have hm : bits_Mul64.f (V : Int) 65536 = some (((V * 65536 : Nat) : Int) / 18446744073709551616, ((V * 65536 : Nat) : Int) % 18446744073709551616) := by
    rw [mul64_B _ _ (by omega) (by omega) (by decide) (by decide)]
    rfl
  have hd := div64_ev ((V * 65536 : Nat) : Int) (by omega) (by omega)
  rw [hq, hr] at hd
  have q1 : V * 65536 / 100000000000000000 < 65536 := by omega
  have r1 : V * 65536 % 100000000000000000 < 100000000000000000 := Nat.mod_lt _ (by decide)
  generalize V * 65536 / 100000000000000000 = q at *
  generalize V * 65536 % 100000000000000000 = r at *
  have e1 : IntKind.u64.wrap (IntKind.u64.wrap ((U : Int) * 65536) + (q : Int)) = ((U * 65536 + q : Nat) : Int) := by rw [uw, uw]; omega

  have fin : ∀ b : Bool, b = upB ng r (if more = true then 1 else 0) → Ev (fun k => dec_Parse.j5 k ((U * 65536 + q : Nat) : Int) b ng g p) (if U * 65536 + q + (if upB ng r (if more = true then 1 else 0) = true then 1 else 0) < 4294967296 then (sg ng (U * 65536 + q + (if upB ng r (if more = true then 1 else 0) = true then 1 else 0)), 0) else (0, 2)) := by
    intro b hb
    rw [← hb]
    have g6 : ∀ v : Nat, v < 8589934592 → Ev (fun k => dec_Parse.j6 k (v : Int) ng g p) (if v < 4294967296 then (sg ng v, 0) else (0, 2)) := by
      intro v hv
      by_cases h : v < 4294967296
      · rw [if_pos h]
        refine Ev.step (fun k => by rw [dec_Parse.j6, if_neg (by omega)]) ?_
        cases ng with
        | true =>
          simp only [if_true]
          rw [w64s (v : Int) (by omega) (by omega), w64s (-(v : Int)) (by omega) (by omega)]
          exact Ev.now _
        | false =>
          simp only [Bool.false_eq_true, if_false]
          rw [w64s (v : Int) (by omega) (by omega)]
          exact Ev.now _
      · rw [if_neg h]
        exact Ev.step (fun k => by rw [dec_Parse.j6, if_pos (by omega)]) (Ev.now _)
    cases b with
    | true =>
      have e2 : IntKind.u64.wrap (((U * 65536 + q : Nat) : Int) + 1) = ((U * 65536 + q + 1 : Nat) : Int) := by rw [uw]; omega
      simp only [if_true]
      exact Ev.step (fun k => by rw [dec_Parse.j5, if_pos rfl, e2]) (g6 _ (by omega))
    | false =>
      simp only [Bool.false_eq_true, if_false, Nat.add_zero]
      exact Ev.step (fun k => by rw [dec_Parse.j5, if_neg (by decide)]) (g6 _ (by omega))
  refine Ev.step (fun k => by rw [dec_Parse.j4, hm]) ?_
  simp only [Option.bind_some]
  refine Ev.bind hd ?_
  simp only [e1]
  by_cases h1 : (r : Int) > 50000000000000000
  · simp only [if_pos h1]
    exact fin true (by unfold upB; rw [decide_eq_true (show 50000000000000000 < r by omega)]; rfl)
  · simp only [if_neg h1]
    by_cases h2 : (r : Int) = 50000000000000000
    · simp only [if_pos h2]
      have hr2 : r = 50000000000000000 := by omega
      cases more with
      | true =>
        simp only [if_true]
        exact fin true (by subst hr2; cases ng <;> decide)
      | false =>
        simp only [Bool.false_eq_true, if_false]
        exact fin (!ng) (by subst hr2; cases ng <;> decide)
    · simp only [if_neg h2]
      exact fin false (by
        unfold upB
        rw [decide_eq_false (show ¬ 50000000000000000 < r by omega), beq_eq_false_iff_ne.mpr (show r ≠ 50000000000000000 by omega)]
        rfl)
theorem inb_sg (g : Bool) (v : Nat) : inb (sg g v) ↔ v < 4294967296 := by
  unfold inb sg
  cases g with
  | true => simp only [if_true]; omega
  | false => simp only [Bool.false_eq_true, if_false]; omega
theorem decparse_ev (s : ByteArray) (hs : s.size ≤ 300) : Ev (fun k => dec_Parse.f k s) (parseS (bytesOf s)) := by
  unfold dec_Parse.f parseS
  have h0 : ((0 : Nat) : Int) = 0 := rfl
  have hsc := decscan_ev s (by omega) 0 (Nat.zero_le _) true
  rw [h0] at hsc
  refine Ev.bind hsc ?_
  have hle := scanS_le (L := bytesOf s) (i := 0) (Nat.zero_le _) true
  have bad : Ev (fun k => dec_Parse.j0 k s true) (0, 3) := Ev.step (f := fun _ => some (0, 3)) (fun k => by rw [dec_Parse.j0, if_pos rfl]) (Ev.now _)
  by_cases hn : isNum (bytesOf s)
  · rw [if_pos hn]
    have e1 : (scanS (bytesOf s) 0 true).1 = s.size := by rw [show scanS (bytesOf s) 0 true = _ from hn, bytesOf_length]
    have e2 : (scanS (bytesOf s) 0 true).2 = true := by rw [show scanS (bytesOf s) 0 true = _ from hn]
    simp only [e1, e2, if_true]
    rw [decide_eq_false (Int.lt_irrefl _)]
    obtain ⟨g, p, t, q1, q2, q3, q4, q5, q6, q7, q8⟩ := read_ev s (by omega) hn
    have hspec : specR (negS (bytesOf s)) (dv (digS (bytesOf s))) (epwS 1000 (bytesOf s) - behS (bytesOf s)) = specR (negS (bytesOf s)) (dv g) (p - g.length) := by
      rw [← epw_far _ _ (by rw [bytesOf_length]; exact hs) 1099511627776 (by decide)]
      unfold specR
      have h := specN_shift (negS (bytesOf s)) (dv g) (p - g.length) t
      rw [← q1, show p - (g.length : Int) - (t : Int) = epwS 1099511627776 (bytesOf s) - behS (bytesOf s) by omega] at h
      rw [h]
    rw [hspec]
    refine Ev.step (fun k => by rw [dec_Parse.j0, if_neg (by decide)]) (Ev.bind q8 ?_)
    generalize negS (bytesOf s) = ng at *

    have go : (g ≠ [] → p ≤ 5) → Ev (fun k => dec_Parse.j1 k false ng g p) (specR ng (dv g) (p - g.length)) := by
      intro hp5
      have hlow : F g (p + (-4) - 1) = 0 := by
        by_cases hg0 : g = []
        · subst hg0; unfold F; split <;> simp [dv_nil]
        · exact F_low _ _ (by have := hp5 hg0; omega)
      refine Ev.step (fun k => by rw [dec_Parse.j1, if_neg (by decide)]) ?_
      refine parse_up ng q3 (by omega) p q6 _ 5 (-4) 0 (by decide) (by decide) hlow.symm (by decide) (fun hup => ?_)
      refine parse_behind ng q3 (by omega) p q6 _ _ 17 1 0 (by decide) (by decide) (by simp) (by decide) (fun v hv hvlt => ?_)
      have h := parse_round ng g p (F g p) v (decide (g ≠ [] ∧ p + 17 < g.length)) hup hvlt
      have h17 := spec_17 ng q3 q5 p
      rw [← hv] at h17
      have a1 : (F g p * 100000000000000000 + v) * 65536 / 100000000000000000 = F g p * 65536 + v * 65536 / 100000000000000000 := by omega
      have a2 : (F g p * 100000000000000000 + v) * 65536 % 100000000000000000 = v * 65536 % 100000000000000000 := by omega
      rw [a1, a2] at h17
      have a3 : (if decide (g ≠ [] ∧ p + 17 < (g.length : Int)) = true then 1 else 0 : Nat) = (if g ≠ [] ∧ p + 17 < (g.length : Int) then 1 else 0) := by simp only [decide_eq_true_eq]
      rw [a3] at h
      unfold specR
      rw [h17]
      by_cases hb : F g p * 65536 + v * 65536 / 100000000000000000 + (if upB ng (v * 65536 % 100000000000000000) (if g ≠ [] ∧ p + 17 < (g.length : Int) then 1 else 0) = true then 1 else 0) < 4294967296
      · rw [if_pos hb] at h
        rw [if_pos ((inb_sg _ _).2 hb)]
        exact h
      · rw [if_neg hb] at h
        rw [if_neg (fun hi => hb ((inb_sg _ _).1 hi))]
        exact h
    by_cases hp : p > 5
    · simp only [if_pos hp]
      by_cases hg0 : g = []
      · subst hg0
        exact go (fun h => absurd rfl h)
      · have hpos := List.length_pos_iff.mpr hg0
        rw [decide_eq_true hpos]
        have hns := spec_great ng q4 hg0 p hp
        unfold specR
        rw [if_neg hns]
        exact Ev.step (fun k => by rw [dec_Parse.j1, if_pos rfl]) (Ev.now _)
    · simp only [if_neg hp]
      exact go (fun _ => by omega)
  · rw [if_neg hn]
    cases h2 : (scanS (bytesOf s) 0 true).2 with
    | false =>
      simp only [Bool.false_eq_true, if_false]
      exact bad
    | true =>
      simp only [if_true]
      have h1 : (scanS (bytesOf s) 0 true).1 ≠ (bytesOf s).length := fun h => hn (Prod.ext h h2)
      rw [bytesOf_length] at hle h1
      rw [decide_eq_true (show ((scanS (bytesOf s) 0 true).1 : Int) < (s.size : Int) by omega)]
      exact bad
end Go.Proofs.YtfpnglgipchjhaaDoor.PR
namespace Go.Proofs.YtfpnglgipchjhaaDoor.PR
open Go.RowKit Go.Proofs.YtfpnglgipchjhaaDoorW.PrintWords Go.Proofs.YtfpnglgipchjhaaDoorW.PrintLast Go.Proofs.YtfpnglgipchjhaaDoorW.PrintMore
attribute [local go_sem] max2_int min2_int max_two min_two max_three min_three max_four min_four
set_option linter.unusedVariables false
set_option linter.unusedSimpArgs false
end Go.Proofs.YtfpnglgipchjhaaDoor.PR
namespace Go.Proofs.YtfpnglgipchjhaaDoor.PR
open Go.RowKit Go.Proofs.YtfpnglgipchjhaaDoorW.PrintWords Go.Proofs.YtfpnglgipchjhaaDoorW.PrintLast Go.Proofs.YtfpnglgipchjhaaDoorW.PrintMore
attribute [local go_sem] max2_int min2_int max_two min_two max_three min_three max_four min_four
set_option linter.unusedVariables false
set_option linter.unusedSimpArgs false
end Go.Proofs.YtfpnglgipchjhaaDoor.PR
namespace Go.Proofs.YtfpnglgipchjhaaDoor.PR
open Go.RowKit Go.Proofs.YtfpnglgipchjhaaDoorW.PrintWords Go.Proofs.YtfpnglgipchjhaaDoorW.PrintLast Go.Proofs.YtfpnglgipchjhaaDoorW.PrintMore
attribute [local go_sem] max2_int min2_int max_two min_two max_three min_three max_four min_four
set_option linter.unusedVariables false
set_option linter.unusedSimpArgs false
def pointillistlaw04_digits.l0 : Nat → Int → ByteArray → Option (ByteArray)
 | 0, _, _ => none
 | k + 1, x0, x3 => (some (([(wrap64 (48 + (Int.tmod x0 10))) % 256] : List Int) : List Int)).bind fun y375 => (if (strOfNums y375).size + x3.size ≤ 9223372036854775807 then (if (wrap64 (Int.tdiv x0 10)) = 0 then (some ((strOfNums y375) ++ x3)) else (pointillistlaw04_digits.l0 k (wrap64 (Int.tdiv x0 10)) ((strOfNums y375) ++ x3))) else (none))
def pointillistlaw04_digits.f (k : Nat) (a0 : Int) : Option (ByteArray) := pointillistlaw04_digits.l0 k a0 (⟨#[]⟩ : ByteArray)
theorem pointillistlaw04_digits.mono_l : ∀ k, (∀ y0 y1, LeO (pointillistlaw04_digits.l0 k y0 y1) (pointillistlaw04_digits.l0 (k + 1) y0 y1))
 | 0 => fun _ _ r h => by simp [pointillistlaw04_digits.l0] at h
 | k + 1 => by
  have ih0 := pointillistlaw04_digits.mono_l k
  ·
   intro y0 y1
   unfold pointillistlaw04_digits.l0
   repeat' first
   | (with_reducible exact ih0 _ _)
   | (with_reducible exact LeO.refl _)
   | (with_reducible exact LeO.none _)
   | (with_reducible refine LeO.ite ?_ ?_)
   | (with_reducible refine LeO.bind ?_ (fun _ => ?_))
   | exact ih0 _ _
   | exact LeO.none _
   | refine LeO.ite ?_ ?_
   | refine LeO.bind ?_ (fun _ => ?_)
theorem pointillistlaw04_digits.mono : ∀ a0 k, LeO (pointillistlaw04_digits.f k a0) (pointillistlaw04_digits.f (k + 1) a0) := by
 intro a0 k
 have ih0 := pointillistlaw04_digits.mono_l k
 unfold pointillistlaw04_digits.f
 repeat' first
   | (with_reducible exact ih0 _ _)
   | (with_reducible exact LeO.refl _)
   | (with_reducible exact LeO.none _)
   | (with_reducible refine LeO.ite ?_ ?_)
   | (with_reducible refine LeO.bind ?_ (fun _ => ?_))
   | exact ih0 _ _
   | exact LeO.none _
   | refine LeO.ite ?_ ?_
   | refine LeO.bind ?_ (fun _ => ?_)
set_option maxHeartbeats 8000000 in
set_option maxRecDepth 100000 in
theorem pointillistlaw04_digits.calls (k : Nat) (a0 : Int) (r : ByteArray) (w : World) (h : pointillistlaw04_digits.f k a0 = some r) :
  Calls Tryd.prog 14 #[.int .i64 a0] w fun e w' => e = .returned (.string r) ∧ Below w.heap.size w w' := by
 have HB := Aside0.mk (Below.refl w.heap.size w)
 have H : (pointillistlaw04_digits.l0 k a0 (⟨#[]⟩ : ByteArray)) = some r := h
 clear h
 have H' := Aside0.mk H
 clear H
 go_enter Tryd.func14, Tryd.ntmps14
 go_wp2
 go_loopg [0, 3] k (fun kq v0 v3 w' => ∃ (x0_1 : Int) (x3_1 : ByteArray), v0 = .int .i64 x0_1 ∧ v3 = .string x3_1 ∧ Aside0 (pointillistlaw04_digits.l0 kq x0_1 x3_1 = some r) ∧ Aside0 (kq ≤ k) ∧ Aside0 (Below w.heap.size w w'))
 case atStart => exact ⟨(a0), ((⟨#[]⟩ : ByteArray)), (by first | rfl | (simp; done) | (simp [*]; done)), (by first | rfl | (simp; done) | (simp [*]; done)), H', ⟨Nat.le_refl _⟩, ⟨by exact wq HB.out⟩⟩
 case round =>
  clear H'
  try clear c1
  obtain ⟨x0_1, x3_1, rfl, rfl, HA, HK1, HB⟩ := hrel
  cases gk with
  | zero => exact absurd HA.out (by simp [pointillistlaw04_digits.l0])
  | succ k1 =>
   have H := HA.out
   clear HA
   simp only [pointillistlaw04_digits.l0] at H
   obtain ⟨y375, hy375⟩ : ∃ y_ : List Int, y_ = (([(wrap64 (48 + (Int.tmod x0_1 10))) % 256] : List Int)) := ⟨_, rfl⟩
   replace H : (if (strOfNums y375).size + x3_1.size ≤ 9223372036854775807 then (if (wrap64 (Int.tdiv x0_1 10)) = 0 then (some ((strOfNums y375) ++ x3_1)) else (pointillistlaw04_digits.l0 k1 (wrap64 (Int.tdiv x0_1 10)) ((strOfNums y375) ++ x3_1))) else (none)) = some r := by first | (rw [hy375]; with_reducible exact H) | (have H2_ := (Option.bind_some _ _).symm.trans H; rw [hy375]; with_reducible exact H2_) | (have H2_ := (Option.bind_some _ _).symm.trans H; with_reducible exact H2_) | with_reducible exact H | (rw [hy375]; exact H) | exact H
   have Ny375 := Aside0.mk hy375
   clear hy375
   by_cases c2 : (strOfNums y375).size + x3_1.size ≤ 9223372036854775807
   ·
    rw [if_pos c2] at H
    have c2b0 := eq_true c2
    have c2b1 : decide ((strOfNums y375).size + x3_1.size ≤ 9223372036854775807) = true := decide_eq_true c2
    try have c2b2 : (9223372036854775807 < (strOfNums y375).size + x3_1.size) = False := eq_false (Nat.not_lt.2 c2)
    try have c2b3 : (9223372036854775807 < strOfNums y375.size + x3_1.size) = False := eq_false (Nat.not_lt.2 (by have h_ := c2; simp [ByteArray.size_append, ByteArray.size_extract] at h_ ⊢; first | done | exact h_ | omega))
    by_cases c3 : (wrap64 (Int.tdiv x0_1 10)) = 0
    ·
     rw [if_pos c3] at H
     have c3b0 : ((wrap64 (Int.tdiv x0_1 10)) == 0) = true := beq_iff_eq.mpr c3
     have c3b1 : ((wrap64 (Int.tdiv x0_1 10)) != 0) = false := bne_eq_false_iff_eq.mpr c3
     clear c3
     obtain rfl := Option.some.inj H
     go_wp2_with (first | ((with_reducible refine gate_dst (N := 8) rfl ?_); refine Kd.R_lit (Kd.int .u8) _ 5 ?hg (N := 8) ?hd (xs := ([(wrap64 (48 + (Int.tmod x0_1 10))) % 256] : List Int)) (inner := [.int .u8 ((wrap64 (48 + (Int.tmod x0_1 10))) % 256)]) (ok := fun _ => True) (okp := fun _ => True) ?hr ?hp (fun _ hk => hk) trivial (Below.refl _ _) (Nat.le_refl _) (by simp) ?_; (case hd => rfl); (case hg => rfl); (case hr => first | (go_simp; done) | (go_simp; rfl)); (case hp => exact (Reps.one (show Kd.M (Kd.int .u8) _ _ _ ((wrap64 (48 + (Int.tmod x0_1 10))) % 256) [.int .u8 ((wrap64 (48 + (Int.tmod x0_1 10))) % 256)] from rfl) (Reps.none _ _))); intro v376 w4 ho5 hb hg_ hnew_; clear hg_ hnew_; (first | rw [← Ny375.out] at ho5 | (simp only [Int.reduceToNat] at ho5; rw [← Ny375.out] at ho5)); have n0_ := Aside0.mk (Kd.R_lower ho5 (below_size (wq HB.out))); have n1_ := Aside0.mk (below_step (wq HB.out) hb); clear HB; have HO377 := n0_; have HB := n1_; clear n0_ n1_ hb ho5; have hcv6 := own_string (P := Tryd.prog) Tryd.underlying36 Tryd.underlying5 Tryd.underlying9 (Kd.own_of_R HO377.out)))
     go_ret
     exact ⟨by first | rfl | (simp [errW_none, errW_some] <;> rfl) | (simp [*, errW_none, errW_some] <;> rfl), by exact wq HB.out⟩
    ·
     rw [if_neg c3] at H
     have c3b0 : ((wrap64 (Int.tdiv x0_1 10)) == 0) = false := beq_eq_false_iff_ne.mpr c3
     have c3b1 : ((wrap64 (Int.tdiv x0_1 10)) != 0) = true := bne_iff_ne.mpr c3
     have H' := Aside0.mk H
     clear H
     go_wp2_with (first | ((with_reducible refine gate_dst (N := 8) rfl ?_); refine Kd.R_lit (Kd.int .u8) _ 5 ?hg (N := 8) ?hd (xs := ([(wrap64 (48 + (Int.tmod x0_1 10))) % 256] : List Int)) (inner := [.int .u8 ((wrap64 (48 + (Int.tmod x0_1 10))) % 256)]) (ok := fun _ => True) (okp := fun _ => True) ?hr ?hp (fun _ hk => hk) trivial (Below.refl _ _) (Nat.le_refl _) (by simp) ?_; (case hd => rfl); (case hg => rfl); (case hr => first | (go_simp; done) | (go_simp; rfl)); (case hp => exact (Reps.one (show Kd.M (Kd.int .u8) _ _ _ ((wrap64 (48 + (Int.tmod x0_1 10))) % 256) [.int .u8 ((wrap64 (48 + (Int.tmod x0_1 10))) % 256)] from rfl) (Reps.none _ _))); intro v376 w7 ho8 hb hg_ hnew_; clear hg_ hnew_; (first | rw [← Ny375.out] at ho8 | (simp only [Int.reduceToNat] at ho8; rw [← Ny375.out] at ho8)); have n0_ := Aside0.mk (Kd.R_lower ho8 (below_size (wq HB.out))); have n1_ := Aside0.mk (below_step (wq HB.out) hb); clear HB; have HO377 := n0_; have HB := n1_; clear n0_ n1_ hb ho8; have hcv9 := own_string (P := Tryd.prog) Tryd.underlying36 Tryd.underlying5 Tryd.underlying9 (Kd.own_of_R HO377.out)))
     go_roundg k1
     case measure => have := HK1.out; omega
     case rel => exact ⟨(wrap64 (Int.tdiv x0_1 10)), ((strOfNums y375) ++ x3_1), (by first | rfl | (simp; done) | (simp [*]; done)), (by first | rfl | (simp; done) | (simp [*]; done)), H', ⟨by have := HK1.out; omega⟩, ⟨by exact wq HB.out⟩⟩
   ·
    rw [if_neg c2] at H
    exact absurd H (by simp)
end Go.Proofs.YtfpnglgipchjhaaDoor.PR
namespace Go.Proofs.YtfpnglgipchjhaaDoor.PR
open Go.RowKit Go.Proofs.YtfpnglgipchjhaaDoorW.PrintWords Go.Proofs.YtfpnglgipchjhaaDoorW.PrintLast Go.Proofs.YtfpnglgipchjhaaDoorW.PrintMore Go.Proofs.YtfpnglgipchjhaaDoor.DecV
theorem wakes_ev : Ev (fun k => pointillistlaw04_wakes.f k) true := by
  have e1 := decparse_ev (⟨#[49, 46, 53]⟩ : ByteArray) (by decide)
  have e2 := decparse_ev (⟨#[45, 46, 53, 101, 49]⟩ : ByteArray) (by decide)
  have e3 := decparse_ev (⟨#[49, 101]⟩ : ByteArray) (by decide)
  have e4 := decparse_ev (⟨#[54, 53, 53, 51, 54]⟩ : ByteArray) (by decide)
  have p1 : parseS (bytesOf (⟨#[49, 46, 53]⟩ : ByteArray)) = (98304, 0) := by decide +kernel
  have p2 : parseS (bytesOf (⟨#[45, 46, 53, 101, 49]⟩ : ByteArray)) = (-327680, 0) := by decide +kernel
  have p3 : parseS (bytesOf (⟨#[49, 101]⟩ : ByteArray)) = (0, 3) := by decide +kernel
  have p4 : parseS (bytesOf (⟨#[54, 53, 53, 51, 54]⟩ : ByteArray)) = (0, 2) := by decide +kernel
  rw [p1] at e1
  rw [p2] at e2
  rw [p3] at e3
  rw [p4] at e4
  unfold pointillistlaw04_wakes.f
  refine Ev.bind e1 (Ev.bind e2 (Ev.bind e3 (Ev.bind e4 ?_)))
  simp only [if_true]
  exact Ev.now _
end Go.Proofs.YtfpnglgipchjhaaDoor.PR
namespace Go.Proofs.YtfpnglgipchjhaaDoor.PR
open Go.RowKit Go.Proofs.YtfpnglgipchjhaaDoorW.PrintWords Go.Proofs.YtfpnglgipchjhaaDoorW.PrintLast Go.Proofs.YtfpnglgipchjhaaDoorW.PrintMore
attribute [local go_sem] max2_int min2_int max_two min_two max_three min_three max_four min_four
set_option linter.unusedVariables false
set_option linter.unusedSimpArgs false
def pointillistlaw04_DecRises.j0 : Nat → Int → ByteArray → Int → Int → Option (Bool)
 | 0, _, _, _, _ => none
 | k + 1, x3, x4, x5, x6 => (pointillistlaw04_digits.f k x5).bind fun t395 => (if x4.size + t395.size ≤ 9223372036854775807 then ((dec_Parse.f k (x4 ++ t395)).bind fun bt396 => ((pointillistlaw04_digits.f k x6).bind fun t398 => (if x4.size + t398.size ≤ 9223372036854775807 then ((dec_Parse.f k (x4 ++ t398)).bind fun bt399 => ((dec_Parse.f k x4).bind fun bt401 => (if bt396.2 = 0 then (if bt399.2 = 0 then (if bt401.2 = 0 then (if bt396.1 ≤ bt399.1 then (if bt401.1 ≤ bt396.1 then (some (decide (bt399.1 ≤ (wrap64 (bt401.1 + 65536))))) else (some false)) else (some false)) else (some (x3 == 65535))) else (some (x3 == 65535))) else (some (x3 == 65535))))) else (none)))) else (none))
def pointillistlaw04_DecRises.f (k : Nat) (a0_0 : Int) (a0_1 : Int) (a0_2 : Int) (a0_3 : Int) : Option (Bool) := (pointillistlaw04_wakes.f k).bind fun t392 => (if t392 = true then ((pointillistlaw04_digits.f k (wrap64 (Int.tmod a0_0 65536))).bind fun t393 => (if t393.size + 1 ≤ 9223372036854775807 then ((pointillistlaw04_digits.f k (wrap64 (a0_1))).bind fun t394 => (if (t393 ++ (⟨#[46]⟩ : ByteArray)).size + t394.size ≤ 9223372036854775807 then (if (Int.tmod (wrap64 (a0_2)) 10) > (Int.tmod (wrap64 (a0_3)) 10) then (pointillistlaw04_DecRises.j0 k (Int.tmod a0_0 65536) ((t393 ++ (⟨#[46]⟩ : ByteArray)) ++ t394) (Int.tmod (wrap64 (a0_3)) 10) (Int.tmod (wrap64 (a0_2)) 10)) else (pointillistlaw04_DecRises.j0 k (Int.tmod a0_0 65536) ((t393 ++ (⟨#[46]⟩ : ByteArray)) ++ t394) (Int.tmod (wrap64 (a0_2)) 10) (Int.tmod (wrap64 (a0_3)) 10))) else (none))) else (none))) else (some false))
theorem pointillistlaw04_DecRises.mono_l : ∀ k, (∀ y0 y1 y2 y3, LeO (pointillistlaw04_DecRises.j0 k y0 y1 y2 y3) (pointillistlaw04_DecRises.j0 (k + 1) y0 y1 y2 y3))
 | 0 => fun _ _ _ _ r h => by simp [pointillistlaw04_DecRises.j0] at h
 | k + 1 => by
  have ih0 := pointillistlaw04_DecRises.mono_l k
  ·
   intro y0 y1 y2 y3
   unfold pointillistlaw04_DecRises.j0
   repeat' first
   | (with_reducible exact ih0 _ _ _ _)
   | (with_reducible exact dec_Parse.mono _ _)
   | (with_reducible exact pointillistlaw04_digits.mono _ _)
   | (with_reducible exact pointillistlaw04_wakes.mono _)
   | (with_reducible exact LeO.refl _)
   | (with_reducible exact LeO.none _)
   | (with_reducible refine LeO.ite ?_ ?_)
   | (with_reducible refine LeO.bind ?_ (fun _ => ?_))
   | exact ih0 _ _ _ _
   | exact dec_Parse.mono _ _
   | exact pointillistlaw04_digits.mono _ _
   | exact pointillistlaw04_wakes.mono _
   | exact LeO.none _
   | refine LeO.ite ?_ ?_
   | refine LeO.bind ?_ (fun _ => ?_)
theorem pointillistlaw04_DecRises.mono : ∀ a0 a1 a2 a3 k, LeO (pointillistlaw04_DecRises.f k a0 a1 a2 a3) (pointillistlaw04_DecRises.f (k + 1) a0 a1 a2 a3) := by
 intro a0 a1 a2 a3 k
 have ih0 := pointillistlaw04_DecRises.mono_l k
 unfold pointillistlaw04_DecRises.f
 repeat' first
   | (with_reducible exact ih0 _ _ _ _)
   | (with_reducible exact dec_Parse.mono _ _)
   | (with_reducible exact pointillistlaw04_digits.mono _ _)
   | (with_reducible exact pointillistlaw04_wakes.mono _)
   | (with_reducible exact LeO.refl _)
   | (with_reducible exact LeO.none _)
   | (with_reducible refine LeO.ite ?_ ?_)
   | (with_reducible refine LeO.bind ?_ (fun _ => ?_))
   | exact ih0 _ _ _ _
   | exact dec_Parse.mono _ _
   | exact pointillistlaw04_digits.mono _ _
   | exact pointillistlaw04_wakes.mono _
   | exact LeO.none _
   | refine LeO.ite ?_ ?_
   | refine LeO.bind ?_ (fun _ => ?_)
def pointillistlaw04_DecRises.T4 : Bool × List (List Nat × List Nat) := (true, [([], []), ([0], [0]), ([1], [1]), ([2], [2]), ([], []), ([4], [4]), ([5], [5]), ([6, 2], [6]), ([3, 7], [3, 7]), ([8, 7, 0, 1, 2, 3, 4, 5, 6, 7, 8], [8])])
def pointillistlaw04_DecRises.B4 : List Nat := [0, 1, 3, 7, 0, 16, 48, 119, 255, 511]
theorem pointillistlaw04_DecRises.tab4 : rtab .any (opsOf Tryd.f5 4) = pointillistlaw04_DecRises.T4 := by kernel_rfl
theorem pointillistlaw04_DecRises.bits4 : waitsOk pointillistlaw04_DecRises.T4.2 pointillistlaw04_DecRises.B4 = true := by kernel_rfl
def pointillistlaw04_DecRises.T5 : Bool × List (List Nat × List Nat) := (true, [([], []), ([0], [0]), ([1], [1]), ([2], [2]), ([], []), ([4], [4]), ([5], [5]), ([6], [6]), ([3, 0, 1, 2, 3], [3]), ([7, 8, 0, 1, 2, 3, 4, 5, 6, 7, 8], [7])])
def pointillistlaw04_DecRises.B5 : List Nat := [0, 1, 3, 7, 0, 16, 48, 112, 15, 511]
theorem pointillistlaw04_DecRises.tab5 : rtab .any (opsOf Tryd.f5 5) = pointillistlaw04_DecRises.T5 := by kernel_rfl
theorem pointillistlaw04_DecRises.bits5 : waitsOk pointillistlaw04_DecRises.T5.2 pointillistlaw04_DecRises.B5 = true := by kernel_rfl
set_option maxHeartbeats 8000000 in
set_option maxRecDepth 100000 in
theorem pointillistlaw04_DecRises.calls (k : Nat) (a0_0 : Int) (a0_1 : Int) (a0_2 : Int) (a0_3 : Int) (w : World) (hG : Gl w) (h : pointillistlaw04_DecRises.f k a0_0 a0_1 a0_2 a0_3 = some true) :
  Calls Tryd.prog 5 #[.agg #[.int .u32 a0_0, .int .u32 a0_1, .int .u32 a0_2, .int .u32 a0_3]] w fun e w' => e = .returned (.bool true) ∧ Below w.heap.size w w' := by
 have hu33 := Tryd.underlying33
 have HG := Aside0.mk hG
 clear hG
 have HB := Aside0.mk (Below.refl w.heap.size w)
 have H : ((pointillistlaw04_wakes.f k).bind fun t392 => (if t392 = true then ((pointillistlaw04_digits.f k (wrap64 (Int.tmod a0_0 65536))).bind fun t393 => (if t393.size + 1 ≤ 9223372036854775807 then ((pointillistlaw04_digits.f k (wrap64 (a0_1))).bind fun t394 => (if (t393 ++ (⟨#[46]⟩ : ByteArray)).size + t394.size ≤ 9223372036854775807 then (if (Int.tmod (wrap64 (a0_2)) 10) > (Int.tmod (wrap64 (a0_3)) 10) then (pointillistlaw04_DecRises.j0 k (Int.tmod a0_0 65536) ((t393 ++ (⟨#[46]⟩ : ByteArray)) ++ t394) (Int.tmod (wrap64 (a0_3)) 10) (Int.tmod (wrap64 (a0_2)) 10)) else (pointillistlaw04_DecRises.j0 k (Int.tmod a0_0 65536) ((t393 ++ (⟨#[46]⟩ : ByteArray)) ++ t394) (Int.tmod (wrap64 (a0_2)) 10) (Int.tmod (wrap64 (a0_3)) 10))) else (none))) else (none))) else (some false))) = some true := h
 clear h
 replace H := Option.bind_eq_some_iff.mp H
 obtain ⟨t392, A20, H⟩ := H
 replace H : (if t392 = true then ((pointillistlaw04_digits.f k (wrap64 (Int.tmod a0_0 65536))).bind fun t393 => (if t393.size + 1 ≤ 9223372036854775807 then ((pointillistlaw04_digits.f k (wrap64 (a0_1))).bind fun t394 => (if (t393 ++ (⟨#[46]⟩ : ByteArray)).size + t394.size ≤ 9223372036854775807 then (if (Int.tmod (wrap64 (a0_2)) 10) > (Int.tmod (wrap64 (a0_3)) 10) then (pointillistlaw04_DecRises.j0 k (Int.tmod a0_0 65536) ((t393 ++ (⟨#[46]⟩ : ByteArray)) ++ t394) (Int.tmod (wrap64 (a0_3)) 10) (Int.tmod (wrap64 (a0_2)) 10)) else (pointillistlaw04_DecRises.j0 k (Int.tmod a0_0 65536) ((t393 ++ (⟨#[46]⟩ : ByteArray)) ++ t394) (Int.tmod (wrap64 (a0_2)) 10) (Int.tmod (wrap64 (a0_3)) 10))) else (none))) else (none))) else (some false)) = some true := H
 have A2 := Aside0.mk A20
 clear A20
 by_cases c3 : t392 = true
 ·
  subst c3
  have H1 : ((pointillistlaw04_digits.f k (wrap64 (Int.tmod a0_0 65536))).bind fun t393 => (if t393.size + 1 ≤ 9223372036854775807 then ((pointillistlaw04_digits.f k (wrap64 (a0_1))).bind fun t394 => (if (t393 ++ (⟨#[46]⟩ : ByteArray)).size + t394.size ≤ 9223372036854775807 then (if (Int.tmod (wrap64 (a0_2)) 10) > (Int.tmod (wrap64 (a0_3)) 10) then (pointillistlaw04_DecRises.j0 k (Int.tmod a0_0 65536) ((t393 ++ (⟨#[46]⟩ : ByteArray)) ++ t394) (Int.tmod (wrap64 (a0_3)) 10) (Int.tmod (wrap64 (a0_2)) 10)) else (pointillistlaw04_DecRises.j0 k (Int.tmod a0_0 65536) ((t393 ++ (⟨#[46]⟩ : ByteArray)) ++ t394) (Int.tmod (wrap64 (a0_2)) 10) (Int.tmod (wrap64 (a0_3)) 10))) else (none))) else (none))) = some true := by rw [if_pos rfl] at H; exact H
  clear H
  have H := H1
  clear H1
  replace H := Option.bind_eq_some_iff.mp H
  obtain ⟨t393, A40, H⟩ := H
  replace H : (if t393.size + 1 ≤ 9223372036854775807 then ((pointillistlaw04_digits.f k (wrap64 (a0_1))).bind fun t394 => (if (t393 ++ (⟨#[46]⟩ : ByteArray)).size + t394.size ≤ 9223372036854775807 then (if (Int.tmod (wrap64 (a0_2)) 10) > (Int.tmod (wrap64 (a0_3)) 10) then (pointillistlaw04_DecRises.j0 k (Int.tmod a0_0 65536) ((t393 ++ (⟨#[46]⟩ : ByteArray)) ++ t394) (Int.tmod (wrap64 (a0_3)) 10) (Int.tmod (wrap64 (a0_2)) 10)) else (pointillistlaw04_DecRises.j0 k (Int.tmod a0_0 65536) ((t393 ++ (⟨#[46]⟩ : ByteArray)) ++ t394) (Int.tmod (wrap64 (a0_2)) 10) (Int.tmod (wrap64 (a0_3)) 10))) else (none))) else (none)) = some true := H
  have A4 := Aside0.mk A40
  clear A40
  by_cases c5 : t393.size + 1 ≤ 9223372036854775807
  ·
   rw [if_pos c5] at H
   have c5b0 := eq_true c5
   have c5b1 : decide (t393.size + 1 ≤ 9223372036854775807) = true := decide_eq_true c5
   try have c5b2 : (9223372036854775807 < t393.size + 1) = False := eq_false (Nat.not_lt.2 c5)
   replace H := Option.bind_eq_some_iff.mp H
   obtain ⟨t394, A60, H⟩ := H
   replace H : (if (t393 ++ (⟨#[46]⟩ : ByteArray)).size + t394.size ≤ 9223372036854775807 then (if (Int.tmod (wrap64 (a0_2)) 10) > (Int.tmod (wrap64 (a0_3)) 10) then (pointillistlaw04_DecRises.j0 k (Int.tmod a0_0 65536) ((t393 ++ (⟨#[46]⟩ : ByteArray)) ++ t394) (Int.tmod (wrap64 (a0_3)) 10) (Int.tmod (wrap64 (a0_2)) 10)) else (pointillistlaw04_DecRises.j0 k (Int.tmod a0_0 65536) ((t393 ++ (⟨#[46]⟩ : ByteArray)) ++ t394) (Int.tmod (wrap64 (a0_2)) 10) (Int.tmod (wrap64 (a0_3)) 10))) else (none)) = some true := H
   have A6 := Aside0.mk A60
   clear A60
   by_cases c7 : (t393 ++ (⟨#[46]⟩ : ByteArray)).size + t394.size ≤ 9223372036854775807
   ·
    rw [if_pos c7] at H
    have c7b0 := eq_true c7
    have c7b1 : decide ((t393 ++ (⟨#[46]⟩ : ByteArray)).size + t394.size ≤ 9223372036854775807) = true := decide_eq_true c7
    try have c7b2 : (9223372036854775807 < (t393 ++ (⟨#[46]⟩ : ByteArray)).size + t394.size) = False := eq_false (Nat.not_lt.2 c7)
    try have c7b3 : (9223372036854775807 < t393.size + 1 + t394.size) = False := eq_false (Nat.not_lt.2 (by have h_ := c7; simp [ByteArray.size_append, ByteArray.size_extract] at h_ ⊢; first | done | exact h_ | omega))
    have HC8 := Aside0.mk H
    clear H
    go_enter Tryd.func5, Tryd.ntmps5
    try go_wp2_with (first | ((with_reducible refine gate_dst (N := 1) rfl ?_); refine box_event ?hg (N := 1) ?hd (cs := #[.int .u32 a0_0, .int .u32 a0_1, .int .u32 a0_2, .int .u32 a0_3]) (t := 33) ?hr ?_; (case hd => rfl); (case hg => rfl); (case hr => first | (go_simp; done) | (go_simp; rfl)); intro gb391 hg w9 hbox hb; have n0_ := Aside0.mk (below_step (wq HB.out) hb); have n1_ := Aside0.mk (hbox); have n2_ := Aside0.mk ((by rw [hg]; exact (below_size (wq HB.out)) : w.heap.size ≤ gb391)); have n3_ := n2_; clear HB; have HB := n0_; have BK391 := n1_; have GW391 := n2_; have GE391 := n3_; clear n0_ n1_ n2_ n3_ hb hbox hg) | ((with_reducible refine gate_callee (f := 11) rfl ?_); refine goesL_ (some 13) rfl rfl Tryd.func11 (by kernel_rfl) rfl #[] rfl (by (try simp only [List.map_toArray, List.map_cons, List.map_nil]); first | done | rfl | (simp only [List.length_drop, List.length_take]; rfl)) ?_; (with_reducible refine (pointillistlaw04_wakes.calls k  true _ ?side1 A2.out).mono ?_); (case side1 => exact Gl.below HG.out (wq HB.out)); rintro e w10 ⟨rfl, hb⟩; refine ⟨_, rfl, ?_⟩; have n0_ := Aside0.mk (blk_below (bq BK391.out) hb); have n1_ := Aside0.mk (below_step (wq HB.out) hb); clear BK391 HB; have BK391 := n0_; have HB := n1_; clear n0_ n1_; (try clear hb); (try clear hb2); (try clear hk); (try clear hi); have hcz11_0 : w10.cell? ⟨gb391, 0, none⟩ = some (.int .u32 a0_0) := (blk_cell BK391.out 0).trans rfl; have hcz11_1 : w10.cell? ⟨gb391, 1, none⟩ = some (.int .u32 a0_1) := (blk_cell BK391.out 1).trans rfl; have hcz11_2 : w10.cell? ⟨gb391, 2, none⟩ = some (.int .u32 a0_2) := (blk_cell BK391.out 2).trans rfl; have hcz11_3 : w10.cell? ⟨gb391, 3, none⟩ = some (.int .u32 a0_3) := (blk_cell BK391.out 3).trans rfl; have hfz11_0 := blk_frozen BK391.out 0; have hfz11_1 := blk_frozen BK391.out 1; have hfz11_2 := blk_frozen BK391.out 2; have hfz11_3 := blk_frozen BK391.out 3))
    have n0_ := Aside0.mk (blk_drew BK391.out)
    have n1_ := Aside0.mk (below_drew1 HB.out)
    clear BK391 HB; have BK391 := n0_; have HB := n1_; clear n0_ n1_
    refine start_ (n := 10) (S := fun w' => w'.cell? ⟨gb391, 0, none⟩ = some (.int .u32 a0_0) ∧ w'.cell? ⟨gb391, 1, none⟩ = some (.int .u32 a0_1) ∧ w'.cell? ⟨gb391, 2, none⟩ = some (.int .u32 a0_2) ∧ w'.cell? ⟨gb391, 3, none⟩ = some (.int .u32 a0_3)) (ds := []) (bmk 0 10) (by kernel_rfl) rfl rfl ⟨(blk_cell BK391.out 0).trans rfl, (blk_cell BK391.out 1).trans rfl, (blk_cell BK391.out 2).trans rfl, (blk_cell BK391.out 3).trans rfl⟩ (fun hHeld => ?_); refine with_tabW pointillistlaw04_DecRises.tab4 pointillistlaw04_DecRises.bits4 (fun HT_ HW_ => ?_)
    generalize w10.drew = w12 at BK391 HB hHeld ⊢
    refine pure_ (i := 0) (N := some 18) (v := ?_) (a' := ?_) (bmk 1 9) rfl rfl (any_of HT_.out (by kernel_rfl)) (fun _ _ _ h => h) (Or.inl ⟨by rfl, ?_⟩) ?_ ?_
    rotate_left; focus (intro w'; go_simp; with_reducible rfl)
    rotate_left; focus (simp only [apz, i64_w, i32_w]; rfl)
    refine pure_ (i := 1) (N := some 19) (v := ?_) (a' := ?_) (bmk 2 8) rfl rfl (any_of HT_.out (by kernel_rfl)) (fun _ _ _ h => h) (Or.inl ⟨by rfl, ?_⟩) ?_ ?_
    rotate_left; focus (intro w'; go_simp; with_reducible rfl)
    rotate_left; focus (simp only [apz, i64_w, i32_w]; rfl)
    refine pure_ (i := 4) (N := some 22) (v := ?_) (a' := ?_) (bm 10 19) rfl rfl (any_of HT_.out (by kernel_rfl)) (fun _ _ _ h => h) (Or.inl ⟨by rfl, ?_⟩) ?_ ?_
    rotate_left; focus (intro w'; go_simp; with_reducible rfl)
    rotate_left; focus (simp only [apz, i64_w, i32_w]; rfl)
    refine take_ (i := 5) (N := some 23) (v := ?_) (a' := ?_) (bm 10 51) rfl rfl (take_ofW HT_.out HW_.out (by kernel_rfl)) (fun _ _ _ h => h) (Or.inl ⟨by rfl, ?_⟩) hHeld ?_ ?_
    rotate_left
    ·
     rintro w' ⟨s0, s1, s2, s3⟩
     go_simp
     with_reducible rfl
    rotate_left; focus (simp only [apz, i64_w, i32_w]; rfl)
    refine pure_ (i := 6) (N := some 24) (v := ?_) (a' := ?_) (bm 10 115) rfl rfl (any_of HT_.out (by kernel_rfl)) (fun _ _ _ h => h) (Or.inl ⟨by rfl, ?_⟩) ?_ ?_
    rotate_left; focus (intro w'; go_simp; with_reducible rfl)
    rotate_left; focus (simp only [apz, i64_w, i32_w]; rfl)
    refine one_ (i := 2) (N := some 20) (bm 10 119) rfl rfl (one_of HT_.out (by kernel_rfl)) (by decide) (fun K hK => ?_)
    refine goes_ Tryd.func14 (by kernel_rfl) rfl #[.int .i64 (wrap64 (Int.tmod a0_0 65536))] (by rfl) rfl rfl (by (try simp only [List.map_toArray, List.map_cons, List.map_nil]); first | done | rfl | (simp only [List.length_drop, List.length_take]; rfl)) ?_
    with_reducible refine (pointillistlaw04_digits.calls k (wrap64 (Int.tmod a0_0 65536)) t393 _ A4.out).mono ?_
    rintro e w13 ⟨rfl, hb⟩
    refine ⟨_, rfl, ?_⟩
    have n0_ := Aside0.mk (blk_below (bq BK391.out) hb)
    have n1_ := Aside0.mk (below_step (wq HB.out) hb)
    clear BK391 HB; have BK391 := n0_; have HB := n1_; clear n0_ n1_
    (try clear hb)
    (try clear hb2)
    (try clear hk)
    (try clear hi)
    refine hK.out _ _ ⟨(blk_cell BK391.out 0).trans rfl, (blk_cell BK391.out 1).trans rfl, (blk_cell BK391.out 2).trans rfl, (blk_cell BK391.out 3).trans rfl⟩ (fun hHeld => ?_)
    clear hK K
    refine norm_ (a' := ?_) ?_ ?_
    rotate_left
    ·
     show Act.put _ (some 20) _ = _
     simp only [apz, i64_w, i32_w]
     rfl
    refine pure_ (i := 3) (N := some 21) (v := ?_) (a' := ?_) (bmk 7 3) rfl rfl (any_of HT_.out (by kernel_rfl)) (fun _ _ _ h => h) (Or.inl ⟨by rfl, ?_⟩) ?_ ?_
    rotate_left; focus (intro w'; go_simp; with_reducible rfl)
    rotate_left; focus (simp only [apz, i64_w, i32_w]; rfl)
    refine one_ (i := 7) (N := some 25) (bmk 8 2) rfl rfl (one_of HT_.out (by kernel_rfl)) (by decide) (fun K hK => ?_)
    refine goes_ Tryd.func14 (by kernel_rfl) rfl #[.int .i64 (wrap64 (a0_1))] (by rfl) rfl rfl (by (try simp only [List.map_toArray, List.map_cons, List.map_nil]); first | done | rfl | (simp only [List.length_drop, List.length_take]; rfl)) ?_
    with_reducible refine (pointillistlaw04_digits.calls k (wrap64 (a0_1)) t394 _ A6.out).mono ?_
    rintro e w14 ⟨rfl, hb⟩
    refine ⟨_, rfl, ?_⟩
    have n0_ := Aside0.mk (blk_below (bq BK391.out) hb)
    have n1_ := Aside0.mk (below_step (wq HB.out) hb)
    clear BK391 HB; have BK391 := n0_; have HB := n1_; clear n0_ n1_
    (try clear hb)
    (try clear hb2)
    (try clear hk)
    (try clear hi)
    refine hK.out _ _ ⟨(blk_cell BK391.out 0).trans rfl, (blk_cell BK391.out 1).trans rfl, (blk_cell BK391.out 2).trans rfl, (blk_cell BK391.out 3).trans rfl⟩ (fun hHeld => ?_)
    clear hK K
    refine norm_ (a' := ?_) ?_ ?_
    rotate_left
    ·
     show Act.put _ (some 25) _ = _
     simp only [apz, i64_w, i32_w]
     rfl
    refine pure_ (i := 8) (N := some 26) (v := ?_) (a' := ?_) (bmk 9 1) rfl rfl (any_of HT_.out (by kernel_rfl)) (fun _ _ _ h => h) (Or.inl ⟨by rfl, ?_⟩) ?_ ?_
    rotate_left; focus (intro w'; go_simp; with_reducible rfl)
    rotate_left; focus (simp only [apz, i64_w, i32_w]; rfl)
    refine pure_ (i := 9) (N := some 4) (v := ?_) (a' := ?_) (bmk 10 0) rfl rfl (any_of HT_.out (by kernel_rfl)) (fun _ _ _ h => h) (Or.inl ⟨by rfl, ?_⟩) ?_ ?_
    rotate_left; focus (intro w'; go_simp; with_reducible rfl)
    rotate_left; focus (simp only [apz, i64_w, i32_w]; rfl)
    refine done_ (done_of HT_.out (by kernel_rfl)) ?_
    try go_wp2
    have n0_ := Aside0.mk (blk_drew BK391.out)
    have n1_ := Aside0.mk (below_drew1 HB.out)
    clear BK391 HB; have BK391 := n0_; have HB := n1_; clear n0_ n1_
    refine start_ (n := 10) (S := fun w' => w'.cell? ⟨gb391, 0, none⟩ = some (.int .u32 a0_0) ∧ w'.cell? ⟨gb391, 1, none⟩ = some (.int .u32 a0_1) ∧ w'.cell? ⟨gb391, 2, none⟩ = some (.int .u32 a0_2) ∧ w'.cell? ⟨gb391, 3, none⟩ = some (.int .u32 a0_3)) (ds := []) (bmk 0 10) (by kernel_rfl) rfl rfl ⟨(blk_cell BK391.out 0).trans rfl, (blk_cell BK391.out 1).trans rfl, (blk_cell BK391.out 2).trans rfl, (blk_cell BK391.out 3).trans rfl⟩ (fun hHeld => ?_); refine with_tabW pointillistlaw04_DecRises.tab5 pointillistlaw04_DecRises.bits5 (fun HT_ HW_ => ?_)
    generalize w14.drew = w15 at BK391 HB hHeld ⊢
    refine pure_ (i := 0) (N := some 27) (v := ?_) (a' := ?_) (bmk 1 9) rfl rfl (any_of HT_.out (by kernel_rfl)) (fun _ _ _ h => h) (Or.inl ⟨by rfl, ?_⟩) ?_ ?_
    rotate_left; focus (intro w'; go_simp; with_reducible rfl)
    rotate_left; focus (simp only [apz, i64_w, i32_w]; rfl)
    refine pure_ (i := 4) (N := some 31) (v := ?_) (a' := ?_) (bm 10 17) rfl rfl (any_of HT_.out (by kernel_rfl)) (fun _ _ _ h => h) (Or.inl ⟨by rfl, ?_⟩) ?_ ?_
    rotate_left; focus (intro w'; go_simp; with_reducible rfl)
    rotate_left; focus (simp only [apz, i64_w, i32_w]; rfl)
    refine take_ (i := 1) (N := some 28) (v := ?_) (a' := ?_) (bm 10 19) rfl rfl (take_ofW HT_.out HW_.out (by kernel_rfl)) (fun _ _ _ h => h) (Or.inl ⟨by rfl, ?_⟩) hHeld ?_ ?_
    rotate_left
    ·
     rintro w' ⟨s0, s1, s2, s3⟩
     go_simp
     with_reducible rfl
    rotate_left; focus (simp only [apz, i64_w, i32_w]; rfl)
    refine pure_ (i := 2) (N := some 29) (v := ?_) (a' := ?_) (bm 10 23) rfl rfl (any_of HT_.out (by kernel_rfl)) (fun _ _ _ h => h) (Or.inl ⟨by rfl, ?_⟩) ?_ ?_
    rotate_left; focus (intro w'; go_simp; with_reducible rfl)
    rotate_left; focus (simp only [apz, i64_w, i32_w]; rfl)
    refine pure_ (i := 3) (N := some 30) (v := ?_) (a' := ?_) (bmk 5 5) rfl rfl (any_of HT_.out (by kernel_rfl)) (fun _ _ _ h => h) (Or.inl ⟨by rfl, ?_⟩) ?_ ?_
    rotate_left; focus (intro w'; go_simp; with_reducible rfl)
    rotate_left; focus (simp only [apz, i64_w, i32_w]; rfl)
    refine pure_ (i := 8) (N := some 5) (v := ?_) (a' := ?_) (bm 10 287) rfl rfl (any_of HT_.out (by kernel_rfl)) (fun _ _ _ h => h) (Or.inl ⟨by rfl, ?_⟩) ?_ ?_
    rotate_left; focus (intro w'; go_simp; with_reducible rfl)
    rotate_left; focus (simp only [apz, i64_w, i32_w]; rfl)
    refine take_ (i := 5) (N := some 32) (v := ?_) (a' := ?_) (bm 10 319) rfl rfl (take_ofW HT_.out HW_.out (by kernel_rfl)) (fun _ _ _ h => h) (Or.inl ⟨by rfl, ?_⟩) hHeld ?_ ?_
    rotate_left
    ·
     rintro w' ⟨s0, s1, s2, s3⟩
     go_simp
     with_reducible rfl
    rotate_left; focus (simp only [apz, i64_w, i32_w]; rfl)
    refine pure_ (i := 6) (N := some 33) (v := ?_) (a' := ?_) (bm 10 383) rfl rfl (any_of HT_.out (by kernel_rfl)) (fun _ _ _ h => h) (Or.inl ⟨by rfl, ?_⟩) ?_ ?_
    rotate_left; focus (intro w'; go_simp; with_reducible rfl)
    rotate_left; focus (simp only [apz, i64_w, i32_w]; rfl)
    refine pure_ (i := 7) (N := some 34) (v := ?_) (a' := ?_) (bmk 9 1) rfl rfl (any_of HT_.out (by kernel_rfl)) (fun _ _ _ h => h) (Or.inl ⟨by rfl, ?_⟩) ?_ ?_
    rotate_left; focus (intro w'; go_simp; with_reducible rfl)
    rotate_left; focus (simp only [apz, i64_w, i32_w]; rfl)
    refine pure_ (i := 9) (N := some 6) (v := ?_) (a' := ?_) (bmk 10 0) rfl rfl (any_of HT_.out (by kernel_rfl)) (fun _ _ _ h => h) (Or.inl ⟨by rfl, ?_⟩) ?_ ?_
    rotate_left; focus (intro w'; go_simp; with_reducible rfl)
    rotate_left; focus (simp only [apz, i64_w, i32_w]; rfl)
    refine done_ (done_of HT_.out (by kernel_rfl)) ?_
    go_upto_if 37 with (fail)
    go_cut [5, 6] (fun v5 v6 wc => ∃ (kq : Nat) (x5_7 : Int) (x6_7 : Int), v5 = .int .i64 x5_7 ∧ v6 = .int .i64 x6_7 ∧ Aside0 (pointillistlaw04_DecRises.j0 kq (Int.tmod a0_0 65536) ((t393 ++ (⟨#[46]⟩ : ByteArray)) ++ t394) x5_7 x6_7 = some true) ∧ Aside0 (kq ≤ k) ∧ Aside0 (wc.heap[gb391]? = some (.cells #[.int .u32 a0_0, .int .u32 a0_1, .int .u32 a0_2, .int .u32 a0_3] 33 (0, 0))) ∧ Aside0 (Below w.heap.size w wc))
    case first =>
     have H := HC8.out
     clear HC8
     by_cases c16 : (Int.tmod (wrap64 (a0_2)) 10) > (Int.tmod (wrap64 (a0_3)) 10)
     ·
      rw [if_pos c16] at H
      have c16b0 : decide ((Int.tmod (wrap64 (a0_3)) 10) < (Int.tmod (wrap64 (a0_2)) 10)) = true := decide_eq_true c16
      clear c16
      (first | rw [c16b0] | (simp only [i64_w, i32_w]; rw [c16b0]) | skip)
      have H' := Aside0.mk H
      clear H
      go_wp2
      go_meet
      case rel => exact ⟨_, (Int.tmod (wrap64 (a0_3)) 10), (Int.tmod (wrap64 (a0_2)) 10), (by first | rfl | (simp; done) | (simp [*]; done)), (by first | rfl | (simp; done) | (simp [*]; done)), H', ⟨by first | omega | exact Nat.le_refl _⟩, ⟨by refine bq ?_; exact BK391.out⟩, ⟨by exact wq HB.out⟩⟩
     ·
      rw [if_neg c16] at H
      have c16b0 : decide ((Int.tmod (wrap64 (a0_3)) 10) < (Int.tmod (wrap64 (a0_2)) 10)) = false := decide_eq_false c16
      clear c16
      (first | rw [c16b0] | (simp only [i64_w, i32_w]; rw [c16b0]) | skip)
      have H' := Aside0.mk H
      clear H
      go_wp2
      go_meet
      case rel => exact ⟨_, (Int.tmod (wrap64 (a0_2)) 10), (Int.tmod (wrap64 (a0_3)) 10), (by first | rfl | (simp; done) | (simp [*]; done)), (by first | rfl | (simp; done) | (simp [*]; done)), H', ⟨by first | omega | exact Nat.le_refl _⟩, ⟨by refine bq ?_; exact BK391.out⟩, ⟨by exact wq HB.out⟩⟩
    case rest =>
     clear HC8
     try clear c1
     try clear p2
     try clear c3
     try clear c5
     try clear c5b0
     try clear c5b1
     try clear c5b2
     try clear p6
     try clear c7
     try clear c7b0
     try clear c7b1
     try clear c7b2
     try clear c11
     try clear c14
     try clear c16
     try clear c16b0
     try clear hcz11_0
     try clear hcz11_1
     try clear hcz11_2
     try clear hcz11_3
     try clear hfz11_0
     try clear hfz11_1
     try clear hfz11_2
     try clear hfz11_3
     obtain ⟨kq, x5_7, x6_7, rfl, rfl, HA, HJ7, BK391, HB⟩ := hcut
     cases kq with
     | zero => exact absurd HA.out (by simp [pointillistlaw04_DecRises.j0])
     | succ kj7 =>
      have H := HA.out
      clear HA
      simp only [pointillistlaw04_DecRises.j0] at H
      replace H := Option.bind_eq_some_iff.mp H
      obtain ⟨t395, A170, H⟩ := H
      replace H : (if ((t393 ++ (⟨#[46]⟩ : ByteArray)) ++ t394).size + t395.size ≤ 9223372036854775807 then ((dec_Parse.f kj7 (((t393 ++ (⟨#[46]⟩ : ByteArray)) ++ t394) ++ t395)).bind fun bt396 => ((pointillistlaw04_digits.f kj7 x6_7).bind fun t398 => (if ((t393 ++ (⟨#[46]⟩ : ByteArray)) ++ t394).size + t398.size ≤ 9223372036854775807 then ((dec_Parse.f kj7 (((t393 ++ (⟨#[46]⟩ : ByteArray)) ++ t394) ++ t398)).bind fun bt399 => ((dec_Parse.f kj7 ((t393 ++ (⟨#[46]⟩ : ByteArray)) ++ t394)).bind fun bt401 => (if bt396.2 = 0 then (if bt399.2 = 0 then (if bt401.2 = 0 then (if bt396.1 ≤ bt399.1 then (if bt401.1 ≤ bt396.1 then (some (decide (bt399.1 ≤ (wrap64 (bt401.1 + 65536))))) else (some false)) else (some false)) else (some ((Int.tmod a0_0 65536) == 65535))) else (some ((Int.tmod a0_0 65536) == 65535))) else (some ((Int.tmod a0_0 65536) == 65535))))) else (none)))) else (none)) = some true := H
      have A17 := Aside0.mk A170
      clear A170
      by_cases c18 : ((t393 ++ (⟨#[46]⟩ : ByteArray)) ++ t394).size + t395.size ≤ 9223372036854775807
      ·
       rw [if_pos c18] at H
       have c18b0 := eq_true c18
       have c18b1 : decide (((t393 ++ (⟨#[46]⟩ : ByteArray)) ++ t394).size + t395.size ≤ 9223372036854775807) = true := decide_eq_true c18
       try have c18b2 : (9223372036854775807 < ((t393 ++ (⟨#[46]⟩ : ByteArray)) ++ t394).size + t395.size) = False := eq_false (Nat.not_lt.2 c18)
       try have c18b3 : (9223372036854775807 < t393.size + 1 + t394.size + t395.size) = False := eq_false (Nat.not_lt.2 (by have h_ := c18; simp [ByteArray.size_append, ByteArray.size_extract] at h_ ⊢; first | done | exact h_ | omega))
       replace H := Option.bind_eq_some_iff.mp H
       obtain ⟨⟨t396, t397⟩, A190, H⟩ := H
       replace H : ((pointillistlaw04_digits.f kj7 x6_7).bind fun t398 => (if ((t393 ++ (⟨#[46]⟩ : ByteArray)) ++ t394).size + t398.size ≤ 9223372036854775807 then ((dec_Parse.f kj7 (((t393 ++ (⟨#[46]⟩ : ByteArray)) ++ t394) ++ t398)).bind fun bt399 => ((dec_Parse.f kj7 ((t393 ++ (⟨#[46]⟩ : ByteArray)) ++ t394)).bind fun bt401 => (if t397 = 0 then (if bt399.2 = 0 then (if bt401.2 = 0 then (if t396 ≤ bt399.1 then (if bt401.1 ≤ t396 then (some (decide (bt399.1 ≤ (wrap64 (bt401.1 + 65536))))) else (some false)) else (some false)) else (some ((Int.tmod a0_0 65536) == 65535))) else (some ((Int.tmod a0_0 65536) == 65535))) else (some ((Int.tmod a0_0 65536) == 65535))))) else (none))) = some true := H
       have A19 := Aside0.mk A190
       clear A190
       replace H := Option.bind_eq_some_iff.mp H
       obtain ⟨t398, A200, H⟩ := H
       replace H : (if ((t393 ++ (⟨#[46]⟩ : ByteArray)) ++ t394).size + t398.size ≤ 9223372036854775807 then ((dec_Parse.f kj7 (((t393 ++ (⟨#[46]⟩ : ByteArray)) ++ t394) ++ t398)).bind fun bt399 => ((dec_Parse.f kj7 ((t393 ++ (⟨#[46]⟩ : ByteArray)) ++ t394)).bind fun bt401 => (if t397 = 0 then (if bt399.2 = 0 then (if bt401.2 = 0 then (if t396 ≤ bt399.1 then (if bt401.1 ≤ t396 then (some (decide (bt399.1 ≤ (wrap64 (bt401.1 + 65536))))) else (some false)) else (some false)) else (some ((Int.tmod a0_0 65536) == 65535))) else (some ((Int.tmod a0_0 65536) == 65535))) else (some ((Int.tmod a0_0 65536) == 65535))))) else (none)) = some true := H
       have A20 := Aside0.mk A200
       clear A200
       by_cases c21 : ((t393 ++ (⟨#[46]⟩ : ByteArray)) ++ t394).size + t398.size ≤ 9223372036854775807
       ·
        rw [if_pos c21] at H
        have c21b0 := eq_true c21
        have c21b1 : decide (((t393 ++ (⟨#[46]⟩ : ByteArray)) ++ t394).size + t398.size ≤ 9223372036854775807) = true := decide_eq_true c21
        try have c21b2 : (9223372036854775807 < ((t393 ++ (⟨#[46]⟩ : ByteArray)) ++ t394).size + t398.size) = False := eq_false (Nat.not_lt.2 c21)
        try have c21b3 : (9223372036854775807 < t393.size + 1 + t394.size + t398.size) = False := eq_false (Nat.not_lt.2 (by have h_ := c21; simp [ByteArray.size_append, ByteArray.size_extract] at h_ ⊢; first | done | exact h_ | omega))
        replace H := Option.bind_eq_some_iff.mp H
        obtain ⟨⟨t399, t400⟩, A220, H⟩ := H
        replace H : ((dec_Parse.f kj7 ((t393 ++ (⟨#[46]⟩ : ByteArray)) ++ t394)).bind fun bt401 => (if t397 = 0 then (if t400 = 0 then (if bt401.2 = 0 then (if t396 ≤ t399 then (if bt401.1 ≤ t396 then (some (decide (t399 ≤ (wrap64 (bt401.1 + 65536))))) else (some false)) else (some false)) else (some ((Int.tmod a0_0 65536) == 65535))) else (some ((Int.tmod a0_0 65536) == 65535))) else (some ((Int.tmod a0_0 65536) == 65535)))) = some true := H
        have A22 := Aside0.mk A220
        clear A220
        replace H := Option.bind_eq_some_iff.mp H
        obtain ⟨⟨t401, t402⟩, A230, H⟩ := H
        replace H : (if t397 = 0 then (if t400 = 0 then (if t402 = 0 then (if t396 ≤ t399 then (if t401 ≤ t396 then (some (decide (t399 ≤ (wrap64 (t401 + 65536))))) else (some false)) else (some false)) else (some ((Int.tmod a0_0 65536) == 65535))) else (some ((Int.tmod a0_0 65536) == 65535))) else (some ((Int.tmod a0_0 65536) == 65535))) = some true := H
        have A23 := Aside0.mk A230
        clear A230
        by_cases c24 : t397 = 0
        ·
         rw [if_pos c24] at H
         have c24b0 : (t397 == 0) = true := beq_iff_eq.mpr c24
         have c24b1 : (t397 != 0) = false := bne_eq_false_iff_eq.mpr c24
         clear c24
         by_cases c25 : t400 = 0
         ·
          rw [if_pos c25] at H
          have c25b0 : (t400 == 0) = true := beq_iff_eq.mpr c25
          have c25b1 : (t400 != 0) = false := bne_eq_false_iff_eq.mpr c25
          clear c25
          by_cases c26 : t402 = 0
          ·
           rw [if_pos c26] at H
           have c26b0 : (t402 == 0) = true := beq_iff_eq.mpr c26
           have c26b1 : (t402 != 0) = false := bne_eq_false_iff_eq.mpr c26
           clear c26
           by_cases c27 : t396 ≤ t399
           ·
            rw [if_pos c27] at H
            have c27b0 : decide (t396 ≤ t399) = true := decide_eq_true c27
            clear c27
            by_cases c28 : t401 ≤ t396
            ·
             rw [if_pos c28] at H
             have c28b0 : decide (t401 ≤ t396) = true := decide_eq_true c28
             clear c28
             have HE_ := Aside0.mk (Option.some.inj H)
             clear H
             go_wp2_with (first | ((with_reducible refine gate_callee (f := 14) rfl ?_); refine goesL_ (some 43) rfl rfl Tryd.func14 (by kernel_rfl) rfl #[.int .i64 x5_7] rfl (by (try simp only [List.map_toArray, List.map_cons, List.map_nil]); first | done | rfl | (simp only [List.length_drop, List.length_take]; rfl)) ?_; (with_reducible refine (pointillistlaw04_digits.calls kj7 x5_7 t395 _ A17.out).mono ?_); rintro e w29 ⟨rfl, hb⟩; refine ⟨_, rfl, ?_⟩; have n0_ := Aside0.mk (blk_below (bq BK391.out) hb); have n1_ := Aside0.mk (below_step (wq HB.out) hb); clear BK391 HB; have BK391 := n0_; have HB := n1_; clear n0_ n1_; (try clear hb); (try clear hb2); (try clear hk); (try clear hi)) | ((with_reducible refine gate_callee (f := 12) rfl ?_); refine goesL_ (some 45) rfl rfl Tryd.func12 (by kernel_rfl) rfl #[.string (((t393 ++ (⟨#[46]⟩ : ByteArray)) ++ t394) ++ t395)] rfl (by (try simp only [List.map_toArray, List.map_cons, List.map_nil]); first | done | rfl | (simp only [List.length_drop, List.length_take]; rfl)) ?_; (with_reducible refine (dec_Parse.calls kj7 (((t393 ++ (⟨#[46]⟩ : ByteArray)) ++ t394) ++ t395) t396 t397 _ ?side1 A19.out).mono ?_); (case side1 => exact Gl.below HG.out (wq HB.out)); rintro e w30 ⟨rfl, hb⟩; refine ⟨_, rfl, ?_⟩; have n0_ := Aside0.mk (blk_below (bq BK391.out) hb); have n1_ := Aside0.mk (below_step (wq HB.out) hb); clear BK391 HB; have BK391 := n0_; have HB := n1_; clear n0_ n1_; (try clear hb); (try clear hb2); (try clear hk); (try clear hi)) | ((with_reducible refine gate_callee (f := 14) rfl ?_); refine goesL_ (some 51) rfl rfl Tryd.func14 (by kernel_rfl) rfl #[.int .i64 x6_7] rfl (by (try simp only [List.map_toArray, List.map_cons, List.map_nil]); first | done | rfl | (simp only [List.length_drop, List.length_take]; rfl)) ?_; (with_reducible refine (pointillistlaw04_digits.calls kj7 x6_7 t398 _ A20.out).mono ?_); rintro e w31 ⟨rfl, hb⟩; refine ⟨_, rfl, ?_⟩; have n0_ := Aside0.mk (blk_below (bq BK391.out) hb); have n1_ := Aside0.mk (below_step (wq HB.out) hb); clear BK391 HB; have BK391 := n0_; have HB := n1_; clear n0_ n1_; (try clear hb); (try clear hb2); (try clear hk); (try clear hi)) | ((with_reducible refine gate_callee (f := 12) rfl ?_); refine goesL_ (some 53) rfl rfl Tryd.func12 (by kernel_rfl) rfl #[.string (((t393 ++ (⟨#[46]⟩ : ByteArray)) ++ t394) ++ t398)] rfl (by (try simp only [List.map_toArray, List.map_cons, List.map_nil]); first | done | rfl | (simp only [List.length_drop, List.length_take]; rfl)) ?_; (with_reducible refine (dec_Parse.calls kj7 (((t393 ++ (⟨#[46]⟩ : ByteArray)) ++ t394) ++ t398) t399 t400 _ ?side1 A22.out).mono ?_); (case side1 => exact Gl.below HG.out (wq HB.out)); rintro e w32 ⟨rfl, hb⟩; refine ⟨_, rfl, ?_⟩; have n0_ := Aside0.mk (blk_below (bq BK391.out) hb); have n1_ := Aside0.mk (below_step (wq HB.out) hb); clear BK391 HB; have BK391 := n0_; have HB := n1_; clear n0_ n1_; (try clear hb); (try clear hb2); (try clear hk); (try clear hi)) | ((with_reducible refine gate_callee (f := 12) rfl ?_); refine goesL_ (some 58) rfl rfl Tryd.func12 (by kernel_rfl) rfl #[.string ((t393 ++ (⟨#[46]⟩ : ByteArray)) ++ t394)] rfl (by (try simp only [List.map_toArray, List.map_cons, List.map_nil]); first | done | rfl | (simp only [List.length_drop, List.length_take]; rfl)) ?_; (with_reducible refine (dec_Parse.calls kj7 ((t393 ++ (⟨#[46]⟩ : ByteArray)) ++ t394) t401 t402 _ ?side1 A23.out).mono ?_); (case side1 => exact Gl.below HG.out (wq HB.out)); rintro e w33 ⟨rfl, hb⟩; refine ⟨_, rfl, ?_⟩; have n0_ := Aside0.mk (blk_below (bq BK391.out) hb); have n1_ := Aside0.mk (below_step (wq HB.out) hb); clear BK391 HB; have BK391 := n0_; have HB := n1_; clear n0_ n1_; (try clear hb); (try clear hb2); (try clear hk); (try clear hi)))
             go_ret
             exact ⟨by first | rfl | (simp [errW_none, errW_some] <;> rfl) | (rw [HE_.out]; done) | (simp [HE_.out]; done) | (have h_ := HE_.out; simp_all; done) | (have h_ := HE_.out; simp [*] at h_; simp [*, h_]; done) | (simp [*, errW_none, errW_some] <;> rfl), by exact wq HB.out⟩
            ·
             rw [if_neg c28] at H
             have c28b0 : decide (t401 ≤ t396) = false := decide_eq_false c28
             clear c28
             exact absurd H (by simp)
           ·
            rw [if_neg c27] at H
            have c27b0 : decide (t396 ≤ t399) = false := decide_eq_false c27
            clear c27
            exact absurd H (by simp)
          ·
           rw [if_neg c26] at H
           have c26b0 : (t402 == 0) = false := beq_eq_false_iff_ne.mpr c26
           have c26b1 : (t402 != 0) = true := bne_iff_ne.mpr c26
           have HE_ := Aside0.mk (Option.some.inj H)
           clear H
           go_wp2_with (first | ((with_reducible refine gate_callee (f := 14) rfl ?_); refine goesL_ (some 43) rfl rfl Tryd.func14 (by kernel_rfl) rfl #[.int .i64 x5_7] rfl (by (try simp only [List.map_toArray, List.map_cons, List.map_nil]); first | done | rfl | (simp only [List.length_drop, List.length_take]; rfl)) ?_; (with_reducible refine (pointillistlaw04_digits.calls kj7 x5_7 t395 _ A17.out).mono ?_); rintro e w34 ⟨rfl, hb⟩; refine ⟨_, rfl, ?_⟩; have n0_ := Aside0.mk (blk_below (bq BK391.out) hb); have n1_ := Aside0.mk (below_step (wq HB.out) hb); clear BK391 HB; have BK391 := n0_; have HB := n1_; clear n0_ n1_; (try clear hb); (try clear hb2); (try clear hk); (try clear hi)) | ((with_reducible refine gate_callee (f := 12) rfl ?_); refine goesL_ (some 45) rfl rfl Tryd.func12 (by kernel_rfl) rfl #[.string (((t393 ++ (⟨#[46]⟩ : ByteArray)) ++ t394) ++ t395)] rfl (by (try simp only [List.map_toArray, List.map_cons, List.map_nil]); first | done | rfl | (simp only [List.length_drop, List.length_take]; rfl)) ?_; (with_reducible refine (dec_Parse.calls kj7 (((t393 ++ (⟨#[46]⟩ : ByteArray)) ++ t394) ++ t395) t396 t397 _ ?side1 A19.out).mono ?_); (case side1 => exact Gl.below HG.out (wq HB.out)); rintro e w35 ⟨rfl, hb⟩; refine ⟨_, rfl, ?_⟩; have n0_ := Aside0.mk (blk_below (bq BK391.out) hb); have n1_ := Aside0.mk (below_step (wq HB.out) hb); clear BK391 HB; have BK391 := n0_; have HB := n1_; clear n0_ n1_; (try clear hb); (try clear hb2); (try clear hk); (try clear hi)) | ((with_reducible refine gate_callee (f := 14) rfl ?_); refine goesL_ (some 51) rfl rfl Tryd.func14 (by kernel_rfl) rfl #[.int .i64 x6_7] rfl (by (try simp only [List.map_toArray, List.map_cons, List.map_nil]); first | done | rfl | (simp only [List.length_drop, List.length_take]; rfl)) ?_; (with_reducible refine (pointillistlaw04_digits.calls kj7 x6_7 t398 _ A20.out).mono ?_); rintro e w36 ⟨rfl, hb⟩; refine ⟨_, rfl, ?_⟩; have n0_ := Aside0.mk (blk_below (bq BK391.out) hb); have n1_ := Aside0.mk (below_step (wq HB.out) hb); clear BK391 HB; have BK391 := n0_; have HB := n1_; clear n0_ n1_; (try clear hb); (try clear hb2); (try clear hk); (try clear hi)) | ((with_reducible refine gate_callee (f := 12) rfl ?_); refine goesL_ (some 53) rfl rfl Tryd.func12 (by kernel_rfl) rfl #[.string (((t393 ++ (⟨#[46]⟩ : ByteArray)) ++ t394) ++ t398)] rfl (by (try simp only [List.map_toArray, List.map_cons, List.map_nil]); first | done | rfl | (simp only [List.length_drop, List.length_take]; rfl)) ?_; (with_reducible refine (dec_Parse.calls kj7 (((t393 ++ (⟨#[46]⟩ : ByteArray)) ++ t394) ++ t398) t399 t400 _ ?side1 A22.out).mono ?_); (case side1 => exact Gl.below HG.out (wq HB.out)); rintro e w37 ⟨rfl, hb⟩; refine ⟨_, rfl, ?_⟩; have n0_ := Aside0.mk (blk_below (bq BK391.out) hb); have n1_ := Aside0.mk (below_step (wq HB.out) hb); clear BK391 HB; have BK391 := n0_; have HB := n1_; clear n0_ n1_; (try clear hb); (try clear hb2); (try clear hk); (try clear hi)) | ((with_reducible refine gate_callee (f := 12) rfl ?_); refine goesL_ (some 58) rfl rfl Tryd.func12 (by kernel_rfl) rfl #[.string ((t393 ++ (⟨#[46]⟩ : ByteArray)) ++ t394)] rfl (by (try simp only [List.map_toArray, List.map_cons, List.map_nil]); first | done | rfl | (simp only [List.length_drop, List.length_take]; rfl)) ?_; (with_reducible refine (dec_Parse.calls kj7 ((t393 ++ (⟨#[46]⟩ : ByteArray)) ++ t394) t401 t402 _ ?side1 A23.out).mono ?_); (case side1 => exact Gl.below HG.out (wq HB.out)); rintro e w38 ⟨rfl, hb⟩; refine ⟨_, rfl, ?_⟩; have n0_ := Aside0.mk (blk_below (bq BK391.out) hb); have n1_ := Aside0.mk (below_step (wq HB.out) hb); clear BK391 HB; have BK391 := n0_; have HB := n1_; clear n0_ n1_; (try clear hb); (try clear hb2); (try clear hk); (try clear hi)))
           go_ret
           exact ⟨by first | rfl | (simp [errW_none, errW_some] <;> rfl) | (rw [HE_.out]; done) | (simp [HE_.out]; done) | (have h_ := HE_.out; simp_all; done) | (have h_ := HE_.out; simp [*] at h_; simp [*, h_]; done) | (simp [*, errW_none, errW_some] <;> rfl), by exact wq HB.out⟩
         ·
          rw [if_neg c25] at H
          have c25b0 : (t400 == 0) = false := beq_eq_false_iff_ne.mpr c25
          have c25b1 : (t400 != 0) = true := bne_iff_ne.mpr c25
          have HE_ := Aside0.mk (Option.some.inj H)
          clear H
          go_wp2_with (first | ((with_reducible refine gate_callee (f := 14) rfl ?_); refine goesL_ (some 43) rfl rfl Tryd.func14 (by kernel_rfl) rfl #[.int .i64 x5_7] rfl (by (try simp only [List.map_toArray, List.map_cons, List.map_nil]); first | done | rfl | (simp only [List.length_drop, List.length_take]; rfl)) ?_; (with_reducible refine (pointillistlaw04_digits.calls kj7 x5_7 t395 _ A17.out).mono ?_); rintro e w39 ⟨rfl, hb⟩; refine ⟨_, rfl, ?_⟩; have n0_ := Aside0.mk (blk_below (bq BK391.out) hb); have n1_ := Aside0.mk (below_step (wq HB.out) hb); clear BK391 HB; have BK391 := n0_; have HB := n1_; clear n0_ n1_; (try clear hb); (try clear hb2); (try clear hk); (try clear hi)) | ((with_reducible refine gate_callee (f := 12) rfl ?_); refine goesL_ (some 45) rfl rfl Tryd.func12 (by kernel_rfl) rfl #[.string (((t393 ++ (⟨#[46]⟩ : ByteArray)) ++ t394) ++ t395)] rfl (by (try simp only [List.map_toArray, List.map_cons, List.map_nil]); first | done | rfl | (simp only [List.length_drop, List.length_take]; rfl)) ?_; (with_reducible refine (dec_Parse.calls kj7 (((t393 ++ (⟨#[46]⟩ : ByteArray)) ++ t394) ++ t395) t396 t397 _ ?side1 A19.out).mono ?_); (case side1 => exact Gl.below HG.out (wq HB.out)); rintro e w40 ⟨rfl, hb⟩; refine ⟨_, rfl, ?_⟩; have n0_ := Aside0.mk (blk_below (bq BK391.out) hb); have n1_ := Aside0.mk (below_step (wq HB.out) hb); clear BK391 HB; have BK391 := n0_; have HB := n1_; clear n0_ n1_; (try clear hb); (try clear hb2); (try clear hk); (try clear hi)) | ((with_reducible refine gate_callee (f := 14) rfl ?_); refine goesL_ (some 51) rfl rfl Tryd.func14 (by kernel_rfl) rfl #[.int .i64 x6_7] rfl (by (try simp only [List.map_toArray, List.map_cons, List.map_nil]); first | done | rfl | (simp only [List.length_drop, List.length_take]; rfl)) ?_; (with_reducible refine (pointillistlaw04_digits.calls kj7 x6_7 t398 _ A20.out).mono ?_); rintro e w41 ⟨rfl, hb⟩; refine ⟨_, rfl, ?_⟩; have n0_ := Aside0.mk (blk_below (bq BK391.out) hb); have n1_ := Aside0.mk (below_step (wq HB.out) hb); clear BK391 HB; have BK391 := n0_; have HB := n1_; clear n0_ n1_; (try clear hb); (try clear hb2); (try clear hk); (try clear hi)) | ((with_reducible refine gate_callee (f := 12) rfl ?_); refine goesL_ (some 53) rfl rfl Tryd.func12 (by kernel_rfl) rfl #[.string (((t393 ++ (⟨#[46]⟩ : ByteArray)) ++ t394) ++ t398)] rfl (by (try simp only [List.map_toArray, List.map_cons, List.map_nil]); first | done | rfl | (simp only [List.length_drop, List.length_take]; rfl)) ?_; (with_reducible refine (dec_Parse.calls kj7 (((t393 ++ (⟨#[46]⟩ : ByteArray)) ++ t394) ++ t398) t399 t400 _ ?side1 A22.out).mono ?_); (case side1 => exact Gl.below HG.out (wq HB.out)); rintro e w42 ⟨rfl, hb⟩; refine ⟨_, rfl, ?_⟩; have n0_ := Aside0.mk (blk_below (bq BK391.out) hb); have n1_ := Aside0.mk (below_step (wq HB.out) hb); clear BK391 HB; have BK391 := n0_; have HB := n1_; clear n0_ n1_; (try clear hb); (try clear hb2); (try clear hk); (try clear hi)) | ((with_reducible refine gate_callee (f := 12) rfl ?_); refine goesL_ (some 58) rfl rfl Tryd.func12 (by kernel_rfl) rfl #[.string ((t393 ++ (⟨#[46]⟩ : ByteArray)) ++ t394)] rfl (by (try simp only [List.map_toArray, List.map_cons, List.map_nil]); first | done | rfl | (simp only [List.length_drop, List.length_take]; rfl)) ?_; (with_reducible refine (dec_Parse.calls kj7 ((t393 ++ (⟨#[46]⟩ : ByteArray)) ++ t394) t401 t402 _ ?side1 A23.out).mono ?_); (case side1 => exact Gl.below HG.out (wq HB.out)); rintro e w43 ⟨rfl, hb⟩; refine ⟨_, rfl, ?_⟩; have n0_ := Aside0.mk (blk_below (bq BK391.out) hb); have n1_ := Aside0.mk (below_step (wq HB.out) hb); clear BK391 HB; have BK391 := n0_; have HB := n1_; clear n0_ n1_; (try clear hb); (try clear hb2); (try clear hk); (try clear hi)))
          go_ret
          exact ⟨by first | rfl | (simp [errW_none, errW_some] <;> rfl) | (rw [HE_.out]; done) | (simp [HE_.out]; done) | (have h_ := HE_.out; simp_all; done) | (have h_ := HE_.out; simp [*] at h_; simp [*, h_]; done) | (simp [*, errW_none, errW_some] <;> rfl), by exact wq HB.out⟩
        ·
         rw [if_neg c24] at H
         have c24b0 : (t397 == 0) = false := beq_eq_false_iff_ne.mpr c24
         have c24b1 : (t397 != 0) = true := bne_iff_ne.mpr c24
         have HE_ := Aside0.mk (Option.some.inj H)
         clear H
         go_wp2_with (first | ((with_reducible refine gate_callee (f := 14) rfl ?_); refine goesL_ (some 43) rfl rfl Tryd.func14 (by kernel_rfl) rfl #[.int .i64 x5_7] rfl (by (try simp only [List.map_toArray, List.map_cons, List.map_nil]); first | done | rfl | (simp only [List.length_drop, List.length_take]; rfl)) ?_; (with_reducible refine (pointillistlaw04_digits.calls kj7 x5_7 t395 _ A17.out).mono ?_); rintro e w44 ⟨rfl, hb⟩; refine ⟨_, rfl, ?_⟩; have n0_ := Aside0.mk (blk_below (bq BK391.out) hb); have n1_ := Aside0.mk (below_step (wq HB.out) hb); clear BK391 HB; have BK391 := n0_; have HB := n1_; clear n0_ n1_; (try clear hb); (try clear hb2); (try clear hk); (try clear hi)) | ((with_reducible refine gate_callee (f := 12) rfl ?_); refine goesL_ (some 45) rfl rfl Tryd.func12 (by kernel_rfl) rfl #[.string (((t393 ++ (⟨#[46]⟩ : ByteArray)) ++ t394) ++ t395)] rfl (by (try simp only [List.map_toArray, List.map_cons, List.map_nil]); first | done | rfl | (simp only [List.length_drop, List.length_take]; rfl)) ?_; (with_reducible refine (dec_Parse.calls kj7 (((t393 ++ (⟨#[46]⟩ : ByteArray)) ++ t394) ++ t395) t396 t397 _ ?side1 A19.out).mono ?_); (case side1 => exact Gl.below HG.out (wq HB.out)); rintro e w45 ⟨rfl, hb⟩; refine ⟨_, rfl, ?_⟩; have n0_ := Aside0.mk (blk_below (bq BK391.out) hb); have n1_ := Aside0.mk (below_step (wq HB.out) hb); clear BK391 HB; have BK391 := n0_; have HB := n1_; clear n0_ n1_; (try clear hb); (try clear hb2); (try clear hk); (try clear hi)) | ((with_reducible refine gate_callee (f := 14) rfl ?_); refine goesL_ (some 51) rfl rfl Tryd.func14 (by kernel_rfl) rfl #[.int .i64 x6_7] rfl (by (try simp only [List.map_toArray, List.map_cons, List.map_nil]); first | done | rfl | (simp only [List.length_drop, List.length_take]; rfl)) ?_; (with_reducible refine (pointillistlaw04_digits.calls kj7 x6_7 t398 _ A20.out).mono ?_); rintro e w46 ⟨rfl, hb⟩; refine ⟨_, rfl, ?_⟩; have n0_ := Aside0.mk (blk_below (bq BK391.out) hb); have n1_ := Aside0.mk (below_step (wq HB.out) hb); clear BK391 HB; have BK391 := n0_; have HB := n1_; clear n0_ n1_; (try clear hb); (try clear hb2); (try clear hk); (try clear hi)) | ((with_reducible refine gate_callee (f := 12) rfl ?_); refine goesL_ (some 53) rfl rfl Tryd.func12 (by kernel_rfl) rfl #[.string (((t393 ++ (⟨#[46]⟩ : ByteArray)) ++ t394) ++ t398)] rfl (by (try simp only [List.map_toArray, List.map_cons, List.map_nil]); first | done | rfl | (simp only [List.length_drop, List.length_take]; rfl)) ?_; (with_reducible refine (dec_Parse.calls kj7 (((t393 ++ (⟨#[46]⟩ : ByteArray)) ++ t394) ++ t398) t399 t400 _ ?side1 A22.out).mono ?_); (case side1 => exact Gl.below HG.out (wq HB.out)); rintro e w47 ⟨rfl, hb⟩; refine ⟨_, rfl, ?_⟩; have n0_ := Aside0.mk (blk_below (bq BK391.out) hb); have n1_ := Aside0.mk (below_step (wq HB.out) hb); clear BK391 HB; have BK391 := n0_; have HB := n1_; clear n0_ n1_; (try clear hb); (try clear hb2); (try clear hk); (try clear hi)) | ((with_reducible refine gate_callee (f := 12) rfl ?_); refine goesL_ (some 58) rfl rfl Tryd.func12 (by kernel_rfl) rfl #[.string ((t393 ++ (⟨#[46]⟩ : ByteArray)) ++ t394)] rfl (by (try simp only [List.map_toArray, List.map_cons, List.map_nil]); first | done | rfl | (simp only [List.length_drop, List.length_take]; rfl)) ?_; (with_reducible refine (dec_Parse.calls kj7 ((t393 ++ (⟨#[46]⟩ : ByteArray)) ++ t394) t401 t402 _ ?side1 A23.out).mono ?_); (case side1 => exact Gl.below HG.out (wq HB.out)); rintro e w48 ⟨rfl, hb⟩; refine ⟨_, rfl, ?_⟩; have n0_ := Aside0.mk (blk_below (bq BK391.out) hb); have n1_ := Aside0.mk (below_step (wq HB.out) hb); clear BK391 HB; have BK391 := n0_; have HB := n1_; clear n0_ n1_; (try clear hb); (try clear hb2); (try clear hk); (try clear hi)))
         go_ret
         exact ⟨by first | rfl | (simp [errW_none, errW_some] <;> rfl) | (rw [HE_.out]; done) | (simp [HE_.out]; done) | (have h_ := HE_.out; simp_all; done) | (have h_ := HE_.out; simp [*] at h_; simp [*, h_]; done) | (simp [*, errW_none, errW_some] <;> rfl), by exact wq HB.out⟩
       ·
        rw [if_neg c21] at H
        exact absurd H (by simp)
      ·
       rw [if_neg c18] at H
       exact absurd H (by simp)
   ·
    rw [if_neg c7] at H
    exact absurd H (by simp)
  ·
   rw [if_neg c5] at H
   exact absurd H (by simp)
 ·
  replace c3 := Bool.eq_false_iff.mpr c3
  subst c3
  have H1 : (some false) = some true := by rw [if_neg (show ¬ (false = true) by decide)] at H; exact H
  clear H
  have H := H1
  clear H1
  exact absurd H (by simp)
end Go.Proofs.YtfpnglgipchjhaaDoor.PR
namespace Go.Proofs.YtfpnglgipchjhaaDoor.PR
open Go.RowKit Go.Proofs.YtfpnglgipchjhaaDoorW.PrintWords Go.Proofs.YtfpnglgipchjhaaDoorW.PrintLast Go.Proofs.YtfpnglgipchjhaaDoorW.PrintMore Go.Proofs.YtfpnglgipchjhaaDoor.DecV
theorem bytesOf_app (a b : ByteArray) : bytesOf (a ++ b) = bytesOf a ++ bytesOf b := by
  unfold bytesOf
  rw [ByteArray.data_append, Array.toList_append, List.map_append]
theorem bytesOf_one (n : Int) (h0 : 0 ≤ n) (h1 : n < 256) : bytesOf (strOfNums [n]) = [n] := by
  have : ((UInt8.ofNat n.toNat).toNat : Int) = n := by
    rw [UInt8.toNat_ofNat']
    omega
  show [((UInt8.ofNat n.toNat).toNat : Int)] = [n]
  rw [this]
def decS (n : Nat) : List Int := if n < 10 then [48 + (n : Int)] else decS (n / 10) ++ [48 + ((n % 10 : Nat) : Int)]
termination_by n
decreasing_by omega
theorem decS_lo {n : Nat} (h : n < 10) : decS n = [48 + (n : Int)] := by rw [decS, if_pos h]
theorem decS_hi {n : Nat} (h : ¬ n < 10) : decS n = decS (n / 10) ++ [48 + ((n % 10 : Nat) : Int)] := by rw [decS, if_neg h]
theorem decS_ok (n : Nat) : DC (decS n) ∧ decS n ≠ [] ∧ dv (mi (decS n)) = n := by
  induction n using Nat.strongRecOn with
  | ind n ih =>
    by_cases h : n < 10
    · rw [decS_lo h]
      refine ⟨fun c hc => ?_, by simp, ?_⟩
      · rw [List.mem_singleton] at hc
        subst hc
        unfold isD
        exact decide_eq_true (by omega)
      · show dv [48 + (n : Int) - 48] = n
        have : (48 + (n : Int) - 48).toNat = n := by omega
        unfold dv
        simp only [List.foldl_cons, List.foldl_nil, this]
        omega
    · obtain ⟨i1, i2, i3⟩ := ih (n / 10) (by omega)
      rw [decS_hi h]
      refine ⟨fun c hc => ?_, by simp, ?_⟩
      · rw [List.mem_append, List.mem_singleton] at hc
        rcases hc with hc | rfl
        · exact i1 c hc
        · unfold isD
          exact decide_eq_true (by omega)
      · unfold mi
        rw [List.map_append, List.map_cons, List.map_nil, dv_snoc]
        have e : dv ((decS (n / 10)).map fun c => c - 48) = n / 10 := i3
        rw [e]
        omega
theorem decS_len {n m : Nat} (h : n < 10 ^ m) (hm : 1 ≤ m) : (decS n).length ≤ m := by
  induction m generalizing n with
  | zero => omega
  | succ m ih =>
    by_cases h1 : n < 10
    · rw [decS_lo h1]; simp
    · rw [decS_hi h1, List.length_append]
      have hm2 : 1 ≤ m := by
        refine Nat.pos_of_ne_zero fun h0 => ?_
        subst h0
        rw [Nat.pow_one] at h
        omega
      have := ih (n := n / 10) (by rw [Nat.pow_succ] at h; omega) hm2
      simp only [List.length_cons, List.length_nil]
      omega
theorem digits_loop (n : Nat) : ∀ acc : ByteArray, acc.size + n < 4611686018427387904 → ∃ r, Ev (fun k => pointillistlaw04_digits.l0 k (n : Int) acc) r ∧ bytesOf r = decS n ++ bytesOf acc := by
  induction n using Nat.strongRecOn with
  | ind n ih =>
    intro acc hacc
    have e1 : wrap64 (48 + Int.tmod (n : Int) 10) % 256 = 48 + ((n % 10 : Nat) : Int) := by
      rw [Int.tmod_eq_emod_of_nonneg (by omega), w64s _ (by omega) (by omega)]
      omega
    have e2 : wrap64 (Int.tdiv (n : Int) 10) = ((n / 10 : Nat) : Int) := by
      rw [Int.tdiv_eq_ediv_of_nonneg (by omega), w64s _ (by omega) (by omega)]
      omega
    have hb := bytesOf_one (48 + ((n % 10 : Nat) : Int)) (by omega) (by omega)
    have hsz : (strOfNums [48 + ((n % 10 : Nat) : Int)]).size = 1 := rfl
    by_cases h : n < 10
    · refine ⟨strOfNums [48 + ((n % 10 : Nat) : Int)] ++ acc, Ev.step (fun k => by rw [pointillistlaw04_digits.l0, e1, e2, Option.bind_some, if_pos (by rw [hsz]; omega), if_pos (by omega)]) (Ev.now _), ?_⟩
      rw [bytesOf_app, hb, decS_lo h, show n % 10 = n by omega]
    · obtain ⟨r, h1, h2⟩ := ih (n / 10) (by omega) (strOfNums [48 + ((n % 10 : Nat) : Int)] ++ acc) (by rw [ByteArray.size_append, hsz]; omega)
      refine ⟨r, Ev.step (fun k => by rw [pointillistlaw04_digits.l0, e1, e2, Option.bind_some, if_pos (by rw [hsz]; omega), if_neg (by omega)]) h1, ?_⟩
      rw [h2, bytesOf_app, hb, decS_hi h, List.append_assoc]
theorem digits_ev (n : Nat) (h : n < 4611686018427387904) : ∃ r, Ev (fun k => pointillistlaw04_digits.f k (n : Int)) r ∧ bytesOf r = decS n := by
  obtain ⟨r, h1, h2⟩ := digits_loop n (⟨#[]⟩ : ByteArray) (by rw [show (⟨#[]⟩ : ByteArray).size = 0 from rfl]; omega)
  refine ⟨r, h1, ?_⟩
  rw [h2, show bytesOf (⟨#[]⟩ : ByteArray) = [] from rfl, List.append_nil]
theorem parse_of {s : ByteArray} {t : Txt} (ht : t.ok) (h : bytesOf s = t.L) (hs : s.size ≤ 300) : Ev (fun k => dec_Parse.f k s) (specR (decide (t.s = [45])) (dv (mi t.a ++ mi (frac t.b))) (tpw 1000 t.x - (frac t.b).length)) := by
  have := decparse_ev s hs
  rw [h, Txt.parse ht] at this
  exact this
theorem near_mono {n m d : Int} (hd : 0 < d) (h : n ≤ m) : nearQ n d ≤ nearQ m d := by
  unfold nearQ
  exact Int.ediv_le_ediv (by omega) (by omega)
theorem spec_below (D n w : Nat) (h : D < (w + 1) * 10 ^ n) : specN false D (-(n : Int)) ≤ ((w + 1) * 65536 : Nat) ∧ 0 ≤ specN false D (-(n : Int)) := by
  rw [specN_eq false D _ 0 n (by omega), Nat.pow_zero, Nat.mul_one]
  have hT := ten_pos n
  generalize (10 ^ n : Nat) = T at *
  unfold nearQ sg
  simp only [Bool.false_eq_true, if_false]
  constructor
  · refine Int.lt_add_one_iff.1 (Int.ediv_lt_of_lt_mul (by omega) ?_)
    have e : (((w + 1) * 65536 : Nat) : Int) * (2 * (T : Int)) = 131072 * (((w + 1) * T : Nat) : Int) := by
      rw [show ((w + 1) * 65536 : Nat) = 65536 * (w + 1) from Nat.mul_comm _ _, Int.natCast_mul, Int.natCast_mul]
      rw [Int.mul_assoc, Int.mul_left_comm ((w + 1 : Nat) : Int), ← Int.mul_assoc]
      rfl
    rw [Int.add_mul, e]
    generalize (w + 1) * T = X at *
    omega
  · exact Int.ediv_nonneg (by omega) (by omega)
theorem spec_next (D k n : Nat) (hk : k ≤ 9) (hn : 1 ≤ n) : specN false (D + k) (-(n : Int)) ≤ specN false D (-(n : Int)) + 65536 := by
  rw [specN_eq false (D + k) _ 0 n (by omega), specN_eq false D _ 0 n (by omega), Nat.pow_zero, Nat.mul_one, Nat.mul_one]
  have hT : 10 ≤ 10 ^ n := by
    have := Nat.pow_le_pow_right (n := 10) (by decide) hn
    rwa [Nat.pow_one] at this
  generalize (10 ^ n : Nat) = T at *
  unfold nearQ sg
  simp only [Bool.false_eq_true, if_false]
  have e : (2 * ((D * 65536 : Nat) : Int) + (T : Int)) / (2 * (T : Int)) + 65536 = (2 * ((D * 65536 : Nat) : Int) + (T : Int) + 65536 * (2 * (T : Int))) / (2 * (T : Int)) := (Int.add_mul_ediv_right _ _ (by omega)).symm
  rw [e]
  exact Int.ediv_le_ediv (by omega) (by omega)
theorem spec_mono (D E : Nat) (n : Nat) (h : D ≤ E) : specN false D (-(n : Int)) ≤ specN false E (-(n : Int)) := by
  rw [specN_eq false D _ 0 n (by omega), specN_eq false E _ 0 n (by omega), Nat.pow_zero, Nat.mul_one, Nat.mul_one]
  refine near_mono (by have := ten_pos n; omega) ?_
  unfold sg
  simp only [Bool.false_eq_true, if_false]
  omega
theorem parse_point {s : ByteArray} {A B : List Int} (hA : DC A) (hB : DC B) (hne : A ≠ []) (h : bytesOf s = A ++ (46 :: B)) (hs : s.size ≤ 300) : Ev (fun k => dec_Parse.f k s) (specR false (dv (mi A) * 10 ^ B.length + dv (mi B)) (-(B.length : Int))) := by
  have ht : (Txt.mk [] A (some B) none).ok := ⟨.inl rfl, hA, hB, by simp [hne], fun y hy => by cases hy⟩
  have := parse_of ht (h.trans (by unfold Txt.L; simp [ptL, tailL])) hs
  have e1 : dv (mi A ++ mi (frac (some B))) = dv (mi A) * 10 ^ B.length + dv (mi B) := by
    rw [dv_app]
    unfold mi frac
    rw [List.length_map]
  have e2 : tpw 1000 none - ((frac (some B)).length : Int) = -(B.length : Int) := by
    show (0 : Int) - (B.length : Int) = _
    omega
  rw [show (Txt.mk [] A (some B) none).a = A from rfl, show (Txt.mk [] A (some B) none).b = some B from rfl, show (Txt.mk [] A (some B) none).x = none from rfl, e1, e2] at this
  exact this
theorem specR_fst (g : Bool) (D : Nat) (p : Int) : (specR g D p).2 = 0 ↔ inb (specN g D p) := by
  unfold specR
  by_cases h : inb (specN g D p)
  · rw [if_pos h]; exact ⟨fun _ => h, fun _ => rfl⟩
  · rw [if_neg h]; exact ⟨fun h2 => absurd h2 (by decide), fun h2 => absurd h2 h⟩
theorem rises_core (W V i k : Nat) (hW : W < 65536) (hV : V < 4294967296) (hi : i ≤ k) (hk : k ≤ 9) (s : ByteArray) (hs : bytesOf s = decS W ++ (46 :: decS V)) :
    Ev (fun n => pointillistlaw04_DecRises.j0 n (W : Int) s (i : Int) (k : Int)) true := by
  obtain ⟨a1, a2, a3⟩ := decS_ok W
  obtain ⟨b1, b2, b3⟩ := decS_ok V
  have la := decS_len (n := W) (m := 5) (by omega) (by decide)
  have lb := decS_len (n := V) (m := 10) (by omega) (by decide)
  have hsz : s.size = (decS W).length + ((decS V).length + 1) := by rw [← bytesOf_length, hs, List.length_append, List.length_cons]
  have hz := parse_point a1 b1 a2 hs (by omega)
  rw [a3, b3] at hz
  have one : ∀ d : Nat, d ≤ 9 → ∃ r, Ev (fun n => pointillistlaw04_digits.f n (d : Int)) r ∧ r.size = 1 ∧ Ev (fun n => dec_Parse.f n (s ++ r)) (specR false ((W * 10 ^ (decS V).length + V) * 10 + d) (-(((decS V).length + 1 : Nat) : Int))) := by
    intro d hd
    obtain ⟨r, h1, h2⟩ := digits_ev d (by omega)
    rw [decS_lo (by omega)] at h2
    have hr : r.size = 1 := by rw [← bytesOf_length, h2]; rfl
    have hc : DC (decS V ++ [48 + (d : Int)]) := by
      intro c hc
      rw [List.mem_append, List.mem_singleton] at hc
      rcases hc with hc | rfl
      · exact b1 c hc
      · unfold isD; exact decide_eq_true (by omega)
    have hp := parse_point (s := s ++ r) (A := decS W) (B := decS V ++ [48 + (d : Int)]) a1 hc a2 (by rw [bytesOf_app, hs, h2]; simp) (by rw [ByteArray.size_append]; omega)
    have e1 : dv (mi (decS V ++ [48 + (d : Int)])) = 10 * V + d := by
      unfold mi
      rw [List.map_append, List.map_cons, List.map_nil, dv_snoc, show dv ((decS V).map fun c => c - 48) = V from b3]
      omega
    have e2 : (decS V ++ [48 + (d : Int)]).length = (decS V).length + 1 := by simp
    rw [a3, e1, e2, Nat.pow_succ] at hp
    have e3 : W * (10 ^ (decS V).length * 10) + (10 * V + d) = (W * 10 ^ (decS V).length + V) * 10 + d := by
      rw [← Nat.mul_assoc]
      omega
    rw [e3] at hp
    exact ⟨r, h1, hr, hp⟩
  obtain ⟨r1, d1, z1, p1⟩ := one i (by omega)
  obtain ⟨r2, d2, z2, p2⟩ := one k hk
  have c1 : s.size + r1.size ≤ 9223372036854775807 := by omega
  have c2 : s.size + r2.size ≤ 9223372036854775807 := by omega
  refine Ev.step (fun n => by rw [pointillistlaw04_DecRises.j0]) (Ev.bind d1 ?_)
  simp only [if_pos c1]
  refine Ev.bind p1 (Ev.bind d2 ?_)
  simp only [if_pos c2]
  refine Ev.bind p2 (Ev.bind hz ?_)

  have hVm : V < 10 ^ (decS V).length := by
    have := dv_lt (l := mi (decS V)) (by
      intro a ha
      unfold mi at ha
      rw [List.mem_map] at ha
      obtain ⟨c, hc, rfl⟩ := ha
      exact isD_val (b1 c hc))
    rw [b3] at this
    unfold mi at this
    rwa [List.length_map] at this
  generalize (decS V).length = m at *
  have hDm : W * 10 ^ m + V < (W + 1) * 10 ^ m := by rw [Nat.add_mul]; omega
  have hDi : ∀ d : Nat, d ≤ 9 → (W * 10 ^ m + V) * 10 + d < (W + 1) * 10 ^ (m + 1) := by
    intro d hd
    rw [Nat.pow_succ, ← Nat.mul_assoc]
    generalize (W + 1) * 10 ^ m = X at *
    omega
  have ez : specN false (W * 10 ^ m + V) (-(m : Int)) = specN false ((W * 10 ^ m + V) * 10) (-((m + 1 : Nat) : Int)) := by
    have h := specN_shift false (W * 10 ^ m + V) (-(m : Int)) 1
    rw [Nat.pow_one] at h
    rw [← h]
    congr 1
    omega
  have bz := spec_below _ m W hDm
  have bi := spec_below _ (m + 1) W (hDi i (by omega))
  have bk := spec_below _ (m + 1) W (hDi k hk)
  have m1 := spec_mono ((W * 10 ^ m + V) * 10 + i) ((W * 10 ^ m + V) * 10 + k) (m + 1) (by omega)
  have m2 := spec_mono ((W * 10 ^ m + V) * 10) ((W * 10 ^ m + V) * 10 + i) (m + 1) (by omega)
  have m3 := spec_next ((W * 10 ^ m + V) * 10) k (m + 1) hk (by omega)
  rw [← ez] at m2 m3
  have k1 := specR_fst false ((W * 10 ^ m + V) * 10 + i) (-((m + 1 : Nat) : Int))
  have k2 := specR_fst false ((W * 10 ^ m + V) * 10 + k) (-((m + 1 : Nat) : Int))
  have k3 := specR_fst false (W * 10 ^ m + V) (-(m : Int))
  have v1 : inb (specN false ((W * 10 ^ m + V) * 10 + i) (-((m + 1 : Nat) : Int))) → (specR false ((W * 10 ^ m + V) * 10 + i) (-((m + 1 : Nat) : Int))).1 = specN false ((W * 10 ^ m + V) * 10 + i) (-((m + 1 : Nat) : Int)) := fun h => by unfold specR; rw [if_pos h]
  have v2 : inb (specN false ((W * 10 ^ m + V) * 10 + k) (-((m + 1 : Nat) : Int))) → (specR false ((W * 10 ^ m + V) * 10 + k) (-((m + 1 : Nat) : Int))).1 = specN false ((W * 10 ^ m + V) * 10 + k) (-((m + 1 : Nat) : Int)) := fun h => by unfold specR; rw [if_pos h]
  have v3 : inb (specN false (W * 10 ^ m + V) (-(m : Int))) → (specR false (W * 10 ^ m + V) (-(m : Int))).1 = specN false (W * 10 ^ m + V) (-(m : Int)) := fun h => by unfold specR; rw [if_pos h]
  generalize specR false ((W * 10 ^ m + V) * 10 + i) (-((m + 1 : Nat) : Int)) = R1 at *
  generalize specR false ((W * 10 ^ m + V) * 10 + k) (-((m + 1 : Nat) : Int)) = R2 at *
  generalize specR false (W * 10 ^ m + V) (-(m : Int)) = R3 at *
  generalize specN false ((W * 10 ^ m + V) * 10 + i) (-((m + 1 : Nat) : Int)) = x at *
  generalize specN false ((W * 10 ^ m + V) * 10 + k) (-((m + 1 : Nat) : Int)) = y at *
  generalize specN false (W * 10 ^ m + V) (-(m : Int)) = z at *
  have out : ∀ v : Int, v ≤ ((W + 1) * 65536 : Nat) → 0 ≤ v → ¬ inb v → Ev (fun _ : Nat => some ((W : Int) == 65535)) true := by
    intro v h1 h2 h3
    have : W = 65535 := by
      unfold inb at h3
      omega
    rw [this]
    exact Ev.now true
  by_cases n1 : R1.2 = 0
  · simp only [if_pos n1]
    by_cases n2 : R2.2 = 0
    · simp only [if_pos n2]
      by_cases n3 : R3.2 = 0
      · simp only [if_pos n3]
        have i1 := k1.1 n1
        have i2 := k2.1 n2
        have i3 := k3.1 n3
        rw [v1 i1, v2 i2, v3 i3]
        have e1 : wrap64 (z + 65536) = z + 65536 := w64s _ (by unfold inb at i3; omega) (by unfold inb at i3; omega)
        rw [e1]
        simp only [if_pos m1, if_pos m2, decide_eq_true m3]
        exact Ev.now true
      · simp only [if_neg n3]
        exact out z bz.1 bz.2 (fun h => n3 (k3.2 h))
    · simp only [if_neg n2]
      exact out y bk.1 bk.2 (fun h => n2 (k2.2 h))
  · simp only [if_neg n1]
    exact out x bi.1 bi.2 (fun h => n1 (k1.2 h))
theorem rises_ev (l0 l1 l2 l3 : Nat) (_h0 : l0 < 4294967296) (h1 : l1 < 4294967296) (h2 : l2 < 4294967296) (h3 : l3 < 4294967296) : Ev (fun k => pointillistlaw04_DecRises.f k (l0 : Int) (l1 : Int) (l2 : Int) (l3 : Int)) true := by
  unfold pointillistlaw04_DecRises.f
  refine Ev.bind wakes_ev ?_
  simp only [if_true]
  have e0 : wrap64 (Int.tmod (l0 : Int) 65536) = ((l0 % 65536 : Nat) : Int) := by rw [Int.tmod_eq_emod_of_nonneg (by omega), w64s _ (by omega) (by omega)]; omega
  have e0' : Int.tmod (l0 : Int) 65536 = ((l0 % 65536 : Nat) : Int) := by rw [Int.tmod_eq_emod_of_nonneg (by omega)]; omega
  have e1 : wrap64 (l1 : Int) = (l1 : Int) := w64s _ (by omega) (by omega)
  have e2 : Int.tmod (wrap64 (l2 : Int)) 10 = ((l2 % 10 : Nat) : Int) := by rw [w64s _ (by omega) (by omega), Int.tmod_eq_emod_of_nonneg (by omega)]; omega
  have e3 : Int.tmod (wrap64 (l3 : Int)) 10 = ((l3 % 10 : Nat) : Int) := by rw [w64s _ (by omega) (by omega), Int.tmod_eq_emod_of_nonneg (by omega)]; omega
  rw [e0, e0', e1, e2, e3]
  obtain ⟨ra, d1, b1⟩ := digits_ev (l0 % 65536) (by omega)
  obtain ⟨rb, d2, b2⟩ := digits_ev l1 (by omega)
  have la := decS_len (n := l0 % 65536) (m := 5) (by omega) (by decide)
  have lb := decS_len (n := l1) (m := 10) (by omega) (by decide)
  have sa : ra.size ≤ 5 := by rw [← bytesOf_length, b1]; exact la
  have sb : rb.size ≤ 10 := by rw [← bytesOf_length, b2]; exact lb
  have c1 : ra.size + 1 ≤ 9223372036854775807 := by omega
  have s46 : (⟨#[46]⟩ : ByteArray).size = 1 := rfl
  have c2 : (ra ++ (⟨#[46]⟩ : ByteArray)).size + rb.size ≤ 9223372036854775807 := by rw [ByteArray.size_append, s46]; omega
  refine Ev.bind d1 ?_
  simp only [if_pos c1]
  refine Ev.bind d2 ?_
  simp only [if_pos c2]
  have hs : bytesOf ((ra ++ (⟨#[46]⟩ : ByteArray)) ++ rb) = decS (l0 % 65536) ++ (46 :: decS l1) := by
    rw [bytesOf_app, bytesOf_app, b1, b2, show bytesOf (⟨#[46]⟩ : ByteArray) = [46] from rfl]
    simp
  have hW : l0 % 65536 < 65536 := Nat.mod_lt _ (by decide)
  have q2 : l2 % 10 ≤ 9 := Nat.le_of_lt_succ (Nat.mod_lt _ (by decide))
  have q3 : l3 % 10 ≤ 9 := Nat.le_of_lt_succ (Nat.mod_lt _ (by decide))
  generalize (ra ++ (⟨#[46]⟩ : ByteArray)) ++ rb = t at *
  generalize l0 % 65536 = W at *
  generalize l2 % 10 = i at *
  generalize l3 % 10 = j at *
  clear e0 e0' e1 e2 e3 d1 d2 b1 b2 la lb sa sb c1 c2 h2 h3
  by_cases hc : (i : Int) > (j : Int)
  · simp only [if_pos hc]
    have hij : j ≤ i := by omega
    exact rises_core W l1 j i hW h1 hij q2 t hs
  · simp only [if_neg hc]
    have hij : i ≤ j := by omega
    exact rises_core W l1 i j hW h1 hij q3 t hs
theorem decRises_walk (a0 a1 a2 a3 : Int) (w : World) (hG : Gl w) (h0 : 0 ≤ a0 ∧ a0 < 4294967296) (h1 : 0 ≤ a1 ∧ a1 < 4294967296) (h2 : 0 ≤ a2 ∧ a2 < 4294967296) (h3 : 0 ≤ a3 ∧ a3 < 4294967296) :
    Calls Tryd.prog 5 #[.agg #[.int .u32 a0, .int .u32 a1, .int .u32 a2, .int .u32 a3]] w fun e w' => e = .returned (.bool true) ∧ Below w.heap.size w w' := by
  obtain ⟨n0, rfl⟩ := Int.eq_ofNat_of_zero_le h0.1
  obtain ⟨n1, rfl⟩ := Int.eq_ofNat_of_zero_le h1.1
  obtain ⟨n2, rfl⟩ := Int.eq_ofNat_of_zero_le h2.1
  obtain ⟨n3, rfl⟩ := Int.eq_ofNat_of_zero_le h3.1
  obtain ⟨k, h⟩ := (rises_ev n0 n1 n2 n3 (by omega) (by omega) (by omega) (by omega)).rounds
  exact pointillistlaw04_DecRises.calls k _ _ _ _ w hG h
end Go.Proofs.YtfpnglgipchjhaaDoor.PR
namespace Go.Proofs.YtfpnglgipchjhaaDoor
open Go.ChangeShapes Go.WideShapes Go.ChangeAt
section
variable {H : Type} {enc : TypeId × Value → H} {P : Program} {w : World} {base : Nat} {spare : Nat → Bool} {held : Bool} {t : TypeId}
theorem ints_of_parts {k : IntKind} {cs : List Value} {n m : Nat} {xs : List (DataW H × List MemPlace)} {T : Nat → TypeId} (hn : cs.length = n) (hx : xs.length = n) (hT : ∀ i, i < n → P.underlying (T i) = some (.int k))
    (h : ∀ i, i < n → DataW.trod enc P w base spare held m (T i) ((cs.drop i).take 1) = xs[i]?) : ∃ ns : List Int, ns.length = n ∧ cs = ns.map (Value.int k) ∧ (∀ x ∈ ns, (Lit.int k x).wf = true) ∧ xs.map (·.1) = ns.map (fun z => .lit (.int k z)) := by
  have key : ∀ i, i < n → ∃ z, cs[i]? = some (.int k z) ∧ (Lit.int k z).wf = true ∧ xs[i]? = some (.lit (.int k z), []) := by
    intro i hi
    have h1 := h i hi
    rw [List.getElem?_eq_getElem (by omega)] at h1
    obtain ⟨z, hz, hxz, hw⟩ := DataW.trod_int (hT i hi) h1
    refine ⟨z, ?_, hw, by rw [List.getElem?_eq_getElem (by omega), hxz]⟩
    have hlt : i < cs.length := by omega
    rw [List.drop_eq_getElem_cons hlt] at hz
    simp only [List.take_succ_cons, List.take_zero, List.cons.injEq, and_true] at hz
    rw [List.getElem?_eq_getElem hlt, hz]
  refine ⟨cs.map (fun v => match v with | .int _ z => z | _ => 0), by simpa using hn, ?_, ?_, ?_⟩
  · apply List.ext_getElem?
    intro i
    by_cases hi : i < n
    · obtain ⟨z, hz, _⟩ := key i hi
      simp [List.getElem?_map, hz]
    · simp [List.getElem?_map, List.getElem?_eq_none (show cs.length ≤ i by omega)]
  rotate_left
  · apply List.ext_getElem?
    intro i
    by_cases hi : i < n
    · obtain ⟨z, hz, _, hxz⟩ := key i hi
      simp [List.getElem?_map, hz, hxz]
    · simp [List.getElem?_map, List.getElem?_eq_none (show cs.length ≤ i by omega), List.getElem?_eq_none (show xs.length ≤ i by omega)]
  · intro x hx2
    rw [List.mem_map] at hx2
    obtain ⟨v, hv, hvx⟩ := hx2
    obtain ⟨i, hi⟩ := List.getElem?_of_mem hv
    have hlt : i < n := by
      have := (List.getElem?_eq_some_iff.1 hi).1
      omega
    obtain ⟨z, hz, hw, _⟩ := key i hlt
    rw [hi] at hz
    obtain rfl := Option.some.inj hz
    simp only at hvx
    rw [← hvx]
    exact hw
theorem trod_array_ints {k : IntKind} {n : Nat} {e : TypeId} {fuel : Nat} {cs : List Value} {x : DataW H × List MemPlace} (ht : P.underlying t = some (.array n e)) (he : P.underlying e = some (.int k)) (hc : P.cellsOf e = 1) (hC : P.cellsOf t = n)
    (h : DataW.trod enc P w base spare held fuel t cs = some x) : ∃ ns : List Int, ns.length = n ∧ cs = ns.map (Value.int k) ∧ (∀ z ∈ ns, (Lit.int k z).wf = true) ∧ x.1 = .agg (ns.map (fun z => .lit (.int k z))) := by
  obtain ⟨xs, m, rfl, rfl, hlen, hx, hel⟩ := DataW.trod_array ht h
  suffices hsuf : ∃ ns : List Int, ns.length = n ∧ cs = ns.map (Value.int k) ∧ (∀ z ∈ ns, (Lit.int k z).wf = true) ∧ xs.map (·.1) = ns.map (fun z => .lit (.int k z)) by
    obtain ⟨ns, h1, h2, h3, h4⟩ := hsuf
    exact ⟨ns, h1, h2, h3, by simp only [h4]⟩
  refine ints_of_parts (enc := enc) (P := P) (w := w) (base := base) (spare := spare) (held := held) (m := m) (T := fun _ => e) (by omega) hx (fun _ _ => he) (fun i hi => ?_)
  have := hel i hi
  rw [hc, Nat.mul_one] at this
  exact this
theorem okWide_array {r : Reach} {b0 : Nat} {v : Value} {n : Nat} {e : TypeId} (ht : P.underlying t = some (.array n e)) (h : Value.okWide P w r b0 t v) : ∃ cs, v = .agg cs ∧ cs.size = P.cellsOf t := by
  simp only [Value.okWide, ht] at h
  obtain ⟨cs, h1, h2, _⟩ := h
  exact ⟨cs, h1, h2⟩
theorem open_array_ints {r : Reach} {b0 : Nat} {v : Value} {d : DataW H} {p : List MemPlace} {k : IntKind} {n : Nat} {e : TypeId} (ht : P.underlying t = some (.array n e)) (he : P.underlying e = some (.int k)) (hc : P.cellsOf e = 1) (hC : P.cellsOf t = n)
    (hv : Value.okWide P w r b0 t v) (h : DataW.Trod enc P w base spare held t v d p) : ∃ ns : List Int, ns.length = n ∧ v = .agg (ns.map (Value.int k)).toArray ∧ ∀ z ∈ ns, (Lit.int k z).wf = true := by
  obtain ⟨cs, rfl, _⟩ := okWide_array ht hv
  obtain ⟨fuel, hf2⟩ := h
  obtain ⟨ns, h1, h2, h3, _⟩ := trod_array_ints ht he hc hC hf2
  have h2' : cs.toList = ns.map (Value.int k) := by simpa [Value.cells] using h2
  refine ⟨ns, h1, ?_, h3⟩
  rw [← h2']
end
theorem list_of_length4 {α : Type} {l : List α} (h : l.length = 4) : ∃ a b c d, l = [a, b, c, d] := by
  match l, h with
  | [a, b, c, d], _ => exact ⟨a, b, c, d, rfl⟩
theorem wf_u32 {n : Int} (h : (Lit.int .u32 n).wf = true) : 0 ≤ n ∧ n < 4294967296 := by
  simp [Lit.wf, IntKind.min, IntKind.max, IntKind.signed, IntKind.bits] at h
  omega
end Go.Proofs.YtfpnglgipchjhaaDoor
namespace Go.Proofs.YtfpnglgipchjhaaDoor
open Go.ChangeShapes Go.WideShapes Go.ChangeAt
section
variable {H : Type} {enc : TypeId × Value → H} {P : Program} {w : World} {base : Nat} {spare : Nat → Bool} {held : Bool} {t : TypeId}
def lit1 {H : Type} : DataW H → Int
  | .lit (.int _ z) => z
  | _ => 0
def lits {H : Type} : DataW H → List Int
  | .agg l => l.map lit1
  | _ => []
def lits2 {H : Type} : DataW H → List Int
  | .agg l => l.flatMap lits
  | _ => []
theorem lits_ints {k : IntKind} (ns : List Int) : lits (H := H) (.agg (ns.map fun z => .lit (.int k z))) = ns := by
  unfold lits
  simp only [List.map_map]
  have : (lit1 (H := H) ∘ fun z => DataW.lit (Lit.int k z)) = id := rfl
  rw [this, List.map_id]
theorem table_flat {k : IntKind} {n : Nat} {e : TypeId} {fuel : Nat} {cs : List Value} {x : DataW H × List MemPlace} (ht : P.underlying t = some (.array n e)) (he : P.underlying e = some (.int k)) (hc : P.cellsOf e = 1) (hC : P.cellsOf t = n)
    (h : DataW.trod enc P w base spare held fuel t cs = some x) : cs = (lits x.1).map (Value.int k) := by
  obtain ⟨ns, _, h2, _, h4⟩ := trod_array_ints ht he hc hC h
  rw [h4, lits_ints, h2]
theorem chunks {α : Type} {m : Nat} : ∀ (n : Nat) (cs : List α) (g : Nat → List α), cs.length = n * m → (∀ i, i < n → (cs.drop (i * m)).take m = g i) → cs = (List.range n).flatMap g := by
  intro n
  induction n with
  | zero =>
    intro cs g hl _
    rw [Nat.zero_mul] at hl
    rw [List.length_eq_zero_iff.mp hl]
    rfl
  | succ n ih =>
    intro cs g hl hg
    have h0 := hg 0 (Nat.succ_pos n)
    rw [Nat.zero_mul, List.drop_zero] at h0
    have h1 := ih (cs.drop m) (fun i => g (i + 1)) (by rw [List.length_drop, hl, Nat.succ_mul]; omega) (fun i hi => by
      have := hg (i + 1) (by omega)
      rw [List.drop_drop, ← this, Nat.succ_mul, Nat.add_comm])
    rw [List.range_succ_eq_map, List.flatMap_cons, ← h0, List.flatMap_map, ← h1, List.take_append_drop]
theorem table_rows {k : IntKind} {n m : Nat} {e1 e : TypeId} {fuel : Nat} {cs : List Value} {x : DataW H × List MemPlace} (ht : P.underlying t = some (.array n e1)) (h1 : P.underlying e1 = some (.array m e)) (he : P.underlying e = some (.int k)) (hc : P.cellsOf e = 1) (hc1 : P.cellsOf e1 = m) (hC : P.cellsOf t = n * m)
    (h : DataW.trod enc P w base spare held fuel t cs = some x) : cs = (lits2 x.1).map (Value.int k) := by
  obtain ⟨xs, q, rfl, rfl, hlen, hx, hel⟩ := DataW.trod_array ht h
  have key : cs = (List.range n).flatMap fun i => (lits ((xs.map (·.1)).getD i (.agg []))).map (Value.int k) := by
    refine chunks (m := m) n cs _ (by rw [← hC]; exact hlen) (fun i hi => ?_)
    have hi2 : i < xs.length := by rw [hx]; exact hi
    have := hel i hi
    rw [hc1, List.getElem?_eq_getElem hi2] at this
    have h3 := table_flat (k := k) h1 he hc hc1 this
    rw [List.getD_eq_getElem?_getD, List.getElem?_map, List.getElem?_eq_getElem hi2]
    exact h3
  rw [key]
  unfold lits2
  simp only [List.map_flatMap]
  have e2 : xs.map (·.1) = (List.range n).map fun i => (xs.map (·.1)).getD i (.agg []) := by
    apply List.ext_getElem?
    intro i
    by_cases hi : i < n
    · have hi2 : i < xs.length := by rw [hx]; exact hi
      simp [List.getElem?_eq_getElem hi2, hi]
    · simp [hi, List.getElem?_eq_none (show xs.length ≤ i by rw [hx]; omega)]
  conv => rhs; rw [e2]
  rw [List.flatMap_map]
theorem cell_of_table {k : IntKind} {L : List Int} {cs : Array Value} (h : cs.toList = L.map (Value.int k)) (i : Nat) (hi : i < L.length) : cs[i]? = some (.int k (L.getD i 0)) := by
  rw [← Array.getElem?_toList, h, List.getElem?_map, List.getD_eq_getElem?_getD, List.getElem?_eq_getElem hi]
  rfl
end
end Go.Proofs.YtfpnglgipchjhaaDoor
namespace Go.Proofs.YtfpnglgipchjhaaDoor.PR
open Go.ChangeShapes Go.WideShapes Go.ChangeAt Go.RowKit
theorem gNext : Tryd.prog.globalNamed "pointillist/dec.next" = some 1 := by kernel_rfl
theorem tNext : (Tryd.prog.globals[1]?).map (·.type) = some 85 := by kernel_rfl
theorem gEnds : Tryd.prog.globalNamed "pointillist/dec.ends" = some 2 := by kernel_rfl
theorem tEnds : (Tryd.prog.globals[2]?).map (·.type) = some 86 := by kernel_rfl
theorem of_tables {W : World} (h : laidMetH Tryd.prog [("pointillist/dec.next", Rows.laid_pointillist_dec_next), ("pointillist/dec.ends", Rows.laid_pointillist_dec_ends)] W) : Gl W := by
  rw [MakeChecks.laidMetH_plain _ _ _ (by kernel_rfl)] at h
  obtain ⟨ps, ⟨g0, t0, cs0, f0, p0, q0, hg0, ht0, hv0, hd0, hrest, _⟩, _, _⟩ := h
  obtain ⟨g1, t1, cs1, f1, p1, q1, hg1, ht1, hv1, hd1, _, _⟩ := hrest
  obtain rfl := Option.some.inj (gNext.symm.trans hg0)
  obtain rfl := Option.some.inj (tNext.symm.trans ht0)
  obtain rfl := Option.some.inj (gEnds.symm.trans hg1)
  obtain rfl := Option.some.inj (tEnds.symm.trans ht1)
  have c0 := table_rows (k := .i64) Tryd.underlying85 Tryd.underlying84 Tryd.underlying3 (by kernel_rfl) (by kernel_rfl) (by kernel_rfl) hd0
  have c1 := table_flat (k := .i64) Tryd.underlying86 Tryd.underlying3 (by kernel_rfl) (by kernel_rfl) hd1
  exact ⟨fun i hi => (World.var?_cell hg0 hv0 i).trans (cell_of_table (L := nextL) c0 i hi), fun i hi => (World.var?_cell hg1 hv1 i).trans (cell_of_table (L := endsL) c1 i hi)⟩
theorem Gl.of_decRises {W : World} (h : laidMetH Tryd.prog [("pointillist/dec.next", Rows.laid_pointillist_dec_next), ("pointillist/dec.ends", Rows.laid_pointillist_dec_ends)] W) : Gl W := of_tables h
end Go.Proofs.YtfpnglgipchjhaaDoor.PR
namespace Go.Proofs.YtfpnglgipchjhaaDoor.decRisesR
open Go.ChangeShapes Go.WideShapes Go.ChangeAt Go.RowKit
open Go.ChangeMaps (open_string shut_string)
theorem own : ownKnob Tryd.prog.godebug = none := by kernel_rfl
theorem laidOut : laidOutB Tryd.prog = true := by kernel_rfl
def listed {H : Type} : List (String × DataW H) := [("pointillist/dec.next", Rows.laid_pointillist_dec_next), ("pointillist/dec.ends", Rows.laid_pointillist_dec_ends)]
theorem met (os : Os) (args : Array Value) : laidMetH Tryd.prog listed ((World.doorLaid Tryd.prog 48 os).forCall (fun _ _ => 0) ⟨#[], args, []⟩).memory :=
  laidMetH_of_parts3 (fuel := 8) (laidMet_of_run' 8 (by kernel_rfl) (by kernel_rfl)) (by kernel_rfl) (by kernel_rfl)
set_option maxRecDepth 100000 in
theorem lifted (os : Os) (started : os.Started) (H : Type) (enc : TypeId × Value → H) :
    ReturnsInHanded {} Tryd.checked os 5 .any (fun w args => (Rows.decRisesSpec.pre enc Tryd.prog Tryd.f5 [] false w args ∧ laidMetH Tryd.prog listed w) ∧ sizedMet enc Tryd.prog Tryd.f5 (OpenSpec.ofChange Rows.decRisesSpec) false w args)
      (Rows.decRisesSpec.post enc Tryd.prog Tryd.f5 false true false false) := by
  refine returnsInHanded_of_change_and (C := Tryd.checked) (X := fun w _ => laidMetH Tryd.prog listed w) (fun _ _ _ hh h => h.of_heap hh) own started (by kernel_rfl) Tryd.func5
    (ChangeSpec.witness_shaped (enc := enc) (C := Tryd.checked) (os := os) (X := fun w _ => laidMetH Tryd.prog listed w) false (World.doorLaid Tryd.prog 48 os) #[.agg #[.int .u32 0, .int .u32 0, .int .u32 0, .int .u32 0]] 8 rfl (World.shaped_of_RefB (by kernel_rfl) (by kernel_rfl)) (by kernel_rfl) (by kernel_rfl) (by kernel_rfl) (met os _)) ?_
  intro W base args ds gs before hval0 hW hcnd hsz0 hL _
  clear hcnd
  have hval : ∀ (j : Nat) t v, Tryd.f5.params[j]? = some t → args[j]? = some v → Value.okWide Tryd.prog W .any base t v := hval0
  have hW' := hW
  obtain ⟨p, q, hA0, hV, rfl, hfz, hnd⟩ := hW
  have hA : DataW.TrodAll enc Tryd.prog W 0 (fun _ => true) true Tryd.f5.params.toList args.toList ds p := hA0
  rw [Tryd.params5] at hA hval
  obtain ⟨v0, vs0, d0, ds0, p0, q0, hargs, rfl, rfl, h0, r0⟩ := trodAll_cons hA
  obtain ⟨rfl, rfl, rfl⟩ := trodAll_nil r0
  obtain rfl : args = #[v0] := by cases args; simp_all
  obtain ⟨rfl, rfl⟩ := trodVars_none hV
  have hG : PR.Gl W := PR.Gl.of_decRises hL
  have k0 := h0
  have lt0 : ∀ x ∈ p0, x.block < W.heap.size := by obtain ⟨m, hm⟩ := k0; exact DataW.trod_lt m _ _ _ hm
  obtain ⟨ns0, nl0, rfl, nw0⟩ := open_array_ints (k := .u32) Tryd.underlying33 Tryd.underlying32 (by kernel_rfl) (by kernel_rfl) (hval 0 33 v0 rfl rfl) h0
  obtain ⟨a0_0, a0_1, a0_2, a0_3, rfl⟩ : ∃ a0_0 a0_1 a0_2 a0_3, ns0 = [a0_0, a0_1, a0_2, a0_3] := list_of_length4 nl0
  have w_a0_0 := wf_u32 (nw0 a0_0 (by simp))
  have w_a0_1 := wf_u32 (nw0 a0_1 (by simp))
  have w_a0_2 := wf_u32 (nw0 a0_2 (by simp))
  have w_a0_3 := wf_u32 (nw0 a0_3 (by simp))
  clear nw0 nl0
  simp only [List.map_cons, List.map_nil] at hW'
  clear hA0 hval0 hsz0
  refine (PR.decRises_walk a0_0 a0_1 a0_2 a0_3 W hG w_a0_0 w_a0_1 w_a0_2 w_a0_3).mono fun e W' ⟨he, bel⟩ => ?_
  subst he
  exact ⟨_, rfl, _, _, _, [], _, [], hW', trodAll_mk1 (shut_bool Tryd.underlying4 _), (trodAll_cons_mk (Below.trod laidOut (by kernel_rfl) (of_decide_eq_true (by kernel_rfl)) k0 bel lt0) trodAll_mk0), rfl, bel.frame _, fun h => by cases h⟩
theorem over : Rows.decRisesRow.holds Tryd.pinned (OpenSpec.ofChange Rows.decRisesSpec) :=
  OpenClaim.holds_of_wide 5 Tryd.f5 rfl rfl rfl rfl rfl rfl rfl ⟨rfl, rfl, rfl, rfl, rfl⟩ rfl rfl rfl rfl rfl (by kernel_rfl) Tryd.func5 (by kernel_rfl)
    (of_decide_eq_true (by kernel_rfl)) (by unfold Func.isWrapper; first | (rw [if_pos (by decide +kernel)]; kernel_rfl) | (rw [if_neg (by decide +kernel)]; exact ⟨rfl, rfl⟩))
    (fun os started H enc _ => lifted os started H enc)
theorem carded : Rows.DecRisesCardSaid :=
  Claim7.holds_tied_plain_at .later [] [.data, .data] true (true, "95a1d7fb7ec61b2c49942a01a6c8ef2bac4f2accfb1daa00ec890a19cac31087") false
    over (fun _ h => by cases h) (by kernel_rfl) (fun _ h => by cases h) decRises_row_tie rfl ⟨rfl, rfl⟩ (by kernel_rfl) rfl
    (fun f fn hf hfn => by
      obtain rfl : f = 5 := Option.some.inj ((show Tryd.prog.funcNamed "pointillist/pointillistlaw04.DecRises" = some 5 by kernel_rfl).symm.trans hf) |>.symm
      obtain rfl : fn = Tryd.f5 := (Option.some.inj (Tryd.func5.symm.trans hfn)).symm
      exact ⟨by kernel_rfl, fun j t ht => by
        rw [Tryd.params5] at ht
        have hm : t ∈ [33] := by simpa using Array.mem_of_getElem? ht
        have hall : ([33].all fun u => !Tryd.prog.wantsStandIn u) = true := by kernel_rfl
        exact (show Tryd.prog.wantsStandIn t = false by simpa using List.all_eq_true.1 hall t hm)⟩)
    (by kernel_rfl)
#print axioms carded
end Go.Proofs.YtfpnglgipchjhaaDoor.decRisesR
namespace Go.Proofs.YtfpnglgipchjhaaDoor
theorem decRises_card : Rows.DecRisesCardSaid := decRisesR.carded
end Go.Proofs.YtfpnglgipchjhaaDoor
