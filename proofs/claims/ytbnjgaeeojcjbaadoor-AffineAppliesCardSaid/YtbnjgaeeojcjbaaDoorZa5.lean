/- The row and the card of the law AffineApplies: for every input it answers true, and each argument reads behind the call as before. The listed package-level variables read as the program's text lays them (tied by the given tie). -/
import Derived.ArgAppend
import Derived.Below
import Derived.BigQuiet
import Derived.ChangeOld
import Derived.Deep.AppendLies
import Derived.Deep.CutBlock
import Derived.Deep.DeepCutAuto
import Derived.Deep.Draws
import Derived.Deep.LoopGhost
import Derived.Deep.OwnRows
import Derived.Deep.QuietTactic
import Derived.Deep.RegionHeld3
import Derived.KernelRfl
import Derived.LaidMore
import Derived.Laws.Bits64
import Derived.Laws.BitsAllLaws
import Derived.Laws.BitsLemmas
import Derived.Laws.BytesArg
import Derived.Laws.Externs
import Derived.Laws.IdiomCopy
import Derived.Laws.MakeOwn
import Derived.Laws.OwnMore
import Derived.Laws.Rows
import Derived.Laws.Slices
import Derived.Laws.StructEq
import Derived.Laws.World
import Derived.Lib.AppendStr
import Derived.Lib.ConvBytes
import Derived.Lib.Mul64
import Derived.Maps.AppendAt
import Derived.OpenShut
import Derived.OrdersHeld
import Derived.OwnWalk
import Derived.ProofKit
import Derived.RowKit
import Derived.RowKit3
import Derived.SevenTiedAt
import Derived.ShutString
import Derived.SizedLaws
import Derived.Stop.Joined
import Derived.Tactics
import Derived.WalkKit
import Derived.WalkLawsBesides
import Derived.WideLaws
import Derived.Test.YtbnjgaeeojcjbaaDoorCards
import Derived.Test.YtbnjgaeeojcjbaaDoorProg
import Derived.Test.YtbnjgaeeojcjbaaDoorRows
import Derived.Test.YtbnjgaeeojcjbaaDoorTie
import Derived.Test.YtbnjgaeeojcjbaaDoorZa4
-- What this claim needs of the words, the printed walks and this session's texts (merged and cut by wip/prune.py).
namespace Go.Proofs.YtbnjgaeeojcjbaaDoor.PR
open Go.RowKit Go.Proofs.YtbnjgaeeojcjbaaDoorW.PrintWords Go.Proofs.YtbnjgaeeojcjbaaDoorW.PrintLast Go.Proofs.YtbnjgaeeojcjbaaDoorW.PrintMore
attribute [local go_sem] max2_int min2_int max_two min_two max_three min_three max_four min_four
set_option linter.unusedVariables false
set_option linter.unusedSimpArgs false
attribute [local go_sem high] eqA25
set_option maxHeartbeats 8000000 in
set_option maxRecDepth 100000 in
theorem pointillistlaw08_AffineApplies.calls (k : Nat) (a0_0 : Int) (a0_1 : Int) (a0_2 : Int) (a0_3 : Int) (a0_4 : Int) (a0_5 : Int) (a1_0 : Int) (a1_1 : Int) (w : World) (hG : Gl w) (h : pointillistlaw08_AffineApplies.f k a0_0 a0_1 a0_2 a0_3 a0_4 a0_5 a1_0 a1_1 = some true) :
  Calls Tryd.prog 3 #[.agg #[.int .i64 a0_0, .int .i64 a0_1, .int .i64 a0_2, .int .i64 a0_3, .int .i64 a0_4, .int .i64 a0_5], .agg #[.int .i64 a1_0, .int .i64 a1_1]] w fun e w' => e = .returned (.bool true) ∧ Below w.heap.size w w' := by
 have hu23 := Tryd.underlying23
 have hu25 := Tryd.underlying25
 have HG := Aside0.mk hG
 clear hG
 have HB := Aside0.mk (Below.refl w.heap.size w)
 have H : ((pointillistlaw08_wakes.f k).bind fun t404 => (if t404 = true then ((affine_Apply.f k a0_0 a0_1 a0_2 a0_3 a0_4 a0_5 a1_0 a1_1).bind fun bt405 => ((pointillistref08_Apply.f k a0_0 a0_1 a0_2 a0_3 a0_4 a0_5 a1_0 a1_1).bind fun bt409 => ((affine_Same.f).bind fun bt413 => ((affine_Apply.f k bt413.1 bt413.2.1 bt413.2.2.1 bt413.2.2.2.1 bt413.2.2.2.2.1 bt413.2.2.2.2.2 a1_0 a1_1).bind fun bt419 => (if (bt405.1 == bt409.1 && (bt405.2.1 == bt409.2.1)) = true then (if bt405.2.2 = bt409.2.2 then ((affine_Right.f k a0_0 a0_1 a0_2 a0_3 a0_4 a0_5).bind fun t423 => ((pointillistref08_Right.f a0_0 a0_1 a0_2 a0_3 a0_4 a0_5).bind fun t424 => (if (t423 == t424) = true then (if bt419.2.2 = 0 then (if (bt419.1 == a1_0 && (bt419.2.1 == a1_1)) = true then ((pointillistref08_In.f a1_0).bind fun t425 => (if t425 = true then ((pointillistref08_In.f a1_1).bind fun t426 => (some ((bt419.2.2 == 0) == t426))) else (some ((bt419.2.2 == 0) == false)))) else (some false)) else ((pointillistref08_In.f a1_0).bind fun t427 => (if t427 = true then ((pointillistref08_In.f a1_1).bind fun t428 => (some ((bt419.2.2 == 0) == t428))) else (some ((bt419.2.2 == 0) == false))))) else (some false)))) else (some false)) else (some false)))))) else (some false))) = some true := h
 clear h
 replace H := Option.bind_eq_some_iff.mp H
 obtain ⟨t404, A30, H⟩ := H
 replace H : (if t404 = true then ((affine_Apply.f k a0_0 a0_1 a0_2 a0_3 a0_4 a0_5 a1_0 a1_1).bind fun bt405 => ((pointillistref08_Apply.f k a0_0 a0_1 a0_2 a0_3 a0_4 a0_5 a1_0 a1_1).bind fun bt409 => ((affine_Same.f).bind fun bt413 => ((affine_Apply.f k bt413.1 bt413.2.1 bt413.2.2.1 bt413.2.2.2.1 bt413.2.2.2.2.1 bt413.2.2.2.2.2 a1_0 a1_1).bind fun bt419 => (if (bt405.1 == bt409.1 && (bt405.2.1 == bt409.2.1)) = true then (if bt405.2.2 = bt409.2.2 then ((affine_Right.f k a0_0 a0_1 a0_2 a0_3 a0_4 a0_5).bind fun t423 => ((pointillistref08_Right.f a0_0 a0_1 a0_2 a0_3 a0_4 a0_5).bind fun t424 => (if (t423 == t424) = true then (if bt419.2.2 = 0 then (if (bt419.1 == a1_0 && (bt419.2.1 == a1_1)) = true then ((pointillistref08_In.f a1_0).bind fun t425 => (if t425 = true then ((pointillistref08_In.f a1_1).bind fun t426 => (some ((bt419.2.2 == 0) == t426))) else (some ((bt419.2.2 == 0) == false)))) else (some false)) else ((pointillistref08_In.f a1_0).bind fun t427 => (if t427 = true then ((pointillistref08_In.f a1_1).bind fun t428 => (some ((bt419.2.2 == 0) == t428))) else (some ((bt419.2.2 == 0) == false))))) else (some false)))) else (some false)) else (some false)))))) else (some false)) = some true := H
 have A3 := Aside0.mk A30
 clear A30
 by_cases c4 : t404 = true
 ·
  subst c4
  have H1 : ((affine_Apply.f k a0_0 a0_1 a0_2 a0_3 a0_4 a0_5 a1_0 a1_1).bind fun bt405 => ((pointillistref08_Apply.f k a0_0 a0_1 a0_2 a0_3 a0_4 a0_5 a1_0 a1_1).bind fun bt409 => ((affine_Same.f).bind fun bt413 => ((affine_Apply.f k bt413.1 bt413.2.1 bt413.2.2.1 bt413.2.2.2.1 bt413.2.2.2.2.1 bt413.2.2.2.2.2 a1_0 a1_1).bind fun bt419 => (if (bt405.1 == bt409.1 && (bt405.2.1 == bt409.2.1)) = true then (if bt405.2.2 = bt409.2.2 then ((affine_Right.f k a0_0 a0_1 a0_2 a0_3 a0_4 a0_5).bind fun t423 => ((pointillistref08_Right.f a0_0 a0_1 a0_2 a0_3 a0_4 a0_5).bind fun t424 => (if (t423 == t424) = true then (if bt419.2.2 = 0 then (if (bt419.1 == a1_0 && (bt419.2.1 == a1_1)) = true then ((pointillistref08_In.f a1_0).bind fun t425 => (if t425 = true then ((pointillistref08_In.f a1_1).bind fun t426 => (some ((bt419.2.2 == 0) == t426))) else (some ((bt419.2.2 == 0) == false)))) else (some false)) else ((pointillistref08_In.f a1_0).bind fun t427 => (if t427 = true then ((pointillistref08_In.f a1_1).bind fun t428 => (some ((bt419.2.2 == 0) == t428))) else (some ((bt419.2.2 == 0) == false))))) else (some false)))) else (some false)) else (some false)))))) = some true := by rw [if_pos rfl] at H; exact H
  clear H
  have H := H1
  clear H1
  replace H := Option.bind_eq_some_iff.mp H
  obtain ⟨⟨t405, t406, t407⟩, A50, H⟩ := H
  replace H : ((pointillistref08_Apply.f k a0_0 a0_1 a0_2 a0_3 a0_4 a0_5 a1_0 a1_1).bind fun bt409 => ((affine_Same.f).bind fun bt413 => ((affine_Apply.f k bt413.1 bt413.2.1 bt413.2.2.1 bt413.2.2.2.1 bt413.2.2.2.2.1 bt413.2.2.2.2.2 a1_0 a1_1).bind fun bt419 => (if (t405 == bt409.1 && (t406 == bt409.2.1)) = true then (if t407 = bt409.2.2 then ((affine_Right.f k a0_0 a0_1 a0_2 a0_3 a0_4 a0_5).bind fun t423 => ((pointillistref08_Right.f a0_0 a0_1 a0_2 a0_3 a0_4 a0_5).bind fun t424 => (if (t423 == t424) = true then (if bt419.2.2 = 0 then (if (bt419.1 == a1_0 && (bt419.2.1 == a1_1)) = true then ((pointillistref08_In.f a1_0).bind fun t425 => (if t425 = true then ((pointillistref08_In.f a1_1).bind fun t426 => (some ((bt419.2.2 == 0) == t426))) else (some ((bt419.2.2 == 0) == false)))) else (some false)) else ((pointillistref08_In.f a1_0).bind fun t427 => (if t427 = true then ((pointillistref08_In.f a1_1).bind fun t428 => (some ((bt419.2.2 == 0) == t428))) else (some ((bt419.2.2 == 0) == false))))) else (some false)))) else (some false)) else (some false))))) = some true := H
  have A5 := Aside0.mk A50
  clear A50
  replace H := Option.bind_eq_some_iff.mp H
  obtain ⟨⟨t409, t410, t411⟩, A60, H⟩ := H
  replace H : ((affine_Same.f).bind fun bt413 => ((affine_Apply.f k bt413.1 bt413.2.1 bt413.2.2.1 bt413.2.2.2.1 bt413.2.2.2.2.1 bt413.2.2.2.2.2 a1_0 a1_1).bind fun bt419 => (if (t405 == t409 && (t406 == t410)) = true then (if t407 = t411 then ((affine_Right.f k a0_0 a0_1 a0_2 a0_3 a0_4 a0_5).bind fun t423 => ((pointillistref08_Right.f a0_0 a0_1 a0_2 a0_3 a0_4 a0_5).bind fun t424 => (if (t423 == t424) = true then (if bt419.2.2 = 0 then (if (bt419.1 == a1_0 && (bt419.2.1 == a1_1)) = true then ((pointillistref08_In.f a1_0).bind fun t425 => (if t425 = true then ((pointillistref08_In.f a1_1).bind fun t426 => (some ((bt419.2.2 == 0) == t426))) else (some ((bt419.2.2 == 0) == false)))) else (some false)) else ((pointillistref08_In.f a1_0).bind fun t427 => (if t427 = true then ((pointillistref08_In.f a1_1).bind fun t428 => (some ((bt419.2.2 == 0) == t428))) else (some ((bt419.2.2 == 0) == false))))) else (some false)))) else (some false)) else (some false)))) = some true := H
  have A6 := Aside0.mk A60
  clear A60
  replace H := Option.bind_eq_some_iff.mp H
  obtain ⟨⟨t413, t414, t415, t416, t417, t418⟩, A70, H⟩ := H
  replace H : ((affine_Apply.f k t413 t414 t415 t416 t417 t418 a1_0 a1_1).bind fun bt419 => (if (t405 == t409 && (t406 == t410)) = true then (if t407 = t411 then ((affine_Right.f k a0_0 a0_1 a0_2 a0_3 a0_4 a0_5).bind fun t423 => ((pointillistref08_Right.f a0_0 a0_1 a0_2 a0_3 a0_4 a0_5).bind fun t424 => (if (t423 == t424) = true then (if bt419.2.2 = 0 then (if (bt419.1 == a1_0 && (bt419.2.1 == a1_1)) = true then ((pointillistref08_In.f a1_0).bind fun t425 => (if t425 = true then ((pointillistref08_In.f a1_1).bind fun t426 => (some ((bt419.2.2 == 0) == t426))) else (some ((bt419.2.2 == 0) == false)))) else (some false)) else ((pointillistref08_In.f a1_0).bind fun t427 => (if t427 = true then ((pointillistref08_In.f a1_1).bind fun t428 => (some ((bt419.2.2 == 0) == t428))) else (some ((bt419.2.2 == 0) == false))))) else (some false)))) else (some false)) else (some false))) = some true := H
  have A7 := Aside0.mk A70
  clear A70
  replace H := Option.bind_eq_some_iff.mp H
  obtain ⟨⟨t419, t420, t421⟩, A80, H⟩ := H
  replace H : (if (t405 == t409 && (t406 == t410)) = true then (if t407 = t411 then ((affine_Right.f k a0_0 a0_1 a0_2 a0_3 a0_4 a0_5).bind fun t423 => ((pointillistref08_Right.f a0_0 a0_1 a0_2 a0_3 a0_4 a0_5).bind fun t424 => (if (t423 == t424) = true then (if t421 = 0 then (if (t419 == a1_0 && (t420 == a1_1)) = true then ((pointillistref08_In.f a1_0).bind fun t425 => (if t425 = true then ((pointillistref08_In.f a1_1).bind fun t426 => (some ((t421 == 0) == t426))) else (some ((t421 == 0) == false)))) else (some false)) else ((pointillistref08_In.f a1_0).bind fun t427 => (if t427 = true then ((pointillistref08_In.f a1_1).bind fun t428 => (some ((t421 == 0) == t428))) else (some ((t421 == 0) == false))))) else (some false)))) else (some false)) else (some false)) = some true := H
  have A8 := Aside0.mk A80
  clear A80
  by_cases c9 : (t405 == t409 && (t406 == t410)) = true
  ·
   rw [if_pos c9] at H
   have c9b0 : (t405 == t409 && (t406 == t410)) = true := c9
   (try (have c9b1 : decide (t405 = t409 && (t406 == t410)) = true := by simpa using c9))
   (try (have c9b2 : (t405 == t409 && (t406 == t410)) = true := by simpa using c9))
   clear c9
   by_cases c10 : t407 = t411
   ·
    rw [if_pos c10] at H
    have c10b0 : (t407 == t411) = true := beq_iff_eq.mpr c10
    have c10b1 : (t407 != t411) = false := bne_eq_false_iff_eq.mpr c10
    clear c10
    replace H := Option.bind_eq_some_iff.mp H
    obtain ⟨t423, A110, H⟩ := H
    replace H : ((pointillistref08_Right.f a0_0 a0_1 a0_2 a0_3 a0_4 a0_5).bind fun t424 => (if (t423 == t424) = true then (if t421 = 0 then (if (t419 == a1_0 && (t420 == a1_1)) = true then ((pointillistref08_In.f a1_0).bind fun t425 => (if t425 = true then ((pointillistref08_In.f a1_1).bind fun t426 => (some ((t421 == 0) == t426))) else (some ((t421 == 0) == false)))) else (some false)) else ((pointillistref08_In.f a1_0).bind fun t427 => (if t427 = true then ((pointillistref08_In.f a1_1).bind fun t428 => (some ((t421 == 0) == t428))) else (some ((t421 == 0) == false))))) else (some false))) = some true := H
    have A11 := Aside0.mk A110
    clear A110
    replace H := Option.bind_eq_some_iff.mp H
    obtain ⟨t424, A120, H⟩ := H
    replace H : (if (t423 == t424) = true then (if t421 = 0 then (if (t419 == a1_0 && (t420 == a1_1)) = true then ((pointillistref08_In.f a1_0).bind fun t425 => (if t425 = true then ((pointillistref08_In.f a1_1).bind fun t426 => (some ((t421 == 0) == t426))) else (some ((t421 == 0) == false)))) else (some false)) else ((pointillistref08_In.f a1_0).bind fun t427 => (if t427 = true then ((pointillistref08_In.f a1_1).bind fun t428 => (some ((t421 == 0) == t428))) else (some ((t421 == 0) == false))))) else (some false)) = some true := H
    have A12 := Aside0.mk A120
    clear A120
    by_cases c13 : (t423 == t424) = true
    ·
     rw [if_pos c13] at H
     have c13b0 : (t423 == t424) = true := c13
     (try (have c13b1 : decide (t423 = t424) = true := by simpa using c13))
     (try (have c13b2 : (t423 == t424) = true := by simpa using c13))
     clear c13
     by_cases c14 : t421 = 0
     ·
      rw [if_pos c14] at H
      have c14b0 : (t421 == 0) = true := beq_iff_eq.mpr c14
      have c14b1 : (t421 != 0) = false := bne_eq_false_iff_eq.mpr c14
      clear c14
      by_cases c15 : (t419 == a1_0 && (t420 == a1_1)) = true
      ·
       rw [if_pos c15] at H
       have c15b0 : (t419 == a1_0 && (t420 == a1_1)) = true := c15
       (try (have c15b1 : decide (t419 = a1_0 && (t420 == a1_1)) = true := by simpa using c15))
       (try (have c15b2 : (t419 == a1_0 && (t420 == a1_1)) = true := by simpa using c15))
       clear c15
       replace H := Option.bind_eq_some_iff.mp H
       obtain ⟨t425, A160, H⟩ := H
       replace H : (if t425 = true then ((pointillistref08_In.f a1_1).bind fun t426 => (some ((t421 == 0) == t426))) else (some ((t421 == 0) == false))) = some true := H
       have A16 := Aside0.mk A160
       clear A160
       by_cases c17 : t425 = true
       ·
        subst c17
        have H1 : ((pointillistref08_In.f a1_1).bind fun t426 => (some ((t421 == 0) == t426))) = some true := by rw [if_pos rfl] at H; exact H
        clear H
        have H := H1
        clear H1
        replace H := Option.bind_eq_some_iff.mp H
        obtain ⟨t426, A180, H⟩ := H
        replace H : (some ((t421 == 0) == t426)) = some true := H
        have A18 := Aside0.mk A180
        clear A180
        have HE_ := Aside0.mk (Option.some.inj H)
        clear H
        go_enter Tryd.func3, Tryd.ntmps3
        try go_wp2_with (first | ((with_reducible refine gate_dst (N := 2) rfl ?_); refine box_event ?hg (N := 2) ?hd (cs := #[.int .i64 a0_0, .int .i64 a0_1, .int .i64 a0_2, .int .i64 a0_3, .int .i64 a0_4, .int .i64 a0_5]) (t := 23) ?hr ?_; (case hd => rfl); (case hg => rfl); (case hr => first | (go_simp; done) | (go_simp; rfl)); intro gb402 hg w19 hbox hb; have n0_ := Aside0.mk (below_step (wq HB.out) hb); have n1_ := Aside0.mk (hbox); have n2_ := Aside0.mk ((by rw [hg]; exact (below_size (wq HB.out)) : w.heap.size ≤ gb402)); have n3_ := n2_; clear HB; have HB := n0_; have BK402 := n1_; have GW402 := n2_; have GE402 := n3_; clear n0_ n1_ n2_ n3_ hb hbox hg) | ((with_reducible refine gate_dst (N := 3) rfl ?_); refine box_event ?hg (N := 3) ?hd (cs := #[.int .i64 a1_0, .int .i64 a1_1]) (t := 25) ?hr ?_; (case hd => rfl); (case hg => rfl); (case hr => first | (go_simp; done) | (go_simp; rfl)); intro gb403 hg w20 hbox hb; have n0_ := Aside0.mk (blk_below (bq BK402.out) hb); have n1_ := Aside0.mk (below_step (wq HB.out) hb); have n2_ := Aside0.mk (hbox); have n3_ := Aside0.mk ((by rw [hg]; exact (below_size (wq HB.out)) : w.heap.size ≤ gb403)); have n4_ := n3_; have n5_ := Aside0.mk ((by rw [hg]; exact Nat.ne_of_lt (blk_lt (bq BK402.out)) : gb402 ≠ gb403)); have n6_ := Aside0.mk ((by rw [hg]; exact Nat.ne_of_gt (blk_lt (bq BK402.out)) : gb403 ≠ gb402)); clear BK402 HB; have BK402 := n0_; have HB := n1_; have BK403 := n2_; have GW403 := n3_; have GE403 := n4_; have NB402_403 := n5_; have NB403_402 := n6_; clear n0_ n1_ n2_ n3_ n4_ n5_ n6_ hb hbox hg) | ((with_reducible refine gate_callee (f := 8) rfl ?_); refine goesL_ (some 11) rfl rfl Tryd.func8 (by kernel_rfl) rfl #[] rfl (by (try simp only [List.map_toArray, List.map_cons, List.map_nil]); first | done | rfl | (simp only [List.length_drop, List.length_take]; rfl)) ?_; (with_reducible refine (pointillistlaw08_wakes.calls k  true _ ?side1 A3.out).mono ?_); (case side1 => exact Gl.below HG.out (wq HB.out)); rintro e w21 ⟨rfl, hb⟩; refine ⟨_, rfl, ?_⟩; have n0_ := Aside0.mk (blk_below (bq BK402.out) hb); have n1_ := Aside0.mk (blk_below (bq BK403.out) hb); have n2_ := Aside0.mk (below_step (wq HB.out) hb); clear BK402 BK403 HB; have BK402 := n0_; have BK403 := n1_; have HB := n2_; clear n0_ n1_ n2_; (try clear hb); (try clear hb2); (try clear hk); (try clear hi); have hnb22 := NB402_403.out; have hnc22 := NB403_402.out; have hcz23_0 : w21.cell? ⟨gb402, 0, none⟩ = some (.int .i64 a0_0) := (blk_cell BK402.out 0).trans rfl; have hcz23_1 : w21.cell? ⟨gb402, 1, none⟩ = some (.int .i64 a0_1) := (blk_cell BK402.out 1).trans rfl; have hcz23_2 : w21.cell? ⟨gb402, 2, none⟩ = some (.int .i64 a0_2) := (blk_cell BK402.out 2).trans rfl; have hcz23_3 : w21.cell? ⟨gb402, 3, none⟩ = some (.int .i64 a0_3) := (blk_cell BK402.out 3).trans rfl; have hcz23_4 : w21.cell? ⟨gb402, 4, none⟩ = some (.int .i64 a0_4) := (blk_cell BK402.out 4).trans rfl; have hcz23_5 : w21.cell? ⟨gb402, 5, none⟩ = some (.int .i64 a0_5) := (blk_cell BK402.out 5).trans rfl; have hfz23_0 := blk_frozen BK402.out 0; have hfz23_1 := blk_frozen BK402.out 1; have hfz23_2 := blk_frozen BK402.out 2; have hfz23_3 := blk_frozen BK402.out 3; have hfz23_4 := blk_frozen BK402.out 4; have hfz23_5 := blk_frozen BK402.out 5; have hcz24_0 : w21.cell? ⟨gb403, 0, none⟩ = some (.int .i64 a1_0) := (blk_cell BK403.out 0).trans rfl; have hcz24_1 : w21.cell? ⟨gb403, 1, none⟩ = some (.int .i64 a1_1) := (blk_cell BK403.out 1).trans rfl; have hfz24_0 := blk_frozen BK403.out 0; have hfz24_1 := blk_frozen BK403.out 1) | ((with_reducible refine gate_callee (f := 9) rfl ?_); refine goesL_ (some 16) rfl rfl Tryd.func9 (by kernel_rfl) rfl #[.agg #[.int .i64 a0_0, .int .i64 a0_1, .int .i64 a0_2, .int .i64 a0_3, .int .i64 a0_4, .int .i64 a0_5], .agg #[.int .i64 a1_0, .int .i64 a1_1]] rfl (by (try simp only [List.map_toArray, List.map_cons, List.map_nil]); first | done | rfl | (simp only [List.length_drop, List.length_take]; rfl)) ?_; (with_reducible refine (affine_Apply.calls k a0_0 a0_1 a0_2 a0_3 a0_4 a0_5 a1_0 a1_1 t405 t406 t407 _ ?side1 A5.out).mono ?_); (case side1 => exact Gl.below HG.out (wq HB.out)); rintro e w25 ⟨rfl, hb⟩; refine ⟨_, rfl, ?_⟩; have n0_ := Aside0.mk (blk_below (bq BK402.out) hb); have n1_ := Aside0.mk (blk_below (bq BK403.out) hb); have n2_ := Aside0.mk (below_step (wq HB.out) hb); clear BK402 BK403 HB; have BK402 := n0_; have BK403 := n1_; have HB := n2_; clear n0_ n1_ n2_; (try clear hb); (try clear hb2); (try clear hk); (try clear hi)) | ((with_reducible refine gate_dst (N := 5) rfl ?_); refine box_event ?hg (N := 5) ?hd (cs := #[.int .i64 0, .int .i64 0]) (t := 25) ?hr ?_; (case hd => rfl); (case hg => rfl); (case hr => first | (go_simp; done) | (go_simp; rfl)); intro gb408 hg w26 hbox hb; have n0_ := Aside0.mk (blk_below (bq BK402.out) hb); have n1_ := Aside0.mk (blk_below (bq BK403.out) hb); have n2_ := Aside0.mk (below_step (wq HB.out) hb); have n3_ := Aside0.mk (hbox); have n4_ := Aside0.mk ((by rw [hg]; exact (below_size (wq HB.out)) : w.heap.size ≤ gb408)); have n5_ := n4_; have n6_ := Aside0.mk ((by rw [hg]; exact Nat.ne_of_lt (blk_lt (bq BK402.out)) : gb402 ≠ gb408)); have n7_ := Aside0.mk ((by rw [hg]; exact Nat.ne_of_gt (blk_lt (bq BK402.out)) : gb408 ≠ gb402)); have n8_ := Aside0.mk ((by rw [hg]; exact Nat.ne_of_lt (blk_lt (bq BK403.out)) : gb403 ≠ gb408)); have n9_ := Aside0.mk ((by rw [hg]; exact Nat.ne_of_gt (blk_lt (bq BK403.out)) : gb408 ≠ gb403)); clear BK402 BK403 HB; have BK402 := n0_; have BK403 := n1_; have HB := n2_; have BK408 := n3_; have GW408 := n4_; have GE408 := n5_; have NB402_408 := n6_; have NB408_402 := n7_; have NB403_408 := n8_; have NB408_403 := n9_; clear n0_ n1_ n2_ n3_ n4_ n5_ n6_ n7_ n8_ n9_ hb hbox hg; have hnb27 := NB408_402.out; have hnc27 := NB402_408.out; have hnb28 := NB408_403.out; have hnc28 := NB403_408.out; have hcz29_0 : w26.cell? ⟨gb408, 0, none⟩ = some (.int .i64 0) := (blk_cell BK408.out 0).trans rfl; have hcz29_1 : w26.cell? ⟨gb408, 1, none⟩ = some (.int .i64 0) := (blk_cell BK408.out 1).trans rfl; have hfz29_0 := blk_frozen BK408.out 0; have hfz29_1 := blk_frozen BK408.out 1; have hcz30_0 : w26.cell? ⟨gb402, 0, none⟩ = some (.int .i64 a0_0) := (blk_cell BK402.out 0).trans rfl; have hcz30_1 : w26.cell? ⟨gb402, 1, none⟩ = some (.int .i64 a0_1) := (blk_cell BK402.out 1).trans rfl; have hcz30_2 : w26.cell? ⟨gb402, 2, none⟩ = some (.int .i64 a0_2) := (blk_cell BK402.out 2).trans rfl; have hcz30_3 : w26.cell? ⟨gb402, 3, none⟩ = some (.int .i64 a0_3) := (blk_cell BK402.out 3).trans rfl; have hcz30_4 : w26.cell? ⟨gb402, 4, none⟩ = some (.int .i64 a0_4) := (blk_cell BK402.out 4).trans rfl; have hcz30_5 : w26.cell? ⟨gb402, 5, none⟩ = some (.int .i64 a0_5) := (blk_cell BK402.out 5).trans rfl; have hfz30_0 := blk_frozen BK402.out 0; have hfz30_1 := blk_frozen BK402.out 1; have hfz30_2 := blk_frozen BK402.out 2; have hfz30_3 := blk_frozen BK402.out 3; have hfz30_4 := blk_frozen BK402.out 4; have hfz30_5 := blk_frozen BK402.out 5; have hcz31_0 : w26.cell? ⟨gb403, 0, none⟩ = some (.int .i64 a1_0) := (blk_cell BK403.out 0).trans rfl; have hcz31_1 : w26.cell? ⟨gb403, 1, none⟩ = some (.int .i64 a1_1) := (blk_cell BK403.out 1).trans rfl; have hfz31_0 := blk_frozen BK403.out 0; have hfz31_1 := blk_frozen BK403.out 1) | ((with_reducible refine gate_callee (f := 10) rfl ?_); refine goesL_ (some 22) rfl rfl Tryd.func10 (by kernel_rfl) rfl #[.agg #[.int .i64 a0_0, .int .i64 a0_1, .int .i64 a0_2, .int .i64 a0_3, .int .i64 a0_4, .int .i64 a0_5], .agg #[.int .i64 a1_0, .int .i64 a1_1]] rfl (by (try simp only [List.map_toArray, List.map_cons, List.map_nil]); first | done | rfl | (simp only [List.length_drop, List.length_take]; rfl)) ?_; (with_reducible refine (pointillistref08_Apply.calls k a0_0 a0_1 a0_2 a0_3 a0_4 a0_5 a1_0 a1_1 t409 t410 t411 _ A6.out).mono ?_); rintro e w32 ⟨rfl, hb⟩; refine ⟨_, rfl, ?_⟩; have n0_ := Aside0.mk (blk_below (g := gb402) (o := .cells #[.int .i64 a0_0, .int .i64 a0_1, .int .i64 a0_2, .int .i64 a0_3, .int .i64 a0_4, .int .i64 a0_5] 23 (0, 0)) (by refine bq ?_; refine blk_far ?_ NB402_408.out _; refine bq ?_; refine blk_far ?_ NB402_408.out _; refine bq ?_; exact BK402.out) hb); have n1_ := Aside0.mk (blk_below (g := gb403) (o := .cells #[.int .i64 a1_0, .int .i64 a1_1] 25 (0, 0)) (by refine bq ?_; refine blk_far ?_ NB403_408.out _; refine bq ?_; refine blk_far ?_ NB403_408.out _; refine bq ?_; exact BK403.out) hb); have n2_ := Aside0.mk (blk_below (g := gb408) (o := .cells #[.int .i64 t405, .int .i64 t406] 25 (0, 0)) (by refine bq ?_; refine blk_put (cs := #[.int .i64 t405, .int .i64 0]) ?_ 1 _ rfl; refine bq ?_; refine blk_put (cs := #[.int .i64 0, .int .i64 0]) ?_ 0 _ rfl; refine bq ?_; exact BK408.out) hb); have n3_ := Aside0.mk (below_step (wq HB.out) hb); clear BK402 BK403 BK408 HB; have BK402 := n0_; have BK403 := n1_; have BK408 := n2_; have HB := n3_; clear n0_ n1_ n2_ n3_; (try clear hb); (try clear hb2); (try clear hk); (try clear hi)) | ((with_reducible refine gate_dst (N := 7) rfl ?_); refine box_event ?hg (N := 7) ?hd (cs := #[.int .i64 0, .int .i64 0]) (t := 25) ?hr ?_; (case hd => rfl); (case hg => rfl); (case hr => first | (go_simp; done) | (go_simp; rfl)); intro gb412 hg w33 hbox hb; have n0_ := Aside0.mk (blk_below (bq BK402.out) hb); have n1_ := Aside0.mk (blk_below (bq BK403.out) hb); have n2_ := Aside0.mk (blk_below (bq BK408.out) hb); have n3_ := Aside0.mk (below_step (wq HB.out) hb); have n4_ := Aside0.mk (hbox); have n5_ := Aside0.mk ((by rw [hg]; exact (below_size (wq HB.out)) : w.heap.size ≤ gb412)); have n6_ := n5_; have n7_ := Aside0.mk ((by rw [hg]; exact Nat.ne_of_lt (blk_lt (bq BK402.out)) : gb402 ≠ gb412)); have n8_ := Aside0.mk ((by rw [hg]; exact Nat.ne_of_gt (blk_lt (bq BK402.out)) : gb412 ≠ gb402)); have n9_ := Aside0.mk ((by rw [hg]; exact Nat.ne_of_lt (blk_lt (bq BK403.out)) : gb403 ≠ gb412)); have n10_ := Aside0.mk ((by rw [hg]; exact Nat.ne_of_gt (blk_lt (bq BK403.out)) : gb412 ≠ gb403)); have n11_ := Aside0.mk ((by rw [hg]; exact Nat.ne_of_lt (blk_lt (bq BK408.out)) : gb408 ≠ gb412)); have n12_ := Aside0.mk ((by rw [hg]; exact Nat.ne_of_gt (blk_lt (bq BK408.out)) : gb412 ≠ gb408)); clear BK402 BK403 BK408 HB; have BK402 := n0_; have BK403 := n1_; have BK408 := n2_; have HB := n3_; have BK412 := n4_; have GW412 := n5_; have GE412 := n6_; have NB402_412 := n7_; have NB412_402 := n8_; have NB403_412 := n9_; have NB412_403 := n10_; have NB408_412 := n11_; have NB412_408 := n12_; clear n0_ n1_ n2_ n3_ n4_ n5_ n6_ n7_ n8_ n9_ n10_ n11_ n12_ hb hbox hg; have hnb34 := NB412_402.out; have hnc34 := NB402_412.out; have hnb35 := NB412_403.out; have hnc35 := NB403_412.out; have hnb36 := NB412_408.out; have hnc36 := NB408_412.out; have hcz37_0 : w33.cell? ⟨gb412, 0, none⟩ = some (.int .i64 0) := (blk_cell BK412.out 0).trans rfl; have hcz37_1 : w33.cell? ⟨gb412, 1, none⟩ = some (.int .i64 0) := (blk_cell BK412.out 1).trans rfl; have hfz37_0 := blk_frozen BK412.out 0; have hfz37_1 := blk_frozen BK412.out 1))
        have n0_ : Aside0 (((w33.setCell ⟨gb412, 0, none⟩ (.int .i64 t409)).setCell ⟨gb412, 1, none⟩ (.int .i64 t410)).heap[gb402]? = some (.cells #[.int .i64 a0_0, .int .i64 a0_1, .int .i64 a0_2, .int .i64 a0_3, .int .i64 a0_4, .int .i64 a0_5] 23 (0, 0))) := ⟨by refine bq ?_; refine blk_far ?_ NB402_412.out _; refine bq ?_; refine blk_far ?_ NB402_412.out _; refine bq ?_; exact BK402.out⟩
        have n1_ : Aside0 (((w33.setCell ⟨gb412, 0, none⟩ (.int .i64 t409)).setCell ⟨gb412, 1, none⟩ (.int .i64 t410)).heap[gb403]? = some (.cells #[.int .i64 a1_0, .int .i64 a1_1] 25 (0, 0))) := ⟨by refine bq ?_; refine blk_far ?_ NB403_412.out _; refine bq ?_; refine blk_far ?_ NB403_412.out _; refine bq ?_; exact BK403.out⟩
        have n2_ : Aside0 (((w33.setCell ⟨gb412, 0, none⟩ (.int .i64 t409)).setCell ⟨gb412, 1, none⟩ (.int .i64 t410)).heap[gb408]? = some (.cells #[.int .i64 t405, .int .i64 t406] 25 (0, 0))) := ⟨by refine bq ?_; refine blk_far ?_ NB408_412.out _; refine bq ?_; refine blk_far ?_ NB408_412.out _; refine bq ?_; exact BK408.out⟩
        have n3_ : Aside0 (((w33.setCell ⟨gb412, 0, none⟩ (.int .i64 t409)).setCell ⟨gb412, 1, none⟩ (.int .i64 t410)).heap[gb412]? = some (.cells #[.int .i64 t409, .int .i64 t410] 25 (0, 0))) := ⟨by refine bq ?_; refine blk_put (cs := #[.int .i64 t409, .int .i64 0]) ?_ 1 _ rfl; refine bq ?_; refine blk_put (cs := #[.int .i64 0, .int .i64 0]) ?_ 0 _ rfl; refine bq ?_; exact BK412.out⟩
        have n4_ : Aside0 (Below w.heap.size w ((w33.setCell ⟨gb412, 0, none⟩ (.int .i64 t409)).setCell ⟨gb412, 1, none⟩ (.int .i64 t410))) := ⟨by exact wq HB.out⟩
        (try clear BK402)
        (try clear BK403)
        (try clear BK408)
        (try clear BK412)
        (try clear HB)
        generalize ((w33.setCell ⟨gb412, 0, none⟩ (.int .i64 t409)).setCell ⟨gb412, 1, none⟩ (.int .i64 t410)) = w38 at n0_ n1_ n2_ n3_ n4_ ⊢
        have BK402 := n0_; have BK403 := n1_; have BK408 := n2_; have BK412 := n3_; have HB := n4_; clear n0_ n1_ n2_ n3_ n4_
        have n0_ := Aside0.mk (blk_drew BK402.out)
        have n1_ := Aside0.mk (blk_drew BK403.out)
        have n2_ := Aside0.mk (blk_drew BK408.out)
        have n3_ := Aside0.mk (blk_drew BK412.out)
        have n4_ := Aside0.mk (below_drew1 HB.out)
        clear BK402 BK403 BK408 BK412; clear HB; have BK402 := n0_; have BK403 := n1_; have BK408 := n2_; have BK412 := n3_; have HB := n4_; clear n0_ n1_ n2_ n3_ n4_
        refine start_ (n := 9) (S := fun w' => w'.cell? ⟨gb403, 0, none⟩ = some (.int .i64 a1_0) ∧ w'.cell? ⟨gb403, 1, none⟩ = some (.int .i64 a1_1)) (ds := []) (bt 0 9) (by kernel_rfl) rfl rfl ⟨(blk_cell BK403.out 0).trans rfl, (blk_cell BK403.out 1).trans rfl⟩ (fun hHeld => ?_); refine with_tabW pointillistlaw08_AffineApplies.tab5 pointillistlaw08_AffineApplies.bits5 (fun HT_ HW_ => ?_)
        generalize w38.drew = w39 at BK402 BK403 BK408 BK412 HB hHeld ⊢
        refine take_ (i := 1) (N := some 27) (v := ?_) (a' := ?_) #[false, true, false, false, false, false, false, false, false] rfl rfl (take_ofW HT_.out HW_.out (by kernel_rfl)) (fun _ _ _ h => h) (Or.inl ⟨by rfl, ?_⟩) hHeld ?_ ?_
        rotate_left
        ·
         rintro w' ⟨s0, s1⟩
         go_simp
         with_reducible rfl
        rotate_left; focus (simp only [apz, i64_w, i32_w]; rfl)
        refine join_ (σ := Nat) 2 (bt 7 2) (fun s_ => [(26, .agg #[.int .i64 t413, .int .i64 t414, .int .i64 t415, .int .i64 t416, .int .i64 t417, .int .i64 t418]), (28, .tuple #[.agg #[.int .i64 t419, .int .i64 t420], .int .i64 t421]), (9, .pointer (some ⟨s_, 0, none⟩)), (25, .tuple #[.agg #[.int .i64 t419, .int .i64 t420], .int .i64 t421]), (29, .agg #[.int .i64 t419, .int .i64 t420]), (30, .int .i64 t421)]) (fun s_ w' => (w'.cell? ⟨gb403, 0, none⟩ = some (.int .i64 a1_0) ∧ w'.cell? ⟨gb403, 1, none⟩ = some (.int .i64 a1_1)) ∧ (w'.heap[gb402]? = some (.cells #[.int .i64 a0_0, .int .i64 a0_1, .int .i64 a0_2, .int .i64 a0_3, .int .i64 a0_4, .int .i64 a0_5] 23 (0, 0))) ∧ (w'.heap[gb403]? = some (.cells #[.int .i64 a1_0, .int .i64 a1_1] 25 (0, 0))) ∧ (w'.heap[gb408]? = some (.cells #[.int .i64 t405, .int .i64 t406] 25 (0, 0))) ∧ (w'.heap[gb412]? = some (.cells #[.int .i64 t409, .int .i64 t410] 25 (0, 0))) ∧ (w'.heap[s_]? = some (.cells #[.int .i64 0, .int .i64 0] 25 (0, 0))) ∧ (w.heap.size ≤ s_) ∧ (w.heap.size ≤ s_) ∧ (gb402 ≠ s_) ∧ (s_ ≠ gb402) ∧ (gb403 ≠ s_) ∧ (s_ ≠ gb403) ∧ (gb408 ≠ s_) ∧ (s_ ≠ gb408) ∧ (gb412 ≠ s_) ∧ (s_ ≠ gb412) ∧ (Below w.heap.size w w')) ?_ ?_
        rotate_left
        ·
         intro hCont
         refine two_ (i := 0) (j := 6) (Ni := some 26) (Nj := some 9) (bt 2 7) #[false, true, false, false, false, false, true, false, false] rfl rfl rfl rfl (two_of HT_.out (by kernel_rfl)) (by decide) (by decide) (fun K hK => ?_) (fun K hK => ?_)
         ·
          skip
          refine goes_ Tryd.func11 (by kernel_rfl) rfl #[] (by rfl) rfl rfl (by (try simp only [List.map_toArray, List.map_cons, List.map_nil]); first | done | rfl | (simp only [List.length_drop, List.length_take]; rfl)) ?_
          with_reducible refine (affine_Same.calls  t413 t414 t415 t416 t417 t418 _ A7.out).mono ?_
          rintro e w40 ⟨rfl, hb⟩
          refine ⟨_, rfl, ?_⟩
          have n0_ := Aside0.mk (blk_below (bq BK402.out) hb)
          have n1_ := Aside0.mk (blk_below (bq BK403.out) hb)
          have n2_ := Aside0.mk (blk_below (bq BK408.out) hb)
          have n3_ := Aside0.mk (blk_below (bq BK412.out) hb)
          have n4_ := Aside0.mk (below_step (wq HB.out) hb)
          clear BK402 BK403 BK408 BK412; clear HB; have BK402 := n0_; have BK403 := n1_; have BK408 := n2_; have BK412 := n3_; have HB := n4_; clear n0_ n1_ n2_ n3_ n4_
          (try clear hb)
          (try clear hb2)
          (try clear hk)
          (try clear hi)
          refine hK.out _ _ ⟨(blk_cell BK403.out 0).trans rfl, (blk_cell BK403.out 1).trans rfl⟩ (fun hHeld => ?_)
          clear hK K
          refine norm_ (a' := ?_) ?_ ?_
          rotate_left
          ·
           show Act.put _ (some 26) _ = _
           simp only [apz, i64_w, i32_w]
           rfl
          refine two_ (i := 2) (j := 6) (Ni := some 28) (Nj := some 9) (bt 3 6) #[true, true, false, false, false, false, true, false, false] rfl rfl rfl rfl (two_of HT_.out (by kernel_rfl)) (by decide) (by decide) (fun K hK => ?_) (fun K hK => ?_)
          ·
           skip
           refine goes_ Tryd.func9 (by kernel_rfl) rfl #[.agg #[.int .i64 t413, .int .i64 t414, .int .i64 t415, .int .i64 t416, .int .i64 t417, .int .i64 t418], .agg #[.int .i64 a1_0, .int .i64 a1_1]] (by rfl) rfl rfl (by (try simp only [List.map_toArray, List.map_cons, List.map_nil]); first | done | rfl | (simp only [List.length_drop, List.length_take]; rfl)) ?_
           with_reducible refine (affine_Apply.calls k t413 t414 t415 t416 t417 t418 a1_0 a1_1 t419 t420 t421 _ ?side1 A8.out).mono ?_
           (case side1 => exact Gl.below HG.out (wq HB.out))
           rintro e w41 ⟨rfl, hb⟩
           refine ⟨_, rfl, ?_⟩
           have n0_ := Aside0.mk (blk_below (bq BK402.out) hb)
           have n1_ := Aside0.mk (blk_below (bq BK403.out) hb)
           have n2_ := Aside0.mk (blk_below (bq BK408.out) hb)
           have n3_ := Aside0.mk (blk_below (bq BK412.out) hb)
           have n4_ := Aside0.mk (below_step (wq HB.out) hb)
           clear BK402 BK403 BK408 BK412; clear HB; have BK402 := n0_; have BK403 := n1_; have BK408 := n2_; have BK412 := n3_; have HB := n4_; clear n0_ n1_ n2_ n3_ n4_
           (try clear hb)
           (try clear hb2)
           (try clear hk)
           (try clear hi)
           refine hK.out _ _ ⟨(blk_cell BK403.out 0).trans rfl, (blk_cell BK403.out 1).trans rfl⟩ (fun hHeld => ?_)
           clear hK K
           refine norm_ (a' := ?_) ?_ ?_
           rotate_left
           ·
            show Act.put _ (some 28) _ = _
            simp only [apz, i64_w, i32_w]
            rfl
           refine pure_ (i := 3) (N := some 25) (v := ?_) (a' := ?_) (bt 4 5) rfl rfl (any_of HT_.out (by kernel_rfl)) (fun _ _ _ h => h) (Or.inl ⟨by rfl, ?_⟩) ?_ ?_
           rotate_left; focus (intro w'; go_simp; with_reducible rfl)
           rotate_left; focus (simp only [apz, i64_w, i32_w]; rfl)
           refine pure_ (i := 4) (N := some 29) (v := ?_) (a' := ?_) (bt 5 4) rfl rfl (any_of HT_.out (by kernel_rfl)) (fun _ _ _ h => h) (Or.inl ⟨by rfl, ?_⟩) ?_ ?_
           rotate_left; focus (intro w'; go_simp; with_reducible rfl)
           rotate_left; focus (simp only [apz, i64_w, i32_w]; rfl)
           refine pure_ (i := 5) (N := some 30) (v := ?_) (a' := ?_) (bt 6 3) rfl rfl (any_of HT_.out (by kernel_rfl)) (fun _ _ _ h => h) (Or.inl ⟨by rfl, ?_⟩) ?_ ?_
           rotate_left; focus (intro w'; go_simp; with_reducible rfl)
           rotate_left; focus (simp only [apz, i64_w, i32_w]; rfl)
           refine one_ (i := 6) (N := some 9) (bt 7 2) rfl rfl (one_of HT_.out (by kernel_rfl)) (by decide) (fun K hK => ?_)
           refine box_step ?hg (N := 9) ?hd (cs := #[.int .i64 0, .int .i64 0]) (t := 25) ?hr ?_; (case hd => rfl); (case hg => rfl); (case hr => first | (go_simp; done) | (go_simp; rfl))
           intro gb422 hg w42 hbox hb
           have n0_ := Aside0.mk (blk_below (bq BK402.out) hb)
           have n1_ := Aside0.mk (blk_below (bq BK403.out) hb)
           have n2_ := Aside0.mk (blk_below (bq BK408.out) hb)
           have n3_ := Aside0.mk (blk_below (bq BK412.out) hb)
           have n4_ := Aside0.mk (below_step (wq HB.out) hb)
           have n5_ := Aside0.mk (hbox)
           have n6_ := Aside0.mk ((by rw [hg]; exact (below_size (wq HB.out)) : w.heap.size ≤ gb422))
           have n7_ := Aside0.mk ((by rw [hg]; exact (below_size (wq HB.out)) : w.heap.size ≤ gb422))
           have n8_ := Aside0.mk ((by rw [hg]; exact Nat.ne_of_lt (blk_lt (bq BK402.out)) : gb402 ≠ gb422))
           have n9_ := Aside0.mk ((by rw [hg]; exact Nat.ne_of_gt (blk_lt (bq BK402.out)) : gb422 ≠ gb402))
           have n10_ := Aside0.mk ((by rw [hg]; exact Nat.ne_of_lt (blk_lt (bq BK403.out)) : gb403 ≠ gb422))
           have n11_ := Aside0.mk ((by rw [hg]; exact Nat.ne_of_gt (blk_lt (bq BK403.out)) : gb422 ≠ gb403))
           have n12_ := Aside0.mk ((by rw [hg]; exact Nat.ne_of_lt (blk_lt (bq BK408.out)) : gb408 ≠ gb422))
           have n13_ := Aside0.mk ((by rw [hg]; exact Nat.ne_of_gt (blk_lt (bq BK408.out)) : gb422 ≠ gb408))
           have n14_ := Aside0.mk ((by rw [hg]; exact Nat.ne_of_lt (blk_lt (bq BK412.out)) : gb412 ≠ gb422))
           have n15_ := Aside0.mk ((by rw [hg]; exact Nat.ne_of_gt (blk_lt (bq BK412.out)) : gb422 ≠ gb412))
           clear BK402 BK403 BK408 BK412; clear HB; have BK402 := n0_; have BK403 := n1_; have BK408 := n2_; have BK412 := n3_; have HB := n4_; have BK422 := n5_; have GW422 := n6_; have GE422 := n7_; have NB402_422 := n8_; have NB422_402 := n9_; have NB403_422 := n10_; have NB422_403 := n11_; have NB408_422 := n12_; have NB422_408 := n13_; have NB412_422 := n14_; have NB422_412 := n15_; clear n0_ n1_ n2_ n3_ n4_ n5_ n6_ n7_ n8_ n9_ n10_ n11_ n12_ n13_ n14_ n15_ hb hbox hg
           refine hK.out _ _ ⟨(blk_cell BK403.out 0).trans rfl, (blk_cell BK403.out 1).trans rfl⟩ (fun hHeld => ?_)
           clear hK K
           refine norm_ (a' := ?_) ?_ ?_
           rotate_left
           ·
            show Act.put _ (some 9) _ = _
            simp only [apz, i64_w, i32_w]
            rfl
           exact norm_ (by simp only [putAll, apz]) (hCont (gb422) _ ⟨hHeld, (bq BK402.out), (bq BK403.out), (bq BK408.out), (bq BK412.out), (bq BK422.out), GW422.out, GE422.out, NB402_422.out, NB422_402.out, NB403_422.out, NB422_403.out, NB408_422.out, NB422_408.out, NB412_422.out, NB422_412.out, (wq HB.out)⟩)
          ·
           skip
           refine box_step ?hg (N := 9) ?hd (cs := #[.int .i64 0, .int .i64 0]) (t := 25) ?hr ?_; (case hd => rfl); (case hg => rfl); (case hr => first | (go_simp; done) | (go_simp; rfl))
           intro gb422 hg w41 hbox hb
           have n0_ := Aside0.mk (blk_below (bq BK402.out) hb)
           have n1_ := Aside0.mk (blk_below (bq BK403.out) hb)
           have n2_ := Aside0.mk (blk_below (bq BK408.out) hb)
           have n3_ := Aside0.mk (blk_below (bq BK412.out) hb)
           have n4_ := Aside0.mk (below_step (wq HB.out) hb)
           have n5_ := Aside0.mk (hbox)
           have n6_ := Aside0.mk ((by rw [hg]; exact (below_size (wq HB.out)) : w.heap.size ≤ gb422))
           have n7_ := Aside0.mk ((by rw [hg]; exact (below_size (wq HB.out)) : w.heap.size ≤ gb422))
           have n8_ := Aside0.mk ((by rw [hg]; exact Nat.ne_of_lt (blk_lt (bq BK402.out)) : gb402 ≠ gb422))
           have n9_ := Aside0.mk ((by rw [hg]; exact Nat.ne_of_gt (blk_lt (bq BK402.out)) : gb422 ≠ gb402))
           have n10_ := Aside0.mk ((by rw [hg]; exact Nat.ne_of_lt (blk_lt (bq BK403.out)) : gb403 ≠ gb422))
           have n11_ := Aside0.mk ((by rw [hg]; exact Nat.ne_of_gt (blk_lt (bq BK403.out)) : gb422 ≠ gb403))
           have n12_ := Aside0.mk ((by rw [hg]; exact Nat.ne_of_lt (blk_lt (bq BK408.out)) : gb408 ≠ gb422))
           have n13_ := Aside0.mk ((by rw [hg]; exact Nat.ne_of_gt (blk_lt (bq BK408.out)) : gb422 ≠ gb408))
           have n14_ := Aside0.mk ((by rw [hg]; exact Nat.ne_of_lt (blk_lt (bq BK412.out)) : gb412 ≠ gb422))
           have n15_ := Aside0.mk ((by rw [hg]; exact Nat.ne_of_gt (blk_lt (bq BK412.out)) : gb422 ≠ gb412))
           clear BK402 BK403 BK408 BK412; clear HB; have BK402 := n0_; have BK403 := n1_; have BK408 := n2_; have BK412 := n3_; have HB := n4_; have BK422 := n5_; have GW422 := n6_; have GE422 := n7_; have NB402_422 := n8_; have NB422_402 := n9_; have NB403_422 := n10_; have NB422_403 := n11_; have NB408_422 := n12_; have NB422_408 := n13_; have NB412_422 := n14_; have NB422_412 := n15_; clear n0_ n1_ n2_ n3_ n4_ n5_ n6_ n7_ n8_ n9_ n10_ n11_ n12_ n13_ n14_ n15_ hb hbox hg
           refine hK.out _ _ ⟨(blk_cell BK403.out 0).trans rfl, (blk_cell BK403.out 1).trans rfl⟩ (fun hHeld => ?_)
           clear hK K
           refine norm_ (a' := ?_) ?_ ?_
           rotate_left
           ·
            show Act.put _ (some 9) _ = _
            simp only [apz, i64_w, i32_w]
            rfl
           refine one_ (i := 2) (N := some 28) #[true, true, true, false, false, false, true, false, false] rfl rfl (one_of HT_.out (by kernel_rfl)) (by decide) (fun K hK => ?_)
           refine goes_ Tryd.func9 (by kernel_rfl) rfl #[.agg #[.int .i64 t413, .int .i64 t414, .int .i64 t415, .int .i64 t416, .int .i64 t417, .int .i64 t418], .agg #[.int .i64 a1_0, .int .i64 a1_1]] (by rfl) rfl rfl (by (try simp only [List.map_toArray, List.map_cons, List.map_nil]); first | done | rfl | (simp only [List.length_drop, List.length_take]; rfl)) ?_
           with_reducible refine (affine_Apply.calls k t413 t414 t415 t416 t417 t418 a1_0 a1_1 t419 t420 t421 _ ?side1 A8.out).mono ?_
           (case side1 => exact Gl.below HG.out (wq HB.out))
           rintro e w42 ⟨rfl, hb⟩
           refine ⟨_, rfl, ?_⟩
           have n0_ := Aside0.mk (blk_below (bq BK402.out) hb)
           have n1_ := Aside0.mk (blk_below (bq BK403.out) hb)
           have n2_ := Aside0.mk (blk_below (bq BK408.out) hb)
           have n3_ := Aside0.mk (blk_below (bq BK412.out) hb)
           have n4_ := Aside0.mk (blk_below (bq BK422.out) hb)
           have n5_ := Aside0.mk (below_step (wq HB.out) hb)
           clear BK402 BK403 BK408 BK412; clear BK422 HB; have BK402 := n0_; have BK403 := n1_; have BK408 := n2_; have BK412 := n3_; have BK422 := n4_; have HB := n5_; clear n0_ n1_ n2_ n3_ n4_ n5_
           (try clear hb)
           (try clear hb2)
           (try clear hk)
           (try clear hi)
           refine hK.out _ _ ⟨(blk_cell BK403.out 0).trans rfl, (blk_cell BK403.out 1).trans rfl⟩ (fun hHeld => ?_)
           clear hK K
           refine norm_ (a' := ?_) ?_ ?_
           rotate_left
           ·
            show Act.put _ (some 28) _ = _
            simp only [apz, i64_w, i32_w]
            rfl
           refine pure_ (i := 3) (N := some 25) (v := ?_) (a' := ?_) #[true, true, true, true, false, false, true, false, false] rfl rfl (any_of HT_.out (by kernel_rfl)) (fun _ _ _ h => h) (Or.inl ⟨by rfl, ?_⟩) ?_ ?_
           rotate_left; focus (intro w'; go_simp; with_reducible rfl)
           rotate_left; focus (simp only [apz, i64_w, i32_w]; rfl)
           refine pure_ (i := 4) (N := some 29) (v := ?_) (a' := ?_) #[true, true, true, true, true, false, true, false, false] rfl rfl (any_of HT_.out (by kernel_rfl)) (fun _ _ _ h => h) (Or.inl ⟨by rfl, ?_⟩) ?_ ?_
           rotate_left; focus (intro w'; go_simp; with_reducible rfl)
           rotate_left; focus (simp only [apz, i64_w, i32_w]; rfl)
           refine pure_ (i := 5) (N := some 30) (v := ?_) (a' := ?_) (bt 7 2) rfl rfl (any_of HT_.out (by kernel_rfl)) (fun _ _ _ h => h) (Or.inl ⟨by rfl, ?_⟩) ?_ ?_
           rotate_left; focus (intro w'; go_simp; with_reducible rfl)
           rotate_left; focus (simp only [apz, i64_w, i32_w]; rfl)
           exact norm_ (by simp only [putAll, apz]) (hCont (gb422) _ ⟨hHeld, (bq BK402.out), (bq BK403.out), (bq BK408.out), (bq BK412.out), (bq BK422.out), GW422.out, GE422.out, NB402_422.out, NB422_402.out, NB403_422.out, NB422_403.out, NB408_422.out, NB422_408.out, NB412_422.out, NB422_412.out, (wq HB.out)⟩)
         ·
          skip
          refine box_step ?hg (N := 9) ?hd (cs := #[.int .i64 0, .int .i64 0]) (t := 25) ?hr ?_; (case hd => rfl); (case hg => rfl); (case hr => first | (go_simp; done) | (go_simp; rfl))
          intro gb422 hg w40 hbox hb
          have n0_ := Aside0.mk (blk_below (bq BK402.out) hb)
          have n1_ := Aside0.mk (blk_below (bq BK403.out) hb)
          have n2_ := Aside0.mk (blk_below (bq BK408.out) hb)
          have n3_ := Aside0.mk (blk_below (bq BK412.out) hb)
          have n4_ := Aside0.mk (below_step (wq HB.out) hb)
          have n5_ := Aside0.mk (hbox)
          have n6_ := Aside0.mk ((by rw [hg]; exact (below_size (wq HB.out)) : w.heap.size ≤ gb422))
          have n7_ := Aside0.mk ((by rw [hg]; exact (below_size (wq HB.out)) : w.heap.size ≤ gb422))
          have n8_ := Aside0.mk ((by rw [hg]; exact Nat.ne_of_lt (blk_lt (bq BK402.out)) : gb402 ≠ gb422))
          have n9_ := Aside0.mk ((by rw [hg]; exact Nat.ne_of_gt (blk_lt (bq BK402.out)) : gb422 ≠ gb402))
          have n10_ := Aside0.mk ((by rw [hg]; exact Nat.ne_of_lt (blk_lt (bq BK403.out)) : gb403 ≠ gb422))
          have n11_ := Aside0.mk ((by rw [hg]; exact Nat.ne_of_gt (blk_lt (bq BK403.out)) : gb422 ≠ gb403))
          have n12_ := Aside0.mk ((by rw [hg]; exact Nat.ne_of_lt (blk_lt (bq BK408.out)) : gb408 ≠ gb422))
          have n13_ := Aside0.mk ((by rw [hg]; exact Nat.ne_of_gt (blk_lt (bq BK408.out)) : gb422 ≠ gb408))
          have n14_ := Aside0.mk ((by rw [hg]; exact Nat.ne_of_lt (blk_lt (bq BK412.out)) : gb412 ≠ gb422))
          have n15_ := Aside0.mk ((by rw [hg]; exact Nat.ne_of_gt (blk_lt (bq BK412.out)) : gb422 ≠ gb412))
          clear BK402 BK403 BK408 BK412; clear HB; have BK402 := n0_; have BK403 := n1_; have BK408 := n2_; have BK412 := n3_; have HB := n4_; have BK422 := n5_; have GW422 := n6_; have GE422 := n7_; have NB402_422 := n8_; have NB422_402 := n9_; have NB403_422 := n10_; have NB422_403 := n11_; have NB408_422 := n12_; have NB422_408 := n13_; have NB412_422 := n14_; have NB422_412 := n15_; clear n0_ n1_ n2_ n3_ n4_ n5_ n6_ n7_ n8_ n9_ n10_ n11_ n12_ n13_ n14_ n15_ hb hbox hg
          refine hK.out _ _ ⟨(blk_cell BK403.out 0).trans rfl, (blk_cell BK403.out 1).trans rfl⟩ (fun hHeld => ?_)
          clear hK K
          refine norm_ (a' := ?_) ?_ ?_
          rotate_left
          ·
           show Act.put _ (some 9) _ = _
           simp only [apz, i64_w, i32_w]
           rfl
          refine one_ (i := 0) (N := some 26) #[true, true, false, false, false, false, true, false, false] rfl rfl (one_of HT_.out (by kernel_rfl)) (by decide) (fun K hK => ?_)
          refine goes_ Tryd.func11 (by kernel_rfl) rfl #[] (by rfl) rfl rfl (by (try simp only [List.map_toArray, List.map_cons, List.map_nil]); first | done | rfl | (simp only [List.length_drop, List.length_take]; rfl)) ?_
          with_reducible refine (affine_Same.calls  t413 t414 t415 t416 t417 t418 _ A7.out).mono ?_
          rintro e w41 ⟨rfl, hb⟩
          refine ⟨_, rfl, ?_⟩
          have n0_ := Aside0.mk (blk_below (bq BK402.out) hb)
          have n1_ := Aside0.mk (blk_below (bq BK403.out) hb)
          have n2_ := Aside0.mk (blk_below (bq BK408.out) hb)
          have n3_ := Aside0.mk (blk_below (bq BK412.out) hb)
          have n4_ := Aside0.mk (blk_below (bq BK422.out) hb)
          have n5_ := Aside0.mk (below_step (wq HB.out) hb)
          clear BK402 BK403 BK408 BK412; clear BK422 HB; have BK402 := n0_; have BK403 := n1_; have BK408 := n2_; have BK412 := n3_; have BK422 := n4_; have HB := n5_; clear n0_ n1_ n2_ n3_ n4_ n5_
          (try clear hb)
          (try clear hb2)
          (try clear hk)
          (try clear hi)
          refine hK.out _ _ ⟨(blk_cell BK403.out 0).trans rfl, (blk_cell BK403.out 1).trans rfl⟩ (fun hHeld => ?_)
          clear hK K
          refine norm_ (a' := ?_) ?_ ?_
          rotate_left
          ·
           show Act.put _ (some 26) _ = _
           simp only [apz, i64_w, i32_w]
           rfl
          refine one_ (i := 2) (N := some 28) #[true, true, true, false, false, false, true, false, false] rfl rfl (one_of HT_.out (by kernel_rfl)) (by decide) (fun K hK => ?_)
          refine goes_ Tryd.func9 (by kernel_rfl) rfl #[.agg #[.int .i64 t413, .int .i64 t414, .int .i64 t415, .int .i64 t416, .int .i64 t417, .int .i64 t418], .agg #[.int .i64 a1_0, .int .i64 a1_1]] (by rfl) rfl rfl (by (try simp only [List.map_toArray, List.map_cons, List.map_nil]); first | done | rfl | (simp only [List.length_drop, List.length_take]; rfl)) ?_
          with_reducible refine (affine_Apply.calls k t413 t414 t415 t416 t417 t418 a1_0 a1_1 t419 t420 t421 _ ?side1 A8.out).mono ?_
          (case side1 => exact Gl.below HG.out (wq HB.out))
          rintro e w42 ⟨rfl, hb⟩
          refine ⟨_, rfl, ?_⟩
          have n0_ := Aside0.mk (blk_below (bq BK402.out) hb)
          have n1_ := Aside0.mk (blk_below (bq BK403.out) hb)
          have n2_ := Aside0.mk (blk_below (bq BK408.out) hb)
          have n3_ := Aside0.mk (blk_below (bq BK412.out) hb)
          have n4_ := Aside0.mk (blk_below (bq BK422.out) hb)
          have n5_ := Aside0.mk (below_step (wq HB.out) hb)
          clear BK402 BK403 BK408 BK412; clear BK422 HB; have BK402 := n0_; have BK403 := n1_; have BK408 := n2_; have BK412 := n3_; have BK422 := n4_; have HB := n5_; clear n0_ n1_ n2_ n3_ n4_ n5_
          (try clear hb)
          (try clear hb2)
          (try clear hk)
          (try clear hi)
          refine hK.out _ _ ⟨(blk_cell BK403.out 0).trans rfl, (blk_cell BK403.out 1).trans rfl⟩ (fun hHeld => ?_)
          clear hK K
          refine norm_ (a' := ?_) ?_ ?_
          rotate_left
          ·
           show Act.put _ (some 28) _ = _
           simp only [apz, i64_w, i32_w]
           rfl
          refine pure_ (i := 3) (N := some 25) (v := ?_) (a' := ?_) #[true, true, true, true, false, false, true, false, false] rfl rfl (any_of HT_.out (by kernel_rfl)) (fun _ _ _ h => h) (Or.inl ⟨by rfl, ?_⟩) ?_ ?_
          rotate_left; focus (intro w'; go_simp; with_reducible rfl)
          rotate_left; focus (simp only [apz, i64_w, i32_w]; rfl)
          refine pure_ (i := 4) (N := some 29) (v := ?_) (a' := ?_) #[true, true, true, true, true, false, true, false, false] rfl rfl (any_of HT_.out (by kernel_rfl)) (fun _ _ _ h => h) (Or.inl ⟨by rfl, ?_⟩) ?_ ?_
          rotate_left; focus (intro w'; go_simp; with_reducible rfl)
          rotate_left; focus (simp only [apz, i64_w, i32_w]; rfl)
          refine pure_ (i := 5) (N := some 30) (v := ?_) (a' := ?_) (bt 7 2) rfl rfl (any_of HT_.out (by kernel_rfl)) (fun _ _ _ h => h) (Or.inl ⟨by rfl, ?_⟩) ?_ ?_
          rotate_left; focus (intro w'; go_simp; with_reducible rfl)
          rotate_left; focus (simp only [apz, i64_w, i32_w]; rfl)
          exact norm_ (by simp only [putAll, apz]) (hCont (gb422) _ ⟨hHeld, (bq BK402.out), (bq BK403.out), (bq BK408.out), (bq BK412.out), (bq BK422.out), GW422.out, GE422.out, NB402_422.out, NB422_402.out, NB403_422.out, NB422_403.out, NB408_422.out, NB422_408.out, NB412_422.out, NB422_412.out, (wq HB.out)⟩)
        rintro gb422 w43 ⟨hS_, h0_, h1_, h2_, h3_, h4_, h5_, h6_, h7_, h8_, h9_, h10_, h11_, h12_, h13_, h14_, h15_⟩
        have n0_ : Aside0 (w43.heap[gb402]? = some (.cells #[.int .i64 a0_0, .int .i64 a0_1, .int .i64 a0_2, .int .i64 a0_3, .int .i64 a0_4, .int .i64 a0_5] 23 (0, 0))) := ⟨h0_⟩
        have n1_ : Aside0 (w43.heap[gb403]? = some (.cells #[.int .i64 a1_0, .int .i64 a1_1] 25 (0, 0))) := ⟨h1_⟩
        have n2_ : Aside0 (w43.heap[gb408]? = some (.cells #[.int .i64 t405, .int .i64 t406] 25 (0, 0))) := ⟨h2_⟩
        have n3_ : Aside0 (w43.heap[gb412]? = some (.cells #[.int .i64 t409, .int .i64 t410] 25 (0, 0))) := ⟨h3_⟩
        have n4_ : Aside0 (w43.heap[gb422]? = some (.cells #[.int .i64 0, .int .i64 0] 25 (0, 0))) := ⟨h4_⟩
        have n5_ : Aside0 (w.heap.size ≤ gb422) := ⟨h5_⟩
        have n6_ : Aside0 (w.heap.size ≤ gb422) := ⟨h6_⟩
        have n7_ : Aside0 (gb402 ≠ gb422) := ⟨h7_⟩
        have n8_ : Aside0 (gb422 ≠ gb402) := ⟨h8_⟩
        have n9_ : Aside0 (gb403 ≠ gb422) := ⟨h9_⟩
        have n10_ : Aside0 (gb422 ≠ gb403) := ⟨h10_⟩
        have n11_ : Aside0 (gb408 ≠ gb422) := ⟨h11_⟩
        have n12_ : Aside0 (gb422 ≠ gb408) := ⟨h12_⟩
        have n13_ : Aside0 (gb412 ≠ gb422) := ⟨h13_⟩
        have n14_ : Aside0 (gb422 ≠ gb412) := ⟨h14_⟩
        have n15_ : Aside0 (Below w.heap.size w w43) := ⟨h15_⟩
        clear BK402 BK403 BK408 BK412; clear HB h0_ h1_ h2_ h3_ h4_ h5_ h6_ h7_ h8_ h9_ h10_ h11_ h12_ h13_ h14_ h15_; have BK402 := n0_; have BK403 := n1_; have BK408 := n2_; have BK412 := n3_; have BK422 := n4_; have GW422 := n5_; have GE422 := n6_; have NB402_422 := n7_; have NB422_402 := n8_; have NB403_422 := n9_; have NB422_403 := n10_; have NB408_422 := n11_; have NB422_408 := n12_; have NB412_422 := n13_; have NB422_412 := n14_; have HB := n15_; clear n0_ n1_ n2_ n3_ n4_ n5_ n6_ n7_ n8_ n9_ n10_ n11_ n12_ n13_ n14_ n15_
        have hHeld : w43.cell? ⟨gb403, 0, none⟩ = some (.int .i64 a1_0) ∧ w43.cell? ⟨gb403, 1, none⟩ = some (.int .i64 a1_1) := hS_
        refine norm_ (a' := ?_) ?_ ?_
        rotate_left
        ·
         simp only [putAll, apz]
         rfl
        refine one_ (i := 7) (N := none) (bt 8 1) rfl rfl (one_of HT_.out (by kernel_rfl)) (by decide) (fun K hK => ?_)
        have hs44 : w43.cell? ⟨gb422, 0, none⟩ = some (.int .i64 0) := (blk_cell BK422.out 0).trans rfl
        have hfs44 := blk_frozen BK422.out 0
        have hns44_0 := NB402_422.out
        have hns44_1 := NB403_422.out
        have hns44_2 := NB408_422.out
        have hns44_3 := NB412_422.out
        have hms44_0 := NB422_402.out
        have hms44_1 := NB422_403.out
        have hms44_2 := NB422_408.out
        have hms44_3 := NB422_412.out
        have hs45 : w43.cell? ⟨gb422, 1, none⟩ = some (.int .i64 0) := (blk_cell BK422.out 1).trans rfl
        have hfs45 := blk_frozen BK422.out 1
        have hns45_0 := NB402_422.out
        have hns45_1 := NB403_422.out
        have hns45_2 := NB408_422.out
        have hns45_3 := NB412_422.out
        have hms45_0 := NB422_402.out
        have hms45_1 := NB422_403.out
        have hms45_2 := NB422_408.out
        have hms45_3 := NB422_412.out
        refine skip_ (w1 := ?_) (by rfl) rfl ?_ ?_
        rotate_left
        ·
         go_simp
         rfl
        refine hK.out _ _ ⟨((cell_far (p := ⟨gb422, _, none⟩) NB403_422.out _).trans (((cell_far (p := ⟨gb422, _, none⟩) NB403_422.out _).trans (hHeld.1)))), ((cell_far (p := ⟨gb422, _, none⟩) NB403_422.out _).trans (((cell_far (p := ⟨gb422, _, none⟩) NB403_422.out _).trans (hHeld.2))))⟩ (fun hHeld => ?_)
        clear hK K
        refine pure_ (i := 8) (N := some 10) (v := ?_) (a' := ?_) (bt 9 0) rfl rfl (any_of HT_.out (by kernel_rfl)) (fun _ _ _ h => h) (Or.inl ⟨by rfl, ?_⟩) ?_ ?_
        rotate_left; focus (intro w'; go_simp; with_reducible rfl)
        rotate_left; focus (simp only [apz, i64_w, i32_w]; rfl)
        refine done_ (done_of HT_.out (by kernel_rfl)) ?_
        try go_wp2
        have n0_ : Aside0 (((w43.setCell ⟨gb422, 0, none⟩ (.int .i64 t419)).setCell ⟨gb422, 1, none⟩ (.int .i64 t420)).heap[gb402]? = some (.cells #[.int .i64 a0_0, .int .i64 a0_1, .int .i64 a0_2, .int .i64 a0_3, .int .i64 a0_4, .int .i64 a0_5] 23 (0, 0))) := ⟨by refine bq ?_; refine blk_far ?_ NB402_422.out _; refine bq ?_; refine blk_far ?_ NB402_422.out _; refine bq ?_; exact BK402.out⟩
        have n1_ : Aside0 (((w43.setCell ⟨gb422, 0, none⟩ (.int .i64 t419)).setCell ⟨gb422, 1, none⟩ (.int .i64 t420)).heap[gb403]? = some (.cells #[.int .i64 a1_0, .int .i64 a1_1] 25 (0, 0))) := ⟨by refine bq ?_; refine blk_far ?_ NB403_422.out _; refine bq ?_; refine blk_far ?_ NB403_422.out _; refine bq ?_; exact BK403.out⟩
        have n2_ : Aside0 (((w43.setCell ⟨gb422, 0, none⟩ (.int .i64 t419)).setCell ⟨gb422, 1, none⟩ (.int .i64 t420)).heap[gb408]? = some (.cells #[.int .i64 t405, .int .i64 t406] 25 (0, 0))) := ⟨by refine bq ?_; refine blk_far ?_ NB408_422.out _; refine bq ?_; refine blk_far ?_ NB408_422.out _; refine bq ?_; exact BK408.out⟩
        have n3_ : Aside0 (((w43.setCell ⟨gb422, 0, none⟩ (.int .i64 t419)).setCell ⟨gb422, 1, none⟩ (.int .i64 t420)).heap[gb412]? = some (.cells #[.int .i64 t409, .int .i64 t410] 25 (0, 0))) := ⟨by refine bq ?_; refine blk_far ?_ NB412_422.out _; refine bq ?_; refine blk_far ?_ NB412_422.out _; refine bq ?_; exact BK412.out⟩
        have n4_ : Aside0 (((w43.setCell ⟨gb422, 0, none⟩ (.int .i64 t419)).setCell ⟨gb422, 1, none⟩ (.int .i64 t420)).heap[gb422]? = some (.cells #[.int .i64 t419, .int .i64 t420] 25 (0, 0))) := ⟨by refine bq ?_; refine blk_put (cs := #[.int .i64 t419, .int .i64 0]) ?_ 1 _ rfl; refine bq ?_; refine blk_put (cs := #[.int .i64 0, .int .i64 0]) ?_ 0 _ rfl; refine bq ?_; exact BK422.out⟩
        have n5_ : Aside0 (Below w.heap.size w ((w43.setCell ⟨gb422, 0, none⟩ (.int .i64 t419)).setCell ⟨gb422, 1, none⟩ (.int .i64 t420))) := ⟨by exact wq HB.out⟩
        (try clear BK402)
        (try clear BK403)
        (try clear BK408)
        (try clear BK412)
        (try clear BK422)
        (try clear HB)
        generalize ((w43.setCell ⟨gb422, 0, none⟩ (.int .i64 t419)).setCell ⟨gb422, 1, none⟩ (.int .i64 t420)) = w46 at n0_ n1_ n2_ n3_ n4_ n5_ ⊢
        have BK402 := n0_; have BK403 := n1_; have BK408 := n2_; have BK412 := n3_; have BK422 := n4_; have HB := n5_; clear n0_ n1_ n2_ n3_ n4_ n5_
        have n0_ := Aside0.mk (blk_drew BK402.out)
        have n1_ := Aside0.mk (blk_drew BK403.out)
        have n2_ := Aside0.mk (blk_drew BK408.out)
        have n3_ := Aside0.mk (blk_drew BK412.out)
        have n4_ := Aside0.mk (blk_drew BK422.out)
        have n5_ := Aside0.mk (below_drew1 HB.out)
        clear BK402 BK403 BK408 BK412; clear BK422 HB; have BK402 := n0_; have BK403 := n1_; have BK408 := n2_; have BK412 := n3_; have BK422 := n4_; have HB := n5_; clear n0_ n1_ n2_ n3_ n4_ n5_
        refine start_ (n := 38) (S := fun w' => w'.cell? ⟨gb408, 0, none⟩ = some (.int .i64 t405) ∧ w'.cell? ⟨gb408, 1, none⟩ = some (.int .i64 t406) ∧ w'.cell? ⟨gb412, 0, none⟩ = some (.int .i64 t409) ∧ w'.cell? ⟨gb412, 1, none⟩ = some (.int .i64 t410) ∧ w'.cell? ⟨gb402, 0, none⟩ = some (.int .i64 a0_0) ∧ w'.cell? ⟨gb402, 1, none⟩ = some (.int .i64 a0_1) ∧ w'.cell? ⟨gb402, 2, none⟩ = some (.int .i64 a0_2) ∧ w'.cell? ⟨gb402, 3, none⟩ = some (.int .i64 a0_3) ∧ w'.cell? ⟨gb402, 4, none⟩ = some (.int .i64 a0_4) ∧ w'.cell? ⟨gb402, 5, none⟩ = some (.int .i64 a0_5) ∧ w'.cell? ⟨gb422, 0, none⟩ = some (.int .i64 t419) ∧ w'.cell? ⟨gb422, 1, none⟩ = some (.int .i64 t420) ∧ w'.cell? ⟨gb403, 0, none⟩ = some (.int .i64 a1_0) ∧ w'.cell? ⟨gb403, 1, none⟩ = some (.int .i64 a1_1)) (ds := []) (bt 0 38) (by kernel_rfl) rfl rfl ⟨(blk_cell BK408.out 0).trans rfl, (blk_cell BK408.out 1).trans rfl, (blk_cell BK412.out 0).trans rfl, (blk_cell BK412.out 1).trans rfl, (blk_cell BK402.out 0).trans rfl, (blk_cell BK402.out 1).trans rfl, (blk_cell BK402.out 2).trans rfl, (blk_cell BK402.out 3).trans rfl, (blk_cell BK402.out 4).trans rfl, (blk_cell BK402.out 5).trans rfl, (blk_cell BK422.out 0).trans rfl, (blk_cell BK422.out 1).trans rfl, (blk_cell BK403.out 0).trans rfl, (blk_cell BK403.out 1).trans rfl⟩ (fun hHeld => ?_); refine with_tabW pointillistlaw08_AffineApplies.tab6 pointillistlaw08_AffineApplies.bits6 (fun HT_ HW_ => ?_)
        generalize w46.drew = w47 at BK402 BK403 BK408 BK412 BK422 HB hHeld ⊢
        refine take_ (i := 0) (N := some 31) (v := ?_) (a' := ?_) (bt 1 37) rfl rfl (take_ofW HT_.out HW_.out (by kernel_rfl)) (fun _ _ _ h => h) (Or.inl ⟨by rfl, ?_⟩) hHeld ?_ ?_
        rotate_left
        ·
         rintro w' ⟨s0, s1, s2, s3, s4, s5, s6, s7, s8, s9, s10, s11, s12, s13⟩
         go_simp
         with_reducible rfl
        rotate_left; focus (simp only [apz, i64_w, i32_w]; rfl)
        refine take_ (i := 1) (N := some 32) (v := ?_) (a' := ?_) (bt 2 36) rfl rfl (take_ofW HT_.out HW_.out (by kernel_rfl)) (fun _ _ _ h => h) (Or.inl ⟨by rfl, ?_⟩) hHeld ?_ ?_
        rotate_left
        ·
         rintro w' ⟨s0, s1, s2, s3, s4, s5, s6, s7, s8, s9, s10, s11, s12, s13⟩
         go_simp
         with_reducible rfl
        rotate_left; focus (simp only [apz, i64_w, i32_w]; rfl)
        refine pure_ (i := 2) (N := some 33) (v := ?_) (a' := ?_) (bt 3 35) rfl rfl (any_of HT_.out (by kernel_rfl)) (fun _ _ _ h => h) (Or.inl ⟨by rfl, ?_⟩) ?_ ?_
        rotate_left; focus (intro w'; go_simp; with_reducible rfl)
        rotate_left; focus (simp only [apz, i64_w, i32_w]; rfl)
        refine pure_ (i := 3) (N := some 34) (v := ?_) (a' := ?_) (bt 4 34) rfl rfl (any_of HT_.out (by kernel_rfl)) (fun _ _ _ h => h) (Or.inl ⟨by rfl, ?_⟩) ?_ ?_
        rotate_left; focus (intro w'; go_simp; with_reducible rfl)
        rotate_left; focus (simp only [apz, i64_w, i32_w]; rfl)
        refine pure_ (i := 4) (N := some 35) (v := ?_) (a' := ?_) (bt 5 33) rfl rfl (any_of HT_.out (by kernel_rfl)) (fun _ _ _ h => h) (Or.inl ⟨by rfl, ?_⟩) ?_ ?_
        rotate_left; focus (intro w'; go_simp; with_reducible rfl)
        rotate_left; focus (simp only [apz, i64_w, i32_w]; rfl)
        refine pure_ (i := 5) (N := some 36) (v := ?_) (a' := ?_) (bt 6 32) rfl rfl (any_of HT_.out (by kernel_rfl)) (fun _ _ _ h => h) (Or.inl ⟨by rfl, ?_⟩) ?_ ?_
        rotate_left; focus (intro w'; go_simp; with_reducible rfl)
        rotate_left; focus (simp only [apz, i64_w, i32_w]; rfl)
        refine pure_ (i := 6) (N := some 37) (v := ?_) (a' := ?_) (bt 7 31) rfl rfl (any_of HT_.out (by kernel_rfl)) (fun _ _ _ h => h) (Or.inl ⟨by rfl, ?_⟩) ?_ ?_
        rotate_left; focus (intro w'; go_simp; with_reducible rfl)
        rotate_left; focus (simp only [apz, i64_w, i32_w]; rfl)
        refine pure_ (i := 7) (N := some 38) (v := ?_) (a' := ?_) (bt 8 30) rfl rfl (any_of HT_.out (by kernel_rfl)) (fun _ _ _ h => h) (Or.inl ⟨by rfl, ?_⟩) ?_ ?_
        rotate_left; focus (intro w'; go_simp; with_reducible rfl)
        rotate_left; focus (simp only [apz, i64_w, i32_w]; rfl)
        refine pure_ (i := 8) (N := some 39) (v := ?_) (a' := ?_) (bt 9 29) rfl rfl (any_of HT_.out (by kernel_rfl)) (fun _ _ _ h => h) (Or.inl ⟨by rfl, ?_⟩) ?_ ?_
        rotate_left; focus (intro w'; go_simp; with_reducible rfl)
        rotate_left; focus (simp only [apz, i64_w, i32_w]; rfl)
        refine take_ (i := 9) (N := some 40) (v := ?_) (a' := ?_) (bt 10 28) rfl rfl (take_ofW HT_.out HW_.out (by kernel_rfl)) (fun _ _ _ h => h) (Or.inl ⟨by rfl, ?_⟩) hHeld ?_ ?_
        rotate_left
        ·
         rintro w' ⟨s0, s1, s2, s3, s4, s5, s6, s7, s8, s9, s10, s11, s12, s13⟩
         go_simp
         with_reducible rfl
        rotate_left; focus (simp only [apz, i64_w, i32_w]; rfl)
        refine take_ (i := 11) (N := some 42) (v := ?_) (a' := ?_) #[true, true, true, true, true, true, true, true, true, true, false, true, false, false, false, false, false, false, false, false, false, false, false, false, false, false, false, false, false, false, false, false, false, false, false, false, false, false] rfl rfl (take_ofW HT_.out HW_.out (by kernel_rfl)) (fun _ _ _ h => h) (Or.inl ⟨by rfl, ?_⟩) hHeld ?_ ?_
        rotate_left
        ·
         rintro w' ⟨s0, s1, s2, s3, s4, s5, s6, s7, s8, s9, s10, s11, s12, s13⟩
         go_simp
         with_reducible rfl
        rotate_left; focus (simp only [apz, i64_w, i32_w]; rfl)
        refine one_ (i := 10) (N := some 41) (bt 12 26) rfl rfl (one_of HT_.out (by kernel_rfl)) (by decide) (fun K hK => ?_)
        refine goes_ Tryd.func12 (by kernel_rfl) rfl #[.agg #[.int .i64 a0_0, .int .i64 a0_1, .int .i64 a0_2, .int .i64 a0_3, .int .i64 a0_4, .int .i64 a0_5]] (by rfl) rfl rfl (by (try simp only [List.map_toArray, List.map_cons, List.map_nil]); first | done | rfl | (simp only [List.length_drop, List.length_take]; rfl)) ?_
        with_reducible refine (affine_Right.calls k a0_0 a0_1 a0_2 a0_3 a0_4 a0_5 t423 _ A11.out).mono ?_
        rintro e w48 ⟨rfl, hb⟩
        refine ⟨_, rfl, ?_⟩
        have n0_ := Aside0.mk (blk_below (bq BK402.out) hb)
        have n1_ := Aside0.mk (blk_below (bq BK403.out) hb)
        have n2_ := Aside0.mk (blk_below (bq BK408.out) hb)
        have n3_ := Aside0.mk (blk_below (bq BK412.out) hb)
        have n4_ := Aside0.mk (blk_below (bq BK422.out) hb)
        have n5_ := Aside0.mk (below_step (wq HB.out) hb)
        clear BK402 BK403 BK408 BK412; clear BK422 HB; have BK402 := n0_; have BK403 := n1_; have BK408 := n2_; have BK412 := n3_; have BK422 := n4_; have HB := n5_; clear n0_ n1_ n2_ n3_ n4_ n5_
        (try clear hb)
        (try clear hb2)
        (try clear hk)
        (try clear hi)
        refine hK.out _ _ ⟨(blk_cell BK408.out 0).trans rfl, (blk_cell BK408.out 1).trans rfl, (blk_cell BK412.out 0).trans rfl, (blk_cell BK412.out 1).trans rfl, (blk_cell BK402.out 0).trans rfl, (blk_cell BK402.out 1).trans rfl, (blk_cell BK402.out 2).trans rfl, (blk_cell BK402.out 3).trans rfl, (blk_cell BK402.out 4).trans rfl, (blk_cell BK402.out 5).trans rfl, (blk_cell BK422.out 0).trans rfl, (blk_cell BK422.out 1).trans rfl, (blk_cell BK403.out 0).trans rfl, (blk_cell BK403.out 1).trans rfl⟩ (fun hHeld => ?_)
        clear hK K
        refine norm_ (a' := ?_) ?_ ?_
        rotate_left
        ·
         show Act.put _ (some 41) _ = _
         simp only [apz, i64_w, i32_w]
         rfl
        refine one_ (i := 12) (N := some 43) (bt 13 25) rfl rfl (one_of HT_.out (by kernel_rfl)) (by decide) (fun K hK => ?_)
        refine goes_ Tryd.func13 (by kernel_rfl) rfl #[.agg #[.int .i64 a0_0, .int .i64 a0_1, .int .i64 a0_2, .int .i64 a0_3, .int .i64 a0_4, .int .i64 a0_5]] (by rfl) rfl rfl (by (try simp only [List.map_toArray, List.map_cons, List.map_nil]); first | done | rfl | (simp only [List.length_drop, List.length_take]; rfl)) ?_
        with_reducible refine (pointillistref08_Right.calls a0_0 a0_1 a0_2 a0_3 a0_4 a0_5 t424 _ A12.out).mono ?_
        rintro e w49 ⟨rfl, hb⟩
        refine ⟨_, rfl, ?_⟩
        have n0_ := Aside0.mk (blk_below (bq BK402.out) hb)
        have n1_ := Aside0.mk (blk_below (bq BK403.out) hb)
        have n2_ := Aside0.mk (blk_below (bq BK408.out) hb)
        have n3_ := Aside0.mk (blk_below (bq BK412.out) hb)
        have n4_ := Aside0.mk (blk_below (bq BK422.out) hb)
        have n5_ := Aside0.mk (below_step (wq HB.out) hb)
        clear BK402 BK403 BK408 BK412; clear BK422 HB; have BK402 := n0_; have BK403 := n1_; have BK408 := n2_; have BK412 := n3_; have BK422 := n4_; have HB := n5_; clear n0_ n1_ n2_ n3_ n4_ n5_
        (try clear hb)
        (try clear hb2)
        (try clear hk)
        (try clear hi)
        refine hK.out _ _ ⟨(blk_cell BK408.out 0).trans rfl, (blk_cell BK408.out 1).trans rfl, (blk_cell BK412.out 0).trans rfl, (blk_cell BK412.out 1).trans rfl, (blk_cell BK402.out 0).trans rfl, (blk_cell BK402.out 1).trans rfl, (blk_cell BK402.out 2).trans rfl, (blk_cell BK402.out 3).trans rfl, (blk_cell BK402.out 4).trans rfl, (blk_cell BK402.out 5).trans rfl, (blk_cell BK422.out 0).trans rfl, (blk_cell BK422.out 1).trans rfl, (blk_cell BK403.out 0).trans rfl, (blk_cell BK403.out 1).trans rfl⟩ (fun hHeld => ?_)
        clear hK K
        refine norm_ (a' := ?_) ?_ ?_
        rotate_left
        ·
         show Act.put _ (some 43) _ = _
         simp only [apz, i64_w, i32_w]
         rfl
        refine pure_ (i := 13) (N := some 44) (v := ?_) (a' := ?_) (bt 14 24) rfl rfl (any_of HT_.out (by kernel_rfl)) (fun _ _ _ h => h) (Or.inl ⟨by rfl, ?_⟩) ?_ ?_
        rotate_left; focus (intro w'; go_simp; with_reducible rfl)
        rotate_left; focus (simp only [apz, i64_w, i32_w]; rfl)
        refine pure_ (i := 14) (N := some 45) (v := ?_) (a' := ?_) (bt 15 23) rfl rfl (any_of HT_.out (by kernel_rfl)) (fun _ _ _ h => h) (Or.inl ⟨by rfl, ?_⟩) ?_ ?_
        rotate_left; focus (intro w'; go_simp; with_reducible rfl)
        rotate_left; focus (simp only [apz, i64_w, i32_w]; rfl)
        refine pure_ (i := 15) (N := some 46) (v := ?_) (a' := ?_) (bt 16 22) rfl rfl (any_of HT_.out (by kernel_rfl)) (fun _ _ _ h => h) (Or.inl ⟨by rfl, ?_⟩) ?_ ?_
        rotate_left; focus (intro w'; go_simp; with_reducible rfl)
        rotate_left; focus (simp only [apz, i64_w, i32_w]; rfl)
        refine pure_ (i := 16) (N := some 47) (v := ?_) (a' := ?_) (bt 17 21) rfl rfl (any_of HT_.out (by kernel_rfl)) (fun _ _ _ h => h) (Or.inl ⟨by rfl, ?_⟩) ?_ ?_
        rotate_left; focus (intro w'; go_simp; with_reducible rfl)
        rotate_left; focus (simp only [apz, i64_w, i32_w]; rfl)
        refine pure_ (i := 17) (N := some 48) (v := ?_) (a' := ?_) (bt 18 20) rfl rfl (any_of HT_.out (by kernel_rfl)) (fun _ _ _ h => h) (Or.inl ⟨by rfl, ?_⟩) ?_ ?_
        rotate_left; focus (intro w'; go_simp; with_reducible rfl)
        rotate_left; focus (simp only [apz, i64_w, i32_w]; rfl)
        refine pure_ (i := 18) (N := some 49) (v := ?_) (a' := ?_) (bt 19 19) rfl rfl (any_of HT_.out (by kernel_rfl)) (fun _ _ _ h => h) (Or.inl ⟨by rfl, ?_⟩) ?_ ?_
        rotate_left; focus (intro w'; go_simp; with_reducible rfl)
        rotate_left; focus (simp only [apz, i64_w, i32_w]; rfl)
        refine take_ (i := 19) (N := some 50) (v := ?_) (a' := ?_) (bt 20 18) rfl rfl (take_ofW HT_.out HW_.out (by kernel_rfl)) (fun _ _ _ h => h) (Or.inl ⟨by rfl, ?_⟩) hHeld ?_ ?_
        rotate_left
        ·
         rintro w' ⟨s0, s1, s2, s3, s4, s5, s6, s7, s8, s9, s10, s11, s12, s13⟩
         go_simp
         with_reducible rfl
        rotate_left; focus (simp only [apz, i64_w, i32_w]; rfl)
        refine take_ (i := 20) (N := some 51) (v := ?_) (a' := ?_) (bt 21 17) rfl rfl (take_ofW HT_.out HW_.out (by kernel_rfl)) (fun _ _ _ h => h) (Or.inl ⟨by rfl, ?_⟩) hHeld ?_ ?_
        rotate_left
        ·
         rintro w' ⟨s0, s1, s2, s3, s4, s5, s6, s7, s8, s9, s10, s11, s12, s13⟩
         go_simp
         with_reducible rfl
        rotate_left; focus (simp only [apz, i64_w, i32_w]; rfl)
        refine pure_ (i := 21) (N := some 52) (v := ?_) (a' := ?_) (bt 22 16) rfl rfl (any_of HT_.out (by kernel_rfl)) (fun _ _ _ h => h) (Or.inl ⟨by rfl, ?_⟩) ?_ ?_
        rotate_left; focus (intro w'; go_simp; with_reducible rfl)
        rotate_left; focus (simp only [apz, i64_w, i32_w]; rfl)
        refine pure_ (i := 22) (N := some 53) (v := ?_) (a' := ?_) (bt 23 15) rfl rfl (any_of HT_.out (by kernel_rfl)) (fun _ _ _ h => h) (Or.inl ⟨by rfl, ?_⟩) ?_ ?_
        rotate_left; focus (intro w'; go_simp; with_reducible rfl)
        rotate_left; focus (simp only [apz, i64_w, i32_w]; rfl)
        refine pure_ (i := 23) (N := some 54) (v := ?_) (a' := ?_) (bt 24 14) rfl rfl (any_of HT_.out (by kernel_rfl)) (fun _ _ _ h => h) (Or.inl ⟨by rfl, ?_⟩) ?_ ?_
        rotate_left; focus (intro w'; go_simp; with_reducible rfl)
        rotate_left; focus (simp only [apz, i64_w, i32_w]; rfl)
        refine pure_ (i := 24) (N := some 55) (v := ?_) (a' := ?_) (bt 25 13) rfl rfl (any_of HT_.out (by kernel_rfl)) (fun _ _ _ h => h) (Or.inl ⟨by rfl, ?_⟩) ?_ ?_
        rotate_left; focus (intro w'; go_simp; with_reducible rfl)
        rotate_left; focus (simp only [apz, i64_w, i32_w]; rfl)
        refine pure_ (i := 25) (N := some 56) (v := ?_) (a' := ?_) (bt 26 12) rfl rfl (any_of HT_.out (by kernel_rfl)) (fun _ _ _ h => h) (Or.inl ⟨by rfl, ?_⟩) ?_ ?_
        rotate_left; focus (intro w'; go_simp; with_reducible rfl)
        rotate_left; focus (simp only [apz, i64_w, i32_w]; rfl)
        refine pure_ (i := 26) (N := some 57) (v := ?_) (a' := ?_) (bt 27 11) rfl rfl (any_of HT_.out (by kernel_rfl)) (fun _ _ _ h => h) (Or.inl ⟨by rfl, ?_⟩) ?_ ?_
        rotate_left; focus (intro w'; go_simp; with_reducible rfl)
        rotate_left; focus (simp only [apz, i64_w, i32_w]; rfl)
        refine pure_ (i := 27) (N := some 58) (v := ?_) (a' := ?_) (bt 28 10) rfl rfl (any_of HT_.out (by kernel_rfl)) (fun _ _ _ h => h) (Or.inl ⟨by rfl, ?_⟩) ?_ ?_
        rotate_left; focus (intro w'; go_simp; with_reducible rfl)
        rotate_left; focus (simp only [apz, i64_w, i32_w]; rfl)
        refine take_ (i := 28) (N := some 59) (v := ?_) (a' := ?_) (bt 29 9) rfl rfl (take_ofW HT_.out HW_.out (by kernel_rfl)) (fun _ _ _ h => h) (Or.inl ⟨by rfl, ?_⟩) hHeld ?_ ?_
        rotate_left
        ·
         rintro w' ⟨s0, s1, s2, s3, s4, s5, s6, s7, s8, s9, s10, s11, s12, s13⟩
         go_simp
         with_reducible rfl
        rotate_left; focus (simp only [apz, i64_w, i32_w]; rfl)
        refine one_ (i := 29) (N := some 60) (bt 30 8) rfl rfl (one_of HT_.out (by kernel_rfl)) (by decide) (fun K hK => ?_)
        refine goes_ Tryd.func14 (by kernel_rfl) rfl #[.int .i64 a1_0] (by rfl) rfl rfl (by (try simp only [List.map_toArray, List.map_cons, List.map_nil]); first | done | rfl | (simp only [List.length_drop, List.length_take]; rfl)) ?_
        with_reducible refine (pointillistref08_In.calls a1_0 true _ A16.out).mono ?_
        rintro e w' ⟨rfl, ⟨nd, rfl⟩⟩
        refine ⟨_, rfl, ?_⟩
        refine hK.out _ _ ⟨(blk_cell BK408.out 0).trans rfl, (blk_cell BK408.out 1).trans rfl, (blk_cell BK412.out 0).trans rfl, (blk_cell BK412.out 1).trans rfl, (blk_cell BK402.out 0).trans rfl, (blk_cell BK402.out 1).trans rfl, (blk_cell BK402.out 2).trans rfl, (blk_cell BK402.out 3).trans rfl, (blk_cell BK402.out 4).trans rfl, (blk_cell BK402.out 5).trans rfl, (blk_cell BK422.out 0).trans rfl, (blk_cell BK422.out 1).trans rfl, (blk_cell BK403.out 0).trans rfl, (blk_cell BK403.out 1).trans rfl⟩ (fun hHeld => ?_)
        clear hK K
        refine norm_ (a' := ?_) ?_ ?_
        rotate_left
        ·
         show Act.put _ (some 60) _ = _
         simp only [apz, i64_w, i32_w]
         rfl
        refine pure_ (i := 30) (N := some 61) (v := ?_) (a' := ?_) (bt 31 7) rfl rfl (any_of HT_.out (by kernel_rfl)) (fun _ _ _ h => h) (Or.inl ⟨by rfl, ?_⟩) ?_ ?_
        rotate_left; focus (intro w'; go_simp; with_reducible rfl)
        rotate_left; focus (simp only [apz, i64_w, i32_w]; rfl)
        refine pure_ (i := 31) (N := some 62) (v := ?_) (a' := ?_) (bt 32 6) rfl rfl (any_of HT_.out (by kernel_rfl)) (fun _ _ _ h => h) (Or.inl ⟨by rfl, ?_⟩) ?_ ?_
        rotate_left; focus (intro w'; go_simp; with_reducible rfl)
        rotate_left; focus (simp only [apz, i64_w, i32_w]; rfl)
        refine take_ (i := 32) (N := some 63) (v := ?_) (a' := ?_) (bt 33 5) rfl rfl (take_ofW HT_.out HW_.out (by kernel_rfl)) (fun _ _ _ h => h) (Or.inl ⟨by rfl, ?_⟩) hHeld ?_ ?_
        rotate_left
        ·
         rintro w' ⟨s0, s1, s2, s3, s4, s5, s6, s7, s8, s9, s10, s11, s12, s13⟩
         go_simp
         with_reducible rfl
        rotate_left; focus (simp only [apz, i64_w, i32_w]; rfl)
        refine one_ (i := 33) (N := some 64) (bt 34 4) rfl rfl (one_of HT_.out (by kernel_rfl)) (by decide) (fun K hK => ?_)
        refine goes_ Tryd.func14 (by kernel_rfl) rfl #[.int .i64 a1_1] (by rfl) rfl rfl (by (try simp only [List.map_toArray, List.map_cons, List.map_nil]); first | done | rfl | (simp only [List.length_drop, List.length_take]; rfl)) ?_
        with_reducible refine (pointillistref08_In.calls a1_1 t426 _ A18.out).mono ?_
        rintro e w' ⟨rfl, ⟨nd, rfl⟩⟩
        refine ⟨_, rfl, ?_⟩
        refine hK.out _ _ ⟨(blk_cell BK408.out 0).trans rfl, (blk_cell BK408.out 1).trans rfl, (blk_cell BK412.out 0).trans rfl, (blk_cell BK412.out 1).trans rfl, (blk_cell BK402.out 0).trans rfl, (blk_cell BK402.out 1).trans rfl, (blk_cell BK402.out 2).trans rfl, (blk_cell BK402.out 3).trans rfl, (blk_cell BK402.out 4).trans rfl, (blk_cell BK402.out 5).trans rfl, (blk_cell BK422.out 0).trans rfl, (blk_cell BK422.out 1).trans rfl, (blk_cell BK403.out 0).trans rfl, (blk_cell BK403.out 1).trans rfl⟩ (fun hHeld => ?_)
        clear hK K
        refine norm_ (a' := ?_) ?_ ?_
        rotate_left
        ·
         show Act.put _ (some 64) _ = _
         simp only [apz, i64_w, i32_w]
         rfl
        refine pure_ (i := 34) (N := some 65) (v := ?_) (a' := ?_) (bt 35 3) rfl rfl (any_of HT_.out (by kernel_rfl)) (fun _ _ _ h => h) (Or.inl ⟨by rfl, ?_⟩) ?_ ?_
        rotate_left; focus (intro w'; go_simp; with_reducible rfl)
        rotate_left; focus (simp only [apz, i64_w, i32_w]; rfl)
        refine pure_ (i := 35) (N := some 66) (v := ?_) (a' := ?_) (bt 36 2) rfl rfl (any_of HT_.out (by kernel_rfl)) (fun _ _ _ h => h) (Or.inl ⟨by rfl, ?_⟩) ?_ ?_
        rotate_left; focus (intro w'; go_simp; with_reducible rfl)
        rotate_left; focus (simp only [apz, i64_w, i32_w]; rfl)
        refine pure_ (i := 36) (N := some 67) (v := ?_) (a' := ?_) (bt 37 1) rfl rfl (any_of HT_.out (by kernel_rfl)) (fun _ _ _ h => h) (Or.inl ⟨by rfl, ?_⟩) ?_ ?_
        rotate_left; focus (intro w'; go_simp; with_reducible rfl)
        rotate_left; focus (simp only [apz, i64_w, i32_w]; rfl)
        refine pure_ (i := 37) (N := some 4) (v := ?_) (a' := ?_) (bt 38 0) rfl rfl (any_of HT_.out (by kernel_rfl)) (fun _ _ _ h => h) (Or.inl ⟨by rfl, ?_⟩) ?_ ?_
        rotate_left; focus (intro w'; go_simp; with_reducible rfl)
        rotate_left; focus (simp only [apz, i64_w, i32_w]; rfl)
        refine done_ (done_of HT_.out (by kernel_rfl)) ?_
        try go_wp2
        go_ret
        exact ⟨by first | rfl | (simp [errW_none, errW_some] <;> rfl) | (rw [HE_.out]; done) | (simp [HE_.out]; done) | (have h_ := HE_.out; simp_all; done) | (have h_ := HE_.out; simp [*] at h_; simp [*, h_]; done) | (simp [*, errW_none, errW_some] <;> rfl), by exact wq HB.out⟩
       ·
        replace c17 := Bool.eq_false_iff.mpr c17
        subst c17
        have H1 : (some ((t421 == 0) == false)) = some true := by rw [if_neg (show ¬ (false = true) by decide)] at H; exact H
        clear H
        have H := H1
        clear H1
        have HE_ := Aside0.mk (Option.some.inj H)
        clear H
        go_enter Tryd.func3, Tryd.ntmps3
        try go_wp2_with (first | ((with_reducible refine gate_dst (N := 2) rfl ?_); refine box_event ?hg (N := 2) ?hd (cs := #[.int .i64 a0_0, .int .i64 a0_1, .int .i64 a0_2, .int .i64 a0_3, .int .i64 a0_4, .int .i64 a0_5]) (t := 23) ?hr ?_; (case hd => rfl); (case hg => rfl); (case hr => first | (go_simp; done) | (go_simp; rfl)); intro gb402 hg w50 hbox hb; have n0_ := Aside0.mk (below_step (wq HB.out) hb); have n1_ := Aside0.mk (hbox); have n2_ := Aside0.mk ((by rw [hg]; exact (below_size (wq HB.out)) : w.heap.size ≤ gb402)); have n3_ := n2_; clear HB; have HB := n0_; have BK402 := n1_; have GW402 := n2_; have GE402 := n3_; clear n0_ n1_ n2_ n3_ hb hbox hg) | ((with_reducible refine gate_dst (N := 3) rfl ?_); refine box_event ?hg (N := 3) ?hd (cs := #[.int .i64 a1_0, .int .i64 a1_1]) (t := 25) ?hr ?_; (case hd => rfl); (case hg => rfl); (case hr => first | (go_simp; done) | (go_simp; rfl)); intro gb403 hg w51 hbox hb; have n0_ := Aside0.mk (blk_below (bq BK402.out) hb); have n1_ := Aside0.mk (below_step (wq HB.out) hb); have n2_ := Aside0.mk (hbox); have n3_ := Aside0.mk ((by rw [hg]; exact (below_size (wq HB.out)) : w.heap.size ≤ gb403)); have n4_ := n3_; have n5_ := Aside0.mk ((by rw [hg]; exact Nat.ne_of_lt (blk_lt (bq BK402.out)) : gb402 ≠ gb403)); have n6_ := Aside0.mk ((by rw [hg]; exact Nat.ne_of_gt (blk_lt (bq BK402.out)) : gb403 ≠ gb402)); clear BK402 HB; have BK402 := n0_; have HB := n1_; have BK403 := n2_; have GW403 := n3_; have GE403 := n4_; have NB402_403 := n5_; have NB403_402 := n6_; clear n0_ n1_ n2_ n3_ n4_ n5_ n6_ hb hbox hg) | ((with_reducible refine gate_callee (f := 8) rfl ?_); refine goesL_ (some 11) rfl rfl Tryd.func8 (by kernel_rfl) rfl #[] rfl (by (try simp only [List.map_toArray, List.map_cons, List.map_nil]); first | done | rfl | (simp only [List.length_drop, List.length_take]; rfl)) ?_; (with_reducible refine (pointillistlaw08_wakes.calls k  true _ ?side1 A3.out).mono ?_); (case side1 => exact Gl.below HG.out (wq HB.out)); rintro e w52 ⟨rfl, hb⟩; refine ⟨_, rfl, ?_⟩; have n0_ := Aside0.mk (blk_below (bq BK402.out) hb); have n1_ := Aside0.mk (blk_below (bq BK403.out) hb); have n2_ := Aside0.mk (below_step (wq HB.out) hb); clear BK402 BK403 HB; have BK402 := n0_; have BK403 := n1_; have HB := n2_; clear n0_ n1_ n2_; (try clear hb); (try clear hb2); (try clear hk); (try clear hi); have hnb53 := NB402_403.out; have hnc53 := NB403_402.out; have hcz54_0 : w52.cell? ⟨gb402, 0, none⟩ = some (.int .i64 a0_0) := (blk_cell BK402.out 0).trans rfl; have hcz54_1 : w52.cell? ⟨gb402, 1, none⟩ = some (.int .i64 a0_1) := (blk_cell BK402.out 1).trans rfl; have hcz54_2 : w52.cell? ⟨gb402, 2, none⟩ = some (.int .i64 a0_2) := (blk_cell BK402.out 2).trans rfl; have hcz54_3 : w52.cell? ⟨gb402, 3, none⟩ = some (.int .i64 a0_3) := (blk_cell BK402.out 3).trans rfl; have hcz54_4 : w52.cell? ⟨gb402, 4, none⟩ = some (.int .i64 a0_4) := (blk_cell BK402.out 4).trans rfl; have hcz54_5 : w52.cell? ⟨gb402, 5, none⟩ = some (.int .i64 a0_5) := (blk_cell BK402.out 5).trans rfl; have hfz54_0 := blk_frozen BK402.out 0; have hfz54_1 := blk_frozen BK402.out 1; have hfz54_2 := blk_frozen BK402.out 2; have hfz54_3 := blk_frozen BK402.out 3; have hfz54_4 := blk_frozen BK402.out 4; have hfz54_5 := blk_frozen BK402.out 5; have hcz55_0 : w52.cell? ⟨gb403, 0, none⟩ = some (.int .i64 a1_0) := (blk_cell BK403.out 0).trans rfl; have hcz55_1 : w52.cell? ⟨gb403, 1, none⟩ = some (.int .i64 a1_1) := (blk_cell BK403.out 1).trans rfl; have hfz55_0 := blk_frozen BK403.out 0; have hfz55_1 := blk_frozen BK403.out 1) | ((with_reducible refine gate_callee (f := 9) rfl ?_); refine goesL_ (some 16) rfl rfl Tryd.func9 (by kernel_rfl) rfl #[.agg #[.int .i64 a0_0, .int .i64 a0_1, .int .i64 a0_2, .int .i64 a0_3, .int .i64 a0_4, .int .i64 a0_5], .agg #[.int .i64 a1_0, .int .i64 a1_1]] rfl (by (try simp only [List.map_toArray, List.map_cons, List.map_nil]); first | done | rfl | (simp only [List.length_drop, List.length_take]; rfl)) ?_; (with_reducible refine (affine_Apply.calls k a0_0 a0_1 a0_2 a0_3 a0_4 a0_5 a1_0 a1_1 t405 t406 t407 _ ?side1 A5.out).mono ?_); (case side1 => exact Gl.below HG.out (wq HB.out)); rintro e w56 ⟨rfl, hb⟩; refine ⟨_, rfl, ?_⟩; have n0_ := Aside0.mk (blk_below (bq BK402.out) hb); have n1_ := Aside0.mk (blk_below (bq BK403.out) hb); have n2_ := Aside0.mk (below_step (wq HB.out) hb); clear BK402 BK403 HB; have BK402 := n0_; have BK403 := n1_; have HB := n2_; clear n0_ n1_ n2_; (try clear hb); (try clear hb2); (try clear hk); (try clear hi)) | ((with_reducible refine gate_dst (N := 5) rfl ?_); refine box_event ?hg (N := 5) ?hd (cs := #[.int .i64 0, .int .i64 0]) (t := 25) ?hr ?_; (case hd => rfl); (case hg => rfl); (case hr => first | (go_simp; done) | (go_simp; rfl)); intro gb408 hg w57 hbox hb; have n0_ := Aside0.mk (blk_below (bq BK402.out) hb); have n1_ := Aside0.mk (blk_below (bq BK403.out) hb); have n2_ := Aside0.mk (below_step (wq HB.out) hb); have n3_ := Aside0.mk (hbox); have n4_ := Aside0.mk ((by rw [hg]; exact (below_size (wq HB.out)) : w.heap.size ≤ gb408)); have n5_ := n4_; have n6_ := Aside0.mk ((by rw [hg]; exact Nat.ne_of_lt (blk_lt (bq BK402.out)) : gb402 ≠ gb408)); have n7_ := Aside0.mk ((by rw [hg]; exact Nat.ne_of_gt (blk_lt (bq BK402.out)) : gb408 ≠ gb402)); have n8_ := Aside0.mk ((by rw [hg]; exact Nat.ne_of_lt (blk_lt (bq BK403.out)) : gb403 ≠ gb408)); have n9_ := Aside0.mk ((by rw [hg]; exact Nat.ne_of_gt (blk_lt (bq BK403.out)) : gb408 ≠ gb403)); clear BK402 BK403 HB; have BK402 := n0_; have BK403 := n1_; have HB := n2_; have BK408 := n3_; have GW408 := n4_; have GE408 := n5_; have NB402_408 := n6_; have NB408_402 := n7_; have NB403_408 := n8_; have NB408_403 := n9_; clear n0_ n1_ n2_ n3_ n4_ n5_ n6_ n7_ n8_ n9_ hb hbox hg; have hnb58 := NB408_402.out; have hnc58 := NB402_408.out; have hnb59 := NB408_403.out; have hnc59 := NB403_408.out; have hcz60_0 : w57.cell? ⟨gb408, 0, none⟩ = some (.int .i64 0) := (blk_cell BK408.out 0).trans rfl; have hcz60_1 : w57.cell? ⟨gb408, 1, none⟩ = some (.int .i64 0) := (blk_cell BK408.out 1).trans rfl; have hfz60_0 := blk_frozen BK408.out 0; have hfz60_1 := blk_frozen BK408.out 1; have hcz61_0 : w57.cell? ⟨gb402, 0, none⟩ = some (.int .i64 a0_0) := (blk_cell BK402.out 0).trans rfl; have hcz61_1 : w57.cell? ⟨gb402, 1, none⟩ = some (.int .i64 a0_1) := (blk_cell BK402.out 1).trans rfl; have hcz61_2 : w57.cell? ⟨gb402, 2, none⟩ = some (.int .i64 a0_2) := (blk_cell BK402.out 2).trans rfl; have hcz61_3 : w57.cell? ⟨gb402, 3, none⟩ = some (.int .i64 a0_3) := (blk_cell BK402.out 3).trans rfl; have hcz61_4 : w57.cell? ⟨gb402, 4, none⟩ = some (.int .i64 a0_4) := (blk_cell BK402.out 4).trans rfl; have hcz61_5 : w57.cell? ⟨gb402, 5, none⟩ = some (.int .i64 a0_5) := (blk_cell BK402.out 5).trans rfl; have hfz61_0 := blk_frozen BK402.out 0; have hfz61_1 := blk_frozen BK402.out 1; have hfz61_2 := blk_frozen BK402.out 2; have hfz61_3 := blk_frozen BK402.out 3; have hfz61_4 := blk_frozen BK402.out 4; have hfz61_5 := blk_frozen BK402.out 5; have hcz62_0 : w57.cell? ⟨gb403, 0, none⟩ = some (.int .i64 a1_0) := (blk_cell BK403.out 0).trans rfl; have hcz62_1 : w57.cell? ⟨gb403, 1, none⟩ = some (.int .i64 a1_1) := (blk_cell BK403.out 1).trans rfl; have hfz62_0 := blk_frozen BK403.out 0; have hfz62_1 := blk_frozen BK403.out 1) | ((with_reducible refine gate_callee (f := 10) rfl ?_); refine goesL_ (some 22) rfl rfl Tryd.func10 (by kernel_rfl) rfl #[.agg #[.int .i64 a0_0, .int .i64 a0_1, .int .i64 a0_2, .int .i64 a0_3, .int .i64 a0_4, .int .i64 a0_5], .agg #[.int .i64 a1_0, .int .i64 a1_1]] rfl (by (try simp only [List.map_toArray, List.map_cons, List.map_nil]); first | done | rfl | (simp only [List.length_drop, List.length_take]; rfl)) ?_; (with_reducible refine (pointillistref08_Apply.calls k a0_0 a0_1 a0_2 a0_3 a0_4 a0_5 a1_0 a1_1 t409 t410 t411 _ A6.out).mono ?_); rintro e w63 ⟨rfl, hb⟩; refine ⟨_, rfl, ?_⟩; have n0_ := Aside0.mk (blk_below (g := gb402) (o := .cells #[.int .i64 a0_0, .int .i64 a0_1, .int .i64 a0_2, .int .i64 a0_3, .int .i64 a0_4, .int .i64 a0_5] 23 (0, 0)) (by refine bq ?_; refine blk_far ?_ NB402_408.out _; refine bq ?_; refine blk_far ?_ NB402_408.out _; refine bq ?_; exact BK402.out) hb); have n1_ := Aside0.mk (blk_below (g := gb403) (o := .cells #[.int .i64 a1_0, .int .i64 a1_1] 25 (0, 0)) (by refine bq ?_; refine blk_far ?_ NB403_408.out _; refine bq ?_; refine blk_far ?_ NB403_408.out _; refine bq ?_; exact BK403.out) hb); have n2_ := Aside0.mk (blk_below (g := gb408) (o := .cells #[.int .i64 t405, .int .i64 t406] 25 (0, 0)) (by refine bq ?_; refine blk_put (cs := #[.int .i64 t405, .int .i64 0]) ?_ 1 _ rfl; refine bq ?_; refine blk_put (cs := #[.int .i64 0, .int .i64 0]) ?_ 0 _ rfl; refine bq ?_; exact BK408.out) hb); have n3_ := Aside0.mk (below_step (wq HB.out) hb); clear BK402 BK403 BK408 HB; have BK402 := n0_; have BK403 := n1_; have BK408 := n2_; have HB := n3_; clear n0_ n1_ n2_ n3_; (try clear hb); (try clear hb2); (try clear hk); (try clear hi)) | ((with_reducible refine gate_dst (N := 7) rfl ?_); refine box_event ?hg (N := 7) ?hd (cs := #[.int .i64 0, .int .i64 0]) (t := 25) ?hr ?_; (case hd => rfl); (case hg => rfl); (case hr => first | (go_simp; done) | (go_simp; rfl)); intro gb412 hg w64 hbox hb; have n0_ := Aside0.mk (blk_below (bq BK402.out) hb); have n1_ := Aside0.mk (blk_below (bq BK403.out) hb); have n2_ := Aside0.mk (blk_below (bq BK408.out) hb); have n3_ := Aside0.mk (below_step (wq HB.out) hb); have n4_ := Aside0.mk (hbox); have n5_ := Aside0.mk ((by rw [hg]; exact (below_size (wq HB.out)) : w.heap.size ≤ gb412)); have n6_ := n5_; have n7_ := Aside0.mk ((by rw [hg]; exact Nat.ne_of_lt (blk_lt (bq BK402.out)) : gb402 ≠ gb412)); have n8_ := Aside0.mk ((by rw [hg]; exact Nat.ne_of_gt (blk_lt (bq BK402.out)) : gb412 ≠ gb402)); have n9_ := Aside0.mk ((by rw [hg]; exact Nat.ne_of_lt (blk_lt (bq BK403.out)) : gb403 ≠ gb412)); have n10_ := Aside0.mk ((by rw [hg]; exact Nat.ne_of_gt (blk_lt (bq BK403.out)) : gb412 ≠ gb403)); have n11_ := Aside0.mk ((by rw [hg]; exact Nat.ne_of_lt (blk_lt (bq BK408.out)) : gb408 ≠ gb412)); have n12_ := Aside0.mk ((by rw [hg]; exact Nat.ne_of_gt (blk_lt (bq BK408.out)) : gb412 ≠ gb408)); clear BK402 BK403 BK408 HB; have BK402 := n0_; have BK403 := n1_; have BK408 := n2_; have HB := n3_; have BK412 := n4_; have GW412 := n5_; have GE412 := n6_; have NB402_412 := n7_; have NB412_402 := n8_; have NB403_412 := n9_; have NB412_403 := n10_; have NB408_412 := n11_; have NB412_408 := n12_; clear n0_ n1_ n2_ n3_ n4_ n5_ n6_ n7_ n8_ n9_ n10_ n11_ n12_ hb hbox hg; have hnb65 := NB412_402.out; have hnc65 := NB402_412.out; have hnb66 := NB412_403.out; have hnc66 := NB403_412.out; have hnb67 := NB412_408.out; have hnc67 := NB408_412.out; have hcz68_0 : w64.cell? ⟨gb412, 0, none⟩ = some (.int .i64 0) := (blk_cell BK412.out 0).trans rfl; have hcz68_1 : w64.cell? ⟨gb412, 1, none⟩ = some (.int .i64 0) := (blk_cell BK412.out 1).trans rfl; have hfz68_0 := blk_frozen BK412.out 0; have hfz68_1 := blk_frozen BK412.out 1))
        have n0_ : Aside0 (((w64.setCell ⟨gb412, 0, none⟩ (.int .i64 t409)).setCell ⟨gb412, 1, none⟩ (.int .i64 t410)).heap[gb402]? = some (.cells #[.int .i64 a0_0, .int .i64 a0_1, .int .i64 a0_2, .int .i64 a0_3, .int .i64 a0_4, .int .i64 a0_5] 23 (0, 0))) := ⟨by refine bq ?_; refine blk_far ?_ NB402_412.out _; refine bq ?_; refine blk_far ?_ NB402_412.out _; refine bq ?_; exact BK402.out⟩
        have n1_ : Aside0 (((w64.setCell ⟨gb412, 0, none⟩ (.int .i64 t409)).setCell ⟨gb412, 1, none⟩ (.int .i64 t410)).heap[gb403]? = some (.cells #[.int .i64 a1_0, .int .i64 a1_1] 25 (0, 0))) := ⟨by refine bq ?_; refine blk_far ?_ NB403_412.out _; refine bq ?_; refine blk_far ?_ NB403_412.out _; refine bq ?_; exact BK403.out⟩
        have n2_ : Aside0 (((w64.setCell ⟨gb412, 0, none⟩ (.int .i64 t409)).setCell ⟨gb412, 1, none⟩ (.int .i64 t410)).heap[gb408]? = some (.cells #[.int .i64 t405, .int .i64 t406] 25 (0, 0))) := ⟨by refine bq ?_; refine blk_far ?_ NB408_412.out _; refine bq ?_; refine blk_far ?_ NB408_412.out _; refine bq ?_; exact BK408.out⟩
        have n3_ : Aside0 (((w64.setCell ⟨gb412, 0, none⟩ (.int .i64 t409)).setCell ⟨gb412, 1, none⟩ (.int .i64 t410)).heap[gb412]? = some (.cells #[.int .i64 t409, .int .i64 t410] 25 (0, 0))) := ⟨by refine bq ?_; refine blk_put (cs := #[.int .i64 t409, .int .i64 0]) ?_ 1 _ rfl; refine bq ?_; refine blk_put (cs := #[.int .i64 0, .int .i64 0]) ?_ 0 _ rfl; refine bq ?_; exact BK412.out⟩
        have n4_ : Aside0 (Below w.heap.size w ((w64.setCell ⟨gb412, 0, none⟩ (.int .i64 t409)).setCell ⟨gb412, 1, none⟩ (.int .i64 t410))) := ⟨by exact wq HB.out⟩
        (try clear BK402)
        (try clear BK403)
        (try clear BK408)
        (try clear BK412)
        (try clear HB)
        generalize ((w64.setCell ⟨gb412, 0, none⟩ (.int .i64 t409)).setCell ⟨gb412, 1, none⟩ (.int .i64 t410)) = w69 at n0_ n1_ n2_ n3_ n4_ ⊢
        have BK402 := n0_; have BK403 := n1_; have BK408 := n2_; have BK412 := n3_; have HB := n4_; clear n0_ n1_ n2_ n3_ n4_
        have n0_ := Aside0.mk (blk_drew BK402.out)
        have n1_ := Aside0.mk (blk_drew BK403.out)
        have n2_ := Aside0.mk (blk_drew BK408.out)
        have n3_ := Aside0.mk (blk_drew BK412.out)
        have n4_ := Aside0.mk (below_drew1 HB.out)
        clear BK402 BK403 BK408 BK412; clear HB; have BK402 := n0_; have BK403 := n1_; have BK408 := n2_; have BK412 := n3_; have HB := n4_; clear n0_ n1_ n2_ n3_ n4_
        refine start_ (n := 9) (S := fun w' => w'.cell? ⟨gb403, 0, none⟩ = some (.int .i64 a1_0) ∧ w'.cell? ⟨gb403, 1, none⟩ = some (.int .i64 a1_1)) (ds := []) (bt 0 9) (by kernel_rfl) rfl rfl ⟨(blk_cell BK403.out 0).trans rfl, (blk_cell BK403.out 1).trans rfl⟩ (fun hHeld => ?_); refine with_tabW pointillistlaw08_AffineApplies.tab5 pointillistlaw08_AffineApplies.bits5 (fun HT_ HW_ => ?_)
        generalize w69.drew = w70 at BK402 BK403 BK408 BK412 HB hHeld ⊢
        refine take_ (i := 1) (N := some 27) (v := ?_) (a' := ?_) #[false, true, false, false, false, false, false, false, false] rfl rfl (take_ofW HT_.out HW_.out (by kernel_rfl)) (fun _ _ _ h => h) (Or.inl ⟨by rfl, ?_⟩) hHeld ?_ ?_
        rotate_left
        ·
         rintro w' ⟨s0, s1⟩
         go_simp
         with_reducible rfl
        rotate_left; focus (simp only [apz, i64_w, i32_w]; rfl)
        refine join_ (σ := Nat) 2 (bt 7 2) (fun s_ => [(26, .agg #[.int .i64 t413, .int .i64 t414, .int .i64 t415, .int .i64 t416, .int .i64 t417, .int .i64 t418]), (28, .tuple #[.agg #[.int .i64 t419, .int .i64 t420], .int .i64 t421]), (9, .pointer (some ⟨s_, 0, none⟩)), (25, .tuple #[.agg #[.int .i64 t419, .int .i64 t420], .int .i64 t421]), (29, .agg #[.int .i64 t419, .int .i64 t420]), (30, .int .i64 t421)]) (fun s_ w' => (w'.cell? ⟨gb403, 0, none⟩ = some (.int .i64 a1_0) ∧ w'.cell? ⟨gb403, 1, none⟩ = some (.int .i64 a1_1)) ∧ (w'.heap[gb402]? = some (.cells #[.int .i64 a0_0, .int .i64 a0_1, .int .i64 a0_2, .int .i64 a0_3, .int .i64 a0_4, .int .i64 a0_5] 23 (0, 0))) ∧ (w'.heap[gb403]? = some (.cells #[.int .i64 a1_0, .int .i64 a1_1] 25 (0, 0))) ∧ (w'.heap[gb408]? = some (.cells #[.int .i64 t405, .int .i64 t406] 25 (0, 0))) ∧ (w'.heap[gb412]? = some (.cells #[.int .i64 t409, .int .i64 t410] 25 (0, 0))) ∧ (w'.heap[s_]? = some (.cells #[.int .i64 0, .int .i64 0] 25 (0, 0))) ∧ (w.heap.size ≤ s_) ∧ (w.heap.size ≤ s_) ∧ (gb402 ≠ s_) ∧ (s_ ≠ gb402) ∧ (gb403 ≠ s_) ∧ (s_ ≠ gb403) ∧ (gb408 ≠ s_) ∧ (s_ ≠ gb408) ∧ (gb412 ≠ s_) ∧ (s_ ≠ gb412) ∧ (Below w.heap.size w w')) ?_ ?_
        rotate_left
        ·
         intro hCont
         refine two_ (i := 0) (j := 6) (Ni := some 26) (Nj := some 9) (bt 2 7) #[false, true, false, false, false, false, true, false, false] rfl rfl rfl rfl (two_of HT_.out (by kernel_rfl)) (by decide) (by decide) (fun K hK => ?_) (fun K hK => ?_)
         ·
          skip
          refine goes_ Tryd.func11 (by kernel_rfl) rfl #[] (by rfl) rfl rfl (by (try simp only [List.map_toArray, List.map_cons, List.map_nil]); first | done | rfl | (simp only [List.length_drop, List.length_take]; rfl)) ?_
          with_reducible refine (affine_Same.calls  t413 t414 t415 t416 t417 t418 _ A7.out).mono ?_
          rintro e w71 ⟨rfl, hb⟩
          refine ⟨_, rfl, ?_⟩
          have n0_ := Aside0.mk (blk_below (bq BK402.out) hb)
          have n1_ := Aside0.mk (blk_below (bq BK403.out) hb)
          have n2_ := Aside0.mk (blk_below (bq BK408.out) hb)
          have n3_ := Aside0.mk (blk_below (bq BK412.out) hb)
          have n4_ := Aside0.mk (below_step (wq HB.out) hb)
          clear BK402 BK403 BK408 BK412; clear HB; have BK402 := n0_; have BK403 := n1_; have BK408 := n2_; have BK412 := n3_; have HB := n4_; clear n0_ n1_ n2_ n3_ n4_
          (try clear hb)
          (try clear hb2)
          (try clear hk)
          (try clear hi)
          refine hK.out _ _ ⟨(blk_cell BK403.out 0).trans rfl, (blk_cell BK403.out 1).trans rfl⟩ (fun hHeld => ?_)
          clear hK K
          refine norm_ (a' := ?_) ?_ ?_
          rotate_left
          ·
           show Act.put _ (some 26) _ = _
           simp only [apz, i64_w, i32_w]
           rfl
          refine two_ (i := 2) (j := 6) (Ni := some 28) (Nj := some 9) (bt 3 6) #[true, true, false, false, false, false, true, false, false] rfl rfl rfl rfl (two_of HT_.out (by kernel_rfl)) (by decide) (by decide) (fun K hK => ?_) (fun K hK => ?_)
          ·
           skip
           refine goes_ Tryd.func9 (by kernel_rfl) rfl #[.agg #[.int .i64 t413, .int .i64 t414, .int .i64 t415, .int .i64 t416, .int .i64 t417, .int .i64 t418], .agg #[.int .i64 a1_0, .int .i64 a1_1]] (by rfl) rfl rfl (by (try simp only [List.map_toArray, List.map_cons, List.map_nil]); first | done | rfl | (simp only [List.length_drop, List.length_take]; rfl)) ?_
           with_reducible refine (affine_Apply.calls k t413 t414 t415 t416 t417 t418 a1_0 a1_1 t419 t420 t421 _ ?side1 A8.out).mono ?_
           (case side1 => exact Gl.below HG.out (wq HB.out))
           rintro e w72 ⟨rfl, hb⟩
           refine ⟨_, rfl, ?_⟩
           have n0_ := Aside0.mk (blk_below (bq BK402.out) hb)
           have n1_ := Aside0.mk (blk_below (bq BK403.out) hb)
           have n2_ := Aside0.mk (blk_below (bq BK408.out) hb)
           have n3_ := Aside0.mk (blk_below (bq BK412.out) hb)
           have n4_ := Aside0.mk (below_step (wq HB.out) hb)
           clear BK402 BK403 BK408 BK412; clear HB; have BK402 := n0_; have BK403 := n1_; have BK408 := n2_; have BK412 := n3_; have HB := n4_; clear n0_ n1_ n2_ n3_ n4_
           (try clear hb)
           (try clear hb2)
           (try clear hk)
           (try clear hi)
           refine hK.out _ _ ⟨(blk_cell BK403.out 0).trans rfl, (blk_cell BK403.out 1).trans rfl⟩ (fun hHeld => ?_)
           clear hK K
           refine norm_ (a' := ?_) ?_ ?_
           rotate_left
           ·
            show Act.put _ (some 28) _ = _
            simp only [apz, i64_w, i32_w]
            rfl
           refine pure_ (i := 3) (N := some 25) (v := ?_) (a' := ?_) (bt 4 5) rfl rfl (any_of HT_.out (by kernel_rfl)) (fun _ _ _ h => h) (Or.inl ⟨by rfl, ?_⟩) ?_ ?_
           rotate_left; focus (intro w'; go_simp; with_reducible rfl)
           rotate_left; focus (simp only [apz, i64_w, i32_w]; rfl)
           refine pure_ (i := 4) (N := some 29) (v := ?_) (a' := ?_) (bt 5 4) rfl rfl (any_of HT_.out (by kernel_rfl)) (fun _ _ _ h => h) (Or.inl ⟨by rfl, ?_⟩) ?_ ?_
           rotate_left; focus (intro w'; go_simp; with_reducible rfl)
           rotate_left; focus (simp only [apz, i64_w, i32_w]; rfl)
           refine pure_ (i := 5) (N := some 30) (v := ?_) (a' := ?_) (bt 6 3) rfl rfl (any_of HT_.out (by kernel_rfl)) (fun _ _ _ h => h) (Or.inl ⟨by rfl, ?_⟩) ?_ ?_
           rotate_left; focus (intro w'; go_simp; with_reducible rfl)
           rotate_left; focus (simp only [apz, i64_w, i32_w]; rfl)
           refine one_ (i := 6) (N := some 9) (bt 7 2) rfl rfl (one_of HT_.out (by kernel_rfl)) (by decide) (fun K hK => ?_)
           refine box_step ?hg (N := 9) ?hd (cs := #[.int .i64 0, .int .i64 0]) (t := 25) ?hr ?_; (case hd => rfl); (case hg => rfl); (case hr => first | (go_simp; done) | (go_simp; rfl))
           intro gb422 hg w73 hbox hb
           have n0_ := Aside0.mk (blk_below (bq BK402.out) hb)
           have n1_ := Aside0.mk (blk_below (bq BK403.out) hb)
           have n2_ := Aside0.mk (blk_below (bq BK408.out) hb)
           have n3_ := Aside0.mk (blk_below (bq BK412.out) hb)
           have n4_ := Aside0.mk (below_step (wq HB.out) hb)
           have n5_ := Aside0.mk (hbox)
           have n6_ := Aside0.mk ((by rw [hg]; exact (below_size (wq HB.out)) : w.heap.size ≤ gb422))
           have n7_ := Aside0.mk ((by rw [hg]; exact (below_size (wq HB.out)) : w.heap.size ≤ gb422))
           have n8_ := Aside0.mk ((by rw [hg]; exact Nat.ne_of_lt (blk_lt (bq BK402.out)) : gb402 ≠ gb422))
           have n9_ := Aside0.mk ((by rw [hg]; exact Nat.ne_of_gt (blk_lt (bq BK402.out)) : gb422 ≠ gb402))
           have n10_ := Aside0.mk ((by rw [hg]; exact Nat.ne_of_lt (blk_lt (bq BK403.out)) : gb403 ≠ gb422))
           have n11_ := Aside0.mk ((by rw [hg]; exact Nat.ne_of_gt (blk_lt (bq BK403.out)) : gb422 ≠ gb403))
           have n12_ := Aside0.mk ((by rw [hg]; exact Nat.ne_of_lt (blk_lt (bq BK408.out)) : gb408 ≠ gb422))
           have n13_ := Aside0.mk ((by rw [hg]; exact Nat.ne_of_gt (blk_lt (bq BK408.out)) : gb422 ≠ gb408))
           have n14_ := Aside0.mk ((by rw [hg]; exact Nat.ne_of_lt (blk_lt (bq BK412.out)) : gb412 ≠ gb422))
           have n15_ := Aside0.mk ((by rw [hg]; exact Nat.ne_of_gt (blk_lt (bq BK412.out)) : gb422 ≠ gb412))
           clear BK402 BK403 BK408 BK412; clear HB; have BK402 := n0_; have BK403 := n1_; have BK408 := n2_; have BK412 := n3_; have HB := n4_; have BK422 := n5_; have GW422 := n6_; have GE422 := n7_; have NB402_422 := n8_; have NB422_402 := n9_; have NB403_422 := n10_; have NB422_403 := n11_; have NB408_422 := n12_; have NB422_408 := n13_; have NB412_422 := n14_; have NB422_412 := n15_; clear n0_ n1_ n2_ n3_ n4_ n5_ n6_ n7_ n8_ n9_ n10_ n11_ n12_ n13_ n14_ n15_ hb hbox hg
           refine hK.out _ _ ⟨(blk_cell BK403.out 0).trans rfl, (blk_cell BK403.out 1).trans rfl⟩ (fun hHeld => ?_)
           clear hK K
           refine norm_ (a' := ?_) ?_ ?_
           rotate_left
           ·
            show Act.put _ (some 9) _ = _
            simp only [apz, i64_w, i32_w]
            rfl
           exact norm_ (by simp only [putAll, apz]) (hCont (gb422) _ ⟨hHeld, (bq BK402.out), (bq BK403.out), (bq BK408.out), (bq BK412.out), (bq BK422.out), GW422.out, GE422.out, NB402_422.out, NB422_402.out, NB403_422.out, NB422_403.out, NB408_422.out, NB422_408.out, NB412_422.out, NB422_412.out, (wq HB.out)⟩)
          ·
           skip
           refine box_step ?hg (N := 9) ?hd (cs := #[.int .i64 0, .int .i64 0]) (t := 25) ?hr ?_; (case hd => rfl); (case hg => rfl); (case hr => first | (go_simp; done) | (go_simp; rfl))
           intro gb422 hg w72 hbox hb
           have n0_ := Aside0.mk (blk_below (bq BK402.out) hb)
           have n1_ := Aside0.mk (blk_below (bq BK403.out) hb)
           have n2_ := Aside0.mk (blk_below (bq BK408.out) hb)
           have n3_ := Aside0.mk (blk_below (bq BK412.out) hb)
           have n4_ := Aside0.mk (below_step (wq HB.out) hb)
           have n5_ := Aside0.mk (hbox)
           have n6_ := Aside0.mk ((by rw [hg]; exact (below_size (wq HB.out)) : w.heap.size ≤ gb422))
           have n7_ := Aside0.mk ((by rw [hg]; exact (below_size (wq HB.out)) : w.heap.size ≤ gb422))
           have n8_ := Aside0.mk ((by rw [hg]; exact Nat.ne_of_lt (blk_lt (bq BK402.out)) : gb402 ≠ gb422))
           have n9_ := Aside0.mk ((by rw [hg]; exact Nat.ne_of_gt (blk_lt (bq BK402.out)) : gb422 ≠ gb402))
           have n10_ := Aside0.mk ((by rw [hg]; exact Nat.ne_of_lt (blk_lt (bq BK403.out)) : gb403 ≠ gb422))
           have n11_ := Aside0.mk ((by rw [hg]; exact Nat.ne_of_gt (blk_lt (bq BK403.out)) : gb422 ≠ gb403))
           have n12_ := Aside0.mk ((by rw [hg]; exact Nat.ne_of_lt (blk_lt (bq BK408.out)) : gb408 ≠ gb422))
           have n13_ := Aside0.mk ((by rw [hg]; exact Nat.ne_of_gt (blk_lt (bq BK408.out)) : gb422 ≠ gb408))
           have n14_ := Aside0.mk ((by rw [hg]; exact Nat.ne_of_lt (blk_lt (bq BK412.out)) : gb412 ≠ gb422))
           have n15_ := Aside0.mk ((by rw [hg]; exact Nat.ne_of_gt (blk_lt (bq BK412.out)) : gb422 ≠ gb412))
           clear BK402 BK403 BK408 BK412; clear HB; have BK402 := n0_; have BK403 := n1_; have BK408 := n2_; have BK412 := n3_; have HB := n4_; have BK422 := n5_; have GW422 := n6_; have GE422 := n7_; have NB402_422 := n8_; have NB422_402 := n9_; have NB403_422 := n10_; have NB422_403 := n11_; have NB408_422 := n12_; have NB422_408 := n13_; have NB412_422 := n14_; have NB422_412 := n15_; clear n0_ n1_ n2_ n3_ n4_ n5_ n6_ n7_ n8_ n9_ n10_ n11_ n12_ n13_ n14_ n15_ hb hbox hg
           refine hK.out _ _ ⟨(blk_cell BK403.out 0).trans rfl, (blk_cell BK403.out 1).trans rfl⟩ (fun hHeld => ?_)
           clear hK K
           refine norm_ (a' := ?_) ?_ ?_
           rotate_left
           ·
            show Act.put _ (some 9) _ = _
            simp only [apz, i64_w, i32_w]
            rfl
           refine one_ (i := 2) (N := some 28) #[true, true, true, false, false, false, true, false, false] rfl rfl (one_of HT_.out (by kernel_rfl)) (by decide) (fun K hK => ?_)
           refine goes_ Tryd.func9 (by kernel_rfl) rfl #[.agg #[.int .i64 t413, .int .i64 t414, .int .i64 t415, .int .i64 t416, .int .i64 t417, .int .i64 t418], .agg #[.int .i64 a1_0, .int .i64 a1_1]] (by rfl) rfl rfl (by (try simp only [List.map_toArray, List.map_cons, List.map_nil]); first | done | rfl | (simp only [List.length_drop, List.length_take]; rfl)) ?_
           with_reducible refine (affine_Apply.calls k t413 t414 t415 t416 t417 t418 a1_0 a1_1 t419 t420 t421 _ ?side1 A8.out).mono ?_
           (case side1 => exact Gl.below HG.out (wq HB.out))
           rintro e w73 ⟨rfl, hb⟩
           refine ⟨_, rfl, ?_⟩
           have n0_ := Aside0.mk (blk_below (bq BK402.out) hb)
           have n1_ := Aside0.mk (blk_below (bq BK403.out) hb)
           have n2_ := Aside0.mk (blk_below (bq BK408.out) hb)
           have n3_ := Aside0.mk (blk_below (bq BK412.out) hb)
           have n4_ := Aside0.mk (blk_below (bq BK422.out) hb)
           have n5_ := Aside0.mk (below_step (wq HB.out) hb)
           clear BK402 BK403 BK408 BK412; clear BK422 HB; have BK402 := n0_; have BK403 := n1_; have BK408 := n2_; have BK412 := n3_; have BK422 := n4_; have HB := n5_; clear n0_ n1_ n2_ n3_ n4_ n5_
           (try clear hb)
           (try clear hb2)
           (try clear hk)
           (try clear hi)
           refine hK.out _ _ ⟨(blk_cell BK403.out 0).trans rfl, (blk_cell BK403.out 1).trans rfl⟩ (fun hHeld => ?_)
           clear hK K
           refine norm_ (a' := ?_) ?_ ?_
           rotate_left
           ·
            show Act.put _ (some 28) _ = _
            simp only [apz, i64_w, i32_w]
            rfl
           refine pure_ (i := 3) (N := some 25) (v := ?_) (a' := ?_) #[true, true, true, true, false, false, true, false, false] rfl rfl (any_of HT_.out (by kernel_rfl)) (fun _ _ _ h => h) (Or.inl ⟨by rfl, ?_⟩) ?_ ?_
           rotate_left; focus (intro w'; go_simp; with_reducible rfl)
           rotate_left; focus (simp only [apz, i64_w, i32_w]; rfl)
           refine pure_ (i := 4) (N := some 29) (v := ?_) (a' := ?_) #[true, true, true, true, true, false, true, false, false] rfl rfl (any_of HT_.out (by kernel_rfl)) (fun _ _ _ h => h) (Or.inl ⟨by rfl, ?_⟩) ?_ ?_
           rotate_left; focus (intro w'; go_simp; with_reducible rfl)
           rotate_left; focus (simp only [apz, i64_w, i32_w]; rfl)
           refine pure_ (i := 5) (N := some 30) (v := ?_) (a' := ?_) (bt 7 2) rfl rfl (any_of HT_.out (by kernel_rfl)) (fun _ _ _ h => h) (Or.inl ⟨by rfl, ?_⟩) ?_ ?_
           rotate_left; focus (intro w'; go_simp; with_reducible rfl)
           rotate_left; focus (simp only [apz, i64_w, i32_w]; rfl)
           exact norm_ (by simp only [putAll, apz]) (hCont (gb422) _ ⟨hHeld, (bq BK402.out), (bq BK403.out), (bq BK408.out), (bq BK412.out), (bq BK422.out), GW422.out, GE422.out, NB402_422.out, NB422_402.out, NB403_422.out, NB422_403.out, NB408_422.out, NB422_408.out, NB412_422.out, NB422_412.out, (wq HB.out)⟩)
         ·
          skip
          refine box_step ?hg (N := 9) ?hd (cs := #[.int .i64 0, .int .i64 0]) (t := 25) ?hr ?_; (case hd => rfl); (case hg => rfl); (case hr => first | (go_simp; done) | (go_simp; rfl))
          intro gb422 hg w71 hbox hb
          have n0_ := Aside0.mk (blk_below (bq BK402.out) hb)
          have n1_ := Aside0.mk (blk_below (bq BK403.out) hb)
          have n2_ := Aside0.mk (blk_below (bq BK408.out) hb)
          have n3_ := Aside0.mk (blk_below (bq BK412.out) hb)
          have n4_ := Aside0.mk (below_step (wq HB.out) hb)
          have n5_ := Aside0.mk (hbox)
          have n6_ := Aside0.mk ((by rw [hg]; exact (below_size (wq HB.out)) : w.heap.size ≤ gb422))
          have n7_ := Aside0.mk ((by rw [hg]; exact (below_size (wq HB.out)) : w.heap.size ≤ gb422))
          have n8_ := Aside0.mk ((by rw [hg]; exact Nat.ne_of_lt (blk_lt (bq BK402.out)) : gb402 ≠ gb422))
          have n9_ := Aside0.mk ((by rw [hg]; exact Nat.ne_of_gt (blk_lt (bq BK402.out)) : gb422 ≠ gb402))
          have n10_ := Aside0.mk ((by rw [hg]; exact Nat.ne_of_lt (blk_lt (bq BK403.out)) : gb403 ≠ gb422))
          have n11_ := Aside0.mk ((by rw [hg]; exact Nat.ne_of_gt (blk_lt (bq BK403.out)) : gb422 ≠ gb403))
          have n12_ := Aside0.mk ((by rw [hg]; exact Nat.ne_of_lt (blk_lt (bq BK408.out)) : gb408 ≠ gb422))
          have n13_ := Aside0.mk ((by rw [hg]; exact Nat.ne_of_gt (blk_lt (bq BK408.out)) : gb422 ≠ gb408))
          have n14_ := Aside0.mk ((by rw [hg]; exact Nat.ne_of_lt (blk_lt (bq BK412.out)) : gb412 ≠ gb422))
          have n15_ := Aside0.mk ((by rw [hg]; exact Nat.ne_of_gt (blk_lt (bq BK412.out)) : gb422 ≠ gb412))
          clear BK402 BK403 BK408 BK412; clear HB; have BK402 := n0_; have BK403 := n1_; have BK408 := n2_; have BK412 := n3_; have HB := n4_; have BK422 := n5_; have GW422 := n6_; have GE422 := n7_; have NB402_422 := n8_; have NB422_402 := n9_; have NB403_422 := n10_; have NB422_403 := n11_; have NB408_422 := n12_; have NB422_408 := n13_; have NB412_422 := n14_; have NB422_412 := n15_; clear n0_ n1_ n2_ n3_ n4_ n5_ n6_ n7_ n8_ n9_ n10_ n11_ n12_ n13_ n14_ n15_ hb hbox hg
          refine hK.out _ _ ⟨(blk_cell BK403.out 0).trans rfl, (blk_cell BK403.out 1).trans rfl⟩ (fun hHeld => ?_)
          clear hK K
          refine norm_ (a' := ?_) ?_ ?_
          rotate_left
          ·
           show Act.put _ (some 9) _ = _
           simp only [apz, i64_w, i32_w]
           rfl
          refine one_ (i := 0) (N := some 26) #[true, true, false, false, false, false, true, false, false] rfl rfl (one_of HT_.out (by kernel_rfl)) (by decide) (fun K hK => ?_)
          refine goes_ Tryd.func11 (by kernel_rfl) rfl #[] (by rfl) rfl rfl (by (try simp only [List.map_toArray, List.map_cons, List.map_nil]); first | done | rfl | (simp only [List.length_drop, List.length_take]; rfl)) ?_
          with_reducible refine (affine_Same.calls  t413 t414 t415 t416 t417 t418 _ A7.out).mono ?_
          rintro e w72 ⟨rfl, hb⟩
          refine ⟨_, rfl, ?_⟩
          have n0_ := Aside0.mk (blk_below (bq BK402.out) hb)
          have n1_ := Aside0.mk (blk_below (bq BK403.out) hb)
          have n2_ := Aside0.mk (blk_below (bq BK408.out) hb)
          have n3_ := Aside0.mk (blk_below (bq BK412.out) hb)
          have n4_ := Aside0.mk (blk_below (bq BK422.out) hb)
          have n5_ := Aside0.mk (below_step (wq HB.out) hb)
          clear BK402 BK403 BK408 BK412; clear BK422 HB; have BK402 := n0_; have BK403 := n1_; have BK408 := n2_; have BK412 := n3_; have BK422 := n4_; have HB := n5_; clear n0_ n1_ n2_ n3_ n4_ n5_
          (try clear hb)
          (try clear hb2)
          (try clear hk)
          (try clear hi)
          refine hK.out _ _ ⟨(blk_cell BK403.out 0).trans rfl, (blk_cell BK403.out 1).trans rfl⟩ (fun hHeld => ?_)
          clear hK K
          refine norm_ (a' := ?_) ?_ ?_
          rotate_left
          ·
           show Act.put _ (some 26) _ = _
           simp only [apz, i64_w, i32_w]
           rfl
          refine one_ (i := 2) (N := some 28) #[true, true, true, false, false, false, true, false, false] rfl rfl (one_of HT_.out (by kernel_rfl)) (by decide) (fun K hK => ?_)
          refine goes_ Tryd.func9 (by kernel_rfl) rfl #[.agg #[.int .i64 t413, .int .i64 t414, .int .i64 t415, .int .i64 t416, .int .i64 t417, .int .i64 t418], .agg #[.int .i64 a1_0, .int .i64 a1_1]] (by rfl) rfl rfl (by (try simp only [List.map_toArray, List.map_cons, List.map_nil]); first | done | rfl | (simp only [List.length_drop, List.length_take]; rfl)) ?_
          with_reducible refine (affine_Apply.calls k t413 t414 t415 t416 t417 t418 a1_0 a1_1 t419 t420 t421 _ ?side1 A8.out).mono ?_
          (case side1 => exact Gl.below HG.out (wq HB.out))
          rintro e w73 ⟨rfl, hb⟩
          refine ⟨_, rfl, ?_⟩
          have n0_ := Aside0.mk (blk_below (bq BK402.out) hb)
          have n1_ := Aside0.mk (blk_below (bq BK403.out) hb)
          have n2_ := Aside0.mk (blk_below (bq BK408.out) hb)
          have n3_ := Aside0.mk (blk_below (bq BK412.out) hb)
          have n4_ := Aside0.mk (blk_below (bq BK422.out) hb)
          have n5_ := Aside0.mk (below_step (wq HB.out) hb)
          clear BK402 BK403 BK408 BK412; clear BK422 HB; have BK402 := n0_; have BK403 := n1_; have BK408 := n2_; have BK412 := n3_; have BK422 := n4_; have HB := n5_; clear n0_ n1_ n2_ n3_ n4_ n5_
          (try clear hb)
          (try clear hb2)
          (try clear hk)
          (try clear hi)
          refine hK.out _ _ ⟨(blk_cell BK403.out 0).trans rfl, (blk_cell BK403.out 1).trans rfl⟩ (fun hHeld => ?_)
          clear hK K
          refine norm_ (a' := ?_) ?_ ?_
          rotate_left
          ·
           show Act.put _ (some 28) _ = _
           simp only [apz, i64_w, i32_w]
           rfl
          refine pure_ (i := 3) (N := some 25) (v := ?_) (a' := ?_) #[true, true, true, true, false, false, true, false, false] rfl rfl (any_of HT_.out (by kernel_rfl)) (fun _ _ _ h => h) (Or.inl ⟨by rfl, ?_⟩) ?_ ?_
          rotate_left; focus (intro w'; go_simp; with_reducible rfl)
          rotate_left; focus (simp only [apz, i64_w, i32_w]; rfl)
          refine pure_ (i := 4) (N := some 29) (v := ?_) (a' := ?_) #[true, true, true, true, true, false, true, false, false] rfl rfl (any_of HT_.out (by kernel_rfl)) (fun _ _ _ h => h) (Or.inl ⟨by rfl, ?_⟩) ?_ ?_
          rotate_left; focus (intro w'; go_simp; with_reducible rfl)
          rotate_left; focus (simp only [apz, i64_w, i32_w]; rfl)
          refine pure_ (i := 5) (N := some 30) (v := ?_) (a' := ?_) (bt 7 2) rfl rfl (any_of HT_.out (by kernel_rfl)) (fun _ _ _ h => h) (Or.inl ⟨by rfl, ?_⟩) ?_ ?_
          rotate_left; focus (intro w'; go_simp; with_reducible rfl)
          rotate_left; focus (simp only [apz, i64_w, i32_w]; rfl)
          exact norm_ (by simp only [putAll, apz]) (hCont (gb422) _ ⟨hHeld, (bq BK402.out), (bq BK403.out), (bq BK408.out), (bq BK412.out), (bq BK422.out), GW422.out, GE422.out, NB402_422.out, NB422_402.out, NB403_422.out, NB422_403.out, NB408_422.out, NB422_408.out, NB412_422.out, NB422_412.out, (wq HB.out)⟩)
        rintro gb422 w74 ⟨hS_, h0_, h1_, h2_, h3_, h4_, h5_, h6_, h7_, h8_, h9_, h10_, h11_, h12_, h13_, h14_, h15_⟩
        have n0_ : Aside0 (w74.heap[gb402]? = some (.cells #[.int .i64 a0_0, .int .i64 a0_1, .int .i64 a0_2, .int .i64 a0_3, .int .i64 a0_4, .int .i64 a0_5] 23 (0, 0))) := ⟨h0_⟩
        have n1_ : Aside0 (w74.heap[gb403]? = some (.cells #[.int .i64 a1_0, .int .i64 a1_1] 25 (0, 0))) := ⟨h1_⟩
        have n2_ : Aside0 (w74.heap[gb408]? = some (.cells #[.int .i64 t405, .int .i64 t406] 25 (0, 0))) := ⟨h2_⟩
        have n3_ : Aside0 (w74.heap[gb412]? = some (.cells #[.int .i64 t409, .int .i64 t410] 25 (0, 0))) := ⟨h3_⟩
        have n4_ : Aside0 (w74.heap[gb422]? = some (.cells #[.int .i64 0, .int .i64 0] 25 (0, 0))) := ⟨h4_⟩
        have n5_ : Aside0 (w.heap.size ≤ gb422) := ⟨h5_⟩
        have n6_ : Aside0 (w.heap.size ≤ gb422) := ⟨h6_⟩
        have n7_ : Aside0 (gb402 ≠ gb422) := ⟨h7_⟩
        have n8_ : Aside0 (gb422 ≠ gb402) := ⟨h8_⟩
        have n9_ : Aside0 (gb403 ≠ gb422) := ⟨h9_⟩
        have n10_ : Aside0 (gb422 ≠ gb403) := ⟨h10_⟩
        have n11_ : Aside0 (gb408 ≠ gb422) := ⟨h11_⟩
        have n12_ : Aside0 (gb422 ≠ gb408) := ⟨h12_⟩
        have n13_ : Aside0 (gb412 ≠ gb422) := ⟨h13_⟩
        have n14_ : Aside0 (gb422 ≠ gb412) := ⟨h14_⟩
        have n15_ : Aside0 (Below w.heap.size w w74) := ⟨h15_⟩
        clear BK402 BK403 BK408 BK412; clear HB h0_ h1_ h2_ h3_ h4_ h5_ h6_ h7_ h8_ h9_ h10_ h11_ h12_ h13_ h14_ h15_; have BK402 := n0_; have BK403 := n1_; have BK408 := n2_; have BK412 := n3_; have BK422 := n4_; have GW422 := n5_; have GE422 := n6_; have NB402_422 := n7_; have NB422_402 := n8_; have NB403_422 := n9_; have NB422_403 := n10_; have NB408_422 := n11_; have NB422_408 := n12_; have NB412_422 := n13_; have NB422_412 := n14_; have HB := n15_; clear n0_ n1_ n2_ n3_ n4_ n5_ n6_ n7_ n8_ n9_ n10_ n11_ n12_ n13_ n14_ n15_
        have hHeld : w74.cell? ⟨gb403, 0, none⟩ = some (.int .i64 a1_0) ∧ w74.cell? ⟨gb403, 1, none⟩ = some (.int .i64 a1_1) := hS_
        refine norm_ (a' := ?_) ?_ ?_
        rotate_left
        ·
         simp only [putAll, apz]
         rfl
        refine one_ (i := 7) (N := none) (bt 8 1) rfl rfl (one_of HT_.out (by kernel_rfl)) (by decide) (fun K hK => ?_)
        have hs75 : w74.cell? ⟨gb422, 0, none⟩ = some (.int .i64 0) := (blk_cell BK422.out 0).trans rfl
        have hfs75 := blk_frozen BK422.out 0
        have hns75_0 := NB402_422.out
        have hns75_1 := NB403_422.out
        have hns75_2 := NB408_422.out
        have hns75_3 := NB412_422.out
        have hms75_0 := NB422_402.out
        have hms75_1 := NB422_403.out
        have hms75_2 := NB422_408.out
        have hms75_3 := NB422_412.out
        have hs76 : w74.cell? ⟨gb422, 1, none⟩ = some (.int .i64 0) := (blk_cell BK422.out 1).trans rfl
        have hfs76 := blk_frozen BK422.out 1
        have hns76_0 := NB402_422.out
        have hns76_1 := NB403_422.out
        have hns76_2 := NB408_422.out
        have hns76_3 := NB412_422.out
        have hms76_0 := NB422_402.out
        have hms76_1 := NB422_403.out
        have hms76_2 := NB422_408.out
        have hms76_3 := NB422_412.out
        refine skip_ (w1 := ?_) (by rfl) rfl ?_ ?_
        rotate_left
        ·
         go_simp
         rfl
        refine hK.out _ _ ⟨((cell_far (p := ⟨gb422, _, none⟩) NB403_422.out _).trans (((cell_far (p := ⟨gb422, _, none⟩) NB403_422.out _).trans (hHeld.1)))), ((cell_far (p := ⟨gb422, _, none⟩) NB403_422.out _).trans (((cell_far (p := ⟨gb422, _, none⟩) NB403_422.out _).trans (hHeld.2))))⟩ (fun hHeld => ?_)
        clear hK K
        refine pure_ (i := 8) (N := some 10) (v := ?_) (a' := ?_) (bt 9 0) rfl rfl (any_of HT_.out (by kernel_rfl)) (fun _ _ _ h => h) (Or.inl ⟨by rfl, ?_⟩) ?_ ?_
        rotate_left; focus (intro w'; go_simp; with_reducible rfl)
        rotate_left; focus (simp only [apz, i64_w, i32_w]; rfl)
        refine done_ (done_of HT_.out (by kernel_rfl)) ?_
        try go_wp2
        have n0_ : Aside0 (((w74.setCell ⟨gb422, 0, none⟩ (.int .i64 t419)).setCell ⟨gb422, 1, none⟩ (.int .i64 t420)).heap[gb402]? = some (.cells #[.int .i64 a0_0, .int .i64 a0_1, .int .i64 a0_2, .int .i64 a0_3, .int .i64 a0_4, .int .i64 a0_5] 23 (0, 0))) := ⟨by refine bq ?_; refine blk_far ?_ NB402_422.out _; refine bq ?_; refine blk_far ?_ NB402_422.out _; refine bq ?_; exact BK402.out⟩
        have n1_ : Aside0 (((w74.setCell ⟨gb422, 0, none⟩ (.int .i64 t419)).setCell ⟨gb422, 1, none⟩ (.int .i64 t420)).heap[gb403]? = some (.cells #[.int .i64 a1_0, .int .i64 a1_1] 25 (0, 0))) := ⟨by refine bq ?_; refine blk_far ?_ NB403_422.out _; refine bq ?_; refine blk_far ?_ NB403_422.out _; refine bq ?_; exact BK403.out⟩
        have n2_ : Aside0 (((w74.setCell ⟨gb422, 0, none⟩ (.int .i64 t419)).setCell ⟨gb422, 1, none⟩ (.int .i64 t420)).heap[gb408]? = some (.cells #[.int .i64 t405, .int .i64 t406] 25 (0, 0))) := ⟨by refine bq ?_; refine blk_far ?_ NB408_422.out _; refine bq ?_; refine blk_far ?_ NB408_422.out _; refine bq ?_; exact BK408.out⟩
        have n3_ : Aside0 (((w74.setCell ⟨gb422, 0, none⟩ (.int .i64 t419)).setCell ⟨gb422, 1, none⟩ (.int .i64 t420)).heap[gb412]? = some (.cells #[.int .i64 t409, .int .i64 t410] 25 (0, 0))) := ⟨by refine bq ?_; refine blk_far ?_ NB412_422.out _; refine bq ?_; refine blk_far ?_ NB412_422.out _; refine bq ?_; exact BK412.out⟩
        have n4_ : Aside0 (((w74.setCell ⟨gb422, 0, none⟩ (.int .i64 t419)).setCell ⟨gb422, 1, none⟩ (.int .i64 t420)).heap[gb422]? = some (.cells #[.int .i64 t419, .int .i64 t420] 25 (0, 0))) := ⟨by refine bq ?_; refine blk_put (cs := #[.int .i64 t419, .int .i64 0]) ?_ 1 _ rfl; refine bq ?_; refine blk_put (cs := #[.int .i64 0, .int .i64 0]) ?_ 0 _ rfl; refine bq ?_; exact BK422.out⟩
        have n5_ : Aside0 (Below w.heap.size w ((w74.setCell ⟨gb422, 0, none⟩ (.int .i64 t419)).setCell ⟨gb422, 1, none⟩ (.int .i64 t420))) := ⟨by exact wq HB.out⟩
        (try clear BK402)
        (try clear BK403)
        (try clear BK408)
        (try clear BK412)
        (try clear BK422)
        (try clear HB)
        generalize ((w74.setCell ⟨gb422, 0, none⟩ (.int .i64 t419)).setCell ⟨gb422, 1, none⟩ (.int .i64 t420)) = w77 at n0_ n1_ n2_ n3_ n4_ n5_ ⊢
        have BK402 := n0_; have BK403 := n1_; have BK408 := n2_; have BK412 := n3_; have BK422 := n4_; have HB := n5_; clear n0_ n1_ n2_ n3_ n4_ n5_
        have n0_ := Aside0.mk (blk_drew BK402.out)
        have n1_ := Aside0.mk (blk_drew BK403.out)
        have n2_ := Aside0.mk (blk_drew BK408.out)
        have n3_ := Aside0.mk (blk_drew BK412.out)
        have n4_ := Aside0.mk (blk_drew BK422.out)
        have n5_ := Aside0.mk (below_drew1 HB.out)
        clear BK402 BK403 BK408 BK412; clear BK422 HB; have BK402 := n0_; have BK403 := n1_; have BK408 := n2_; have BK412 := n3_; have BK422 := n4_; have HB := n5_; clear n0_ n1_ n2_ n3_ n4_ n5_
        refine start_ (n := 38) (S := fun w' => w'.cell? ⟨gb408, 0, none⟩ = some (.int .i64 t405) ∧ w'.cell? ⟨gb408, 1, none⟩ = some (.int .i64 t406) ∧ w'.cell? ⟨gb412, 0, none⟩ = some (.int .i64 t409) ∧ w'.cell? ⟨gb412, 1, none⟩ = some (.int .i64 t410) ∧ w'.cell? ⟨gb402, 0, none⟩ = some (.int .i64 a0_0) ∧ w'.cell? ⟨gb402, 1, none⟩ = some (.int .i64 a0_1) ∧ w'.cell? ⟨gb402, 2, none⟩ = some (.int .i64 a0_2) ∧ w'.cell? ⟨gb402, 3, none⟩ = some (.int .i64 a0_3) ∧ w'.cell? ⟨gb402, 4, none⟩ = some (.int .i64 a0_4) ∧ w'.cell? ⟨gb402, 5, none⟩ = some (.int .i64 a0_5) ∧ w'.cell? ⟨gb422, 0, none⟩ = some (.int .i64 t419) ∧ w'.cell? ⟨gb422, 1, none⟩ = some (.int .i64 t420) ∧ w'.cell? ⟨gb403, 0, none⟩ = some (.int .i64 a1_0) ∧ w'.cell? ⟨gb403, 1, none⟩ = some (.int .i64 a1_1)) (ds := []) (bt 0 38) (by kernel_rfl) rfl rfl ⟨(blk_cell BK408.out 0).trans rfl, (blk_cell BK408.out 1).trans rfl, (blk_cell BK412.out 0).trans rfl, (blk_cell BK412.out 1).trans rfl, (blk_cell BK402.out 0).trans rfl, (blk_cell BK402.out 1).trans rfl, (blk_cell BK402.out 2).trans rfl, (blk_cell BK402.out 3).trans rfl, (blk_cell BK402.out 4).trans rfl, (blk_cell BK402.out 5).trans rfl, (blk_cell BK422.out 0).trans rfl, (blk_cell BK422.out 1).trans rfl, (blk_cell BK403.out 0).trans rfl, (blk_cell BK403.out 1).trans rfl⟩ (fun hHeld => ?_); refine with_tabW pointillistlaw08_AffineApplies.tab6 pointillistlaw08_AffineApplies.bits6 (fun HT_ HW_ => ?_)
        generalize w77.drew = w78 at BK402 BK403 BK408 BK412 BK422 HB hHeld ⊢
        refine take_ (i := 0) (N := some 31) (v := ?_) (a' := ?_) (bt 1 37) rfl rfl (take_ofW HT_.out HW_.out (by kernel_rfl)) (fun _ _ _ h => h) (Or.inl ⟨by rfl, ?_⟩) hHeld ?_ ?_
        rotate_left
        ·
         rintro w' ⟨s0, s1, s2, s3, s4, s5, s6, s7, s8, s9, s10, s11, s12, s13⟩
         go_simp
         with_reducible rfl
        rotate_left; focus (simp only [apz, i64_w, i32_w]; rfl)
        refine take_ (i := 1) (N := some 32) (v := ?_) (a' := ?_) (bt 2 36) rfl rfl (take_ofW HT_.out HW_.out (by kernel_rfl)) (fun _ _ _ h => h) (Or.inl ⟨by rfl, ?_⟩) hHeld ?_ ?_
        rotate_left
        ·
         rintro w' ⟨s0, s1, s2, s3, s4, s5, s6, s7, s8, s9, s10, s11, s12, s13⟩
         go_simp
         with_reducible rfl
        rotate_left; focus (simp only [apz, i64_w, i32_w]; rfl)
        refine pure_ (i := 2) (N := some 33) (v := ?_) (a' := ?_) (bt 3 35) rfl rfl (any_of HT_.out (by kernel_rfl)) (fun _ _ _ h => h) (Or.inl ⟨by rfl, ?_⟩) ?_ ?_
        rotate_left; focus (intro w'; go_simp; with_reducible rfl)
        rotate_left; focus (simp only [apz, i64_w, i32_w]; rfl)
        refine pure_ (i := 3) (N := some 34) (v := ?_) (a' := ?_) (bt 4 34) rfl rfl (any_of HT_.out (by kernel_rfl)) (fun _ _ _ h => h) (Or.inl ⟨by rfl, ?_⟩) ?_ ?_
        rotate_left; focus (intro w'; go_simp; with_reducible rfl)
        rotate_left; focus (simp only [apz, i64_w, i32_w]; rfl)
        refine pure_ (i := 4) (N := some 35) (v := ?_) (a' := ?_) (bt 5 33) rfl rfl (any_of HT_.out (by kernel_rfl)) (fun _ _ _ h => h) (Or.inl ⟨by rfl, ?_⟩) ?_ ?_
        rotate_left; focus (intro w'; go_simp; with_reducible rfl)
        rotate_left; focus (simp only [apz, i64_w, i32_w]; rfl)
        refine pure_ (i := 5) (N := some 36) (v := ?_) (a' := ?_) (bt 6 32) rfl rfl (any_of HT_.out (by kernel_rfl)) (fun _ _ _ h => h) (Or.inl ⟨by rfl, ?_⟩) ?_ ?_
        rotate_left; focus (intro w'; go_simp; with_reducible rfl)
        rotate_left; focus (simp only [apz, i64_w, i32_w]; rfl)
        refine pure_ (i := 6) (N := some 37) (v := ?_) (a' := ?_) (bt 7 31) rfl rfl (any_of HT_.out (by kernel_rfl)) (fun _ _ _ h => h) (Or.inl ⟨by rfl, ?_⟩) ?_ ?_
        rotate_left; focus (intro w'; go_simp; with_reducible rfl)
        rotate_left; focus (simp only [apz, i64_w, i32_w]; rfl)
        refine pure_ (i := 7) (N := some 38) (v := ?_) (a' := ?_) (bt 8 30) rfl rfl (any_of HT_.out (by kernel_rfl)) (fun _ _ _ h => h) (Or.inl ⟨by rfl, ?_⟩) ?_ ?_
        rotate_left; focus (intro w'; go_simp; with_reducible rfl)
        rotate_left; focus (simp only [apz, i64_w, i32_w]; rfl)
        refine pure_ (i := 8) (N := some 39) (v := ?_) (a' := ?_) (bt 9 29) rfl rfl (any_of HT_.out (by kernel_rfl)) (fun _ _ _ h => h) (Or.inl ⟨by rfl, ?_⟩) ?_ ?_
        rotate_left; focus (intro w'; go_simp; with_reducible rfl)
        rotate_left; focus (simp only [apz, i64_w, i32_w]; rfl)
        refine take_ (i := 9) (N := some 40) (v := ?_) (a' := ?_) (bt 10 28) rfl rfl (take_ofW HT_.out HW_.out (by kernel_rfl)) (fun _ _ _ h => h) (Or.inl ⟨by rfl, ?_⟩) hHeld ?_ ?_
        rotate_left
        ·
         rintro w' ⟨s0, s1, s2, s3, s4, s5, s6, s7, s8, s9, s10, s11, s12, s13⟩
         go_simp
         with_reducible rfl
        rotate_left; focus (simp only [apz, i64_w, i32_w]; rfl)
        refine take_ (i := 11) (N := some 42) (v := ?_) (a' := ?_) #[true, true, true, true, true, true, true, true, true, true, false, true, false, false, false, false, false, false, false, false, false, false, false, false, false, false, false, false, false, false, false, false, false, false, false, false, false, false] rfl rfl (take_ofW HT_.out HW_.out (by kernel_rfl)) (fun _ _ _ h => h) (Or.inl ⟨by rfl, ?_⟩) hHeld ?_ ?_
        rotate_left
        ·
         rintro w' ⟨s0, s1, s2, s3, s4, s5, s6, s7, s8, s9, s10, s11, s12, s13⟩
         go_simp
         with_reducible rfl
        rotate_left; focus (simp only [apz, i64_w, i32_w]; rfl)
        refine one_ (i := 10) (N := some 41) (bt 12 26) rfl rfl (one_of HT_.out (by kernel_rfl)) (by decide) (fun K hK => ?_)
        refine goes_ Tryd.func12 (by kernel_rfl) rfl #[.agg #[.int .i64 a0_0, .int .i64 a0_1, .int .i64 a0_2, .int .i64 a0_3, .int .i64 a0_4, .int .i64 a0_5]] (by rfl) rfl rfl (by (try simp only [List.map_toArray, List.map_cons, List.map_nil]); first | done | rfl | (simp only [List.length_drop, List.length_take]; rfl)) ?_
        with_reducible refine (affine_Right.calls k a0_0 a0_1 a0_2 a0_3 a0_4 a0_5 t423 _ A11.out).mono ?_
        rintro e w79 ⟨rfl, hb⟩
        refine ⟨_, rfl, ?_⟩
        have n0_ := Aside0.mk (blk_below (bq BK402.out) hb)
        have n1_ := Aside0.mk (blk_below (bq BK403.out) hb)
        have n2_ := Aside0.mk (blk_below (bq BK408.out) hb)
        have n3_ := Aside0.mk (blk_below (bq BK412.out) hb)
        have n4_ := Aside0.mk (blk_below (bq BK422.out) hb)
        have n5_ := Aside0.mk (below_step (wq HB.out) hb)
        clear BK402 BK403 BK408 BK412; clear BK422 HB; have BK402 := n0_; have BK403 := n1_; have BK408 := n2_; have BK412 := n3_; have BK422 := n4_; have HB := n5_; clear n0_ n1_ n2_ n3_ n4_ n5_
        (try clear hb)
        (try clear hb2)
        (try clear hk)
        (try clear hi)
        refine hK.out _ _ ⟨(blk_cell BK408.out 0).trans rfl, (blk_cell BK408.out 1).trans rfl, (blk_cell BK412.out 0).trans rfl, (blk_cell BK412.out 1).trans rfl, (blk_cell BK402.out 0).trans rfl, (blk_cell BK402.out 1).trans rfl, (blk_cell BK402.out 2).trans rfl, (blk_cell BK402.out 3).trans rfl, (blk_cell BK402.out 4).trans rfl, (blk_cell BK402.out 5).trans rfl, (blk_cell BK422.out 0).trans rfl, (blk_cell BK422.out 1).trans rfl, (blk_cell BK403.out 0).trans rfl, (blk_cell BK403.out 1).trans rfl⟩ (fun hHeld => ?_)
        clear hK K
        refine norm_ (a' := ?_) ?_ ?_
        rotate_left
        ·
         show Act.put _ (some 41) _ = _
         simp only [apz, i64_w, i32_w]
         rfl
        refine one_ (i := 12) (N := some 43) (bt 13 25) rfl rfl (one_of HT_.out (by kernel_rfl)) (by decide) (fun K hK => ?_)
        refine goes_ Tryd.func13 (by kernel_rfl) rfl #[.agg #[.int .i64 a0_0, .int .i64 a0_1, .int .i64 a0_2, .int .i64 a0_3, .int .i64 a0_4, .int .i64 a0_5]] (by rfl) rfl rfl (by (try simp only [List.map_toArray, List.map_cons, List.map_nil]); first | done | rfl | (simp only [List.length_drop, List.length_take]; rfl)) ?_
        with_reducible refine (pointillistref08_Right.calls a0_0 a0_1 a0_2 a0_3 a0_4 a0_5 t424 _ A12.out).mono ?_
        rintro e w80 ⟨rfl, hb⟩
        refine ⟨_, rfl, ?_⟩
        have n0_ := Aside0.mk (blk_below (bq BK402.out) hb)
        have n1_ := Aside0.mk (blk_below (bq BK403.out) hb)
        have n2_ := Aside0.mk (blk_below (bq BK408.out) hb)
        have n3_ := Aside0.mk (blk_below (bq BK412.out) hb)
        have n4_ := Aside0.mk (blk_below (bq BK422.out) hb)
        have n5_ := Aside0.mk (below_step (wq HB.out) hb)
        clear BK402 BK403 BK408 BK412; clear BK422 HB; have BK402 := n0_; have BK403 := n1_; have BK408 := n2_; have BK412 := n3_; have BK422 := n4_; have HB := n5_; clear n0_ n1_ n2_ n3_ n4_ n5_
        (try clear hb)
        (try clear hb2)
        (try clear hk)
        (try clear hi)
        refine hK.out _ _ ⟨(blk_cell BK408.out 0).trans rfl, (blk_cell BK408.out 1).trans rfl, (blk_cell BK412.out 0).trans rfl, (blk_cell BK412.out 1).trans rfl, (blk_cell BK402.out 0).trans rfl, (blk_cell BK402.out 1).trans rfl, (blk_cell BK402.out 2).trans rfl, (blk_cell BK402.out 3).trans rfl, (blk_cell BK402.out 4).trans rfl, (blk_cell BK402.out 5).trans rfl, (blk_cell BK422.out 0).trans rfl, (blk_cell BK422.out 1).trans rfl, (blk_cell BK403.out 0).trans rfl, (blk_cell BK403.out 1).trans rfl⟩ (fun hHeld => ?_)
        clear hK K
        refine norm_ (a' := ?_) ?_ ?_
        rotate_left
        ·
         show Act.put _ (some 43) _ = _
         simp only [apz, i64_w, i32_w]
         rfl
        refine pure_ (i := 13) (N := some 44) (v := ?_) (a' := ?_) (bt 14 24) rfl rfl (any_of HT_.out (by kernel_rfl)) (fun _ _ _ h => h) (Or.inl ⟨by rfl, ?_⟩) ?_ ?_
        rotate_left; focus (intro w'; go_simp; with_reducible rfl)
        rotate_left; focus (simp only [apz, i64_w, i32_w]; rfl)
        refine pure_ (i := 14) (N := some 45) (v := ?_) (a' := ?_) (bt 15 23) rfl rfl (any_of HT_.out (by kernel_rfl)) (fun _ _ _ h => h) (Or.inl ⟨by rfl, ?_⟩) ?_ ?_
        rotate_left; focus (intro w'; go_simp; with_reducible rfl)
        rotate_left; focus (simp only [apz, i64_w, i32_w]; rfl)
        refine pure_ (i := 15) (N := some 46) (v := ?_) (a' := ?_) (bt 16 22) rfl rfl (any_of HT_.out (by kernel_rfl)) (fun _ _ _ h => h) (Or.inl ⟨by rfl, ?_⟩) ?_ ?_
        rotate_left; focus (intro w'; go_simp; with_reducible rfl)
        rotate_left; focus (simp only [apz, i64_w, i32_w]; rfl)
        refine pure_ (i := 16) (N := some 47) (v := ?_) (a' := ?_) (bt 17 21) rfl rfl (any_of HT_.out (by kernel_rfl)) (fun _ _ _ h => h) (Or.inl ⟨by rfl, ?_⟩) ?_ ?_
        rotate_left; focus (intro w'; go_simp; with_reducible rfl)
        rotate_left; focus (simp only [apz, i64_w, i32_w]; rfl)
        refine pure_ (i := 17) (N := some 48) (v := ?_) (a' := ?_) (bt 18 20) rfl rfl (any_of HT_.out (by kernel_rfl)) (fun _ _ _ h => h) (Or.inl ⟨by rfl, ?_⟩) ?_ ?_
        rotate_left; focus (intro w'; go_simp; with_reducible rfl)
        rotate_left; focus (simp only [apz, i64_w, i32_w]; rfl)
        refine pure_ (i := 18) (N := some 49) (v := ?_) (a' := ?_) (bt 19 19) rfl rfl (any_of HT_.out (by kernel_rfl)) (fun _ _ _ h => h) (Or.inl ⟨by rfl, ?_⟩) ?_ ?_
        rotate_left; focus (intro w'; go_simp; with_reducible rfl)
        rotate_left; focus (simp only [apz, i64_w, i32_w]; rfl)
        refine take_ (i := 19) (N := some 50) (v := ?_) (a' := ?_) (bt 20 18) rfl rfl (take_ofW HT_.out HW_.out (by kernel_rfl)) (fun _ _ _ h => h) (Or.inl ⟨by rfl, ?_⟩) hHeld ?_ ?_
        rotate_left
        ·
         rintro w' ⟨s0, s1, s2, s3, s4, s5, s6, s7, s8, s9, s10, s11, s12, s13⟩
         go_simp
         with_reducible rfl
        rotate_left; focus (simp only [apz, i64_w, i32_w]; rfl)
        refine take_ (i := 20) (N := some 51) (v := ?_) (a' := ?_) (bt 21 17) rfl rfl (take_ofW HT_.out HW_.out (by kernel_rfl)) (fun _ _ _ h => h) (Or.inl ⟨by rfl, ?_⟩) hHeld ?_ ?_
        rotate_left
        ·
         rintro w' ⟨s0, s1, s2, s3, s4, s5, s6, s7, s8, s9, s10, s11, s12, s13⟩
         go_simp
         with_reducible rfl
        rotate_left; focus (simp only [apz, i64_w, i32_w]; rfl)
        refine pure_ (i := 21) (N := some 52) (v := ?_) (a' := ?_) (bt 22 16) rfl rfl (any_of HT_.out (by kernel_rfl)) (fun _ _ _ h => h) (Or.inl ⟨by rfl, ?_⟩) ?_ ?_
        rotate_left; focus (intro w'; go_simp; with_reducible rfl)
        rotate_left; focus (simp only [apz, i64_w, i32_w]; rfl)
        refine pure_ (i := 22) (N := some 53) (v := ?_) (a' := ?_) (bt 23 15) rfl rfl (any_of HT_.out (by kernel_rfl)) (fun _ _ _ h => h) (Or.inl ⟨by rfl, ?_⟩) ?_ ?_
        rotate_left; focus (intro w'; go_simp; with_reducible rfl)
        rotate_left; focus (simp only [apz, i64_w, i32_w]; rfl)
        refine pure_ (i := 23) (N := some 54) (v := ?_) (a' := ?_) (bt 24 14) rfl rfl (any_of HT_.out (by kernel_rfl)) (fun _ _ _ h => h) (Or.inl ⟨by rfl, ?_⟩) ?_ ?_
        rotate_left; focus (intro w'; go_simp; with_reducible rfl)
        rotate_left; focus (simp only [apz, i64_w, i32_w]; rfl)
        refine pure_ (i := 24) (N := some 55) (v := ?_) (a' := ?_) (bt 25 13) rfl rfl (any_of HT_.out (by kernel_rfl)) (fun _ _ _ h => h) (Or.inl ⟨by rfl, ?_⟩) ?_ ?_
        rotate_left; focus (intro w'; go_simp; with_reducible rfl)
        rotate_left; focus (simp only [apz, i64_w, i32_w]; rfl)
        refine pure_ (i := 25) (N := some 56) (v := ?_) (a' := ?_) (bt 26 12) rfl rfl (any_of HT_.out (by kernel_rfl)) (fun _ _ _ h => h) (Or.inl ⟨by rfl, ?_⟩) ?_ ?_
        rotate_left; focus (intro w'; go_simp; with_reducible rfl)
        rotate_left; focus (simp only [apz, i64_w, i32_w]; rfl)
        refine pure_ (i := 26) (N := some 57) (v := ?_) (a' := ?_) (bt 27 11) rfl rfl (any_of HT_.out (by kernel_rfl)) (fun _ _ _ h => h) (Or.inl ⟨by rfl, ?_⟩) ?_ ?_
        rotate_left; focus (intro w'; go_simp; with_reducible rfl)
        rotate_left; focus (simp only [apz, i64_w, i32_w]; rfl)
        refine pure_ (i := 27) (N := some 58) (v := ?_) (a' := ?_) (bt 28 10) rfl rfl (any_of HT_.out (by kernel_rfl)) (fun _ _ _ h => h) (Or.inl ⟨by rfl, ?_⟩) ?_ ?_
        rotate_left; focus (intro w'; go_simp; with_reducible rfl)
        rotate_left; focus (simp only [apz, i64_w, i32_w]; rfl)
        refine take_ (i := 28) (N := some 59) (v := ?_) (a' := ?_) (bt 29 9) rfl rfl (take_ofW HT_.out HW_.out (by kernel_rfl)) (fun _ _ _ h => h) (Or.inl ⟨by rfl, ?_⟩) hHeld ?_ ?_
        rotate_left
        ·
         rintro w' ⟨s0, s1, s2, s3, s4, s5, s6, s7, s8, s9, s10, s11, s12, s13⟩
         go_simp
         with_reducible rfl
        rotate_left; focus (simp only [apz, i64_w, i32_w]; rfl)
        refine one_ (i := 29) (N := some 60) (bt 30 8) rfl rfl (one_of HT_.out (by kernel_rfl)) (by decide) (fun K hK => ?_)
        refine goes_ Tryd.func14 (by kernel_rfl) rfl #[.int .i64 a1_0] (by rfl) rfl rfl (by (try simp only [List.map_toArray, List.map_cons, List.map_nil]); first | done | rfl | (simp only [List.length_drop, List.length_take]; rfl)) ?_
        with_reducible refine (pointillistref08_In.calls a1_0 false _ A16.out).mono ?_
        rintro e w' ⟨rfl, ⟨nd, rfl⟩⟩
        refine ⟨_, rfl, ?_⟩
        refine hK.out _ _ ⟨(blk_cell BK408.out 0).trans rfl, (blk_cell BK408.out 1).trans rfl, (blk_cell BK412.out 0).trans rfl, (blk_cell BK412.out 1).trans rfl, (blk_cell BK402.out 0).trans rfl, (blk_cell BK402.out 1).trans rfl, (blk_cell BK402.out 2).trans rfl, (blk_cell BK402.out 3).trans rfl, (blk_cell BK402.out 4).trans rfl, (blk_cell BK402.out 5).trans rfl, (blk_cell BK422.out 0).trans rfl, (blk_cell BK422.out 1).trans rfl, (blk_cell BK403.out 0).trans rfl, (blk_cell BK403.out 1).trans rfl⟩ (fun hHeld => ?_)
        clear hK K
        refine norm_ (a' := ?_) ?_ ?_
        rotate_left
        ·
         show Act.put _ (some 60) _ = _
         simp only [apz, i64_w, i32_w]
         rfl
        refine pure_ (i := 30) (N := some 61) (v := ?_) (a' := ?_) (bt 31 7) rfl rfl (any_of HT_.out (by kernel_rfl)) (fun _ _ _ h => h) (Or.inl ⟨by rfl, ?_⟩) ?_ ?_
        rotate_left; focus (intro w'; go_simp; with_reducible rfl)
        rotate_left; focus (simp only [apz, i64_w, i32_w]; rfl)
        refine pure_ (i := 31) (N := some 62) (v := undef) (a' := ?_) (bt 32 6) rfl rfl (any_of HT_.out (by kernel_rfl)) (fun _ _ _ h => h) (Or.inr ⟨by rfl, rfl⟩) ?_ ?_
        rotate_left; focus (simp only [apz, i64_w, i32_w]; rfl)
        refine pure_ (i := 32) (N := some 63) (v := undef) (a' := ?_) (bt 33 5) rfl rfl (any_of HT_.out (by kernel_rfl)) (fun _ _ _ h => h) (Or.inr ⟨by rfl, rfl⟩) ?_ ?_
        rotate_left; focus (simp only [apz, i64_w, i32_w]; rfl)
        refine pure_ (i := 33) (N := some 64) (v := undef) (a' := ?_) (bt 34 4) rfl rfl (any_of HT_.out (by kernel_rfl)) (fun _ _ _ h => h) (Or.inr ⟨by rfl, rfl⟩) ?_ ?_
        rotate_left; focus (simp only [apz, i64_w, i32_w]; rfl)
        refine pure_ (i := 34) (N := some 65) (v := ?_) (a' := ?_) (bt 35 3) rfl rfl (any_of HT_.out (by kernel_rfl)) (fun _ _ _ h => h) (Or.inl ⟨by rfl, ?_⟩) ?_ ?_
        rotate_left; focus (intro w'; go_simp; with_reducible rfl)
        rotate_left; focus (simp only [apz, i64_w, i32_w]; rfl)
        refine pure_ (i := 35) (N := some 66) (v := ?_) (a' := ?_) (bt 36 2) rfl rfl (any_of HT_.out (by kernel_rfl)) (fun _ _ _ h => h) (Or.inl ⟨by rfl, ?_⟩) ?_ ?_
        rotate_left; focus (intro w'; go_simp; with_reducible rfl)
        rotate_left; focus (simp only [apz, i64_w, i32_w]; rfl)
        refine pure_ (i := 36) (N := some 67) (v := ?_) (a' := ?_) (bt 37 1) rfl rfl (any_of HT_.out (by kernel_rfl)) (fun _ _ _ h => h) (Or.inl ⟨by rfl, ?_⟩) ?_ ?_
        rotate_left; focus (intro w'; go_simp; with_reducible rfl)
        rotate_left; focus (simp only [apz, i64_w, i32_w]; rfl)
        refine pure_ (i := 37) (N := some 4) (v := ?_) (a' := ?_) (bt 38 0) rfl rfl (any_of HT_.out (by kernel_rfl)) (fun _ _ _ h => h) (Or.inl ⟨by rfl, ?_⟩) ?_ ?_
        rotate_left; focus (intro w'; go_simp; with_reducible rfl)
        rotate_left; focus (simp only [apz, i64_w, i32_w]; rfl)
        refine done_ (done_of HT_.out (by kernel_rfl)) ?_
        try go_wp2
        go_ret
        exact ⟨by first | rfl | (simp [errW_none, errW_some] <;> rfl) | (rw [HE_.out]; done) | (simp [HE_.out]; done) | (have h_ := HE_.out; simp_all; done) | (have h_ := HE_.out; simp [*] at h_; simp [*, h_]; done) | (simp [*, errW_none, errW_some] <;> rfl), by exact wq HB.out⟩
      ·
       rw [if_neg c15] at H
       have c15b0 : (t419 == a1_0 && (t420 == a1_1)) = false := by simpa using c15
       (try (have c15b1 : decide (t419 = a1_0 && (t420 == a1_1)) = false := by simpa using c15))
       (try (have c15b2 : (t419 == a1_0 && (t420 == a1_1)) = false := by simpa using c15))
       (try (have c15b3 : ¬ (t419 = a1_0 && (t420 == a1_1)) := by simpa using c15))
       clear c15
       exact absurd H (by simp)
     ·
      rw [if_neg c14] at H
      have c14b0 : (t421 == 0) = false := beq_eq_false_iff_ne.mpr c14
      have c14b1 : (t421 != 0) = true := bne_iff_ne.mpr c14
      replace H := Option.bind_eq_some_iff.mp H
      obtain ⟨t427, A810, H⟩ := H
      replace H : (if t427 = true then ((pointillistref08_In.f a1_1).bind fun t428 => (some ((t421 == 0) == t428))) else (some ((t421 == 0) == false))) = some true := H
      have A81 := Aside0.mk A810
      clear A810
      by_cases c82 : t427 = true
      ·
       subst c82
       have H1 : ((pointillistref08_In.f a1_1).bind fun t428 => (some ((t421 == 0) == t428))) = some true := by rw [if_pos rfl] at H; exact H
       clear H
       have H := H1
       clear H1
       replace H := Option.bind_eq_some_iff.mp H
       obtain ⟨t428, A830, H⟩ := H
       replace H : (some ((t421 == 0) == t428)) = some true := H
       have A83 := Aside0.mk A830
       clear A830
       have HE_ := Aside0.mk (Option.some.inj H)
       clear H
       go_enter Tryd.func3, Tryd.ntmps3
       try go_wp2_with (first | ((with_reducible refine gate_dst (N := 2) rfl ?_); refine box_event ?hg (N := 2) ?hd (cs := #[.int .i64 a0_0, .int .i64 a0_1, .int .i64 a0_2, .int .i64 a0_3, .int .i64 a0_4, .int .i64 a0_5]) (t := 23) ?hr ?_; (case hd => rfl); (case hg => rfl); (case hr => first | (go_simp; done) | (go_simp; rfl)); intro gb402 hg w84 hbox hb; have n0_ := Aside0.mk (below_step (wq HB.out) hb); have n1_ := Aside0.mk (hbox); have n2_ := Aside0.mk ((by rw [hg]; exact (below_size (wq HB.out)) : w.heap.size ≤ gb402)); have n3_ := n2_; clear HB; have HB := n0_; have BK402 := n1_; have GW402 := n2_; have GE402 := n3_; clear n0_ n1_ n2_ n3_ hb hbox hg) | ((with_reducible refine gate_dst (N := 3) rfl ?_); refine box_event ?hg (N := 3) ?hd (cs := #[.int .i64 a1_0, .int .i64 a1_1]) (t := 25) ?hr ?_; (case hd => rfl); (case hg => rfl); (case hr => first | (go_simp; done) | (go_simp; rfl)); intro gb403 hg w85 hbox hb; have n0_ := Aside0.mk (blk_below (bq BK402.out) hb); have n1_ := Aside0.mk (below_step (wq HB.out) hb); have n2_ := Aside0.mk (hbox); have n3_ := Aside0.mk ((by rw [hg]; exact (below_size (wq HB.out)) : w.heap.size ≤ gb403)); have n4_ := n3_; have n5_ := Aside0.mk ((by rw [hg]; exact Nat.ne_of_lt (blk_lt (bq BK402.out)) : gb402 ≠ gb403)); have n6_ := Aside0.mk ((by rw [hg]; exact Nat.ne_of_gt (blk_lt (bq BK402.out)) : gb403 ≠ gb402)); clear BK402 HB; have BK402 := n0_; have HB := n1_; have BK403 := n2_; have GW403 := n3_; have GE403 := n4_; have NB402_403 := n5_; have NB403_402 := n6_; clear n0_ n1_ n2_ n3_ n4_ n5_ n6_ hb hbox hg) | ((with_reducible refine gate_callee (f := 8) rfl ?_); refine goesL_ (some 11) rfl rfl Tryd.func8 (by kernel_rfl) rfl #[] rfl (by (try simp only [List.map_toArray, List.map_cons, List.map_nil]); first | done | rfl | (simp only [List.length_drop, List.length_take]; rfl)) ?_; (with_reducible refine (pointillistlaw08_wakes.calls k  true _ ?side1 A3.out).mono ?_); (case side1 => exact Gl.below HG.out (wq HB.out)); rintro e w86 ⟨rfl, hb⟩; refine ⟨_, rfl, ?_⟩; have n0_ := Aside0.mk (blk_below (bq BK402.out) hb); have n1_ := Aside0.mk (blk_below (bq BK403.out) hb); have n2_ := Aside0.mk (below_step (wq HB.out) hb); clear BK402 BK403 HB; have BK402 := n0_; have BK403 := n1_; have HB := n2_; clear n0_ n1_ n2_; (try clear hb); (try clear hb2); (try clear hk); (try clear hi); have hnb87 := NB402_403.out; have hnc87 := NB403_402.out; have hcz88_0 : w86.cell? ⟨gb402, 0, none⟩ = some (.int .i64 a0_0) := (blk_cell BK402.out 0).trans rfl; have hcz88_1 : w86.cell? ⟨gb402, 1, none⟩ = some (.int .i64 a0_1) := (blk_cell BK402.out 1).trans rfl; have hcz88_2 : w86.cell? ⟨gb402, 2, none⟩ = some (.int .i64 a0_2) := (blk_cell BK402.out 2).trans rfl; have hcz88_3 : w86.cell? ⟨gb402, 3, none⟩ = some (.int .i64 a0_3) := (blk_cell BK402.out 3).trans rfl; have hcz88_4 : w86.cell? ⟨gb402, 4, none⟩ = some (.int .i64 a0_4) := (blk_cell BK402.out 4).trans rfl; have hcz88_5 : w86.cell? ⟨gb402, 5, none⟩ = some (.int .i64 a0_5) := (blk_cell BK402.out 5).trans rfl; have hfz88_0 := blk_frozen BK402.out 0; have hfz88_1 := blk_frozen BK402.out 1; have hfz88_2 := blk_frozen BK402.out 2; have hfz88_3 := blk_frozen BK402.out 3; have hfz88_4 := blk_frozen BK402.out 4; have hfz88_5 := blk_frozen BK402.out 5; have hcz89_0 : w86.cell? ⟨gb403, 0, none⟩ = some (.int .i64 a1_0) := (blk_cell BK403.out 0).trans rfl; have hcz89_1 : w86.cell? ⟨gb403, 1, none⟩ = some (.int .i64 a1_1) := (blk_cell BK403.out 1).trans rfl; have hfz89_0 := blk_frozen BK403.out 0; have hfz89_1 := blk_frozen BK403.out 1) | ((with_reducible refine gate_callee (f := 9) rfl ?_); refine goesL_ (some 16) rfl rfl Tryd.func9 (by kernel_rfl) rfl #[.agg #[.int .i64 a0_0, .int .i64 a0_1, .int .i64 a0_2, .int .i64 a0_3, .int .i64 a0_4, .int .i64 a0_5], .agg #[.int .i64 a1_0, .int .i64 a1_1]] rfl (by (try simp only [List.map_toArray, List.map_cons, List.map_nil]); first | done | rfl | (simp only [List.length_drop, List.length_take]; rfl)) ?_; (with_reducible refine (affine_Apply.calls k a0_0 a0_1 a0_2 a0_3 a0_4 a0_5 a1_0 a1_1 t405 t406 t407 _ ?side1 A5.out).mono ?_); (case side1 => exact Gl.below HG.out (wq HB.out)); rintro e w90 ⟨rfl, hb⟩; refine ⟨_, rfl, ?_⟩; have n0_ := Aside0.mk (blk_below (bq BK402.out) hb); have n1_ := Aside0.mk (blk_below (bq BK403.out) hb); have n2_ := Aside0.mk (below_step (wq HB.out) hb); clear BK402 BK403 HB; have BK402 := n0_; have BK403 := n1_; have HB := n2_; clear n0_ n1_ n2_; (try clear hb); (try clear hb2); (try clear hk); (try clear hi)) | ((with_reducible refine gate_dst (N := 5) rfl ?_); refine box_event ?hg (N := 5) ?hd (cs := #[.int .i64 0, .int .i64 0]) (t := 25) ?hr ?_; (case hd => rfl); (case hg => rfl); (case hr => first | (go_simp; done) | (go_simp; rfl)); intro gb408 hg w91 hbox hb; have n0_ := Aside0.mk (blk_below (bq BK402.out) hb); have n1_ := Aside0.mk (blk_below (bq BK403.out) hb); have n2_ := Aside0.mk (below_step (wq HB.out) hb); have n3_ := Aside0.mk (hbox); have n4_ := Aside0.mk ((by rw [hg]; exact (below_size (wq HB.out)) : w.heap.size ≤ gb408)); have n5_ := n4_; have n6_ := Aside0.mk ((by rw [hg]; exact Nat.ne_of_lt (blk_lt (bq BK402.out)) : gb402 ≠ gb408)); have n7_ := Aside0.mk ((by rw [hg]; exact Nat.ne_of_gt (blk_lt (bq BK402.out)) : gb408 ≠ gb402)); have n8_ := Aside0.mk ((by rw [hg]; exact Nat.ne_of_lt (blk_lt (bq BK403.out)) : gb403 ≠ gb408)); have n9_ := Aside0.mk ((by rw [hg]; exact Nat.ne_of_gt (blk_lt (bq BK403.out)) : gb408 ≠ gb403)); clear BK402 BK403 HB; have BK402 := n0_; have BK403 := n1_; have HB := n2_; have BK408 := n3_; have GW408 := n4_; have GE408 := n5_; have NB402_408 := n6_; have NB408_402 := n7_; have NB403_408 := n8_; have NB408_403 := n9_; clear n0_ n1_ n2_ n3_ n4_ n5_ n6_ n7_ n8_ n9_ hb hbox hg; have hnb92 := NB408_402.out; have hnc92 := NB402_408.out; have hnb93 := NB408_403.out; have hnc93 := NB403_408.out; have hcz94_0 : w91.cell? ⟨gb408, 0, none⟩ = some (.int .i64 0) := (blk_cell BK408.out 0).trans rfl; have hcz94_1 : w91.cell? ⟨gb408, 1, none⟩ = some (.int .i64 0) := (blk_cell BK408.out 1).trans rfl; have hfz94_0 := blk_frozen BK408.out 0; have hfz94_1 := blk_frozen BK408.out 1; have hcz95_0 : w91.cell? ⟨gb402, 0, none⟩ = some (.int .i64 a0_0) := (blk_cell BK402.out 0).trans rfl; have hcz95_1 : w91.cell? ⟨gb402, 1, none⟩ = some (.int .i64 a0_1) := (blk_cell BK402.out 1).trans rfl; have hcz95_2 : w91.cell? ⟨gb402, 2, none⟩ = some (.int .i64 a0_2) := (blk_cell BK402.out 2).trans rfl; have hcz95_3 : w91.cell? ⟨gb402, 3, none⟩ = some (.int .i64 a0_3) := (blk_cell BK402.out 3).trans rfl; have hcz95_4 : w91.cell? ⟨gb402, 4, none⟩ = some (.int .i64 a0_4) := (blk_cell BK402.out 4).trans rfl; have hcz95_5 : w91.cell? ⟨gb402, 5, none⟩ = some (.int .i64 a0_5) := (blk_cell BK402.out 5).trans rfl; have hfz95_0 := blk_frozen BK402.out 0; have hfz95_1 := blk_frozen BK402.out 1; have hfz95_2 := blk_frozen BK402.out 2; have hfz95_3 := blk_frozen BK402.out 3; have hfz95_4 := blk_frozen BK402.out 4; have hfz95_5 := blk_frozen BK402.out 5; have hcz96_0 : w91.cell? ⟨gb403, 0, none⟩ = some (.int .i64 a1_0) := (blk_cell BK403.out 0).trans rfl; have hcz96_1 : w91.cell? ⟨gb403, 1, none⟩ = some (.int .i64 a1_1) := (blk_cell BK403.out 1).trans rfl; have hfz96_0 := blk_frozen BK403.out 0; have hfz96_1 := blk_frozen BK403.out 1) | ((with_reducible refine gate_callee (f := 10) rfl ?_); refine goesL_ (some 22) rfl rfl Tryd.func10 (by kernel_rfl) rfl #[.agg #[.int .i64 a0_0, .int .i64 a0_1, .int .i64 a0_2, .int .i64 a0_3, .int .i64 a0_4, .int .i64 a0_5], .agg #[.int .i64 a1_0, .int .i64 a1_1]] rfl (by (try simp only [List.map_toArray, List.map_cons, List.map_nil]); first | done | rfl | (simp only [List.length_drop, List.length_take]; rfl)) ?_; (with_reducible refine (pointillistref08_Apply.calls k a0_0 a0_1 a0_2 a0_3 a0_4 a0_5 a1_0 a1_1 t409 t410 t411 _ A6.out).mono ?_); rintro e w97 ⟨rfl, hb⟩; refine ⟨_, rfl, ?_⟩; have n0_ := Aside0.mk (blk_below (g := gb402) (o := .cells #[.int .i64 a0_0, .int .i64 a0_1, .int .i64 a0_2, .int .i64 a0_3, .int .i64 a0_4, .int .i64 a0_5] 23 (0, 0)) (by refine bq ?_; refine blk_far ?_ NB402_408.out _; refine bq ?_; refine blk_far ?_ NB402_408.out _; refine bq ?_; exact BK402.out) hb); have n1_ := Aside0.mk (blk_below (g := gb403) (o := .cells #[.int .i64 a1_0, .int .i64 a1_1] 25 (0, 0)) (by refine bq ?_; refine blk_far ?_ NB403_408.out _; refine bq ?_; refine blk_far ?_ NB403_408.out _; refine bq ?_; exact BK403.out) hb); have n2_ := Aside0.mk (blk_below (g := gb408) (o := .cells #[.int .i64 t405, .int .i64 t406] 25 (0, 0)) (by refine bq ?_; refine blk_put (cs := #[.int .i64 t405, .int .i64 0]) ?_ 1 _ rfl; refine bq ?_; refine blk_put (cs := #[.int .i64 0, .int .i64 0]) ?_ 0 _ rfl; refine bq ?_; exact BK408.out) hb); have n3_ := Aside0.mk (below_step (wq HB.out) hb); clear BK402 BK403 BK408 HB; have BK402 := n0_; have BK403 := n1_; have BK408 := n2_; have HB := n3_; clear n0_ n1_ n2_ n3_; (try clear hb); (try clear hb2); (try clear hk); (try clear hi)) | ((with_reducible refine gate_dst (N := 7) rfl ?_); refine box_event ?hg (N := 7) ?hd (cs := #[.int .i64 0, .int .i64 0]) (t := 25) ?hr ?_; (case hd => rfl); (case hg => rfl); (case hr => first | (go_simp; done) | (go_simp; rfl)); intro gb412 hg w98 hbox hb; have n0_ := Aside0.mk (blk_below (bq BK402.out) hb); have n1_ := Aside0.mk (blk_below (bq BK403.out) hb); have n2_ := Aside0.mk (blk_below (bq BK408.out) hb); have n3_ := Aside0.mk (below_step (wq HB.out) hb); have n4_ := Aside0.mk (hbox); have n5_ := Aside0.mk ((by rw [hg]; exact (below_size (wq HB.out)) : w.heap.size ≤ gb412)); have n6_ := n5_; have n7_ := Aside0.mk ((by rw [hg]; exact Nat.ne_of_lt (blk_lt (bq BK402.out)) : gb402 ≠ gb412)); have n8_ := Aside0.mk ((by rw [hg]; exact Nat.ne_of_gt (blk_lt (bq BK402.out)) : gb412 ≠ gb402)); have n9_ := Aside0.mk ((by rw [hg]; exact Nat.ne_of_lt (blk_lt (bq BK403.out)) : gb403 ≠ gb412)); have n10_ := Aside0.mk ((by rw [hg]; exact Nat.ne_of_gt (blk_lt (bq BK403.out)) : gb412 ≠ gb403)); have n11_ := Aside0.mk ((by rw [hg]; exact Nat.ne_of_lt (blk_lt (bq BK408.out)) : gb408 ≠ gb412)); have n12_ := Aside0.mk ((by rw [hg]; exact Nat.ne_of_gt (blk_lt (bq BK408.out)) : gb412 ≠ gb408)); clear BK402 BK403 BK408 HB; have BK402 := n0_; have BK403 := n1_; have BK408 := n2_; have HB := n3_; have BK412 := n4_; have GW412 := n5_; have GE412 := n6_; have NB402_412 := n7_; have NB412_402 := n8_; have NB403_412 := n9_; have NB412_403 := n10_; have NB408_412 := n11_; have NB412_408 := n12_; clear n0_ n1_ n2_ n3_ n4_ n5_ n6_ n7_ n8_ n9_ n10_ n11_ n12_ hb hbox hg; have hnb99 := NB412_402.out; have hnc99 := NB402_412.out; have hnb100 := NB412_403.out; have hnc100 := NB403_412.out; have hnb101 := NB412_408.out; have hnc101 := NB408_412.out; have hcz102_0 : w98.cell? ⟨gb412, 0, none⟩ = some (.int .i64 0) := (blk_cell BK412.out 0).trans rfl; have hcz102_1 : w98.cell? ⟨gb412, 1, none⟩ = some (.int .i64 0) := (blk_cell BK412.out 1).trans rfl; have hfz102_0 := blk_frozen BK412.out 0; have hfz102_1 := blk_frozen BK412.out 1))
       have n0_ : Aside0 (((w98.setCell ⟨gb412, 0, none⟩ (.int .i64 t409)).setCell ⟨gb412, 1, none⟩ (.int .i64 t410)).heap[gb402]? = some (.cells #[.int .i64 a0_0, .int .i64 a0_1, .int .i64 a0_2, .int .i64 a0_3, .int .i64 a0_4, .int .i64 a0_5] 23 (0, 0))) := ⟨by refine bq ?_; refine blk_far ?_ NB402_412.out _; refine bq ?_; refine blk_far ?_ NB402_412.out _; refine bq ?_; exact BK402.out⟩
       have n1_ : Aside0 (((w98.setCell ⟨gb412, 0, none⟩ (.int .i64 t409)).setCell ⟨gb412, 1, none⟩ (.int .i64 t410)).heap[gb403]? = some (.cells #[.int .i64 a1_0, .int .i64 a1_1] 25 (0, 0))) := ⟨by refine bq ?_; refine blk_far ?_ NB403_412.out _; refine bq ?_; refine blk_far ?_ NB403_412.out _; refine bq ?_; exact BK403.out⟩
       have n2_ : Aside0 (((w98.setCell ⟨gb412, 0, none⟩ (.int .i64 t409)).setCell ⟨gb412, 1, none⟩ (.int .i64 t410)).heap[gb408]? = some (.cells #[.int .i64 t405, .int .i64 t406] 25 (0, 0))) := ⟨by refine bq ?_; refine blk_far ?_ NB408_412.out _; refine bq ?_; refine blk_far ?_ NB408_412.out _; refine bq ?_; exact BK408.out⟩
       have n3_ : Aside0 (((w98.setCell ⟨gb412, 0, none⟩ (.int .i64 t409)).setCell ⟨gb412, 1, none⟩ (.int .i64 t410)).heap[gb412]? = some (.cells #[.int .i64 t409, .int .i64 t410] 25 (0, 0))) := ⟨by refine bq ?_; refine blk_put (cs := #[.int .i64 t409, .int .i64 0]) ?_ 1 _ rfl; refine bq ?_; refine blk_put (cs := #[.int .i64 0, .int .i64 0]) ?_ 0 _ rfl; refine bq ?_; exact BK412.out⟩
       have n4_ : Aside0 (Below w.heap.size w ((w98.setCell ⟨gb412, 0, none⟩ (.int .i64 t409)).setCell ⟨gb412, 1, none⟩ (.int .i64 t410))) := ⟨by exact wq HB.out⟩
       (try clear BK402)
       (try clear BK403)
       (try clear BK408)
       (try clear BK412)
       (try clear HB)
       generalize ((w98.setCell ⟨gb412, 0, none⟩ (.int .i64 t409)).setCell ⟨gb412, 1, none⟩ (.int .i64 t410)) = w103 at n0_ n1_ n2_ n3_ n4_ ⊢
       have BK402 := n0_; have BK403 := n1_; have BK408 := n2_; have BK412 := n3_; have HB := n4_; clear n0_ n1_ n2_ n3_ n4_
       have n0_ := Aside0.mk (blk_drew BK402.out)
       have n1_ := Aside0.mk (blk_drew BK403.out)
       have n2_ := Aside0.mk (blk_drew BK408.out)
       have n3_ := Aside0.mk (blk_drew BK412.out)
       have n4_ := Aside0.mk (below_drew1 HB.out)
       clear BK402 BK403 BK408 BK412; clear HB; have BK402 := n0_; have BK403 := n1_; have BK408 := n2_; have BK412 := n3_; have HB := n4_; clear n0_ n1_ n2_ n3_ n4_
       refine start_ (n := 9) (S := fun w' => w'.cell? ⟨gb403, 0, none⟩ = some (.int .i64 a1_0) ∧ w'.cell? ⟨gb403, 1, none⟩ = some (.int .i64 a1_1)) (ds := []) (bt 0 9) (by kernel_rfl) rfl rfl ⟨(blk_cell BK403.out 0).trans rfl, (blk_cell BK403.out 1).trans rfl⟩ (fun hHeld => ?_); refine with_tabW pointillistlaw08_AffineApplies.tab5 pointillistlaw08_AffineApplies.bits5 (fun HT_ HW_ => ?_)
       generalize w103.drew = w104 at BK402 BK403 BK408 BK412 HB hHeld ⊢
       refine take_ (i := 1) (N := some 27) (v := ?_) (a' := ?_) #[false, true, false, false, false, false, false, false, false] rfl rfl (take_ofW HT_.out HW_.out (by kernel_rfl)) (fun _ _ _ h => h) (Or.inl ⟨by rfl, ?_⟩) hHeld ?_ ?_
       rotate_left
       ·
        rintro w' ⟨s0, s1⟩
        go_simp
        with_reducible rfl
       rotate_left; focus (simp only [apz, i64_w, i32_w]; rfl)
       refine join_ (σ := Nat) 2 (bt 7 2) (fun s_ => [(26, .agg #[.int .i64 t413, .int .i64 t414, .int .i64 t415, .int .i64 t416, .int .i64 t417, .int .i64 t418]), (28, .tuple #[.agg #[.int .i64 t419, .int .i64 t420], .int .i64 t421]), (9, .pointer (some ⟨s_, 0, none⟩)), (25, .tuple #[.agg #[.int .i64 t419, .int .i64 t420], .int .i64 t421]), (29, .agg #[.int .i64 t419, .int .i64 t420]), (30, .int .i64 t421)]) (fun s_ w' => (w'.cell? ⟨gb403, 0, none⟩ = some (.int .i64 a1_0) ∧ w'.cell? ⟨gb403, 1, none⟩ = some (.int .i64 a1_1)) ∧ (w'.heap[gb402]? = some (.cells #[.int .i64 a0_0, .int .i64 a0_1, .int .i64 a0_2, .int .i64 a0_3, .int .i64 a0_4, .int .i64 a0_5] 23 (0, 0))) ∧ (w'.heap[gb403]? = some (.cells #[.int .i64 a1_0, .int .i64 a1_1] 25 (0, 0))) ∧ (w'.heap[gb408]? = some (.cells #[.int .i64 t405, .int .i64 t406] 25 (0, 0))) ∧ (w'.heap[gb412]? = some (.cells #[.int .i64 t409, .int .i64 t410] 25 (0, 0))) ∧ (w'.heap[s_]? = some (.cells #[.int .i64 0, .int .i64 0] 25 (0, 0))) ∧ (w.heap.size ≤ s_) ∧ (w.heap.size ≤ s_) ∧ (gb402 ≠ s_) ∧ (s_ ≠ gb402) ∧ (gb403 ≠ s_) ∧ (s_ ≠ gb403) ∧ (gb408 ≠ s_) ∧ (s_ ≠ gb408) ∧ (gb412 ≠ s_) ∧ (s_ ≠ gb412) ∧ (Below w.heap.size w w')) ?_ ?_
       rotate_left
       ·
        intro hCont
        refine two_ (i := 0) (j := 6) (Ni := some 26) (Nj := some 9) (bt 2 7) #[false, true, false, false, false, false, true, false, false] rfl rfl rfl rfl (two_of HT_.out (by kernel_rfl)) (by decide) (by decide) (fun K hK => ?_) (fun K hK => ?_)
        ·
         skip
         refine goes_ Tryd.func11 (by kernel_rfl) rfl #[] (by rfl) rfl rfl (by (try simp only [List.map_toArray, List.map_cons, List.map_nil]); first | done | rfl | (simp only [List.length_drop, List.length_take]; rfl)) ?_
         with_reducible refine (affine_Same.calls  t413 t414 t415 t416 t417 t418 _ A7.out).mono ?_
         rintro e w105 ⟨rfl, hb⟩
         refine ⟨_, rfl, ?_⟩
         have n0_ := Aside0.mk (blk_below (bq BK402.out) hb)
         have n1_ := Aside0.mk (blk_below (bq BK403.out) hb)
         have n2_ := Aside0.mk (blk_below (bq BK408.out) hb)
         have n3_ := Aside0.mk (blk_below (bq BK412.out) hb)
         have n4_ := Aside0.mk (below_step (wq HB.out) hb)
         clear BK402 BK403 BK408 BK412; clear HB; have BK402 := n0_; have BK403 := n1_; have BK408 := n2_; have BK412 := n3_; have HB := n4_; clear n0_ n1_ n2_ n3_ n4_
         (try clear hb)
         (try clear hb2)
         (try clear hk)
         (try clear hi)
         refine hK.out _ _ ⟨(blk_cell BK403.out 0).trans rfl, (blk_cell BK403.out 1).trans rfl⟩ (fun hHeld => ?_)
         clear hK K
         refine norm_ (a' := ?_) ?_ ?_
         rotate_left
         ·
          show Act.put _ (some 26) _ = _
          simp only [apz, i64_w, i32_w]
          rfl
         refine two_ (i := 2) (j := 6) (Ni := some 28) (Nj := some 9) (bt 3 6) #[true, true, false, false, false, false, true, false, false] rfl rfl rfl rfl (two_of HT_.out (by kernel_rfl)) (by decide) (by decide) (fun K hK => ?_) (fun K hK => ?_)
         ·
          skip
          refine goes_ Tryd.func9 (by kernel_rfl) rfl #[.agg #[.int .i64 t413, .int .i64 t414, .int .i64 t415, .int .i64 t416, .int .i64 t417, .int .i64 t418], .agg #[.int .i64 a1_0, .int .i64 a1_1]] (by rfl) rfl rfl (by (try simp only [List.map_toArray, List.map_cons, List.map_nil]); first | done | rfl | (simp only [List.length_drop, List.length_take]; rfl)) ?_
          with_reducible refine (affine_Apply.calls k t413 t414 t415 t416 t417 t418 a1_0 a1_1 t419 t420 t421 _ ?side1 A8.out).mono ?_
          (case side1 => exact Gl.below HG.out (wq HB.out))
          rintro e w106 ⟨rfl, hb⟩
          refine ⟨_, rfl, ?_⟩
          have n0_ := Aside0.mk (blk_below (bq BK402.out) hb)
          have n1_ := Aside0.mk (blk_below (bq BK403.out) hb)
          have n2_ := Aside0.mk (blk_below (bq BK408.out) hb)
          have n3_ := Aside0.mk (blk_below (bq BK412.out) hb)
          have n4_ := Aside0.mk (below_step (wq HB.out) hb)
          clear BK402 BK403 BK408 BK412; clear HB; have BK402 := n0_; have BK403 := n1_; have BK408 := n2_; have BK412 := n3_; have HB := n4_; clear n0_ n1_ n2_ n3_ n4_
          (try clear hb)
          (try clear hb2)
          (try clear hk)
          (try clear hi)
          refine hK.out _ _ ⟨(blk_cell BK403.out 0).trans rfl, (blk_cell BK403.out 1).trans rfl⟩ (fun hHeld => ?_)
          clear hK K
          refine norm_ (a' := ?_) ?_ ?_
          rotate_left
          ·
           show Act.put _ (some 28) _ = _
           simp only [apz, i64_w, i32_w]
           rfl
          refine pure_ (i := 3) (N := some 25) (v := ?_) (a' := ?_) (bt 4 5) rfl rfl (any_of HT_.out (by kernel_rfl)) (fun _ _ _ h => h) (Or.inl ⟨by rfl, ?_⟩) ?_ ?_
          rotate_left; focus (intro w'; go_simp; with_reducible rfl)
          rotate_left; focus (simp only [apz, i64_w, i32_w]; rfl)
          refine pure_ (i := 4) (N := some 29) (v := ?_) (a' := ?_) (bt 5 4) rfl rfl (any_of HT_.out (by kernel_rfl)) (fun _ _ _ h => h) (Or.inl ⟨by rfl, ?_⟩) ?_ ?_
          rotate_left; focus (intro w'; go_simp; with_reducible rfl)
          rotate_left; focus (simp only [apz, i64_w, i32_w]; rfl)
          refine pure_ (i := 5) (N := some 30) (v := ?_) (a' := ?_) (bt 6 3) rfl rfl (any_of HT_.out (by kernel_rfl)) (fun _ _ _ h => h) (Or.inl ⟨by rfl, ?_⟩) ?_ ?_
          rotate_left; focus (intro w'; go_simp; with_reducible rfl)
          rotate_left; focus (simp only [apz, i64_w, i32_w]; rfl)
          refine one_ (i := 6) (N := some 9) (bt 7 2) rfl rfl (one_of HT_.out (by kernel_rfl)) (by decide) (fun K hK => ?_)
          refine box_step ?hg (N := 9) ?hd (cs := #[.int .i64 0, .int .i64 0]) (t := 25) ?hr ?_; (case hd => rfl); (case hg => rfl); (case hr => first | (go_simp; done) | (go_simp; rfl))
          intro gb422 hg w107 hbox hb
          have n0_ := Aside0.mk (blk_below (bq BK402.out) hb)
          have n1_ := Aside0.mk (blk_below (bq BK403.out) hb)
          have n2_ := Aside0.mk (blk_below (bq BK408.out) hb)
          have n3_ := Aside0.mk (blk_below (bq BK412.out) hb)
          have n4_ := Aside0.mk (below_step (wq HB.out) hb)
          have n5_ := Aside0.mk (hbox)
          have n6_ := Aside0.mk ((by rw [hg]; exact (below_size (wq HB.out)) : w.heap.size ≤ gb422))
          have n7_ := Aside0.mk ((by rw [hg]; exact (below_size (wq HB.out)) : w.heap.size ≤ gb422))
          have n8_ := Aside0.mk ((by rw [hg]; exact Nat.ne_of_lt (blk_lt (bq BK402.out)) : gb402 ≠ gb422))
          have n9_ := Aside0.mk ((by rw [hg]; exact Nat.ne_of_gt (blk_lt (bq BK402.out)) : gb422 ≠ gb402))
          have n10_ := Aside0.mk ((by rw [hg]; exact Nat.ne_of_lt (blk_lt (bq BK403.out)) : gb403 ≠ gb422))
          have n11_ := Aside0.mk ((by rw [hg]; exact Nat.ne_of_gt (blk_lt (bq BK403.out)) : gb422 ≠ gb403))
          have n12_ := Aside0.mk ((by rw [hg]; exact Nat.ne_of_lt (blk_lt (bq BK408.out)) : gb408 ≠ gb422))
          have n13_ := Aside0.mk ((by rw [hg]; exact Nat.ne_of_gt (blk_lt (bq BK408.out)) : gb422 ≠ gb408))
          have n14_ := Aside0.mk ((by rw [hg]; exact Nat.ne_of_lt (blk_lt (bq BK412.out)) : gb412 ≠ gb422))
          have n15_ := Aside0.mk ((by rw [hg]; exact Nat.ne_of_gt (blk_lt (bq BK412.out)) : gb422 ≠ gb412))
          clear BK402 BK403 BK408 BK412; clear HB; have BK402 := n0_; have BK403 := n1_; have BK408 := n2_; have BK412 := n3_; have HB := n4_; have BK422 := n5_; have GW422 := n6_; have GE422 := n7_; have NB402_422 := n8_; have NB422_402 := n9_; have NB403_422 := n10_; have NB422_403 := n11_; have NB408_422 := n12_; have NB422_408 := n13_; have NB412_422 := n14_; have NB422_412 := n15_; clear n0_ n1_ n2_ n3_ n4_ n5_ n6_ n7_ n8_ n9_ n10_ n11_ n12_ n13_ n14_ n15_ hb hbox hg
          refine hK.out _ _ ⟨(blk_cell BK403.out 0).trans rfl, (blk_cell BK403.out 1).trans rfl⟩ (fun hHeld => ?_)
          clear hK K
          refine norm_ (a' := ?_) ?_ ?_
          rotate_left
          ·
           show Act.put _ (some 9) _ = _
           simp only [apz, i64_w, i32_w]
           rfl
          exact norm_ (by simp only [putAll, apz]) (hCont (gb422) _ ⟨hHeld, (bq BK402.out), (bq BK403.out), (bq BK408.out), (bq BK412.out), (bq BK422.out), GW422.out, GE422.out, NB402_422.out, NB422_402.out, NB403_422.out, NB422_403.out, NB408_422.out, NB422_408.out, NB412_422.out, NB422_412.out, (wq HB.out)⟩)
         ·
          skip
          refine box_step ?hg (N := 9) ?hd (cs := #[.int .i64 0, .int .i64 0]) (t := 25) ?hr ?_; (case hd => rfl); (case hg => rfl); (case hr => first | (go_simp; done) | (go_simp; rfl))
          intro gb422 hg w106 hbox hb
          have n0_ := Aside0.mk (blk_below (bq BK402.out) hb)
          have n1_ := Aside0.mk (blk_below (bq BK403.out) hb)
          have n2_ := Aside0.mk (blk_below (bq BK408.out) hb)
          have n3_ := Aside0.mk (blk_below (bq BK412.out) hb)
          have n4_ := Aside0.mk (below_step (wq HB.out) hb)
          have n5_ := Aside0.mk (hbox)
          have n6_ := Aside0.mk ((by rw [hg]; exact (below_size (wq HB.out)) : w.heap.size ≤ gb422))
          have n7_ := Aside0.mk ((by rw [hg]; exact (below_size (wq HB.out)) : w.heap.size ≤ gb422))
          have n8_ := Aside0.mk ((by rw [hg]; exact Nat.ne_of_lt (blk_lt (bq BK402.out)) : gb402 ≠ gb422))
          have n9_ := Aside0.mk ((by rw [hg]; exact Nat.ne_of_gt (blk_lt (bq BK402.out)) : gb422 ≠ gb402))
          have n10_ := Aside0.mk ((by rw [hg]; exact Nat.ne_of_lt (blk_lt (bq BK403.out)) : gb403 ≠ gb422))
          have n11_ := Aside0.mk ((by rw [hg]; exact Nat.ne_of_gt (blk_lt (bq BK403.out)) : gb422 ≠ gb403))
          have n12_ := Aside0.mk ((by rw [hg]; exact Nat.ne_of_lt (blk_lt (bq BK408.out)) : gb408 ≠ gb422))
          have n13_ := Aside0.mk ((by rw [hg]; exact Nat.ne_of_gt (blk_lt (bq BK408.out)) : gb422 ≠ gb408))
          have n14_ := Aside0.mk ((by rw [hg]; exact Nat.ne_of_lt (blk_lt (bq BK412.out)) : gb412 ≠ gb422))
          have n15_ := Aside0.mk ((by rw [hg]; exact Nat.ne_of_gt (blk_lt (bq BK412.out)) : gb422 ≠ gb412))
          clear BK402 BK403 BK408 BK412; clear HB; have BK402 := n0_; have BK403 := n1_; have BK408 := n2_; have BK412 := n3_; have HB := n4_; have BK422 := n5_; have GW422 := n6_; have GE422 := n7_; have NB402_422 := n8_; have NB422_402 := n9_; have NB403_422 := n10_; have NB422_403 := n11_; have NB408_422 := n12_; have NB422_408 := n13_; have NB412_422 := n14_; have NB422_412 := n15_; clear n0_ n1_ n2_ n3_ n4_ n5_ n6_ n7_ n8_ n9_ n10_ n11_ n12_ n13_ n14_ n15_ hb hbox hg
          refine hK.out _ _ ⟨(blk_cell BK403.out 0).trans rfl, (blk_cell BK403.out 1).trans rfl⟩ (fun hHeld => ?_)
          clear hK K
          refine norm_ (a' := ?_) ?_ ?_
          rotate_left
          ·
           show Act.put _ (some 9) _ = _
           simp only [apz, i64_w, i32_w]
           rfl
          refine one_ (i := 2) (N := some 28) #[true, true, true, false, false, false, true, false, false] rfl rfl (one_of HT_.out (by kernel_rfl)) (by decide) (fun K hK => ?_)
          refine goes_ Tryd.func9 (by kernel_rfl) rfl #[.agg #[.int .i64 t413, .int .i64 t414, .int .i64 t415, .int .i64 t416, .int .i64 t417, .int .i64 t418], .agg #[.int .i64 a1_0, .int .i64 a1_1]] (by rfl) rfl rfl (by (try simp only [List.map_toArray, List.map_cons, List.map_nil]); first | done | rfl | (simp only [List.length_drop, List.length_take]; rfl)) ?_
          with_reducible refine (affine_Apply.calls k t413 t414 t415 t416 t417 t418 a1_0 a1_1 t419 t420 t421 _ ?side1 A8.out).mono ?_
          (case side1 => exact Gl.below HG.out (wq HB.out))
          rintro e w107 ⟨rfl, hb⟩
          refine ⟨_, rfl, ?_⟩
          have n0_ := Aside0.mk (blk_below (bq BK402.out) hb)
          have n1_ := Aside0.mk (blk_below (bq BK403.out) hb)
          have n2_ := Aside0.mk (blk_below (bq BK408.out) hb)
          have n3_ := Aside0.mk (blk_below (bq BK412.out) hb)
          have n4_ := Aside0.mk (blk_below (bq BK422.out) hb)
          have n5_ := Aside0.mk (below_step (wq HB.out) hb)
          clear BK402 BK403 BK408 BK412; clear BK422 HB; have BK402 := n0_; have BK403 := n1_; have BK408 := n2_; have BK412 := n3_; have BK422 := n4_; have HB := n5_; clear n0_ n1_ n2_ n3_ n4_ n5_
          (try clear hb)
          (try clear hb2)
          (try clear hk)
          (try clear hi)
          refine hK.out _ _ ⟨(blk_cell BK403.out 0).trans rfl, (blk_cell BK403.out 1).trans rfl⟩ (fun hHeld => ?_)
          clear hK K
          refine norm_ (a' := ?_) ?_ ?_
          rotate_left
          ·
           show Act.put _ (some 28) _ = _
           simp only [apz, i64_w, i32_w]
           rfl
          refine pure_ (i := 3) (N := some 25) (v := ?_) (a' := ?_) #[true, true, true, true, false, false, true, false, false] rfl rfl (any_of HT_.out (by kernel_rfl)) (fun _ _ _ h => h) (Or.inl ⟨by rfl, ?_⟩) ?_ ?_
          rotate_left; focus (intro w'; go_simp; with_reducible rfl)
          rotate_left; focus (simp only [apz, i64_w, i32_w]; rfl)
          refine pure_ (i := 4) (N := some 29) (v := ?_) (a' := ?_) #[true, true, true, true, true, false, true, false, false] rfl rfl (any_of HT_.out (by kernel_rfl)) (fun _ _ _ h => h) (Or.inl ⟨by rfl, ?_⟩) ?_ ?_
          rotate_left; focus (intro w'; go_simp; with_reducible rfl)
          rotate_left; focus (simp only [apz, i64_w, i32_w]; rfl)
          refine pure_ (i := 5) (N := some 30) (v := ?_) (a' := ?_) (bt 7 2) rfl rfl (any_of HT_.out (by kernel_rfl)) (fun _ _ _ h => h) (Or.inl ⟨by rfl, ?_⟩) ?_ ?_
          rotate_left; focus (intro w'; go_simp; with_reducible rfl)
          rotate_left; focus (simp only [apz, i64_w, i32_w]; rfl)
          exact norm_ (by simp only [putAll, apz]) (hCont (gb422) _ ⟨hHeld, (bq BK402.out), (bq BK403.out), (bq BK408.out), (bq BK412.out), (bq BK422.out), GW422.out, GE422.out, NB402_422.out, NB422_402.out, NB403_422.out, NB422_403.out, NB408_422.out, NB422_408.out, NB412_422.out, NB422_412.out, (wq HB.out)⟩)
        ·
         skip
         refine box_step ?hg (N := 9) ?hd (cs := #[.int .i64 0, .int .i64 0]) (t := 25) ?hr ?_; (case hd => rfl); (case hg => rfl); (case hr => first | (go_simp; done) | (go_simp; rfl))
         intro gb422 hg w105 hbox hb
         have n0_ := Aside0.mk (blk_below (bq BK402.out) hb)
         have n1_ := Aside0.mk (blk_below (bq BK403.out) hb)
         have n2_ := Aside0.mk (blk_below (bq BK408.out) hb)
         have n3_ := Aside0.mk (blk_below (bq BK412.out) hb)
         have n4_ := Aside0.mk (below_step (wq HB.out) hb)
         have n5_ := Aside0.mk (hbox)
         have n6_ := Aside0.mk ((by rw [hg]; exact (below_size (wq HB.out)) : w.heap.size ≤ gb422))
         have n7_ := Aside0.mk ((by rw [hg]; exact (below_size (wq HB.out)) : w.heap.size ≤ gb422))
         have n8_ := Aside0.mk ((by rw [hg]; exact Nat.ne_of_lt (blk_lt (bq BK402.out)) : gb402 ≠ gb422))
         have n9_ := Aside0.mk ((by rw [hg]; exact Nat.ne_of_gt (blk_lt (bq BK402.out)) : gb422 ≠ gb402))
         have n10_ := Aside0.mk ((by rw [hg]; exact Nat.ne_of_lt (blk_lt (bq BK403.out)) : gb403 ≠ gb422))
         have n11_ := Aside0.mk ((by rw [hg]; exact Nat.ne_of_gt (blk_lt (bq BK403.out)) : gb422 ≠ gb403))
         have n12_ := Aside0.mk ((by rw [hg]; exact Nat.ne_of_lt (blk_lt (bq BK408.out)) : gb408 ≠ gb422))
         have n13_ := Aside0.mk ((by rw [hg]; exact Nat.ne_of_gt (blk_lt (bq BK408.out)) : gb422 ≠ gb408))
         have n14_ := Aside0.mk ((by rw [hg]; exact Nat.ne_of_lt (blk_lt (bq BK412.out)) : gb412 ≠ gb422))
         have n15_ := Aside0.mk ((by rw [hg]; exact Nat.ne_of_gt (blk_lt (bq BK412.out)) : gb422 ≠ gb412))
         clear BK402 BK403 BK408 BK412; clear HB; have BK402 := n0_; have BK403 := n1_; have BK408 := n2_; have BK412 := n3_; have HB := n4_; have BK422 := n5_; have GW422 := n6_; have GE422 := n7_; have NB402_422 := n8_; have NB422_402 := n9_; have NB403_422 := n10_; have NB422_403 := n11_; have NB408_422 := n12_; have NB422_408 := n13_; have NB412_422 := n14_; have NB422_412 := n15_; clear n0_ n1_ n2_ n3_ n4_ n5_ n6_ n7_ n8_ n9_ n10_ n11_ n12_ n13_ n14_ n15_ hb hbox hg
         refine hK.out _ _ ⟨(blk_cell BK403.out 0).trans rfl, (blk_cell BK403.out 1).trans rfl⟩ (fun hHeld => ?_)
         clear hK K
         refine norm_ (a' := ?_) ?_ ?_
         rotate_left
         ·
          show Act.put _ (some 9) _ = _
          simp only [apz, i64_w, i32_w]
          rfl
         refine one_ (i := 0) (N := some 26) #[true, true, false, false, false, false, true, false, false] rfl rfl (one_of HT_.out (by kernel_rfl)) (by decide) (fun K hK => ?_)
         refine goes_ Tryd.func11 (by kernel_rfl) rfl #[] (by rfl) rfl rfl (by (try simp only [List.map_toArray, List.map_cons, List.map_nil]); first | done | rfl | (simp only [List.length_drop, List.length_take]; rfl)) ?_
         with_reducible refine (affine_Same.calls  t413 t414 t415 t416 t417 t418 _ A7.out).mono ?_
         rintro e w106 ⟨rfl, hb⟩
         refine ⟨_, rfl, ?_⟩
         have n0_ := Aside0.mk (blk_below (bq BK402.out) hb)
         have n1_ := Aside0.mk (blk_below (bq BK403.out) hb)
         have n2_ := Aside0.mk (blk_below (bq BK408.out) hb)
         have n3_ := Aside0.mk (blk_below (bq BK412.out) hb)
         have n4_ := Aside0.mk (blk_below (bq BK422.out) hb)
         have n5_ := Aside0.mk (below_step (wq HB.out) hb)
         clear BK402 BK403 BK408 BK412; clear BK422 HB; have BK402 := n0_; have BK403 := n1_; have BK408 := n2_; have BK412 := n3_; have BK422 := n4_; have HB := n5_; clear n0_ n1_ n2_ n3_ n4_ n5_
         (try clear hb)
         (try clear hb2)
         (try clear hk)
         (try clear hi)
         refine hK.out _ _ ⟨(blk_cell BK403.out 0).trans rfl, (blk_cell BK403.out 1).trans rfl⟩ (fun hHeld => ?_)
         clear hK K
         refine norm_ (a' := ?_) ?_ ?_
         rotate_left
         ·
          show Act.put _ (some 26) _ = _
          simp only [apz, i64_w, i32_w]
          rfl
         refine one_ (i := 2) (N := some 28) #[true, true, true, false, false, false, true, false, false] rfl rfl (one_of HT_.out (by kernel_rfl)) (by decide) (fun K hK => ?_)
         refine goes_ Tryd.func9 (by kernel_rfl) rfl #[.agg #[.int .i64 t413, .int .i64 t414, .int .i64 t415, .int .i64 t416, .int .i64 t417, .int .i64 t418], .agg #[.int .i64 a1_0, .int .i64 a1_1]] (by rfl) rfl rfl (by (try simp only [List.map_toArray, List.map_cons, List.map_nil]); first | done | rfl | (simp only [List.length_drop, List.length_take]; rfl)) ?_
         with_reducible refine (affine_Apply.calls k t413 t414 t415 t416 t417 t418 a1_0 a1_1 t419 t420 t421 _ ?side1 A8.out).mono ?_
         (case side1 => exact Gl.below HG.out (wq HB.out))
         rintro e w107 ⟨rfl, hb⟩
         refine ⟨_, rfl, ?_⟩
         have n0_ := Aside0.mk (blk_below (bq BK402.out) hb)
         have n1_ := Aside0.mk (blk_below (bq BK403.out) hb)
         have n2_ := Aside0.mk (blk_below (bq BK408.out) hb)
         have n3_ := Aside0.mk (blk_below (bq BK412.out) hb)
         have n4_ := Aside0.mk (blk_below (bq BK422.out) hb)
         have n5_ := Aside0.mk (below_step (wq HB.out) hb)
         clear BK402 BK403 BK408 BK412; clear BK422 HB; have BK402 := n0_; have BK403 := n1_; have BK408 := n2_; have BK412 := n3_; have BK422 := n4_; have HB := n5_; clear n0_ n1_ n2_ n3_ n4_ n5_
         (try clear hb)
         (try clear hb2)
         (try clear hk)
         (try clear hi)
         refine hK.out _ _ ⟨(blk_cell BK403.out 0).trans rfl, (blk_cell BK403.out 1).trans rfl⟩ (fun hHeld => ?_)
         clear hK K
         refine norm_ (a' := ?_) ?_ ?_
         rotate_left
         ·
          show Act.put _ (some 28) _ = _
          simp only [apz, i64_w, i32_w]
          rfl
         refine pure_ (i := 3) (N := some 25) (v := ?_) (a' := ?_) #[true, true, true, true, false, false, true, false, false] rfl rfl (any_of HT_.out (by kernel_rfl)) (fun _ _ _ h => h) (Or.inl ⟨by rfl, ?_⟩) ?_ ?_
         rotate_left; focus (intro w'; go_simp; with_reducible rfl)
         rotate_left; focus (simp only [apz, i64_w, i32_w]; rfl)
         refine pure_ (i := 4) (N := some 29) (v := ?_) (a' := ?_) #[true, true, true, true, true, false, true, false, false] rfl rfl (any_of HT_.out (by kernel_rfl)) (fun _ _ _ h => h) (Or.inl ⟨by rfl, ?_⟩) ?_ ?_
         rotate_left; focus (intro w'; go_simp; with_reducible rfl)
         rotate_left; focus (simp only [apz, i64_w, i32_w]; rfl)
         refine pure_ (i := 5) (N := some 30) (v := ?_) (a' := ?_) (bt 7 2) rfl rfl (any_of HT_.out (by kernel_rfl)) (fun _ _ _ h => h) (Or.inl ⟨by rfl, ?_⟩) ?_ ?_
         rotate_left; focus (intro w'; go_simp; with_reducible rfl)
         rotate_left; focus (simp only [apz, i64_w, i32_w]; rfl)
         exact norm_ (by simp only [putAll, apz]) (hCont (gb422) _ ⟨hHeld, (bq BK402.out), (bq BK403.out), (bq BK408.out), (bq BK412.out), (bq BK422.out), GW422.out, GE422.out, NB402_422.out, NB422_402.out, NB403_422.out, NB422_403.out, NB408_422.out, NB422_408.out, NB412_422.out, NB422_412.out, (wq HB.out)⟩)
       rintro gb422 w108 ⟨hS_, h0_, h1_, h2_, h3_, h4_, h5_, h6_, h7_, h8_, h9_, h10_, h11_, h12_, h13_, h14_, h15_⟩
       have n0_ : Aside0 (w108.heap[gb402]? = some (.cells #[.int .i64 a0_0, .int .i64 a0_1, .int .i64 a0_2, .int .i64 a0_3, .int .i64 a0_4, .int .i64 a0_5] 23 (0, 0))) := ⟨h0_⟩
       have n1_ : Aside0 (w108.heap[gb403]? = some (.cells #[.int .i64 a1_0, .int .i64 a1_1] 25 (0, 0))) := ⟨h1_⟩
       have n2_ : Aside0 (w108.heap[gb408]? = some (.cells #[.int .i64 t405, .int .i64 t406] 25 (0, 0))) := ⟨h2_⟩
       have n3_ : Aside0 (w108.heap[gb412]? = some (.cells #[.int .i64 t409, .int .i64 t410] 25 (0, 0))) := ⟨h3_⟩
       have n4_ : Aside0 (w108.heap[gb422]? = some (.cells #[.int .i64 0, .int .i64 0] 25 (0, 0))) := ⟨h4_⟩
       have n5_ : Aside0 (w.heap.size ≤ gb422) := ⟨h5_⟩
       have n6_ : Aside0 (w.heap.size ≤ gb422) := ⟨h6_⟩
       have n7_ : Aside0 (gb402 ≠ gb422) := ⟨h7_⟩
       have n8_ : Aside0 (gb422 ≠ gb402) := ⟨h8_⟩
       have n9_ : Aside0 (gb403 ≠ gb422) := ⟨h9_⟩
       have n10_ : Aside0 (gb422 ≠ gb403) := ⟨h10_⟩
       have n11_ : Aside0 (gb408 ≠ gb422) := ⟨h11_⟩
       have n12_ : Aside0 (gb422 ≠ gb408) := ⟨h12_⟩
       have n13_ : Aside0 (gb412 ≠ gb422) := ⟨h13_⟩
       have n14_ : Aside0 (gb422 ≠ gb412) := ⟨h14_⟩
       have n15_ : Aside0 (Below w.heap.size w w108) := ⟨h15_⟩
       clear BK402 BK403 BK408 BK412; clear HB h0_ h1_ h2_ h3_ h4_ h5_ h6_ h7_ h8_ h9_ h10_ h11_ h12_ h13_ h14_ h15_; have BK402 := n0_; have BK403 := n1_; have BK408 := n2_; have BK412 := n3_; have BK422 := n4_; have GW422 := n5_; have GE422 := n6_; have NB402_422 := n7_; have NB422_402 := n8_; have NB403_422 := n9_; have NB422_403 := n10_; have NB408_422 := n11_; have NB422_408 := n12_; have NB412_422 := n13_; have NB422_412 := n14_; have HB := n15_; clear n0_ n1_ n2_ n3_ n4_ n5_ n6_ n7_ n8_ n9_ n10_ n11_ n12_ n13_ n14_ n15_
       have hHeld : w108.cell? ⟨gb403, 0, none⟩ = some (.int .i64 a1_0) ∧ w108.cell? ⟨gb403, 1, none⟩ = some (.int .i64 a1_1) := hS_
       refine norm_ (a' := ?_) ?_ ?_
       rotate_left
       ·
        simp only [putAll, apz]
        rfl
       refine one_ (i := 7) (N := none) (bt 8 1) rfl rfl (one_of HT_.out (by kernel_rfl)) (by decide) (fun K hK => ?_)
       have hs109 : w108.cell? ⟨gb422, 0, none⟩ = some (.int .i64 0) := (blk_cell BK422.out 0).trans rfl
       have hfs109 := blk_frozen BK422.out 0
       have hns109_0 := NB402_422.out
       have hns109_1 := NB403_422.out
       have hns109_2 := NB408_422.out
       have hns109_3 := NB412_422.out
       have hms109_0 := NB422_402.out
       have hms109_1 := NB422_403.out
       have hms109_2 := NB422_408.out
       have hms109_3 := NB422_412.out
       have hs110 : w108.cell? ⟨gb422, 1, none⟩ = some (.int .i64 0) := (blk_cell BK422.out 1).trans rfl
       have hfs110 := blk_frozen BK422.out 1
       have hns110_0 := NB402_422.out
       have hns110_1 := NB403_422.out
       have hns110_2 := NB408_422.out
       have hns110_3 := NB412_422.out
       have hms110_0 := NB422_402.out
       have hms110_1 := NB422_403.out
       have hms110_2 := NB422_408.out
       have hms110_3 := NB422_412.out
       refine skip_ (w1 := ?_) (by rfl) rfl ?_ ?_
       rotate_left
       ·
        go_simp
        rfl
       refine hK.out _ _ ⟨((cell_far (p := ⟨gb422, _, none⟩) NB403_422.out _).trans (((cell_far (p := ⟨gb422, _, none⟩) NB403_422.out _).trans (hHeld.1)))), ((cell_far (p := ⟨gb422, _, none⟩) NB403_422.out _).trans (((cell_far (p := ⟨gb422, _, none⟩) NB403_422.out _).trans (hHeld.2))))⟩ (fun hHeld => ?_)
       clear hK K
       refine pure_ (i := 8) (N := some 10) (v := ?_) (a' := ?_) (bt 9 0) rfl rfl (any_of HT_.out (by kernel_rfl)) (fun _ _ _ h => h) (Or.inl ⟨by rfl, ?_⟩) ?_ ?_
       rotate_left; focus (intro w'; go_simp; with_reducible rfl)
       rotate_left; focus (simp only [apz, i64_w, i32_w]; rfl)
       refine done_ (done_of HT_.out (by kernel_rfl)) ?_
       try go_wp2
       have n0_ : Aside0 (((w108.setCell ⟨gb422, 0, none⟩ (.int .i64 t419)).setCell ⟨gb422, 1, none⟩ (.int .i64 t420)).heap[gb402]? = some (.cells #[.int .i64 a0_0, .int .i64 a0_1, .int .i64 a0_2, .int .i64 a0_3, .int .i64 a0_4, .int .i64 a0_5] 23 (0, 0))) := ⟨by refine bq ?_; refine blk_far ?_ NB402_422.out _; refine bq ?_; refine blk_far ?_ NB402_422.out _; refine bq ?_; exact BK402.out⟩
       have n1_ : Aside0 (((w108.setCell ⟨gb422, 0, none⟩ (.int .i64 t419)).setCell ⟨gb422, 1, none⟩ (.int .i64 t420)).heap[gb403]? = some (.cells #[.int .i64 a1_0, .int .i64 a1_1] 25 (0, 0))) := ⟨by refine bq ?_; refine blk_far ?_ NB403_422.out _; refine bq ?_; refine blk_far ?_ NB403_422.out _; refine bq ?_; exact BK403.out⟩
       have n2_ : Aside0 (((w108.setCell ⟨gb422, 0, none⟩ (.int .i64 t419)).setCell ⟨gb422, 1, none⟩ (.int .i64 t420)).heap[gb408]? = some (.cells #[.int .i64 t405, .int .i64 t406] 25 (0, 0))) := ⟨by refine bq ?_; refine blk_far ?_ NB408_422.out _; refine bq ?_; refine blk_far ?_ NB408_422.out _; refine bq ?_; exact BK408.out⟩
       have n3_ : Aside0 (((w108.setCell ⟨gb422, 0, none⟩ (.int .i64 t419)).setCell ⟨gb422, 1, none⟩ (.int .i64 t420)).heap[gb412]? = some (.cells #[.int .i64 t409, .int .i64 t410] 25 (0, 0))) := ⟨by refine bq ?_; refine blk_far ?_ NB412_422.out _; refine bq ?_; refine blk_far ?_ NB412_422.out _; refine bq ?_; exact BK412.out⟩
       have n4_ : Aside0 (((w108.setCell ⟨gb422, 0, none⟩ (.int .i64 t419)).setCell ⟨gb422, 1, none⟩ (.int .i64 t420)).heap[gb422]? = some (.cells #[.int .i64 t419, .int .i64 t420] 25 (0, 0))) := ⟨by refine bq ?_; refine blk_put (cs := #[.int .i64 t419, .int .i64 0]) ?_ 1 _ rfl; refine bq ?_; refine blk_put (cs := #[.int .i64 0, .int .i64 0]) ?_ 0 _ rfl; refine bq ?_; exact BK422.out⟩
       have n5_ : Aside0 (Below w.heap.size w ((w108.setCell ⟨gb422, 0, none⟩ (.int .i64 t419)).setCell ⟨gb422, 1, none⟩ (.int .i64 t420))) := ⟨by exact wq HB.out⟩
       (try clear BK402)
       (try clear BK403)
       (try clear BK408)
       (try clear BK412)
       (try clear BK422)
       (try clear HB)
       generalize ((w108.setCell ⟨gb422, 0, none⟩ (.int .i64 t419)).setCell ⟨gb422, 1, none⟩ (.int .i64 t420)) = w111 at n0_ n1_ n2_ n3_ n4_ n5_ ⊢
       have BK402 := n0_; have BK403 := n1_; have BK408 := n2_; have BK412 := n3_; have BK422 := n4_; have HB := n5_; clear n0_ n1_ n2_ n3_ n4_ n5_
       have n0_ := Aside0.mk (blk_drew BK402.out)
       have n1_ := Aside0.mk (blk_drew BK403.out)
       have n2_ := Aside0.mk (blk_drew BK408.out)
       have n3_ := Aside0.mk (blk_drew BK412.out)
       have n4_ := Aside0.mk (blk_drew BK422.out)
       have n5_ := Aside0.mk (below_drew1 HB.out)
       clear BK402 BK403 BK408 BK412; clear BK422 HB; have BK402 := n0_; have BK403 := n1_; have BK408 := n2_; have BK412 := n3_; have BK422 := n4_; have HB := n5_; clear n0_ n1_ n2_ n3_ n4_ n5_
       refine start_ (n := 38) (S := fun w' => w'.cell? ⟨gb408, 0, none⟩ = some (.int .i64 t405) ∧ w'.cell? ⟨gb408, 1, none⟩ = some (.int .i64 t406) ∧ w'.cell? ⟨gb412, 0, none⟩ = some (.int .i64 t409) ∧ w'.cell? ⟨gb412, 1, none⟩ = some (.int .i64 t410) ∧ w'.cell? ⟨gb402, 0, none⟩ = some (.int .i64 a0_0) ∧ w'.cell? ⟨gb402, 1, none⟩ = some (.int .i64 a0_1) ∧ w'.cell? ⟨gb402, 2, none⟩ = some (.int .i64 a0_2) ∧ w'.cell? ⟨gb402, 3, none⟩ = some (.int .i64 a0_3) ∧ w'.cell? ⟨gb402, 4, none⟩ = some (.int .i64 a0_4) ∧ w'.cell? ⟨gb402, 5, none⟩ = some (.int .i64 a0_5) ∧ w'.cell? ⟨gb403, 0, none⟩ = some (.int .i64 a1_0) ∧ w'.cell? ⟨gb403, 1, none⟩ = some (.int .i64 a1_1)) (ds := []) (bt 0 38) (by kernel_rfl) rfl rfl ⟨(blk_cell BK408.out 0).trans rfl, (blk_cell BK408.out 1).trans rfl, (blk_cell BK412.out 0).trans rfl, (blk_cell BK412.out 1).trans rfl, (blk_cell BK402.out 0).trans rfl, (blk_cell BK402.out 1).trans rfl, (blk_cell BK402.out 2).trans rfl, (blk_cell BK402.out 3).trans rfl, (blk_cell BK402.out 4).trans rfl, (blk_cell BK402.out 5).trans rfl, (blk_cell BK403.out 0).trans rfl, (blk_cell BK403.out 1).trans rfl⟩ (fun hHeld => ?_); refine with_tabW pointillistlaw08_AffineApplies.tab6 pointillistlaw08_AffineApplies.bits6 (fun HT_ HW_ => ?_)
       generalize w111.drew = w112 at BK402 BK403 BK408 BK412 BK422 HB hHeld ⊢
       refine take_ (i := 0) (N := some 31) (v := ?_) (a' := ?_) (bt 1 37) rfl rfl (take_ofW HT_.out HW_.out (by kernel_rfl)) (fun _ _ _ h => h) (Or.inl ⟨by rfl, ?_⟩) hHeld ?_ ?_
       rotate_left
       ·
        rintro w' ⟨s0, s1, s2, s3, s4, s5, s6, s7, s8, s9, s10, s11⟩
        go_simp
        with_reducible rfl
       rotate_left; focus (simp only [apz, i64_w, i32_w]; rfl)
       refine take_ (i := 1) (N := some 32) (v := ?_) (a' := ?_) (bt 2 36) rfl rfl (take_ofW HT_.out HW_.out (by kernel_rfl)) (fun _ _ _ h => h) (Or.inl ⟨by rfl, ?_⟩) hHeld ?_ ?_
       rotate_left
       ·
        rintro w' ⟨s0, s1, s2, s3, s4, s5, s6, s7, s8, s9, s10, s11⟩
        go_simp
        with_reducible rfl
       rotate_left; focus (simp only [apz, i64_w, i32_w]; rfl)
       refine pure_ (i := 2) (N := some 33) (v := ?_) (a' := ?_) (bt 3 35) rfl rfl (any_of HT_.out (by kernel_rfl)) (fun _ _ _ h => h) (Or.inl ⟨by rfl, ?_⟩) ?_ ?_
       rotate_left; focus (intro w'; go_simp; with_reducible rfl)
       rotate_left; focus (simp only [apz, i64_w, i32_w]; rfl)
       refine pure_ (i := 3) (N := some 34) (v := ?_) (a' := ?_) (bt 4 34) rfl rfl (any_of HT_.out (by kernel_rfl)) (fun _ _ _ h => h) (Or.inl ⟨by rfl, ?_⟩) ?_ ?_
       rotate_left; focus (intro w'; go_simp; with_reducible rfl)
       rotate_left; focus (simp only [apz, i64_w, i32_w]; rfl)
       refine pure_ (i := 4) (N := some 35) (v := ?_) (a' := ?_) (bt 5 33) rfl rfl (any_of HT_.out (by kernel_rfl)) (fun _ _ _ h => h) (Or.inl ⟨by rfl, ?_⟩) ?_ ?_
       rotate_left; focus (intro w'; go_simp; with_reducible rfl)
       rotate_left; focus (simp only [apz, i64_w, i32_w]; rfl)
       refine pure_ (i := 5) (N := some 36) (v := ?_) (a' := ?_) (bt 6 32) rfl rfl (any_of HT_.out (by kernel_rfl)) (fun _ _ _ h => h) (Or.inl ⟨by rfl, ?_⟩) ?_ ?_
       rotate_left; focus (intro w'; go_simp; with_reducible rfl)
       rotate_left; focus (simp only [apz, i64_w, i32_w]; rfl)
       refine pure_ (i := 6) (N := some 37) (v := ?_) (a' := ?_) (bt 7 31) rfl rfl (any_of HT_.out (by kernel_rfl)) (fun _ _ _ h => h) (Or.inl ⟨by rfl, ?_⟩) ?_ ?_
       rotate_left; focus (intro w'; go_simp; with_reducible rfl)
       rotate_left; focus (simp only [apz, i64_w, i32_w]; rfl)
       refine pure_ (i := 7) (N := some 38) (v := ?_) (a' := ?_) (bt 8 30) rfl rfl (any_of HT_.out (by kernel_rfl)) (fun _ _ _ h => h) (Or.inl ⟨by rfl, ?_⟩) ?_ ?_
       rotate_left; focus (intro w'; go_simp; with_reducible rfl)
       rotate_left; focus (simp only [apz, i64_w, i32_w]; rfl)
       refine pure_ (i := 8) (N := some 39) (v := ?_) (a' := ?_) (bt 9 29) rfl rfl (any_of HT_.out (by kernel_rfl)) (fun _ _ _ h => h) (Or.inl ⟨by rfl, ?_⟩) ?_ ?_
       rotate_left; focus (intro w'; go_simp; with_reducible rfl)
       rotate_left; focus (simp only [apz, i64_w, i32_w]; rfl)
       refine take_ (i := 9) (N := some 40) (v := ?_) (a' := ?_) (bt 10 28) rfl rfl (take_ofW HT_.out HW_.out (by kernel_rfl)) (fun _ _ _ h => h) (Or.inl ⟨by rfl, ?_⟩) hHeld ?_ ?_
       rotate_left
       ·
        rintro w' ⟨s0, s1, s2, s3, s4, s5, s6, s7, s8, s9, s10, s11⟩
        go_simp
        with_reducible rfl
       rotate_left; focus (simp only [apz, i64_w, i32_w]; rfl)
       refine take_ (i := 11) (N := some 42) (v := ?_) (a' := ?_) #[true, true, true, true, true, true, true, true, true, true, false, true, false, false, false, false, false, false, false, false, false, false, false, false, false, false, false, false, false, false, false, false, false, false, false, false, false, false] rfl rfl (take_ofW HT_.out HW_.out (by kernel_rfl)) (fun _ _ _ h => h) (Or.inl ⟨by rfl, ?_⟩) hHeld ?_ ?_
       rotate_left
       ·
        rintro w' ⟨s0, s1, s2, s3, s4, s5, s6, s7, s8, s9, s10, s11⟩
        go_simp
        with_reducible rfl
       rotate_left; focus (simp only [apz, i64_w, i32_w]; rfl)
       refine one_ (i := 10) (N := some 41) (bt 12 26) rfl rfl (one_of HT_.out (by kernel_rfl)) (by decide) (fun K hK => ?_)
       refine goes_ Tryd.func12 (by kernel_rfl) rfl #[.agg #[.int .i64 a0_0, .int .i64 a0_1, .int .i64 a0_2, .int .i64 a0_3, .int .i64 a0_4, .int .i64 a0_5]] (by rfl) rfl rfl (by (try simp only [List.map_toArray, List.map_cons, List.map_nil]); first | done | rfl | (simp only [List.length_drop, List.length_take]; rfl)) ?_
       with_reducible refine (affine_Right.calls k a0_0 a0_1 a0_2 a0_3 a0_4 a0_5 t423 _ A11.out).mono ?_
       rintro e w113 ⟨rfl, hb⟩
       refine ⟨_, rfl, ?_⟩
       have n0_ := Aside0.mk (blk_below (bq BK402.out) hb)
       have n1_ := Aside0.mk (blk_below (bq BK403.out) hb)
       have n2_ := Aside0.mk (blk_below (bq BK408.out) hb)
       have n3_ := Aside0.mk (blk_below (bq BK412.out) hb)
       have n4_ := Aside0.mk (blk_below (bq BK422.out) hb)
       have n5_ := Aside0.mk (below_step (wq HB.out) hb)
       clear BK402 BK403 BK408 BK412; clear BK422 HB; have BK402 := n0_; have BK403 := n1_; have BK408 := n2_; have BK412 := n3_; have BK422 := n4_; have HB := n5_; clear n0_ n1_ n2_ n3_ n4_ n5_
       (try clear hb)
       (try clear hb2)
       (try clear hk)
       (try clear hi)
       refine hK.out _ _ ⟨(blk_cell BK408.out 0).trans rfl, (blk_cell BK408.out 1).trans rfl, (blk_cell BK412.out 0).trans rfl, (blk_cell BK412.out 1).trans rfl, (blk_cell BK402.out 0).trans rfl, (blk_cell BK402.out 1).trans rfl, (blk_cell BK402.out 2).trans rfl, (blk_cell BK402.out 3).trans rfl, (blk_cell BK402.out 4).trans rfl, (blk_cell BK402.out 5).trans rfl, (blk_cell BK403.out 0).trans rfl, (blk_cell BK403.out 1).trans rfl⟩ (fun hHeld => ?_)
       clear hK K
       refine norm_ (a' := ?_) ?_ ?_
       rotate_left
       ·
        show Act.put _ (some 41) _ = _
        simp only [apz, i64_w, i32_w]
        rfl
       refine one_ (i := 12) (N := some 43) (bt 13 25) rfl rfl (one_of HT_.out (by kernel_rfl)) (by decide) (fun K hK => ?_)
       refine goes_ Tryd.func13 (by kernel_rfl) rfl #[.agg #[.int .i64 a0_0, .int .i64 a0_1, .int .i64 a0_2, .int .i64 a0_3, .int .i64 a0_4, .int .i64 a0_5]] (by rfl) rfl rfl (by (try simp only [List.map_toArray, List.map_cons, List.map_nil]); first | done | rfl | (simp only [List.length_drop, List.length_take]; rfl)) ?_
       with_reducible refine (pointillistref08_Right.calls a0_0 a0_1 a0_2 a0_3 a0_4 a0_5 t424 _ A12.out).mono ?_
       rintro e w114 ⟨rfl, hb⟩
       refine ⟨_, rfl, ?_⟩
       have n0_ := Aside0.mk (blk_below (bq BK402.out) hb)
       have n1_ := Aside0.mk (blk_below (bq BK403.out) hb)
       have n2_ := Aside0.mk (blk_below (bq BK408.out) hb)
       have n3_ := Aside0.mk (blk_below (bq BK412.out) hb)
       have n4_ := Aside0.mk (blk_below (bq BK422.out) hb)
       have n5_ := Aside0.mk (below_step (wq HB.out) hb)
       clear BK402 BK403 BK408 BK412; clear BK422 HB; have BK402 := n0_; have BK403 := n1_; have BK408 := n2_; have BK412 := n3_; have BK422 := n4_; have HB := n5_; clear n0_ n1_ n2_ n3_ n4_ n5_
       (try clear hb)
       (try clear hb2)
       (try clear hk)
       (try clear hi)
       refine hK.out _ _ ⟨(blk_cell BK408.out 0).trans rfl, (blk_cell BK408.out 1).trans rfl, (blk_cell BK412.out 0).trans rfl, (blk_cell BK412.out 1).trans rfl, (blk_cell BK402.out 0).trans rfl, (blk_cell BK402.out 1).trans rfl, (blk_cell BK402.out 2).trans rfl, (blk_cell BK402.out 3).trans rfl, (blk_cell BK402.out 4).trans rfl, (blk_cell BK402.out 5).trans rfl, (blk_cell BK403.out 0).trans rfl, (blk_cell BK403.out 1).trans rfl⟩ (fun hHeld => ?_)
       clear hK K
       refine norm_ (a' := ?_) ?_ ?_
       rotate_left
       ·
        show Act.put _ (some 43) _ = _
        simp only [apz, i64_w, i32_w]
        rfl
       refine pure_ (i := 13) (N := some 44) (v := ?_) (a' := ?_) (bt 14 24) rfl rfl (any_of HT_.out (by kernel_rfl)) (fun _ _ _ h => h) (Or.inl ⟨by rfl, ?_⟩) ?_ ?_
       rotate_left; focus (intro w'; go_simp; with_reducible rfl)
       rotate_left; focus (simp only [apz, i64_w, i32_w]; rfl)
       refine pure_ (i := 14) (N := some 45) (v := ?_) (a' := ?_) (bt 15 23) rfl rfl (any_of HT_.out (by kernel_rfl)) (fun _ _ _ h => h) (Or.inl ⟨by rfl, ?_⟩) ?_ ?_
       rotate_left; focus (intro w'; go_simp; with_reducible rfl)
       rotate_left; focus (simp only [apz, i64_w, i32_w]; rfl)
       refine pure_ (i := 15) (N := some 46) (v := ?_) (a' := ?_) (bt 16 22) rfl rfl (any_of HT_.out (by kernel_rfl)) (fun _ _ _ h => h) (Or.inl ⟨by rfl, ?_⟩) ?_ ?_
       rotate_left; focus (intro w'; go_simp; with_reducible rfl)
       rotate_left; focus (simp only [apz, i64_w, i32_w]; rfl)
       refine pure_ (i := 16) (N := some 47) (v := ?_) (a' := ?_) (bt 17 21) rfl rfl (any_of HT_.out (by kernel_rfl)) (fun _ _ _ h => h) (Or.inl ⟨by rfl, ?_⟩) ?_ ?_
       rotate_left; focus (intro w'; go_simp; with_reducible rfl)
       rotate_left; focus (simp only [apz, i64_w, i32_w]; rfl)
       refine pure_ (i := 17) (N := some 48) (v := ?_) (a' := ?_) (bt 18 20) rfl rfl (any_of HT_.out (by kernel_rfl)) (fun _ _ _ h => h) (Or.inl ⟨by rfl, ?_⟩) ?_ ?_
       rotate_left; focus (intro w'; go_simp; with_reducible rfl)
       rotate_left; focus (simp only [apz, i64_w, i32_w]; rfl)
       refine pure_ (i := 18) (N := some 49) (v := ?_) (a' := ?_) (bt 19 19) rfl rfl (any_of HT_.out (by kernel_rfl)) (fun _ _ _ h => h) (Or.inl ⟨by rfl, ?_⟩) ?_ ?_
       rotate_left; focus (intro w'; go_simp; with_reducible rfl)
       rotate_left; focus (simp only [apz, i64_w, i32_w]; rfl)
       refine pure_ (i := 19) (N := some 50) (v := undef) (a' := ?_) (bt 20 18) rfl rfl (any_of HT_.out (by kernel_rfl)) (fun _ _ _ h => h) (Or.inr ⟨by rfl, rfl⟩) ?_ ?_
       rotate_left; focus (simp only [apz, i64_w, i32_w]; rfl)
       refine pure_ (i := 20) (N := some 51) (v := undef) (a' := ?_) (bt 21 17) rfl rfl (any_of HT_.out (by kernel_rfl)) (fun _ _ _ h => h) (Or.inr ⟨by rfl, rfl⟩) ?_ ?_
       rotate_left; focus (simp only [apz, i64_w, i32_w]; rfl)
       refine pure_ (i := 21) (N := some 52) (v := undef) (a' := ?_) (bt 22 16) rfl rfl (any_of HT_.out (by kernel_rfl)) (fun _ _ _ h => h) (Or.inr ⟨by rfl, rfl⟩) ?_ ?_
       rotate_left; focus (simp only [apz, i64_w, i32_w]; rfl)
       refine pure_ (i := 22) (N := some 53) (v := ?_) (a' := ?_) (bt 23 15) rfl rfl (any_of HT_.out (by kernel_rfl)) (fun _ _ _ h => h) (Or.inl ⟨by rfl, ?_⟩) ?_ ?_
       rotate_left; focus (intro w'; go_simp; with_reducible rfl)
       rotate_left; focus (simp only [apz, i64_w, i32_w]; rfl)
       refine pure_ (i := 23) (N := some 54) (v := ?_) (a' := ?_) (bt 24 14) rfl rfl (any_of HT_.out (by kernel_rfl)) (fun _ _ _ h => h) (Or.inl ⟨by rfl, ?_⟩) ?_ ?_
       rotate_left; focus (intro w'; go_simp; with_reducible rfl)
       rotate_left; focus (simp only [apz, i64_w, i32_w]; rfl)
       refine pure_ (i := 24) (N := some 55) (v := ?_) (a' := ?_) (bt 25 13) rfl rfl (any_of HT_.out (by kernel_rfl)) (fun _ _ _ h => h) (Or.inl ⟨by rfl, ?_⟩) ?_ ?_
       rotate_left; focus (intro w'; go_simp; with_reducible rfl)
       rotate_left; focus (simp only [apz, i64_w, i32_w]; rfl)
       refine pure_ (i := 25) (N := some 56) (v := ?_) (a' := ?_) (bt 26 12) rfl rfl (any_of HT_.out (by kernel_rfl)) (fun _ _ _ h => h) (Or.inl ⟨by rfl, ?_⟩) ?_ ?_
       rotate_left; focus (intro w'; go_simp; with_reducible rfl)
       rotate_left; focus (simp only [apz, i64_w, i32_w]; rfl)
       refine pure_ (i := 26) (N := some 57) (v := ?_) (a' := ?_) (bt 27 11) rfl rfl (any_of HT_.out (by kernel_rfl)) (fun _ _ _ h => h) (Or.inl ⟨by rfl, ?_⟩) ?_ ?_
       rotate_left; focus (intro w'; go_simp; with_reducible rfl)
       rotate_left; focus (simp only [apz, i64_w, i32_w]; rfl)
       refine pure_ (i := 27) (N := some 58) (v := ?_) (a' := ?_) (bt 28 10) rfl rfl (any_of HT_.out (by kernel_rfl)) (fun _ _ _ h => h) (Or.inl ⟨by rfl, ?_⟩) ?_ ?_
       rotate_left; focus (intro w'; go_simp; with_reducible rfl)
       rotate_left; focus (simp only [apz, i64_w, i32_w]; rfl)
       refine take_ (i := 28) (N := some 59) (v := ?_) (a' := ?_) (bt 29 9) rfl rfl (take_ofW HT_.out HW_.out (by kernel_rfl)) (fun _ _ _ h => h) (Or.inl ⟨by rfl, ?_⟩) hHeld ?_ ?_
       rotate_left
       ·
        rintro w' ⟨s0, s1, s2, s3, s4, s5, s6, s7, s8, s9, s10, s11⟩
        go_simp
        with_reducible rfl
       rotate_left; focus (simp only [apz, i64_w, i32_w]; rfl)
       refine one_ (i := 29) (N := some 60) (bt 30 8) rfl rfl (one_of HT_.out (by kernel_rfl)) (by decide) (fun K hK => ?_)
       refine goes_ Tryd.func14 (by kernel_rfl) rfl #[.int .i64 a1_0] (by rfl) rfl rfl (by (try simp only [List.map_toArray, List.map_cons, List.map_nil]); first | done | rfl | (simp only [List.length_drop, List.length_take]; rfl)) ?_
       with_reducible refine (pointillistref08_In.calls a1_0 true _ A81.out).mono ?_
       rintro e w' ⟨rfl, ⟨nd, rfl⟩⟩
       refine ⟨_, rfl, ?_⟩
       refine hK.out _ _ ⟨(blk_cell BK408.out 0).trans rfl, (blk_cell BK408.out 1).trans rfl, (blk_cell BK412.out 0).trans rfl, (blk_cell BK412.out 1).trans rfl, (blk_cell BK402.out 0).trans rfl, (blk_cell BK402.out 1).trans rfl, (blk_cell BK402.out 2).trans rfl, (blk_cell BK402.out 3).trans rfl, (blk_cell BK402.out 4).trans rfl, (blk_cell BK402.out 5).trans rfl, (blk_cell BK403.out 0).trans rfl, (blk_cell BK403.out 1).trans rfl⟩ (fun hHeld => ?_)
       clear hK K
       refine norm_ (a' := ?_) ?_ ?_
       rotate_left
       ·
        show Act.put _ (some 60) _ = _
        simp only [apz, i64_w, i32_w]
        rfl
       refine pure_ (i := 30) (N := some 61) (v := ?_) (a' := ?_) (bt 31 7) rfl rfl (any_of HT_.out (by kernel_rfl)) (fun _ _ _ h => h) (Or.inl ⟨by rfl, ?_⟩) ?_ ?_
       rotate_left; focus (intro w'; go_simp; with_reducible rfl)
       rotate_left; focus (simp only [apz, i64_w, i32_w]; rfl)
       refine pure_ (i := 31) (N := some 62) (v := ?_) (a' := ?_) (bt 32 6) rfl rfl (any_of HT_.out (by kernel_rfl)) (fun _ _ _ h => h) (Or.inl ⟨by rfl, ?_⟩) ?_ ?_
       rotate_left; focus (intro w'; go_simp; with_reducible rfl)
       rotate_left; focus (simp only [apz, i64_w, i32_w]; rfl)
       refine take_ (i := 32) (N := some 63) (v := ?_) (a' := ?_) (bt 33 5) rfl rfl (take_ofW HT_.out HW_.out (by kernel_rfl)) (fun _ _ _ h => h) (Or.inl ⟨by rfl, ?_⟩) hHeld ?_ ?_
       rotate_left
       ·
        rintro w' ⟨s0, s1, s2, s3, s4, s5, s6, s7, s8, s9, s10, s11⟩
        go_simp
        with_reducible rfl
       rotate_left; focus (simp only [apz, i64_w, i32_w]; rfl)
       refine one_ (i := 33) (N := some 64) (bt 34 4) rfl rfl (one_of HT_.out (by kernel_rfl)) (by decide) (fun K hK => ?_)
       refine goes_ Tryd.func14 (by kernel_rfl) rfl #[.int .i64 a1_1] (by rfl) rfl rfl (by (try simp only [List.map_toArray, List.map_cons, List.map_nil]); first | done | rfl | (simp only [List.length_drop, List.length_take]; rfl)) ?_
       with_reducible refine (pointillistref08_In.calls a1_1 t428 _ A83.out).mono ?_
       rintro e w' ⟨rfl, ⟨nd, rfl⟩⟩
       refine ⟨_, rfl, ?_⟩
       refine hK.out _ _ ⟨(blk_cell BK408.out 0).trans rfl, (blk_cell BK408.out 1).trans rfl, (blk_cell BK412.out 0).trans rfl, (blk_cell BK412.out 1).trans rfl, (blk_cell BK402.out 0).trans rfl, (blk_cell BK402.out 1).trans rfl, (blk_cell BK402.out 2).trans rfl, (blk_cell BK402.out 3).trans rfl, (blk_cell BK402.out 4).trans rfl, (blk_cell BK402.out 5).trans rfl, (blk_cell BK403.out 0).trans rfl, (blk_cell BK403.out 1).trans rfl⟩ (fun hHeld => ?_)
       clear hK K
       refine norm_ (a' := ?_) ?_ ?_
       rotate_left
       ·
        show Act.put _ (some 64) _ = _
        simp only [apz, i64_w, i32_w]
        rfl
       refine pure_ (i := 34) (N := some 65) (v := ?_) (a' := ?_) (bt 35 3) rfl rfl (any_of HT_.out (by kernel_rfl)) (fun _ _ _ h => h) (Or.inl ⟨by rfl, ?_⟩) ?_ ?_
       rotate_left; focus (intro w'; go_simp; with_reducible rfl)
       rotate_left; focus (simp only [apz, i64_w, i32_w]; rfl)
       refine pure_ (i := 35) (N := some 66) (v := ?_) (a' := ?_) (bt 36 2) rfl rfl (any_of HT_.out (by kernel_rfl)) (fun _ _ _ h => h) (Or.inl ⟨by rfl, ?_⟩) ?_ ?_
       rotate_left; focus (intro w'; go_simp; with_reducible rfl)
       rotate_left; focus (simp only [apz, i64_w, i32_w]; rfl)
       refine pure_ (i := 36) (N := some 67) (v := ?_) (a' := ?_) (bt 37 1) rfl rfl (any_of HT_.out (by kernel_rfl)) (fun _ _ _ h => h) (Or.inl ⟨by rfl, ?_⟩) ?_ ?_
       rotate_left; focus (intro w'; go_simp; with_reducible rfl)
       rotate_left; focus (simp only [apz, i64_w, i32_w]; rfl)
       refine pure_ (i := 37) (N := some 4) (v := ?_) (a' := ?_) (bt 38 0) rfl rfl (any_of HT_.out (by kernel_rfl)) (fun _ _ _ h => h) (Or.inl ⟨by rfl, ?_⟩) ?_ ?_
       rotate_left; focus (intro w'; go_simp; with_reducible rfl)
       rotate_left; focus (simp only [apz, i64_w, i32_w]; rfl)
       refine done_ (done_of HT_.out (by kernel_rfl)) ?_
       try go_wp2
       go_ret
       exact ⟨by first | rfl | (simp [errW_none, errW_some] <;> rfl) | (rw [HE_.out]; done) | (simp [HE_.out]; done) | (have h_ := HE_.out; simp_all; done) | (have h_ := HE_.out; simp [*] at h_; simp [*, h_]; done) | (simp [*, errW_none, errW_some] <;> rfl), by exact wq HB.out⟩
      ·
       replace c82 := Bool.eq_false_iff.mpr c82
       subst c82
       have H1 : (some ((t421 == 0) == false)) = some true := by rw [if_neg (show ¬ (false = true) by decide)] at H; exact H
       clear H
       have H := H1
       clear H1
       have HE_ := Aside0.mk (Option.some.inj H)
       clear H
       go_enter Tryd.func3, Tryd.ntmps3
       try go_wp2_with (first | ((with_reducible refine gate_dst (N := 2) rfl ?_); refine box_event ?hg (N := 2) ?hd (cs := #[.int .i64 a0_0, .int .i64 a0_1, .int .i64 a0_2, .int .i64 a0_3, .int .i64 a0_4, .int .i64 a0_5]) (t := 23) ?hr ?_; (case hd => rfl); (case hg => rfl); (case hr => first | (go_simp; done) | (go_simp; rfl)); intro gb402 hg w115 hbox hb; have n0_ := Aside0.mk (below_step (wq HB.out) hb); have n1_ := Aside0.mk (hbox); have n2_ := Aside0.mk ((by rw [hg]; exact (below_size (wq HB.out)) : w.heap.size ≤ gb402)); have n3_ := n2_; clear HB; have HB := n0_; have BK402 := n1_; have GW402 := n2_; have GE402 := n3_; clear n0_ n1_ n2_ n3_ hb hbox hg) | ((with_reducible refine gate_dst (N := 3) rfl ?_); refine box_event ?hg (N := 3) ?hd (cs := #[.int .i64 a1_0, .int .i64 a1_1]) (t := 25) ?hr ?_; (case hd => rfl); (case hg => rfl); (case hr => first | (go_simp; done) | (go_simp; rfl)); intro gb403 hg w116 hbox hb; have n0_ := Aside0.mk (blk_below (bq BK402.out) hb); have n1_ := Aside0.mk (below_step (wq HB.out) hb); have n2_ := Aside0.mk (hbox); have n3_ := Aside0.mk ((by rw [hg]; exact (below_size (wq HB.out)) : w.heap.size ≤ gb403)); have n4_ := n3_; have n5_ := Aside0.mk ((by rw [hg]; exact Nat.ne_of_lt (blk_lt (bq BK402.out)) : gb402 ≠ gb403)); have n6_ := Aside0.mk ((by rw [hg]; exact Nat.ne_of_gt (blk_lt (bq BK402.out)) : gb403 ≠ gb402)); clear BK402 HB; have BK402 := n0_; have HB := n1_; have BK403 := n2_; have GW403 := n3_; have GE403 := n4_; have NB402_403 := n5_; have NB403_402 := n6_; clear n0_ n1_ n2_ n3_ n4_ n5_ n6_ hb hbox hg) | ((with_reducible refine gate_callee (f := 8) rfl ?_); refine goesL_ (some 11) rfl rfl Tryd.func8 (by kernel_rfl) rfl #[] rfl (by (try simp only [List.map_toArray, List.map_cons, List.map_nil]); first | done | rfl | (simp only [List.length_drop, List.length_take]; rfl)) ?_; (with_reducible refine (pointillistlaw08_wakes.calls k  true _ ?side1 A3.out).mono ?_); (case side1 => exact Gl.below HG.out (wq HB.out)); rintro e w117 ⟨rfl, hb⟩; refine ⟨_, rfl, ?_⟩; have n0_ := Aside0.mk (blk_below (bq BK402.out) hb); have n1_ := Aside0.mk (blk_below (bq BK403.out) hb); have n2_ := Aside0.mk (below_step (wq HB.out) hb); clear BK402 BK403 HB; have BK402 := n0_; have BK403 := n1_; have HB := n2_; clear n0_ n1_ n2_; (try clear hb); (try clear hb2); (try clear hk); (try clear hi); have hnb118 := NB402_403.out; have hnc118 := NB403_402.out; have hcz119_0 : w117.cell? ⟨gb402, 0, none⟩ = some (.int .i64 a0_0) := (blk_cell BK402.out 0).trans rfl; have hcz119_1 : w117.cell? ⟨gb402, 1, none⟩ = some (.int .i64 a0_1) := (blk_cell BK402.out 1).trans rfl; have hcz119_2 : w117.cell? ⟨gb402, 2, none⟩ = some (.int .i64 a0_2) := (blk_cell BK402.out 2).trans rfl; have hcz119_3 : w117.cell? ⟨gb402, 3, none⟩ = some (.int .i64 a0_3) := (blk_cell BK402.out 3).trans rfl; have hcz119_4 : w117.cell? ⟨gb402, 4, none⟩ = some (.int .i64 a0_4) := (blk_cell BK402.out 4).trans rfl; have hcz119_5 : w117.cell? ⟨gb402, 5, none⟩ = some (.int .i64 a0_5) := (blk_cell BK402.out 5).trans rfl; have hfz119_0 := blk_frozen BK402.out 0; have hfz119_1 := blk_frozen BK402.out 1; have hfz119_2 := blk_frozen BK402.out 2; have hfz119_3 := blk_frozen BK402.out 3; have hfz119_4 := blk_frozen BK402.out 4; have hfz119_5 := blk_frozen BK402.out 5; have hcz120_0 : w117.cell? ⟨gb403, 0, none⟩ = some (.int .i64 a1_0) := (blk_cell BK403.out 0).trans rfl; have hcz120_1 : w117.cell? ⟨gb403, 1, none⟩ = some (.int .i64 a1_1) := (blk_cell BK403.out 1).trans rfl; have hfz120_0 := blk_frozen BK403.out 0; have hfz120_1 := blk_frozen BK403.out 1) | ((with_reducible refine gate_callee (f := 9) rfl ?_); refine goesL_ (some 16) rfl rfl Tryd.func9 (by kernel_rfl) rfl #[.agg #[.int .i64 a0_0, .int .i64 a0_1, .int .i64 a0_2, .int .i64 a0_3, .int .i64 a0_4, .int .i64 a0_5], .agg #[.int .i64 a1_0, .int .i64 a1_1]] rfl (by (try simp only [List.map_toArray, List.map_cons, List.map_nil]); first | done | rfl | (simp only [List.length_drop, List.length_take]; rfl)) ?_; (with_reducible refine (affine_Apply.calls k a0_0 a0_1 a0_2 a0_3 a0_4 a0_5 a1_0 a1_1 t405 t406 t407 _ ?side1 A5.out).mono ?_); (case side1 => exact Gl.below HG.out (wq HB.out)); rintro e w121 ⟨rfl, hb⟩; refine ⟨_, rfl, ?_⟩; have n0_ := Aside0.mk (blk_below (bq BK402.out) hb); have n1_ := Aside0.mk (blk_below (bq BK403.out) hb); have n2_ := Aside0.mk (below_step (wq HB.out) hb); clear BK402 BK403 HB; have BK402 := n0_; have BK403 := n1_; have HB := n2_; clear n0_ n1_ n2_; (try clear hb); (try clear hb2); (try clear hk); (try clear hi)) | ((with_reducible refine gate_dst (N := 5) rfl ?_); refine box_event ?hg (N := 5) ?hd (cs := #[.int .i64 0, .int .i64 0]) (t := 25) ?hr ?_; (case hd => rfl); (case hg => rfl); (case hr => first | (go_simp; done) | (go_simp; rfl)); intro gb408 hg w122 hbox hb; have n0_ := Aside0.mk (blk_below (bq BK402.out) hb); have n1_ := Aside0.mk (blk_below (bq BK403.out) hb); have n2_ := Aside0.mk (below_step (wq HB.out) hb); have n3_ := Aside0.mk (hbox); have n4_ := Aside0.mk ((by rw [hg]; exact (below_size (wq HB.out)) : w.heap.size ≤ gb408)); have n5_ := n4_; have n6_ := Aside0.mk ((by rw [hg]; exact Nat.ne_of_lt (blk_lt (bq BK402.out)) : gb402 ≠ gb408)); have n7_ := Aside0.mk ((by rw [hg]; exact Nat.ne_of_gt (blk_lt (bq BK402.out)) : gb408 ≠ gb402)); have n8_ := Aside0.mk ((by rw [hg]; exact Nat.ne_of_lt (blk_lt (bq BK403.out)) : gb403 ≠ gb408)); have n9_ := Aside0.mk ((by rw [hg]; exact Nat.ne_of_gt (blk_lt (bq BK403.out)) : gb408 ≠ gb403)); clear BK402 BK403 HB; have BK402 := n0_; have BK403 := n1_; have HB := n2_; have BK408 := n3_; have GW408 := n4_; have GE408 := n5_; have NB402_408 := n6_; have NB408_402 := n7_; have NB403_408 := n8_; have NB408_403 := n9_; clear n0_ n1_ n2_ n3_ n4_ n5_ n6_ n7_ n8_ n9_ hb hbox hg; have hnb123 := NB408_402.out; have hnc123 := NB402_408.out; have hnb124 := NB408_403.out; have hnc124 := NB403_408.out; have hcz125_0 : w122.cell? ⟨gb408, 0, none⟩ = some (.int .i64 0) := (blk_cell BK408.out 0).trans rfl; have hcz125_1 : w122.cell? ⟨gb408, 1, none⟩ = some (.int .i64 0) := (blk_cell BK408.out 1).trans rfl; have hfz125_0 := blk_frozen BK408.out 0; have hfz125_1 := blk_frozen BK408.out 1; have hcz126_0 : w122.cell? ⟨gb402, 0, none⟩ = some (.int .i64 a0_0) := (blk_cell BK402.out 0).trans rfl; have hcz126_1 : w122.cell? ⟨gb402, 1, none⟩ = some (.int .i64 a0_1) := (blk_cell BK402.out 1).trans rfl; have hcz126_2 : w122.cell? ⟨gb402, 2, none⟩ = some (.int .i64 a0_2) := (blk_cell BK402.out 2).trans rfl; have hcz126_3 : w122.cell? ⟨gb402, 3, none⟩ = some (.int .i64 a0_3) := (blk_cell BK402.out 3).trans rfl; have hcz126_4 : w122.cell? ⟨gb402, 4, none⟩ = some (.int .i64 a0_4) := (blk_cell BK402.out 4).trans rfl; have hcz126_5 : w122.cell? ⟨gb402, 5, none⟩ = some (.int .i64 a0_5) := (blk_cell BK402.out 5).trans rfl; have hfz126_0 := blk_frozen BK402.out 0; have hfz126_1 := blk_frozen BK402.out 1; have hfz126_2 := blk_frozen BK402.out 2; have hfz126_3 := blk_frozen BK402.out 3; have hfz126_4 := blk_frozen BK402.out 4; have hfz126_5 := blk_frozen BK402.out 5; have hcz127_0 : w122.cell? ⟨gb403, 0, none⟩ = some (.int .i64 a1_0) := (blk_cell BK403.out 0).trans rfl; have hcz127_1 : w122.cell? ⟨gb403, 1, none⟩ = some (.int .i64 a1_1) := (blk_cell BK403.out 1).trans rfl; have hfz127_0 := blk_frozen BK403.out 0; have hfz127_1 := blk_frozen BK403.out 1) | ((with_reducible refine gate_callee (f := 10) rfl ?_); refine goesL_ (some 22) rfl rfl Tryd.func10 (by kernel_rfl) rfl #[.agg #[.int .i64 a0_0, .int .i64 a0_1, .int .i64 a0_2, .int .i64 a0_3, .int .i64 a0_4, .int .i64 a0_5], .agg #[.int .i64 a1_0, .int .i64 a1_1]] rfl (by (try simp only [List.map_toArray, List.map_cons, List.map_nil]); first | done | rfl | (simp only [List.length_drop, List.length_take]; rfl)) ?_; (with_reducible refine (pointillistref08_Apply.calls k a0_0 a0_1 a0_2 a0_3 a0_4 a0_5 a1_0 a1_1 t409 t410 t411 _ A6.out).mono ?_); rintro e w128 ⟨rfl, hb⟩; refine ⟨_, rfl, ?_⟩; have n0_ := Aside0.mk (blk_below (g := gb402) (o := .cells #[.int .i64 a0_0, .int .i64 a0_1, .int .i64 a0_2, .int .i64 a0_3, .int .i64 a0_4, .int .i64 a0_5] 23 (0, 0)) (by refine bq ?_; refine blk_far ?_ NB402_408.out _; refine bq ?_; refine blk_far ?_ NB402_408.out _; refine bq ?_; exact BK402.out) hb); have n1_ := Aside0.mk (blk_below (g := gb403) (o := .cells #[.int .i64 a1_0, .int .i64 a1_1] 25 (0, 0)) (by refine bq ?_; refine blk_far ?_ NB403_408.out _; refine bq ?_; refine blk_far ?_ NB403_408.out _; refine bq ?_; exact BK403.out) hb); have n2_ := Aside0.mk (blk_below (g := gb408) (o := .cells #[.int .i64 t405, .int .i64 t406] 25 (0, 0)) (by refine bq ?_; refine blk_put (cs := #[.int .i64 t405, .int .i64 0]) ?_ 1 _ rfl; refine bq ?_; refine blk_put (cs := #[.int .i64 0, .int .i64 0]) ?_ 0 _ rfl; refine bq ?_; exact BK408.out) hb); have n3_ := Aside0.mk (below_step (wq HB.out) hb); clear BK402 BK403 BK408 HB; have BK402 := n0_; have BK403 := n1_; have BK408 := n2_; have HB := n3_; clear n0_ n1_ n2_ n3_; (try clear hb); (try clear hb2); (try clear hk); (try clear hi)) | ((with_reducible refine gate_dst (N := 7) rfl ?_); refine box_event ?hg (N := 7) ?hd (cs := #[.int .i64 0, .int .i64 0]) (t := 25) ?hr ?_; (case hd => rfl); (case hg => rfl); (case hr => first | (go_simp; done) | (go_simp; rfl)); intro gb412 hg w129 hbox hb; have n0_ := Aside0.mk (blk_below (bq BK402.out) hb); have n1_ := Aside0.mk (blk_below (bq BK403.out) hb); have n2_ := Aside0.mk (blk_below (bq BK408.out) hb); have n3_ := Aside0.mk (below_step (wq HB.out) hb); have n4_ := Aside0.mk (hbox); have n5_ := Aside0.mk ((by rw [hg]; exact (below_size (wq HB.out)) : w.heap.size ≤ gb412)); have n6_ := n5_; have n7_ := Aside0.mk ((by rw [hg]; exact Nat.ne_of_lt (blk_lt (bq BK402.out)) : gb402 ≠ gb412)); have n8_ := Aside0.mk ((by rw [hg]; exact Nat.ne_of_gt (blk_lt (bq BK402.out)) : gb412 ≠ gb402)); have n9_ := Aside0.mk ((by rw [hg]; exact Nat.ne_of_lt (blk_lt (bq BK403.out)) : gb403 ≠ gb412)); have n10_ := Aside0.mk ((by rw [hg]; exact Nat.ne_of_gt (blk_lt (bq BK403.out)) : gb412 ≠ gb403)); have n11_ := Aside0.mk ((by rw [hg]; exact Nat.ne_of_lt (blk_lt (bq BK408.out)) : gb408 ≠ gb412)); have n12_ := Aside0.mk ((by rw [hg]; exact Nat.ne_of_gt (blk_lt (bq BK408.out)) : gb412 ≠ gb408)); clear BK402 BK403 BK408 HB; have BK402 := n0_; have BK403 := n1_; have BK408 := n2_; have HB := n3_; have BK412 := n4_; have GW412 := n5_; have GE412 := n6_; have NB402_412 := n7_; have NB412_402 := n8_; have NB403_412 := n9_; have NB412_403 := n10_; have NB408_412 := n11_; have NB412_408 := n12_; clear n0_ n1_ n2_ n3_ n4_ n5_ n6_ n7_ n8_ n9_ n10_ n11_ n12_ hb hbox hg; have hnb130 := NB412_402.out; have hnc130 := NB402_412.out; have hnb131 := NB412_403.out; have hnc131 := NB403_412.out; have hnb132 := NB412_408.out; have hnc132 := NB408_412.out; have hcz133_0 : w129.cell? ⟨gb412, 0, none⟩ = some (.int .i64 0) := (blk_cell BK412.out 0).trans rfl; have hcz133_1 : w129.cell? ⟨gb412, 1, none⟩ = some (.int .i64 0) := (blk_cell BK412.out 1).trans rfl; have hfz133_0 := blk_frozen BK412.out 0; have hfz133_1 := blk_frozen BK412.out 1))
       have n0_ : Aside0 (((w129.setCell ⟨gb412, 0, none⟩ (.int .i64 t409)).setCell ⟨gb412, 1, none⟩ (.int .i64 t410)).heap[gb402]? = some (.cells #[.int .i64 a0_0, .int .i64 a0_1, .int .i64 a0_2, .int .i64 a0_3, .int .i64 a0_4, .int .i64 a0_5] 23 (0, 0))) := ⟨by refine bq ?_; refine blk_far ?_ NB402_412.out _; refine bq ?_; refine blk_far ?_ NB402_412.out _; refine bq ?_; exact BK402.out⟩
       have n1_ : Aside0 (((w129.setCell ⟨gb412, 0, none⟩ (.int .i64 t409)).setCell ⟨gb412, 1, none⟩ (.int .i64 t410)).heap[gb403]? = some (.cells #[.int .i64 a1_0, .int .i64 a1_1] 25 (0, 0))) := ⟨by refine bq ?_; refine blk_far ?_ NB403_412.out _; refine bq ?_; refine blk_far ?_ NB403_412.out _; refine bq ?_; exact BK403.out⟩
       have n2_ : Aside0 (((w129.setCell ⟨gb412, 0, none⟩ (.int .i64 t409)).setCell ⟨gb412, 1, none⟩ (.int .i64 t410)).heap[gb408]? = some (.cells #[.int .i64 t405, .int .i64 t406] 25 (0, 0))) := ⟨by refine bq ?_; refine blk_far ?_ NB408_412.out _; refine bq ?_; refine blk_far ?_ NB408_412.out _; refine bq ?_; exact BK408.out⟩
       have n3_ : Aside0 (((w129.setCell ⟨gb412, 0, none⟩ (.int .i64 t409)).setCell ⟨gb412, 1, none⟩ (.int .i64 t410)).heap[gb412]? = some (.cells #[.int .i64 t409, .int .i64 t410] 25 (0, 0))) := ⟨by refine bq ?_; refine blk_put (cs := #[.int .i64 t409, .int .i64 0]) ?_ 1 _ rfl; refine bq ?_; refine blk_put (cs := #[.int .i64 0, .int .i64 0]) ?_ 0 _ rfl; refine bq ?_; exact BK412.out⟩
       have n4_ : Aside0 (Below w.heap.size w ((w129.setCell ⟨gb412, 0, none⟩ (.int .i64 t409)).setCell ⟨gb412, 1, none⟩ (.int .i64 t410))) := ⟨by exact wq HB.out⟩
       (try clear BK402)
       (try clear BK403)
       (try clear BK408)
       (try clear BK412)
       (try clear HB)
       generalize ((w129.setCell ⟨gb412, 0, none⟩ (.int .i64 t409)).setCell ⟨gb412, 1, none⟩ (.int .i64 t410)) = w134 at n0_ n1_ n2_ n3_ n4_ ⊢
       have BK402 := n0_; have BK403 := n1_; have BK408 := n2_; have BK412 := n3_; have HB := n4_; clear n0_ n1_ n2_ n3_ n4_
       have n0_ := Aside0.mk (blk_drew BK402.out)
       have n1_ := Aside0.mk (blk_drew BK403.out)
       have n2_ := Aside0.mk (blk_drew BK408.out)
       have n3_ := Aside0.mk (blk_drew BK412.out)
       have n4_ := Aside0.mk (below_drew1 HB.out)
       clear BK402 BK403 BK408 BK412; clear HB; have BK402 := n0_; have BK403 := n1_; have BK408 := n2_; have BK412 := n3_; have HB := n4_; clear n0_ n1_ n2_ n3_ n4_
       refine start_ (n := 9) (S := fun w' => w'.cell? ⟨gb403, 0, none⟩ = some (.int .i64 a1_0) ∧ w'.cell? ⟨gb403, 1, none⟩ = some (.int .i64 a1_1)) (ds := []) (bt 0 9) (by kernel_rfl) rfl rfl ⟨(blk_cell BK403.out 0).trans rfl, (blk_cell BK403.out 1).trans rfl⟩ (fun hHeld => ?_); refine with_tabW pointillistlaw08_AffineApplies.tab5 pointillistlaw08_AffineApplies.bits5 (fun HT_ HW_ => ?_)
       generalize w134.drew = w135 at BK402 BK403 BK408 BK412 HB hHeld ⊢
       refine take_ (i := 1) (N := some 27) (v := ?_) (a' := ?_) #[false, true, false, false, false, false, false, false, false] rfl rfl (take_ofW HT_.out HW_.out (by kernel_rfl)) (fun _ _ _ h => h) (Or.inl ⟨by rfl, ?_⟩) hHeld ?_ ?_
       rotate_left
       ·
        rintro w' ⟨s0, s1⟩
        go_simp
        with_reducible rfl
       rotate_left; focus (simp only [apz, i64_w, i32_w]; rfl)
       refine join_ (σ := Nat) 2 (bt 7 2) (fun s_ => [(26, .agg #[.int .i64 t413, .int .i64 t414, .int .i64 t415, .int .i64 t416, .int .i64 t417, .int .i64 t418]), (28, .tuple #[.agg #[.int .i64 t419, .int .i64 t420], .int .i64 t421]), (9, .pointer (some ⟨s_, 0, none⟩)), (25, .tuple #[.agg #[.int .i64 t419, .int .i64 t420], .int .i64 t421]), (29, .agg #[.int .i64 t419, .int .i64 t420]), (30, .int .i64 t421)]) (fun s_ w' => (w'.cell? ⟨gb403, 0, none⟩ = some (.int .i64 a1_0) ∧ w'.cell? ⟨gb403, 1, none⟩ = some (.int .i64 a1_1)) ∧ (w'.heap[gb402]? = some (.cells #[.int .i64 a0_0, .int .i64 a0_1, .int .i64 a0_2, .int .i64 a0_3, .int .i64 a0_4, .int .i64 a0_5] 23 (0, 0))) ∧ (w'.heap[gb403]? = some (.cells #[.int .i64 a1_0, .int .i64 a1_1] 25 (0, 0))) ∧ (w'.heap[gb408]? = some (.cells #[.int .i64 t405, .int .i64 t406] 25 (0, 0))) ∧ (w'.heap[gb412]? = some (.cells #[.int .i64 t409, .int .i64 t410] 25 (0, 0))) ∧ (w'.heap[s_]? = some (.cells #[.int .i64 0, .int .i64 0] 25 (0, 0))) ∧ (w.heap.size ≤ s_) ∧ (w.heap.size ≤ s_) ∧ (gb402 ≠ s_) ∧ (s_ ≠ gb402) ∧ (gb403 ≠ s_) ∧ (s_ ≠ gb403) ∧ (gb408 ≠ s_) ∧ (s_ ≠ gb408) ∧ (gb412 ≠ s_) ∧ (s_ ≠ gb412) ∧ (Below w.heap.size w w')) ?_ ?_
       rotate_left
       ·
        intro hCont
        refine two_ (i := 0) (j := 6) (Ni := some 26) (Nj := some 9) (bt 2 7) #[false, true, false, false, false, false, true, false, false] rfl rfl rfl rfl (two_of HT_.out (by kernel_rfl)) (by decide) (by decide) (fun K hK => ?_) (fun K hK => ?_)
        ·
         skip
         refine goes_ Tryd.func11 (by kernel_rfl) rfl #[] (by rfl) rfl rfl (by (try simp only [List.map_toArray, List.map_cons, List.map_nil]); first | done | rfl | (simp only [List.length_drop, List.length_take]; rfl)) ?_
         with_reducible refine (affine_Same.calls  t413 t414 t415 t416 t417 t418 _ A7.out).mono ?_
         rintro e w136 ⟨rfl, hb⟩
         refine ⟨_, rfl, ?_⟩
         have n0_ := Aside0.mk (blk_below (bq BK402.out) hb)
         have n1_ := Aside0.mk (blk_below (bq BK403.out) hb)
         have n2_ := Aside0.mk (blk_below (bq BK408.out) hb)
         have n3_ := Aside0.mk (blk_below (bq BK412.out) hb)
         have n4_ := Aside0.mk (below_step (wq HB.out) hb)
         clear BK402 BK403 BK408 BK412; clear HB; have BK402 := n0_; have BK403 := n1_; have BK408 := n2_; have BK412 := n3_; have HB := n4_; clear n0_ n1_ n2_ n3_ n4_
         (try clear hb)
         (try clear hb2)
         (try clear hk)
         (try clear hi)
         refine hK.out _ _ ⟨(blk_cell BK403.out 0).trans rfl, (blk_cell BK403.out 1).trans rfl⟩ (fun hHeld => ?_)
         clear hK K
         refine norm_ (a' := ?_) ?_ ?_
         rotate_left
         ·
          show Act.put _ (some 26) _ = _
          simp only [apz, i64_w, i32_w]
          rfl
         refine two_ (i := 2) (j := 6) (Ni := some 28) (Nj := some 9) (bt 3 6) #[true, true, false, false, false, false, true, false, false] rfl rfl rfl rfl (two_of HT_.out (by kernel_rfl)) (by decide) (by decide) (fun K hK => ?_) (fun K hK => ?_)
         ·
          skip
          refine goes_ Tryd.func9 (by kernel_rfl) rfl #[.agg #[.int .i64 t413, .int .i64 t414, .int .i64 t415, .int .i64 t416, .int .i64 t417, .int .i64 t418], .agg #[.int .i64 a1_0, .int .i64 a1_1]] (by rfl) rfl rfl (by (try simp only [List.map_toArray, List.map_cons, List.map_nil]); first | done | rfl | (simp only [List.length_drop, List.length_take]; rfl)) ?_
          with_reducible refine (affine_Apply.calls k t413 t414 t415 t416 t417 t418 a1_0 a1_1 t419 t420 t421 _ ?side1 A8.out).mono ?_
          (case side1 => exact Gl.below HG.out (wq HB.out))
          rintro e w137 ⟨rfl, hb⟩
          refine ⟨_, rfl, ?_⟩
          have n0_ := Aside0.mk (blk_below (bq BK402.out) hb)
          have n1_ := Aside0.mk (blk_below (bq BK403.out) hb)
          have n2_ := Aside0.mk (blk_below (bq BK408.out) hb)
          have n3_ := Aside0.mk (blk_below (bq BK412.out) hb)
          have n4_ := Aside0.mk (below_step (wq HB.out) hb)
          clear BK402 BK403 BK408 BK412; clear HB; have BK402 := n0_; have BK403 := n1_; have BK408 := n2_; have BK412 := n3_; have HB := n4_; clear n0_ n1_ n2_ n3_ n4_
          (try clear hb)
          (try clear hb2)
          (try clear hk)
          (try clear hi)
          refine hK.out _ _ ⟨(blk_cell BK403.out 0).trans rfl, (blk_cell BK403.out 1).trans rfl⟩ (fun hHeld => ?_)
          clear hK K
          refine norm_ (a' := ?_) ?_ ?_
          rotate_left
          ·
           show Act.put _ (some 28) _ = _
           simp only [apz, i64_w, i32_w]
           rfl
          refine pure_ (i := 3) (N := some 25) (v := ?_) (a' := ?_) (bt 4 5) rfl rfl (any_of HT_.out (by kernel_rfl)) (fun _ _ _ h => h) (Or.inl ⟨by rfl, ?_⟩) ?_ ?_
          rotate_left; focus (intro w'; go_simp; with_reducible rfl)
          rotate_left; focus (simp only [apz, i64_w, i32_w]; rfl)
          refine pure_ (i := 4) (N := some 29) (v := ?_) (a' := ?_) (bt 5 4) rfl rfl (any_of HT_.out (by kernel_rfl)) (fun _ _ _ h => h) (Or.inl ⟨by rfl, ?_⟩) ?_ ?_
          rotate_left; focus (intro w'; go_simp; with_reducible rfl)
          rotate_left; focus (simp only [apz, i64_w, i32_w]; rfl)
          refine pure_ (i := 5) (N := some 30) (v := ?_) (a' := ?_) (bt 6 3) rfl rfl (any_of HT_.out (by kernel_rfl)) (fun _ _ _ h => h) (Or.inl ⟨by rfl, ?_⟩) ?_ ?_
          rotate_left; focus (intro w'; go_simp; with_reducible rfl)
          rotate_left; focus (simp only [apz, i64_w, i32_w]; rfl)
          refine one_ (i := 6) (N := some 9) (bt 7 2) rfl rfl (one_of HT_.out (by kernel_rfl)) (by decide) (fun K hK => ?_)
          refine box_step ?hg (N := 9) ?hd (cs := #[.int .i64 0, .int .i64 0]) (t := 25) ?hr ?_; (case hd => rfl); (case hg => rfl); (case hr => first | (go_simp; done) | (go_simp; rfl))
          intro gb422 hg w138 hbox hb
          have n0_ := Aside0.mk (blk_below (bq BK402.out) hb)
          have n1_ := Aside0.mk (blk_below (bq BK403.out) hb)
          have n2_ := Aside0.mk (blk_below (bq BK408.out) hb)
          have n3_ := Aside0.mk (blk_below (bq BK412.out) hb)
          have n4_ := Aside0.mk (below_step (wq HB.out) hb)
          have n5_ := Aside0.mk (hbox)
          have n6_ := Aside0.mk ((by rw [hg]; exact (below_size (wq HB.out)) : w.heap.size ≤ gb422))
          have n7_ := Aside0.mk ((by rw [hg]; exact (below_size (wq HB.out)) : w.heap.size ≤ gb422))
          have n8_ := Aside0.mk ((by rw [hg]; exact Nat.ne_of_lt (blk_lt (bq BK402.out)) : gb402 ≠ gb422))
          have n9_ := Aside0.mk ((by rw [hg]; exact Nat.ne_of_gt (blk_lt (bq BK402.out)) : gb422 ≠ gb402))
          have n10_ := Aside0.mk ((by rw [hg]; exact Nat.ne_of_lt (blk_lt (bq BK403.out)) : gb403 ≠ gb422))
          have n11_ := Aside0.mk ((by rw [hg]; exact Nat.ne_of_gt (blk_lt (bq BK403.out)) : gb422 ≠ gb403))
          have n12_ := Aside0.mk ((by rw [hg]; exact Nat.ne_of_lt (blk_lt (bq BK408.out)) : gb408 ≠ gb422))
          have n13_ := Aside0.mk ((by rw [hg]; exact Nat.ne_of_gt (blk_lt (bq BK408.out)) : gb422 ≠ gb408))
          have n14_ := Aside0.mk ((by rw [hg]; exact Nat.ne_of_lt (blk_lt (bq BK412.out)) : gb412 ≠ gb422))
          have n15_ := Aside0.mk ((by rw [hg]; exact Nat.ne_of_gt (blk_lt (bq BK412.out)) : gb422 ≠ gb412))
          clear BK402 BK403 BK408 BK412; clear HB; have BK402 := n0_; have BK403 := n1_; have BK408 := n2_; have BK412 := n3_; have HB := n4_; have BK422 := n5_; have GW422 := n6_; have GE422 := n7_; have NB402_422 := n8_; have NB422_402 := n9_; have NB403_422 := n10_; have NB422_403 := n11_; have NB408_422 := n12_; have NB422_408 := n13_; have NB412_422 := n14_; have NB422_412 := n15_; clear n0_ n1_ n2_ n3_ n4_ n5_ n6_ n7_ n8_ n9_ n10_ n11_ n12_ n13_ n14_ n15_ hb hbox hg
          refine hK.out _ _ ⟨(blk_cell BK403.out 0).trans rfl, (blk_cell BK403.out 1).trans rfl⟩ (fun hHeld => ?_)
          clear hK K
          refine norm_ (a' := ?_) ?_ ?_
          rotate_left
          ·
           show Act.put _ (some 9) _ = _
           simp only [apz, i64_w, i32_w]
           rfl
          exact norm_ (by simp only [putAll, apz]) (hCont (gb422) _ ⟨hHeld, (bq BK402.out), (bq BK403.out), (bq BK408.out), (bq BK412.out), (bq BK422.out), GW422.out, GE422.out, NB402_422.out, NB422_402.out, NB403_422.out, NB422_403.out, NB408_422.out, NB422_408.out, NB412_422.out, NB422_412.out, (wq HB.out)⟩)
         ·
          skip
          refine box_step ?hg (N := 9) ?hd (cs := #[.int .i64 0, .int .i64 0]) (t := 25) ?hr ?_; (case hd => rfl); (case hg => rfl); (case hr => first | (go_simp; done) | (go_simp; rfl))
          intro gb422 hg w137 hbox hb
          have n0_ := Aside0.mk (blk_below (bq BK402.out) hb)
          have n1_ := Aside0.mk (blk_below (bq BK403.out) hb)
          have n2_ := Aside0.mk (blk_below (bq BK408.out) hb)
          have n3_ := Aside0.mk (blk_below (bq BK412.out) hb)
          have n4_ := Aside0.mk (below_step (wq HB.out) hb)
          have n5_ := Aside0.mk (hbox)
          have n6_ := Aside0.mk ((by rw [hg]; exact (below_size (wq HB.out)) : w.heap.size ≤ gb422))
          have n7_ := Aside0.mk ((by rw [hg]; exact (below_size (wq HB.out)) : w.heap.size ≤ gb422))
          have n8_ := Aside0.mk ((by rw [hg]; exact Nat.ne_of_lt (blk_lt (bq BK402.out)) : gb402 ≠ gb422))
          have n9_ := Aside0.mk ((by rw [hg]; exact Nat.ne_of_gt (blk_lt (bq BK402.out)) : gb422 ≠ gb402))
          have n10_ := Aside0.mk ((by rw [hg]; exact Nat.ne_of_lt (blk_lt (bq BK403.out)) : gb403 ≠ gb422))
          have n11_ := Aside0.mk ((by rw [hg]; exact Nat.ne_of_gt (blk_lt (bq BK403.out)) : gb422 ≠ gb403))
          have n12_ := Aside0.mk ((by rw [hg]; exact Nat.ne_of_lt (blk_lt (bq BK408.out)) : gb408 ≠ gb422))
          have n13_ := Aside0.mk ((by rw [hg]; exact Nat.ne_of_gt (blk_lt (bq BK408.out)) : gb422 ≠ gb408))
          have n14_ := Aside0.mk ((by rw [hg]; exact Nat.ne_of_lt (blk_lt (bq BK412.out)) : gb412 ≠ gb422))
          have n15_ := Aside0.mk ((by rw [hg]; exact Nat.ne_of_gt (blk_lt (bq BK412.out)) : gb422 ≠ gb412))
          clear BK402 BK403 BK408 BK412; clear HB; have BK402 := n0_; have BK403 := n1_; have BK408 := n2_; have BK412 := n3_; have HB := n4_; have BK422 := n5_; have GW422 := n6_; have GE422 := n7_; have NB402_422 := n8_; have NB422_402 := n9_; have NB403_422 := n10_; have NB422_403 := n11_; have NB408_422 := n12_; have NB422_408 := n13_; have NB412_422 := n14_; have NB422_412 := n15_; clear n0_ n1_ n2_ n3_ n4_ n5_ n6_ n7_ n8_ n9_ n10_ n11_ n12_ n13_ n14_ n15_ hb hbox hg
          refine hK.out _ _ ⟨(blk_cell BK403.out 0).trans rfl, (blk_cell BK403.out 1).trans rfl⟩ (fun hHeld => ?_)
          clear hK K
          refine norm_ (a' := ?_) ?_ ?_
          rotate_left
          ·
           show Act.put _ (some 9) _ = _
           simp only [apz, i64_w, i32_w]
           rfl
          refine one_ (i := 2) (N := some 28) #[true, true, true, false, false, false, true, false, false] rfl rfl (one_of HT_.out (by kernel_rfl)) (by decide) (fun K hK => ?_)
          refine goes_ Tryd.func9 (by kernel_rfl) rfl #[.agg #[.int .i64 t413, .int .i64 t414, .int .i64 t415, .int .i64 t416, .int .i64 t417, .int .i64 t418], .agg #[.int .i64 a1_0, .int .i64 a1_1]] (by rfl) rfl rfl (by (try simp only [List.map_toArray, List.map_cons, List.map_nil]); first | done | rfl | (simp only [List.length_drop, List.length_take]; rfl)) ?_
          with_reducible refine (affine_Apply.calls k t413 t414 t415 t416 t417 t418 a1_0 a1_1 t419 t420 t421 _ ?side1 A8.out).mono ?_
          (case side1 => exact Gl.below HG.out (wq HB.out))
          rintro e w138 ⟨rfl, hb⟩
          refine ⟨_, rfl, ?_⟩
          have n0_ := Aside0.mk (blk_below (bq BK402.out) hb)
          have n1_ := Aside0.mk (blk_below (bq BK403.out) hb)
          have n2_ := Aside0.mk (blk_below (bq BK408.out) hb)
          have n3_ := Aside0.mk (blk_below (bq BK412.out) hb)
          have n4_ := Aside0.mk (blk_below (bq BK422.out) hb)
          have n5_ := Aside0.mk (below_step (wq HB.out) hb)
          clear BK402 BK403 BK408 BK412; clear BK422 HB; have BK402 := n0_; have BK403 := n1_; have BK408 := n2_; have BK412 := n3_; have BK422 := n4_; have HB := n5_; clear n0_ n1_ n2_ n3_ n4_ n5_
          (try clear hb)
          (try clear hb2)
          (try clear hk)
          (try clear hi)
          refine hK.out _ _ ⟨(blk_cell BK403.out 0).trans rfl, (blk_cell BK403.out 1).trans rfl⟩ (fun hHeld => ?_)
          clear hK K
          refine norm_ (a' := ?_) ?_ ?_
          rotate_left
          ·
           show Act.put _ (some 28) _ = _
           simp only [apz, i64_w, i32_w]
           rfl
          refine pure_ (i := 3) (N := some 25) (v := ?_) (a' := ?_) #[true, true, true, true, false, false, true, false, false] rfl rfl (any_of HT_.out (by kernel_rfl)) (fun _ _ _ h => h) (Or.inl ⟨by rfl, ?_⟩) ?_ ?_
          rotate_left; focus (intro w'; go_simp; with_reducible rfl)
          rotate_left; focus (simp only [apz, i64_w, i32_w]; rfl)
          refine pure_ (i := 4) (N := some 29) (v := ?_) (a' := ?_) #[true, true, true, true, true, false, true, false, false] rfl rfl (any_of HT_.out (by kernel_rfl)) (fun _ _ _ h => h) (Or.inl ⟨by rfl, ?_⟩) ?_ ?_
          rotate_left; focus (intro w'; go_simp; with_reducible rfl)
          rotate_left; focus (simp only [apz, i64_w, i32_w]; rfl)
          refine pure_ (i := 5) (N := some 30) (v := ?_) (a' := ?_) (bt 7 2) rfl rfl (any_of HT_.out (by kernel_rfl)) (fun _ _ _ h => h) (Or.inl ⟨by rfl, ?_⟩) ?_ ?_
          rotate_left; focus (intro w'; go_simp; with_reducible rfl)
          rotate_left; focus (simp only [apz, i64_w, i32_w]; rfl)
          exact norm_ (by simp only [putAll, apz]) (hCont (gb422) _ ⟨hHeld, (bq BK402.out), (bq BK403.out), (bq BK408.out), (bq BK412.out), (bq BK422.out), GW422.out, GE422.out, NB402_422.out, NB422_402.out, NB403_422.out, NB422_403.out, NB408_422.out, NB422_408.out, NB412_422.out, NB422_412.out, (wq HB.out)⟩)
        ·
         skip
         refine box_step ?hg (N := 9) ?hd (cs := #[.int .i64 0, .int .i64 0]) (t := 25) ?hr ?_; (case hd => rfl); (case hg => rfl); (case hr => first | (go_simp; done) | (go_simp; rfl))
         intro gb422 hg w136 hbox hb
         have n0_ := Aside0.mk (blk_below (bq BK402.out) hb)
         have n1_ := Aside0.mk (blk_below (bq BK403.out) hb)
         have n2_ := Aside0.mk (blk_below (bq BK408.out) hb)
         have n3_ := Aside0.mk (blk_below (bq BK412.out) hb)
         have n4_ := Aside0.mk (below_step (wq HB.out) hb)
         have n5_ := Aside0.mk (hbox)
         have n6_ := Aside0.mk ((by rw [hg]; exact (below_size (wq HB.out)) : w.heap.size ≤ gb422))
         have n7_ := Aside0.mk ((by rw [hg]; exact (below_size (wq HB.out)) : w.heap.size ≤ gb422))
         have n8_ := Aside0.mk ((by rw [hg]; exact Nat.ne_of_lt (blk_lt (bq BK402.out)) : gb402 ≠ gb422))
         have n9_ := Aside0.mk ((by rw [hg]; exact Nat.ne_of_gt (blk_lt (bq BK402.out)) : gb422 ≠ gb402))
         have n10_ := Aside0.mk ((by rw [hg]; exact Nat.ne_of_lt (blk_lt (bq BK403.out)) : gb403 ≠ gb422))
         have n11_ := Aside0.mk ((by rw [hg]; exact Nat.ne_of_gt (blk_lt (bq BK403.out)) : gb422 ≠ gb403))
         have n12_ := Aside0.mk ((by rw [hg]; exact Nat.ne_of_lt (blk_lt (bq BK408.out)) : gb408 ≠ gb422))
         have n13_ := Aside0.mk ((by rw [hg]; exact Nat.ne_of_gt (blk_lt (bq BK408.out)) : gb422 ≠ gb408))
         have n14_ := Aside0.mk ((by rw [hg]; exact Nat.ne_of_lt (blk_lt (bq BK412.out)) : gb412 ≠ gb422))
         have n15_ := Aside0.mk ((by rw [hg]; exact Nat.ne_of_gt (blk_lt (bq BK412.out)) : gb422 ≠ gb412))
         clear BK402 BK403 BK408 BK412; clear HB; have BK402 := n0_; have BK403 := n1_; have BK408 := n2_; have BK412 := n3_; have HB := n4_; have BK422 := n5_; have GW422 := n6_; have GE422 := n7_; have NB402_422 := n8_; have NB422_402 := n9_; have NB403_422 := n10_; have NB422_403 := n11_; have NB408_422 := n12_; have NB422_408 := n13_; have NB412_422 := n14_; have NB422_412 := n15_; clear n0_ n1_ n2_ n3_ n4_ n5_ n6_ n7_ n8_ n9_ n10_ n11_ n12_ n13_ n14_ n15_ hb hbox hg
         refine hK.out _ _ ⟨(blk_cell BK403.out 0).trans rfl, (blk_cell BK403.out 1).trans rfl⟩ (fun hHeld => ?_)
         clear hK K
         refine norm_ (a' := ?_) ?_ ?_
         rotate_left
         ·
          show Act.put _ (some 9) _ = _
          simp only [apz, i64_w, i32_w]
          rfl
         refine one_ (i := 0) (N := some 26) #[true, true, false, false, false, false, true, false, false] rfl rfl (one_of HT_.out (by kernel_rfl)) (by decide) (fun K hK => ?_)
         refine goes_ Tryd.func11 (by kernel_rfl) rfl #[] (by rfl) rfl rfl (by (try simp only [List.map_toArray, List.map_cons, List.map_nil]); first | done | rfl | (simp only [List.length_drop, List.length_take]; rfl)) ?_
         with_reducible refine (affine_Same.calls  t413 t414 t415 t416 t417 t418 _ A7.out).mono ?_
         rintro e w137 ⟨rfl, hb⟩
         refine ⟨_, rfl, ?_⟩
         have n0_ := Aside0.mk (blk_below (bq BK402.out) hb)
         have n1_ := Aside0.mk (blk_below (bq BK403.out) hb)
         have n2_ := Aside0.mk (blk_below (bq BK408.out) hb)
         have n3_ := Aside0.mk (blk_below (bq BK412.out) hb)
         have n4_ := Aside0.mk (blk_below (bq BK422.out) hb)
         have n5_ := Aside0.mk (below_step (wq HB.out) hb)
         clear BK402 BK403 BK408 BK412; clear BK422 HB; have BK402 := n0_; have BK403 := n1_; have BK408 := n2_; have BK412 := n3_; have BK422 := n4_; have HB := n5_; clear n0_ n1_ n2_ n3_ n4_ n5_
         (try clear hb)
         (try clear hb2)
         (try clear hk)
         (try clear hi)
         refine hK.out _ _ ⟨(blk_cell BK403.out 0).trans rfl, (blk_cell BK403.out 1).trans rfl⟩ (fun hHeld => ?_)
         clear hK K
         refine norm_ (a' := ?_) ?_ ?_
         rotate_left
         ·
          show Act.put _ (some 26) _ = _
          simp only [apz, i64_w, i32_w]
          rfl
         refine one_ (i := 2) (N := some 28) #[true, true, true, false, false, false, true, false, false] rfl rfl (one_of HT_.out (by kernel_rfl)) (by decide) (fun K hK => ?_)
         refine goes_ Tryd.func9 (by kernel_rfl) rfl #[.agg #[.int .i64 t413, .int .i64 t414, .int .i64 t415, .int .i64 t416, .int .i64 t417, .int .i64 t418], .agg #[.int .i64 a1_0, .int .i64 a1_1]] (by rfl) rfl rfl (by (try simp only [List.map_toArray, List.map_cons, List.map_nil]); first | done | rfl | (simp only [List.length_drop, List.length_take]; rfl)) ?_
         with_reducible refine (affine_Apply.calls k t413 t414 t415 t416 t417 t418 a1_0 a1_1 t419 t420 t421 _ ?side1 A8.out).mono ?_
         (case side1 => exact Gl.below HG.out (wq HB.out))
         rintro e w138 ⟨rfl, hb⟩
         refine ⟨_, rfl, ?_⟩
         have n0_ := Aside0.mk (blk_below (bq BK402.out) hb)
         have n1_ := Aside0.mk (blk_below (bq BK403.out) hb)
         have n2_ := Aside0.mk (blk_below (bq BK408.out) hb)
         have n3_ := Aside0.mk (blk_below (bq BK412.out) hb)
         have n4_ := Aside0.mk (blk_below (bq BK422.out) hb)
         have n5_ := Aside0.mk (below_step (wq HB.out) hb)
         clear BK402 BK403 BK408 BK412; clear BK422 HB; have BK402 := n0_; have BK403 := n1_; have BK408 := n2_; have BK412 := n3_; have BK422 := n4_; have HB := n5_; clear n0_ n1_ n2_ n3_ n4_ n5_
         (try clear hb)
         (try clear hb2)
         (try clear hk)
         (try clear hi)
         refine hK.out _ _ ⟨(blk_cell BK403.out 0).trans rfl, (blk_cell BK403.out 1).trans rfl⟩ (fun hHeld => ?_)
         clear hK K
         refine norm_ (a' := ?_) ?_ ?_
         rotate_left
         ·
          show Act.put _ (some 28) _ = _
          simp only [apz, i64_w, i32_w]
          rfl
         refine pure_ (i := 3) (N := some 25) (v := ?_) (a' := ?_) #[true, true, true, true, false, false, true, false, false] rfl rfl (any_of HT_.out (by kernel_rfl)) (fun _ _ _ h => h) (Or.inl ⟨by rfl, ?_⟩) ?_ ?_
         rotate_left; focus (intro w'; go_simp; with_reducible rfl)
         rotate_left; focus (simp only [apz, i64_w, i32_w]; rfl)
         refine pure_ (i := 4) (N := some 29) (v := ?_) (a' := ?_) #[true, true, true, true, true, false, true, false, false] rfl rfl (any_of HT_.out (by kernel_rfl)) (fun _ _ _ h => h) (Or.inl ⟨by rfl, ?_⟩) ?_ ?_
         rotate_left; focus (intro w'; go_simp; with_reducible rfl)
         rotate_left; focus (simp only [apz, i64_w, i32_w]; rfl)
         refine pure_ (i := 5) (N := some 30) (v := ?_) (a' := ?_) (bt 7 2) rfl rfl (any_of HT_.out (by kernel_rfl)) (fun _ _ _ h => h) (Or.inl ⟨by rfl, ?_⟩) ?_ ?_
         rotate_left; focus (intro w'; go_simp; with_reducible rfl)
         rotate_left; focus (simp only [apz, i64_w, i32_w]; rfl)
         exact norm_ (by simp only [putAll, apz]) (hCont (gb422) _ ⟨hHeld, (bq BK402.out), (bq BK403.out), (bq BK408.out), (bq BK412.out), (bq BK422.out), GW422.out, GE422.out, NB402_422.out, NB422_402.out, NB403_422.out, NB422_403.out, NB408_422.out, NB422_408.out, NB412_422.out, NB422_412.out, (wq HB.out)⟩)
       rintro gb422 w139 ⟨hS_, h0_, h1_, h2_, h3_, h4_, h5_, h6_, h7_, h8_, h9_, h10_, h11_, h12_, h13_, h14_, h15_⟩
       have n0_ : Aside0 (w139.heap[gb402]? = some (.cells #[.int .i64 a0_0, .int .i64 a0_1, .int .i64 a0_2, .int .i64 a0_3, .int .i64 a0_4, .int .i64 a0_5] 23 (0, 0))) := ⟨h0_⟩
       have n1_ : Aside0 (w139.heap[gb403]? = some (.cells #[.int .i64 a1_0, .int .i64 a1_1] 25 (0, 0))) := ⟨h1_⟩
       have n2_ : Aside0 (w139.heap[gb408]? = some (.cells #[.int .i64 t405, .int .i64 t406] 25 (0, 0))) := ⟨h2_⟩
       have n3_ : Aside0 (w139.heap[gb412]? = some (.cells #[.int .i64 t409, .int .i64 t410] 25 (0, 0))) := ⟨h3_⟩
       have n4_ : Aside0 (w139.heap[gb422]? = some (.cells #[.int .i64 0, .int .i64 0] 25 (0, 0))) := ⟨h4_⟩
       have n5_ : Aside0 (w.heap.size ≤ gb422) := ⟨h5_⟩
       have n6_ : Aside0 (w.heap.size ≤ gb422) := ⟨h6_⟩
       have n7_ : Aside0 (gb402 ≠ gb422) := ⟨h7_⟩
       have n8_ : Aside0 (gb422 ≠ gb402) := ⟨h8_⟩
       have n9_ : Aside0 (gb403 ≠ gb422) := ⟨h9_⟩
       have n10_ : Aside0 (gb422 ≠ gb403) := ⟨h10_⟩
       have n11_ : Aside0 (gb408 ≠ gb422) := ⟨h11_⟩
       have n12_ : Aside0 (gb422 ≠ gb408) := ⟨h12_⟩
       have n13_ : Aside0 (gb412 ≠ gb422) := ⟨h13_⟩
       have n14_ : Aside0 (gb422 ≠ gb412) := ⟨h14_⟩
       have n15_ : Aside0 (Below w.heap.size w w139) := ⟨h15_⟩
       clear BK402 BK403 BK408 BK412; clear HB h0_ h1_ h2_ h3_ h4_ h5_ h6_ h7_ h8_ h9_ h10_ h11_ h12_ h13_ h14_ h15_; have BK402 := n0_; have BK403 := n1_; have BK408 := n2_; have BK412 := n3_; have BK422 := n4_; have GW422 := n5_; have GE422 := n6_; have NB402_422 := n7_; have NB422_402 := n8_; have NB403_422 := n9_; have NB422_403 := n10_; have NB408_422 := n11_; have NB422_408 := n12_; have NB412_422 := n13_; have NB422_412 := n14_; have HB := n15_; clear n0_ n1_ n2_ n3_ n4_ n5_ n6_ n7_ n8_ n9_ n10_ n11_ n12_ n13_ n14_ n15_
       have hHeld : w139.cell? ⟨gb403, 0, none⟩ = some (.int .i64 a1_0) ∧ w139.cell? ⟨gb403, 1, none⟩ = some (.int .i64 a1_1) := hS_
       refine norm_ (a' := ?_) ?_ ?_
       rotate_left
       ·
        simp only [putAll, apz]
        rfl
       refine one_ (i := 7) (N := none) (bt 8 1) rfl rfl (one_of HT_.out (by kernel_rfl)) (by decide) (fun K hK => ?_)
       have hs140 : w139.cell? ⟨gb422, 0, none⟩ = some (.int .i64 0) := (blk_cell BK422.out 0).trans rfl
       have hfs140 := blk_frozen BK422.out 0
       have hns140_0 := NB402_422.out
       have hns140_1 := NB403_422.out
       have hns140_2 := NB408_422.out
       have hns140_3 := NB412_422.out
       have hms140_0 := NB422_402.out
       have hms140_1 := NB422_403.out
       have hms140_2 := NB422_408.out
       have hms140_3 := NB422_412.out
       have hs141 : w139.cell? ⟨gb422, 1, none⟩ = some (.int .i64 0) := (blk_cell BK422.out 1).trans rfl
       have hfs141 := blk_frozen BK422.out 1
       have hns141_0 := NB402_422.out
       have hns141_1 := NB403_422.out
       have hns141_2 := NB408_422.out
       have hns141_3 := NB412_422.out
       have hms141_0 := NB422_402.out
       have hms141_1 := NB422_403.out
       have hms141_2 := NB422_408.out
       have hms141_3 := NB422_412.out
       refine skip_ (w1 := ?_) (by rfl) rfl ?_ ?_
       rotate_left
       ·
        go_simp
        rfl
       refine hK.out _ _ ⟨((cell_far (p := ⟨gb422, _, none⟩) NB403_422.out _).trans (((cell_far (p := ⟨gb422, _, none⟩) NB403_422.out _).trans (hHeld.1)))), ((cell_far (p := ⟨gb422, _, none⟩) NB403_422.out _).trans (((cell_far (p := ⟨gb422, _, none⟩) NB403_422.out _).trans (hHeld.2))))⟩ (fun hHeld => ?_)
       clear hK K
       refine pure_ (i := 8) (N := some 10) (v := ?_) (a' := ?_) (bt 9 0) rfl rfl (any_of HT_.out (by kernel_rfl)) (fun _ _ _ h => h) (Or.inl ⟨by rfl, ?_⟩) ?_ ?_
       rotate_left; focus (intro w'; go_simp; with_reducible rfl)
       rotate_left; focus (simp only [apz, i64_w, i32_w]; rfl)
       refine done_ (done_of HT_.out (by kernel_rfl)) ?_
       try go_wp2
       have n0_ : Aside0 (((w139.setCell ⟨gb422, 0, none⟩ (.int .i64 t419)).setCell ⟨gb422, 1, none⟩ (.int .i64 t420)).heap[gb402]? = some (.cells #[.int .i64 a0_0, .int .i64 a0_1, .int .i64 a0_2, .int .i64 a0_3, .int .i64 a0_4, .int .i64 a0_5] 23 (0, 0))) := ⟨by refine bq ?_; refine blk_far ?_ NB402_422.out _; refine bq ?_; refine blk_far ?_ NB402_422.out _; refine bq ?_; exact BK402.out⟩
       have n1_ : Aside0 (((w139.setCell ⟨gb422, 0, none⟩ (.int .i64 t419)).setCell ⟨gb422, 1, none⟩ (.int .i64 t420)).heap[gb403]? = some (.cells #[.int .i64 a1_0, .int .i64 a1_1] 25 (0, 0))) := ⟨by refine bq ?_; refine blk_far ?_ NB403_422.out _; refine bq ?_; refine blk_far ?_ NB403_422.out _; refine bq ?_; exact BK403.out⟩
       have n2_ : Aside0 (((w139.setCell ⟨gb422, 0, none⟩ (.int .i64 t419)).setCell ⟨gb422, 1, none⟩ (.int .i64 t420)).heap[gb408]? = some (.cells #[.int .i64 t405, .int .i64 t406] 25 (0, 0))) := ⟨by refine bq ?_; refine blk_far ?_ NB408_422.out _; refine bq ?_; refine blk_far ?_ NB408_422.out _; refine bq ?_; exact BK408.out⟩
       have n3_ : Aside0 (((w139.setCell ⟨gb422, 0, none⟩ (.int .i64 t419)).setCell ⟨gb422, 1, none⟩ (.int .i64 t420)).heap[gb412]? = some (.cells #[.int .i64 t409, .int .i64 t410] 25 (0, 0))) := ⟨by refine bq ?_; refine blk_far ?_ NB412_422.out _; refine bq ?_; refine blk_far ?_ NB412_422.out _; refine bq ?_; exact BK412.out⟩
       have n4_ : Aside0 (((w139.setCell ⟨gb422, 0, none⟩ (.int .i64 t419)).setCell ⟨gb422, 1, none⟩ (.int .i64 t420)).heap[gb422]? = some (.cells #[.int .i64 t419, .int .i64 t420] 25 (0, 0))) := ⟨by refine bq ?_; refine blk_put (cs := #[.int .i64 t419, .int .i64 0]) ?_ 1 _ rfl; refine bq ?_; refine blk_put (cs := #[.int .i64 0, .int .i64 0]) ?_ 0 _ rfl; refine bq ?_; exact BK422.out⟩
       have n5_ : Aside0 (Below w.heap.size w ((w139.setCell ⟨gb422, 0, none⟩ (.int .i64 t419)).setCell ⟨gb422, 1, none⟩ (.int .i64 t420))) := ⟨by exact wq HB.out⟩
       (try clear BK402)
       (try clear BK403)
       (try clear BK408)
       (try clear BK412)
       (try clear BK422)
       (try clear HB)
       generalize ((w139.setCell ⟨gb422, 0, none⟩ (.int .i64 t419)).setCell ⟨gb422, 1, none⟩ (.int .i64 t420)) = w142 at n0_ n1_ n2_ n3_ n4_ n5_ ⊢
       have BK402 := n0_; have BK403 := n1_; have BK408 := n2_; have BK412 := n3_; have BK422 := n4_; have HB := n5_; clear n0_ n1_ n2_ n3_ n4_ n5_
       have n0_ := Aside0.mk (blk_drew BK402.out)
       have n1_ := Aside0.mk (blk_drew BK403.out)
       have n2_ := Aside0.mk (blk_drew BK408.out)
       have n3_ := Aside0.mk (blk_drew BK412.out)
       have n4_ := Aside0.mk (blk_drew BK422.out)
       have n5_ := Aside0.mk (below_drew1 HB.out)
       clear BK402 BK403 BK408 BK412; clear BK422 HB; have BK402 := n0_; have BK403 := n1_; have BK408 := n2_; have BK412 := n3_; have BK422 := n4_; have HB := n5_; clear n0_ n1_ n2_ n3_ n4_ n5_
       refine start_ (n := 38) (S := fun w' => w'.cell? ⟨gb408, 0, none⟩ = some (.int .i64 t405) ∧ w'.cell? ⟨gb408, 1, none⟩ = some (.int .i64 t406) ∧ w'.cell? ⟨gb412, 0, none⟩ = some (.int .i64 t409) ∧ w'.cell? ⟨gb412, 1, none⟩ = some (.int .i64 t410) ∧ w'.cell? ⟨gb402, 0, none⟩ = some (.int .i64 a0_0) ∧ w'.cell? ⟨gb402, 1, none⟩ = some (.int .i64 a0_1) ∧ w'.cell? ⟨gb402, 2, none⟩ = some (.int .i64 a0_2) ∧ w'.cell? ⟨gb402, 3, none⟩ = some (.int .i64 a0_3) ∧ w'.cell? ⟨gb402, 4, none⟩ = some (.int .i64 a0_4) ∧ w'.cell? ⟨gb402, 5, none⟩ = some (.int .i64 a0_5) ∧ w'.cell? ⟨gb403, 0, none⟩ = some (.int .i64 a1_0) ∧ w'.cell? ⟨gb403, 1, none⟩ = some (.int .i64 a1_1)) (ds := []) (bt 0 38) (by kernel_rfl) rfl rfl ⟨(blk_cell BK408.out 0).trans rfl, (blk_cell BK408.out 1).trans rfl, (blk_cell BK412.out 0).trans rfl, (blk_cell BK412.out 1).trans rfl, (blk_cell BK402.out 0).trans rfl, (blk_cell BK402.out 1).trans rfl, (blk_cell BK402.out 2).trans rfl, (blk_cell BK402.out 3).trans rfl, (blk_cell BK402.out 4).trans rfl, (blk_cell BK402.out 5).trans rfl, (blk_cell BK403.out 0).trans rfl, (blk_cell BK403.out 1).trans rfl⟩ (fun hHeld => ?_); refine with_tabW pointillistlaw08_AffineApplies.tab6 pointillistlaw08_AffineApplies.bits6 (fun HT_ HW_ => ?_)
       generalize w142.drew = w143 at BK402 BK403 BK408 BK412 BK422 HB hHeld ⊢
       refine take_ (i := 0) (N := some 31) (v := ?_) (a' := ?_) (bt 1 37) rfl rfl (take_ofW HT_.out HW_.out (by kernel_rfl)) (fun _ _ _ h => h) (Or.inl ⟨by rfl, ?_⟩) hHeld ?_ ?_
       rotate_left
       ·
        rintro w' ⟨s0, s1, s2, s3, s4, s5, s6, s7, s8, s9, s10, s11⟩
        go_simp
        with_reducible rfl
       rotate_left; focus (simp only [apz, i64_w, i32_w]; rfl)
       refine take_ (i := 1) (N := some 32) (v := ?_) (a' := ?_) (bt 2 36) rfl rfl (take_ofW HT_.out HW_.out (by kernel_rfl)) (fun _ _ _ h => h) (Or.inl ⟨by rfl, ?_⟩) hHeld ?_ ?_
       rotate_left
       ·
        rintro w' ⟨s0, s1, s2, s3, s4, s5, s6, s7, s8, s9, s10, s11⟩
        go_simp
        with_reducible rfl
       rotate_left; focus (simp only [apz, i64_w, i32_w]; rfl)
       refine pure_ (i := 2) (N := some 33) (v := ?_) (a' := ?_) (bt 3 35) rfl rfl (any_of HT_.out (by kernel_rfl)) (fun _ _ _ h => h) (Or.inl ⟨by rfl, ?_⟩) ?_ ?_
       rotate_left; focus (intro w'; go_simp; with_reducible rfl)
       rotate_left; focus (simp only [apz, i64_w, i32_w]; rfl)
       refine pure_ (i := 3) (N := some 34) (v := ?_) (a' := ?_) (bt 4 34) rfl rfl (any_of HT_.out (by kernel_rfl)) (fun _ _ _ h => h) (Or.inl ⟨by rfl, ?_⟩) ?_ ?_
       rotate_left; focus (intro w'; go_simp; with_reducible rfl)
       rotate_left; focus (simp only [apz, i64_w, i32_w]; rfl)
       refine pure_ (i := 4) (N := some 35) (v := ?_) (a' := ?_) (bt 5 33) rfl rfl (any_of HT_.out (by kernel_rfl)) (fun _ _ _ h => h) (Or.inl ⟨by rfl, ?_⟩) ?_ ?_
       rotate_left; focus (intro w'; go_simp; with_reducible rfl)
       rotate_left; focus (simp only [apz, i64_w, i32_w]; rfl)
       refine pure_ (i := 5) (N := some 36) (v := ?_) (a' := ?_) (bt 6 32) rfl rfl (any_of HT_.out (by kernel_rfl)) (fun _ _ _ h => h) (Or.inl ⟨by rfl, ?_⟩) ?_ ?_
       rotate_left; focus (intro w'; go_simp; with_reducible rfl)
       rotate_left; focus (simp only [apz, i64_w, i32_w]; rfl)
       refine pure_ (i := 6) (N := some 37) (v := ?_) (a' := ?_) (bt 7 31) rfl rfl (any_of HT_.out (by kernel_rfl)) (fun _ _ _ h => h) (Or.inl ⟨by rfl, ?_⟩) ?_ ?_
       rotate_left; focus (intro w'; go_simp; with_reducible rfl)
       rotate_left; focus (simp only [apz, i64_w, i32_w]; rfl)
       refine pure_ (i := 7) (N := some 38) (v := ?_) (a' := ?_) (bt 8 30) rfl rfl (any_of HT_.out (by kernel_rfl)) (fun _ _ _ h => h) (Or.inl ⟨by rfl, ?_⟩) ?_ ?_
       rotate_left; focus (intro w'; go_simp; with_reducible rfl)
       rotate_left; focus (simp only [apz, i64_w, i32_w]; rfl)
       refine pure_ (i := 8) (N := some 39) (v := ?_) (a' := ?_) (bt 9 29) rfl rfl (any_of HT_.out (by kernel_rfl)) (fun _ _ _ h => h) (Or.inl ⟨by rfl, ?_⟩) ?_ ?_
       rotate_left; focus (intro w'; go_simp; with_reducible rfl)
       rotate_left; focus (simp only [apz, i64_w, i32_w]; rfl)
       refine take_ (i := 9) (N := some 40) (v := ?_) (a' := ?_) (bt 10 28) rfl rfl (take_ofW HT_.out HW_.out (by kernel_rfl)) (fun _ _ _ h => h) (Or.inl ⟨by rfl, ?_⟩) hHeld ?_ ?_
       rotate_left
       ·
        rintro w' ⟨s0, s1, s2, s3, s4, s5, s6, s7, s8, s9, s10, s11⟩
        go_simp
        with_reducible rfl
       rotate_left; focus (simp only [apz, i64_w, i32_w]; rfl)
       refine take_ (i := 11) (N := some 42) (v := ?_) (a' := ?_) #[true, true, true, true, true, true, true, true, true, true, false, true, false, false, false, false, false, false, false, false, false, false, false, false, false, false, false, false, false, false, false, false, false, false, false, false, false, false] rfl rfl (take_ofW HT_.out HW_.out (by kernel_rfl)) (fun _ _ _ h => h) (Or.inl ⟨by rfl, ?_⟩) hHeld ?_ ?_
       rotate_left
       ·
        rintro w' ⟨s0, s1, s2, s3, s4, s5, s6, s7, s8, s9, s10, s11⟩
        go_simp
        with_reducible rfl
       rotate_left; focus (simp only [apz, i64_w, i32_w]; rfl)
       refine one_ (i := 10) (N := some 41) (bt 12 26) rfl rfl (one_of HT_.out (by kernel_rfl)) (by decide) (fun K hK => ?_)
       refine goes_ Tryd.func12 (by kernel_rfl) rfl #[.agg #[.int .i64 a0_0, .int .i64 a0_1, .int .i64 a0_2, .int .i64 a0_3, .int .i64 a0_4, .int .i64 a0_5]] (by rfl) rfl rfl (by (try simp only [List.map_toArray, List.map_cons, List.map_nil]); first | done | rfl | (simp only [List.length_drop, List.length_take]; rfl)) ?_
       with_reducible refine (affine_Right.calls k a0_0 a0_1 a0_2 a0_3 a0_4 a0_5 t423 _ A11.out).mono ?_
       rintro e w144 ⟨rfl, hb⟩
       refine ⟨_, rfl, ?_⟩
       have n0_ := Aside0.mk (blk_below (bq BK402.out) hb)
       have n1_ := Aside0.mk (blk_below (bq BK403.out) hb)
       have n2_ := Aside0.mk (blk_below (bq BK408.out) hb)
       have n3_ := Aside0.mk (blk_below (bq BK412.out) hb)
       have n4_ := Aside0.mk (blk_below (bq BK422.out) hb)
       have n5_ := Aside0.mk (below_step (wq HB.out) hb)
       clear BK402 BK403 BK408 BK412; clear BK422 HB; have BK402 := n0_; have BK403 := n1_; have BK408 := n2_; have BK412 := n3_; have BK422 := n4_; have HB := n5_; clear n0_ n1_ n2_ n3_ n4_ n5_
       (try clear hb)
       (try clear hb2)
       (try clear hk)
       (try clear hi)
       refine hK.out _ _ ⟨(blk_cell BK408.out 0).trans rfl, (blk_cell BK408.out 1).trans rfl, (blk_cell BK412.out 0).trans rfl, (blk_cell BK412.out 1).trans rfl, (blk_cell BK402.out 0).trans rfl, (blk_cell BK402.out 1).trans rfl, (blk_cell BK402.out 2).trans rfl, (blk_cell BK402.out 3).trans rfl, (blk_cell BK402.out 4).trans rfl, (blk_cell BK402.out 5).trans rfl, (blk_cell BK403.out 0).trans rfl, (blk_cell BK403.out 1).trans rfl⟩ (fun hHeld => ?_)
       clear hK K
       refine norm_ (a' := ?_) ?_ ?_
       rotate_left
       ·
        show Act.put _ (some 41) _ = _
        simp only [apz, i64_w, i32_w]
        rfl
       refine one_ (i := 12) (N := some 43) (bt 13 25) rfl rfl (one_of HT_.out (by kernel_rfl)) (by decide) (fun K hK => ?_)
       refine goes_ Tryd.func13 (by kernel_rfl) rfl #[.agg #[.int .i64 a0_0, .int .i64 a0_1, .int .i64 a0_2, .int .i64 a0_3, .int .i64 a0_4, .int .i64 a0_5]] (by rfl) rfl rfl (by (try simp only [List.map_toArray, List.map_cons, List.map_nil]); first | done | rfl | (simp only [List.length_drop, List.length_take]; rfl)) ?_
       with_reducible refine (pointillistref08_Right.calls a0_0 a0_1 a0_2 a0_3 a0_4 a0_5 t424 _ A12.out).mono ?_
       rintro e w145 ⟨rfl, hb⟩
       refine ⟨_, rfl, ?_⟩
       have n0_ := Aside0.mk (blk_below (bq BK402.out) hb)
       have n1_ := Aside0.mk (blk_below (bq BK403.out) hb)
       have n2_ := Aside0.mk (blk_below (bq BK408.out) hb)
       have n3_ := Aside0.mk (blk_below (bq BK412.out) hb)
       have n4_ := Aside0.mk (blk_below (bq BK422.out) hb)
       have n5_ := Aside0.mk (below_step (wq HB.out) hb)
       clear BK402 BK403 BK408 BK412; clear BK422 HB; have BK402 := n0_; have BK403 := n1_; have BK408 := n2_; have BK412 := n3_; have BK422 := n4_; have HB := n5_; clear n0_ n1_ n2_ n3_ n4_ n5_
       (try clear hb)
       (try clear hb2)
       (try clear hk)
       (try clear hi)
       refine hK.out _ _ ⟨(blk_cell BK408.out 0).trans rfl, (blk_cell BK408.out 1).trans rfl, (blk_cell BK412.out 0).trans rfl, (blk_cell BK412.out 1).trans rfl, (blk_cell BK402.out 0).trans rfl, (blk_cell BK402.out 1).trans rfl, (blk_cell BK402.out 2).trans rfl, (blk_cell BK402.out 3).trans rfl, (blk_cell BK402.out 4).trans rfl, (blk_cell BK402.out 5).trans rfl, (blk_cell BK403.out 0).trans rfl, (blk_cell BK403.out 1).trans rfl⟩ (fun hHeld => ?_)
       clear hK K
       refine norm_ (a' := ?_) ?_ ?_
       rotate_left
       ·
        show Act.put _ (some 43) _ = _
        simp only [apz, i64_w, i32_w]
        rfl
       refine pure_ (i := 13) (N := some 44) (v := ?_) (a' := ?_) (bt 14 24) rfl rfl (any_of HT_.out (by kernel_rfl)) (fun _ _ _ h => h) (Or.inl ⟨by rfl, ?_⟩) ?_ ?_
       rotate_left; focus (intro w'; go_simp; with_reducible rfl)
       rotate_left; focus (simp only [apz, i64_w, i32_w]; rfl)
       refine pure_ (i := 14) (N := some 45) (v := ?_) (a' := ?_) (bt 15 23) rfl rfl (any_of HT_.out (by kernel_rfl)) (fun _ _ _ h => h) (Or.inl ⟨by rfl, ?_⟩) ?_ ?_
       rotate_left; focus (intro w'; go_simp; with_reducible rfl)
       rotate_left; focus (simp only [apz, i64_w, i32_w]; rfl)
       refine pure_ (i := 15) (N := some 46) (v := ?_) (a' := ?_) (bt 16 22) rfl rfl (any_of HT_.out (by kernel_rfl)) (fun _ _ _ h => h) (Or.inl ⟨by rfl, ?_⟩) ?_ ?_
       rotate_left; focus (intro w'; go_simp; with_reducible rfl)
       rotate_left; focus (simp only [apz, i64_w, i32_w]; rfl)
       refine pure_ (i := 16) (N := some 47) (v := ?_) (a' := ?_) (bt 17 21) rfl rfl (any_of HT_.out (by kernel_rfl)) (fun _ _ _ h => h) (Or.inl ⟨by rfl, ?_⟩) ?_ ?_
       rotate_left; focus (intro w'; go_simp; with_reducible rfl)
       rotate_left; focus (simp only [apz, i64_w, i32_w]; rfl)
       refine pure_ (i := 17) (N := some 48) (v := ?_) (a' := ?_) (bt 18 20) rfl rfl (any_of HT_.out (by kernel_rfl)) (fun _ _ _ h => h) (Or.inl ⟨by rfl, ?_⟩) ?_ ?_
       rotate_left; focus (intro w'; go_simp; with_reducible rfl)
       rotate_left; focus (simp only [apz, i64_w, i32_w]; rfl)
       refine pure_ (i := 18) (N := some 49) (v := ?_) (a' := ?_) (bt 19 19) rfl rfl (any_of HT_.out (by kernel_rfl)) (fun _ _ _ h => h) (Or.inl ⟨by rfl, ?_⟩) ?_ ?_
       rotate_left; focus (intro w'; go_simp; with_reducible rfl)
       rotate_left; focus (simp only [apz, i64_w, i32_w]; rfl)
       refine pure_ (i := 19) (N := some 50) (v := undef) (a' := ?_) (bt 20 18) rfl rfl (any_of HT_.out (by kernel_rfl)) (fun _ _ _ h => h) (Or.inr ⟨by rfl, rfl⟩) ?_ ?_
       rotate_left; focus (simp only [apz, i64_w, i32_w]; rfl)
       refine pure_ (i := 20) (N := some 51) (v := undef) (a' := ?_) (bt 21 17) rfl rfl (any_of HT_.out (by kernel_rfl)) (fun _ _ _ h => h) (Or.inr ⟨by rfl, rfl⟩) ?_ ?_
       rotate_left; focus (simp only [apz, i64_w, i32_w]; rfl)
       refine pure_ (i := 21) (N := some 52) (v := undef) (a' := ?_) (bt 22 16) rfl rfl (any_of HT_.out (by kernel_rfl)) (fun _ _ _ h => h) (Or.inr ⟨by rfl, rfl⟩) ?_ ?_
       rotate_left; focus (simp only [apz, i64_w, i32_w]; rfl)
       refine pure_ (i := 22) (N := some 53) (v := ?_) (a' := ?_) (bt 23 15) rfl rfl (any_of HT_.out (by kernel_rfl)) (fun _ _ _ h => h) (Or.inl ⟨by rfl, ?_⟩) ?_ ?_
       rotate_left; focus (intro w'; go_simp; with_reducible rfl)
       rotate_left; focus (simp only [apz, i64_w, i32_w]; rfl)
       refine pure_ (i := 23) (N := some 54) (v := ?_) (a' := ?_) (bt 24 14) rfl rfl (any_of HT_.out (by kernel_rfl)) (fun _ _ _ h => h) (Or.inl ⟨by rfl, ?_⟩) ?_ ?_
       rotate_left; focus (intro w'; go_simp; with_reducible rfl)
       rotate_left; focus (simp only [apz, i64_w, i32_w]; rfl)
       refine pure_ (i := 24) (N := some 55) (v := ?_) (a' := ?_) (bt 25 13) rfl rfl (any_of HT_.out (by kernel_rfl)) (fun _ _ _ h => h) (Or.inl ⟨by rfl, ?_⟩) ?_ ?_
       rotate_left; focus (intro w'; go_simp; with_reducible rfl)
       rotate_left; focus (simp only [apz, i64_w, i32_w]; rfl)
       refine pure_ (i := 25) (N := some 56) (v := ?_) (a' := ?_) (bt 26 12) rfl rfl (any_of HT_.out (by kernel_rfl)) (fun _ _ _ h => h) (Or.inl ⟨by rfl, ?_⟩) ?_ ?_
       rotate_left; focus (intro w'; go_simp; with_reducible rfl)
       rotate_left; focus (simp only [apz, i64_w, i32_w]; rfl)
       refine pure_ (i := 26) (N := some 57) (v := ?_) (a' := ?_) (bt 27 11) rfl rfl (any_of HT_.out (by kernel_rfl)) (fun _ _ _ h => h) (Or.inl ⟨by rfl, ?_⟩) ?_ ?_
       rotate_left; focus (intro w'; go_simp; with_reducible rfl)
       rotate_left; focus (simp only [apz, i64_w, i32_w]; rfl)
       refine pure_ (i := 27) (N := some 58) (v := ?_) (a' := ?_) (bt 28 10) rfl rfl (any_of HT_.out (by kernel_rfl)) (fun _ _ _ h => h) (Or.inl ⟨by rfl, ?_⟩) ?_ ?_
       rotate_left; focus (intro w'; go_simp; with_reducible rfl)
       rotate_left; focus (simp only [apz, i64_w, i32_w]; rfl)
       refine take_ (i := 28) (N := some 59) (v := ?_) (a' := ?_) (bt 29 9) rfl rfl (take_ofW HT_.out HW_.out (by kernel_rfl)) (fun _ _ _ h => h) (Or.inl ⟨by rfl, ?_⟩) hHeld ?_ ?_
       rotate_left
       ·
        rintro w' ⟨s0, s1, s2, s3, s4, s5, s6, s7, s8, s9, s10, s11⟩
        go_simp
        with_reducible rfl
       rotate_left; focus (simp only [apz, i64_w, i32_w]; rfl)
       refine one_ (i := 29) (N := some 60) (bt 30 8) rfl rfl (one_of HT_.out (by kernel_rfl)) (by decide) (fun K hK => ?_)
       refine goes_ Tryd.func14 (by kernel_rfl) rfl #[.int .i64 a1_0] (by rfl) rfl rfl (by (try simp only [List.map_toArray, List.map_cons, List.map_nil]); first | done | rfl | (simp only [List.length_drop, List.length_take]; rfl)) ?_
       with_reducible refine (pointillistref08_In.calls a1_0 false _ A81.out).mono ?_
       rintro e w' ⟨rfl, ⟨nd, rfl⟩⟩
       refine ⟨_, rfl, ?_⟩
       refine hK.out _ _ ⟨(blk_cell BK408.out 0).trans rfl, (blk_cell BK408.out 1).trans rfl, (blk_cell BK412.out 0).trans rfl, (blk_cell BK412.out 1).trans rfl, (blk_cell BK402.out 0).trans rfl, (blk_cell BK402.out 1).trans rfl, (blk_cell BK402.out 2).trans rfl, (blk_cell BK402.out 3).trans rfl, (blk_cell BK402.out 4).trans rfl, (blk_cell BK402.out 5).trans rfl, (blk_cell BK403.out 0).trans rfl, (blk_cell BK403.out 1).trans rfl⟩ (fun hHeld => ?_)
       clear hK K
       refine norm_ (a' := ?_) ?_ ?_
       rotate_left
       ·
        show Act.put _ (some 60) _ = _
        simp only [apz, i64_w, i32_w]
        rfl
       refine pure_ (i := 30) (N := some 61) (v := ?_) (a' := ?_) (bt 31 7) rfl rfl (any_of HT_.out (by kernel_rfl)) (fun _ _ _ h => h) (Or.inl ⟨by rfl, ?_⟩) ?_ ?_
       rotate_left; focus (intro w'; go_simp; with_reducible rfl)
       rotate_left; focus (simp only [apz, i64_w, i32_w]; rfl)
       refine pure_ (i := 31) (N := some 62) (v := undef) (a' := ?_) (bt 32 6) rfl rfl (any_of HT_.out (by kernel_rfl)) (fun _ _ _ h => h) (Or.inr ⟨by rfl, rfl⟩) ?_ ?_
       rotate_left; focus (simp only [apz, i64_w, i32_w]; rfl)
       refine pure_ (i := 32) (N := some 63) (v := undef) (a' := ?_) (bt 33 5) rfl rfl (any_of HT_.out (by kernel_rfl)) (fun _ _ _ h => h) (Or.inr ⟨by rfl, rfl⟩) ?_ ?_
       rotate_left; focus (simp only [apz, i64_w, i32_w]; rfl)
       refine pure_ (i := 33) (N := some 64) (v := undef) (a' := ?_) (bt 34 4) rfl rfl (any_of HT_.out (by kernel_rfl)) (fun _ _ _ h => h) (Or.inr ⟨by rfl, rfl⟩) ?_ ?_
       rotate_left; focus (simp only [apz, i64_w, i32_w]; rfl)
       refine pure_ (i := 34) (N := some 65) (v := ?_) (a' := ?_) (bt 35 3) rfl rfl (any_of HT_.out (by kernel_rfl)) (fun _ _ _ h => h) (Or.inl ⟨by rfl, ?_⟩) ?_ ?_
       rotate_left; focus (intro w'; go_simp; with_reducible rfl)
       rotate_left; focus (simp only [apz, i64_w, i32_w]; rfl)
       refine pure_ (i := 35) (N := some 66) (v := ?_) (a' := ?_) (bt 36 2) rfl rfl (any_of HT_.out (by kernel_rfl)) (fun _ _ _ h => h) (Or.inl ⟨by rfl, ?_⟩) ?_ ?_
       rotate_left; focus (intro w'; go_simp; with_reducible rfl)
       rotate_left; focus (simp only [apz, i64_w, i32_w]; rfl)
       refine pure_ (i := 36) (N := some 67) (v := ?_) (a' := ?_) (bt 37 1) rfl rfl (any_of HT_.out (by kernel_rfl)) (fun _ _ _ h => h) (Or.inl ⟨by rfl, ?_⟩) ?_ ?_
       rotate_left; focus (intro w'; go_simp; with_reducible rfl)
       rotate_left; focus (simp only [apz, i64_w, i32_w]; rfl)
       refine pure_ (i := 37) (N := some 4) (v := ?_) (a' := ?_) (bt 38 0) rfl rfl (any_of HT_.out (by kernel_rfl)) (fun _ _ _ h => h) (Or.inl ⟨by rfl, ?_⟩) ?_ ?_
       rotate_left; focus (intro w'; go_simp; with_reducible rfl)
       rotate_left; focus (simp only [apz, i64_w, i32_w]; rfl)
       refine done_ (done_of HT_.out (by kernel_rfl)) ?_
       try go_wp2
       go_ret
       exact ⟨by first | rfl | (simp [errW_none, errW_some] <;> rfl) | (rw [HE_.out]; done) | (simp [HE_.out]; done) | (have h_ := HE_.out; simp_all; done) | (have h_ := HE_.out; simp [*] at h_; simp [*, h_]; done) | (simp [*, errW_none, errW_some] <;> rfl), by exact wq HB.out⟩
    ·
     rw [if_neg c13] at H
     have c13b0 : (t423 == t424) = false := by simpa using c13
     (try (have c13b1 : decide (t423 = t424) = false := by simpa using c13))
     (try (have c13b2 : (t423 == t424) = false := by simpa using c13))
     (try (have c13b3 : ¬ (t423 = t424) := by simpa using c13))
     clear c13
     exact absurd H (by simp)
   ·
    rw [if_neg c10] at H
    have c10b0 : (t407 == t411) = false := beq_eq_false_iff_ne.mpr c10
    have c10b1 : (t407 != t411) = true := bne_iff_ne.mpr c10
    exact absurd H (by simp)
  ·
   rw [if_neg c9] at H
   have c9b0 : (t405 == t409 && (t406 == t410)) = false := by simpa using c9
   (try (have c9b1 : decide (t405 = t409 && (t406 == t410)) = false := by simpa using c9))
   (try (have c9b2 : (t405 == t409 && (t406 == t410)) = false := by simpa using c9))
   (try (have c9b3 : ¬ (t405 = t409 && (t406 == t410)) := by simpa using c9))
   clear c9
   exact absurd H (by simp)
 ·
  replace c4 := Bool.eq_false_iff.mpr c4
  subst c4
  have H1 : (some false) = some true := by rw [if_neg (show ¬ (false = true) by decide)] at H; exact H
  clear H
  have H := H1
  clear H1
  exact absurd H (by simp)
end Go.Proofs.YtbnjgaeeojcjbaaDoor.PR
namespace Go.Proofs.YtbnjgaeeojcjbaaDoor.PR
open Go.RowKit Go.Proofs.YtbnjgaeeojcjbaaDoorW.PrintWords
theorem apply_same (x y : Int) : apply 65536 0 0 65536 0 0 x y = if inZ x ∧ inZ y then (x, y, 0) else (0, 0, 1) := by
  unfold apply
  rw [lin_one, lin_two, Int.add_zero, Int.add_zero]
  by_cases h : inZ x ∧ inZ y
  · rw [if_pos ⟨same_right, h⟩, if_pos h, if_pos h]
  · rw [if_neg (fun h2 => h h2.2), if_neg h]
theorem ev7 {α : Type} {g : Nat → Option α} {r : α} (h : ∀ k, g (k + 7) = some r) : Ev g r := ⟨7, fun k hk => by obtain ⟨j, rfl⟩ := Nat.exists_eq_add_of_le hk; rw [Nat.add_comm]; exact h j⟩
theorem applies_ev (a0 a1 a2 a3 a4 a5 x y : Int) : Ev (fun k => pointillistlaw08_AffineApplies.f k a0 a1 a2 a3 a4 a5 x y) true := by
  unfold pointillistlaw08_AffineApplies.f
  refine Ev.bind (ev7 wakes_true) ?_
  simp only [if_true]
  refine Ev.bind (ev7 (fun k => apply_eq k a0 a1 a2 a3 a4 a5 x y)) (Ev.bind (refapply_ev a0 a1 a2 a3 a4 a5 x y) ?_)
  unfold affine_Same.f
  simp only [Option.bind_some]
  refine Ev.bind (ev7 (fun k => apply_eq k 65536 0 0 65536 0 0 x y)) ?_
  simp only [BEq.rfl, Bool.and_self, if_true]
  refine Ev.bind (ev7 (fun k => right_eq k a0 a1 a2 a3 a4 a5)) ?_
  rw [refright_eq]
  simp only [Option.bind_some, BEq.rfl, if_true]
  rw [refin_eq, refin_eq, apply_same]
  simp only [Option.bind_some]
  refine Ev.congr (fun k => ?_) (Ev.now true)
  by_cases hx : inZ x
  · by_cases hy : inZ y
    · simp [hx, hy]
    · simp [hx, hy]
  · simp [hx]
theorem affineApplies_walk (a0 a1 a2 a3 a4 a5 x y : Int) (w : World) (hG : Gl w) (_ : -9223372036854775808 ≤ a0 ∧ a0 < 9223372036854775808) (_ : -9223372036854775808 ≤ a1 ∧ a1 < 9223372036854775808) (_ : -9223372036854775808 ≤ a2 ∧ a2 < 9223372036854775808)
    (_ : -9223372036854775808 ≤ a3 ∧ a3 < 9223372036854775808) (_ : -9223372036854775808 ≤ a4 ∧ a4 < 9223372036854775808) (_ : -9223372036854775808 ≤ a5 ∧ a5 < 9223372036854775808) (_ : -9223372036854775808 ≤ x ∧ x < 9223372036854775808) (_ : -9223372036854775808 ≤ y ∧ y < 9223372036854775808) :
    Calls Tryd.prog 3 #[.agg #[.int .i64 a0, .int .i64 a1, .int .i64 a2, .int .i64 a3, .int .i64 a4, .int .i64 a5], .agg #[.int .i64 x, .int .i64 y]] w fun e w' => e = .returned (.bool true) ∧ Below w.heap.size w w' := by
  obtain ⟨k, h⟩ := (applies_ev a0 a1 a2 a3 a4 a5 x y).rounds
  exact pointillistlaw08_AffineApplies.calls k a0 a1 a2 a3 a4 a5 x y w hG h
end Go.Proofs.YtbnjgaeeojcjbaaDoor.PR
namespace Go.Proofs.YtbnjgaeeojcjbaaDoor
open Go.ChangeShapes Go.WideShapes Go.ChangeAt
section
variable {H : Type} {enc : TypeId × Value → H} {P : Program} {w : World} {base : Nat} {spare : Nat → Bool} {held : Bool} {t : TypeId}
def isInt (P : Program) (k : IntKind) (t : TypeId) : Bool := match P.underlying t with | some (.int k') => k' == k | _ => false
theorem isInt_spec {k : IntKind} (h : isInt P k t = true) : P.underlying t = some (.int k) := by
  unfold isInt at h
  split at h
  · rename_i k' hk
    have : k' = k := by cases k' <;> cases k <;> first | rfl | (exact absurd h (by decide))
    rw [hk, this]
  · cases h
def intFields (P : Program) (k : IntKind) (fs : Array Field) : Bool := (List.range fs.size).all fun i => match fs[i]? with | some f => isInt P k f.type && f.offset == i && P.cellsOf f.type == 1 | none => false
theorem ints_of_parts {k : IntKind} {cs : List Value} {n m : Nat} {xs : List (DataW H × List MemPlace)} {T : Nat → TypeId} (hn : cs.length = n) (hx : xs.length = n) (hT : ∀ i, i < n → P.underlying (T i) = some (.int k))
    (h : ∀ i, i < n → DataW.trod enc P w base spare held m (T i) ((cs.drop i).take 1) = xs[i]?) : ∃ ns : List Int, ns.length = n ∧ cs = ns.map (Value.int k) ∧ (∀ x ∈ ns, (Lit.int k x).wf = true) ∧ xs.map (·.1) = ns.map (fun z => .lit (.int k z)) := by
  have key : ∀ i, i < n → ∃ z, cs[i]? = some (.int k z) ∧ (Lit.int k z).wf = true ∧ xs[i]? = some (.lit (.int k z), []) := by
    intro i hi
    have h1 := h i hi
    rw [List.getElem?_eq_getElem (by omega)] at h1
    obtain ⟨z, hz, hxz, hw⟩ := DataW.trod_int (hT i hi) h1
    refine ⟨z, ?_, hw, by rw [List.getElem?_eq_getElem (by omega), hxz]⟩
    have hlt : i < cs.length := by omega
    rw [List.drop_eq_getElem_cons hlt] at hz
    simp only [List.take_succ_cons, List.take_zero, List.cons.injEq, and_true] at hz
    rw [List.getElem?_eq_getElem hlt, hz]
  refine ⟨cs.map (fun v => match v with | .int _ z => z | _ => 0), by simpa using hn, ?_, ?_, ?_⟩
  · apply List.ext_getElem?
    intro i
    by_cases hi : i < n
    · obtain ⟨z, hz, _⟩ := key i hi
      simp [List.getElem?_map, hz]
    · simp [List.getElem?_map, List.getElem?_eq_none (show cs.length ≤ i by omega)]
  rotate_left
  · apply List.ext_getElem?
    intro i
    by_cases hi : i < n
    · obtain ⟨z, hz, _, hxz⟩ := key i hi
      simp [List.getElem?_map, hz, hxz]
    · simp [List.getElem?_map, List.getElem?_eq_none (show cs.length ≤ i by omega), List.getElem?_eq_none (show xs.length ≤ i by omega)]
  · intro x hx2
    rw [List.mem_map] at hx2
    obtain ⟨v, hv, hvx⟩ := hx2
    obtain ⟨i, hi⟩ := List.getElem?_of_mem hv
    have hlt : i < n := by
      have := (List.getElem?_eq_some_iff.1 hi).1
      omega
    obtain ⟨z, hz, hw, _⟩ := key i hlt
    rw [hi] at hz
    obtain rfl := Option.some.inj hz
    simp only at hvx
    rw [← hvx]
    exact hw
theorem trod_struct_ints {k : IntKind} {fs : Array Field} {fuel : Nat} {cs : List Value} {x : DataW H × List MemPlace} (ht : P.underlying t = some (.struct fs)) (hf : intFields P k fs = true) (hC : P.cellsOf t = fs.size)
    (h : DataW.trod enc P w base spare held fuel t cs = some x) : ∃ ns : List Int, ns.length = fs.size ∧ cs = ns.map (Value.int k) ∧ (∀ z ∈ ns, (Lit.int k z).wf = true) ∧ x.1 = .agg (ns.map (fun z => .lit (.int k z))) := by
  obtain ⟨xs, m, rfl, rfl, hlen, hx, hel⟩ := DataW.trod_struct ht h
  unfold intFields at hf
  rw [List.all_eq_true] at hf
  have hg : ∀ i, i < fs.size → ∃ f, fs[i]? = some f ∧ P.underlying f.type = some (.int k) ∧ f.offset = i ∧ P.cellsOf f.type = 1 := by
    intro i hi
    have := hf i (List.mem_range.2 hi)
    split at this
    · rename_i f hfi
      simp only [Bool.and_eq_true, beq_iff_eq] at this
      exact ⟨f, hfi, isInt_spec this.1.1, this.1.2, this.2⟩
    · cases this
  suffices hsuf : ∃ ns : List Int, ns.length = fs.size ∧ cs = ns.map (Value.int k) ∧ (∀ z ∈ ns, (Lit.int k z).wf = true) ∧ xs.map (·.1) = ns.map (fun z => .lit (.int k z)) by
    obtain ⟨ns, h1, h2, h3, h4⟩ := hsuf
    exact ⟨ns, h1, h2, h3, by simp only [h4]⟩
  refine ints_of_parts (enc := enc) (P := P) (w := w) (base := base) (spare := spare) (held := held) (m := m) (T := fun i => ((fs[i]?).map (·.type)).getD 0) (by omega) hx (fun i hi => ?_) (fun i hi => ?_)
  · obtain ⟨f, hfi, hu, _, _⟩ := hg i hi
    simp only [hfi, Option.map_some, Option.getD_some]
    exact hu
  · obtain ⟨f, hfi, hu, ho, hc⟩ := hg i hi
    have := hel i f hfi
    rw [ho, hc] at this
    simp only [hfi, Option.map_some, Option.getD_some]
    exact this
theorem open_struct_ints {r : Reach} {b0 : Nat} {v : Value} {d : DataW H} {p : List MemPlace} {k : IntKind} {fs : Array Field} (ht : P.underlying t = some (.struct fs)) (hf : intFields P k fs = true) (hC : P.cellsOf t = fs.size)
    (hv : Value.okWide P w r b0 t v) (h : DataW.Trod enc P w base spare held t v d p) : ∃ ns : List Int, ns.length = fs.size ∧ v = .agg (ns.map (Value.int k)).toArray ∧ ∀ z ∈ ns, (Lit.int k z).wf = true := by
  obtain ⟨cs, rfl, _⟩ := okWide_struct ht hv
  obtain ⟨fuel, hf2⟩ := h
  obtain ⟨ns, h1, h2, h3, _⟩ := trod_struct_ints ht hf hC hf2
  have h2' : cs.toList = ns.map (Value.int k) := by simpa [Value.cells] using h2
  refine ⟨ns, h1, ?_, h3⟩
  rw [← h2']
end
theorem list_of_length2 {α : Type} {l : List α} (h : l.length = 2) : ∃ a b, l = [a, b] := by
  match l, h with
  | [a, b], _ => exact ⟨a, b, rfl⟩
theorem list_of_length6 {α : Type} {l : List α} (h : l.length = 6) : ∃ a b c d e f, l = [a, b, c, d, e, f] := by
  match l, h with
  | [a, b, c, d, e, f], _ => exact ⟨a, b, c, d, e, f, rfl⟩
theorem wf_i64 {n : Int} (h : (Lit.int .i64 n).wf = true) : -9223372036854775808 ≤ n ∧ n < 9223372036854775808 := by
  simp [Lit.wf, IntKind.min, IntKind.max, IntKind.signed, IntKind.bits] at h
  omega
end Go.Proofs.YtbnjgaeeojcjbaaDoor
namespace Go.Proofs.YtbnjgaeeojcjbaaDoor
open Go.ChangeShapes Go.WideShapes Go.ChangeAt Go.RowKit
theorem gNought : Tryd.prog.globalNamed "pointillist/wide.nought" = some 0 := by kernel_rfl
theorem tNought : (Tryd.prog.globals[0]?).map (·.type) = some 69 := by kernel_rfl
theorem of_nought {W : World} (h : laidMetH Tryd.prog [("pointillist/wide.nought", Rows.laid_pointillist_wide_nought)] W) : Gl W := by
  rw [MakeChecks.laidMetH_plain _ _ _ (by kernel_rfl)] at h
  obtain ⟨ps, ⟨g0, t0, cs0, f0, p0, q0, hg0, ht0, hv0, hd0, _, _⟩, _, _⟩ := h
  obtain rfl := Option.some.inj (gNought.symm.trans hg0)
  obtain rfl := Option.some.inj (tNought.symm.trans ht0)
  obtain ⟨ns, hl, hc, _, hx⟩ := trod_struct_ints (k := .u64) Tryd.underlying69 (by kernel_rfl) (by kernel_rfl) hd0
  obtain ⟨a, b, rfl⟩ := list_of_length2 hl
  simp only [Rows.laid_pointillist_wide_nought, List.map_cons, List.map_nil, DataW.agg.injEq, List.cons.injEq, DataW.lit.injEq, Lit.int.injEq, true_and, and_true] at hx
  obtain ⟨rfl, rfl⟩ := hx
  have c : cs0 = #[.int .u64 0, .int .u64 0] := by
    apply Array.ext'
    simpa using hc
  have h0 := World.var?_cell hg0 hv0 0
  have h1 := World.var?_cell hg0 hv0 1
  rw [c] at h0 h1
  exact ⟨by simpa using h0, by simpa using h1⟩
theorem Gl.of_affineApplies {W : World} (h : laidMetH Tryd.prog [("pointillist/wide.nought", Rows.laid_pointillist_wide_nought)] W) : Gl W := of_nought h
end Go.Proofs.YtbnjgaeeojcjbaaDoor
namespace Go.Proofs.YtbnjgaeeojcjbaaDoor.affineAppliesR
open Go.ChangeShapes Go.WideShapes Go.ChangeAt Go.RowKit
open Go.ChangeMaps (open_string shut_string)
theorem own : ownKnob Tryd.prog.godebug = none := by kernel_rfl
theorem laidOut : laidOutB Tryd.prog = true := by kernel_rfl
def listed {H : Type} : List (String × DataW H) := [("pointillist/wide.nought", Rows.laid_pointillist_wide_nought)]
theorem met (os : Os) (args : Array Value) : laidMetH Tryd.prog listed ((World.doorLaid Tryd.prog 14 os).forCall (fun _ _ => 0) ⟨#[], args, []⟩).memory :=
  laidMetH_of_parts3 (fuel := 8) (laidMet_of_run' 8 (by kernel_rfl) (by kernel_rfl)) (by kernel_rfl) (by kernel_rfl)
set_option maxRecDepth 100000 in
theorem lifted (os : Os) (started : os.Started) (H : Type) (enc : TypeId × Value → H) :
    ReturnsInHanded {} Tryd.checked os 3 .any (fun w args => (Rows.affineAppliesSpec.pre enc Tryd.prog Tryd.f3 [] false w args ∧ laidMetH Tryd.prog listed w) ∧ sizedMet enc Tryd.prog Tryd.f3 (OpenSpec.ofChange Rows.affineAppliesSpec) false w args)
      (Rows.affineAppliesSpec.post enc Tryd.prog Tryd.f3 false true false false) := by
  refine returnsInHanded_of_change_and (C := Tryd.checked) (X := fun w _ => laidMetH Tryd.prog listed w) (fun _ _ _ hh h => h.of_heap hh) own started (by kernel_rfl) Tryd.func3
    (ChangeSpec.witness_shaped (enc := enc) (C := Tryd.checked) (os := os) (X := fun w _ => laidMetH Tryd.prog listed w) false (World.doorLaid Tryd.prog 14 os) #[.agg #[.int .i64 0, .int .i64 0, .int .i64 0, .int .i64 0, .int .i64 0, .int .i64 0], .agg #[.int .i64 0, .int .i64 0]] 8 rfl (World.shaped_of_RefB (by kernel_rfl) (by kernel_rfl)) (by kernel_rfl) (by kernel_rfl) (by kernel_rfl) (met os _)) ?_
  intro W base args ds gs before hval0 hW hcnd hsz0 hL _
  clear hcnd
  have hval : ∀ (j : Nat) t v, Tryd.f3.params[j]? = some t → args[j]? = some v → Value.okWide Tryd.prog W .any base t v := hval0
  have hW' := hW
  obtain ⟨p, q, hA0, hV, rfl, hfz, hnd⟩ := hW
  have hA : DataW.TrodAll enc Tryd.prog W 0 (fun _ => true) true Tryd.f3.params.toList args.toList ds p := hA0
  rw [Tryd.params3] at hA hval
  obtain ⟨v0, vs0, d0, ds0, p0, q0, hargs, rfl, rfl, h0, r0⟩ := trodAll_cons hA
  obtain ⟨v1, vs1, d1, ds1, p1, q1, rfl, rfl, rfl, h1, r1⟩ := trodAll_cons r0
  obtain ⟨rfl, rfl, rfl⟩ := trodAll_nil r1
  obtain rfl : args = #[v0, v1] := by cases args; simp_all
  obtain ⟨rfl, rfl⟩ := trodVars_none hV
  have hG : Gl W := Gl.of_affineApplies hL
  have k0 := h0
  have lt0 : ∀ x ∈ p0, x.block < W.heap.size := by obtain ⟨m, hm⟩ := k0; exact DataW.trod_lt m _ _ _ hm
  obtain ⟨ns0, nl0, rfl, nw0⟩ := open_struct_ints (k := .i64) Tryd.underlying23 (by kernel_rfl) (by kernel_rfl) (hval 0 23 v0 rfl rfl) h0
  obtain ⟨a0_0, a0_1, a0_2, a0_3, a0_4, a0_5, rfl⟩ : ∃ a0_0 a0_1 a0_2 a0_3 a0_4 a0_5, ns0 = [a0_0, a0_1, a0_2, a0_3, a0_4, a0_5] := list_of_length6 nl0
  have w_a0_0 := wf_i64 (nw0 a0_0 (by simp))
  have w_a0_1 := wf_i64 (nw0 a0_1 (by simp))
  have w_a0_2 := wf_i64 (nw0 a0_2 (by simp))
  have w_a0_3 := wf_i64 (nw0 a0_3 (by simp))
  have w_a0_4 := wf_i64 (nw0 a0_4 (by simp))
  have w_a0_5 := wf_i64 (nw0 a0_5 (by simp))
  clear nw0 nl0
  simp only [List.map_cons, List.map_nil] at hW'
  have k1 := h1
  have lt1 : ∀ x ∈ p1, x.block < W.heap.size := by obtain ⟨m, hm⟩ := k1; exact DataW.trod_lt m _ _ _ hm
  obtain ⟨ns1, nl1, rfl, nw1⟩ := open_struct_ints (k := .i64) Tryd.underlying25 (by kernel_rfl) (by kernel_rfl) (hval 1 25 v1 rfl rfl) h1
  obtain ⟨a1_0, a1_1, rfl⟩ : ∃ a1_0 a1_1, ns1 = [a1_0, a1_1] := list_of_length2 nl1
  have w_a1_0 := wf_i64 (nw1 a1_0 (by simp))
  have w_a1_1 := wf_i64 (nw1 a1_1 (by simp))
  clear nw1 nl1
  simp only [List.map_cons, List.map_nil] at hW'
  clear hA0 hval0 hsz0
  refine (PR.affineApplies_walk a0_0 a0_1 a0_2 a0_3 a0_4 a0_5 a1_0 a1_1 W hG w_a0_0 w_a0_1 w_a0_2 w_a0_3 w_a0_4 w_a0_5 w_a1_0 w_a1_1).mono fun e W' ⟨he, bel⟩ => ?_
  subst he
  exact ⟨_, rfl, _, _, _, [], _, [], hW', trodAll_mk1 (shut_bool Tryd.underlying4 _), (trodAll_cons_mk (Below.trod laidOut (by kernel_rfl) (of_decide_eq_true (by kernel_rfl)) k0 bel lt0) (trodAll_cons_mk (Below.trod laidOut (by kernel_rfl) (of_decide_eq_true (by kernel_rfl)) k1 bel lt1) trodAll_mk0)), rfl, bel.frame _, fun h => by cases h⟩
theorem over : Rows.affineAppliesRow.holds Tryd.pinned (OpenSpec.ofChange Rows.affineAppliesSpec) :=
  OpenClaim.holds_of_wide 3 Tryd.f3 rfl rfl rfl rfl rfl rfl rfl ⟨rfl, rfl, rfl, rfl, rfl⟩ rfl rfl rfl rfl rfl (by kernel_rfl) Tryd.func3 (by kernel_rfl)
    (of_decide_eq_true (by kernel_rfl)) (by unfold Func.isWrapper; first | (rw [if_pos (by decide +kernel)]; kernel_rfl) | (rw [if_neg (by decide +kernel)]; exact ⟨rfl, rfl⟩))
    (fun os started H enc _ => lifted os started H enc)
theorem carded : Rows.AffineAppliesCardSaid :=
  Claim7.holds_tied_plain_at .later [] [.data] true (true, "0fa006a278c56c431f774ead5f5f82fabf10850824c98a1f5a14cd52982934ae") true
    over (fun _ h => by cases h) (by kernel_rfl) (fun _ h => by cases h) affineApplies_row_tie rfl ⟨rfl, rfl⟩ (by kernel_rfl) rfl
    (fun f fn hf hfn => by
      obtain rfl : f = 3 := Option.some.inj ((show Tryd.prog.funcNamed "pointillist/pointillistlaw08.AffineApplies" = some 3 by kernel_rfl).symm.trans hf) |>.symm
      obtain rfl : fn = Tryd.f3 := (Option.some.inj (Tryd.func3.symm.trans hfn)).symm
      exact ⟨by kernel_rfl, fun j t ht => by
        rw [Tryd.params3] at ht
        have hm : t ∈ [23, 25] := by simpa using Array.mem_of_getElem? ht
        have hall : ([23, 25].all fun u => !Tryd.prog.wantsStandIn u) = true := by kernel_rfl
        exact (show Tryd.prog.wantsStandIn t = false by simpa using List.all_eq_true.1 hall t hm)⟩)
    (by kernel_rfl)
#print axioms carded
end Go.Proofs.YtbnjgaeeojcjbaaDoor.affineAppliesR
namespace Go.Proofs.YtbnjgaeeojcjbaaDoor
theorem affineApplies_card : Rows.AffineAppliesCardSaid := affineAppliesR.carded
end Go.Proofs.YtbnjgaeeojcjbaaDoor
