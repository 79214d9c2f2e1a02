import Derived.ArgAppend
import Derived.Below
import Derived.BigQuiet
import Derived.Deep.AppendLies
import Derived.Deep.CutBlock
import Derived.Deep.DeepCutAuto
import Derived.Deep.Draws
import Derived.Deep.LoopGhost
import Derived.Deep.OwnRows
import Derived.Deep.QuietTactic
import Derived.Deep.RegionHeld3
import Derived.KernelRfl
import Derived.Laws.Bits64
import Derived.Laws.BitsAllLaws
import Derived.Laws.BitsLemmas
import Derived.Laws.BytesArg
import Derived.Laws.Externs
import Derived.Laws.IdiomCopy
import Derived.Laws.MakeOwn
import Derived.Laws.OwnMore
import Derived.Laws.Rows
import Derived.Laws.Slices
import Derived.Laws.StructEq
import Derived.Laws.World
import Derived.Lib.AppendStr
import Derived.Lib.ConvBytes
import Derived.Lib.Mul64
import Derived.Maps.AppendAt
import Derived.OrdersHeld
import Derived.OwnWalk
import Derived.RowKit
import Derived.RowKit3
import Derived.Tactics
import Derived.WalkKit
import Derived.WalkLawsBesides
import Derived.WideLaws
import Derived.Test.YtbnjgaeeojcjbaaDoorProg
import Derived.Test.YtbnjgaeeojcjbaaDoorZb3
-- What this claim needs of the words, the printed walks and this session's texts (merged and cut by wip/prune.py).
namespace Go.Proofs.YtbnjgaeeojcjbaaDoor.PR
open Go.RowKit Go.Proofs.YtbnjgaeeojcjbaaDoorW.PrintWords Go.Proofs.YtbnjgaeeojcjbaaDoorW.PrintLast Go.Proofs.YtbnjgaeeojcjbaaDoorW.PrintMore
attribute [local go_sem] max2_int min2_int max_two min_two max_three min_three max_four min_four
set_option linter.unusedVariables false
set_option linter.unusedSimpArgs false
set_option maxHeartbeats 8000000 in
set_option maxRecDepth 100000 in
theorem pointillistref08_Then.calls (k : Nat) (a0_0 : Int) (a0_1 : Int) (a0_2 : Int) (a0_3 : Int) (a0_4 : Int) (a0_5 : Int) (a1_0 : Int) (a1_1 : Int) (a1_2 : Int) (a1_3 : Int) (a1_4 : Int) (a1_5 : Int) (r1 : Int) (r2 : Int) (r3 : Int) (r4 : Int) (r5 : Int) (r6 : Int) (r7 : Int) (w : World) (h : pointillistref08_Then.f k a0_0 a0_1 a0_2 a0_3 a0_4 a0_5 a1_0 a1_1 a1_2 a1_3 a1_4 a1_5 = some (r1, r2, r3, r4, r5, r6, r7)) :
  Calls Tryd.prog 18 #[.agg #[.int .i64 a0_0, .int .i64 a0_1, .int .i64 a0_2, .int .i64 a0_3, .int .i64 a0_4, .int .i64 a0_5], .agg #[.int .i64 a1_0, .int .i64 a1_1, .int .i64 a1_2, .int .i64 a1_3, .int .i64 a1_4, .int .i64 a1_5]] w fun e w' => e = .returned (.tuple #[.agg #[.int .i64 r1, .int .i64 r2, .int .i64 r3, .int .i64 r4, .int .i64 r5, .int .i64 r6], .int .i64 r7]) ∧ Below w.heap.size w w' := by
 have hu23 := Tryd.underlying23
 have HB := Aside0.mk (Below.refl w.heap.size w)
 have H : ((pointillistref08_Right.f a0_0 a0_1 a0_2 a0_3 a0_4 a0_5).bind fun t468 => (if t468 = true then ((pointillistref08_Right.f a1_0 a1_1 a1_2 a1_3 a1_4 a1_5).bind fun t469 => (pointillistref08_Then.j0 k (!t469) a0_0 a0_1 a0_2 a0_3 a0_4 a0_5 a1_0 a1_1 a1_2 a1_3 a1_4 a1_5)) else (pointillistref08_Then.j0 k true a0_0 a0_1 a0_2 a0_3 a0_4 a0_5 a1_0 a1_1 a1_2 a1_3 a1_4 a1_5))) = some (r1, r2, r3, r4, r5, r6, r7) := h
 clear h
 have HC3 := Aside0.mk H
 clear H
 go_enter Tryd.func18, Tryd.ntmps18
 go_upto_region 1 with (first | ((with_reducible refine gate_dst (N := 2) rfl ?_); refine box_event ?hg (N := 2) ?hd (cs := #[.int .i64 a0_0, .int .i64 a0_1, .int .i64 a0_2, .int .i64 a0_3, .int .i64 a0_4, .int .i64 a0_5]) (t := 23) ?hr ?_; (case hd => rfl); (case hg => rfl); (case hr => first | (go_simp; done) | (go_simp; rfl)); intro gb465 hg w4 hbox hb; have n0_ := Aside0.mk (below_step (wq HB.out) hb); have n1_ := Aside0.mk (hbox); have n2_ := Aside0.mk ((by rw [hg]; exact (below_size (wq HB.out)) : w.heap.size ≤ gb465)); have n3_ := n2_; clear HB; have HB := n0_; have BK465 := n1_; have GW465 := n2_; have GE465 := n3_; clear n0_ n1_ n2_ n3_ hb hbox hg) | ((with_reducible refine gate_dst (N := 3) rfl ?_); refine box_event ?hg (N := 3) ?hd (cs := #[.int .i64 a1_0, .int .i64 a1_1, .int .i64 a1_2, .int .i64 a1_3, .int .i64 a1_4, .int .i64 a1_5]) (t := 23) ?hr ?_; (case hd => rfl); (case hg => rfl); (case hr => first | (go_simp; done) | (go_simp; rfl)); intro gb466 hg w5 hbox hb; have n0_ := Aside0.mk (blk_below (bq BK465.out) hb); have n1_ := Aside0.mk (below_step (wq HB.out) hb); have n2_ := Aside0.mk (hbox); have n3_ := Aside0.mk ((by rw [hg]; exact (below_size (wq HB.out)) : w.heap.size ≤ gb466)); have n4_ := n3_; have n5_ := Aside0.mk ((by rw [hg]; exact Nat.ne_of_lt (blk_lt (bq BK465.out)) : gb465 ≠ gb466)); have n6_ := Aside0.mk ((by rw [hg]; exact Nat.ne_of_gt (blk_lt (bq BK465.out)) : gb466 ≠ gb465)); clear BK465 HB; have BK465 := n0_; have HB := n1_; have BK466 := n2_; have GW466 := n3_; have GE466 := n4_; have NB465_466 := n5_; have NB466_465 := n6_; clear n0_ n1_ n2_ n3_ n4_ n5_ n6_ hb hbox hg) | ((with_reducible refine gate_dst (N := 4) rfl ?_); refine box_event ?hg (N := 4) ?hd (cs := #[.int .i64 0, .int .i64 0, .int .i64 0, .int .i64 0, .int .i64 0, .int .i64 0]) (t := 23) ?hr ?_; (case hd => rfl); (case hg => rfl); (case hr => first | (go_simp; done) | (go_simp; rfl)); intro gb467 hg w6 hbox hb; have n0_ := Aside0.mk (blk_below (bq BK465.out) hb); have n1_ := Aside0.mk (blk_below (bq BK466.out) hb); have n2_ := Aside0.mk (below_step (wq HB.out) hb); have n3_ := Aside0.mk (hbox); have n4_ := Aside0.mk ((by rw [hg]; exact (below_size (wq HB.out)) : w.heap.size ≤ gb467)); have n5_ := n4_; have n6_ := Aside0.mk ((by rw [hg]; exact Nat.ne_of_lt (blk_lt (bq BK465.out)) : gb465 ≠ gb467)); have n7_ := Aside0.mk ((by rw [hg]; exact Nat.ne_of_gt (blk_lt (bq BK465.out)) : gb467 ≠ gb465)); have n8_ := Aside0.mk ((by rw [hg]; exact Nat.ne_of_lt (blk_lt (bq BK466.out)) : gb466 ≠ gb467)); have n9_ := Aside0.mk ((by rw [hg]; exact Nat.ne_of_gt (blk_lt (bq BK466.out)) : gb467 ≠ gb466)); clear BK465 BK466 HB; have BK465 := n0_; have BK466 := n1_; have HB := n2_; have BK467 := n3_; have GW467 := n4_; have GE467 := n5_; have NB465_467 := n6_; have NB467_465 := n7_; have NB466_467 := n8_; have NB467_466 := n9_; clear n0_ n1_ n2_ n3_ n4_ n5_ n6_ n7_ n8_ n9_ hb hbox hg))
 (try simp only [apz])
 go_cut [14] (fun v14 wc => ∃ (kq : Nat) (x14_2 : Bool), v14 = .bool x14_2 ∧ Aside0 (pointillistref08_Then.j0 kq x14_2 a0_0 a0_1 a0_2 a0_3 a0_4 a0_5 a1_0 a1_1 a1_2 a1_3 a1_4 a1_5 = some (r1, r2, r3, r4, r5, r6, r7)) ∧ Aside0 (kq ≤ k) ∧ Aside0 (wc.heap[gb465]? = some (.cells #[.int .i64 a0_0, .int .i64 a0_1, .int .i64 a0_2, .int .i64 a0_3, .int .i64 a0_4, .int .i64 a0_5] 23 (0, 0))) ∧ Aside0 (wc.heap[gb466]? = some (.cells #[.int .i64 a1_0, .int .i64 a1_1, .int .i64 a1_2, .int .i64 a1_3, .int .i64 a1_4, .int .i64 a1_5] 23 (0, 0))) ∧ Aside0 (wc.heap[gb467]? = some (.cells #[.int .i64 0, .int .i64 0, .int .i64 0, .int .i64 0, .int .i64 0, .int .i64 0] 23 (0, 0))) ∧ Aside0 (Below w.heap.size w wc))
 case first =>
  have H := HC3.out
  clear HC3
  replace H := Option.bind_eq_some_iff.mp H
  obtain ⟨t468, A70, H⟩ := H
  replace H : (if t468 = true then ((pointillistref08_Right.f a1_0 a1_1 a1_2 a1_3 a1_4 a1_5).bind fun t469 => (pointillistref08_Then.j0 k (!t469) a0_0 a0_1 a0_2 a0_3 a0_4 a0_5 a1_0 a1_1 a1_2 a1_3 a1_4 a1_5)) else (pointillistref08_Then.j0 k true a0_0 a0_1 a0_2 a0_3 a0_4 a0_5 a1_0 a1_1 a1_2 a1_3 a1_4 a1_5)) = some (r1, r2, r3, r4, r5, r6, r7) := H
  have A7 := Aside0.mk A70
  clear A70
  by_cases c8 : t468 = true
  ·
   subst c8
   have H1 : ((pointillistref08_Right.f a1_0 a1_1 a1_2 a1_3 a1_4 a1_5).bind fun t469 => (pointillistref08_Then.j0 k (!t469) a0_0 a0_1 a0_2 a0_3 a0_4 a0_5 a1_0 a1_1 a1_2 a1_3 a1_4 a1_5)) = some (r1, r2, r3, r4, r5, r6, r7) := by rw [if_pos rfl] at H; exact H
   clear H
   have H := H1
   clear H1
   replace H := Option.bind_eq_some_iff.mp H
   obtain ⟨t469, A90, H⟩ := H
   replace H : (pointillistref08_Then.j0 k (!t469) a0_0 a0_1 a0_2 a0_3 a0_4 a0_5 a1_0 a1_1 a1_2 a1_3 a1_4 a1_5) = some (r1, r2, r3, r4, r5, r6, r7) := H
   have A9 := Aside0.mk A90
   clear A90
   have H' := Aside0.mk H
   clear H
   have hnb10 := NB465_466.out
   have hnc10 := NB466_465.out
   have hnb11 := NB465_467.out
   have hnc11 := NB467_465.out
   have hcz12_0 : w6.cell? ⟨gb465, 0, none⟩ = some (.int .i64 a0_0) := (blk_cell BK465.out 0).trans rfl
   have hcz12_1 : w6.cell? ⟨gb465, 1, none⟩ = some (.int .i64 a0_1) := (blk_cell BK465.out 1).trans rfl
   have hcz12_2 : w6.cell? ⟨gb465, 2, none⟩ = some (.int .i64 a0_2) := (blk_cell BK465.out 2).trans rfl
   have hcz12_3 : w6.cell? ⟨gb465, 3, none⟩ = some (.int .i64 a0_3) := (blk_cell BK465.out 3).trans rfl
   have hcz12_4 : w6.cell? ⟨gb465, 4, none⟩ = some (.int .i64 a0_4) := (blk_cell BK465.out 4).trans rfl
   have hcz12_5 : w6.cell? ⟨gb465, 5, none⟩ = some (.int .i64 a0_5) := (blk_cell BK465.out 5).trans rfl
   have hfz12_0 := blk_frozen BK465.out 0
   have hfz12_1 := blk_frozen BK465.out 1
   have hfz12_2 := blk_frozen BK465.out 2
   have hfz12_3 := blk_frozen BK465.out 3
   have hfz12_4 := blk_frozen BK465.out 4
   have hfz12_5 := blk_frozen BK465.out 5
   go_wp2_with (first | ((with_reducible refine gate_callee (f := 13) rfl ?_); refine goesL_ (some 8) rfl rfl Tryd.func13 (by kernel_rfl) rfl #[.agg #[.int .i64 a0_0, .int .i64 a0_1, .int .i64 a0_2, .int .i64 a0_3, .int .i64 a0_4, .int .i64 a0_5]] rfl (by (try simp only [List.map_toArray, List.map_cons, List.map_nil]); first | done | rfl | (simp only [List.length_drop, List.length_take]; rfl)) ?_; (with_reducible refine (pointillistref08_Right.calls a0_0 a0_1 a0_2 a0_3 a0_4 a0_5 true _ A7.out).mono ?_); rintro e w13 ⟨rfl, hb⟩; refine ⟨_, rfl, ?_⟩; have n0_ := Aside0.mk (blk_below (bq BK465.out) hb); have n1_ := Aside0.mk (blk_below (bq BK466.out) hb); have n2_ := Aside0.mk (blk_below (bq BK467.out) hb); have n3_ := Aside0.mk (below_step (wq HB.out) hb); clear BK465 BK466 BK467 HB; have BK465 := n0_; have BK466 := n1_; have BK467 := n2_; have HB := n3_; clear n0_ n1_ n2_ n3_; (try clear hb); (try clear hb2); (try clear hk); (try clear hi); have hnb14 := NB466_467.out; have hnc14 := NB467_466.out; have hcz15_0 : w13.cell? ⟨gb466, 0, none⟩ = some (.int .i64 a1_0) := (blk_cell BK466.out 0).trans rfl; have hcz15_1 : w13.cell? ⟨gb466, 1, none⟩ = some (.int .i64 a1_1) := (blk_cell BK466.out 1).trans rfl; have hcz15_2 : w13.cell? ⟨gb466, 2, none⟩ = some (.int .i64 a1_2) := (blk_cell BK466.out 2).trans rfl; have hcz15_3 : w13.cell? ⟨gb466, 3, none⟩ = some (.int .i64 a1_3) := (blk_cell BK466.out 3).trans rfl; have hcz15_4 : w13.cell? ⟨gb466, 4, none⟩ = some (.int .i64 a1_4) := (blk_cell BK466.out 4).trans rfl; have hcz15_5 : w13.cell? ⟨gb466, 5, none⟩ = some (.int .i64 a1_5) := (blk_cell BK466.out 5).trans rfl; have hfz15_0 := blk_frozen BK466.out 0; have hfz15_1 := blk_frozen BK466.out 1; have hfz15_2 := blk_frozen BK466.out 2; have hfz15_3 := blk_frozen BK466.out 3; have hfz15_4 := blk_frozen BK466.out 4; have hfz15_5 := blk_frozen BK466.out 5) | (go_at_call 13; (with_reducible refine (pointillistref08_Right.calls a1_0 a1_1 a1_2 a1_3 a1_4 a1_5 t469 _ A9.out).mono ?_); rintro e w16 ⟨rfl, hb⟩; have n0_ := Aside0.mk (blk_below (bq BK465.out) hb); have n1_ := Aside0.mk (blk_below (bq BK466.out) hb); have n2_ := Aside0.mk (blk_below (bq BK467.out) hb); have n3_ := Aside0.mk (below_step (wq HB.out) hb); clear BK465 BK466 BK467 HB; have BK465 := n0_; have BK466 := n1_; have BK467 := n2_; have HB := n3_; clear n0_ n1_ n2_ n3_; (try clear hb); (try clear hb2); (try clear hk); (try clear hi)))
   go_meet
   case rel => exact ⟨_, (!t469), (by first | rfl | (simp; done) | (simp [*]; done)), H', ⟨by first | omega | exact Nat.le_refl _⟩, ⟨by refine bq ?_; exact BK465.out⟩, ⟨by refine bq ?_; exact BK466.out⟩, ⟨by refine bq ?_; exact BK467.out⟩, ⟨by exact wq HB.out⟩⟩
  ·
   replace c8 := Bool.eq_false_iff.mpr c8
   subst c8
   have H1 : (pointillistref08_Then.j0 k true a0_0 a0_1 a0_2 a0_3 a0_4 a0_5 a1_0 a1_1 a1_2 a1_3 a1_4 a1_5) = some (r1, r2, r3, r4, r5, r6, r7) := by rw [if_neg (show ¬ (false = true) by decide)] at H; exact H
   clear H
   have H := H1
   clear H1
   have H' := Aside0.mk H
   clear H
   have hnb17 := NB465_466.out
   have hnc17 := NB466_465.out
   have hnb18 := NB465_467.out
   have hnc18 := NB467_465.out
   have hcz19_0 : w6.cell? ⟨gb465, 0, none⟩ = some (.int .i64 a0_0) := (blk_cell BK465.out 0).trans rfl
   have hcz19_1 : w6.cell? ⟨gb465, 1, none⟩ = some (.int .i64 a0_1) := (blk_cell BK465.out 1).trans rfl
   have hcz19_2 : w6.cell? ⟨gb465, 2, none⟩ = some (.int .i64 a0_2) := (blk_cell BK465.out 2).trans rfl
   have hcz19_3 : w6.cell? ⟨gb465, 3, none⟩ = some (.int .i64 a0_3) := (blk_cell BK465.out 3).trans rfl
   have hcz19_4 : w6.cell? ⟨gb465, 4, none⟩ = some (.int .i64 a0_4) := (blk_cell BK465.out 4).trans rfl
   have hcz19_5 : w6.cell? ⟨gb465, 5, none⟩ = some (.int .i64 a0_5) := (blk_cell BK465.out 5).trans rfl
   have hfz19_0 := blk_frozen BK465.out 0
   have hfz19_1 := blk_frozen BK465.out 1
   have hfz19_2 := blk_frozen BK465.out 2
   have hfz19_3 := blk_frozen BK465.out 3
   have hfz19_4 := blk_frozen BK465.out 4
   have hfz19_5 := blk_frozen BK465.out 5
   go_wp2_with (first | ((with_reducible refine gate_callee (f := 13) rfl ?_); refine goesL_ (some 8) rfl rfl Tryd.func13 (by kernel_rfl) rfl #[.agg #[.int .i64 a0_0, .int .i64 a0_1, .int .i64 a0_2, .int .i64 a0_3, .int .i64 a0_4, .int .i64 a0_5]] rfl (by (try simp only [List.map_toArray, List.map_cons, List.map_nil]); first | done | rfl | (simp only [List.length_drop, List.length_take]; rfl)) ?_; (with_reducible refine (pointillistref08_Right.calls a0_0 a0_1 a0_2 a0_3 a0_4 a0_5 false _ A7.out).mono ?_); rintro e w20 ⟨rfl, hb⟩; refine ⟨_, rfl, ?_⟩; have n0_ := Aside0.mk (blk_below (bq BK465.out) hb); have n1_ := Aside0.mk (blk_below (bq BK466.out) hb); have n2_ := Aside0.mk (blk_below (bq BK467.out) hb); have n3_ := Aside0.mk (below_step (wq HB.out) hb); clear BK465 BK466 BK467 HB; have BK465 := n0_; have BK466 := n1_; have BK467 := n2_; have HB := n3_; clear n0_ n1_ n2_ n3_; (try clear hb); (try clear hb2); (try clear hk); (try clear hi)))
   go_meet
   case rel => exact ⟨_, (true), (by first | rfl | (simp; done) | (simp [*]; done)), H', ⟨by first | omega | exact Nat.le_refl _⟩, ⟨by refine bq ?_; exact BK465.out⟩, ⟨by refine bq ?_; exact BK466.out⟩, ⟨by refine bq ?_; exact BK467.out⟩, ⟨by exact wq HB.out⟩⟩
 case rest =>
  clear HC3
  try clear c1
  try clear p2
  try clear c8
  try clear c10
  try clear c11
  try clear c13
  try clear c14
  try clear c17
  try clear c18
  try clear hcz12_0
  try clear hcz12_1
  try clear hcz12_2
  try clear hcz12_3
  try clear hcz12_4
  try clear hcz12_5
  try clear hcz15_0
  try clear hcz15_1
  try clear hcz15_2
  try clear hcz15_3
  try clear hcz15_4
  try clear hcz15_5
  try clear hcz19_0
  try clear hcz19_1
  try clear hcz19_2
  try clear hcz19_3
  try clear hcz19_4
  try clear hcz19_5
  try clear hfz12_0
  try clear hfz12_1
  try clear hfz12_2
  try clear hfz12_3
  try clear hfz12_4
  try clear hfz12_5
  try clear hfz15_0
  try clear hfz15_1
  try clear hfz15_2
  try clear hfz15_3
  try clear hfz15_4
  try clear hfz15_5
  try clear hfz19_0
  try clear hfz19_1
  try clear hfz19_2
  try clear hfz19_3
  try clear hfz19_4
  try clear hfz19_5
  obtain ⟨kq, x14_2, rfl, HA, HJ2, BK465, BK466, BK467, HB⟩ := hcut
  cases kq with
  | zero => exact absurd HA.out (by simp [pointillistref08_Then.j0])
  | succ kj2 =>
   have H := HA.out
   clear HA
   simp only [pointillistref08_Then.j0] at H
   by_cases c21 : x14_2 = true
   ·
    subst c21
    have H1 : (some (0, 0, 0, 0, 0, 0, 1)) = some (r1, r2, r3, r4, r5, r6, r7) := by rw [if_pos rfl] at H; exact H
    clear H
    have H := H1
    clear H1
    simp only [Option.some.injEq, Prod.mk.injEq] at H
    obtain ⟨rfl, rfl, rfl, rfl, rfl, rfl, rfl⟩ := H
    have hnb22 := NB467_465.out
    have hnc22 := NB465_467.out
    have hnb23 := NB467_466.out
    have hnc23 := NB466_467.out
    have hcz24_0 : wc.cell? ⟨gb467, 0, none⟩ = some (.int .i64 0) := (blk_cell BK467.out 0).trans rfl
    have hcz24_1 : wc.cell? ⟨gb467, 1, none⟩ = some (.int .i64 0) := (blk_cell BK467.out 1).trans rfl
    have hcz24_2 : wc.cell? ⟨gb467, 2, none⟩ = some (.int .i64 0) := (blk_cell BK467.out 2).trans rfl
    have hcz24_3 : wc.cell? ⟨gb467, 3, none⟩ = some (.int .i64 0) := (blk_cell BK467.out 3).trans rfl
    have hcz24_4 : wc.cell? ⟨gb467, 4, none⟩ = some (.int .i64 0) := (blk_cell BK467.out 4).trans rfl
    have hcz24_5 : wc.cell? ⟨gb467, 5, none⟩ = some (.int .i64 0) := (blk_cell BK467.out 5).trans rfl
    have hfz24_0 := blk_frozen BK467.out 0
    have hfz24_1 := blk_frozen BK467.out 1
    have hfz24_2 := blk_frozen BK467.out 2
    have hfz24_3 := blk_frozen BK467.out 3
    have hfz24_4 := blk_frozen BK467.out 4
    have hfz24_5 := blk_frozen BK467.out 5
    go_wp2
    refine bodyPost_ret (results_ct rfl _ _ gb467 23 #[.int .i64 0, .int .i64 0, .int .i64 0, .int .i64 0, .int .i64 0, .int .i64 0] (0, 0) _ rfl (by refine bq ?_; refine blk_put (cs := #[.int .i64 0, .int .i64 0, .int .i64 0, .int .i64 0, .int .i64 0, .int .i64 0]) ?_ 5 _ rfl; refine bq ?_; refine blk_put (cs := #[.int .i64 0, .int .i64 0, .int .i64 0, .int .i64 0, .int .i64 0, .int .i64 0]) ?_ 4 _ rfl; refine bq ?_; refine blk_put (cs := #[.int .i64 0, .int .i64 0, .int .i64 0, .int .i64 0, .int .i64 0, .int .i64 0]) ?_ 3 _ rfl; refine bq ?_; refine blk_put (cs := #[.int .i64 0, .int .i64 0, .int .i64 0, .int .i64 0, .int .i64 0, .int .i64 0]) ?_ 2 _ rfl; refine bq ?_; refine blk_put (cs := #[.int .i64 0, .int .i64 0, .int .i64 0, .int .i64 0, .int .i64 0, .int .i64 0]) ?_ 1 _ rfl; refine bq ?_; refine blk_put (cs := #[.int .i64 0, .int .i64 0, .int .i64 0, .int .i64 0, .int .i64 0, .int .i64 0]) ?_ 0 _ rfl; refine bq ?_; exact BK467.out) Tryd.underlying23 rfl (by kernel_rfl)) rfl ?_
    exact ⟨by first | rfl | (simp [errW_none, errW_some] <;> rfl) | (simp [*, errW_none, errW_some] <;> rfl), by exact wq HB.out⟩
   ·
    replace c21 := Bool.eq_false_iff.mpr c21
    subst c21
    have H1 : ((pointillistref08_sum.f kj2 a1_0 a0_0 a1_2 a0_1 0).bind fun t470 => ((pointillistref08_sum.f kj2 a1_1 a0_0 a1_3 a0_1 0).bind fun t471 => ((pointillistref08_sum.f kj2 a1_0 a0_2 a1_2 a0_3 0).bind fun t472 => ((pointillistref08_sum.f kj2 a1_1 a0_2 a1_3 a0_3 0).bind fun t473 => ((pointillistref08_sum.f kj2 a1_0 a0_4 a1_2 a0_5 a1_4).bind fun t474 => ((pointillistref08_sum.f kj2 a1_1 a0_4 a1_3 a0_5 a1_5).bind fun t475 => ((pointillistref08_Right.f t470 t471 t472 t473 t474 t475).bind fun t477 => (if t477 = true then (some (t470, t471, t472, t473, t474, t475, 0)) else (some (0, 0, 0, 0, 0, 0, 2)))))))))) = some (r1, r2, r3, r4, r5, r6, r7) := by rw [if_neg (show ¬ (false = true) by decide)] at H; exact H
    clear H
    have H := H1
    clear H1
    replace H := Option.bind_eq_some_iff.mp H
    obtain ⟨t470, A250, H⟩ := H
    replace H : ((pointillistref08_sum.f kj2 a1_1 a0_0 a1_3 a0_1 0).bind fun t471 => ((pointillistref08_sum.f kj2 a1_0 a0_2 a1_2 a0_3 0).bind fun t472 => ((pointillistref08_sum.f kj2 a1_1 a0_2 a1_3 a0_3 0).bind fun t473 => ((pointillistref08_sum.f kj2 a1_0 a0_4 a1_2 a0_5 a1_4).bind fun t474 => ((pointillistref08_sum.f kj2 a1_1 a0_4 a1_3 a0_5 a1_5).bind fun t475 => ((pointillistref08_Right.f t470 t471 t472 t473 t474 t475).bind fun t477 => (if t477 = true then (some (t470, t471, t472, t473, t474, t475, 0)) else (some (0, 0, 0, 0, 0, 0, 2))))))))) = some (r1, r2, r3, r4, r5, r6, r7) := H
    have A25 := Aside0.mk A250
    clear A250
    replace H := Option.bind_eq_some_iff.mp H
    obtain ⟨t471, A260, H⟩ := H
    replace H : ((pointillistref08_sum.f kj2 a1_0 a0_2 a1_2 a0_3 0).bind fun t472 => ((pointillistref08_sum.f kj2 a1_1 a0_2 a1_3 a0_3 0).bind fun t473 => ((pointillistref08_sum.f kj2 a1_0 a0_4 a1_2 a0_5 a1_4).bind fun t474 => ((pointillistref08_sum.f kj2 a1_1 a0_4 a1_3 a0_5 a1_5).bind fun t475 => ((pointillistref08_Right.f t470 t471 t472 t473 t474 t475).bind fun t477 => (if t477 = true then (some (t470, t471, t472, t473, t474, t475, 0)) else (some (0, 0, 0, 0, 0, 0, 2)))))))) = some (r1, r2, r3, r4, r5, r6, r7) := H
    have A26 := Aside0.mk A260
    clear A260
    replace H := Option.bind_eq_some_iff.mp H
    obtain ⟨t472, A270, H⟩ := H
    replace H : ((pointillistref08_sum.f kj2 a1_1 a0_2 a1_3 a0_3 0).bind fun t473 => ((pointillistref08_sum.f kj2 a1_0 a0_4 a1_2 a0_5 a1_4).bind fun t474 => ((pointillistref08_sum.f kj2 a1_1 a0_4 a1_3 a0_5 a1_5).bind fun t475 => ((pointillistref08_Right.f t470 t471 t472 t473 t474 t475).bind fun t477 => (if t477 = true then (some (t470, t471, t472, t473, t474, t475, 0)) else (some (0, 0, 0, 0, 0, 0, 2))))))) = some (r1, r2, r3, r4, r5, r6, r7) := H
    have A27 := Aside0.mk A270
    clear A270
    replace H := Option.bind_eq_some_iff.mp H
    obtain ⟨t473, A280, H⟩ := H
    replace H : ((pointillistref08_sum.f kj2 a1_0 a0_4 a1_2 a0_5 a1_4).bind fun t474 => ((pointillistref08_sum.f kj2 a1_1 a0_4 a1_3 a0_5 a1_5).bind fun t475 => ((pointillistref08_Right.f t470 t471 t472 t473 t474 t475).bind fun t477 => (if t477 = true then (some (t470, t471, t472, t473, t474, t475, 0)) else (some (0, 0, 0, 0, 0, 0, 2)))))) = some (r1, r2, r3, r4, r5, r6, r7) := H
    have A28 := Aside0.mk A280
    clear A280
    replace H := Option.bind_eq_some_iff.mp H
    obtain ⟨t474, A290, H⟩ := H
    replace H : ((pointillistref08_sum.f kj2 a1_1 a0_4 a1_3 a0_5 a1_5).bind fun t475 => ((pointillistref08_Right.f t470 t471 t472 t473 t474 t475).bind fun t477 => (if t477 = true then (some (t470, t471, t472, t473, t474, t475, 0)) else (some (0, 0, 0, 0, 0, 0, 2))))) = some (r1, r2, r3, r4, r5, r6, r7) := H
    have A29 := Aside0.mk A290
    clear A290
    replace H := Option.bind_eq_some_iff.mp H
    obtain ⟨t475, A300, H⟩ := H
    replace H : ((pointillistref08_Right.f t470 t471 t472 t473 t474 t475).bind fun t477 => (if t477 = true then (some (t470, t471, t472, t473, t474, t475, 0)) else (some (0, 0, 0, 0, 0, 0, 2)))) = some (r1, r2, r3, r4, r5, r6, r7) := H
    have A30 := Aside0.mk A300
    clear A300
    replace H := Option.bind_eq_some_iff.mp H
    obtain ⟨t477, A310, H⟩ := H
    replace H : (if t477 = true then (some (t470, t471, t472, t473, t474, t475, 0)) else (some (0, 0, 0, 0, 0, 0, 2))) = some (r1, r2, r3, r4, r5, r6, r7) := H
    have A31 := Aside0.mk A310
    clear A310
    by_cases c32 : t477 = true
    ·
     subst c32
     have H1 : (some (t470, t471, t472, t473, t474, t475, 0)) = some (r1, r2, r3, r4, r5, r6, r7) := by rw [if_pos rfl] at H; exact H
     clear H
     have H := H1
     clear H1
     simp only [Option.some.injEq, Prod.mk.injEq] at H
     obtain ⟨rfl, rfl, rfl, rfl, rfl, rfl, rfl⟩ := H
     try go_wp2
     have n0_ := Aside0.mk (blk_drew BK465.out)
     have n1_ := Aside0.mk (blk_drew BK466.out)
     have n2_ := Aside0.mk (blk_drew BK467.out)
     have n3_ := Aside0.mk (below_drew1 HB.out)
     clear BK465 BK466 BK467 HB; have BK465 := n0_; have BK466 := n1_; have BK467 := n2_; have HB := n3_; clear n0_ n1_ n2_ n3_
     refine start_ (n := 61) (S := fun w' => w'.cell? ⟨gb466, 0, none⟩ = some (.int .i64 a1_0) ∧ w'.cell? ⟨gb466, 1, none⟩ = some (.int .i64 a1_1) ∧ w'.cell? ⟨gb466, 2, none⟩ = some (.int .i64 a1_2) ∧ w'.cell? ⟨gb466, 3, none⟩ = some (.int .i64 a1_3) ∧ w'.cell? ⟨gb466, 4, none⟩ = some (.int .i64 a1_4) ∧ w'.cell? ⟨gb466, 5, none⟩ = some (.int .i64 a1_5) ∧ w'.cell? ⟨gb465, 0, none⟩ = some (.int .i64 a0_0) ∧ w'.cell? ⟨gb465, 1, none⟩ = some (.int .i64 a0_1) ∧ w'.cell? ⟨gb465, 2, none⟩ = some (.int .i64 a0_2) ∧ w'.cell? ⟨gb465, 3, none⟩ = some (.int .i64 a0_3) ∧ w'.cell? ⟨gb465, 4, none⟩ = some (.int .i64 a0_4) ∧ w'.cell? ⟨gb465, 5, none⟩ = some (.int .i64 a0_5)) (ds := []) (bt 0 61) (by kernel_rfl) rfl rfl ⟨(blk_cell BK466.out 0).trans rfl, (blk_cell BK466.out 1).trans rfl, (blk_cell BK466.out 2).trans rfl, (blk_cell BK466.out 3).trans rfl, (blk_cell BK466.out 4).trans rfl, (blk_cell BK466.out 5).trans rfl, (blk_cell BK465.out 0).trans rfl, (blk_cell BK465.out 1).trans rfl, (blk_cell BK465.out 2).trans rfl, (blk_cell BK465.out 3).trans rfl, (blk_cell BK465.out 4).trans rfl, (blk_cell BK465.out 5).trans rfl⟩ (fun hHeld => ?_); refine with_tabW pointillistref08_Then.tab3 pointillistref08_Then.bits3 (fun HT_ HW_ => ?_)
     generalize wc.drew = w33 at BK465 BK466 BK467 HB hHeld ⊢
     refine pure_ (i := 0) (N := some 16) (v := ?_) (a' := ?_) (bt 1 60) rfl rfl (any_of HT_.out (by kernel_rfl)) (fun _ _ _ h => h) (Or.inl ⟨by rfl, ?_⟩) ?_ ?_
     rotate_left; focus (intro w'; go_simp; with_reducible rfl)
     rotate_left; focus (simp only [apz, i64_w, i32_w]; rfl)
     refine pure_ (i := 2) (N := some 18) (v := ?_) (a' := ?_) (bm 61 5) rfl rfl (any_of HT_.out (by kernel_rfl)) (fun _ _ _ h => h) (Or.inl ⟨by rfl, ?_⟩) ?_ ?_
     rotate_left; focus (intro w'; go_simp; with_reducible rfl)
     rotate_left; focus (simp only [apz, i64_w, i32_w]; rfl)
     refine pure_ (i := 4) (N := some 20) (v := ?_) (a' := ?_) (bm 61 21) rfl rfl (any_of HT_.out (by kernel_rfl)) (fun _ _ _ h => h) (Or.inl ⟨by rfl, ?_⟩) ?_ ?_
     rotate_left; focus (intro w'; go_simp; with_reducible rfl)
     rotate_left; focus (simp only [apz, i64_w, i32_w]; rfl)
     refine pure_ (i := 6) (N := some 22) (v := ?_) (a' := ?_) (bm 61 85) rfl rfl (any_of HT_.out (by kernel_rfl)) (fun _ _ _ h => h) (Or.inl ⟨by rfl, ?_⟩) ?_ ?_
     rotate_left; focus (intro w'; go_simp; with_reducible rfl)
     rotate_left; focus (simp only [apz, i64_w, i32_w]; rfl)
     refine pure_ (i := 9) (N := some 25) (v := ?_) (a' := ?_) (bm 61 597) rfl rfl (any_of HT_.out (by kernel_rfl)) (fun _ _ _ h => h) (Or.inl ⟨by rfl, ?_⟩) ?_ ?_
     rotate_left; focus (intro w'; go_simp; with_reducible rfl)
     rotate_left; focus (simp only [apz, i64_w, i32_w]; rfl)
     refine pure_ (i := 11) (N := some 27) (v := ?_) (a' := ?_) (bm 61 2645) rfl rfl (any_of HT_.out (by kernel_rfl)) (fun _ _ _ h => h) (Or.inl ⟨by rfl, ?_⟩) ?_ ?_
     rotate_left; focus (intro w'; go_simp; with_reducible rfl)
     rotate_left; focus (simp only [apz, i64_w, i32_w]; rfl)
     refine pure_ (i := 13) (N := some 29) (v := ?_) (a' := ?_) (bm 61 10837) rfl rfl (any_of HT_.out (by kernel_rfl)) (fun _ _ _ h => h) (Or.inl ⟨by rfl, ?_⟩) ?_ ?_
     rotate_left; focus (intro w'; go_simp; with_reducible rfl)
     rotate_left; focus (simp only [apz, i64_w, i32_w]; rfl)
     refine pure_ (i := 15) (N := some 31) (v := ?_) (a' := ?_) (bm 61 43605) rfl rfl (any_of HT_.out (by kernel_rfl)) (fun _ _ _ h => h) (Or.inl ⟨by rfl, ?_⟩) ?_ ?_
     rotate_left; focus (intro w'; go_simp; with_reducible rfl)
     rotate_left; focus (simp only [apz, i64_w, i32_w]; rfl)
     refine pure_ (i := 18) (N := some 34) (v := ?_) (a' := ?_) (bm 61 305749) rfl rfl (any_of HT_.out (by kernel_rfl)) (fun _ _ _ h => h) (Or.inl ⟨by rfl, ?_⟩) ?_ ?_
     rotate_left; focus (intro w'; go_simp; with_reducible rfl)
     rotate_left; focus (simp only [apz, i64_w, i32_w]; rfl)
     refine pure_ (i := 20) (N := some 36) (v := ?_) (a' := ?_) (bm 61 1354325) rfl rfl (any_of HT_.out (by kernel_rfl)) (fun _ _ _ h => h) (Or.inl ⟨by rfl, ?_⟩) ?_ ?_
     rotate_left; focus (intro w'; go_simp; with_reducible rfl)
     rotate_left; focus (simp only [apz, i64_w, i32_w]; rfl)
     refine pure_ (i := 22) (N := some 38) (v := ?_) (a' := ?_) (bm 61 5548629) rfl rfl (any_of HT_.out (by kernel_rfl)) (fun _ _ _ h => h) (Or.inl ⟨by rfl, ?_⟩) ?_ ?_
     rotate_left; focus (intro w'; go_simp; with_reducible rfl)
     rotate_left; focus (simp only [apz, i64_w, i32_w]; rfl)
     refine pure_ (i := 24) (N := some 40) (v := ?_) (a' := ?_) (bm 61 22325845) rfl rfl (any_of HT_.out (by kernel_rfl)) (fun _ _ _ h => h) (Or.inl ⟨by rfl, ?_⟩) ?_ ?_
     rotate_left; focus (intro w'; go_simp; with_reducible rfl)
     rotate_left; focus (simp only [apz, i64_w, i32_w]; rfl)
     refine pure_ (i := 27) (N := some 43) (v := ?_) (a' := ?_) (bm 61 156543573) rfl rfl (any_of HT_.out (by kernel_rfl)) (fun _ _ _ h => h) (Or.inl ⟨by rfl, ?_⟩) ?_ ?_
     rotate_left; focus (intro w'; go_simp; with_reducible rfl)
     rotate_left; focus (simp only [apz, i64_w, i32_w]; rfl)
     refine pure_ (i := 29) (N := some 45) (v := ?_) (a' := ?_) (bm 61 693414485) rfl rfl (any_of HT_.out (by kernel_rfl)) (fun _ _ _ h => h) (Or.inl ⟨by rfl, ?_⟩) ?_ ?_
     rotate_left; focus (intro w'; go_simp; with_reducible rfl)
     rotate_left; focus (simp only [apz, i64_w, i32_w]; rfl)
     refine pure_ (i := 31) (N := some 47) (v := ?_) (a' := ?_) (bm 61 2840898133) rfl rfl (any_of HT_.out (by kernel_rfl)) (fun _ _ _ h => h) (Or.inl ⟨by rfl, ?_⟩) ?_ ?_
     rotate_left; focus (intro w'; go_simp; with_reducible rfl)
     rotate_left; focus (simp only [apz, i64_w, i32_w]; rfl)
     refine pure_ (i := 33) (N := some 49) (v := ?_) (a' := ?_) (bm 61 11430832725) rfl rfl (any_of HT_.out (by kernel_rfl)) (fun _ _ _ h => h) (Or.inl ⟨by rfl, ?_⟩) ?_ ?_
     rotate_left; focus (intro w'; go_simp; with_reducible rfl)
     rotate_left; focus (simp only [apz, i64_w, i32_w]; rfl)
     refine pure_ (i := 36) (N := some 52) (v := ?_) (a' := ?_) (bm 61 80150309461) rfl rfl (any_of HT_.out (by kernel_rfl)) (fun _ _ _ h => h) (Or.inl ⟨by rfl, ?_⟩) ?_ ?_
     rotate_left; focus (intro w'; go_simp; with_reducible rfl)
     rotate_left; focus (simp only [apz, i64_w, i32_w]; rfl)
     refine pure_ (i := 38) (N := some 54) (v := ?_) (a' := ?_) (bm 61 355028216405) rfl rfl (any_of HT_.out (by kernel_rfl)) (fun _ _ _ h => h) (Or.inl ⟨by rfl, ?_⟩) ?_ ?_
     rotate_left; focus (intro w'; go_simp; with_reducible rfl)
     rotate_left; focus (simp only [apz, i64_w, i32_w]; rfl)
     refine pure_ (i := 40) (N := some 56) (v := ?_) (a' := ?_) (bm 61 1454539844181) rfl rfl (any_of HT_.out (by kernel_rfl)) (fun _ _ _ h => h) (Or.inl ⟨by rfl, ?_⟩) ?_ ?_
     rotate_left; focus (intro w'; go_simp; with_reducible rfl)
     rotate_left; focus (simp only [apz, i64_w, i32_w]; rfl)
     refine pure_ (i := 42) (N := some 58) (v := ?_) (a' := ?_) (bm 61 5852586355285) rfl rfl (any_of HT_.out (by kernel_rfl)) (fun _ _ _ h => h) (Or.inl ⟨by rfl, ?_⟩) ?_ ?_
     rotate_left; focus (intro w'; go_simp; with_reducible rfl)
     rotate_left; focus (simp only [apz, i64_w, i32_w]; rfl)
     refine pure_ (i := 44) (N := some 60) (v := ?_) (a' := ?_) (bm 61 23444772399701) rfl rfl (any_of HT_.out (by kernel_rfl)) (fun _ _ _ h => h) (Or.inl ⟨by rfl, ?_⟩) ?_ ?_
     rotate_left; focus (intro w'; go_simp; with_reducible rfl)
     rotate_left; focus (simp only [apz, i64_w, i32_w]; rfl)
     refine pure_ (i := 47) (N := some 63) (v := ?_) (a' := ?_) (bm 61 164182260755029) rfl rfl (any_of HT_.out (by kernel_rfl)) (fun _ _ _ h => h) (Or.inl ⟨by rfl, ?_⟩) ?_ ?_
     rotate_left; focus (intro w'; go_simp; with_reducible rfl)
     rotate_left; focus (simp only [apz, i64_w, i32_w]; rfl)
     refine pure_ (i := 49) (N := some 65) (v := ?_) (a' := ?_) (bm 61 727132214176341) rfl rfl (any_of HT_.out (by kernel_rfl)) (fun _ _ _ h => h) (Or.inl ⟨by rfl, ?_⟩) ?_ ?_
     rotate_left; focus (intro w'; go_simp; with_reducible rfl)
     rotate_left; focus (simp only [apz, i64_w, i32_w]; rfl)
     refine pure_ (i := 51) (N := some 67) (v := ?_) (a' := ?_) (bm 61 2978932027861589) rfl rfl (any_of HT_.out (by kernel_rfl)) (fun _ _ _ h => h) (Or.inl ⟨by rfl, ?_⟩) ?_ ?_
     rotate_left; focus (intro w'; go_simp; with_reducible rfl)
     rotate_left; focus (simp only [apz, i64_w, i32_w]; rfl)
     refine pure_ (i := 53) (N := some 69) (v := ?_) (a' := ?_) (bm 61 11986131282602581) rfl rfl (any_of HT_.out (by kernel_rfl)) (fun _ _ _ h => h) (Or.inl ⟨by rfl, ?_⟩) ?_ ?_
     rotate_left; focus (intro w'; go_simp; with_reducible rfl)
     rotate_left; focus (simp only [apz, i64_w, i32_w]; rfl)
     refine pure_ (i := 55) (N := some 71) (v := ?_) (a' := ?_) (bm 61 48014928301566549) rfl rfl (any_of HT_.out (by kernel_rfl)) (fun _ _ _ h => h) (Or.inl ⟨by rfl, ?_⟩) ?_ ?_
     rotate_left; focus (intro w'; go_simp; with_reducible rfl)
     rotate_left; focus (simp only [apz, i64_w, i32_w]; rfl)
     refine take_ (i := 1) (N := some 17) (v := ?_) (a' := ?_) (bm 61 48014928301566551) rfl rfl (take_ofW HT_.out HW_.out (by kernel_rfl)) (fun _ _ _ h => h) (Or.inl ⟨by rfl, ?_⟩) hHeld ?_ ?_
     rotate_left
     ·
      rintro w' ⟨s0, s1, s2, s3, s4, s5, s6, s7, s8, s9, s10, s11⟩
      go_simp
      with_reducible rfl
     rotate_left; focus (simp only [apz, i64_w, i32_w]; rfl)
     refine take_ (i := 3) (N := some 19) (v := ?_) (a' := ?_) (bm 61 48014928301566559) rfl rfl (take_ofW HT_.out HW_.out (by kernel_rfl)) (fun _ _ _ h => h) (Or.inl ⟨by rfl, ?_⟩) hHeld ?_ ?_
     rotate_left
     ·
      rintro w' ⟨s0, s1, s2, s3, s4, s5, s6, s7, s8, s9, s10, s11⟩
      go_simp
      with_reducible rfl
     rotate_left; focus (simp only [apz, i64_w, i32_w]; rfl)
     refine take_ (i := 5) (N := some 21) (v := ?_) (a' := ?_) (bm 61 48014928301566591) rfl rfl (take_ofW HT_.out HW_.out (by kernel_rfl)) (fun _ _ _ h => h) (Or.inl ⟨by rfl, ?_⟩) hHeld ?_ ?_
     rotate_left
     ·
      rintro w' ⟨s0, s1, s2, s3, s4, s5, s6, s7, s8, s9, s10, s11⟩
      go_simp
      with_reducible rfl
     rotate_left; focus (simp only [apz, i64_w, i32_w]; rfl)
     refine take_ (i := 7) (N := some 23) (v := ?_) (a' := ?_) (bm 61 48014928301566719) rfl rfl (take_ofW HT_.out HW_.out (by kernel_rfl)) (fun _ _ _ h => h) (Or.inl ⟨by rfl, ?_⟩) hHeld ?_ ?_
     rotate_left
     ·
      rintro w' ⟨s0, s1, s2, s3, s4, s5, s6, s7, s8, s9, s10, s11⟩
      go_simp
      with_reducible rfl
     rotate_left; focus (simp only [apz, i64_w, i32_w]; rfl)
     refine take_ (i := 10) (N := some 26) (v := ?_) (a' := ?_) (bm 61 48014928301567743) rfl rfl (take_ofW HT_.out HW_.out (by kernel_rfl)) (fun _ _ _ h => h) (Or.inl ⟨by rfl, ?_⟩) hHeld ?_ ?_
     rotate_left
     ·
      rintro w' ⟨s0, s1, s2, s3, s4, s5, s6, s7, s8, s9, s10, s11⟩
      go_simp
      with_reducible rfl
     rotate_left; focus (simp only [apz, i64_w, i32_w]; rfl)
     refine take_ (i := 12) (N := some 28) (v := ?_) (a' := ?_) (bm 61 48014928301571839) rfl rfl (take_ofW HT_.out HW_.out (by kernel_rfl)) (fun _ _ _ h => h) (Or.inl ⟨by rfl, ?_⟩) hHeld ?_ ?_
     rotate_left
     ·
      rintro w' ⟨s0, s1, s2, s3, s4, s5, s6, s7, s8, s9, s10, s11⟩
      go_simp
      with_reducible rfl
     rotate_left; focus (simp only [apz, i64_w, i32_w]; rfl)
     refine take_ (i := 14) (N := some 30) (v := ?_) (a' := ?_) (bm 61 48014928301588223) rfl rfl (take_ofW HT_.out HW_.out (by kernel_rfl)) (fun _ _ _ h => h) (Or.inl ⟨by rfl, ?_⟩) hHeld ?_ ?_
     rotate_left
     ·
      rintro w' ⟨s0, s1, s2, s3, s4, s5, s6, s7, s8, s9, s10, s11⟩
      go_simp
      with_reducible rfl
     rotate_left; focus (simp only [apz, i64_w, i32_w]; rfl)
     refine take_ (i := 16) (N := some 32) (v := ?_) (a' := ?_) (bm 61 48014928301653759) rfl rfl (take_ofW HT_.out HW_.out (by kernel_rfl)) (fun _ _ _ h => h) (Or.inl ⟨by rfl, ?_⟩) hHeld ?_ ?_
     rotate_left
     ·
      rintro w' ⟨s0, s1, s2, s3, s4, s5, s6, s7, s8, s9, s10, s11⟩
      go_simp
      with_reducible rfl
     rotate_left; focus (simp only [apz, i64_w, i32_w]; rfl)
     refine take_ (i := 19) (N := some 35) (v := ?_) (a' := ?_) (bm 61 48014928302178047) rfl rfl (take_ofW HT_.out HW_.out (by kernel_rfl)) (fun _ _ _ h => h) (Or.inl ⟨by rfl, ?_⟩) hHeld ?_ ?_
     rotate_left
     ·
      rintro w' ⟨s0, s1, s2, s3, s4, s5, s6, s7, s8, s9, s10, s11⟩
      go_simp
      with_reducible rfl
     rotate_left; focus (simp only [apz, i64_w, i32_w]; rfl)
     refine take_ (i := 21) (N := some 37) (v := ?_) (a' := ?_) (bm 61 48014928304275199) rfl rfl (take_ofW HT_.out HW_.out (by kernel_rfl)) (fun _ _ _ h => h) (Or.inl ⟨by rfl, ?_⟩) hHeld ?_ ?_
     rotate_left
     ·
      rintro w' ⟨s0, s1, s2, s3, s4, s5, s6, s7, s8, s9, s10, s11⟩
      go_simp
      with_reducible rfl
     rotate_left; focus (simp only [apz, i64_w, i32_w]; rfl)
     refine take_ (i := 23) (N := some 39) (v := ?_) (a' := ?_) (bm 61 48014928312663807) rfl rfl (take_ofW HT_.out HW_.out (by kernel_rfl)) (fun _ _ _ h => h) (Or.inl ⟨by rfl, ?_⟩) hHeld ?_ ?_
     rotate_left
     ·
      rintro w' ⟨s0, s1, s2, s3, s4, s5, s6, s7, s8, s9, s10, s11⟩
      go_simp
      with_reducible rfl
     rotate_left; focus (simp only [apz, i64_w, i32_w]; rfl)
     refine take_ (i := 25) (N := some 41) (v := ?_) (a' := ?_) (bm 61 48014928346218239) rfl rfl (take_ofW HT_.out HW_.out (by kernel_rfl)) (fun _ _ _ h => h) (Or.inl ⟨by rfl, ?_⟩) hHeld ?_ ?_
     rotate_left
     ·
      rintro w' ⟨s0, s1, s2, s3, s4, s5, s6, s7, s8, s9, s10, s11⟩
      go_simp
      with_reducible rfl
     rotate_left; focus (simp only [apz, i64_w, i32_w]; rfl)
     refine take_ (i := 28) (N := some 44) (v := ?_) (a' := ?_) (bm 61 48014928614653695) rfl rfl (take_ofW HT_.out HW_.out (by kernel_rfl)) (fun _ _ _ h => h) (Or.inl ⟨by rfl, ?_⟩) hHeld ?_ ?_
     rotate_left
     ·
      rintro w' ⟨s0, s1, s2, s3, s4, s5, s6, s7, s8, s9, s10, s11⟩
      go_simp
      with_reducible rfl
     rotate_left; focus (simp only [apz, i64_w, i32_w]; rfl)
     refine take_ (i := 30) (N := some 46) (v := ?_) (a' := ?_) (bm 61 48014929688395519) rfl rfl (take_ofW HT_.out HW_.out (by kernel_rfl)) (fun _ _ _ h => h) (Or.inl ⟨by rfl, ?_⟩) hHeld ?_ ?_
     rotate_left
     ·
      rintro w' ⟨s0, s1, s2, s3, s4, s5, s6, s7, s8, s9, s10, s11⟩
      go_simp
      with_reducible rfl
     rotate_left; focus (simp only [apz, i64_w, i32_w]; rfl)
     refine take_ (i := 32) (N := some 48) (v := ?_) (a' := ?_) (bm 61 48014933983362815) rfl rfl (take_ofW HT_.out HW_.out (by kernel_rfl)) (fun _ _ _ h => h) (Or.inl ⟨by rfl, ?_⟩) hHeld ?_ ?_
     rotate_left
     ·
      rintro w' ⟨s0, s1, s2, s3, s4, s5, s6, s7, s8, s9, s10, s11⟩
      go_simp
      with_reducible rfl
     rotate_left; focus (simp only [apz, i64_w, i32_w]; rfl)
     refine take_ (i := 34) (N := some 50) (v := ?_) (a' := ?_) (bm 61 48014951163231999) rfl rfl (take_ofW HT_.out HW_.out (by kernel_rfl)) (fun _ _ _ h => h) (Or.inl ⟨by rfl, ?_⟩) hHeld ?_ ?_
     rotate_left
     ·
      rintro w' ⟨s0, s1, s2, s3, s4, s5, s6, s7, s8, s9, s10, s11⟩
      go_simp
      with_reducible rfl
     rotate_left; focus (simp only [apz, i64_w, i32_w]; rfl)
     refine take_ (i := 37) (N := some 53) (v := ?_) (a' := ?_) (bm 61 48015088602185471) rfl rfl (take_ofW HT_.out HW_.out (by kernel_rfl)) (fun _ _ _ h => h) (Or.inl ⟨by rfl, ?_⟩) hHeld ?_ ?_
     rotate_left
     ·
      rintro w' ⟨s0, s1, s2, s3, s4, s5, s6, s7, s8, s9, s10, s11⟩
      go_simp
      with_reducible rfl
     rotate_left; focus (simp only [apz, i64_w, i32_w]; rfl)
     refine take_ (i := 39) (N := some 55) (v := ?_) (a' := ?_) (bm 61 48015638357999359) rfl rfl (take_ofW HT_.out HW_.out (by kernel_rfl)) (fun _ _ _ h => h) (Or.inl ⟨by rfl, ?_⟩) hHeld ?_ ?_
     rotate_left
     ·
      rintro w' ⟨s0, s1, s2, s3, s4, s5, s6, s7, s8, s9, s10, s11⟩
      go_simp
      with_reducible rfl
     rotate_left; focus (simp only [apz, i64_w, i32_w]; rfl)
     refine take_ (i := 41) (N := some 57) (v := ?_) (a' := ?_) (bm 61 48017837381254911) rfl rfl (take_ofW HT_.out HW_.out (by kernel_rfl)) (fun _ _ _ h => h) (Or.inl ⟨by rfl, ?_⟩) hHeld ?_ ?_
     rotate_left
     ·
      rintro w' ⟨s0, s1, s2, s3, s4, s5, s6, s7, s8, s9, s10, s11⟩
      go_simp
      with_reducible rfl
     rotate_left; focus (simp only [apz, i64_w, i32_w]; rfl)
     refine take_ (i := 43) (N := some 59) (v := ?_) (a' := ?_) (bm 61 48026633474277119) rfl rfl (take_ofW HT_.out HW_.out (by kernel_rfl)) (fun _ _ _ h => h) (Or.inl ⟨by rfl, ?_⟩) hHeld ?_ ?_
     rotate_left
     ·
      rintro w' ⟨s0, s1, s2, s3, s4, s5, s6, s7, s8, s9, s10, s11⟩
      go_simp
      with_reducible rfl
     rotate_left; focus (simp only [apz, i64_w, i32_w]; rfl)
     refine take_ (i := 45) (N := some 61) (v := ?_) (a' := ?_) (bm 61 48061817846365951) rfl rfl (take_ofW HT_.out HW_.out (by kernel_rfl)) (fun _ _ _ h => h) (Or.inl ⟨by rfl, ?_⟩) hHeld ?_ ?_
     rotate_left
     ·
      rintro w' ⟨s0, s1, s2, s3, s4, s5, s6, s7, s8, s9, s10, s11⟩
      go_simp
      with_reducible rfl
     rotate_left; focus (simp only [apz, i64_w, i32_w]; rfl)
     refine take_ (i := 48) (N := some 64) (v := ?_) (a' := ?_) (bm 61 48343292823076607) rfl rfl (take_ofW HT_.out HW_.out (by kernel_rfl)) (fun _ _ _ h => h) (Or.inl ⟨by rfl, ?_⟩) hHeld ?_ ?_
     rotate_left
     ·
      rintro w' ⟨s0, s1, s2, s3, s4, s5, s6, s7, s8, s9, s10, s11⟩
      go_simp
      with_reducible rfl
     rotate_left; focus (simp only [apz, i64_w, i32_w]; rfl)
     refine take_ (i := 50) (N := some 66) (v := ?_) (a' := ?_) (bm 61 49469192729919231) rfl rfl (take_ofW HT_.out HW_.out (by kernel_rfl)) (fun _ _ _ h => h) (Or.inl ⟨by rfl, ?_⟩) hHeld ?_ ?_
     rotate_left
     ·
      rintro w' ⟨s0, s1, s2, s3, s4, s5, s6, s7, s8, s9, s10, s11⟩
      go_simp
      with_reducible rfl
     rotate_left; focus (simp only [apz, i64_w, i32_w]; rfl)
     refine take_ (i := 52) (N := some 68) (v := ?_) (a' := ?_) (bm 61 53972792357289727) rfl rfl (take_ofW HT_.out HW_.out (by kernel_rfl)) (fun _ _ _ h => h) (Or.inl ⟨by rfl, ?_⟩) hHeld ?_ ?_
     rotate_left
     ·
      rintro w' ⟨s0, s1, s2, s3, s4, s5, s6, s7, s8, s9, s10, s11⟩
      go_simp
      with_reducible rfl
     rotate_left; focus (simp only [apz, i64_w, i32_w]; rfl)
     refine take_ (i := 54) (N := some 70) (v := ?_) (a' := ?_) (bm 61 71987190866771711) rfl rfl (take_ofW HT_.out HW_.out (by kernel_rfl)) (fun _ _ _ h => h) (Or.inl ⟨by rfl, ?_⟩) hHeld ?_ ?_
     rotate_left
     ·
      rintro w' ⟨s0, s1, s2, s3, s4, s5, s6, s7, s8, s9, s10, s11⟩
      go_simp
      with_reducible rfl
     rotate_left; focus (simp only [apz, i64_w, i32_w]; rfl)
     refine take_ (i := 56) (N := some 72) (v := ?_) (a' := ?_) (bm 61 144044784904699647) rfl rfl (take_ofW HT_.out HW_.out (by kernel_rfl)) (fun _ _ _ h => h) (Or.inl ⟨by rfl, ?_⟩) hHeld ?_ ?_
     rotate_left
     ·
      rintro w' ⟨s0, s1, s2, s3, s4, s5, s6, s7, s8, s9, s10, s11⟩
      go_simp
      with_reducible rfl
     rotate_left; focus (simp only [apz, i64_w, i32_w]; rfl)
     refine join_ (σ := Nat) 1 (bt 60 1) (fun s_ => [(24, .int .i64 t470), (33, .int .i64 t471), (42, .int .i64 t472), (51, .int .i64 t473), (62, .int .i64 t474), (73, .int .i64 t475), (6, .pointer (some ⟨s_, 0, none⟩)), (74, .agg #[.int .i64 t470, .int .i64 t471, .int .i64 t472, .int .i64 t473, .int .i64 t474, .int .i64 t475])]) (fun s_ w' => (w'.cell? ⟨gb466, 0, none⟩ = some (.int .i64 a1_0) ∧ w'.cell? ⟨gb466, 1, none⟩ = some (.int .i64 a1_1) ∧ w'.cell? ⟨gb466, 2, none⟩ = some (.int .i64 a1_2) ∧ w'.cell? ⟨gb466, 3, none⟩ = some (.int .i64 a1_3) ∧ w'.cell? ⟨gb466, 4, none⟩ = some (.int .i64 a1_4) ∧ w'.cell? ⟨gb466, 5, none⟩ = some (.int .i64 a1_5) ∧ w'.cell? ⟨gb465, 0, none⟩ = some (.int .i64 a0_0) ∧ w'.cell? ⟨gb465, 1, none⟩ = some (.int .i64 a0_1) ∧ w'.cell? ⟨gb465, 2, none⟩ = some (.int .i64 a0_2) ∧ w'.cell? ⟨gb465, 3, none⟩ = some (.int .i64 a0_3) ∧ w'.cell? ⟨gb465, 4, none⟩ = some (.int .i64 a0_4) ∧ w'.cell? ⟨gb465, 5, none⟩ = some (.int .i64 a0_5)) ∧ (w'.heap[gb465]? = some (.cells #[.int .i64 a0_0, .int .i64 a0_1, .int .i64 a0_2, .int .i64 a0_3, .int .i64 a0_4, .int .i64 a0_5] 23 (0, 0))) ∧ (w'.heap[gb466]? = some (.cells #[.int .i64 a1_0, .int .i64 a1_1, .int .i64 a1_2, .int .i64 a1_3, .int .i64 a1_4, .int .i64 a1_5] 23 (0, 0))) ∧ (w'.heap[gb467]? = some (.cells #[.int .i64 0, .int .i64 0, .int .i64 0, .int .i64 0, .int .i64 0, .int .i64 0] 23 (0, 0))) ∧ (w'.heap[s_]? = some (.cells #[.int .i64 0, .int .i64 0, .int .i64 0, .int .i64 0, .int .i64 0, .int .i64 0] 23 (0, 0))) ∧ (w.heap.size ≤ s_) ∧ (w.heap.size ≤ s_) ∧ (gb465 ≠ s_) ∧ (s_ ≠ gb465) ∧ (gb466 ≠ s_) ∧ (s_ ≠ gb466) ∧ (gb467 ≠ s_) ∧ (s_ ≠ gb467) ∧ (Below w.heap.size w w')) ?_ ?_
     rotate_left
     ·
      intro hJ8_17_26_35_46_57_59
      refine join_ (σ := Unit) 2 (bt 59 2) (fun s_ => [(24, .int .i64 t470), (33, .int .i64 t471), (42, .int .i64 t472), (51, .int .i64 t473), (62, .int .i64 t474), (73, .int .i64 t475), (74, .agg #[.int .i64 t470, .int .i64 t471, .int .i64 t472, .int .i64 t473, .int .i64 t474, .int .i64 t475])]) (fun s_ w' => (w'.cell? ⟨gb466, 0, none⟩ = some (.int .i64 a1_0) ∧ w'.cell? ⟨gb466, 1, none⟩ = some (.int .i64 a1_1) ∧ w'.cell? ⟨gb466, 2, none⟩ = some (.int .i64 a1_2) ∧ w'.cell? ⟨gb466, 3, none⟩ = some (.int .i64 a1_3) ∧ w'.cell? ⟨gb466, 4, none⟩ = some (.int .i64 a1_4) ∧ w'.cell? ⟨gb466, 5, none⟩ = some (.int .i64 a1_5) ∧ w'.cell? ⟨gb465, 0, none⟩ = some (.int .i64 a0_0) ∧ w'.cell? ⟨gb465, 1, none⟩ = some (.int .i64 a0_1) ∧ w'.cell? ⟨gb465, 2, none⟩ = some (.int .i64 a0_2) ∧ w'.cell? ⟨gb465, 3, none⟩ = some (.int .i64 a0_3) ∧ w'.cell? ⟨gb465, 4, none⟩ = some (.int .i64 a0_4) ∧ w'.cell? ⟨gb465, 5, none⟩ = some (.int .i64 a0_5)) ∧ (w'.heap[gb465]? = some (.cells #[.int .i64 a0_0, .int .i64 a0_1, .int .i64 a0_2, .int .i64 a0_3, .int .i64 a0_4, .int .i64 a0_5] 23 (0, 0))) ∧ (w'.heap[gb466]? = some (.cells #[.int .i64 a1_0, .int .i64 a1_1, .int .i64 a1_2, .int .i64 a1_3, .int .i64 a1_4, .int .i64 a1_5] 23 (0, 0))) ∧ (w'.heap[gb467]? = some (.cells #[.int .i64 0, .int .i64 0, .int .i64 0, .int .i64 0, .int .i64 0, .int .i64 0] 23 (0, 0))) ∧ (Below w.heap.size w w')) ?_ ?_
      rotate_left
      ·
       intro hJ8_17_26_35_46_57
       refine join_ (σ := Nat) 3 (bm 61 720575940379279359) (fun s_ => [(24, .int .i64 t470), (33, .int .i64 t471), (42, .int .i64 t472), (51, .int .i64 t473), (62, .int .i64 t474), (6, .pointer (some ⟨s_, 0, none⟩))]) (fun s_ w' => (w'.cell? ⟨gb466, 0, none⟩ = some (.int .i64 a1_0) ∧ w'.cell? ⟨gb466, 1, none⟩ = some (.int .i64 a1_1) ∧ w'.cell? ⟨gb466, 2, none⟩ = some (.int .i64 a1_2) ∧ w'.cell? ⟨gb466, 3, none⟩ = some (.int .i64 a1_3) ∧ w'.cell? ⟨gb466, 4, none⟩ = some (.int .i64 a1_4) ∧ w'.cell? ⟨gb466, 5, none⟩ = some (.int .i64 a1_5) ∧ w'.cell? ⟨gb465, 0, none⟩ = some (.int .i64 a0_0) ∧ w'.cell? ⟨gb465, 1, none⟩ = some (.int .i64 a0_1) ∧ w'.cell? ⟨gb465, 2, none⟩ = some (.int .i64 a0_2) ∧ w'.cell? ⟨gb465, 3, none⟩ = some (.int .i64 a0_3) ∧ w'.cell? ⟨gb465, 4, none⟩ = some (.int .i64 a0_4) ∧ w'.cell? ⟨gb465, 5, none⟩ = some (.int .i64 a0_5)) ∧ (w'.heap[gb465]? = some (.cells #[.int .i64 a0_0, .int .i64 a0_1, .int .i64 a0_2, .int .i64 a0_3, .int .i64 a0_4, .int .i64 a0_5] 23 (0, 0))) ∧ (w'.heap[gb466]? = some (.cells #[.int .i64 a1_0, .int .i64 a1_1, .int .i64 a1_2, .int .i64 a1_3, .int .i64 a1_4, .int .i64 a1_5] 23 (0, 0))) ∧ (w'.heap[gb467]? = some (.cells #[.int .i64 0, .int .i64 0, .int .i64 0, .int .i64 0, .int .i64 0, .int .i64 0] 23 (0, 0))) ∧ (w'.heap[s_]? = some (.cells #[.int .i64 0, .int .i64 0, .int .i64 0, .int .i64 0, .int .i64 0, .int .i64 0] 23 (0, 0))) ∧ (w.heap.size ≤ s_) ∧ (w.heap.size ≤ s_) ∧ (gb465 ≠ s_) ∧ (s_ ≠ gb465) ∧ (gb466 ≠ s_) ∧ (s_ ≠ gb466) ∧ (gb467 ≠ s_) ∧ (s_ ≠ gb467) ∧ (Below w.heap.size w w')) ?_ ?_
       rotate_left
       ·
        intro hJ8_17_26_35_46_59
        refine join_ (σ := Unit) 4 (bt 57 4) (fun s_ => [(24, .int .i64 t470), (33, .int .i64 t471), (42, .int .i64 t472), (51, .int .i64 t473), (62, .int .i64 t474)]) (fun s_ w' => (w'.cell? ⟨gb466, 0, none⟩ = some (.int .i64 a1_0) ∧ w'.cell? ⟨gb466, 1, none⟩ = some (.int .i64 a1_1) ∧ w'.cell? ⟨gb466, 2, none⟩ = some (.int .i64 a1_2) ∧ w'.cell? ⟨gb466, 3, none⟩ = some (.int .i64 a1_3) ∧ w'.cell? ⟨gb466, 4, none⟩ = some (.int .i64 a1_4) ∧ w'.cell? ⟨gb466, 5, none⟩ = some (.int .i64 a1_5) ∧ w'.cell? ⟨gb465, 0, none⟩ = some (.int .i64 a0_0) ∧ w'.cell? ⟨gb465, 1, none⟩ = some (.int .i64 a0_1) ∧ w'.cell? ⟨gb465, 2, none⟩ = some (.int .i64 a0_2) ∧ w'.cell? ⟨gb465, 3, none⟩ = some (.int .i64 a0_3) ∧ w'.cell? ⟨gb465, 4, none⟩ = some (.int .i64 a0_4) ∧ w'.cell? ⟨gb465, 5, none⟩ = some (.int .i64 a0_5)) ∧ (w'.heap[gb465]? = some (.cells #[.int .i64 a0_0, .int .i64 a0_1, .int .i64 a0_2, .int .i64 a0_3, .int .i64 a0_4, .int .i64 a0_5] 23 (0, 0))) ∧ (w'.heap[gb466]? = some (.cells #[.int .i64 a1_0, .int .i64 a1_1, .int .i64 a1_2, .int .i64 a1_3, .int .i64 a1_4, .int .i64 a1_5] 23 (0, 0))) ∧ (w'.heap[gb467]? = some (.cells #[.int .i64 0, .int .i64 0, .int .i64 0, .int .i64 0, .int .i64 0, .int .i64 0] 23 (0, 0))) ∧ (Below w.heap.size w w')) ?_ ?_
        rotate_left
        ·
         intro hJ8_17_26_35_46
         refine join_ (σ := Nat) 4 (bm 61 720505571635101695) (fun s_ => [(24, .int .i64 t470), (33, .int .i64 t471), (42, .int .i64 t472), (51, .int .i64 t473), (6, .pointer (some ⟨s_, 0, none⟩))]) (fun s_ w' => (w'.cell? ⟨gb466, 0, none⟩ = some (.int .i64 a1_0) ∧ w'.cell? ⟨gb466, 1, none⟩ = some (.int .i64 a1_1) ∧ w'.cell? ⟨gb466, 2, none⟩ = some (.int .i64 a1_2) ∧ w'.cell? ⟨gb466, 3, none⟩ = some (.int .i64 a1_3) ∧ w'.cell? ⟨gb466, 4, none⟩ = some (.int .i64 a1_4) ∧ w'.cell? ⟨gb466, 5, none⟩ = some (.int .i64 a1_5) ∧ w'.cell? ⟨gb465, 0, none⟩ = some (.int .i64 a0_0) ∧ w'.cell? ⟨gb465, 1, none⟩ = some (.int .i64 a0_1) ∧ w'.cell? ⟨gb465, 2, none⟩ = some (.int .i64 a0_2) ∧ w'.cell? ⟨gb465, 3, none⟩ = some (.int .i64 a0_3) ∧ w'.cell? ⟨gb465, 4, none⟩ = some (.int .i64 a0_4) ∧ w'.cell? ⟨gb465, 5, none⟩ = some (.int .i64 a0_5)) ∧ (w'.heap[gb465]? = some (.cells #[.int .i64 a0_0, .int .i64 a0_1, .int .i64 a0_2, .int .i64 a0_3, .int .i64 a0_4, .int .i64 a0_5] 23 (0, 0))) ∧ (w'.heap[gb466]? = some (.cells #[.int .i64 a1_0, .int .i64 a1_1, .int .i64 a1_2, .int .i64 a1_3, .int .i64 a1_4, .int .i64 a1_5] 23 (0, 0))) ∧ (w'.heap[gb467]? = some (.cells #[.int .i64 0, .int .i64 0, .int .i64 0, .int .i64 0, .int .i64 0, .int .i64 0] 23 (0, 0))) ∧ (w'.heap[s_]? = some (.cells #[.int .i64 0, .int .i64 0, .int .i64 0, .int .i64 0, .int .i64 0, .int .i64 0] 23 (0, 0))) ∧ (w.heap.size ≤ s_) ∧ (w.heap.size ≤ s_) ∧ (gb465 ≠ s_) ∧ (s_ ≠ gb465) ∧ (gb466 ≠ s_) ∧ (s_ ≠ gb466) ∧ (gb467 ≠ s_) ∧ (s_ ≠ gb467) ∧ (Below w.heap.size w w')) ?_ ?_
         rotate_left
         ·
          intro hJ8_17_26_35_59
          refine join_ (σ := Unit) 5 (bm 61 144044819331678207) (fun s_ => [(24, .int .i64 t470), (33, .int .i64 t471), (42, .int .i64 t472), (51, .int .i64 t473)]) (fun s_ w' => (w'.cell? ⟨gb466, 0, none⟩ = some (.int .i64 a1_0) ∧ w'.cell? ⟨gb466, 1, none⟩ = some (.int .i64 a1_1) ∧ w'.cell? ⟨gb466, 2, none⟩ = some (.int .i64 a1_2) ∧ w'.cell? ⟨gb466, 3, none⟩ = some (.int .i64 a1_3) ∧ w'.cell? ⟨gb466, 4, none⟩ = some (.int .i64 a1_4) ∧ w'.cell? ⟨gb466, 5, none⟩ = some (.int .i64 a1_5) ∧ w'.cell? ⟨gb465, 0, none⟩ = some (.int .i64 a0_0) ∧ w'.cell? ⟨gb465, 1, none⟩ = some (.int .i64 a0_1) ∧ w'.cell? ⟨gb465, 2, none⟩ = some (.int .i64 a0_2) ∧ w'.cell? ⟨gb465, 3, none⟩ = some (.int .i64 a0_3) ∧ w'.cell? ⟨gb465, 4, none⟩ = some (.int .i64 a0_4) ∧ w'.cell? ⟨gb465, 5, none⟩ = some (.int .i64 a0_5)) ∧ (w'.heap[gb465]? = some (.cells #[.int .i64 a0_0, .int .i64 a0_1, .int .i64 a0_2, .int .i64 a0_3, .int .i64 a0_4, .int .i64 a0_5] 23 (0, 0))) ∧ (w'.heap[gb466]? = some (.cells #[.int .i64 a1_0, .int .i64 a1_1, .int .i64 a1_2, .int .i64 a1_3, .int .i64 a1_4, .int .i64 a1_5] 23 (0, 0))) ∧ (w'.heap[gb467]? = some (.cells #[.int .i64 0, .int .i64 0, .int .i64 0, .int .i64 0, .int .i64 0, .int .i64 0] 23 (0, 0))) ∧ (Below w.heap.size w w')) ?_ ?_
          rotate_left
          ·
           intro hJ8_17_26_35
           refine join_ (σ := Nat) 5 (bm 61 720505537275363327) (fun s_ => [(24, .int .i64 t470), (33, .int .i64 t471), (42, .int .i64 t472), (6, .pointer (some ⟨s_, 0, none⟩))]) (fun s_ w' => (w'.cell? ⟨gb466, 0, none⟩ = some (.int .i64 a1_0) ∧ w'.cell? ⟨gb466, 1, none⟩ = some (.int .i64 a1_1) ∧ w'.cell? ⟨gb466, 2, none⟩ = some (.int .i64 a1_2) ∧ w'.cell? ⟨gb466, 3, none⟩ = some (.int .i64 a1_3) ∧ w'.cell? ⟨gb466, 4, none⟩ = some (.int .i64 a1_4) ∧ w'.cell? ⟨gb466, 5, none⟩ = some (.int .i64 a1_5) ∧ w'.cell? ⟨gb465, 0, none⟩ = some (.int .i64 a0_0) ∧ w'.cell? ⟨gb465, 1, none⟩ = some (.int .i64 a0_1) ∧ w'.cell? ⟨gb465, 2, none⟩ = some (.int .i64 a0_2) ∧ w'.cell? ⟨gb465, 3, none⟩ = some (.int .i64 a0_3) ∧ w'.cell? ⟨gb465, 4, none⟩ = some (.int .i64 a0_4) ∧ w'.cell? ⟨gb465, 5, none⟩ = some (.int .i64 a0_5)) ∧ (w'.heap[gb465]? = some (.cells #[.int .i64 a0_0, .int .i64 a0_1, .int .i64 a0_2, .int .i64 a0_3, .int .i64 a0_4, .int .i64 a0_5] 23 (0, 0))) ∧ (w'.heap[gb466]? = some (.cells #[.int .i64 a1_0, .int .i64 a1_1, .int .i64 a1_2, .int .i64 a1_3, .int .i64 a1_4, .int .i64 a1_5] 23 (0, 0))) ∧ (w'.heap[gb467]? = some (.cells #[.int .i64 0, .int .i64 0, .int .i64 0, .int .i64 0, .int .i64 0, .int .i64 0] 23 (0, 0))) ∧ (w'.heap[s_]? = some (.cells #[.int .i64 0, .int .i64 0, .int .i64 0, .int .i64 0, .int .i64 0, .int .i64 0] 23 (0, 0))) ∧ (w.heap.size ≤ s_) ∧ (w.heap.size ≤ s_) ∧ (gb465 ≠ s_) ∧ (s_ ≠ gb465) ∧ (gb466 ≠ s_) ∧ (s_ ≠ gb466) ∧ (gb467 ≠ s_) ∧ (s_ ≠ gb467) ∧ (Below w.heap.size w w')) ?_ ?_
           rotate_left
           ·
            intro hJ8_17_26_59
            refine join_ (σ := Unit) 6 (bm 61 144044784971939839) (fun s_ => [(24, .int .i64 t470), (33, .int .i64 t471), (42, .int .i64 t472)]) (fun s_ w' => (w'.cell? ⟨gb466, 0, none⟩ = some (.int .i64 a1_0) ∧ w'.cell? ⟨gb466, 1, none⟩ = some (.int .i64 a1_1) ∧ w'.cell? ⟨gb466, 2, none⟩ = some (.int .i64 a1_2) ∧ w'.cell? ⟨gb466, 3, none⟩ = some (.int .i64 a1_3) ∧ w'.cell? ⟨gb466, 4, none⟩ = some (.int .i64 a1_4) ∧ w'.cell? ⟨gb466, 5, none⟩ = some (.int .i64 a1_5) ∧ w'.cell? ⟨gb465, 0, none⟩ = some (.int .i64 a0_0) ∧ w'.cell? ⟨gb465, 1, none⟩ = some (.int .i64 a0_1) ∧ w'.cell? ⟨gb465, 2, none⟩ = some (.int .i64 a0_2) ∧ w'.cell? ⟨gb465, 3, none⟩ = some (.int .i64 a0_3) ∧ w'.cell? ⟨gb465, 4, none⟩ = some (.int .i64 a0_4) ∧ w'.cell? ⟨gb465, 5, none⟩ = some (.int .i64 a0_5)) ∧ (w'.heap[gb465]? = some (.cells #[.int .i64 a0_0, .int .i64 a0_1, .int .i64 a0_2, .int .i64 a0_3, .int .i64 a0_4, .int .i64 a0_5] 23 (0, 0))) ∧ (w'.heap[gb466]? = some (.cells #[.int .i64 a1_0, .int .i64 a1_1, .int .i64 a1_2, .int .i64 a1_3, .int .i64 a1_4, .int .i64 a1_5] 23 (0, 0))) ∧ (w'.heap[gb467]? = some (.cells #[.int .i64 0, .int .i64 0, .int .i64 0, .int .i64 0, .int .i64 0, .int .i64 0] 23 (0, 0))) ∧ (Below w.heap.size w w')) ?_ ?_
            rotate_left
            ·
             intro hJ8_17_26
             refine join_ (σ := Nat) 6 (bm 61 720505537208254463) (fun s_ => [(24, .int .i64 t470), (33, .int .i64 t471), (6, .pointer (some ⟨s_, 0, none⟩))]) (fun s_ w' => (w'.cell? ⟨gb466, 0, none⟩ = some (.int .i64 a1_0) ∧ w'.cell? ⟨gb466, 1, none⟩ = some (.int .i64 a1_1) ∧ w'.cell? ⟨gb466, 2, none⟩ = some (.int .i64 a1_2) ∧ w'.cell? ⟨gb466, 3, none⟩ = some (.int .i64 a1_3) ∧ w'.cell? ⟨gb466, 4, none⟩ = some (.int .i64 a1_4) ∧ w'.cell? ⟨gb466, 5, none⟩ = some (.int .i64 a1_5) ∧ w'.cell? ⟨gb465, 0, none⟩ = some (.int .i64 a0_0) ∧ w'.cell? ⟨gb465, 1, none⟩ = some (.int .i64 a0_1) ∧ w'.cell? ⟨gb465, 2, none⟩ = some (.int .i64 a0_2) ∧ w'.cell? ⟨gb465, 3, none⟩ = some (.int .i64 a0_3) ∧ w'.cell? ⟨gb465, 4, none⟩ = some (.int .i64 a0_4) ∧ w'.cell? ⟨gb465, 5, none⟩ = some (.int .i64 a0_5)) ∧ (w'.heap[gb465]? = some (.cells #[.int .i64 a0_0, .int .i64 a0_1, .int .i64 a0_2, .int .i64 a0_3, .int .i64 a0_4, .int .i64 a0_5] 23 (0, 0))) ∧ (w'.heap[gb466]? = some (.cells #[.int .i64 a1_0, .int .i64 a1_1, .int .i64 a1_2, .int .i64 a1_3, .int .i64 a1_4, .int .i64 a1_5] 23 (0, 0))) ∧ (w'.heap[gb467]? = some (.cells #[.int .i64 0, .int .i64 0, .int .i64 0, .int .i64 0, .int .i64 0, .int .i64 0] 23 (0, 0))) ∧ (w'.heap[s_]? = some (.cells #[.int .i64 0, .int .i64 0, .int .i64 0, .int .i64 0, .int .i64 0, .int .i64 0] 23 (0, 0))) ∧ (w.heap.size ≤ s_) ∧ (w.heap.size ≤ s_) ∧ (gb465 ≠ s_) ∧ (s_ ≠ gb465) ∧ (gb466 ≠ s_) ∧ (s_ ≠ gb466) ∧ (gb467 ≠ s_) ∧ (s_ ≠ gb467) ∧ (Below w.heap.size w w')) ?_ ?_
             rotate_left
             ·
              intro hJ8_17_59
              refine join_ (σ := Unit) 7 (bm 61 144044784904830975) (fun s_ => [(24, .int .i64 t470), (33, .int .i64 t471)]) (fun s_ w' => (w'.cell? ⟨gb466, 0, none⟩ = some (.int .i64 a1_0) ∧ w'.cell? ⟨gb466, 1, none⟩ = some (.int .i64 a1_1) ∧ w'.cell? ⟨gb466, 2, none⟩ = some (.int .i64 a1_2) ∧ w'.cell? ⟨gb466, 3, none⟩ = some (.int .i64 a1_3) ∧ w'.cell? ⟨gb466, 4, none⟩ = some (.int .i64 a1_4) ∧ w'.cell? ⟨gb466, 5, none⟩ = some (.int .i64 a1_5) ∧ w'.cell? ⟨gb465, 0, none⟩ = some (.int .i64 a0_0) ∧ w'.cell? ⟨gb465, 1, none⟩ = some (.int .i64 a0_1) ∧ w'.cell? ⟨gb465, 2, none⟩ = some (.int .i64 a0_2) ∧ w'.cell? ⟨gb465, 3, none⟩ = some (.int .i64 a0_3) ∧ w'.cell? ⟨gb465, 4, none⟩ = some (.int .i64 a0_4) ∧ w'.cell? ⟨gb465, 5, none⟩ = some (.int .i64 a0_5)) ∧ (w'.heap[gb465]? = some (.cells #[.int .i64 a0_0, .int .i64 a0_1, .int .i64 a0_2, .int .i64 a0_3, .int .i64 a0_4, .int .i64 a0_5] 23 (0, 0))) ∧ (w'.heap[gb466]? = some (.cells #[.int .i64 a1_0, .int .i64 a1_1, .int .i64 a1_2, .int .i64 a1_3, .int .i64 a1_4, .int .i64 a1_5] 23 (0, 0))) ∧ (w'.heap[gb467]? = some (.cells #[.int .i64 0, .int .i64 0, .int .i64 0, .int .i64 0, .int .i64 0, .int .i64 0] 23 (0, 0))) ∧ (Below w.heap.size w w')) ?_ ?_
              rotate_left
              ·
               intro hJ8_17
               refine join_ (σ := Nat) 7 (bm 61 720505537208123391) (fun s_ => [(24, .int .i64 t470), (6, .pointer (some ⟨s_, 0, none⟩))]) (fun s_ w' => (w'.cell? ⟨gb466, 0, none⟩ = some (.int .i64 a1_0) ∧ w'.cell? ⟨gb466, 1, none⟩ = some (.int .i64 a1_1) ∧ w'.cell? ⟨gb466, 2, none⟩ = some (.int .i64 a1_2) ∧ w'.cell? ⟨gb466, 3, none⟩ = some (.int .i64 a1_3) ∧ w'.cell? ⟨gb466, 4, none⟩ = some (.int .i64 a1_4) ∧ w'.cell? ⟨gb466, 5, none⟩ = some (.int .i64 a1_5) ∧ w'.cell? ⟨gb465, 0, none⟩ = some (.int .i64 a0_0) ∧ w'.cell? ⟨gb465, 1, none⟩ = some (.int .i64 a0_1) ∧ w'.cell? ⟨gb465, 2, none⟩ = some (.int .i64 a0_2) ∧ w'.cell? ⟨gb465, 3, none⟩ = some (.int .i64 a0_3) ∧ w'.cell? ⟨gb465, 4, none⟩ = some (.int .i64 a0_4) ∧ w'.cell? ⟨gb465, 5, none⟩ = some (.int .i64 a0_5)) ∧ (w'.heap[gb465]? = some (.cells #[.int .i64 a0_0, .int .i64 a0_1, .int .i64 a0_2, .int .i64 a0_3, .int .i64 a0_4, .int .i64 a0_5] 23 (0, 0))) ∧ (w'.heap[gb466]? = some (.cells #[.int .i64 a1_0, .int .i64 a1_1, .int .i64 a1_2, .int .i64 a1_3, .int .i64 a1_4, .int .i64 a1_5] 23 (0, 0))) ∧ (w'.heap[gb467]? = some (.cells #[.int .i64 0, .int .i64 0, .int .i64 0, .int .i64 0, .int .i64 0, .int .i64 0] 23 (0, 0))) ∧ (w'.heap[s_]? = some (.cells #[.int .i64 0, .int .i64 0, .int .i64 0, .int .i64 0, .int .i64 0, .int .i64 0] 23 (0, 0))) ∧ (w.heap.size ≤ s_) ∧ (w.heap.size ≤ s_) ∧ (gb465 ≠ s_) ∧ (s_ ≠ gb465) ∧ (gb466 ≠ s_) ∧ (s_ ≠ gb466) ∧ (gb467 ≠ s_) ∧ (s_ ≠ gb467) ∧ (Below w.heap.size w w')) ?_ ?_
               rotate_left
               ·
                intro hJ8_59
                refine join_ (σ := Unit) 8 (bm 61 144044784904699903) (fun s_ => [(24, .int .i64 t470)]) (fun s_ w' => (w'.cell? ⟨gb466, 0, none⟩ = some (.int .i64 a1_0) ∧ w'.cell? ⟨gb466, 1, none⟩ = some (.int .i64 a1_1) ∧ w'.cell? ⟨gb466, 2, none⟩ = some (.int .i64 a1_2) ∧ w'.cell? ⟨gb466, 3, none⟩ = some (.int .i64 a1_3) ∧ w'.cell? ⟨gb466, 4, none⟩ = some (.int .i64 a1_4) ∧ w'.cell? ⟨gb466, 5, none⟩ = some (.int .i64 a1_5) ∧ w'.cell? ⟨gb465, 0, none⟩ = some (.int .i64 a0_0) ∧ w'.cell? ⟨gb465, 1, none⟩ = some (.int .i64 a0_1) ∧ w'.cell? ⟨gb465, 2, none⟩ = some (.int .i64 a0_2) ∧ w'.cell? ⟨gb465, 3, none⟩ = some (.int .i64 a0_3) ∧ w'.cell? ⟨gb465, 4, none⟩ = some (.int .i64 a0_4) ∧ w'.cell? ⟨gb465, 5, none⟩ = some (.int .i64 a0_5)) ∧ (w'.heap[gb465]? = some (.cells #[.int .i64 a0_0, .int .i64 a0_1, .int .i64 a0_2, .int .i64 a0_3, .int .i64 a0_4, .int .i64 a0_5] 23 (0, 0))) ∧ (w'.heap[gb466]? = some (.cells #[.int .i64 a1_0, .int .i64 a1_1, .int .i64 a1_2, .int .i64 a1_3, .int .i64 a1_4, .int .i64 a1_5] 23 (0, 0))) ∧ (w'.heap[gb467]? = some (.cells #[.int .i64 0, .int .i64 0, .int .i64 0, .int .i64 0, .int .i64 0, .int .i64 0] 23 (0, 0))) ∧ (Below w.heap.size w w')) ?_ ?_
                rotate_left
                ·
                 intro hJ8
                 refine join_ (σ := Nat) 8 (bm 61 720505537208123135) (fun s_ => [(6, .pointer (some ⟨s_, 0, none⟩))]) (fun s_ w' => (w'.cell? ⟨gb466, 0, none⟩ = some (.int .i64 a1_0) ∧ w'.cell? ⟨gb466, 1, none⟩ = some (.int .i64 a1_1) ∧ w'.cell? ⟨gb466, 2, none⟩ = some (.int .i64 a1_2) ∧ w'.cell? ⟨gb466, 3, none⟩ = some (.int .i64 a1_3) ∧ w'.cell? ⟨gb466, 4, none⟩ = some (.int .i64 a1_4) ∧ w'.cell? ⟨gb466, 5, none⟩ = some (.int .i64 a1_5) ∧ w'.cell? ⟨gb465, 0, none⟩ = some (.int .i64 a0_0) ∧ w'.cell? ⟨gb465, 1, none⟩ = some (.int .i64 a0_1) ∧ w'.cell? ⟨gb465, 2, none⟩ = some (.int .i64 a0_2) ∧ w'.cell? ⟨gb465, 3, none⟩ = some (.int .i64 a0_3) ∧ w'.cell? ⟨gb465, 4, none⟩ = some (.int .i64 a0_4) ∧ w'.cell? ⟨gb465, 5, none⟩ = some (.int .i64 a0_5)) ∧ (w'.heap[gb465]? = some (.cells #[.int .i64 a0_0, .int .i64 a0_1, .int .i64 a0_2, .int .i64 a0_3, .int .i64 a0_4, .int .i64 a0_5] 23 (0, 0))) ∧ (w'.heap[gb466]? = some (.cells #[.int .i64 a1_0, .int .i64 a1_1, .int .i64 a1_2, .int .i64 a1_3, .int .i64 a1_4, .int .i64 a1_5] 23 (0, 0))) ∧ (w'.heap[gb467]? = some (.cells #[.int .i64 0, .int .i64 0, .int .i64 0, .int .i64 0, .int .i64 0, .int .i64 0] 23 (0, 0))) ∧ (w'.heap[s_]? = some (.cells #[.int .i64 0, .int .i64 0, .int .i64 0, .int .i64 0, .int .i64 0, .int .i64 0] 23 (0, 0))) ∧ (w.heap.size ≤ s_) ∧ (w.heap.size ≤ s_) ∧ (gb465 ≠ s_) ∧ (s_ ≠ gb465) ∧ (gb466 ≠ s_) ∧ (s_ ≠ gb466) ∧ (gb467 ≠ s_) ∧ (s_ ≠ gb467) ∧ (Below w.heap.size w w')) ?_ ?_
                 rotate_left
                 ·
                  intro hJ59
                  refine two_ (i := 8) (j := 59) (Ni := some 24) (Nj := some 6) (bm 61 144044784904699903) (bm 61 720505537208123135) rfl rfl rfl rfl (two_of HT_.out (by kernel_rfl)) (by decide) (by decide) (fun K hK => ?_) (fun K hK => ?_)
                  ·
                   skip
                   refine goes_ Tryd.func22 (by kernel_rfl) rfl #[.int .i64 a1_0, .int .i64 a0_0, .int .i64 a1_2, .int .i64 a0_1, .int .i64 0] (by rfl) rfl rfl (by (try simp only [List.map_toArray, List.map_cons, List.map_nil]); first | done | rfl | (simp only [List.length_drop, List.length_take]; rfl)) ?_
                   with_reducible refine (pointillistref08_sum.calls kj2 a1_0 a0_0 a1_2 a0_1 0 t470 _ A25.out).mono ?_
                   rintro e w34 ⟨rfl, hb⟩
                   refine ⟨_, rfl, ?_⟩
                   have n0_ := Aside0.mk (blk_below (bq BK465.out) hb)
                   have n1_ := Aside0.mk (blk_below (bq BK466.out) hb)
                   have n2_ := Aside0.mk (blk_below (bq BK467.out) hb)
                   have n3_ := Aside0.mk (below_step (wq HB.out) hb)
                   clear BK465 BK466 BK467 HB; have BK465 := n0_; have BK466 := n1_; have BK467 := n2_; have HB := n3_; clear n0_ n1_ n2_ n3_
                   (try clear hb)
                   (try clear hb2)
                   (try clear hk)
                   (try clear hi)
                   refine hK.out _ _ ⟨(blk_cell BK466.out 0).trans rfl, (blk_cell BK466.out 1).trans rfl, (blk_cell BK466.out 2).trans rfl, (blk_cell BK466.out 3).trans rfl, (blk_cell BK466.out 4).trans rfl, (blk_cell BK466.out 5).trans rfl, (blk_cell BK465.out 0).trans rfl, (blk_cell BK465.out 1).trans rfl, (blk_cell BK465.out 2).trans rfl, (blk_cell BK465.out 3).trans rfl, (blk_cell BK465.out 4).trans rfl, (blk_cell BK465.out 5).trans rfl⟩ (fun hHeld => ?_)
                   clear hK K
                   refine norm_ (a' := ?_) ?_ ?_
                   rotate_left
                   ·
                    show Act.put _ (some 24) _ = _
                    simp only [apz, i64_w, i32_w]
                    rfl
                   exact norm_ (by first | (simp only [putAll, apz]; done) | (simp only [putAll, apz]; rfl)) (hJ8 () _ ⟨hHeld, (bq BK465.out), (bq BK466.out), (bq BK467.out), (wq HB.out)⟩)
                  ·
                   skip
                   refine box_step ?hg (N := 6) ?hd (cs := #[.int .i64 0, .int .i64 0, .int .i64 0, .int .i64 0, .int .i64 0, .int .i64 0]) (t := 23) ?hr ?_; (case hd => rfl); (case hg => rfl); (case hr => first | (go_simp; done) | (go_simp; rfl))
                   intro gb476 hg w34 hbox hb
                   have n0_ := Aside0.mk (blk_below (bq BK465.out) hb)
                   have n1_ := Aside0.mk (blk_below (bq BK466.out) hb)
                   have n2_ := Aside0.mk (blk_below (bq BK467.out) hb)
                   have n3_ := Aside0.mk (below_step (wq HB.out) hb)
                   have n4_ := Aside0.mk (hbox)
                   have n5_ := Aside0.mk ((by rw [hg]; exact (below_size (wq HB.out)) : w.heap.size ≤ gb476))
                   have n6_ := Aside0.mk ((by rw [hg]; exact (below_size (wq HB.out)) : w.heap.size ≤ gb476))
                   have n7_ := Aside0.mk ((by rw [hg]; exact Nat.ne_of_lt (blk_lt (bq BK465.out)) : gb465 ≠ gb476))
                   have n8_ := Aside0.mk ((by rw [hg]; exact Nat.ne_of_gt (blk_lt (bq BK465.out)) : gb476 ≠ gb465))
                   have n9_ := Aside0.mk ((by rw [hg]; exact Nat.ne_of_lt (blk_lt (bq BK466.out)) : gb466 ≠ gb476))
                   have n10_ := Aside0.mk ((by rw [hg]; exact Nat.ne_of_gt (blk_lt (bq BK466.out)) : gb476 ≠ gb466))
                   have n11_ := Aside0.mk ((by rw [hg]; exact Nat.ne_of_lt (blk_lt (bq BK467.out)) : gb467 ≠ gb476))
                   have n12_ := Aside0.mk ((by rw [hg]; exact Nat.ne_of_gt (blk_lt (bq BK467.out)) : gb476 ≠ gb467))
                   clear BK465 BK466 BK467 HB; have BK465 := n0_; have BK466 := n1_; have BK467 := n2_; have HB := n3_; have BK476 := n4_; have GW476 := n5_; have GE476 := n6_; have NB465_476 := n7_; have NB476_465 := n8_; have NB466_476 := n9_; have NB476_466 := n10_; have NB467_476 := n11_; have NB476_467 := n12_; clear n0_ n1_ n2_ n3_ n4_ n5_ n6_ n7_ n8_ n9_ n10_ n11_ n12_ hb hbox hg
                   refine hK.out _ _ ⟨(blk_cell BK466.out 0).trans rfl, (blk_cell BK466.out 1).trans rfl, (blk_cell BK466.out 2).trans rfl, (blk_cell BK466.out 3).trans rfl, (blk_cell BK466.out 4).trans rfl, (blk_cell BK466.out 5).trans rfl, (blk_cell BK465.out 0).trans rfl, (blk_cell BK465.out 1).trans rfl, (blk_cell BK465.out 2).trans rfl, (blk_cell BK465.out 3).trans rfl, (blk_cell BK465.out 4).trans rfl, (blk_cell BK465.out 5).trans rfl⟩ (fun hHeld => ?_)
                   clear hK K
                   refine norm_ (a' := ?_) ?_ ?_
                   rotate_left
                   ·
                    show Act.put _ (some 6) _ = _
                    simp only [apz, i64_w, i32_w]
                    rfl
                   exact norm_ (by first | (simp only [putAll, apz]; done) | (simp only [putAll, apz]; rfl)) (hJ59 (gb476) _ ⟨hHeld, (bq BK465.out), (bq BK466.out), (bq BK467.out), (bq BK476.out), GW476.out, GE476.out, NB465_476.out, NB476_465.out, NB466_476.out, NB476_466.out, NB467_476.out, NB476_467.out, (wq HB.out)⟩)
                 ·
                  skip
                  rintro gb476 w35 ⟨hS_, h0_, h1_, h2_, h3_, h4_, h5_, h6_, h7_, h8_, h9_, h10_, h11_, h12_⟩
                  have n0_ : Aside0 (w35.heap[gb465]? = some (.cells #[.int .i64 a0_0, .int .i64 a0_1, .int .i64 a0_2, .int .i64 a0_3, .int .i64 a0_4, .int .i64 a0_5] 23 (0, 0))) := ⟨h0_⟩
                  have n1_ : Aside0 (w35.heap[gb466]? = some (.cells #[.int .i64 a1_0, .int .i64 a1_1, .int .i64 a1_2, .int .i64 a1_3, .int .i64 a1_4, .int .i64 a1_5] 23 (0, 0))) := ⟨h1_⟩
                  have n2_ : Aside0 (w35.heap[gb467]? = some (.cells #[.int .i64 0, .int .i64 0, .int .i64 0, .int .i64 0, .int .i64 0, .int .i64 0] 23 (0, 0))) := ⟨h2_⟩
                  have n3_ : Aside0 (w35.heap[gb476]? = some (.cells #[.int .i64 0, .int .i64 0, .int .i64 0, .int .i64 0, .int .i64 0, .int .i64 0] 23 (0, 0))) := ⟨h3_⟩
                  have n4_ : Aside0 (w.heap.size ≤ gb476) := ⟨h4_⟩
                  have n5_ : Aside0 (w.heap.size ≤ gb476) := ⟨h5_⟩
                  have n6_ : Aside0 (gb465 ≠ gb476) := ⟨h6_⟩
                  have n7_ : Aside0 (gb476 ≠ gb465) := ⟨h7_⟩
                  have n8_ : Aside0 (gb466 ≠ gb476) := ⟨h8_⟩
                  have n9_ : Aside0 (gb476 ≠ gb466) := ⟨h9_⟩
                  have n10_ : Aside0 (gb467 ≠ gb476) := ⟨h10_⟩
                  have n11_ : Aside0 (gb476 ≠ gb467) := ⟨h11_⟩
                  have n12_ : Aside0 (Below w.heap.size w w35) := ⟨h12_⟩
                  clear BK465 BK466 BK467 HB; clear h0_ h1_ h2_ h3_ h4_ h5_ h6_ h7_ h8_ h9_ h10_ h11_ h12_; have BK465 := n0_; have BK466 := n1_; have BK467 := n2_; have BK476 := n3_; have GW476 := n4_; have GE476 := n5_; have NB465_476 := n6_; have NB476_465 := n7_; have NB466_476 := n8_; have NB476_466 := n9_; have NB467_476 := n10_; have NB476_467 := n11_; have HB := n12_; clear n0_ n1_ n2_ n3_ n4_ n5_ n6_ n7_ n8_ n9_ n10_ n11_ n12_
                  have hHeld : w35.cell? ⟨gb466, 0, none⟩ = some (.int .i64 a1_0) ∧ w35.cell? ⟨gb466, 1, none⟩ = some (.int .i64 a1_1) ∧ w35.cell? ⟨gb466, 2, none⟩ = some (.int .i64 a1_2) ∧ w35.cell? ⟨gb466, 3, none⟩ = some (.int .i64 a1_3) ∧ w35.cell? ⟨gb466, 4, none⟩ = some (.int .i64 a1_4) ∧ w35.cell? ⟨gb466, 5, none⟩ = some (.int .i64 a1_5) ∧ w35.cell? ⟨gb465, 0, none⟩ = some (.int .i64 a0_0) ∧ w35.cell? ⟨gb465, 1, none⟩ = some (.int .i64 a0_1) ∧ w35.cell? ⟨gb465, 2, none⟩ = some (.int .i64 a0_2) ∧ w35.cell? ⟨gb465, 3, none⟩ = some (.int .i64 a0_3) ∧ w35.cell? ⟨gb465, 4, none⟩ = some (.int .i64 a0_4) ∧ w35.cell? ⟨gb465, 5, none⟩ = some (.int .i64 a0_5) := hS_
                  refine norm_ (a' := ?_) ?_ ?_
                  rotate_left
                  ·
                   simp only [putAll, apz]
                   rfl
                  refine one_ (i := 8) (N := some 24) (bm 61 720505537208123391) rfl rfl (one_of HT_.out (by kernel_rfl)) (by decide) (fun K hK => ?_)
                  refine goes_ Tryd.func22 (by kernel_rfl) rfl #[.int .i64 a1_0, .int .i64 a0_0, .int .i64 a1_2, .int .i64 a0_1, .int .i64 0] (by rfl) rfl rfl (by (try simp only [List.map_toArray, List.map_cons, List.map_nil]); first | done | rfl | (simp only [List.length_drop, List.length_take]; rfl)) ?_
                  with_reducible refine (pointillistref08_sum.calls kj2 a1_0 a0_0 a1_2 a0_1 0 t470 _ A25.out).mono ?_
                  rintro e w36 ⟨rfl, hb⟩
                  refine ⟨_, rfl, ?_⟩
                  have n0_ := Aside0.mk (blk_below (bq BK465.out) hb)
                  have n1_ := Aside0.mk (blk_below (bq BK466.out) hb)
                  have n2_ := Aside0.mk (blk_below (bq BK467.out) hb)
                  have n3_ := Aside0.mk (blk_below (bq BK476.out) hb)
                  have n4_ := Aside0.mk (below_step (wq HB.out) hb)
                  clear BK465 BK466 BK467 BK476; clear HB; have BK465 := n0_; have BK466 := n1_; have BK467 := n2_; have BK476 := n3_; have HB := n4_; clear n0_ n1_ n2_ n3_ n4_
                  (try clear hb)
                  (try clear hb2)
                  (try clear hk)
                  (try clear hi)
                  refine hK.out _ _ ⟨(blk_cell BK466.out 0).trans rfl, (blk_cell BK466.out 1).trans rfl, (blk_cell BK466.out 2).trans rfl, (blk_cell BK466.out 3).trans rfl, (blk_cell BK466.out 4).trans rfl, (blk_cell BK466.out 5).trans rfl, (blk_cell BK465.out 0).trans rfl, (blk_cell BK465.out 1).trans rfl, (blk_cell BK465.out 2).trans rfl, (blk_cell BK465.out 3).trans rfl, (blk_cell BK465.out 4).trans rfl, (blk_cell BK465.out 5).trans rfl⟩ (fun hHeld => ?_)
                  clear hK K
                  refine norm_ (a' := ?_) ?_ ?_
                  rotate_left
                  ·
                   show Act.put _ (some 24) _ = _
                   simp only [apz, i64_w, i32_w]
                   rfl
                  exact norm_ (by first | (simp only [putAll, apz]; done) | (simp only [putAll, apz]; rfl)) (hJ8_59 (gb476) _ ⟨hHeld, (bq BK465.out), (bq BK466.out), (bq BK467.out), (bq BK476.out), GW476.out, GE476.out, NB465_476.out, NB476_465.out, NB466_476.out, NB476_466.out, NB467_476.out, NB476_467.out, (wq HB.out)⟩)
                ·
                 skip
                 rintro _ w35 ⟨hS_, h0_, h1_, h2_, h3_⟩
                 have n0_ : Aside0 (w35.heap[gb465]? = some (.cells #[.int .i64 a0_0, .int .i64 a0_1, .int .i64 a0_2, .int .i64 a0_3, .int .i64 a0_4, .int .i64 a0_5] 23 (0, 0))) := ⟨h0_⟩
                 have n1_ : Aside0 (w35.heap[gb466]? = some (.cells #[.int .i64 a1_0, .int .i64 a1_1, .int .i64 a1_2, .int .i64 a1_3, .int .i64 a1_4, .int .i64 a1_5] 23 (0, 0))) := ⟨h1_⟩
                 have n2_ : Aside0 (w35.heap[gb467]? = some (.cells #[.int .i64 0, .int .i64 0, .int .i64 0, .int .i64 0, .int .i64 0, .int .i64 0] 23 (0, 0))) := ⟨h2_⟩
                 have n3_ : Aside0 (Below w.heap.size w w35) := ⟨h3_⟩
                 clear BK465 BK466 BK467 HB; clear h0_ h1_ h2_ h3_; have BK465 := n0_; have BK466 := n1_; have BK467 := n2_; have HB := n3_; clear n0_ n1_ n2_ n3_
                 have hHeld : w35.cell? ⟨gb466, 0, none⟩ = some (.int .i64 a1_0) ∧ w35.cell? ⟨gb466, 1, none⟩ = some (.int .i64 a1_1) ∧ w35.cell? ⟨gb466, 2, none⟩ = some (.int .i64 a1_2) ∧ w35.cell? ⟨gb466, 3, none⟩ = some (.int .i64 a1_3) ∧ w35.cell? ⟨gb466, 4, none⟩ = some (.int .i64 a1_4) ∧ w35.cell? ⟨gb466, 5, none⟩ = some (.int .i64 a1_5) ∧ w35.cell? ⟨gb465, 0, none⟩ = some (.int .i64 a0_0) ∧ w35.cell? ⟨gb465, 1, none⟩ = some (.int .i64 a0_1) ∧ w35.cell? ⟨gb465, 2, none⟩ = some (.int .i64 a0_2) ∧ w35.cell? ⟨gb465, 3, none⟩ = some (.int .i64 a0_3) ∧ w35.cell? ⟨gb465, 4, none⟩ = some (.int .i64 a0_4) ∧ w35.cell? ⟨gb465, 5, none⟩ = some (.int .i64 a0_5) := hS_
                 refine norm_ (a' := ?_) ?_ ?_
                 rotate_left
                 ·
                  simp only [putAll, apz]
                  rfl
                 refine two_ (i := 17) (j := 59) (Ni := some 33) (Nj := some 6) (bm 61 144044784904830975) (bm 61 720505537208123391) rfl rfl rfl rfl (two_of HT_.out (by kernel_rfl)) (by decide) (by decide) (fun K hK => ?_) (fun K hK => ?_)
                 ·
                  skip
                  refine goes_ Tryd.func22 (by kernel_rfl) rfl #[.int .i64 a1_1, .int .i64 a0_0, .int .i64 a1_3, .int .i64 a0_1, .int .i64 0] (by rfl) rfl rfl (by (try simp only [List.map_toArray, List.map_cons, List.map_nil]); first | done | rfl | (simp only [List.length_drop, List.length_take]; rfl)) ?_
                  with_reducible refine (pointillistref08_sum.calls kj2 a1_1 a0_0 a1_3 a0_1 0 t471 _ A26.out).mono ?_
                  rintro e w36 ⟨rfl, hb⟩
                  refine ⟨_, rfl, ?_⟩
                  have n0_ := Aside0.mk (blk_below (bq BK465.out) hb)
                  have n1_ := Aside0.mk (blk_below (bq BK466.out) hb)
                  have n2_ := Aside0.mk (blk_below (bq BK467.out) hb)
                  have n3_ := Aside0.mk (below_step (wq HB.out) hb)
                  clear BK465 BK466 BK467 HB; have BK465 := n0_; have BK466 := n1_; have BK467 := n2_; have HB := n3_; clear n0_ n1_ n2_ n3_
                  (try clear hb)
                  (try clear hb2)
                  (try clear hk)
                  (try clear hi)
                  refine hK.out _ _ ⟨(blk_cell BK466.out 0).trans rfl, (blk_cell BK466.out 1).trans rfl, (blk_cell BK466.out 2).trans rfl, (blk_cell BK466.out 3).trans rfl, (blk_cell BK466.out 4).trans rfl, (blk_cell BK466.out 5).trans rfl, (blk_cell BK465.out 0).trans rfl, (blk_cell BK465.out 1).trans rfl, (blk_cell BK465.out 2).trans rfl, (blk_cell BK465.out 3).trans rfl, (blk_cell BK465.out 4).trans rfl, (blk_cell BK465.out 5).trans rfl⟩ (fun hHeld => ?_)
                  clear hK K
                  refine norm_ (a' := ?_) ?_ ?_
                  rotate_left
                  ·
                   show Act.put _ (some 33) _ = _
                   simp only [apz, i64_w, i32_w]
                   rfl
                  exact norm_ (by first | (simp only [putAll, apz]; done) | (simp only [putAll, apz]; rfl)) (hJ8_17 () _ ⟨hHeld, (bq BK465.out), (bq BK466.out), (bq BK467.out), (wq HB.out)⟩)
                 ·
                  skip
                  refine box_step ?hg (N := 6) ?hd (cs := #[.int .i64 0, .int .i64 0, .int .i64 0, .int .i64 0, .int .i64 0, .int .i64 0]) (t := 23) ?hr ?_; (case hd => rfl); (case hg => rfl); (case hr => first | (go_simp; done) | (go_simp; rfl))
                  intro gb476 hg w36 hbox hb
                  have n0_ := Aside0.mk (blk_below (bq BK465.out) hb)
                  have n1_ := Aside0.mk (blk_below (bq BK466.out) hb)
                  have n2_ := Aside0.mk (blk_below (bq BK467.out) hb)
                  have n3_ := Aside0.mk (below_step (wq HB.out) hb)
                  have n4_ := Aside0.mk (hbox)
                  have n5_ := Aside0.mk ((by rw [hg]; exact (below_size (wq HB.out)) : w.heap.size ≤ gb476))
                  have n6_ := Aside0.mk ((by rw [hg]; exact (below_size (wq HB.out)) : w.heap.size ≤ gb476))
                  have n7_ := Aside0.mk ((by rw [hg]; exact Nat.ne_of_lt (blk_lt (bq BK465.out)) : gb465 ≠ gb476))
                  have n8_ := Aside0.mk ((by rw [hg]; exact Nat.ne_of_gt (blk_lt (bq BK465.out)) : gb476 ≠ gb465))
                  have n9_ := Aside0.mk ((by rw [hg]; exact Nat.ne_of_lt (blk_lt (bq BK466.out)) : gb466 ≠ gb476))
                  have n10_ := Aside0.mk ((by rw [hg]; exact Nat.ne_of_gt (blk_lt (bq BK466.out)) : gb476 ≠ gb466))
                  have n11_ := Aside0.mk ((by rw [hg]; exact Nat.ne_of_lt (blk_lt (bq BK467.out)) : gb467 ≠ gb476))
                  have n12_ := Aside0.mk ((by rw [hg]; exact Nat.ne_of_gt (blk_lt (bq BK467.out)) : gb476 ≠ gb467))
                  clear BK465 BK466 BK467 HB; have BK465 := n0_; have BK466 := n1_; have BK467 := n2_; have HB := n3_; have BK476 := n4_; have GW476 := n5_; have GE476 := n6_; have NB465_476 := n7_; have NB476_465 := n8_; have NB466_476 := n9_; have NB476_466 := n10_; have NB467_476 := n11_; have NB476_467 := n12_; clear n0_ n1_ n2_ n3_ n4_ n5_ n6_ n7_ n8_ n9_ n10_ n11_ n12_ hb hbox hg
                  refine hK.out _ _ ⟨(blk_cell BK466.out 0).trans rfl, (blk_cell BK466.out 1).trans rfl, (blk_cell BK466.out 2).trans rfl, (blk_cell BK466.out 3).trans rfl, (blk_cell BK466.out 4).trans rfl, (blk_cell BK466.out 5).trans rfl, (blk_cell BK465.out 0).trans rfl, (blk_cell BK465.out 1).trans rfl, (blk_cell BK465.out 2).trans rfl, (blk_cell BK465.out 3).trans rfl, (blk_cell BK465.out 4).trans rfl, (blk_cell BK465.out 5).trans rfl⟩ (fun hHeld => ?_)
                  clear hK K
                  refine norm_ (a' := ?_) ?_ ?_
                  rotate_left
                  ·
                   show Act.put _ (some 6) _ = _
                   simp only [apz, i64_w, i32_w]
                   rfl
                  exact norm_ (by first | (simp only [putAll, apz]; done) | (simp only [putAll, apz]; rfl)) (hJ8_59 (gb476) _ ⟨hHeld, (bq BK465.out), (bq BK466.out), (bq BK467.out), (bq BK476.out), GW476.out, GE476.out, NB465_476.out, NB476_465.out, NB466_476.out, NB476_466.out, NB467_476.out, NB476_467.out, (wq HB.out)⟩)
               ·
                skip
                rintro gb476 w36 ⟨hS_, h0_, h1_, h2_, h3_, h4_, h5_, h6_, h7_, h8_, h9_, h10_, h11_, h12_⟩
                have n0_ : Aside0 (w36.heap[gb465]? = some (.cells #[.int .i64 a0_0, .int .i64 a0_1, .int .i64 a0_2, .int .i64 a0_3, .int .i64 a0_4, .int .i64 a0_5] 23 (0, 0))) := ⟨h0_⟩
                have n1_ : Aside0 (w36.heap[gb466]? = some (.cells #[.int .i64 a1_0, .int .i64 a1_1, .int .i64 a1_2, .int .i64 a1_3, .int .i64 a1_4, .int .i64 a1_5] 23 (0, 0))) := ⟨h1_⟩
                have n2_ : Aside0 (w36.heap[gb467]? = some (.cells #[.int .i64 0, .int .i64 0, .int .i64 0, .int .i64 0, .int .i64 0, .int .i64 0] 23 (0, 0))) := ⟨h2_⟩
                have n3_ : Aside0 (w36.heap[gb476]? = some (.cells #[.int .i64 0, .int .i64 0, .int .i64 0, .int .i64 0, .int .i64 0, .int .i64 0] 23 (0, 0))) := ⟨h3_⟩
                have n4_ : Aside0 (w.heap.size ≤ gb476) := ⟨h4_⟩
                have n5_ : Aside0 (w.heap.size ≤ gb476) := ⟨h5_⟩
                have n6_ : Aside0 (gb465 ≠ gb476) := ⟨h6_⟩
                have n7_ : Aside0 (gb476 ≠ gb465) := ⟨h7_⟩
                have n8_ : Aside0 (gb466 ≠ gb476) := ⟨h8_⟩
                have n9_ : Aside0 (gb476 ≠ gb466) := ⟨h9_⟩
                have n10_ : Aside0 (gb467 ≠ gb476) := ⟨h10_⟩
                have n11_ : Aside0 (gb476 ≠ gb467) := ⟨h11_⟩
                have n12_ : Aside0 (Below w.heap.size w w36) := ⟨h12_⟩
                clear BK465 BK466 BK467 HB; clear h0_ h1_ h2_ h3_ h4_ h5_ h6_ h7_ h8_ h9_ h10_ h11_ h12_; have BK465 := n0_; have BK466 := n1_; have BK467 := n2_; have BK476 := n3_; have GW476 := n4_; have GE476 := n5_; have NB465_476 := n6_; have NB476_465 := n7_; have NB466_476 := n8_; have NB476_466 := n9_; have NB467_476 := n10_; have NB476_467 := n11_; have HB := n12_; clear n0_ n1_ n2_ n3_ n4_ n5_ n6_ n7_ n8_ n9_ n10_ n11_ n12_
                have hHeld : w36.cell? ⟨gb466, 0, none⟩ = some (.int .i64 a1_0) ∧ w36.cell? ⟨gb466, 1, none⟩ = some (.int .i64 a1_1) ∧ w36.cell? ⟨gb466, 2, none⟩ = some (.int .i64 a1_2) ∧ w36.cell? ⟨gb466, 3, none⟩ = some (.int .i64 a1_3) ∧ w36.cell? ⟨gb466, 4, none⟩ = some (.int .i64 a1_4) ∧ w36.cell? ⟨gb466, 5, none⟩ = some (.int .i64 a1_5) ∧ w36.cell? ⟨gb465, 0, none⟩ = some (.int .i64 a0_0) ∧ w36.cell? ⟨gb465, 1, none⟩ = some (.int .i64 a0_1) ∧ w36.cell? ⟨gb465, 2, none⟩ = some (.int .i64 a0_2) ∧ w36.cell? ⟨gb465, 3, none⟩ = some (.int .i64 a0_3) ∧ w36.cell? ⟨gb465, 4, none⟩ = some (.int .i64 a0_4) ∧ w36.cell? ⟨gb465, 5, none⟩ = some (.int .i64 a0_5) := hS_
                refine norm_ (a' := ?_) ?_ ?_
                rotate_left
                ·
                 simp only [putAll, apz]
                 rfl
                refine one_ (i := 17) (N := some 33) (bm 61 720505537208254463) rfl rfl (one_of HT_.out (by kernel_rfl)) (by decide) (fun K hK => ?_)
                refine goes_ Tryd.func22 (by kernel_rfl) rfl #[.int .i64 a1_1, .int .i64 a0_0, .int .i64 a1_3, .int .i64 a0_1, .int .i64 0] (by rfl) rfl rfl (by (try simp only [List.map_toArray, List.map_cons, List.map_nil]); first | done | rfl | (simp only [List.length_drop, List.length_take]; rfl)) ?_
                with_reducible refine (pointillistref08_sum.calls kj2 a1_1 a0_0 a1_3 a0_1 0 t471 _ A26.out).mono ?_
                rintro e w37 ⟨rfl, hb⟩
                refine ⟨_, rfl, ?_⟩
                have n0_ := Aside0.mk (blk_below (bq BK465.out) hb)
                have n1_ := Aside0.mk (blk_below (bq BK466.out) hb)
                have n2_ := Aside0.mk (blk_below (bq BK467.out) hb)
                have n3_ := Aside0.mk (blk_below (bq BK476.out) hb)
                have n4_ := Aside0.mk (below_step (wq HB.out) hb)
                clear BK465 BK466 BK467 BK476; clear HB; have BK465 := n0_; have BK466 := n1_; have BK467 := n2_; have BK476 := n3_; have HB := n4_; clear n0_ n1_ n2_ n3_ n4_
                (try clear hb)
                (try clear hb2)
                (try clear hk)
                (try clear hi)
                refine hK.out _ _ ⟨(blk_cell BK466.out 0).trans rfl, (blk_cell BK466.out 1).trans rfl, (blk_cell BK466.out 2).trans rfl, (blk_cell BK466.out 3).trans rfl, (blk_cell BK466.out 4).trans rfl, (blk_cell BK466.out 5).trans rfl, (blk_cell BK465.out 0).trans rfl, (blk_cell BK465.out 1).trans rfl, (blk_cell BK465.out 2).trans rfl, (blk_cell BK465.out 3).trans rfl, (blk_cell BK465.out 4).trans rfl, (blk_cell BK465.out 5).trans rfl⟩ (fun hHeld => ?_)
                clear hK K
                refine norm_ (a' := ?_) ?_ ?_
                rotate_left
                ·
                 show Act.put _ (some 33) _ = _
                 simp only [apz, i64_w, i32_w]
                 rfl
                exact norm_ (by first | (simp only [putAll, apz]; done) | (simp only [putAll, apz]; rfl)) (hJ8_17_59 (gb476) _ ⟨hHeld, (bq BK465.out), (bq BK466.out), (bq BK467.out), (bq BK476.out), GW476.out, GE476.out, NB465_476.out, NB476_465.out, NB466_476.out, NB476_466.out, NB467_476.out, NB476_467.out, (wq HB.out)⟩)
              ·
               skip
               rintro _ w36 ⟨hS_, h0_, h1_, h2_, h3_⟩
               have n0_ : Aside0 (w36.heap[gb465]? = some (.cells #[.int .i64 a0_0, .int .i64 a0_1, .int .i64 a0_2, .int .i64 a0_3, .int .i64 a0_4, .int .i64 a0_5] 23 (0, 0))) := ⟨h0_⟩
               have n1_ : Aside0 (w36.heap[gb466]? = some (.cells #[.int .i64 a1_0, .int .i64 a1_1, .int .i64 a1_2, .int .i64 a1_3, .int .i64 a1_4, .int .i64 a1_5] 23 (0, 0))) := ⟨h1_⟩
               have n2_ : Aside0 (w36.heap[gb467]? = some (.cells #[.int .i64 0, .int .i64 0, .int .i64 0, .int .i64 0, .int .i64 0, .int .i64 0] 23 (0, 0))) := ⟨h2_⟩
               have n3_ : Aside0 (Below w.heap.size w w36) := ⟨h3_⟩
               clear BK465 BK466 BK467 HB; clear h0_ h1_ h2_ h3_; have BK465 := n0_; have BK466 := n1_; have BK467 := n2_; have HB := n3_; clear n0_ n1_ n2_ n3_
               have hHeld : w36.cell? ⟨gb466, 0, none⟩ = some (.int .i64 a1_0) ∧ w36.cell? ⟨gb466, 1, none⟩ = some (.int .i64 a1_1) ∧ w36.cell? ⟨gb466, 2, none⟩ = some (.int .i64 a1_2) ∧ w36.cell? ⟨gb466, 3, none⟩ = some (.int .i64 a1_3) ∧ w36.cell? ⟨gb466, 4, none⟩ = some (.int .i64 a1_4) ∧ w36.cell? ⟨gb466, 5, none⟩ = some (.int .i64 a1_5) ∧ w36.cell? ⟨gb465, 0, none⟩ = some (.int .i64 a0_0) ∧ w36.cell? ⟨gb465, 1, none⟩ = some (.int .i64 a0_1) ∧ w36.cell? ⟨gb465, 2, none⟩ = some (.int .i64 a0_2) ∧ w36.cell? ⟨gb465, 3, none⟩ = some (.int .i64 a0_3) ∧ w36.cell? ⟨gb465, 4, none⟩ = some (.int .i64 a0_4) ∧ w36.cell? ⟨gb465, 5, none⟩ = some (.int .i64 a0_5) := hS_
               refine norm_ (a' := ?_) ?_ ?_
               rotate_left
               ·
                simp only [putAll, apz]
                rfl
               refine two_ (i := 26) (j := 59) (Ni := some 42) (Nj := some 6) (bm 61 144044784971939839) (bm 61 720505537208254463) rfl rfl rfl rfl (two_of HT_.out (by kernel_rfl)) (by decide) (by decide) (fun K hK => ?_) (fun K hK => ?_)
               ·
                skip
                refine goes_ Tryd.func22 (by kernel_rfl) rfl #[.int .i64 a1_0, .int .i64 a0_2, .int .i64 a1_2, .int .i64 a0_3, .int .i64 0] (by rfl) rfl rfl (by (try simp only [List.map_toArray, List.map_cons, List.map_nil]); first | done | rfl | (simp only [List.length_drop, List.length_take]; rfl)) ?_
                with_reducible refine (pointillistref08_sum.calls kj2 a1_0 a0_2 a1_2 a0_3 0 t472 _ A27.out).mono ?_
                rintro e w37 ⟨rfl, hb⟩
                refine ⟨_, rfl, ?_⟩
                have n0_ := Aside0.mk (blk_below (bq BK465.out) hb)
                have n1_ := Aside0.mk (blk_below (bq BK466.out) hb)
                have n2_ := Aside0.mk (blk_below (bq BK467.out) hb)
                have n3_ := Aside0.mk (below_step (wq HB.out) hb)
                clear BK465 BK466 BK467 HB; have BK465 := n0_; have BK466 := n1_; have BK467 := n2_; have HB := n3_; clear n0_ n1_ n2_ n3_
                (try clear hb)
                (try clear hb2)
                (try clear hk)
                (try clear hi)
                refine hK.out _ _ ⟨(blk_cell BK466.out 0).trans rfl, (blk_cell BK466.out 1).trans rfl, (blk_cell BK466.out 2).trans rfl, (blk_cell BK466.out 3).trans rfl, (blk_cell BK466.out 4).trans rfl, (blk_cell BK466.out 5).trans rfl, (blk_cell BK465.out 0).trans rfl, (blk_cell BK465.out 1).trans rfl, (blk_cell BK465.out 2).trans rfl, (blk_cell BK465.out 3).trans rfl, (blk_cell BK465.out 4).trans rfl, (blk_cell BK465.out 5).trans rfl⟩ (fun hHeld => ?_)
                clear hK K
                refine norm_ (a' := ?_) ?_ ?_
                rotate_left
                ·
                 show Act.put _ (some 42) _ = _
                 simp only [apz, i64_w, i32_w]
                 rfl
                exact norm_ (by first | (simp only [putAll, apz]; done) | (simp only [putAll, apz]; rfl)) (hJ8_17_26 () _ ⟨hHeld, (bq BK465.out), (bq BK466.out), (bq BK467.out), (wq HB.out)⟩)
               ·
                skip
                refine box_step ?hg (N := 6) ?hd (cs := #[.int .i64 0, .int .i64 0, .int .i64 0, .int .i64 0, .int .i64 0, .int .i64 0]) (t := 23) ?hr ?_; (case hd => rfl); (case hg => rfl); (case hr => first | (go_simp; done) | (go_simp; rfl))
                intro gb476 hg w37 hbox hb
                have n0_ := Aside0.mk (blk_below (bq BK465.out) hb)
                have n1_ := Aside0.mk (blk_below (bq BK466.out) hb)
                have n2_ := Aside0.mk (blk_below (bq BK467.out) hb)
                have n3_ := Aside0.mk (below_step (wq HB.out) hb)
                have n4_ := Aside0.mk (hbox)
                have n5_ := Aside0.mk ((by rw [hg]; exact (below_size (wq HB.out)) : w.heap.size ≤ gb476))
                have n6_ := Aside0.mk ((by rw [hg]; exact (below_size (wq HB.out)) : w.heap.size ≤ gb476))
                have n7_ := Aside0.mk ((by rw [hg]; exact Nat.ne_of_lt (blk_lt (bq BK465.out)) : gb465 ≠ gb476))
                have n8_ := Aside0.mk ((by rw [hg]; exact Nat.ne_of_gt (blk_lt (bq BK465.out)) : gb476 ≠ gb465))
                have n9_ := Aside0.mk ((by rw [hg]; exact Nat.ne_of_lt (blk_lt (bq BK466.out)) : gb466 ≠ gb476))
                have n10_ := Aside0.mk ((by rw [hg]; exact Nat.ne_of_gt (blk_lt (bq BK466.out)) : gb476 ≠ gb466))
                have n11_ := Aside0.mk ((by rw [hg]; exact Nat.ne_of_lt (blk_lt (bq BK467.out)) : gb467 ≠ gb476))
                have n12_ := Aside0.mk ((by rw [hg]; exact Nat.ne_of_gt (blk_lt (bq BK467.out)) : gb476 ≠ gb467))
                clear BK465 BK466 BK467 HB; have BK465 := n0_; have BK466 := n1_; have BK467 := n2_; have HB := n3_; have BK476 := n4_; have GW476 := n5_; have GE476 := n6_; have NB465_476 := n7_; have NB476_465 := n8_; have NB466_476 := n9_; have NB476_466 := n10_; have NB467_476 := n11_; have NB476_467 := n12_; clear n0_ n1_ n2_ n3_ n4_ n5_ n6_ n7_ n8_ n9_ n10_ n11_ n12_ hb hbox hg
                refine hK.out _ _ ⟨(blk_cell BK466.out 0).trans rfl, (blk_cell BK466.out 1).trans rfl, (blk_cell BK466.out 2).trans rfl, (blk_cell BK466.out 3).trans rfl, (blk_cell BK466.out 4).trans rfl, (blk_cell BK466.out 5).trans rfl, (blk_cell BK465.out 0).trans rfl, (blk_cell BK465.out 1).trans rfl, (blk_cell BK465.out 2).trans rfl, (blk_cell BK465.out 3).trans rfl, (blk_cell BK465.out 4).trans rfl, (blk_cell BK465.out 5).trans rfl⟩ (fun hHeld => ?_)
                clear hK K
                refine norm_ (a' := ?_) ?_ ?_
                rotate_left
                ·
                 show Act.put _ (some 6) _ = _
                 simp only [apz, i64_w, i32_w]
                 rfl
                exact norm_ (by first | (simp only [putAll, apz]; done) | (simp only [putAll, apz]; rfl)) (hJ8_17_59 (gb476) _ ⟨hHeld, (bq BK465.out), (bq BK466.out), (bq BK467.out), (bq BK476.out), GW476.out, GE476.out, NB465_476.out, NB476_465.out, NB466_476.out, NB476_466.out, NB467_476.out, NB476_467.out, (wq HB.out)⟩)
             ·
              skip
              rintro gb476 w37 ⟨hS_, h0_, h1_, h2_, h3_, h4_, h5_, h6_, h7_, h8_, h9_, h10_, h11_, h12_⟩
              have n0_ : Aside0 (w37.heap[gb465]? = some (.cells #[.int .i64 a0_0, .int .i64 a0_1, .int .i64 a0_2, .int .i64 a0_3, .int .i64 a0_4, .int .i64 a0_5] 23 (0, 0))) := ⟨h0_⟩
              have n1_ : Aside0 (w37.heap[gb466]? = some (.cells #[.int .i64 a1_0, .int .i64 a1_1, .int .i64 a1_2, .int .i64 a1_3, .int .i64 a1_4, .int .i64 a1_5] 23 (0, 0))) := ⟨h1_⟩
              have n2_ : Aside0 (w37.heap[gb467]? = some (.cells #[.int .i64 0, .int .i64 0, .int .i64 0, .int .i64 0, .int .i64 0, .int .i64 0] 23 (0, 0))) := ⟨h2_⟩
              have n3_ : Aside0 (w37.heap[gb476]? = some (.cells #[.int .i64 0, .int .i64 0, .int .i64 0, .int .i64 0, .int .i64 0, .int .i64 0] 23 (0, 0))) := ⟨h3_⟩
              have n4_ : Aside0 (w.heap.size ≤ gb476) := ⟨h4_⟩
              have n5_ : Aside0 (w.heap.size ≤ gb476) := ⟨h5_⟩
              have n6_ : Aside0 (gb465 ≠ gb476) := ⟨h6_⟩
              have n7_ : Aside0 (gb476 ≠ gb465) := ⟨h7_⟩
              have n8_ : Aside0 (gb466 ≠ gb476) := ⟨h8_⟩
              have n9_ : Aside0 (gb476 ≠ gb466) := ⟨h9_⟩
              have n10_ : Aside0 (gb467 ≠ gb476) := ⟨h10_⟩
              have n11_ : Aside0 (gb476 ≠ gb467) := ⟨h11_⟩
              have n12_ : Aside0 (Below w.heap.size w w37) := ⟨h12_⟩
              clear BK465 BK466 BK467 HB; clear h0_ h1_ h2_ h3_ h4_ h5_ h6_ h7_ h8_ h9_ h10_ h11_ h12_; have BK465 := n0_; have BK466 := n1_; have BK467 := n2_; have BK476 := n3_; have GW476 := n4_; have GE476 := n5_; have NB465_476 := n6_; have NB476_465 := n7_; have NB466_476 := n8_; have NB476_466 := n9_; have NB467_476 := n10_; have NB476_467 := n11_; have HB := n12_; clear n0_ n1_ n2_ n3_ n4_ n5_ n6_ n7_ n8_ n9_ n10_ n11_ n12_
              have hHeld : w37.cell? ⟨gb466, 0, none⟩ = some (.int .i64 a1_0) ∧ w37.cell? ⟨gb466, 1, none⟩ = some (.int .i64 a1_1) ∧ w37.cell? ⟨gb466, 2, none⟩ = some (.int .i64 a1_2) ∧ w37.cell? ⟨gb466, 3, none⟩ = some (.int .i64 a1_3) ∧ w37.cell? ⟨gb466, 4, none⟩ = some (.int .i64 a1_4) ∧ w37.cell? ⟨gb466, 5, none⟩ = some (.int .i64 a1_5) ∧ w37.cell? ⟨gb465, 0, none⟩ = some (.int .i64 a0_0) ∧ w37.cell? ⟨gb465, 1, none⟩ = some (.int .i64 a0_1) ∧ w37.cell? ⟨gb465, 2, none⟩ = some (.int .i64 a0_2) ∧ w37.cell? ⟨gb465, 3, none⟩ = some (.int .i64 a0_3) ∧ w37.cell? ⟨gb465, 4, none⟩ = some (.int .i64 a0_4) ∧ w37.cell? ⟨gb465, 5, none⟩ = some (.int .i64 a0_5) := hS_
              refine norm_ (a' := ?_) ?_ ?_
              rotate_left
              ·
               simp only [putAll, apz]
               rfl
              refine one_ (i := 26) (N := some 42) (bm 61 720505537275363327) rfl rfl (one_of HT_.out (by kernel_rfl)) (by decide) (fun K hK => ?_)
              refine goes_ Tryd.func22 (by kernel_rfl) rfl #[.int .i64 a1_0, .int .i64 a0_2, .int .i64 a1_2, .int .i64 a0_3, .int .i64 0] (by rfl) rfl rfl (by (try simp only [List.map_toArray, List.map_cons, List.map_nil]); first | done | rfl | (simp only [List.length_drop, List.length_take]; rfl)) ?_
              with_reducible refine (pointillistref08_sum.calls kj2 a1_0 a0_2 a1_2 a0_3 0 t472 _ A27.out).mono ?_
              rintro e w38 ⟨rfl, hb⟩
              refine ⟨_, rfl, ?_⟩
              have n0_ := Aside0.mk (blk_below (bq BK465.out) hb)
              have n1_ := Aside0.mk (blk_below (bq BK466.out) hb)
              have n2_ := Aside0.mk (blk_below (bq BK467.out) hb)
              have n3_ := Aside0.mk (blk_below (bq BK476.out) hb)
              have n4_ := Aside0.mk (below_step (wq HB.out) hb)
              clear BK465 BK466 BK467 BK476; clear HB; have BK465 := n0_; have BK466 := n1_; have BK467 := n2_; have BK476 := n3_; have HB := n4_; clear n0_ n1_ n2_ n3_ n4_
              (try clear hb)
              (try clear hb2)
              (try clear hk)
              (try clear hi)
              refine hK.out _ _ ⟨(blk_cell BK466.out 0).trans rfl, (blk_cell BK466.out 1).trans rfl, (blk_cell BK466.out 2).trans rfl, (blk_cell BK466.out 3).trans rfl, (blk_cell BK466.out 4).trans rfl, (blk_cell BK466.out 5).trans rfl, (blk_cell BK465.out 0).trans rfl, (blk_cell BK465.out 1).trans rfl, (blk_cell BK465.out 2).trans rfl, (blk_cell BK465.out 3).trans rfl, (blk_cell BK465.out 4).trans rfl, (blk_cell BK465.out 5).trans rfl⟩ (fun hHeld => ?_)
              clear hK K
              refine norm_ (a' := ?_) ?_ ?_
              rotate_left
              ·
               show Act.put _ (some 42) _ = _
               simp only [apz, i64_w, i32_w]
               rfl
              exact norm_ (by first | (simp only [putAll, apz]; done) | (simp only [putAll, apz]; rfl)) (hJ8_17_26_59 (gb476) _ ⟨hHeld, (bq BK465.out), (bq BK466.out), (bq BK467.out), (bq BK476.out), GW476.out, GE476.out, NB465_476.out, NB476_465.out, NB466_476.out, NB476_466.out, NB467_476.out, NB476_467.out, (wq HB.out)⟩)
            ·
             skip
             rintro _ w37 ⟨hS_, h0_, h1_, h2_, h3_⟩
             have n0_ : Aside0 (w37.heap[gb465]? = some (.cells #[.int .i64 a0_0, .int .i64 a0_1, .int .i64 a0_2, .int .i64 a0_3, .int .i64 a0_4, .int .i64 a0_5] 23 (0, 0))) := ⟨h0_⟩
             have n1_ : Aside0 (w37.heap[gb466]? = some (.cells #[.int .i64 a1_0, .int .i64 a1_1, .int .i64 a1_2, .int .i64 a1_3, .int .i64 a1_4, .int .i64 a1_5] 23 (0, 0))) := ⟨h1_⟩
             have n2_ : Aside0 (w37.heap[gb467]? = some (.cells #[.int .i64 0, .int .i64 0, .int .i64 0, .int .i64 0, .int .i64 0, .int .i64 0] 23 (0, 0))) := ⟨h2_⟩
             have n3_ : Aside0 (Below w.heap.size w w37) := ⟨h3_⟩
             clear BK465 BK466 BK467 HB; clear h0_ h1_ h2_ h3_; have BK465 := n0_; have BK466 := n1_; have BK467 := n2_; have HB := n3_; clear n0_ n1_ n2_ n3_
             have hHeld : w37.cell? ⟨gb466, 0, none⟩ = some (.int .i64 a1_0) ∧ w37.cell? ⟨gb466, 1, none⟩ = some (.int .i64 a1_1) ∧ w37.cell? ⟨gb466, 2, none⟩ = some (.int .i64 a1_2) ∧ w37.cell? ⟨gb466, 3, none⟩ = some (.int .i64 a1_3) ∧ w37.cell? ⟨gb466, 4, none⟩ = some (.int .i64 a1_4) ∧ w37.cell? ⟨gb466, 5, none⟩ = some (.int .i64 a1_5) ∧ w37.cell? ⟨gb465, 0, none⟩ = some (.int .i64 a0_0) ∧ w37.cell? ⟨gb465, 1, none⟩ = some (.int .i64 a0_1) ∧ w37.cell? ⟨gb465, 2, none⟩ = some (.int .i64 a0_2) ∧ w37.cell? ⟨gb465, 3, none⟩ = some (.int .i64 a0_3) ∧ w37.cell? ⟨gb465, 4, none⟩ = some (.int .i64 a0_4) ∧ w37.cell? ⟨gb465, 5, none⟩ = some (.int .i64 a0_5) := hS_
             refine norm_ (a' := ?_) ?_ ?_
             rotate_left
             ·
              simp only [putAll, apz]
              rfl
             refine two_ (i := 35) (j := 59) (Ni := some 51) (Nj := some 6) (bm 61 144044819331678207) (bm 61 720505537275363327) rfl rfl rfl rfl (two_of HT_.out (by kernel_rfl)) (by decide) (by decide) (fun K hK => ?_) (fun K hK => ?_)
             ·
              skip
              refine goes_ Tryd.func22 (by kernel_rfl) rfl #[.int .i64 a1_1, .int .i64 a0_2, .int .i64 a1_3, .int .i64 a0_3, .int .i64 0] (by rfl) rfl rfl (by (try simp only [List.map_toArray, List.map_cons, List.map_nil]); first | done | rfl | (simp only [List.length_drop, List.length_take]; rfl)) ?_
              with_reducible refine (pointillistref08_sum.calls kj2 a1_1 a0_2 a1_3 a0_3 0 t473 _ A28.out).mono ?_
              rintro e w38 ⟨rfl, hb⟩
              refine ⟨_, rfl, ?_⟩
              have n0_ := Aside0.mk (blk_below (bq BK465.out) hb)
              have n1_ := Aside0.mk (blk_below (bq BK466.out) hb)
              have n2_ := Aside0.mk (blk_below (bq BK467.out) hb)
              have n3_ := Aside0.mk (below_step (wq HB.out) hb)
              clear BK465 BK466 BK467 HB; have BK465 := n0_; have BK466 := n1_; have BK467 := n2_; have HB := n3_; clear n0_ n1_ n2_ n3_
              (try clear hb)
              (try clear hb2)
              (try clear hk)
              (try clear hi)
              refine hK.out _ _ ⟨(blk_cell BK466.out 0).trans rfl, (blk_cell BK466.out 1).trans rfl, (blk_cell BK466.out 2).trans rfl, (blk_cell BK466.out 3).trans rfl, (blk_cell BK466.out 4).trans rfl, (blk_cell BK466.out 5).trans rfl, (blk_cell BK465.out 0).trans rfl, (blk_cell BK465.out 1).trans rfl, (blk_cell BK465.out 2).trans rfl, (blk_cell BK465.out 3).trans rfl, (blk_cell BK465.out 4).trans rfl, (blk_cell BK465.out 5).trans rfl⟩ (fun hHeld => ?_)
              clear hK K
              refine norm_ (a' := ?_) ?_ ?_
              rotate_left
              ·
               show Act.put _ (some 51) _ = _
               simp only [apz, i64_w, i32_w]
               rfl
              exact norm_ (by first | (simp only [putAll, apz]; done) | (simp only [putAll, apz]; rfl)) (hJ8_17_26_35 () _ ⟨hHeld, (bq BK465.out), (bq BK466.out), (bq BK467.out), (wq HB.out)⟩)
             ·
              skip
              refine box_step ?hg (N := 6) ?hd (cs := #[.int .i64 0, .int .i64 0, .int .i64 0, .int .i64 0, .int .i64 0, .int .i64 0]) (t := 23) ?hr ?_; (case hd => rfl); (case hg => rfl); (case hr => first | (go_simp; done) | (go_simp; rfl))
              intro gb476 hg w38 hbox hb
              have n0_ := Aside0.mk (blk_below (bq BK465.out) hb)
              have n1_ := Aside0.mk (blk_below (bq BK466.out) hb)
              have n2_ := Aside0.mk (blk_below (bq BK467.out) hb)
              have n3_ := Aside0.mk (below_step (wq HB.out) hb)
              have n4_ := Aside0.mk (hbox)
              have n5_ := Aside0.mk ((by rw [hg]; exact (below_size (wq HB.out)) : w.heap.size ≤ gb476))
              have n6_ := Aside0.mk ((by rw [hg]; exact (below_size (wq HB.out)) : w.heap.size ≤ gb476))
              have n7_ := Aside0.mk ((by rw [hg]; exact Nat.ne_of_lt (blk_lt (bq BK465.out)) : gb465 ≠ gb476))
              have n8_ := Aside0.mk ((by rw [hg]; exact Nat.ne_of_gt (blk_lt (bq BK465.out)) : gb476 ≠ gb465))
              have n9_ := Aside0.mk ((by rw [hg]; exact Nat.ne_of_lt (blk_lt (bq BK466.out)) : gb466 ≠ gb476))
              have n10_ := Aside0.mk ((by rw [hg]; exact Nat.ne_of_gt (blk_lt (bq BK466.out)) : gb476 ≠ gb466))
              have n11_ := Aside0.mk ((by rw [hg]; exact Nat.ne_of_lt (blk_lt (bq BK467.out)) : gb467 ≠ gb476))
              have n12_ := Aside0.mk ((by rw [hg]; exact Nat.ne_of_gt (blk_lt (bq BK467.out)) : gb476 ≠ gb467))
              clear BK465 BK466 BK467 HB; have BK465 := n0_; have BK466 := n1_; have BK467 := n2_; have HB := n3_; have BK476 := n4_; have GW476 := n5_; have GE476 := n6_; have NB465_476 := n7_; have NB476_465 := n8_; have NB466_476 := n9_; have NB476_466 := n10_; have NB467_476 := n11_; have NB476_467 := n12_; clear n0_ n1_ n2_ n3_ n4_ n5_ n6_ n7_ n8_ n9_ n10_ n11_ n12_ hb hbox hg
              refine hK.out _ _ ⟨(blk_cell BK466.out 0).trans rfl, (blk_cell BK466.out 1).trans rfl, (blk_cell BK466.out 2).trans rfl, (blk_cell BK466.out 3).trans rfl, (blk_cell BK466.out 4).trans rfl, (blk_cell BK466.out 5).trans rfl, (blk_cell BK465.out 0).trans rfl, (blk_cell BK465.out 1).trans rfl, (blk_cell BK465.out 2).trans rfl, (blk_cell BK465.out 3).trans rfl, (blk_cell BK465.out 4).trans rfl, (blk_cell BK465.out 5).trans rfl⟩ (fun hHeld => ?_)
              clear hK K
              refine norm_ (a' := ?_) ?_ ?_
              rotate_left
              ·
               show Act.put _ (some 6) _ = _
               simp only [apz, i64_w, i32_w]
               rfl
              exact norm_ (by first | (simp only [putAll, apz]; done) | (simp only [putAll, apz]; rfl)) (hJ8_17_26_59 (gb476) _ ⟨hHeld, (bq BK465.out), (bq BK466.out), (bq BK467.out), (bq BK476.out), GW476.out, GE476.out, NB465_476.out, NB476_465.out, NB466_476.out, NB476_466.out, NB467_476.out, NB476_467.out, (wq HB.out)⟩)
           ·
            skip
            rintro gb476 w38 ⟨hS_, h0_, h1_, h2_, h3_, h4_, h5_, h6_, h7_, h8_, h9_, h10_, h11_, h12_⟩
            have n0_ : Aside0 (w38.heap[gb465]? = some (.cells #[.int .i64 a0_0, .int .i64 a0_1, .int .i64 a0_2, .int .i64 a0_3, .int .i64 a0_4, .int .i64 a0_5] 23 (0, 0))) := ⟨h0_⟩
            have n1_ : Aside0 (w38.heap[gb466]? = some (.cells #[.int .i64 a1_0, .int .i64 a1_1, .int .i64 a1_2, .int .i64 a1_3, .int .i64 a1_4, .int .i64 a1_5] 23 (0, 0))) := ⟨h1_⟩
            have n2_ : Aside0 (w38.heap[gb467]? = some (.cells #[.int .i64 0, .int .i64 0, .int .i64 0, .int .i64 0, .int .i64 0, .int .i64 0] 23 (0, 0))) := ⟨h2_⟩
            have n3_ : Aside0 (w38.heap[gb476]? = some (.cells #[.int .i64 0, .int .i64 0, .int .i64 0, .int .i64 0, .int .i64 0, .int .i64 0] 23 (0, 0))) := ⟨h3_⟩
            have n4_ : Aside0 (w.heap.size ≤ gb476) := ⟨h4_⟩
            have n5_ : Aside0 (w.heap.size ≤ gb476) := ⟨h5_⟩
            have n6_ : Aside0 (gb465 ≠ gb476) := ⟨h6_⟩
            have n7_ : Aside0 (gb476 ≠ gb465) := ⟨h7_⟩
            have n8_ : Aside0 (gb466 ≠ gb476) := ⟨h8_⟩
            have n9_ : Aside0 (gb476 ≠ gb466) := ⟨h9_⟩
            have n10_ : Aside0 (gb467 ≠ gb476) := ⟨h10_⟩
            have n11_ : Aside0 (gb476 ≠ gb467) := ⟨h11_⟩
            have n12_ : Aside0 (Below w.heap.size w w38) := ⟨h12_⟩
            clear BK465 BK466 BK467 HB; clear h0_ h1_ h2_ h3_ h4_ h5_ h6_ h7_ h8_ h9_ h10_ h11_ h12_; have BK465 := n0_; have BK466 := n1_; have BK467 := n2_; have BK476 := n3_; have GW476 := n4_; have GE476 := n5_; have NB465_476 := n6_; have NB476_465 := n7_; have NB466_476 := n8_; have NB476_466 := n9_; have NB467_476 := n10_; have NB476_467 := n11_; have HB := n12_; clear n0_ n1_ n2_ n3_ n4_ n5_ n6_ n7_ n8_ n9_ n10_ n11_ n12_
            have hHeld : w38.cell? ⟨gb466, 0, none⟩ = some (.int .i64 a1_0) ∧ w38.cell? ⟨gb466, 1, none⟩ = some (.int .i64 a1_1) ∧ w38.cell? ⟨gb466, 2, none⟩ = some (.int .i64 a1_2) ∧ w38.cell? ⟨gb466, 3, none⟩ = some (.int .i64 a1_3) ∧ w38.cell? ⟨gb466, 4, none⟩ = some (.int .i64 a1_4) ∧ w38.cell? ⟨gb466, 5, none⟩ = some (.int .i64 a1_5) ∧ w38.cell? ⟨gb465, 0, none⟩ = some (.int .i64 a0_0) ∧ w38.cell? ⟨gb465, 1, none⟩ = some (.int .i64 a0_1) ∧ w38.cell? ⟨gb465, 2, none⟩ = some (.int .i64 a0_2) ∧ w38.cell? ⟨gb465, 3, none⟩ = some (.int .i64 a0_3) ∧ w38.cell? ⟨gb465, 4, none⟩ = some (.int .i64 a0_4) ∧ w38.cell? ⟨gb465, 5, none⟩ = some (.int .i64 a0_5) := hS_
            refine norm_ (a' := ?_) ?_ ?_
            rotate_left
            ·
             simp only [putAll, apz]
             rfl
            refine one_ (i := 35) (N := some 51) (bm 61 720505571635101695) rfl rfl (one_of HT_.out (by kernel_rfl)) (by decide) (fun K hK => ?_)
            refine goes_ Tryd.func22 (by kernel_rfl) rfl #[.int .i64 a1_1, .int .i64 a0_2, .int .i64 a1_3, .int .i64 a0_3, .int .i64 0] (by rfl) rfl rfl (by (try simp only [List.map_toArray, List.map_cons, List.map_nil]); first | done | rfl | (simp only [List.length_drop, List.length_take]; rfl)) ?_
            with_reducible refine (pointillistref08_sum.calls kj2 a1_1 a0_2 a1_3 a0_3 0 t473 _ A28.out).mono ?_
            rintro e w39 ⟨rfl, hb⟩
            refine ⟨_, rfl, ?_⟩
            have n0_ := Aside0.mk (blk_below (bq BK465.out) hb)
            have n1_ := Aside0.mk (blk_below (bq BK466.out) hb)
            have n2_ := Aside0.mk (blk_below (bq BK467.out) hb)
            have n3_ := Aside0.mk (blk_below (bq BK476.out) hb)
            have n4_ := Aside0.mk (below_step (wq HB.out) hb)
            clear BK465 BK466 BK467 BK476; clear HB; have BK465 := n0_; have BK466 := n1_; have BK467 := n2_; have BK476 := n3_; have HB := n4_; clear n0_ n1_ n2_ n3_ n4_
            (try clear hb)
            (try clear hb2)
            (try clear hk)
            (try clear hi)
            refine hK.out _ _ ⟨(blk_cell BK466.out 0).trans rfl, (blk_cell BK466.out 1).trans rfl, (blk_cell BK466.out 2).trans rfl, (blk_cell BK466.out 3).trans rfl, (blk_cell BK466.out 4).trans rfl, (blk_cell BK466.out 5).trans rfl, (blk_cell BK465.out 0).trans rfl, (blk_cell BK465.out 1).trans rfl, (blk_cell BK465.out 2).trans rfl, (blk_cell BK465.out 3).trans rfl, (blk_cell BK465.out 4).trans rfl, (blk_cell BK465.out 5).trans rfl⟩ (fun hHeld => ?_)
            clear hK K
            refine norm_ (a' := ?_) ?_ ?_
            rotate_left
            ·
             show Act.put _ (some 51) _ = _
             simp only [apz, i64_w, i32_w]
             rfl
            exact norm_ (by first | (simp only [putAll, apz]; done) | (simp only [putAll, apz]; rfl)) (hJ8_17_26_35_59 (gb476) _ ⟨hHeld, (bq BK465.out), (bq BK466.out), (bq BK467.out), (bq BK476.out), GW476.out, GE476.out, NB465_476.out, NB476_465.out, NB466_476.out, NB476_466.out, NB467_476.out, NB476_467.out, (wq HB.out)⟩)
          ·
           skip
           rintro _ w38 ⟨hS_, h0_, h1_, h2_, h3_⟩
           have n0_ : Aside0 (w38.heap[gb465]? = some (.cells #[.int .i64 a0_0, .int .i64 a0_1, .int .i64 a0_2, .int .i64 a0_3, .int .i64 a0_4, .int .i64 a0_5] 23 (0, 0))) := ⟨h0_⟩
           have n1_ : Aside0 (w38.heap[gb466]? = some (.cells #[.int .i64 a1_0, .int .i64 a1_1, .int .i64 a1_2, .int .i64 a1_3, .int .i64 a1_4, .int .i64 a1_5] 23 (0, 0))) := ⟨h1_⟩
           have n2_ : Aside0 (w38.heap[gb467]? = some (.cells #[.int .i64 0, .int .i64 0, .int .i64 0, .int .i64 0, .int .i64 0, .int .i64 0] 23 (0, 0))) := ⟨h2_⟩
           have n3_ : Aside0 (Below w.heap.size w w38) := ⟨h3_⟩
           clear BK465 BK466 BK467 HB; clear h0_ h1_ h2_ h3_; have BK465 := n0_; have BK466 := n1_; have BK467 := n2_; have HB := n3_; clear n0_ n1_ n2_ n3_
           have hHeld : w38.cell? ⟨gb466, 0, none⟩ = some (.int .i64 a1_0) ∧ w38.cell? ⟨gb466, 1, none⟩ = some (.int .i64 a1_1) ∧ w38.cell? ⟨gb466, 2, none⟩ = some (.int .i64 a1_2) ∧ w38.cell? ⟨gb466, 3, none⟩ = some (.int .i64 a1_3) ∧ w38.cell? ⟨gb466, 4, none⟩ = some (.int .i64 a1_4) ∧ w38.cell? ⟨gb466, 5, none⟩ = some (.int .i64 a1_5) ∧ w38.cell? ⟨gb465, 0, none⟩ = some (.int .i64 a0_0) ∧ w38.cell? ⟨gb465, 1, none⟩ = some (.int .i64 a0_1) ∧ w38.cell? ⟨gb465, 2, none⟩ = some (.int .i64 a0_2) ∧ w38.cell? ⟨gb465, 3, none⟩ = some (.int .i64 a0_3) ∧ w38.cell? ⟨gb465, 4, none⟩ = some (.int .i64 a0_4) ∧ w38.cell? ⟨gb465, 5, none⟩ = some (.int .i64 a0_5) := hS_
           refine norm_ (a' := ?_) ?_ ?_
           rotate_left
           ·
            simp only [putAll, apz]
            rfl
           refine two_ (i := 46) (j := 59) (Ni := some 62) (Nj := some 6) (bt 57 4) (bm 61 720505571635101695) rfl rfl rfl rfl (two_of HT_.out (by kernel_rfl)) (by decide) (by decide) (fun K hK => ?_) (fun K hK => ?_)
           ·
            skip
            refine goes_ Tryd.func22 (by kernel_rfl) rfl #[.int .i64 a1_0, .int .i64 a0_4, .int .i64 a1_2, .int .i64 a0_5, .int .i64 a1_4] (by rfl) rfl rfl (by (try simp only [List.map_toArray, List.map_cons, List.map_nil]); first | done | rfl | (simp only [List.length_drop, List.length_take]; rfl)) ?_
            with_reducible refine (pointillistref08_sum.calls kj2 a1_0 a0_4 a1_2 a0_5 a1_4 t474 _ A29.out).mono ?_
            rintro e w39 ⟨rfl, hb⟩
            refine ⟨_, rfl, ?_⟩
            have n0_ := Aside0.mk (blk_below (bq BK465.out) hb)
            have n1_ := Aside0.mk (blk_below (bq BK466.out) hb)
            have n2_ := Aside0.mk (blk_below (bq BK467.out) hb)
            have n3_ := Aside0.mk (below_step (wq HB.out) hb)
            clear BK465 BK466 BK467 HB; have BK465 := n0_; have BK466 := n1_; have BK467 := n2_; have HB := n3_; clear n0_ n1_ n2_ n3_
            (try clear hb)
            (try clear hb2)
            (try clear hk)
            (try clear hi)
            refine hK.out _ _ ⟨(blk_cell BK466.out 0).trans rfl, (blk_cell BK466.out 1).trans rfl, (blk_cell BK466.out 2).trans rfl, (blk_cell BK466.out 3).trans rfl, (blk_cell BK466.out 4).trans rfl, (blk_cell BK466.out 5).trans rfl, (blk_cell BK465.out 0).trans rfl, (blk_cell BK465.out 1).trans rfl, (blk_cell BK465.out 2).trans rfl, (blk_cell BK465.out 3).trans rfl, (blk_cell BK465.out 4).trans rfl, (blk_cell BK465.out 5).trans rfl⟩ (fun hHeld => ?_)
            clear hK K
            refine norm_ (a' := ?_) ?_ ?_
            rotate_left
            ·
             show Act.put _ (some 62) _ = _
             simp only [apz, i64_w, i32_w]
             rfl
            exact norm_ (by first | (simp only [putAll, apz]; done) | (simp only [putAll, apz]; rfl)) (hJ8_17_26_35_46 () _ ⟨hHeld, (bq BK465.out), (bq BK466.out), (bq BK467.out), (wq HB.out)⟩)
           ·
            skip
            refine box_step ?hg (N := 6) ?hd (cs := #[.int .i64 0, .int .i64 0, .int .i64 0, .int .i64 0, .int .i64 0, .int .i64 0]) (t := 23) ?hr ?_; (case hd => rfl); (case hg => rfl); (case hr => first | (go_simp; done) | (go_simp; rfl))
            intro gb476 hg w39 hbox hb
            have n0_ := Aside0.mk (blk_below (bq BK465.out) hb)
            have n1_ := Aside0.mk (blk_below (bq BK466.out) hb)
            have n2_ := Aside0.mk (blk_below (bq BK467.out) hb)
            have n3_ := Aside0.mk (below_step (wq HB.out) hb)
            have n4_ := Aside0.mk (hbox)
            have n5_ := Aside0.mk ((by rw [hg]; exact (below_size (wq HB.out)) : w.heap.size ≤ gb476))
            have n6_ := Aside0.mk ((by rw [hg]; exact (below_size (wq HB.out)) : w.heap.size ≤ gb476))
            have n7_ := Aside0.mk ((by rw [hg]; exact Nat.ne_of_lt (blk_lt (bq BK465.out)) : gb465 ≠ gb476))
            have n8_ := Aside0.mk ((by rw [hg]; exact Nat.ne_of_gt (blk_lt (bq BK465.out)) : gb476 ≠ gb465))
            have n9_ := Aside0.mk ((by rw [hg]; exact Nat.ne_of_lt (blk_lt (bq BK466.out)) : gb466 ≠ gb476))
            have n10_ := Aside0.mk ((by rw [hg]; exact Nat.ne_of_gt (blk_lt (bq BK466.out)) : gb476 ≠ gb466))
            have n11_ := Aside0.mk ((by rw [hg]; exact Nat.ne_of_lt (blk_lt (bq BK467.out)) : gb467 ≠ gb476))
            have n12_ := Aside0.mk ((by rw [hg]; exact Nat.ne_of_gt (blk_lt (bq BK467.out)) : gb476 ≠ gb467))
            clear BK465 BK466 BK467 HB; have BK465 := n0_; have BK466 := n1_; have BK467 := n2_; have HB := n3_; have BK476 := n4_; have GW476 := n5_; have GE476 := n6_; have NB465_476 := n7_; have NB476_465 := n8_; have NB466_476 := n9_; have NB476_466 := n10_; have NB467_476 := n11_; have NB476_467 := n12_; clear n0_ n1_ n2_ n3_ n4_ n5_ n6_ n7_ n8_ n9_ n10_ n11_ n12_ hb hbox hg
            refine hK.out _ _ ⟨(blk_cell BK466.out 0).trans rfl, (blk_cell BK466.out 1).trans rfl, (blk_cell BK466.out 2).trans rfl, (blk_cell BK466.out 3).trans rfl, (blk_cell BK466.out 4).trans rfl, (blk_cell BK466.out 5).trans rfl, (blk_cell BK465.out 0).trans rfl, (blk_cell BK465.out 1).trans rfl, (blk_cell BK465.out 2).trans rfl, (blk_cell BK465.out 3).trans rfl, (blk_cell BK465.out 4).trans rfl, (blk_cell BK465.out 5).trans rfl⟩ (fun hHeld => ?_)
            clear hK K
            refine norm_ (a' := ?_) ?_ ?_
            rotate_left
            ·
             show Act.put _ (some 6) _ = _
             simp only [apz, i64_w, i32_w]
             rfl
            exact norm_ (by first | (simp only [putAll, apz]; done) | (simp only [putAll, apz]; rfl)) (hJ8_17_26_35_59 (gb476) _ ⟨hHeld, (bq BK465.out), (bq BK466.out), (bq BK467.out), (bq BK476.out), GW476.out, GE476.out, NB465_476.out, NB476_465.out, NB466_476.out, NB476_466.out, NB467_476.out, NB476_467.out, (wq HB.out)⟩)
         ·
          skip
          rintro gb476 w39 ⟨hS_, h0_, h1_, h2_, h3_, h4_, h5_, h6_, h7_, h8_, h9_, h10_, h11_, h12_⟩
          have n0_ : Aside0 (w39.heap[gb465]? = some (.cells #[.int .i64 a0_0, .int .i64 a0_1, .int .i64 a0_2, .int .i64 a0_3, .int .i64 a0_4, .int .i64 a0_5] 23 (0, 0))) := ⟨h0_⟩
          have n1_ : Aside0 (w39.heap[gb466]? = some (.cells #[.int .i64 a1_0, .int .i64 a1_1, .int .i64 a1_2, .int .i64 a1_3, .int .i64 a1_4, .int .i64 a1_5] 23 (0, 0))) := ⟨h1_⟩
          have n2_ : Aside0 (w39.heap[gb467]? = some (.cells #[.int .i64 0, .int .i64 0, .int .i64 0, .int .i64 0, .int .i64 0, .int .i64 0] 23 (0, 0))) := ⟨h2_⟩
          have n3_ : Aside0 (w39.heap[gb476]? = some (.cells #[.int .i64 0, .int .i64 0, .int .i64 0, .int .i64 0, .int .i64 0, .int .i64 0] 23 (0, 0))) := ⟨h3_⟩
          have n4_ : Aside0 (w.heap.size ≤ gb476) := ⟨h4_⟩
          have n5_ : Aside0 (w.heap.size ≤ gb476) := ⟨h5_⟩
          have n6_ : Aside0 (gb465 ≠ gb476) := ⟨h6_⟩
          have n7_ : Aside0 (gb476 ≠ gb465) := ⟨h7_⟩
          have n8_ : Aside0 (gb466 ≠ gb476) := ⟨h8_⟩
          have n9_ : Aside0 (gb476 ≠ gb466) := ⟨h9_⟩
          have n10_ : Aside0 (gb467 ≠ gb476) := ⟨h10_⟩
          have n11_ : Aside0 (gb476 ≠ gb467) := ⟨h11_⟩
          have n12_ : Aside0 (Below w.heap.size w w39) := ⟨h12_⟩
          clear BK465 BK466 BK467 HB; clear h0_ h1_ h2_ h3_ h4_ h5_ h6_ h7_ h8_ h9_ h10_ h11_ h12_; have BK465 := n0_; have BK466 := n1_; have BK467 := n2_; have BK476 := n3_; have GW476 := n4_; have GE476 := n5_; have NB465_476 := n6_; have NB476_465 := n7_; have NB466_476 := n8_; have NB476_466 := n9_; have NB467_476 := n10_; have NB476_467 := n11_; have HB := n12_; clear n0_ n1_ n2_ n3_ n4_ n5_ n6_ n7_ n8_ n9_ n10_ n11_ n12_
          have hHeld : w39.cell? ⟨gb466, 0, none⟩ = some (.int .i64 a1_0) ∧ w39.cell? ⟨gb466, 1, none⟩ = some (.int .i64 a1_1) ∧ w39.cell? ⟨gb466, 2, none⟩ = some (.int .i64 a1_2) ∧ w39.cell? ⟨gb466, 3, none⟩ = some (.int .i64 a1_3) ∧ w39.cell? ⟨gb466, 4, none⟩ = some (.int .i64 a1_4) ∧ w39.cell? ⟨gb466, 5, none⟩ = some (.int .i64 a1_5) ∧ w39.cell? ⟨gb465, 0, none⟩ = some (.int .i64 a0_0) ∧ w39.cell? ⟨gb465, 1, none⟩ = some (.int .i64 a0_1) ∧ w39.cell? ⟨gb465, 2, none⟩ = some (.int .i64 a0_2) ∧ w39.cell? ⟨gb465, 3, none⟩ = some (.int .i64 a0_3) ∧ w39.cell? ⟨gb465, 4, none⟩ = some (.int .i64 a0_4) ∧ w39.cell? ⟨gb465, 5, none⟩ = some (.int .i64 a0_5) := hS_
          refine norm_ (a' := ?_) ?_ ?_
          rotate_left
          ·
           simp only [putAll, apz]
           rfl
          refine one_ (i := 46) (N := some 62) (bm 61 720575940379279359) rfl rfl (one_of HT_.out (by kernel_rfl)) (by decide) (fun K hK => ?_)
          refine goes_ Tryd.func22 (by kernel_rfl) rfl #[.int .i64 a1_0, .int .i64 a0_4, .int .i64 a1_2, .int .i64 a0_5, .int .i64 a1_4] (by rfl) rfl rfl (by (try simp only [List.map_toArray, List.map_cons, List.map_nil]); first | done | rfl | (simp only [List.length_drop, List.length_take]; rfl)) ?_
          with_reducible refine (pointillistref08_sum.calls kj2 a1_0 a0_4 a1_2 a0_5 a1_4 t474 _ A29.out).mono ?_
          rintro e w40 ⟨rfl, hb⟩
          refine ⟨_, rfl, ?_⟩
          have n0_ := Aside0.mk (blk_below (bq BK465.out) hb)
          have n1_ := Aside0.mk (blk_below (bq BK466.out) hb)
          have n2_ := Aside0.mk (blk_below (bq BK467.out) hb)
          have n3_ := Aside0.mk (blk_below (bq BK476.out) hb)
          have n4_ := Aside0.mk (below_step (wq HB.out) hb)
          clear BK465 BK466 BK467 BK476; clear HB; have BK465 := n0_; have BK466 := n1_; have BK467 := n2_; have BK476 := n3_; have HB := n4_; clear n0_ n1_ n2_ n3_ n4_
          (try clear hb)
          (try clear hb2)
          (try clear hk)
          (try clear hi)
          refine hK.out _ _ ⟨(blk_cell BK466.out 0).trans rfl, (blk_cell BK466.out 1).trans rfl, (blk_cell BK466.out 2).trans rfl, (blk_cell BK466.out 3).trans rfl, (blk_cell BK466.out 4).trans rfl, (blk_cell BK466.out 5).trans rfl, (blk_cell BK465.out 0).trans rfl, (blk_cell BK465.out 1).trans rfl, (blk_cell BK465.out 2).trans rfl, (blk_cell BK465.out 3).trans rfl, (blk_cell BK465.out 4).trans rfl, (blk_cell BK465.out 5).trans rfl⟩ (fun hHeld => ?_)
          clear hK K
          refine norm_ (a' := ?_) ?_ ?_
          rotate_left
          ·
           show Act.put _ (some 62) _ = _
           simp only [apz, i64_w, i32_w]
           rfl
          exact norm_ (by first | (simp only [putAll, apz]; done) | (simp only [putAll, apz]; rfl)) (hJ8_17_26_35_46_59 (gb476) _ ⟨hHeld, (bq BK465.out), (bq BK466.out), (bq BK467.out), (bq BK476.out), GW476.out, GE476.out, NB465_476.out, NB476_465.out, NB466_476.out, NB476_466.out, NB467_476.out, NB476_467.out, (wq HB.out)⟩)
        ·
         skip
         rintro _ w39 ⟨hS_, h0_, h1_, h2_, h3_⟩
         have n0_ : Aside0 (w39.heap[gb465]? = some (.cells #[.int .i64 a0_0, .int .i64 a0_1, .int .i64 a0_2, .int .i64 a0_3, .int .i64 a0_4, .int .i64 a0_5] 23 (0, 0))) := ⟨h0_⟩
         have n1_ : Aside0 (w39.heap[gb466]? = some (.cells #[.int .i64 a1_0, .int .i64 a1_1, .int .i64 a1_2, .int .i64 a1_3, .int .i64 a1_4, .int .i64 a1_5] 23 (0, 0))) := ⟨h1_⟩
         have n2_ : Aside0 (w39.heap[gb467]? = some (.cells #[.int .i64 0, .int .i64 0, .int .i64 0, .int .i64 0, .int .i64 0, .int .i64 0] 23 (0, 0))) := ⟨h2_⟩
         have n3_ : Aside0 (Below w.heap.size w w39) := ⟨h3_⟩
         clear BK465 BK466 BK467 HB; clear h0_ h1_ h2_ h3_; have BK465 := n0_; have BK466 := n1_; have BK467 := n2_; have HB := n3_; clear n0_ n1_ n2_ n3_
         have hHeld : w39.cell? ⟨gb466, 0, none⟩ = some (.int .i64 a1_0) ∧ w39.cell? ⟨gb466, 1, none⟩ = some (.int .i64 a1_1) ∧ w39.cell? ⟨gb466, 2, none⟩ = some (.int .i64 a1_2) ∧ w39.cell? ⟨gb466, 3, none⟩ = some (.int .i64 a1_3) ∧ w39.cell? ⟨gb466, 4, none⟩ = some (.int .i64 a1_4) ∧ w39.cell? ⟨gb466, 5, none⟩ = some (.int .i64 a1_5) ∧ w39.cell? ⟨gb465, 0, none⟩ = some (.int .i64 a0_0) ∧ w39.cell? ⟨gb465, 1, none⟩ = some (.int .i64 a0_1) ∧ w39.cell? ⟨gb465, 2, none⟩ = some (.int .i64 a0_2) ∧ w39.cell? ⟨gb465, 3, none⟩ = some (.int .i64 a0_3) ∧ w39.cell? ⟨gb465, 4, none⟩ = some (.int .i64 a0_4) ∧ w39.cell? ⟨gb465, 5, none⟩ = some (.int .i64 a0_5) := hS_
         refine norm_ (a' := ?_) ?_ ?_
         rotate_left
         ·
          simp only [putAll, apz]
          rfl
         refine two_ (i := 57) (j := 59) (Ni := some 73) (Nj := some 6) (bt 58 3) (bm 61 720575940379279359) rfl rfl rfl rfl (two_of HT_.out (by kernel_rfl)) (by decide) (by decide) (fun K hK => ?_) (fun K hK => ?_)
         ·
          skip
          refine goes_ Tryd.func22 (by kernel_rfl) rfl #[.int .i64 a1_1, .int .i64 a0_4, .int .i64 a1_3, .int .i64 a0_5, .int .i64 a1_5] (by rfl) rfl rfl (by (try simp only [List.map_toArray, List.map_cons, List.map_nil]); first | done | rfl | (simp only [List.length_drop, List.length_take]; rfl)) ?_
          with_reducible refine (pointillistref08_sum.calls kj2 a1_1 a0_4 a1_3 a0_5 a1_5 t475 _ A30.out).mono ?_
          rintro e w40 ⟨rfl, hb⟩
          refine ⟨_, rfl, ?_⟩
          have n0_ := Aside0.mk (blk_below (bq BK465.out) hb)
          have n1_ := Aside0.mk (blk_below (bq BK466.out) hb)
          have n2_ := Aside0.mk (blk_below (bq BK467.out) hb)
          have n3_ := Aside0.mk (below_step (wq HB.out) hb)
          clear BK465 BK466 BK467 HB; have BK465 := n0_; have BK466 := n1_; have BK467 := n2_; have HB := n3_; clear n0_ n1_ n2_ n3_
          (try clear hb)
          (try clear hb2)
          (try clear hk)
          (try clear hi)
          refine hK.out _ _ ⟨(blk_cell BK466.out 0).trans rfl, (blk_cell BK466.out 1).trans rfl, (blk_cell BK466.out 2).trans rfl, (blk_cell BK466.out 3).trans rfl, (blk_cell BK466.out 4).trans rfl, (blk_cell BK466.out 5).trans rfl, (blk_cell BK465.out 0).trans rfl, (blk_cell BK465.out 1).trans rfl, (blk_cell BK465.out 2).trans rfl, (blk_cell BK465.out 3).trans rfl, (blk_cell BK465.out 4).trans rfl, (blk_cell BK465.out 5).trans rfl⟩ (fun hHeld => ?_)
          clear hK K
          refine norm_ (a' := ?_) ?_ ?_
          rotate_left
          ·
           show Act.put _ (some 73) _ = _
           simp only [apz, i64_w, i32_w]
           rfl
          refine pure_ (i := 58) (N := some 74) (v := ?_) (a' := ?_) (bt 59 2) rfl rfl (any_of HT_.out (by kernel_rfl)) (fun _ _ _ h => h) (Or.inl ⟨by rfl, ?_⟩) ?_ ?_
          rotate_left; focus (intro w'; go_simp; with_reducible rfl)
          rotate_left; focus (simp only [apz, i64_w, i32_w]; rfl)
          exact norm_ (by first | (simp only [putAll, apz]; done) | (simp only [putAll, apz]; rfl)) (hJ8_17_26_35_46_57 () _ ⟨hHeld, (bq BK465.out), (bq BK466.out), (bq BK467.out), (wq HB.out)⟩)
         ·
          skip
          refine box_step ?hg (N := 6) ?hd (cs := #[.int .i64 0, .int .i64 0, .int .i64 0, .int .i64 0, .int .i64 0, .int .i64 0]) (t := 23) ?hr ?_; (case hd => rfl); (case hg => rfl); (case hr => first | (go_simp; done) | (go_simp; rfl))
          intro gb476 hg w40 hbox hb
          have n0_ := Aside0.mk (blk_below (bq BK465.out) hb)
          have n1_ := Aside0.mk (blk_below (bq BK466.out) hb)
          have n2_ := Aside0.mk (blk_below (bq BK467.out) hb)
          have n3_ := Aside0.mk (below_step (wq HB.out) hb)
          have n4_ := Aside0.mk (hbox)
          have n5_ := Aside0.mk ((by rw [hg]; exact (below_size (wq HB.out)) : w.heap.size ≤ gb476))
          have n6_ := Aside0.mk ((by rw [hg]; exact (below_size (wq HB.out)) : w.heap.size ≤ gb476))
          have n7_ := Aside0.mk ((by rw [hg]; exact Nat.ne_of_lt (blk_lt (bq BK465.out)) : gb465 ≠ gb476))
          have n8_ := Aside0.mk ((by rw [hg]; exact Nat.ne_of_gt (blk_lt (bq BK465.out)) : gb476 ≠ gb465))
          have n9_ := Aside0.mk ((by rw [hg]; exact Nat.ne_of_lt (blk_lt (bq BK466.out)) : gb466 ≠ gb476))
          have n10_ := Aside0.mk ((by rw [hg]; exact Nat.ne_of_gt (blk_lt (bq BK466.out)) : gb476 ≠ gb466))
          have n11_ := Aside0.mk ((by rw [hg]; exact Nat.ne_of_lt (blk_lt (bq BK467.out)) : gb467 ≠ gb476))
          have n12_ := Aside0.mk ((by rw [hg]; exact Nat.ne_of_gt (blk_lt (bq BK467.out)) : gb476 ≠ gb467))
          clear BK465 BK466 BK467 HB; have BK465 := n0_; have BK466 := n1_; have BK467 := n2_; have HB := n3_; have BK476 := n4_; have GW476 := n5_; have GE476 := n6_; have NB465_476 := n7_; have NB476_465 := n8_; have NB466_476 := n9_; have NB476_466 := n10_; have NB467_476 := n11_; have NB476_467 := n12_; clear n0_ n1_ n2_ n3_ n4_ n5_ n6_ n7_ n8_ n9_ n10_ n11_ n12_ hb hbox hg
          refine hK.out _ _ ⟨(blk_cell BK466.out 0).trans rfl, (blk_cell BK466.out 1).trans rfl, (blk_cell BK466.out 2).trans rfl, (blk_cell BK466.out 3).trans rfl, (blk_cell BK466.out 4).trans rfl, (blk_cell BK466.out 5).trans rfl, (blk_cell BK465.out 0).trans rfl, (blk_cell BK465.out 1).trans rfl, (blk_cell BK465.out 2).trans rfl, (blk_cell BK465.out 3).trans rfl, (blk_cell BK465.out 4).trans rfl, (blk_cell BK465.out 5).trans rfl⟩ (fun hHeld => ?_)
          clear hK K
          refine norm_ (a' := ?_) ?_ ?_
          rotate_left
          ·
           show Act.put _ (some 6) _ = _
           simp only [apz, i64_w, i32_w]
           rfl
          exact norm_ (by first | (simp only [putAll, apz]; done) | (simp only [putAll, apz]; rfl)) (hJ8_17_26_35_46_59 (gb476) _ ⟨hHeld, (bq BK465.out), (bq BK466.out), (bq BK467.out), (bq BK476.out), GW476.out, GE476.out, NB465_476.out, NB476_465.out, NB466_476.out, NB476_466.out, NB467_476.out, NB476_467.out, (wq HB.out)⟩)
       ·
        skip
        rintro gb476 w40 ⟨hS_, h0_, h1_, h2_, h3_, h4_, h5_, h6_, h7_, h8_, h9_, h10_, h11_, h12_⟩
        have n0_ : Aside0 (w40.heap[gb465]? = some (.cells #[.int .i64 a0_0, .int .i64 a0_1, .int .i64 a0_2, .int .i64 a0_3, .int .i64 a0_4, .int .i64 a0_5] 23 (0, 0))) := ⟨h0_⟩
        have n1_ : Aside0 (w40.heap[gb466]? = some (.cells #[.int .i64 a1_0, .int .i64 a1_1, .int .i64 a1_2, .int .i64 a1_3, .int .i64 a1_4, .int .i64 a1_5] 23 (0, 0))) := ⟨h1_⟩
        have n2_ : Aside0 (w40.heap[gb467]? = some (.cells #[.int .i64 0, .int .i64 0, .int .i64 0, .int .i64 0, .int .i64 0, .int .i64 0] 23 (0, 0))) := ⟨h2_⟩
        have n3_ : Aside0 (w40.heap[gb476]? = some (.cells #[.int .i64 0, .int .i64 0, .int .i64 0, .int .i64 0, .int .i64 0, .int .i64 0] 23 (0, 0))) := ⟨h3_⟩
        have n4_ : Aside0 (w.heap.size ≤ gb476) := ⟨h4_⟩
        have n5_ : Aside0 (w.heap.size ≤ gb476) := ⟨h5_⟩
        have n6_ : Aside0 (gb465 ≠ gb476) := ⟨h6_⟩
        have n7_ : Aside0 (gb476 ≠ gb465) := ⟨h7_⟩
        have n8_ : Aside0 (gb466 ≠ gb476) := ⟨h8_⟩
        have n9_ : Aside0 (gb476 ≠ gb466) := ⟨h9_⟩
        have n10_ : Aside0 (gb467 ≠ gb476) := ⟨h10_⟩
        have n11_ : Aside0 (gb476 ≠ gb467) := ⟨h11_⟩
        have n12_ : Aside0 (Below w.heap.size w w40) := ⟨h12_⟩
        clear BK465 BK466 BK467 HB; clear h0_ h1_ h2_ h3_ h4_ h5_ h6_ h7_ h8_ h9_ h10_ h11_ h12_; have BK465 := n0_; have BK466 := n1_; have BK467 := n2_; have BK476 := n3_; have GW476 := n4_; have GE476 := n5_; have NB465_476 := n6_; have NB476_465 := n7_; have NB466_476 := n8_; have NB476_466 := n9_; have NB467_476 := n10_; have NB476_467 := n11_; have HB := n12_; clear n0_ n1_ n2_ n3_ n4_ n5_ n6_ n7_ n8_ n9_ n10_ n11_ n12_
        have hHeld : w40.cell? ⟨gb466, 0, none⟩ = some (.int .i64 a1_0) ∧ w40.cell? ⟨gb466, 1, none⟩ = some (.int .i64 a1_1) ∧ w40.cell? ⟨gb466, 2, none⟩ = some (.int .i64 a1_2) ∧ w40.cell? ⟨gb466, 3, none⟩ = some (.int .i64 a1_3) ∧ w40.cell? ⟨gb466, 4, none⟩ = some (.int .i64 a1_4) ∧ w40.cell? ⟨gb466, 5, none⟩ = some (.int .i64 a1_5) ∧ w40.cell? ⟨gb465, 0, none⟩ = some (.int .i64 a0_0) ∧ w40.cell? ⟨gb465, 1, none⟩ = some (.int .i64 a0_1) ∧ w40.cell? ⟨gb465, 2, none⟩ = some (.int .i64 a0_2) ∧ w40.cell? ⟨gb465, 3, none⟩ = some (.int .i64 a0_3) ∧ w40.cell? ⟨gb465, 4, none⟩ = some (.int .i64 a0_4) ∧ w40.cell? ⟨gb465, 5, none⟩ = some (.int .i64 a0_5) := hS_
        refine norm_ (a' := ?_) ?_ ?_
        rotate_left
        ·
         simp only [putAll, apz]
         rfl
        refine one_ (i := 57) (N := some 73) (bm 61 864691128455135231) rfl rfl (one_of HT_.out (by kernel_rfl)) (by decide) (fun K hK => ?_)
        refine goes_ Tryd.func22 (by kernel_rfl) rfl #[.int .i64 a1_1, .int .i64 a0_4, .int .i64 a1_3, .int .i64 a0_5, .int .i64 a1_5] (by rfl) rfl rfl (by (try simp only [List.map_toArray, List.map_cons, List.map_nil]); first | done | rfl | (simp only [List.length_drop, List.length_take]; rfl)) ?_
        with_reducible refine (pointillistref08_sum.calls kj2 a1_1 a0_4 a1_3 a0_5 a1_5 t475 _ A30.out).mono ?_
        rintro e w41 ⟨rfl, hb⟩
        refine ⟨_, rfl, ?_⟩
        have n0_ := Aside0.mk (blk_below (bq BK465.out) hb)
        have n1_ := Aside0.mk (blk_below (bq BK466.out) hb)
        have n2_ := Aside0.mk (blk_below (bq BK467.out) hb)
        have n3_ := Aside0.mk (blk_below (bq BK476.out) hb)
        have n4_ := Aside0.mk (below_step (wq HB.out) hb)
        clear BK465 BK466 BK467 BK476; clear HB; have BK465 := n0_; have BK466 := n1_; have BK467 := n2_; have BK476 := n3_; have HB := n4_; clear n0_ n1_ n2_ n3_ n4_
        (try clear hb)
        (try clear hb2)
        (try clear hk)
        (try clear hi)
        refine hK.out _ _ ⟨(blk_cell BK466.out 0).trans rfl, (blk_cell BK466.out 1).trans rfl, (blk_cell BK466.out 2).trans rfl, (blk_cell BK466.out 3).trans rfl, (blk_cell BK466.out 4).trans rfl, (blk_cell BK466.out 5).trans rfl, (blk_cell BK465.out 0).trans rfl, (blk_cell BK465.out 1).trans rfl, (blk_cell BK465.out 2).trans rfl, (blk_cell BK465.out 3).trans rfl, (blk_cell BK465.out 4).trans rfl, (blk_cell BK465.out 5).trans rfl⟩ (fun hHeld => ?_)
        clear hK K
        refine norm_ (a' := ?_) ?_ ?_
        rotate_left
        ·
         show Act.put _ (some 73) _ = _
         simp only [apz, i64_w, i32_w]
         rfl
        refine pure_ (i := 58) (N := some 74) (v := ?_) (a' := ?_) (bt 60 1) rfl rfl (any_of HT_.out (by kernel_rfl)) (fun _ _ _ h => h) (Or.inl ⟨by rfl, ?_⟩) ?_ ?_
        rotate_left; focus (intro w'; go_simp; with_reducible rfl)
        rotate_left; focus (simp only [apz, i64_w, i32_w]; rfl)
        exact norm_ (by first | (simp only [putAll, apz]; done) | (simp only [putAll, apz]; rfl)) (hJ8_17_26_35_46_57_59 (gb476) _ ⟨hHeld, (bq BK465.out), (bq BK466.out), (bq BK467.out), (bq BK476.out), GW476.out, GE476.out, NB465_476.out, NB476_465.out, NB466_476.out, NB476_466.out, NB467_476.out, NB476_467.out, (wq HB.out)⟩)
      ·
       skip
       rintro _ w40 ⟨hS_, h0_, h1_, h2_, h3_⟩
       have n0_ : Aside0 (w40.heap[gb465]? = some (.cells #[.int .i64 a0_0, .int .i64 a0_1, .int .i64 a0_2, .int .i64 a0_3, .int .i64 a0_4, .int .i64 a0_5] 23 (0, 0))) := ⟨h0_⟩
       have n1_ : Aside0 (w40.heap[gb466]? = some (.cells #[.int .i64 a1_0, .int .i64 a1_1, .int .i64 a1_2, .int .i64 a1_3, .int .i64 a1_4, .int .i64 a1_5] 23 (0, 0))) := ⟨h1_⟩
       have n2_ : Aside0 (w40.heap[gb467]? = some (.cells #[.int .i64 0, .int .i64 0, .int .i64 0, .int .i64 0, .int .i64 0, .int .i64 0] 23 (0, 0))) := ⟨h2_⟩
       have n3_ : Aside0 (Below w.heap.size w w40) := ⟨h3_⟩
       clear BK465 BK466 BK467 HB; clear h0_ h1_ h2_ h3_; have BK465 := n0_; have BK466 := n1_; have BK467 := n2_; have HB := n3_; clear n0_ n1_ n2_ n3_
       have hHeld : w40.cell? ⟨gb466, 0, none⟩ = some (.int .i64 a1_0) ∧ w40.cell? ⟨gb466, 1, none⟩ = some (.int .i64 a1_1) ∧ w40.cell? ⟨gb466, 2, none⟩ = some (.int .i64 a1_2) ∧ w40.cell? ⟨gb466, 3, none⟩ = some (.int .i64 a1_3) ∧ w40.cell? ⟨gb466, 4, none⟩ = some (.int .i64 a1_4) ∧ w40.cell? ⟨gb466, 5, none⟩ = some (.int .i64 a1_5) ∧ w40.cell? ⟨gb465, 0, none⟩ = some (.int .i64 a0_0) ∧ w40.cell? ⟨gb465, 1, none⟩ = some (.int .i64 a0_1) ∧ w40.cell? ⟨gb465, 2, none⟩ = some (.int .i64 a0_2) ∧ w40.cell? ⟨gb465, 3, none⟩ = some (.int .i64 a0_3) ∧ w40.cell? ⟨gb465, 4, none⟩ = some (.int .i64 a0_4) ∧ w40.cell? ⟨gb465, 5, none⟩ = some (.int .i64 a0_5) := hS_
       refine norm_ (a' := ?_) ?_ ?_
       rotate_left
       ·
        simp only [putAll, apz]
        rfl
       refine one_ (i := 59) (N := some 6) (bt 60 1) rfl rfl (one_of HT_.out (by kernel_rfl)) (by decide) (fun K hK => ?_)
       refine box_step ?hg (N := 6) ?hd (cs := #[.int .i64 0, .int .i64 0, .int .i64 0, .int .i64 0, .int .i64 0, .int .i64 0]) (t := 23) ?hr ?_; (case hd => rfl); (case hg => rfl); (case hr => first | (go_simp; done) | (go_simp; rfl))
       intro gb476 hg w41 hbox hb
       have n0_ := Aside0.mk (blk_below (bq BK465.out) hb)
       have n1_ := Aside0.mk (blk_below (bq BK466.out) hb)
       have n2_ := Aside0.mk (blk_below (bq BK467.out) hb)
       have n3_ := Aside0.mk (below_step (wq HB.out) hb)
       have n4_ := Aside0.mk (hbox)
       have n5_ := Aside0.mk ((by rw [hg]; exact (below_size (wq HB.out)) : w.heap.size ≤ gb476))
       have n6_ := Aside0.mk ((by rw [hg]; exact (below_size (wq HB.out)) : w.heap.size ≤ gb476))
       have n7_ := Aside0.mk ((by rw [hg]; exact Nat.ne_of_lt (blk_lt (bq BK465.out)) : gb465 ≠ gb476))
       have n8_ := Aside0.mk ((by rw [hg]; exact Nat.ne_of_gt (blk_lt (bq BK465.out)) : gb476 ≠ gb465))
       have n9_ := Aside0.mk ((by rw [hg]; exact Nat.ne_of_lt (blk_lt (bq BK466.out)) : gb466 ≠ gb476))
       have n10_ := Aside0.mk ((by rw [hg]; exact Nat.ne_of_gt (blk_lt (bq BK466.out)) : gb476 ≠ gb466))
       have n11_ := Aside0.mk ((by rw [hg]; exact Nat.ne_of_lt (blk_lt (bq BK467.out)) : gb467 ≠ gb476))
       have n12_ := Aside0.mk ((by rw [hg]; exact Nat.ne_of_gt (blk_lt (bq BK467.out)) : gb476 ≠ gb467))
       clear BK465 BK466 BK467 HB; have BK465 := n0_; have BK466 := n1_; have BK467 := n2_; have HB := n3_; have BK476 := n4_; have GW476 := n5_; have GE476 := n6_; have NB465_476 := n7_; have NB476_465 := n8_; have NB466_476 := n9_; have NB476_466 := n10_; have NB467_476 := n11_; have NB476_467 := n12_; clear n0_ n1_ n2_ n3_ n4_ n5_ n6_ n7_ n8_ n9_ n10_ n11_ n12_ hb hbox hg
       refine hK.out _ _ ⟨(blk_cell BK466.out 0).trans rfl, (blk_cell BK466.out 1).trans rfl, (blk_cell BK466.out 2).trans rfl, (blk_cell BK466.out 3).trans rfl, (blk_cell BK466.out 4).trans rfl, (blk_cell BK466.out 5).trans rfl, (blk_cell BK465.out 0).trans rfl, (blk_cell BK465.out 1).trans rfl, (blk_cell BK465.out 2).trans rfl, (blk_cell BK465.out 3).trans rfl, (blk_cell BK465.out 4).trans rfl, (blk_cell BK465.out 5).trans rfl⟩ (fun hHeld => ?_)
       clear hK K
       refine norm_ (a' := ?_) ?_ ?_
       rotate_left
       ·
        show Act.put _ (some 6) _ = _
        simp only [apz, i64_w, i32_w]
        rfl
       exact norm_ (by first | (simp only [putAll, apz]; done) | (simp only [putAll, apz]; rfl)) (hJ8_17_26_35_46_57_59 (gb476) _ ⟨hHeld, (bq BK465.out), (bq BK466.out), (bq BK467.out), (bq BK476.out), GW476.out, GE476.out, NB465_476.out, NB476_465.out, NB466_476.out, NB476_466.out, NB467_476.out, NB476_467.out, (wq HB.out)⟩)
     rintro gb476 w41 ⟨hS_, h0_, h1_, h2_, h3_, h4_, h5_, h6_, h7_, h8_, h9_, h10_, h11_, h12_⟩
     have n0_ : Aside0 (w41.heap[gb465]? = some (.cells #[.int .i64 a0_0, .int .i64 a0_1, .int .i64 a0_2, .int .i64 a0_3, .int .i64 a0_4, .int .i64 a0_5] 23 (0, 0))) := ⟨h0_⟩
     have n1_ : Aside0 (w41.heap[gb466]? = some (.cells #[.int .i64 a1_0, .int .i64 a1_1, .int .i64 a1_2, .int .i64 a1_3, .int .i64 a1_4, .int .i64 a1_5] 23 (0, 0))) := ⟨h1_⟩
     have n2_ : Aside0 (w41.heap[gb467]? = some (.cells #[.int .i64 0, .int .i64 0, .int .i64 0, .int .i64 0, .int .i64 0, .int .i64 0] 23 (0, 0))) := ⟨h2_⟩
     have n3_ : Aside0 (w41.heap[gb476]? = some (.cells #[.int .i64 0, .int .i64 0, .int .i64 0, .int .i64 0, .int .i64 0, .int .i64 0] 23 (0, 0))) := ⟨h3_⟩
     have n4_ : Aside0 (w.heap.size ≤ gb476) := ⟨h4_⟩
     have n5_ : Aside0 (w.heap.size ≤ gb476) := ⟨h5_⟩
     have n6_ : Aside0 (gb465 ≠ gb476) := ⟨h6_⟩
     have n7_ : Aside0 (gb476 ≠ gb465) := ⟨h7_⟩
     have n8_ : Aside0 (gb466 ≠ gb476) := ⟨h8_⟩
     have n9_ : Aside0 (gb476 ≠ gb466) := ⟨h9_⟩
     have n10_ : Aside0 (gb467 ≠ gb476) := ⟨h10_⟩
     have n11_ : Aside0 (gb476 ≠ gb467) := ⟨h11_⟩
     have n12_ : Aside0 (Below w.heap.size w w41) := ⟨h12_⟩
     clear BK465 BK466 BK467 HB; clear h0_ h1_ h2_ h3_ h4_ h5_ h6_ h7_ h8_ h9_ h10_ h11_ h12_; have BK465 := n0_; have BK466 := n1_; have BK467 := n2_; have BK476 := n3_; have GW476 := n4_; have GE476 := n5_; have NB465_476 := n6_; have NB476_465 := n7_; have NB466_476 := n8_; have NB476_466 := n9_; have NB467_476 := n10_; have NB476_467 := n11_; have HB := n12_; clear n0_ n1_ n2_ n3_ n4_ n5_ n6_ n7_ n8_ n9_ n10_ n11_ n12_
     have hHeld : w41.cell? ⟨gb466, 0, none⟩ = some (.int .i64 a1_0) ∧ w41.cell? ⟨gb466, 1, none⟩ = some (.int .i64 a1_1) ∧ w41.cell? ⟨gb466, 2, none⟩ = some (.int .i64 a1_2) ∧ w41.cell? ⟨gb466, 3, none⟩ = some (.int .i64 a1_3) ∧ w41.cell? ⟨gb466, 4, none⟩ = some (.int .i64 a1_4) ∧ w41.cell? ⟨gb466, 5, none⟩ = some (.int .i64 a1_5) ∧ w41.cell? ⟨gb465, 0, none⟩ = some (.int .i64 a0_0) ∧ w41.cell? ⟨gb465, 1, none⟩ = some (.int .i64 a0_1) ∧ w41.cell? ⟨gb465, 2, none⟩ = some (.int .i64 a0_2) ∧ w41.cell? ⟨gb465, 3, none⟩ = some (.int .i64 a0_3) ∧ w41.cell? ⟨gb465, 4, none⟩ = some (.int .i64 a0_4) ∧ w41.cell? ⟨gb465, 5, none⟩ = some (.int .i64 a0_5) := hS_
     refine norm_ (a' := ?_) ?_ ?_
     rotate_left
     ·
      simp only [putAll, apz]
      rfl
     refine one_ (i := 60) (N := none) (bt 61 0) rfl rfl (one_of HT_.out (by kernel_rfl)) (by decide) (fun K hK => ?_)
     have hs42 : w41.cell? ⟨gb476, 0, none⟩ = some (.int .i64 0) := (blk_cell BK476.out 0).trans rfl
     have hfs42 := blk_frozen BK476.out 0
     have hns42_0 := NB465_476.out
     have hns42_1 := NB466_476.out
     have hns42_2 := NB467_476.out
     have hms42_0 := NB476_465.out
     have hms42_1 := NB476_466.out
     have hms42_2 := NB476_467.out
     have hs43 : w41.cell? ⟨gb476, 1, none⟩ = some (.int .i64 0) := (blk_cell BK476.out 1).trans rfl
     have hfs43 := blk_frozen BK476.out 1
     have hns43_0 := NB465_476.out
     have hns43_1 := NB466_476.out
     have hns43_2 := NB467_476.out
     have hms43_0 := NB476_465.out
     have hms43_1 := NB476_466.out
     have hms43_2 := NB476_467.out
     have hs44 : w41.cell? ⟨gb476, 2, none⟩ = some (.int .i64 0) := (blk_cell BK476.out 2).trans rfl
     have hfs44 := blk_frozen BK476.out 2
     have hns44_0 := NB465_476.out
     have hns44_1 := NB466_476.out
     have hns44_2 := NB467_476.out
     have hms44_0 := NB476_465.out
     have hms44_1 := NB476_466.out
     have hms44_2 := NB476_467.out
     have hs45 : w41.cell? ⟨gb476, 3, none⟩ = some (.int .i64 0) := (blk_cell BK476.out 3).trans rfl
     have hfs45 := blk_frozen BK476.out 3
     have hns45_0 := NB465_476.out
     have hns45_1 := NB466_476.out
     have hns45_2 := NB467_476.out
     have hms45_0 := NB476_465.out
     have hms45_1 := NB476_466.out
     have hms45_2 := NB476_467.out
     have hs46 : w41.cell? ⟨gb476, 4, none⟩ = some (.int .i64 0) := (blk_cell BK476.out 4).trans rfl
     have hfs46 := blk_frozen BK476.out 4
     have hns46_0 := NB465_476.out
     have hns46_1 := NB466_476.out
     have hns46_2 := NB467_476.out
     have hms46_0 := NB476_465.out
     have hms46_1 := NB476_466.out
     have hms46_2 := NB476_467.out
     have hs47 : w41.cell? ⟨gb476, 5, none⟩ = some (.int .i64 0) := (blk_cell BK476.out 5).trans rfl
     have hfs47 := blk_frozen BK476.out 5
     have hns47_0 := NB465_476.out
     have hns47_1 := NB466_476.out
     have hns47_2 := NB467_476.out
     have hms47_0 := NB476_465.out
     have hms47_1 := NB476_466.out
     have hms47_2 := NB476_467.out
     refine skip_ (w1 := ?_) (by rfl) rfl ?_ ?_
     rotate_left
     ·
      go_simp
      rfl
     refine hK.out _ _ ⟨(cf NB466_476.out ((cf NB466_476.out ((cf NB466_476.out ((cf NB466_476.out ((cf NB466_476.out ((cf NB466_476.out (hHeld.1)))))))))))), (cf NB466_476.out ((cf NB466_476.out ((cf NB466_476.out ((cf NB466_476.out ((cf NB466_476.out ((cf NB466_476.out (hHeld.2.1)))))))))))), (cf NB466_476.out ((cf NB466_476.out ((cf NB466_476.out ((cf NB466_476.out ((cf NB466_476.out ((cf NB466_476.out (hHeld.2.2.1)))))))))))), (cf NB466_476.out ((cf NB466_476.out ((cf NB466_476.out ((cf NB466_476.out ((cf NB466_476.out ((cf NB466_476.out (hHeld.2.2.2.1)))))))))))), (cf NB466_476.out ((cf NB466_476.out ((cf NB466_476.out ((cf NB466_476.out ((cf NB466_476.out ((cf NB466_476.out (hHeld.2.2.2.2.1)))))))))))), (cf NB466_476.out ((cf NB466_476.out ((cf NB466_476.out ((cf NB466_476.out ((cf NB466_476.out ((cf NB466_476.out (hHeld.2.2.2.2.2.1)))))))))))), (cf NB465_476.out ((cf NB465_476.out ((cf NB465_476.out ((cf NB465_476.out ((cf NB465_476.out ((cf NB465_476.out (hHeld.2.2.2.2.2.2.1)))))))))))), (cf NB465_476.out ((cf NB465_476.out ((cf NB465_476.out ((cf NB465_476.out ((cf NB465_476.out ((cf NB465_476.out (hHeld.2.2.2.2.2.2.2.1)))))))))))), (cf NB465_476.out ((cf NB465_476.out ((cf NB465_476.out ((cf NB465_476.out ((cf NB465_476.out ((cf NB465_476.out (hHeld.2.2.2.2.2.2.2.2.1)))))))))))), (cf NB465_476.out ((cf NB465_476.out ((cf NB465_476.out ((cf NB465_476.out ((cf NB465_476.out ((cf NB465_476.out (hHeld.2.2.2.2.2.2.2.2.2.1)))))))))))), (cf NB465_476.out ((cf NB465_476.out ((cf NB465_476.out ((cf NB465_476.out ((cf NB465_476.out ((cf NB465_476.out (hHeld.2.2.2.2.2.2.2.2.2.2.1)))))))))))), (cf NB465_476.out ((cf NB465_476.out ((cf NB465_476.out ((cf NB465_476.out ((cf NB465_476.out ((cf NB465_476.out (hHeld.2.2.2.2.2.2.2.2.2.2.2))))))))))))⟩ (fun hHeld => ?_)
     clear hK K
     refine done_ (done_of HT_.out (by kernel_rfl)) ?_
     have hnb48 := NB476_465.out
     have hnc48 := NB465_476.out
     have hnb49 := NB476_466.out
     have hnc49 := NB466_476.out
     have hnb50 := NB476_467.out
     have hnc50 := NB467_476.out
     have hcz51_0 : w41.cell? ⟨gb476, 0, none⟩ = some (.int .i64 0) := (blk_cell BK476.out 0).trans rfl
     have hcz51_1 : w41.cell? ⟨gb476, 1, none⟩ = some (.int .i64 0) := (blk_cell BK476.out 1).trans rfl
     have hcz51_2 : w41.cell? ⟨gb476, 2, none⟩ = some (.int .i64 0) := (blk_cell BK476.out 2).trans rfl
     have hcz51_3 : w41.cell? ⟨gb476, 3, none⟩ = some (.int .i64 0) := (blk_cell BK476.out 3).trans rfl
     have hcz51_4 : w41.cell? ⟨gb476, 4, none⟩ = some (.int .i64 0) := (blk_cell BK476.out 4).trans rfl
     have hcz51_5 : w41.cell? ⟨gb476, 5, none⟩ = some (.int .i64 0) := (blk_cell BK476.out 5).trans rfl
     have hfz51_0 := blk_frozen BK476.out 0
     have hfz51_1 := blk_frozen BK476.out 1
     have hfz51_2 := blk_frozen BK476.out 2
     have hfz51_3 := blk_frozen BK476.out 3
     have hfz51_4 := blk_frozen BK476.out 4
     have hfz51_5 := blk_frozen BK476.out 5
     try go_wp2_with (first | ((with_reducible refine gate_callee (f := 13) rfl ?_); refine goesL_ (some 76) rfl rfl Tryd.func13 (by kernel_rfl) rfl #[.agg #[.int .i64 t470, .int .i64 t471, .int .i64 t472, .int .i64 t473, .int .i64 t474, .int .i64 t475]] rfl (by (try simp only [List.map_toArray, List.map_cons, List.map_nil]); first | done | rfl | (simp only [List.length_drop, List.length_take]; rfl)) ?_; (with_reducible refine (pointillistref08_Right.calls t470 t471 t472 t473 t474 t475 true _ A31.out).mono ?_); rintro e w52 ⟨rfl, hb⟩; refine ⟨_, rfl, ?_⟩; have n0_ := Aside0.mk (blk_below (g := gb465) (o := .cells #[.int .i64 a0_0, .int .i64 a0_1, .int .i64 a0_2, .int .i64 a0_3, .int .i64 a0_4, .int .i64 a0_5] 23 (0, 0)) (by refine bq ?_; refine blk_far ?_ NB465_476.out _; refine bq ?_; refine blk_far ?_ NB465_476.out _; refine bq ?_; refine blk_far ?_ NB465_476.out _; refine bq ?_; refine blk_far ?_ NB465_476.out _; refine bq ?_; refine blk_far ?_ NB465_476.out _; refine bq ?_; refine blk_far ?_ NB465_476.out _; refine bq ?_; exact BK465.out) hb); have n1_ := Aside0.mk (blk_below (g := gb466) (o := .cells #[.int .i64 a1_0, .int .i64 a1_1, .int .i64 a1_2, .int .i64 a1_3, .int .i64 a1_4, .int .i64 a1_5] 23 (0, 0)) (by refine bq ?_; refine blk_far ?_ NB466_476.out _; refine bq ?_; refine blk_far ?_ NB466_476.out _; refine bq ?_; refine blk_far ?_ NB466_476.out _; refine bq ?_; refine blk_far ?_ NB466_476.out _; refine bq ?_; refine blk_far ?_ NB466_476.out _; refine bq ?_; refine blk_far ?_ NB466_476.out _; refine bq ?_; exact BK466.out) hb); have n2_ := Aside0.mk (blk_below (g := gb467) (o := .cells #[.int .i64 0, .int .i64 0, .int .i64 0, .int .i64 0, .int .i64 0, .int .i64 0] 23 (0, 0)) (by refine bq ?_; refine blk_far ?_ NB467_476.out _; refine bq ?_; refine blk_far ?_ NB467_476.out _; refine bq ?_; refine blk_far ?_ NB467_476.out _; refine bq ?_; refine blk_far ?_ NB467_476.out _; refine bq ?_; refine blk_far ?_ NB467_476.out _; refine bq ?_; refine blk_far ?_ NB467_476.out _; refine bq ?_; exact BK467.out) hb); have n3_ := Aside0.mk (blk_below (g := gb476) (o := .cells #[.int .i64 t470, .int .i64 t471, .int .i64 t472, .int .i64 t473, .int .i64 t474, .int .i64 t475] 23 (0, 0)) (by refine bq ?_; refine blk_put (cs := #[.int .i64 t470, .int .i64 t471, .int .i64 t472, .int .i64 t473, .int .i64 t474, .int .i64 0]) ?_ 5 _ rfl; refine bq ?_; refine blk_put (cs := #[.int .i64 t470, .int .i64 t471, .int .i64 t472, .int .i64 t473, .int .i64 0, .int .i64 0]) ?_ 4 _ rfl; refine bq ?_; refine blk_put (cs := #[.int .i64 t470, .int .i64 t471, .int .i64 t472, .int .i64 0, .int .i64 0, .int .i64 0]) ?_ 3 _ rfl; refine bq ?_; refine blk_put (cs := #[.int .i64 t470, .int .i64 t471, .int .i64 0, .int .i64 0, .int .i64 0, .int .i64 0]) ?_ 2 _ rfl; refine bq ?_; refine blk_put (cs := #[.int .i64 t470, .int .i64 0, .int .i64 0, .int .i64 0, .int .i64 0, .int .i64 0]) ?_ 1 _ rfl; refine bq ?_; refine blk_put (cs := #[.int .i64 0, .int .i64 0, .int .i64 0, .int .i64 0, .int .i64 0, .int .i64 0]) ?_ 0 _ rfl; refine bq ?_; exact BK476.out) hb); have n4_ := Aside0.mk (below_step (wq HB.out) hb); clear BK465 BK466 BK467 BK476; clear HB; have BK465 := n0_; have BK466 := n1_; have BK467 := n2_; have BK476 := n3_; have HB := n4_; clear n0_ n1_ n2_ n3_ n4_; (try clear hb); (try clear hb2); (try clear hk); (try clear hi); have hcz53_0 : w52.cell? ⟨gb476, 0, none⟩ = some (.int .i64 t470) := (blk_cell BK476.out 0).trans rfl; have hcz53_1 : w52.cell? ⟨gb476, 1, none⟩ = some (.int .i64 t471) := (blk_cell BK476.out 1).trans rfl; have hcz53_2 : w52.cell? ⟨gb476, 2, none⟩ = some (.int .i64 t472) := (blk_cell BK476.out 2).trans rfl; have hcz53_3 : w52.cell? ⟨gb476, 3, none⟩ = some (.int .i64 t473) := (blk_cell BK476.out 3).trans rfl; have hcz53_4 : w52.cell? ⟨gb476, 4, none⟩ = some (.int .i64 t474) := (blk_cell BK476.out 4).trans rfl; have hcz53_5 : w52.cell? ⟨gb476, 5, none⟩ = some (.int .i64 t475) := (blk_cell BK476.out 5).trans rfl; have hfz53_0 := blk_frozen BK476.out 0; have hfz53_1 := blk_frozen BK476.out 1; have hfz53_2 := blk_frozen BK476.out 2; have hfz53_3 := blk_frozen BK476.out 3; have hfz53_4 := blk_frozen BK476.out 4; have hfz53_5 := blk_frozen BK476.out 5; have hnb54 := NB467_465.out; have hnc54 := NB465_467.out; have hnb55 := NB467_466.out; have hnc55 := NB466_467.out; have hcz56_0 : w52.cell? ⟨gb467, 0, none⟩ = some (.int .i64 0) := (blk_cell BK467.out 0).trans rfl; have hcz56_1 : w52.cell? ⟨gb467, 1, none⟩ = some (.int .i64 0) := (blk_cell BK467.out 1).trans rfl; have hcz56_2 : w52.cell? ⟨gb467, 2, none⟩ = some (.int .i64 0) := (blk_cell BK467.out 2).trans rfl; have hcz56_3 : w52.cell? ⟨gb467, 3, none⟩ = some (.int .i64 0) := (blk_cell BK467.out 3).trans rfl; have hcz56_4 : w52.cell? ⟨gb467, 4, none⟩ = some (.int .i64 0) := (blk_cell BK467.out 4).trans rfl; have hcz56_5 : w52.cell? ⟨gb467, 5, none⟩ = some (.int .i64 0) := (blk_cell BK467.out 5).trans rfl; have hfz56_0 := blk_frozen BK467.out 0; have hfz56_1 := blk_frozen BK467.out 1; have hfz56_2 := blk_frozen BK467.out 2; have hfz56_3 := blk_frozen BK467.out 3; have hfz56_4 := blk_frozen BK467.out 4; have hfz56_5 := blk_frozen BK467.out 5))
     refine bodyPost_ret (results_ct rfl _ _ gb467 23 #[.int .i64 t470, .int .i64 t471, .int .i64 t472, .int .i64 t473, .int .i64 t474, .int .i64 t475] (0, 0) _ rfl (by refine bq ?_; refine blk_put (cs := #[.int .i64 t470, .int .i64 t471, .int .i64 t472, .int .i64 t473, .int .i64 t474, .int .i64 0]) ?_ 5 _ rfl; refine bq ?_; refine blk_put (cs := #[.int .i64 t470, .int .i64 t471, .int .i64 t472, .int .i64 t473, .int .i64 0, .int .i64 0]) ?_ 4 _ rfl; refine bq ?_; refine blk_put (cs := #[.int .i64 t470, .int .i64 t471, .int .i64 t472, .int .i64 0, .int .i64 0, .int .i64 0]) ?_ 3 _ rfl; refine bq ?_; refine blk_put (cs := #[.int .i64 t470, .int .i64 t471, .int .i64 0, .int .i64 0, .int .i64 0, .int .i64 0]) ?_ 2 _ rfl; refine bq ?_; refine blk_put (cs := #[.int .i64 t470, .int .i64 0, .int .i64 0, .int .i64 0, .int .i64 0, .int .i64 0]) ?_ 1 _ rfl; refine bq ?_; refine blk_put (cs := #[.int .i64 0, .int .i64 0, .int .i64 0, .int .i64 0, .int .i64 0, .int .i64 0]) ?_ 0 _ rfl; refine bq ?_; exact BK467.out) Tryd.underlying23 rfl (by kernel_rfl)) rfl ?_
     exact ⟨by first | rfl | (simp [errW_none, errW_some] <;> rfl) | (simp [*, errW_none, errW_some] <;> rfl), by exact wq HB.out⟩
    ·
     replace c32 := Bool.eq_false_iff.mpr c32
     subst c32
     have H1 : (some (0, 0, 0, 0, 0, 0, 2)) = some (r1, r2, r3, r4, r5, r6, r7) := by rw [if_neg (show ¬ (false = true) by decide)] at H; exact H
     clear H
     have H := H1
     clear H1
     simp only [Option.some.injEq, Prod.mk.injEq] at H
     obtain ⟨rfl, rfl, rfl, rfl, rfl, rfl, rfl⟩ := H
     try go_wp2
     have n0_ := Aside0.mk (blk_drew BK465.out)
     have n1_ := Aside0.mk (blk_drew BK466.out)
     have n2_ := Aside0.mk (blk_drew BK467.out)
     have n3_ := Aside0.mk (below_drew1 HB.out)
     clear BK465 BK466 BK467 HB; have BK465 := n0_; have BK466 := n1_; have BK467 := n2_; have HB := n3_; clear n0_ n1_ n2_ n3_
     refine start_ (n := 61) (S := fun w' => w'.cell? ⟨gb466, 0, none⟩ = some (.int .i64 a1_0) ∧ w'.cell? ⟨gb466, 1, none⟩ = some (.int .i64 a1_1) ∧ w'.cell? ⟨gb466, 2, none⟩ = some (.int .i64 a1_2) ∧ w'.cell? ⟨gb466, 3, none⟩ = some (.int .i64 a1_3) ∧ w'.cell? ⟨gb466, 4, none⟩ = some (.int .i64 a1_4) ∧ w'.cell? ⟨gb466, 5, none⟩ = some (.int .i64 a1_5) ∧ w'.cell? ⟨gb465, 0, none⟩ = some (.int .i64 a0_0) ∧ w'.cell? ⟨gb465, 1, none⟩ = some (.int .i64 a0_1) ∧ w'.cell? ⟨gb465, 2, none⟩ = some (.int .i64 a0_2) ∧ w'.cell? ⟨gb465, 3, none⟩ = some (.int .i64 a0_3) ∧ w'.cell? ⟨gb465, 4, none⟩ = some (.int .i64 a0_4) ∧ w'.cell? ⟨gb465, 5, none⟩ = some (.int .i64 a0_5)) (ds := []) (bt 0 61) (by kernel_rfl) rfl rfl ⟨(blk_cell BK466.out 0).trans rfl, (blk_cell BK466.out 1).trans rfl, (blk_cell BK466.out 2).trans rfl, (blk_cell BK466.out 3).trans rfl, (blk_cell BK466.out 4).trans rfl, (blk_cell BK466.out 5).trans rfl, (blk_cell BK465.out 0).trans rfl, (blk_cell BK465.out 1).trans rfl, (blk_cell BK465.out 2).trans rfl, (blk_cell BK465.out 3).trans rfl, (blk_cell BK465.out 4).trans rfl, (blk_cell BK465.out 5).trans rfl⟩ (fun hHeld => ?_); refine with_tabW pointillistref08_Then.tab3 pointillistref08_Then.bits3 (fun HT_ HW_ => ?_)
     generalize wc.drew = w57 at BK465 BK466 BK467 HB hHeld ⊢
     refine pure_ (i := 0) (N := some 16) (v := ?_) (a' := ?_) (bt 1 60) rfl rfl (any_of HT_.out (by kernel_rfl)) (fun _ _ _ h => h) (Or.inl ⟨by rfl, ?_⟩) ?_ ?_
     rotate_left; focus (intro w'; go_simp; with_reducible rfl)
     rotate_left; focus (simp only [apz, i64_w, i32_w]; rfl)
     refine pure_ (i := 2) (N := some 18) (v := ?_) (a' := ?_) (bm 61 5) rfl rfl (any_of HT_.out (by kernel_rfl)) (fun _ _ _ h => h) (Or.inl ⟨by rfl, ?_⟩) ?_ ?_
     rotate_left; focus (intro w'; go_simp; with_reducible rfl)
     rotate_left; focus (simp only [apz, i64_w, i32_w]; rfl)
     refine pure_ (i := 4) (N := some 20) (v := ?_) (a' := ?_) (bm 61 21) rfl rfl (any_of HT_.out (by kernel_rfl)) (fun _ _ _ h => h) (Or.inl ⟨by rfl, ?_⟩) ?_ ?_
     rotate_left; focus (intro w'; go_simp; with_reducible rfl)
     rotate_left; focus (simp only [apz, i64_w, i32_w]; rfl)
     refine pure_ (i := 6) (N := some 22) (v := ?_) (a' := ?_) (bm 61 85) rfl rfl (any_of HT_.out (by kernel_rfl)) (fun _ _ _ h => h) (Or.inl ⟨by rfl, ?_⟩) ?_ ?_
     rotate_left; focus (intro w'; go_simp; with_reducible rfl)
     rotate_left; focus (simp only [apz, i64_w, i32_w]; rfl)
     refine pure_ (i := 9) (N := some 25) (v := ?_) (a' := ?_) (bm 61 597) rfl rfl (any_of HT_.out (by kernel_rfl)) (fun _ _ _ h => h) (Or.inl ⟨by rfl, ?_⟩) ?_ ?_
     rotate_left; focus (intro w'; go_simp; with_reducible rfl)
     rotate_left; focus (simp only [apz, i64_w, i32_w]; rfl)
     refine pure_ (i := 11) (N := some 27) (v := ?_) (a' := ?_) (bm 61 2645) rfl rfl (any_of HT_.out (by kernel_rfl)) (fun _ _ _ h => h) (Or.inl ⟨by rfl, ?_⟩) ?_ ?_
     rotate_left; focus (intro w'; go_simp; with_reducible rfl)
     rotate_left; focus (simp only [apz, i64_w, i32_w]; rfl)
     refine pure_ (i := 13) (N := some 29) (v := ?_) (a' := ?_) (bm 61 10837) rfl rfl (any_of HT_.out (by kernel_rfl)) (fun _ _ _ h => h) (Or.inl ⟨by rfl, ?_⟩) ?_ ?_
     rotate_left; focus (intro w'; go_simp; with_reducible rfl)
     rotate_left; focus (simp only [apz, i64_w, i32_w]; rfl)
     refine pure_ (i := 15) (N := some 31) (v := ?_) (a' := ?_) (bm 61 43605) rfl rfl (any_of HT_.out (by kernel_rfl)) (fun _ _ _ h => h) (Or.inl ⟨by rfl, ?_⟩) ?_ ?_
     rotate_left; focus (intro w'; go_simp; with_reducible rfl)
     rotate_left; focus (simp only [apz, i64_w, i32_w]; rfl)
     refine pure_ (i := 18) (N := some 34) (v := ?_) (a' := ?_) (bm 61 305749) rfl rfl (any_of HT_.out (by kernel_rfl)) (fun _ _ _ h => h) (Or.inl ⟨by rfl, ?_⟩) ?_ ?_
     rotate_left; focus (intro w'; go_simp; with_reducible rfl)
     rotate_left; focus (simp only [apz, i64_w, i32_w]; rfl)
     refine pure_ (i := 20) (N := some 36) (v := ?_) (a' := ?_) (bm 61 1354325) rfl rfl (any_of HT_.out (by kernel_rfl)) (fun _ _ _ h => h) (Or.inl ⟨by rfl, ?_⟩) ?_ ?_
     rotate_left; focus (intro w'; go_simp; with_reducible rfl)
     rotate_left; focus (simp only [apz, i64_w, i32_w]; rfl)
     refine pure_ (i := 22) (N := some 38) (v := ?_) (a' := ?_) (bm 61 5548629) rfl rfl (any_of HT_.out (by kernel_rfl)) (fun _ _ _ h => h) (Or.inl ⟨by rfl, ?_⟩) ?_ ?_
     rotate_left; focus (intro w'; go_simp; with_reducible rfl)
     rotate_left; focus (simp only [apz, i64_w, i32_w]; rfl)
     refine pure_ (i := 24) (N := some 40) (v := ?_) (a' := ?_) (bm 61 22325845) rfl rfl (any_of HT_.out (by kernel_rfl)) (fun _ _ _ h => h) (Or.inl ⟨by rfl, ?_⟩) ?_ ?_
     rotate_left; focus (intro w'; go_simp; with_reducible rfl)
     rotate_left; focus (simp only [apz, i64_w, i32_w]; rfl)
     refine pure_ (i := 27) (N := some 43) (v := ?_) (a' := ?_) (bm 61 156543573) rfl rfl (any_of HT_.out (by kernel_rfl)) (fun _ _ _ h => h) (Or.inl ⟨by rfl, ?_⟩) ?_ ?_
     rotate_left; focus (intro w'; go_simp; with_reducible rfl)
     rotate_left; focus (simp only [apz, i64_w, i32_w]; rfl)
     refine pure_ (i := 29) (N := some 45) (v := ?_) (a' := ?_) (bm 61 693414485) rfl rfl (any_of HT_.out (by kernel_rfl)) (fun _ _ _ h => h) (Or.inl ⟨by rfl, ?_⟩) ?_ ?_
     rotate_left; focus (intro w'; go_simp; with_reducible rfl)
     rotate_left; focus (simp only [apz, i64_w, i32_w]; rfl)
     refine pure_ (i := 31) (N := some 47) (v := ?_) (a' := ?_) (bm 61 2840898133) rfl rfl (any_of HT_.out (by kernel_rfl)) (fun _ _ _ h => h) (Or.inl ⟨by rfl, ?_⟩) ?_ ?_
     rotate_left; focus (intro w'; go_simp; with_reducible rfl)
     rotate_left; focus (simp only [apz, i64_w, i32_w]; rfl)
     refine pure_ (i := 33) (N := some 49) (v := ?_) (a' := ?_) (bm 61 11430832725) rfl rfl (any_of HT_.out (by kernel_rfl)) (fun _ _ _ h => h) (Or.inl ⟨by rfl, ?_⟩) ?_ ?_
     rotate_left; focus (intro w'; go_simp; with_reducible rfl)
     rotate_left; focus (simp only [apz, i64_w, i32_w]; rfl)
     refine pure_ (i := 36) (N := some 52) (v := ?_) (a' := ?_) (bm 61 80150309461) rfl rfl (any_of HT_.out (by kernel_rfl)) (fun _ _ _ h => h) (Or.inl ⟨by rfl, ?_⟩) ?_ ?_
     rotate_left; focus (intro w'; go_simp; with_reducible rfl)
     rotate_left; focus (simp only [apz, i64_w, i32_w]; rfl)
     refine pure_ (i := 38) (N := some 54) (v := ?_) (a' := ?_) (bm 61 355028216405) rfl rfl (any_of HT_.out (by kernel_rfl)) (fun _ _ _ h => h) (Or.inl ⟨by rfl, ?_⟩) ?_ ?_
     rotate_left; focus (intro w'; go_simp; with_reducible rfl)
     rotate_left; focus (simp only [apz, i64_w, i32_w]; rfl)
     refine pure_ (i := 40) (N := some 56) (v := ?_) (a' := ?_) (bm 61 1454539844181) rfl rfl (any_of HT_.out (by kernel_rfl)) (fun _ _ _ h => h) (Or.inl ⟨by rfl, ?_⟩) ?_ ?_
     rotate_left; focus (intro w'; go_simp; with_reducible rfl)
     rotate_left; focus (simp only [apz, i64_w, i32_w]; rfl)
     refine pure_ (i := 42) (N := some 58) (v := ?_) (a' := ?_) (bm 61 5852586355285) rfl rfl (any_of HT_.out (by kernel_rfl)) (fun _ _ _ h => h) (Or.inl ⟨by rfl, ?_⟩) ?_ ?_
     rotate_left; focus (intro w'; go_simp; with_reducible rfl)
     rotate_left; focus (simp only [apz, i64_w, i32_w]; rfl)
     refine pure_ (i := 44) (N := some 60) (v := ?_) (a' := ?_) (bm 61 23444772399701) rfl rfl (any_of HT_.out (by kernel_rfl)) (fun _ _ _ h => h) (Or.inl ⟨by rfl, ?_⟩) ?_ ?_
     rotate_left; focus (intro w'; go_simp; with_reducible rfl)
     rotate_left; focus (simp only [apz, i64_w, i32_w]; rfl)
     refine pure_ (i := 47) (N := some 63) (v := ?_) (a' := ?_) (bm 61 164182260755029) rfl rfl (any_of HT_.out (by kernel_rfl)) (fun _ _ _ h => h) (Or.inl ⟨by rfl, ?_⟩) ?_ ?_
     rotate_left; focus (intro w'; go_simp; with_reducible rfl)
     rotate_left; focus (simp only [apz, i64_w, i32_w]; rfl)
     refine pure_ (i := 49) (N := some 65) (v := ?_) (a' := ?_) (bm 61 727132214176341) rfl rfl (any_of HT_.out (by kernel_rfl)) (fun _ _ _ h => h) (Or.inl ⟨by rfl, ?_⟩) ?_ ?_
     rotate_left; focus (intro w'; go_simp; with_reducible rfl)
     rotate_left; focus (simp only [apz, i64_w, i32_w]; rfl)
     refine pure_ (i := 51) (N := some 67) (v := ?_) (a' := ?_) (bm 61 2978932027861589) rfl rfl (any_of HT_.out (by kernel_rfl)) (fun _ _ _ h => h) (Or.inl ⟨by rfl, ?_⟩) ?_ ?_
     rotate_left; focus (intro w'; go_simp; with_reducible rfl)
     rotate_left; focus (simp only [apz, i64_w, i32_w]; rfl)
     refine pure_ (i := 53) (N := some 69) (v := ?_) (a' := ?_) (bm 61 11986131282602581) rfl rfl (any_of HT_.out (by kernel_rfl)) (fun _ _ _ h => h) (Or.inl ⟨by rfl, ?_⟩) ?_ ?_
     rotate_left; focus (intro w'; go_simp; with_reducible rfl)
     rotate_left; focus (simp only [apz, i64_w, i32_w]; rfl)
     refine pure_ (i := 55) (N := some 71) (v := ?_) (a' := ?_) (bm 61 48014928301566549) rfl rfl (any_of HT_.out (by kernel_rfl)) (fun _ _ _ h => h) (Or.inl ⟨by rfl, ?_⟩) ?_ ?_
     rotate_left; focus (intro w'; go_simp; with_reducible rfl)
     rotate_left; focus (simp only [apz, i64_w, i32_w]; rfl)
     refine take_ (i := 1) (N := some 17) (v := ?_) (a' := ?_) (bm 61 48014928301566551) rfl rfl (take_ofW HT_.out HW_.out (by kernel_rfl)) (fun _ _ _ h => h) (Or.inl ⟨by rfl, ?_⟩) hHeld ?_ ?_
     rotate_left
     ·
      rintro w' ⟨s0, s1, s2, s3, s4, s5, s6, s7, s8, s9, s10, s11⟩
      go_simp
      with_reducible rfl
     rotate_left; focus (simp only [apz, i64_w, i32_w]; rfl)
     refine take_ (i := 3) (N := some 19) (v := ?_) (a' := ?_) (bm 61 48014928301566559) rfl rfl (take_ofW HT_.out HW_.out (by kernel_rfl)) (fun _ _ _ h => h) (Or.inl ⟨by rfl, ?_⟩) hHeld ?_ ?_
     rotate_left
     ·
      rintro w' ⟨s0, s1, s2, s3, s4, s5, s6, s7, s8, s9, s10, s11⟩
      go_simp
      with_reducible rfl
     rotate_left; focus (simp only [apz, i64_w, i32_w]; rfl)
     refine take_ (i := 5) (N := some 21) (v := ?_) (a' := ?_) (bm 61 48014928301566591) rfl rfl (take_ofW HT_.out HW_.out (by kernel_rfl)) (fun _ _ _ h => h) (Or.inl ⟨by rfl, ?_⟩) hHeld ?_ ?_
     rotate_left
     ·
      rintro w' ⟨s0, s1, s2, s3, s4, s5, s6, s7, s8, s9, s10, s11⟩
      go_simp
      with_reducible rfl
     rotate_left; focus (simp only [apz, i64_w, i32_w]; rfl)
     refine take_ (i := 7) (N := some 23) (v := ?_) (a' := ?_) (bm 61 48014928301566719) rfl rfl (take_ofW HT_.out HW_.out (by kernel_rfl)) (fun _ _ _ h => h) (Or.inl ⟨by rfl, ?_⟩) hHeld ?_ ?_
     rotate_left
     ·
      rintro w' ⟨s0, s1, s2, s3, s4, s5, s6, s7, s8, s9, s10, s11⟩
      go_simp
      with_reducible rfl
     rotate_left; focus (simp only [apz, i64_w, i32_w]; rfl)
     refine take_ (i := 10) (N := some 26) (v := ?_) (a' := ?_) (bm 61 48014928301567743) rfl rfl (take_ofW HT_.out HW_.out (by kernel_rfl)) (fun _ _ _ h => h) (Or.inl ⟨by rfl, ?_⟩) hHeld ?_ ?_
     rotate_left
     ·
      rintro w' ⟨s0, s1, s2, s3, s4, s5, s6, s7, s8, s9, s10, s11⟩
      go_simp
      with_reducible rfl
     rotate_left; focus (simp only [apz, i64_w, i32_w]; rfl)
     refine take_ (i := 12) (N := some 28) (v := ?_) (a' := ?_) (bm 61 48014928301571839) rfl rfl (take_ofW HT_.out HW_.out (by kernel_rfl)) (fun _ _ _ h => h) (Or.inl ⟨by rfl, ?_⟩) hHeld ?_ ?_
     rotate_left
     ·
      rintro w' ⟨s0, s1, s2, s3, s4, s5, s6, s7, s8, s9, s10, s11⟩
      go_simp
      with_reducible rfl
     rotate_left; focus (simp only [apz, i64_w, i32_w]; rfl)
     refine take_ (i := 14) (N := some 30) (v := ?_) (a' := ?_) (bm 61 48014928301588223) rfl rfl (take_ofW HT_.out HW_.out (by kernel_rfl)) (fun _ _ _ h => h) (Or.inl ⟨by rfl, ?_⟩) hHeld ?_ ?_
     rotate_left
     ·
      rintro w' ⟨s0, s1, s2, s3, s4, s5, s6, s7, s8, s9, s10, s11⟩
      go_simp
      with_reducible rfl
     rotate_left; focus (simp only [apz, i64_w, i32_w]; rfl)
     refine take_ (i := 16) (N := some 32) (v := ?_) (a' := ?_) (bm 61 48014928301653759) rfl rfl (take_ofW HT_.out HW_.out (by kernel_rfl)) (fun _ _ _ h => h) (Or.inl ⟨by rfl, ?_⟩) hHeld ?_ ?_
     rotate_left
     ·
      rintro w' ⟨s0, s1, s2, s3, s4, s5, s6, s7, s8, s9, s10, s11⟩
      go_simp
      with_reducible rfl
     rotate_left; focus (simp only [apz, i64_w, i32_w]; rfl)
     refine take_ (i := 19) (N := some 35) (v := ?_) (a' := ?_) (bm 61 48014928302178047) rfl rfl (take_ofW HT_.out HW_.out (by kernel_rfl)) (fun _ _ _ h => h) (Or.inl ⟨by rfl, ?_⟩) hHeld ?_ ?_
     rotate_left
     ·
      rintro w' ⟨s0, s1, s2, s3, s4, s5, s6, s7, s8, s9, s10, s11⟩
      go_simp
      with_reducible rfl
     rotate_left; focus (simp only [apz, i64_w, i32_w]; rfl)
     refine take_ (i := 21) (N := some 37) (v := ?_) (a' := ?_) (bm 61 48014928304275199) rfl rfl (take_ofW HT_.out HW_.out (by kernel_rfl)) (fun _ _ _ h => h) (Or.inl ⟨by rfl, ?_⟩) hHeld ?_ ?_
     rotate_left
     ·
      rintro w' ⟨s0, s1, s2, s3, s4, s5, s6, s7, s8, s9, s10, s11⟩
      go_simp
      with_reducible rfl
     rotate_left; focus (simp only [apz, i64_w, i32_w]; rfl)
     refine take_ (i := 23) (N := some 39) (v := ?_) (a' := ?_) (bm 61 48014928312663807) rfl rfl (take_ofW HT_.out HW_.out (by kernel_rfl)) (fun _ _ _ h => h) (Or.inl ⟨by rfl, ?_⟩) hHeld ?_ ?_
     rotate_left
     ·
      rintro w' ⟨s0, s1, s2, s3, s4, s5, s6, s7, s8, s9, s10, s11⟩
      go_simp
      with_reducible rfl
     rotate_left; focus (simp only [apz, i64_w, i32_w]; rfl)
     refine take_ (i := 25) (N := some 41) (v := ?_) (a' := ?_) (bm 61 48014928346218239) rfl rfl (take_ofW HT_.out HW_.out (by kernel_rfl)) (fun _ _ _ h => h) (Or.inl ⟨by rfl, ?_⟩) hHeld ?_ ?_
     rotate_left
     ·
      rintro w' ⟨s0, s1, s2, s3, s4, s5, s6, s7, s8, s9, s10, s11⟩
      go_simp
      with_reducible rfl
     rotate_left; focus (simp only [apz, i64_w, i32_w]; rfl)
     refine take_ (i := 28) (N := some 44) (v := ?_) (a' := ?_) (bm 61 48014928614653695) rfl rfl (take_ofW HT_.out HW_.out (by kernel_rfl)) (fun _ _ _ h => h) (Or.inl ⟨by rfl, ?_⟩) hHeld ?_ ?_
     rotate_left
     ·
      rintro w' ⟨s0, s1, s2, s3, s4, s5, s6, s7, s8, s9, s10, s11⟩
      go_simp
      with_reducible rfl
     rotate_left; focus (simp only [apz, i64_w, i32_w]; rfl)
     refine take_ (i := 30) (N := some 46) (v := ?_) (a' := ?_) (bm 61 48014929688395519) rfl rfl (take_ofW HT_.out HW_.out (by kernel_rfl)) (fun _ _ _ h => h) (Or.inl ⟨by rfl, ?_⟩) hHeld ?_ ?_
     rotate_left
     ·
      rintro w' ⟨s0, s1, s2, s3, s4, s5, s6, s7, s8, s9, s10, s11⟩
      go_simp
      with_reducible rfl
     rotate_left; focus (simp only [apz, i64_w, i32_w]; rfl)
     refine take_ (i := 32) (N := some 48) (v := ?_) (a' := ?_) (bm 61 48014933983362815) rfl rfl (take_ofW HT_.out HW_.out (by kernel_rfl)) (fun _ _ _ h => h) (Or.inl ⟨by rfl, ?_⟩) hHeld ?_ ?_
     rotate_left
     ·
      rintro w' ⟨s0, s1, s2, s3, s4, s5, s6, s7, s8, s9, s10, s11⟩
      go_simp
      with_reducible rfl
     rotate_left; focus (simp only [apz, i64_w, i32_w]; rfl)
     refine take_ (i := 34) (N := some 50) (v := ?_) (a' := ?_) (bm 61 48014951163231999) rfl rfl (take_ofW HT_.out HW_.out (by kernel_rfl)) (fun _ _ _ h => h) (Or.inl ⟨by rfl, ?_⟩) hHeld ?_ ?_
     rotate_left
     ·
      rintro w' ⟨s0, s1, s2, s3, s4, s5, s6, s7, s8, s9, s10, s11⟩
      go_simp
      with_reducible rfl
     rotate_left; focus (simp only [apz, i64_w, i32_w]; rfl)
     refine take_ (i := 37) (N := some 53) (v := ?_) (a' := ?_) (bm 61 48015088602185471) rfl rfl (take_ofW HT_.out HW_.out (by kernel_rfl)) (fun _ _ _ h => h) (Or.inl ⟨by rfl, ?_⟩) hHeld ?_ ?_
     rotate_left
     ·
      rintro w' ⟨s0, s1, s2, s3, s4, s5, s6, s7, s8, s9, s10, s11⟩
      go_simp
      with_reducible rfl
     rotate_left; focus (simp only [apz, i64_w, i32_w]; rfl)
     refine take_ (i := 39) (N := some 55) (v := ?_) (a' := ?_) (bm 61 48015638357999359) rfl rfl (take_ofW HT_.out HW_.out (by kernel_rfl)) (fun _ _ _ h => h) (Or.inl ⟨by rfl, ?_⟩) hHeld ?_ ?_
     rotate_left
     ·
      rintro w' ⟨s0, s1, s2, s3, s4, s5, s6, s7, s8, s9, s10, s11⟩
      go_simp
      with_reducible rfl
     rotate_left; focus (simp only [apz, i64_w, i32_w]; rfl)
     refine take_ (i := 41) (N := some 57) (v := ?_) (a' := ?_) (bm 61 48017837381254911) rfl rfl (take_ofW HT_.out HW_.out (by kernel_rfl)) (fun _ _ _ h => h) (Or.inl ⟨by rfl, ?_⟩) hHeld ?_ ?_
     rotate_left
     ·
      rintro w' ⟨s0, s1, s2, s3, s4, s5, s6, s7, s8, s9, s10, s11⟩
      go_simp
      with_reducible rfl
     rotate_left; focus (simp only [apz, i64_w, i32_w]; rfl)
     refine take_ (i := 43) (N := some 59) (v := ?_) (a' := ?_) (bm 61 48026633474277119) rfl rfl (take_ofW HT_.out HW_.out (by kernel_rfl)) (fun _ _ _ h => h) (Or.inl ⟨by rfl, ?_⟩) hHeld ?_ ?_
     rotate_left
     ·
      rintro w' ⟨s0, s1, s2, s3, s4, s5, s6, s7, s8, s9, s10, s11⟩
      go_simp
      with_reducible rfl
     rotate_left; focus (simp only [apz, i64_w, i32_w]; rfl)
     refine take_ (i := 45) (N := some 61) (v := ?_) (a' := ?_) (bm 61 48061817846365951) rfl rfl (take_ofW HT_.out HW_.out (by kernel_rfl)) (fun _ _ _ h => h) (Or.inl ⟨by rfl, ?_⟩) hHeld ?_ ?_
     rotate_left
     ·
      rintro w' ⟨s0, s1, s2, s3, s4, s5, s6, s7, s8, s9, s10, s11⟩
      go_simp
      with_reducible rfl
     rotate_left; focus (simp only [apz, i64_w, i32_w]; rfl)
     refine take_ (i := 48) (N := some 64) (v := ?_) (a' := ?_) (bm 61 48343292823076607) rfl rfl (take_ofW HT_.out HW_.out (by kernel_rfl)) (fun _ _ _ h => h) (Or.inl ⟨by rfl, ?_⟩) hHeld ?_ ?_
     rotate_left
     ·
      rintro w' ⟨s0, s1, s2, s3, s4, s5, s6, s7, s8, s9, s10, s11⟩
      go_simp
      with_reducible rfl
     rotate_left; focus (simp only [apz, i64_w, i32_w]; rfl)
     refine take_ (i := 50) (N := some 66) (v := ?_) (a' := ?_) (bm 61 49469192729919231) rfl rfl (take_ofW HT_.out HW_.out (by kernel_rfl)) (fun _ _ _ h => h) (Or.inl ⟨by rfl, ?_⟩) hHeld ?_ ?_
     rotate_left
     ·
      rintro w' ⟨s0, s1, s2, s3, s4, s5, s6, s7, s8, s9, s10, s11⟩
      go_simp
      with_reducible rfl
     rotate_left; focus (simp only [apz, i64_w, i32_w]; rfl)
     refine take_ (i := 52) (N := some 68) (v := ?_) (a' := ?_) (bm 61 53972792357289727) rfl rfl (take_ofW HT_.out HW_.out (by kernel_rfl)) (fun _ _ _ h => h) (Or.inl ⟨by rfl, ?_⟩) hHeld ?_ ?_
     rotate_left
     ·
      rintro w' ⟨s0, s1, s2, s3, s4, s5, s6, s7, s8, s9, s10, s11⟩
      go_simp
      with_reducible rfl
     rotate_left; focus (simp only [apz, i64_w, i32_w]; rfl)
     refine take_ (i := 54) (N := some 70) (v := ?_) (a' := ?_) (bm 61 71987190866771711) rfl rfl (take_ofW HT_.out HW_.out (by kernel_rfl)) (fun _ _ _ h => h) (Or.inl ⟨by rfl, ?_⟩) hHeld ?_ ?_
     rotate_left
     ·
      rintro w' ⟨s0, s1, s2, s3, s4, s5, s6, s7, s8, s9, s10, s11⟩
      go_simp
      with_reducible rfl
     rotate_left; focus (simp only [apz, i64_w, i32_w]; rfl)
     refine take_ (i := 56) (N := some 72) (v := ?_) (a' := ?_) (bm 61 144044784904699647) rfl rfl (take_ofW HT_.out HW_.out (by kernel_rfl)) (fun _ _ _ h => h) (Or.inl ⟨by rfl, ?_⟩) hHeld ?_ ?_
     rotate_left
     ·
      rintro w' ⟨s0, s1, s2, s3, s4, s5, s6, s7, s8, s9, s10, s11⟩
      go_simp
      with_reducible rfl
     rotate_left; focus (simp only [apz, i64_w, i32_w]; rfl)
     refine join_ (σ := Nat) 1 (bt 60 1) (fun s_ => [(24, .int .i64 t470), (33, .int .i64 t471), (42, .int .i64 t472), (51, .int .i64 t473), (62, .int .i64 t474), (73, .int .i64 t475), (6, .pointer (some ⟨s_, 0, none⟩)), (74, .agg #[.int .i64 t470, .int .i64 t471, .int .i64 t472, .int .i64 t473, .int .i64 t474, .int .i64 t475])]) (fun s_ w' => (w'.cell? ⟨gb466, 0, none⟩ = some (.int .i64 a1_0) ∧ w'.cell? ⟨gb466, 1, none⟩ = some (.int .i64 a1_1) ∧ w'.cell? ⟨gb466, 2, none⟩ = some (.int .i64 a1_2) ∧ w'.cell? ⟨gb466, 3, none⟩ = some (.int .i64 a1_3) ∧ w'.cell? ⟨gb466, 4, none⟩ = some (.int .i64 a1_4) ∧ w'.cell? ⟨gb466, 5, none⟩ = some (.int .i64 a1_5) ∧ w'.cell? ⟨gb465, 0, none⟩ = some (.int .i64 a0_0) ∧ w'.cell? ⟨gb465, 1, none⟩ = some (.int .i64 a0_1) ∧ w'.cell? ⟨gb465, 2, none⟩ = some (.int .i64 a0_2) ∧ w'.cell? ⟨gb465, 3, none⟩ = some (.int .i64 a0_3) ∧ w'.cell? ⟨gb465, 4, none⟩ = some (.int .i64 a0_4) ∧ w'.cell? ⟨gb465, 5, none⟩ = some (.int .i64 a0_5)) ∧ (w'.heap[gb465]? = some (.cells #[.int .i64 a0_0, .int .i64 a0_1, .int .i64 a0_2, .int .i64 a0_3, .int .i64 a0_4, .int .i64 a0_5] 23 (0, 0))) ∧ (w'.heap[gb466]? = some (.cells #[.int .i64 a1_0, .int .i64 a1_1, .int .i64 a1_2, .int .i64 a1_3, .int .i64 a1_4, .int .i64 a1_5] 23 (0, 0))) ∧ (w'.heap[gb467]? = some (.cells #[.int .i64 0, .int .i64 0, .int .i64 0, .int .i64 0, .int .i64 0, .int .i64 0] 23 (0, 0))) ∧ (w'.heap[s_]? = some (.cells #[.int .i64 0, .int .i64 0, .int .i64 0, .int .i64 0, .int .i64 0, .int .i64 0] 23 (0, 0))) ∧ (w.heap.size ≤ s_) ∧ (w.heap.size ≤ s_) ∧ (gb465 ≠ s_) ∧ (s_ ≠ gb465) ∧ (gb466 ≠ s_) ∧ (s_ ≠ gb466) ∧ (gb467 ≠ s_) ∧ (s_ ≠ gb467) ∧ (Below w.heap.size w w')) ?_ ?_
     rotate_left
     ·
      intro hJ8_17_26_35_46_57_59
      refine join_ (σ := Unit) 2 (bt 59 2) (fun s_ => [(24, .int .i64 t470), (33, .int .i64 t471), (42, .int .i64 t472), (51, .int .i64 t473), (62, .int .i64 t474), (73, .int .i64 t475), (74, .agg #[.int .i64 t470, .int .i64 t471, .int .i64 t472, .int .i64 t473, .int .i64 t474, .int .i64 t475])]) (fun s_ w' => (w'.cell? ⟨gb466, 0, none⟩ = some (.int .i64 a1_0) ∧ w'.cell? ⟨gb466, 1, none⟩ = some (.int .i64 a1_1) ∧ w'.cell? ⟨gb466, 2, none⟩ = some (.int .i64 a1_2) ∧ w'.cell? ⟨gb466, 3, none⟩ = some (.int .i64 a1_3) ∧ w'.cell? ⟨gb466, 4, none⟩ = some (.int .i64 a1_4) ∧ w'.cell? ⟨gb466, 5, none⟩ = some (.int .i64 a1_5) ∧ w'.cell? ⟨gb465, 0, none⟩ = some (.int .i64 a0_0) ∧ w'.cell? ⟨gb465, 1, none⟩ = some (.int .i64 a0_1) ∧ w'.cell? ⟨gb465, 2, none⟩ = some (.int .i64 a0_2) ∧ w'.cell? ⟨gb465, 3, none⟩ = some (.int .i64 a0_3) ∧ w'.cell? ⟨gb465, 4, none⟩ = some (.int .i64 a0_4) ∧ w'.cell? ⟨gb465, 5, none⟩ = some (.int .i64 a0_5)) ∧ (w'.heap[gb465]? = some (.cells #[.int .i64 a0_0, .int .i64 a0_1, .int .i64 a0_2, .int .i64 a0_3, .int .i64 a0_4, .int .i64 a0_5] 23 (0, 0))) ∧ (w'.heap[gb466]? = some (.cells #[.int .i64 a1_0, .int .i64 a1_1, .int .i64 a1_2, .int .i64 a1_3, .int .i64 a1_4, .int .i64 a1_5] 23 (0, 0))) ∧ (w'.heap[gb467]? = some (.cells #[.int .i64 0, .int .i64 0, .int .i64 0, .int .i64 0, .int .i64 0, .int .i64 0] 23 (0, 0))) ∧ (Below w.heap.size w w')) ?_ ?_
      rotate_left
      ·
       intro hJ8_17_26_35_46_57
       refine join_ (σ := Nat) 3 (bm 61 720575940379279359) (fun s_ => [(24, .int .i64 t470), (33, .int .i64 t471), (42, .int .i64 t472), (51, .int .i64 t473), (62, .int .i64 t474), (6, .pointer (some ⟨s_, 0, none⟩))]) (fun s_ w' => (w'.cell? ⟨gb466, 0, none⟩ = some (.int .i64 a1_0) ∧ w'.cell? ⟨gb466, 1, none⟩ = some (.int .i64 a1_1) ∧ w'.cell? ⟨gb466, 2, none⟩ = some (.int .i64 a1_2) ∧ w'.cell? ⟨gb466, 3, none⟩ = some (.int .i64 a1_3) ∧ w'.cell? ⟨gb466, 4, none⟩ = some (.int .i64 a1_4) ∧ w'.cell? ⟨gb466, 5, none⟩ = some (.int .i64 a1_5) ∧ w'.cell? ⟨gb465, 0, none⟩ = some (.int .i64 a0_0) ∧ w'.cell? ⟨gb465, 1, none⟩ = some (.int .i64 a0_1) ∧ w'.cell? ⟨gb465, 2, none⟩ = some (.int .i64 a0_2) ∧ w'.cell? ⟨gb465, 3, none⟩ = some (.int .i64 a0_3) ∧ w'.cell? ⟨gb465, 4, none⟩ = some (.int .i64 a0_4) ∧ w'.cell? ⟨gb465, 5, none⟩ = some (.int .i64 a0_5)) ∧ (w'.heap[gb465]? = some (.cells #[.int .i64 a0_0, .int .i64 a0_1, .int .i64 a0_2, .int .i64 a0_3, .int .i64 a0_4, .int .i64 a0_5] 23 (0, 0))) ∧ (w'.heap[gb466]? = some (.cells #[.int .i64 a1_0, .int .i64 a1_1, .int .i64 a1_2, .int .i64 a1_3, .int .i64 a1_4, .int .i64 a1_5] 23 (0, 0))) ∧ (w'.heap[gb467]? = some (.cells #[.int .i64 0, .int .i64 0, .int .i64 0, .int .i64 0, .int .i64 0, .int .i64 0] 23 (0, 0))) ∧ (w'.heap[s_]? = some (.cells #[.int .i64 0, .int .i64 0, .int .i64 0, .int .i64 0, .int .i64 0, .int .i64 0] 23 (0, 0))) ∧ (w.heap.size ≤ s_) ∧ (w.heap.size ≤ s_) ∧ (gb465 ≠ s_) ∧ (s_ ≠ gb465) ∧ (gb466 ≠ s_) ∧ (s_ ≠ gb466) ∧ (gb467 ≠ s_) ∧ (s_ ≠ gb467) ∧ (Below w.heap.size w w')) ?_ ?_
       rotate_left
       ·
        intro hJ8_17_26_35_46_59
        refine join_ (σ := Unit) 4 (bt 57 4) (fun s_ => [(24, .int .i64 t470), (33, .int .i64 t471), (42, .int .i64 t472), (51, .int .i64 t473), (62, .int .i64 t474)]) (fun s_ w' => (w'.cell? ⟨gb466, 0, none⟩ = some (.int .i64 a1_0) ∧ w'.cell? ⟨gb466, 1, none⟩ = some (.int .i64 a1_1) ∧ w'.cell? ⟨gb466, 2, none⟩ = some (.int .i64 a1_2) ∧ w'.cell? ⟨gb466, 3, none⟩ = some (.int .i64 a1_3) ∧ w'.cell? ⟨gb466, 4, none⟩ = some (.int .i64 a1_4) ∧ w'.cell? ⟨gb466, 5, none⟩ = some (.int .i64 a1_5) ∧ w'.cell? ⟨gb465, 0, none⟩ = some (.int .i64 a0_0) ∧ w'.cell? ⟨gb465, 1, none⟩ = some (.int .i64 a0_1) ∧ w'.cell? ⟨gb465, 2, none⟩ = some (.int .i64 a0_2) ∧ w'.cell? ⟨gb465, 3, none⟩ = some (.int .i64 a0_3) ∧ w'.cell? ⟨gb465, 4, none⟩ = some (.int .i64 a0_4) ∧ w'.cell? ⟨gb465, 5, none⟩ = some (.int .i64 a0_5)) ∧ (w'.heap[gb465]? = some (.cells #[.int .i64 a0_0, .int .i64 a0_1, .int .i64 a0_2, .int .i64 a0_3, .int .i64 a0_4, .int .i64 a0_5] 23 (0, 0))) ∧ (w'.heap[gb466]? = some (.cells #[.int .i64 a1_0, .int .i64 a1_1, .int .i64 a1_2, .int .i64 a1_3, .int .i64 a1_4, .int .i64 a1_5] 23 (0, 0))) ∧ (w'.heap[gb467]? = some (.cells #[.int .i64 0, .int .i64 0, .int .i64 0, .int .i64 0, .int .i64 0, .int .i64 0] 23 (0, 0))) ∧ (Below w.heap.size w w')) ?_ ?_
        rotate_left
        ·
         intro hJ8_17_26_35_46
         refine join_ (σ := Nat) 4 (bm 61 720505571635101695) (fun s_ => [(24, .int .i64 t470), (33, .int .i64 t471), (42, .int .i64 t472), (51, .int .i64 t473), (6, .pointer (some ⟨s_, 0, none⟩))]) (fun s_ w' => (w'.cell? ⟨gb466, 0, none⟩ = some (.int .i64 a1_0) ∧ w'.cell? ⟨gb466, 1, none⟩ = some (.int .i64 a1_1) ∧ w'.cell? ⟨gb466, 2, none⟩ = some (.int .i64 a1_2) ∧ w'.cell? ⟨gb466, 3, none⟩ = some (.int .i64 a1_3) ∧ w'.cell? ⟨gb466, 4, none⟩ = some (.int .i64 a1_4) ∧ w'.cell? ⟨gb466, 5, none⟩ = some (.int .i64 a1_5) ∧ w'.cell? ⟨gb465, 0, none⟩ = some (.int .i64 a0_0) ∧ w'.cell? ⟨gb465, 1, none⟩ = some (.int .i64 a0_1) ∧ w'.cell? ⟨gb465, 2, none⟩ = some (.int .i64 a0_2) ∧ w'.cell? ⟨gb465, 3, none⟩ = some (.int .i64 a0_3) ∧ w'.cell? ⟨gb465, 4, none⟩ = some (.int .i64 a0_4) ∧ w'.cell? ⟨gb465, 5, none⟩ = some (.int .i64 a0_5)) ∧ (w'.heap[gb465]? = some (.cells #[.int .i64 a0_0, .int .i64 a0_1, .int .i64 a0_2, .int .i64 a0_3, .int .i64 a0_4, .int .i64 a0_5] 23 (0, 0))) ∧ (w'.heap[gb466]? = some (.cells #[.int .i64 a1_0, .int .i64 a1_1, .int .i64 a1_2, .int .i64 a1_3, .int .i64 a1_4, .int .i64 a1_5] 23 (0, 0))) ∧ (w'.heap[gb467]? = some (.cells #[.int .i64 0, .int .i64 0, .int .i64 0, .int .i64 0, .int .i64 0, .int .i64 0] 23 (0, 0))) ∧ (w'.heap[s_]? = some (.cells #[.int .i64 0, .int .i64 0, .int .i64 0, .int .i64 0, .int .i64 0, .int .i64 0] 23 (0, 0))) ∧ (w.heap.size ≤ s_) ∧ (w.heap.size ≤ s_) ∧ (gb465 ≠ s_) ∧ (s_ ≠ gb465) ∧ (gb466 ≠ s_) ∧ (s_ ≠ gb466) ∧ (gb467 ≠ s_) ∧ (s_ ≠ gb467) ∧ (Below w.heap.size w w')) ?_ ?_
         rotate_left
         ·
          intro hJ8_17_26_35_59
          refine join_ (σ := Unit) 5 (bm 61 144044819331678207) (fun s_ => [(24, .int .i64 t470), (33, .int .i64 t471), (42, .int .i64 t472), (51, .int .i64 t473)]) (fun s_ w' => (w'.cell? ⟨gb466, 0, none⟩ = some (.int .i64 a1_0) ∧ w'.cell? ⟨gb466, 1, none⟩ = some (.int .i64 a1_1) ∧ w'.cell? ⟨gb466, 2, none⟩ = some (.int .i64 a1_2) ∧ w'.cell? ⟨gb466, 3, none⟩ = some (.int .i64 a1_3) ∧ w'.cell? ⟨gb466, 4, none⟩ = some (.int .i64 a1_4) ∧ w'.cell? ⟨gb466, 5, none⟩ = some (.int .i64 a1_5) ∧ w'.cell? ⟨gb465, 0, none⟩ = some (.int .i64 a0_0) ∧ w'.cell? ⟨gb465, 1, none⟩ = some (.int .i64 a0_1) ∧ w'.cell? ⟨gb465, 2, none⟩ = some (.int .i64 a0_2) ∧ w'.cell? ⟨gb465, 3, none⟩ = some (.int .i64 a0_3) ∧ w'.cell? ⟨gb465, 4, none⟩ = some (.int .i64 a0_4) ∧ w'.cell? ⟨gb465, 5, none⟩ = some (.int .i64 a0_5)) ∧ (w'.heap[gb465]? = some (.cells #[.int .i64 a0_0, .int .i64 a0_1, .int .i64 a0_2, .int .i64 a0_3, .int .i64 a0_4, .int .i64 a0_5] 23 (0, 0))) ∧ (w'.heap[gb466]? = some (.cells #[.int .i64 a1_0, .int .i64 a1_1, .int .i64 a1_2, .int .i64 a1_3, .int .i64 a1_4, .int .i64 a1_5] 23 (0, 0))) ∧ (w'.heap[gb467]? = some (.cells #[.int .i64 0, .int .i64 0, .int .i64 0, .int .i64 0, .int .i64 0, .int .i64 0] 23 (0, 0))) ∧ (Below w.heap.size w w')) ?_ ?_
          rotate_left
          ·
           intro hJ8_17_26_35
           refine join_ (σ := Nat) 5 (bm 61 720505537275363327) (fun s_ => [(24, .int .i64 t470), (33, .int .i64 t471), (42, .int .i64 t472), (6, .pointer (some ⟨s_, 0, none⟩))]) (fun s_ w' => (w'.cell? ⟨gb466, 0, none⟩ = some (.int .i64 a1_0) ∧ w'.cell? ⟨gb466, 1, none⟩ = some (.int .i64 a1_1) ∧ w'.cell? ⟨gb466, 2, none⟩ = some (.int .i64 a1_2) ∧ w'.cell? ⟨gb466, 3, none⟩ = some (.int .i64 a1_3) ∧ w'.cell? ⟨gb466, 4, none⟩ = some (.int .i64 a1_4) ∧ w'.cell? ⟨gb466, 5, none⟩ = some (.int .i64 a1_5) ∧ w'.cell? ⟨gb465, 0, none⟩ = some (.int .i64 a0_0) ∧ w'.cell? ⟨gb465, 1, none⟩ = some (.int .i64 a0_1) ∧ w'.cell? ⟨gb465, 2, none⟩ = some (.int .i64 a0_2) ∧ w'.cell? ⟨gb465, 3, none⟩ = some (.int .i64 a0_3) ∧ w'.cell? ⟨gb465, 4, none⟩ = some (.int .i64 a0_4) ∧ w'.cell? ⟨gb465, 5, none⟩ = some (.int .i64 a0_5)) ∧ (w'.heap[gb465]? = some (.cells #[.int .i64 a0_0, .int .i64 a0_1, .int .i64 a0_2, .int .i64 a0_3, .int .i64 a0_4, .int .i64 a0_5] 23 (0, 0))) ∧ (w'.heap[gb466]? = some (.cells #[.int .i64 a1_0, .int .i64 a1_1, .int .i64 a1_2, .int .i64 a1_3, .int .i64 a1_4, .int .i64 a1_5] 23 (0, 0))) ∧ (w'.heap[gb467]? = some (.cells #[.int .i64 0, .int .i64 0, .int .i64 0, .int .i64 0, .int .i64 0, .int .i64 0] 23 (0, 0))) ∧ (w'.heap[s_]? = some (.cells #[.int .i64 0, .int .i64 0, .int .i64 0, .int .i64 0, .int .i64 0, .int .i64 0] 23 (0, 0))) ∧ (w.heap.size ≤ s_) ∧ (w.heap.size ≤ s_) ∧ (gb465 ≠ s_) ∧ (s_ ≠ gb465) ∧ (gb466 ≠ s_) ∧ (s_ ≠ gb466) ∧ (gb467 ≠ s_) ∧ (s_ ≠ gb467) ∧ (Below w.heap.size w w')) ?_ ?_
           rotate_left
           ·
            intro hJ8_17_26_59
            refine join_ (σ := Unit) 6 (bm 61 144044784971939839) (fun s_ => [(24, .int .i64 t470), (33, .int .i64 t471), (42, .int .i64 t472)]) (fun s_ w' => (w'.cell? ⟨gb466, 0, none⟩ = some (.int .i64 a1_0) ∧ w'.cell? ⟨gb466, 1, none⟩ = some (.int .i64 a1_1) ∧ w'.cell? ⟨gb466, 2, none⟩ = some (.int .i64 a1_2) ∧ w'.cell? ⟨gb466, 3, none⟩ = some (.int .i64 a1_3) ∧ w'.cell? ⟨gb466, 4, none⟩ = some (.int .i64 a1_4) ∧ w'.cell? ⟨gb466, 5, none⟩ = some (.int .i64 a1_5) ∧ w'.cell? ⟨gb465, 0, none⟩ = some (.int .i64 a0_0) ∧ w'.cell? ⟨gb465, 1, none⟩ = some (.int .i64 a0_1) ∧ w'.cell? ⟨gb465, 2, none⟩ = some (.int .i64 a0_2) ∧ w'.cell? ⟨gb465, 3, none⟩ = some (.int .i64 a0_3) ∧ w'.cell? ⟨gb465, 4, none⟩ = some (.int .i64 a0_4) ∧ w'.cell? ⟨gb465, 5, none⟩ = some (.int .i64 a0_5)) ∧ (w'.heap[gb465]? = some (.cells #[.int .i64 a0_0, .int .i64 a0_1, .int .i64 a0_2, .int .i64 a0_3, .int .i64 a0_4, .int .i64 a0_5] 23 (0, 0))) ∧ (w'.heap[gb466]? = some (.cells #[.int .i64 a1_0, .int .i64 a1_1, .int .i64 a1_2, .int .i64 a1_3, .int .i64 a1_4, .int .i64 a1_5] 23 (0, 0))) ∧ (w'.heap[gb467]? = some (.cells #[.int .i64 0, .int .i64 0, .int .i64 0, .int .i64 0, .int .i64 0, .int .i64 0] 23 (0, 0))) ∧ (Below w.heap.size w w')) ?_ ?_
            rotate_left
            ·
             intro hJ8_17_26
             refine join_ (σ := Nat) 6 (bm 61 720505537208254463) (fun s_ => [(24, .int .i64 t470), (33, .int .i64 t471), (6, .pointer (some ⟨s_, 0, none⟩))]) (fun s_ w' => (w'.cell? ⟨gb466, 0, none⟩ = some (.int .i64 a1_0) ∧ w'.cell? ⟨gb466, 1, none⟩ = some (.int .i64 a1_1) ∧ w'.cell? ⟨gb466, 2, none⟩ = some (.int .i64 a1_2) ∧ w'.cell? ⟨gb466, 3, none⟩ = some (.int .i64 a1_3) ∧ w'.cell? ⟨gb466, 4, none⟩ = some (.int .i64 a1_4) ∧ w'.cell? ⟨gb466, 5, none⟩ = some (.int .i64 a1_5) ∧ w'.cell? ⟨gb465, 0, none⟩ = some (.int .i64 a0_0) ∧ w'.cell? ⟨gb465, 1, none⟩ = some (.int .i64 a0_1) ∧ w'.cell? ⟨gb465, 2, none⟩ = some (.int .i64 a0_2) ∧ w'.cell? ⟨gb465, 3, none⟩ = some (.int .i64 a0_3) ∧ w'.cell? ⟨gb465, 4, none⟩ = some (.int .i64 a0_4) ∧ w'.cell? ⟨gb465, 5, none⟩ = some (.int .i64 a0_5)) ∧ (w'.heap[gb465]? = some (.cells #[.int .i64 a0_0, .int .i64 a0_1, .int .i64 a0_2, .int .i64 a0_3, .int .i64 a0_4, .int .i64 a0_5] 23 (0, 0))) ∧ (w'.heap[gb466]? = some (.cells #[.int .i64 a1_0, .int .i64 a1_1, .int .i64 a1_2, .int .i64 a1_3, .int .i64 a1_4, .int .i64 a1_5] 23 (0, 0))) ∧ (w'.heap[gb467]? = some (.cells #[.int .i64 0, .int .i64 0, .int .i64 0, .int .i64 0, .int .i64 0, .int .i64 0] 23 (0, 0))) ∧ (w'.heap[s_]? = some (.cells #[.int .i64 0, .int .i64 0, .int .i64 0, .int .i64 0, .int .i64 0, .int .i64 0] 23 (0, 0))) ∧ (w.heap.size ≤ s_) ∧ (w.heap.size ≤ s_) ∧ (gb465 ≠ s_) ∧ (s_ ≠ gb465) ∧ (gb466 ≠ s_) ∧ (s_ ≠ gb466) ∧ (gb467 ≠ s_) ∧ (s_ ≠ gb467) ∧ (Below w.heap.size w w')) ?_ ?_
             rotate_left
             ·
              intro hJ8_17_59
              refine join_ (σ := Unit) 7 (bm 61 144044784904830975) (fun s_ => [(24, .int .i64 t470), (33, .int .i64 t471)]) (fun s_ w' => (w'.cell? ⟨gb466, 0, none⟩ = some (.int .i64 a1_0) ∧ w'.cell? ⟨gb466, 1, none⟩ = some (.int .i64 a1_1) ∧ w'.cell? ⟨gb466, 2, none⟩ = some (.int .i64 a1_2) ∧ w'.cell? ⟨gb466, 3, none⟩ = some (.int .i64 a1_3) ∧ w'.cell? ⟨gb466, 4, none⟩ = some (.int .i64 a1_4) ∧ w'.cell? ⟨gb466, 5, none⟩ = some (.int .i64 a1_5) ∧ w'.cell? ⟨gb465, 0, none⟩ = some (.int .i64 a0_0) ∧ w'.cell? ⟨gb465, 1, none⟩ = some (.int .i64 a0_1) ∧ w'.cell? ⟨gb465, 2, none⟩ = some (.int .i64 a0_2) ∧ w'.cell? ⟨gb465, 3, none⟩ = some (.int .i64 a0_3) ∧ w'.cell? ⟨gb465, 4, none⟩ = some (.int .i64 a0_4) ∧ w'.cell? ⟨gb465, 5, none⟩ = some (.int .i64 a0_5)) ∧ (w'.heap[gb465]? = some (.cells #[.int .i64 a0_0, .int .i64 a0_1, .int .i64 a0_2, .int .i64 a0_3, .int .i64 a0_4, .int .i64 a0_5] 23 (0, 0))) ∧ (w'.heap[gb466]? = some (.cells #[.int .i64 a1_0, .int .i64 a1_1, .int .i64 a1_2, .int .i64 a1_3, .int .i64 a1_4, .int .i64 a1_5] 23 (0, 0))) ∧ (w'.heap[gb467]? = some (.cells #[.int .i64 0, .int .i64 0, .int .i64 0, .int .i64 0, .int .i64 0, .int .i64 0] 23 (0, 0))) ∧ (Below w.heap.size w w')) ?_ ?_
              rotate_left
              ·
               intro hJ8_17
               refine join_ (σ := Nat) 7 (bm 61 720505537208123391) (fun s_ => [(24, .int .i64 t470), (6, .pointer (some ⟨s_, 0, none⟩))]) (fun s_ w' => (w'.cell? ⟨gb466, 0, none⟩ = some (.int .i64 a1_0) ∧ w'.cell? ⟨gb466, 1, none⟩ = some (.int .i64 a1_1) ∧ w'.cell? ⟨gb466, 2, none⟩ = some (.int .i64 a1_2) ∧ w'.cell? ⟨gb466, 3, none⟩ = some (.int .i64 a1_3) ∧ w'.cell? ⟨gb466, 4, none⟩ = some (.int .i64 a1_4) ∧ w'.cell? ⟨gb466, 5, none⟩ = some (.int .i64 a1_5) ∧ w'.cell? ⟨gb465, 0, none⟩ = some (.int .i64 a0_0) ∧ w'.cell? ⟨gb465, 1, none⟩ = some (.int .i64 a0_1) ∧ w'.cell? ⟨gb465, 2, none⟩ = some (.int .i64 a0_2) ∧ w'.cell? ⟨gb465, 3, none⟩ = some (.int .i64 a0_3) ∧ w'.cell? ⟨gb465, 4, none⟩ = some (.int .i64 a0_4) ∧ w'.cell? ⟨gb465, 5, none⟩ = some (.int .i64 a0_5)) ∧ (w'.heap[gb465]? = some (.cells #[.int .i64 a0_0, .int .i64 a0_1, .int .i64 a0_2, .int .i64 a0_3, .int .i64 a0_4, .int .i64 a0_5] 23 (0, 0))) ∧ (w'.heap[gb466]? = some (.cells #[.int .i64 a1_0, .int .i64 a1_1, .int .i64 a1_2, .int .i64 a1_3, .int .i64 a1_4, .int .i64 a1_5] 23 (0, 0))) ∧ (w'.heap[gb467]? = some (.cells #[.int .i64 0, .int .i64 0, .int .i64 0, .int .i64 0, .int .i64 0, .int .i64 0] 23 (0, 0))) ∧ (w'.heap[s_]? = some (.cells #[.int .i64 0, .int .i64 0, .int .i64 0, .int .i64 0, .int .i64 0, .int .i64 0] 23 (0, 0))) ∧ (w.heap.size ≤ s_) ∧ (w.heap.size ≤ s_) ∧ (gb465 ≠ s_) ∧ (s_ ≠ gb465) ∧ (gb466 ≠ s_) ∧ (s_ ≠ gb466) ∧ (gb467 ≠ s_) ∧ (s_ ≠ gb467) ∧ (Below w.heap.size w w')) ?_ ?_
               rotate_left
               ·
                intro hJ8_59
                refine join_ (σ := Unit) 8 (bm 61 144044784904699903) (fun s_ => [(24, .int .i64 t470)]) (fun s_ w' => (w'.cell? ⟨gb466, 0, none⟩ = some (.int .i64 a1_0) ∧ w'.cell? ⟨gb466, 1, none⟩ = some (.int .i64 a1_1) ∧ w'.cell? ⟨gb466, 2, none⟩ = some (.int .i64 a1_2) ∧ w'.cell? ⟨gb466, 3, none⟩ = some (.int .i64 a1_3) ∧ w'.cell? ⟨gb466, 4, none⟩ = some (.int .i64 a1_4) ∧ w'.cell? ⟨gb466, 5, none⟩ = some (.int .i64 a1_5) ∧ w'.cell? ⟨gb465, 0, none⟩ = some (.int .i64 a0_0) ∧ w'.cell? ⟨gb465, 1, none⟩ = some (.int .i64 a0_1) ∧ w'.cell? ⟨gb465, 2, none⟩ = some (.int .i64 a0_2) ∧ w'.cell? ⟨gb465, 3, none⟩ = some (.int .i64 a0_3) ∧ w'.cell? ⟨gb465, 4, none⟩ = some (.int .i64 a0_4) ∧ w'.cell? ⟨gb465, 5, none⟩ = some (.int .i64 a0_5)) ∧ (w'.heap[gb465]? = some (.cells #[.int .i64 a0_0, .int .i64 a0_1, .int .i64 a0_2, .int .i64 a0_3, .int .i64 a0_4, .int .i64 a0_5] 23 (0, 0))) ∧ (w'.heap[gb466]? = some (.cells #[.int .i64 a1_0, .int .i64 a1_1, .int .i64 a1_2, .int .i64 a1_3, .int .i64 a1_4, .int .i64 a1_5] 23 (0, 0))) ∧ (w'.heap[gb467]? = some (.cells #[.int .i64 0, .int .i64 0, .int .i64 0, .int .i64 0, .int .i64 0, .int .i64 0] 23 (0, 0))) ∧ (Below w.heap.size w w')) ?_ ?_
                rotate_left
                ·
                 intro hJ8
                 refine join_ (σ := Nat) 8 (bm 61 720505537208123135) (fun s_ => [(6, .pointer (some ⟨s_, 0, none⟩))]) (fun s_ w' => (w'.cell? ⟨gb466, 0, none⟩ = some (.int .i64 a1_0) ∧ w'.cell? ⟨gb466, 1, none⟩ = some (.int .i64 a1_1) ∧ w'.cell? ⟨gb466, 2, none⟩ = some (.int .i64 a1_2) ∧ w'.cell? ⟨gb466, 3, none⟩ = some (.int .i64 a1_3) ∧ w'.cell? ⟨gb466, 4, none⟩ = some (.int .i64 a1_4) ∧ w'.cell? ⟨gb466, 5, none⟩ = some (.int .i64 a1_5) ∧ w'.cell? ⟨gb465, 0, none⟩ = some (.int .i64 a0_0) ∧ w'.cell? ⟨gb465, 1, none⟩ = some (.int .i64 a0_1) ∧ w'.cell? ⟨gb465, 2, none⟩ = some (.int .i64 a0_2) ∧ w'.cell? ⟨gb465, 3, none⟩ = some (.int .i64 a0_3) ∧ w'.cell? ⟨gb465, 4, none⟩ = some (.int .i64 a0_4) ∧ w'.cell? ⟨gb465, 5, none⟩ = some (.int .i64 a0_5)) ∧ (w'.heap[gb465]? = some (.cells #[.int .i64 a0_0, .int .i64 a0_1, .int .i64 a0_2, .int .i64 a0_3, .int .i64 a0_4, .int .i64 a0_5] 23 (0, 0))) ∧ (w'.heap[gb466]? = some (.cells #[.int .i64 a1_0, .int .i64 a1_1, .int .i64 a1_2, .int .i64 a1_3, .int .i64 a1_4, .int .i64 a1_5] 23 (0, 0))) ∧ (w'.heap[gb467]? = some (.cells #[.int .i64 0, .int .i64 0, .int .i64 0, .int .i64 0, .int .i64 0, .int .i64 0] 23 (0, 0))) ∧ (w'.heap[s_]? = some (.cells #[.int .i64 0, .int .i64 0, .int .i64 0, .int .i64 0, .int .i64 0, .int .i64 0] 23 (0, 0))) ∧ (w.heap.size ≤ s_) ∧ (w.heap.size ≤ s_) ∧ (gb465 ≠ s_) ∧ (s_ ≠ gb465) ∧ (gb466 ≠ s_) ∧ (s_ ≠ gb466) ∧ (gb467 ≠ s_) ∧ (s_ ≠ gb467) ∧ (Below w.heap.size w w')) ?_ ?_
                 rotate_left
                 ·
                  intro hJ59
                  refine two_ (i := 8) (j := 59) (Ni := some 24) (Nj := some 6) (bm 61 144044784904699903) (bm 61 720505537208123135) rfl rfl rfl rfl (two_of HT_.out (by kernel_rfl)) (by decide) (by decide) (fun K hK => ?_) (fun K hK => ?_)
                  ·
                   skip
                   refine goes_ Tryd.func22 (by kernel_rfl) rfl #[.int .i64 a1_0, .int .i64 a0_0, .int .i64 a1_2, .int .i64 a0_1, .int .i64 0] (by rfl) rfl rfl (by (try simp only [List.map_toArray, List.map_cons, List.map_nil]); first | done | rfl | (simp only [List.length_drop, List.length_take]; rfl)) ?_
                   with_reducible refine (pointillistref08_sum.calls kj2 a1_0 a0_0 a1_2 a0_1 0 t470 _ A25.out).mono ?_
                   rintro e w58 ⟨rfl, hb⟩
                   refine ⟨_, rfl, ?_⟩
                   have n0_ := Aside0.mk (blk_below (bq BK465.out) hb)
                   have n1_ := Aside0.mk (blk_below (bq BK466.out) hb)
                   have n2_ := Aside0.mk (blk_below (bq BK467.out) hb)
                   have n3_ := Aside0.mk (below_step (wq HB.out) hb)
                   clear BK465 BK466 BK467 HB; have BK465 := n0_; have BK466 := n1_; have BK467 := n2_; have HB := n3_; clear n0_ n1_ n2_ n3_
                   (try clear hb)
                   (try clear hb2)
                   (try clear hk)
                   (try clear hi)
                   refine hK.out _ _ ⟨(blk_cell BK466.out 0).trans rfl, (blk_cell BK466.out 1).trans rfl, (blk_cell BK466.out 2).trans rfl, (blk_cell BK466.out 3).trans rfl, (blk_cell BK466.out 4).trans rfl, (blk_cell BK466.out 5).trans rfl, (blk_cell BK465.out 0).trans rfl, (blk_cell BK465.out 1).trans rfl, (blk_cell BK465.out 2).trans rfl, (blk_cell BK465.out 3).trans rfl, (blk_cell BK465.out 4).trans rfl, (blk_cell BK465.out 5).trans rfl⟩ (fun hHeld => ?_)
                   clear hK K
                   refine norm_ (a' := ?_) ?_ ?_
                   rotate_left
                   ·
                    show Act.put _ (some 24) _ = _
                    simp only [apz, i64_w, i32_w]
                    rfl
                   exact norm_ (by first | (simp only [putAll, apz]; done) | (simp only [putAll, apz]; rfl)) (hJ8 () _ ⟨hHeld, (bq BK465.out), (bq BK466.out), (bq BK467.out), (wq HB.out)⟩)
                  ·
                   skip
                   refine box_step ?hg (N := 6) ?hd (cs := #[.int .i64 0, .int .i64 0, .int .i64 0, .int .i64 0, .int .i64 0, .int .i64 0]) (t := 23) ?hr ?_; (case hd => rfl); (case hg => rfl); (case hr => first | (go_simp; done) | (go_simp; rfl))
                   intro gb476 hg w58 hbox hb
                   have n0_ := Aside0.mk (blk_below (bq BK465.out) hb)
                   have n1_ := Aside0.mk (blk_below (bq BK466.out) hb)
                   have n2_ := Aside0.mk (blk_below (bq BK467.out) hb)
                   have n3_ := Aside0.mk (below_step (wq HB.out) hb)
                   have n4_ := Aside0.mk (hbox)
                   have n5_ := Aside0.mk ((by rw [hg]; exact (below_size (wq HB.out)) : w.heap.size ≤ gb476))
                   have n6_ := Aside0.mk ((by rw [hg]; exact (below_size (wq HB.out)) : w.heap.size ≤ gb476))
                   have n7_ := Aside0.mk ((by rw [hg]; exact Nat.ne_of_lt (blk_lt (bq BK465.out)) : gb465 ≠ gb476))
                   have n8_ := Aside0.mk ((by rw [hg]; exact Nat.ne_of_gt (blk_lt (bq BK465.out)) : gb476 ≠ gb465))
                   have n9_ := Aside0.mk ((by rw [hg]; exact Nat.ne_of_lt (blk_lt (bq BK466.out)) : gb466 ≠ gb476))
                   have n10_ := Aside0.mk ((by rw [hg]; exact Nat.ne_of_gt (blk_lt (bq BK466.out)) : gb476 ≠ gb466))
                   have n11_ := Aside0.mk ((by rw [hg]; exact Nat.ne_of_lt (blk_lt (bq BK467.out)) : gb467 ≠ gb476))
                   have n12_ := Aside0.mk ((by rw [hg]; exact Nat.ne_of_gt (blk_lt (bq BK467.out)) : gb476 ≠ gb467))
                   clear BK465 BK466 BK467 HB; have BK465 := n0_; have BK466 := n1_; have BK467 := n2_; have HB := n3_; have BK476 := n4_; have GW476 := n5_; have GE476 := n6_; have NB465_476 := n7_; have NB476_465 := n8_; have NB466_476 := n9_; have NB476_466 := n10_; have NB467_476 := n11_; have NB476_467 := n12_; clear n0_ n1_ n2_ n3_ n4_ n5_ n6_ n7_ n8_ n9_ n10_ n11_ n12_ hb hbox hg
                   refine hK.out _ _ ⟨(blk_cell BK466.out 0).trans rfl, (blk_cell BK466.out 1).trans rfl, (blk_cell BK466.out 2).trans rfl, (blk_cell BK466.out 3).trans rfl, (blk_cell BK466.out 4).trans rfl, (blk_cell BK466.out 5).trans rfl, (blk_cell BK465.out 0).trans rfl, (blk_cell BK465.out 1).trans rfl, (blk_cell BK465.out 2).trans rfl, (blk_cell BK465.out 3).trans rfl, (blk_cell BK465.out 4).trans rfl, (blk_cell BK465.out 5).trans rfl⟩ (fun hHeld => ?_)
                   clear hK K
                   refine norm_ (a' := ?_) ?_ ?_
                   rotate_left
                   ·
                    show Act.put _ (some 6) _ = _
                    simp only [apz, i64_w, i32_w]
                    rfl
                   exact norm_ (by first | (simp only [putAll, apz]; done) | (simp only [putAll, apz]; rfl)) (hJ59 (gb476) _ ⟨hHeld, (bq BK465.out), (bq BK466.out), (bq BK467.out), (bq BK476.out), GW476.out, GE476.out, NB465_476.out, NB476_465.out, NB466_476.out, NB476_466.out, NB467_476.out, NB476_467.out, (wq HB.out)⟩)
                 ·
                  skip
                  rintro gb476 w59 ⟨hS_, h0_, h1_, h2_, h3_, h4_, h5_, h6_, h7_, h8_, h9_, h10_, h11_, h12_⟩
                  have n0_ : Aside0 (w59.heap[gb465]? = some (.cells #[.int .i64 a0_0, .int .i64 a0_1, .int .i64 a0_2, .int .i64 a0_3, .int .i64 a0_4, .int .i64 a0_5] 23 (0, 0))) := ⟨h0_⟩
                  have n1_ : Aside0 (w59.heap[gb466]? = some (.cells #[.int .i64 a1_0, .int .i64 a1_1, .int .i64 a1_2, .int .i64 a1_3, .int .i64 a1_4, .int .i64 a1_5] 23 (0, 0))) := ⟨h1_⟩
                  have n2_ : Aside0 (w59.heap[gb467]? = some (.cells #[.int .i64 0, .int .i64 0, .int .i64 0, .int .i64 0, .int .i64 0, .int .i64 0] 23 (0, 0))) := ⟨h2_⟩
                  have n3_ : Aside0 (w59.heap[gb476]? = some (.cells #[.int .i64 0, .int .i64 0, .int .i64 0, .int .i64 0, .int .i64 0, .int .i64 0] 23 (0, 0))) := ⟨h3_⟩
                  have n4_ : Aside0 (w.heap.size ≤ gb476) := ⟨h4_⟩
                  have n5_ : Aside0 (w.heap.size ≤ gb476) := ⟨h5_⟩
                  have n6_ : Aside0 (gb465 ≠ gb476) := ⟨h6_⟩
                  have n7_ : Aside0 (gb476 ≠ gb465) := ⟨h7_⟩
                  have n8_ : Aside0 (gb466 ≠ gb476) := ⟨h8_⟩
                  have n9_ : Aside0 (gb476 ≠ gb466) := ⟨h9_⟩
                  have n10_ : Aside0 (gb467 ≠ gb476) := ⟨h10_⟩
                  have n11_ : Aside0 (gb476 ≠ gb467) := ⟨h11_⟩
                  have n12_ : Aside0 (Below w.heap.size w w59) := ⟨h12_⟩
                  clear BK465 BK466 BK467 HB; clear h0_ h1_ h2_ h3_ h4_ h5_ h6_ h7_ h8_ h9_ h10_ h11_ h12_; have BK465 := n0_; have BK466 := n1_; have BK467 := n2_; have BK476 := n3_; have GW476 := n4_; have GE476 := n5_; have NB465_476 := n6_; have NB476_465 := n7_; have NB466_476 := n8_; have NB476_466 := n9_; have NB467_476 := n10_; have NB476_467 := n11_; have HB := n12_; clear n0_ n1_ n2_ n3_ n4_ n5_ n6_ n7_ n8_ n9_ n10_ n11_ n12_
                  have hHeld : w59.cell? ⟨gb466, 0, none⟩ = some (.int .i64 a1_0) ∧ w59.cell? ⟨gb466, 1, none⟩ = some (.int .i64 a1_1) ∧ w59.cell? ⟨gb466, 2, none⟩ = some (.int .i64 a1_2) ∧ w59.cell? ⟨gb466, 3, none⟩ = some (.int .i64 a1_3) ∧ w59.cell? ⟨gb466, 4, none⟩ = some (.int .i64 a1_4) ∧ w59.cell? ⟨gb466, 5, none⟩ = some (.int .i64 a1_5) ∧ w59.cell? ⟨gb465, 0, none⟩ = some (.int .i64 a0_0) ∧ w59.cell? ⟨gb465, 1, none⟩ = some (.int .i64 a0_1) ∧ w59.cell? ⟨gb465, 2, none⟩ = some (.int .i64 a0_2) ∧ w59.cell? ⟨gb465, 3, none⟩ = some (.int .i64 a0_3) ∧ w59.cell? ⟨gb465, 4, none⟩ = some (.int .i64 a0_4) ∧ w59.cell? ⟨gb465, 5, none⟩ = some (.int .i64 a0_5) := hS_
                  refine norm_ (a' := ?_) ?_ ?_
                  rotate_left
                  ·
                   simp only [putAll, apz]
                   rfl
                  refine one_ (i := 8) (N := some 24) (bm 61 720505537208123391) rfl rfl (one_of HT_.out (by kernel_rfl)) (by decide) (fun K hK => ?_)
                  refine goes_ Tryd.func22 (by kernel_rfl) rfl #[.int .i64 a1_0, .int .i64 a0_0, .int .i64 a1_2, .int .i64 a0_1, .int .i64 0] (by rfl) rfl rfl (by (try simp only [List.map_toArray, List.map_cons, List.map_nil]); first | done | rfl | (simp only [List.length_drop, List.length_take]; rfl)) ?_
                  with_reducible refine (pointillistref08_sum.calls kj2 a1_0 a0_0 a1_2 a0_1 0 t470 _ A25.out).mono ?_
                  rintro e w60 ⟨rfl, hb⟩
                  refine ⟨_, rfl, ?_⟩
                  have n0_ := Aside0.mk (blk_below (bq BK465.out) hb)
                  have n1_ := Aside0.mk (blk_below (bq BK466.out) hb)
                  have n2_ := Aside0.mk (blk_below (bq BK467.out) hb)
                  have n3_ := Aside0.mk (blk_below (bq BK476.out) hb)
                  have n4_ := Aside0.mk (below_step (wq HB.out) hb)
                  clear BK465 BK466 BK467 BK476; clear HB; have BK465 := n0_; have BK466 := n1_; have BK467 := n2_; have BK476 := n3_; have HB := n4_; clear n0_ n1_ n2_ n3_ n4_
                  (try clear hb)
                  (try clear hb2)
                  (try clear hk)
                  (try clear hi)
                  refine hK.out _ _ ⟨(blk_cell BK466.out 0).trans rfl, (blk_cell BK466.out 1).trans rfl, (blk_cell BK466.out 2).trans rfl, (blk_cell BK466.out 3).trans rfl, (blk_cell BK466.out 4).trans rfl, (blk_cell BK466.out 5).trans rfl, (blk_cell BK465.out 0).trans rfl, (blk_cell BK465.out 1).trans rfl, (blk_cell BK465.out 2).trans rfl, (blk_cell BK465.out 3).trans rfl, (blk_cell BK465.out 4).trans rfl, (blk_cell BK465.out 5).trans rfl⟩ (fun hHeld => ?_)
                  clear hK K
                  refine norm_ (a' := ?_) ?_ ?_
                  rotate_left
                  ·
                   show Act.put _ (some 24) _ = _
                   simp only [apz, i64_w, i32_w]
                   rfl
                  exact norm_ (by first | (simp only [putAll, apz]; done) | (simp only [putAll, apz]; rfl)) (hJ8_59 (gb476) _ ⟨hHeld, (bq BK465.out), (bq BK466.out), (bq BK467.out), (bq BK476.out), GW476.out, GE476.out, NB465_476.out, NB476_465.out, NB466_476.out, NB476_466.out, NB467_476.out, NB476_467.out, (wq HB.out)⟩)
                ·
                 skip
                 rintro _ w59 ⟨hS_, h0_, h1_, h2_, h3_⟩
                 have n0_ : Aside0 (w59.heap[gb465]? = some (.cells #[.int .i64 a0_0, .int .i64 a0_1, .int .i64 a0_2, .int .i64 a0_3, .int .i64 a0_4, .int .i64 a0_5] 23 (0, 0))) := ⟨h0_⟩
                 have n1_ : Aside0 (w59.heap[gb466]? = some (.cells #[.int .i64 a1_0, .int .i64 a1_1, .int .i64 a1_2, .int .i64 a1_3, .int .i64 a1_4, .int .i64 a1_5] 23 (0, 0))) := ⟨h1_⟩
                 have n2_ : Aside0 (w59.heap[gb467]? = some (.cells #[.int .i64 0, .int .i64 0, .int .i64 0, .int .i64 0, .int .i64 0, .int .i64 0] 23 (0, 0))) := ⟨h2_⟩
                 have n3_ : Aside0 (Below w.heap.size w w59) := ⟨h3_⟩
                 clear BK465 BK466 BK467 HB; clear h0_ h1_ h2_ h3_; have BK465 := n0_; have BK466 := n1_; have BK467 := n2_; have HB := n3_; clear n0_ n1_ n2_ n3_
                 have hHeld : w59.cell? ⟨gb466, 0, none⟩ = some (.int .i64 a1_0) ∧ w59.cell? ⟨gb466, 1, none⟩ = some (.int .i64 a1_1) ∧ w59.cell? ⟨gb466, 2, none⟩ = some (.int .i64 a1_2) ∧ w59.cell? ⟨gb466, 3, none⟩ = some (.int .i64 a1_3) ∧ w59.cell? ⟨gb466, 4, none⟩ = some (.int .i64 a1_4) ∧ w59.cell? ⟨gb466, 5, none⟩ = some (.int .i64 a1_5) ∧ w59.cell? ⟨gb465, 0, none⟩ = some (.int .i64 a0_0) ∧ w59.cell? ⟨gb465, 1, none⟩ = some (.int .i64 a0_1) ∧ w59.cell? ⟨gb465, 2, none⟩ = some (.int .i64 a0_2) ∧ w59.cell? ⟨gb465, 3, none⟩ = some (.int .i64 a0_3) ∧ w59.cell? ⟨gb465, 4, none⟩ = some (.int .i64 a0_4) ∧ w59.cell? ⟨gb465, 5, none⟩ = some (.int .i64 a0_5) := hS_
                 refine norm_ (a' := ?_) ?_ ?_
                 rotate_left
                 ·
                  simp only [putAll, apz]
                  rfl
                 refine two_ (i := 17) (j := 59) (Ni := some 33) (Nj := some 6) (bm 61 144044784904830975) (bm 61 720505537208123391) rfl rfl rfl rfl (two_of HT_.out (by kernel_rfl)) (by decide) (by decide) (fun K hK => ?_) (fun K hK => ?_)
                 ·
                  skip
                  refine goes_ Tryd.func22 (by kernel_rfl) rfl #[.int .i64 a1_1, .int .i64 a0_0, .int .i64 a1_3, .int .i64 a0_1, .int .i64 0] (by rfl) rfl rfl (by (try simp only [List.map_toArray, List.map_cons, List.map_nil]); first | done | rfl | (simp only [List.length_drop, List.length_take]; rfl)) ?_
                  with_reducible refine (pointillistref08_sum.calls kj2 a1_1 a0_0 a1_3 a0_1 0 t471 _ A26.out).mono ?_
                  rintro e w60 ⟨rfl, hb⟩
                  refine ⟨_, rfl, ?_⟩
                  have n0_ := Aside0.mk (blk_below (bq BK465.out) hb)
                  have n1_ := Aside0.mk (blk_below (bq BK466.out) hb)
                  have n2_ := Aside0.mk (blk_below (bq BK467.out) hb)
                  have n3_ := Aside0.mk (below_step (wq HB.out) hb)
                  clear BK465 BK466 BK467 HB; have BK465 := n0_; have BK466 := n1_; have BK467 := n2_; have HB := n3_; clear n0_ n1_ n2_ n3_
                  (try clear hb)
                  (try clear hb2)
                  (try clear hk)
                  (try clear hi)
                  refine hK.out _ _ ⟨(blk_cell BK466.out 0).trans rfl, (blk_cell BK466.out 1).trans rfl, (blk_cell BK466.out 2).trans rfl, (blk_cell BK466.out 3).trans rfl, (blk_cell BK466.out 4).trans rfl, (blk_cell BK466.out 5).trans rfl, (blk_cell BK465.out 0).trans rfl, (blk_cell BK465.out 1).trans rfl, (blk_cell BK465.out 2).trans rfl, (blk_cell BK465.out 3).trans rfl, (blk_cell BK465.out 4).trans rfl, (blk_cell BK465.out 5).trans rfl⟩ (fun hHeld => ?_)
                  clear hK K
                  refine norm_ (a' := ?_) ?_ ?_
                  rotate_left
                  ·
                   show Act.put _ (some 33) _ = _
                   simp only [apz, i64_w, i32_w]
                   rfl
                  exact norm_ (by first | (simp only [putAll, apz]; done) | (simp only [putAll, apz]; rfl)) (hJ8_17 () _ ⟨hHeld, (bq BK465.out), (bq BK466.out), (bq BK467.out), (wq HB.out)⟩)
                 ·
                  skip
                  refine box_step ?hg (N := 6) ?hd (cs := #[.int .i64 0, .int .i64 0, .int .i64 0, .int .i64 0, .int .i64 0, .int .i64 0]) (t := 23) ?hr ?_; (case hd => rfl); (case hg => rfl); (case hr => first | (go_simp; done) | (go_simp; rfl))
                  intro gb476 hg w60 hbox hb
                  have n0_ := Aside0.mk (blk_below (bq BK465.out) hb)
                  have n1_ := Aside0.mk (blk_below (bq BK466.out) hb)
                  have n2_ := Aside0.mk (blk_below (bq BK467.out) hb)
                  have n3_ := Aside0.mk (below_step (wq HB.out) hb)
                  have n4_ := Aside0.mk (hbox)
                  have n5_ := Aside0.mk ((by rw [hg]; exact (below_size (wq HB.out)) : w.heap.size ≤ gb476))
                  have n6_ := Aside0.mk ((by rw [hg]; exact (below_size (wq HB.out)) : w.heap.size ≤ gb476))
                  have n7_ := Aside0.mk ((by rw [hg]; exact Nat.ne_of_lt (blk_lt (bq BK465.out)) : gb465 ≠ gb476))
                  have n8_ := Aside0.mk ((by rw [hg]; exact Nat.ne_of_gt (blk_lt (bq BK465.out)) : gb476 ≠ gb465))
                  have n9_ := Aside0.mk ((by rw [hg]; exact Nat.ne_of_lt (blk_lt (bq BK466.out)) : gb466 ≠ gb476))
                  have n10_ := Aside0.mk ((by rw [hg]; exact Nat.ne_of_gt (blk_lt (bq BK466.out)) : gb476 ≠ gb466))
                  have n11_ := Aside0.mk ((by rw [hg]; exact Nat.ne_of_lt (blk_lt (bq BK467.out)) : gb467 ≠ gb476))
                  have n12_ := Aside0.mk ((by rw [hg]; exact Nat.ne_of_gt (blk_lt (bq BK467.out)) : gb476 ≠ gb467))
                  clear BK465 BK466 BK467 HB; have BK465 := n0_; have BK466 := n1_; have BK467 := n2_; have HB := n3_; have BK476 := n4_; have GW476 := n5_; have GE476 := n6_; have NB465_476 := n7_; have NB476_465 := n8_; have NB466_476 := n9_; have NB476_466 := n10_; have NB467_476 := n11_; have NB476_467 := n12_; clear n0_ n1_ n2_ n3_ n4_ n5_ n6_ n7_ n8_ n9_ n10_ n11_ n12_ hb hbox hg
                  refine hK.out _ _ ⟨(blk_cell BK466.out 0).trans rfl, (blk_cell BK466.out 1).trans rfl, (blk_cell BK466.out 2).trans rfl, (blk_cell BK466.out 3).trans rfl, (blk_cell BK466.out 4).trans rfl, (blk_cell BK466.out 5).trans rfl, (blk_cell BK465.out 0).trans rfl, (blk_cell BK465.out 1).trans rfl, (blk_cell BK465.out 2).trans rfl, (blk_cell BK465.out 3).trans rfl, (blk_cell BK465.out 4).trans rfl, (blk_cell BK465.out 5).trans rfl⟩ (fun hHeld => ?_)
                  clear hK K
                  refine norm_ (a' := ?_) ?_ ?_
                  rotate_left
                  ·
                   show Act.put _ (some 6) _ = _
                   simp only [apz, i64_w, i32_w]
                   rfl
                  exact norm_ (by first | (simp only [putAll, apz]; done) | (simp only [putAll, apz]; rfl)) (hJ8_59 (gb476) _ ⟨hHeld, (bq BK465.out), (bq BK466.out), (bq BK467.out), (bq BK476.out), GW476.out, GE476.out, NB465_476.out, NB476_465.out, NB466_476.out, NB476_466.out, NB467_476.out, NB476_467.out, (wq HB.out)⟩)
               ·
                skip
                rintro gb476 w60 ⟨hS_, h0_, h1_, h2_, h3_, h4_, h5_, h6_, h7_, h8_, h9_, h10_, h11_, h12_⟩
                have n0_ : Aside0 (w60.heap[gb465]? = some (.cells #[.int .i64 a0_0, .int .i64 a0_1, .int .i64 a0_2, .int .i64 a0_3, .int .i64 a0_4, .int .i64 a0_5] 23 (0, 0))) := ⟨h0_⟩
                have n1_ : Aside0 (w60.heap[gb466]? = some (.cells #[.int .i64 a1_0, .int .i64 a1_1, .int .i64 a1_2, .int .i64 a1_3, .int .i64 a1_4, .int .i64 a1_5] 23 (0, 0))) := ⟨h1_⟩
                have n2_ : Aside0 (w60.heap[gb467]? = some (.cells #[.int .i64 0, .int .i64 0, .int .i64 0, .int .i64 0, .int .i64 0, .int .i64 0] 23 (0, 0))) := ⟨h2_⟩
                have n3_ : Aside0 (w60.heap[gb476]? = some (.cells #[.int .i64 0, .int .i64 0, .int .i64 0, .int .i64 0, .int .i64 0, .int .i64 0] 23 (0, 0))) := ⟨h3_⟩
                have n4_ : Aside0 (w.heap.size ≤ gb476) := ⟨h4_⟩
                have n5_ : Aside0 (w.heap.size ≤ gb476) := ⟨h5_⟩
                have n6_ : Aside0 (gb465 ≠ gb476) := ⟨h6_⟩
                have n7_ : Aside0 (gb476 ≠ gb465) := ⟨h7_⟩
                have n8_ : Aside0 (gb466 ≠ gb476) := ⟨h8_⟩
                have n9_ : Aside0 (gb476 ≠ gb466) := ⟨h9_⟩
                have n10_ : Aside0 (gb467 ≠ gb476) := ⟨h10_⟩
                have n11_ : Aside0 (gb476 ≠ gb467) := ⟨h11_⟩
                have n12_ : Aside0 (Below w.heap.size w w60) := ⟨h12_⟩
                clear BK465 BK466 BK467 HB; clear h0_ h1_ h2_ h3_ h4_ h5_ h6_ h7_ h8_ h9_ h10_ h11_ h12_; have BK465 := n0_; have BK466 := n1_; have BK467 := n2_; have BK476 := n3_; have GW476 := n4_; have GE476 := n5_; have NB465_476 := n6_; have NB476_465 := n7_; have NB466_476 := n8_; have NB476_466 := n9_; have NB467_476 := n10_; have NB476_467 := n11_; have HB := n12_; clear n0_ n1_ n2_ n3_ n4_ n5_ n6_ n7_ n8_ n9_ n10_ n11_ n12_
                have hHeld : w60.cell? ⟨gb466, 0, none⟩ = some (.int .i64 a1_0) ∧ w60.cell? ⟨gb466, 1, none⟩ = some (.int .i64 a1_1) ∧ w60.cell? ⟨gb466, 2, none⟩ = some (.int .i64 a1_2) ∧ w60.cell? ⟨gb466, 3, none⟩ = some (.int .i64 a1_3) ∧ w60.cell? ⟨gb466, 4, none⟩ = some (.int .i64 a1_4) ∧ w60.cell? ⟨gb466, 5, none⟩ = some (.int .i64 a1_5) ∧ w60.cell? ⟨gb465, 0, none⟩ = some (.int .i64 a0_0) ∧ w60.cell? ⟨gb465, 1, none⟩ = some (.int .i64 a0_1) ∧ w60.cell? ⟨gb465, 2, none⟩ = some (.int .i64 a0_2) ∧ w60.cell? ⟨gb465, 3, none⟩ = some (.int .i64 a0_3) ∧ w60.cell? ⟨gb465, 4, none⟩ = some (.int .i64 a0_4) ∧ w60.cell? ⟨gb465, 5, none⟩ = some (.int .i64 a0_5) := hS_
                refine norm_ (a' := ?_) ?_ ?_
                rotate_left
                ·
                 simp only [putAll, apz]
                 rfl
                refine one_ (i := 17) (N := some 33) (bm 61 720505537208254463) rfl rfl (one_of HT_.out (by kernel_rfl)) (by decide) (fun K hK => ?_)
                refine goes_ Tryd.func22 (by kernel_rfl) rfl #[.int .i64 a1_1, .int .i64 a0_0, .int .i64 a1_3, .int .i64 a0_1, .int .i64 0] (by rfl) rfl rfl (by (try simp only [List.map_toArray, List.map_cons, List.map_nil]); first | done | rfl | (simp only [List.length_drop, List.length_take]; rfl)) ?_
                with_reducible refine (pointillistref08_sum.calls kj2 a1_1 a0_0 a1_3 a0_1 0 t471 _ A26.out).mono ?_
                rintro e w61 ⟨rfl, hb⟩
                refine ⟨_, rfl, ?_⟩
                have n0_ := Aside0.mk (blk_below (bq BK465.out) hb)
                have n1_ := Aside0.mk (blk_below (bq BK466.out) hb)
                have n2_ := Aside0.mk (blk_below (bq BK467.out) hb)
                have n3_ := Aside0.mk (blk_below (bq BK476.out) hb)
                have n4_ := Aside0.mk (below_step (wq HB.out) hb)
                clear BK465 BK466 BK467 BK476; clear HB; have BK465 := n0_; have BK466 := n1_; have BK467 := n2_; have BK476 := n3_; have HB := n4_; clear n0_ n1_ n2_ n3_ n4_
                (try clear hb)
                (try clear hb2)
                (try clear hk)
                (try clear hi)
                refine hK.out _ _ ⟨(blk_cell BK466.out 0).trans rfl, (blk_cell BK466.out 1).trans rfl, (blk_cell BK466.out 2).trans rfl, (blk_cell BK466.out 3).trans rfl, (blk_cell BK466.out 4).trans rfl, (blk_cell BK466.out 5).trans rfl, (blk_cell BK465.out 0).trans rfl, (blk_cell BK465.out 1).trans rfl, (blk_cell BK465.out 2).trans rfl, (blk_cell BK465.out 3).trans rfl, (blk_cell BK465.out 4).trans rfl, (blk_cell BK465.out 5).trans rfl⟩ (fun hHeld => ?_)
                clear hK K
                refine norm_ (a' := ?_) ?_ ?_
                rotate_left
                ·
                 show Act.put _ (some 33) _ = _
                 simp only [apz, i64_w, i32_w]
                 rfl
                exact norm_ (by first | (simp only [putAll, apz]; done) | (simp only [putAll, apz]; rfl)) (hJ8_17_59 (gb476) _ ⟨hHeld, (bq BK465.out), (bq BK466.out), (bq BK467.out), (bq BK476.out), GW476.out, GE476.out, NB465_476.out, NB476_465.out, NB466_476.out, NB476_466.out, NB467_476.out, NB476_467.out, (wq HB.out)⟩)
              ·
               skip
               rintro _ w60 ⟨hS_, h0_, h1_, h2_, h3_⟩
               have n0_ : Aside0 (w60.heap[gb465]? = some (.cells #[.int .i64 a0_0, .int .i64 a0_1, .int .i64 a0_2, .int .i64 a0_3, .int .i64 a0_4, .int .i64 a0_5] 23 (0, 0))) := ⟨h0_⟩
               have n1_ : Aside0 (w60.heap[gb466]? = some (.cells #[.int .i64 a1_0, .int .i64 a1_1, .int .i64 a1_2, .int .i64 a1_3, .int .i64 a1_4, .int .i64 a1_5] 23 (0, 0))) := ⟨h1_⟩
               have n2_ : Aside0 (w60.heap[gb467]? = some (.cells #[.int .i64 0, .int .i64 0, .int .i64 0, .int .i64 0, .int .i64 0, .int .i64 0] 23 (0, 0))) := ⟨h2_⟩
               have n3_ : Aside0 (Below w.heap.size w w60) := ⟨h3_⟩
               clear BK465 BK466 BK467 HB; clear h0_ h1_ h2_ h3_; have BK465 := n0_; have BK466 := n1_; have BK467 := n2_; have HB := n3_; clear n0_ n1_ n2_ n3_
               have hHeld : w60.cell? ⟨gb466, 0, none⟩ = some (.int .i64 a1_0) ∧ w60.cell? ⟨gb466, 1, none⟩ = some (.int .i64 a1_1) ∧ w60.cell? ⟨gb466, 2, none⟩ = some (.int .i64 a1_2) ∧ w60.cell? ⟨gb466, 3, none⟩ = some (.int .i64 a1_3) ∧ w60.cell? ⟨gb466, 4, none⟩ = some (.int .i64 a1_4) ∧ w60.cell? ⟨gb466, 5, none⟩ = some (.int .i64 a1_5) ∧ w60.cell? ⟨gb465, 0, none⟩ = some (.int .i64 a0_0) ∧ w60.cell? ⟨gb465, 1, none⟩ = some (.int .i64 a0_1) ∧ w60.cell? ⟨gb465, 2, none⟩ = some (.int .i64 a0_2) ∧ w60.cell? ⟨gb465, 3, none⟩ = some (.int .i64 a0_3) ∧ w60.cell? ⟨gb465, 4, none⟩ = some (.int .i64 a0_4) ∧ w60.cell? ⟨gb465, 5, none⟩ = some (.int .i64 a0_5) := hS_
               refine norm_ (a' := ?_) ?_ ?_
               rotate_left
               ·
                simp only [putAll, apz]
                rfl
               refine two_ (i := 26) (j := 59) (Ni := some 42) (Nj := some 6) (bm 61 144044784971939839) (bm 61 720505537208254463) rfl rfl rfl rfl (two_of HT_.out (by kernel_rfl)) (by decide) (by decide) (fun K hK => ?_) (fun K hK => ?_)
               ·
                skip
                refine goes_ Tryd.func22 (by kernel_rfl) rfl #[.int .i64 a1_0, .int .i64 a0_2, .int .i64 a1_2, .int .i64 a0_3, .int .i64 0] (by rfl) rfl rfl (by (try simp only [List.map_toArray, List.map_cons, List.map_nil]); first | done | rfl | (simp only [List.length_drop, List.length_take]; rfl)) ?_
                with_reducible refine (pointillistref08_sum.calls kj2 a1_0 a0_2 a1_2 a0_3 0 t472 _ A27.out).mono ?_
                rintro e w61 ⟨rfl, hb⟩
                refine ⟨_, rfl, ?_⟩
                have n0_ := Aside0.mk (blk_below (bq BK465.out) hb)
                have n1_ := Aside0.mk (blk_below (bq BK466.out) hb)
                have n2_ := Aside0.mk (blk_below (bq BK467.out) hb)
                have n3_ := Aside0.mk (below_step (wq HB.out) hb)
                clear BK465 BK466 BK467 HB; have BK465 := n0_; have BK466 := n1_; have BK467 := n2_; have HB := n3_; clear n0_ n1_ n2_ n3_
                (try clear hb)
                (try clear hb2)
                (try clear hk)
                (try clear hi)
                refine hK.out _ _ ⟨(blk_cell BK466.out 0).trans rfl, (blk_cell BK466.out 1).trans rfl, (blk_cell BK466.out 2).trans rfl, (blk_cell BK466.out 3).trans rfl, (blk_cell BK466.out 4).trans rfl, (blk_cell BK466.out 5).trans rfl, (blk_cell BK465.out 0).trans rfl, (blk_cell BK465.out 1).trans rfl, (blk_cell BK465.out 2).trans rfl, (blk_cell BK465.out 3).trans rfl, (blk_cell BK465.out 4).trans rfl, (blk_cell BK465.out 5).trans rfl⟩ (fun hHeld => ?_)
                clear hK K
                refine norm_ (a' := ?_) ?_ ?_
                rotate_left
                ·
                 show Act.put _ (some 42) _ = _
                 simp only [apz, i64_w, i32_w]
                 rfl
                exact norm_ (by first | (simp only [putAll, apz]; done) | (simp only [putAll, apz]; rfl)) (hJ8_17_26 () _ ⟨hHeld, (bq BK465.out), (bq BK466.out), (bq BK467.out), (wq HB.out)⟩)
               ·
                skip
                refine box_step ?hg (N := 6) ?hd (cs := #[.int .i64 0, .int .i64 0, .int .i64 0, .int .i64 0, .int .i64 0, .int .i64 0]) (t := 23) ?hr ?_; (case hd => rfl); (case hg => rfl); (case hr => first | (go_simp; done) | (go_simp; rfl))
                intro gb476 hg w61 hbox hb
                have n0_ := Aside0.mk (blk_below (bq BK465.out) hb)
                have n1_ := Aside0.mk (blk_below (bq BK466.out) hb)
                have n2_ := Aside0.mk (blk_below (bq BK467.out) hb)
                have n3_ := Aside0.mk (below_step (wq HB.out) hb)
                have n4_ := Aside0.mk (hbox)
                have n5_ := Aside0.mk ((by rw [hg]; exact (below_size (wq HB.out)) : w.heap.size ≤ gb476))
                have n6_ := Aside0.mk ((by rw [hg]; exact (below_size (wq HB.out)) : w.heap.size ≤ gb476))
                have n7_ := Aside0.mk ((by rw [hg]; exact Nat.ne_of_lt (blk_lt (bq BK465.out)) : gb465 ≠ gb476))
                have n8_ := Aside0.mk ((by rw [hg]; exact Nat.ne_of_gt (blk_lt (bq BK465.out)) : gb476 ≠ gb465))
                have n9_ := Aside0.mk ((by rw [hg]; exact Nat.ne_of_lt (blk_lt (bq BK466.out)) : gb466 ≠ gb476))
                have n10_ := Aside0.mk ((by rw [hg]; exact Nat.ne_of_gt (blk_lt (bq BK466.out)) : gb476 ≠ gb466))
                have n11_ := Aside0.mk ((by rw [hg]; exact Nat.ne_of_lt (blk_lt (bq BK467.out)) : gb467 ≠ gb476))
                have n12_ := Aside0.mk ((by rw [hg]; exact Nat.ne_of_gt (blk_lt (bq BK467.out)) : gb476 ≠ gb467))
                clear BK465 BK466 BK467 HB; have BK465 := n0_; have BK466 := n1_; have BK467 := n2_; have HB := n3_; have BK476 := n4_; have GW476 := n5_; have GE476 := n6_; have NB465_476 := n7_; have NB476_465 := n8_; have NB466_476 := n9_; have NB476_466 := n10_; have NB467_476 := n11_; have NB476_467 := n12_; clear n0_ n1_ n2_ n3_ n4_ n5_ n6_ n7_ n8_ n9_ n10_ n11_ n12_ hb hbox hg
                refine hK.out _ _ ⟨(blk_cell BK466.out 0).trans rfl, (blk_cell BK466.out 1).trans rfl, (blk_cell BK466.out 2).trans rfl, (blk_cell BK466.out 3).trans rfl, (blk_cell BK466.out 4).trans rfl, (blk_cell BK466.out 5).trans rfl, (blk_cell BK465.out 0).trans rfl, (blk_cell BK465.out 1).trans rfl, (blk_cell BK465.out 2).trans rfl, (blk_cell BK465.out 3).trans rfl, (blk_cell BK465.out 4).trans rfl, (blk_cell BK465.out 5).trans rfl⟩ (fun hHeld => ?_)
                clear hK K
                refine norm_ (a' := ?_) ?_ ?_
                rotate_left
                ·
                 show Act.put _ (some 6) _ = _
                 simp only [apz, i64_w, i32_w]
                 rfl
                exact norm_ (by first | (simp only [putAll, apz]; done) | (simp only [putAll, apz]; rfl)) (hJ8_17_59 (gb476) _ ⟨hHeld, (bq BK465.out), (bq BK466.out), (bq BK467.out), (bq BK476.out), GW476.out, GE476.out, NB465_476.out, NB476_465.out, NB466_476.out, NB476_466.out, NB467_476.out, NB476_467.out, (wq HB.out)⟩)
             ·
              skip
              rintro gb476 w61 ⟨hS_, h0_, h1_, h2_, h3_, h4_, h5_, h6_, h7_, h8_, h9_, h10_, h11_, h12_⟩
              have n0_ : Aside0 (w61.heap[gb465]? = some (.cells #[.int .i64 a0_0, .int .i64 a0_1, .int .i64 a0_2, .int .i64 a0_3, .int .i64 a0_4, .int .i64 a0_5] 23 (0, 0))) := ⟨h0_⟩
              have n1_ : Aside0 (w61.heap[gb466]? = some (.cells #[.int .i64 a1_0, .int .i64 a1_1, .int .i64 a1_2, .int .i64 a1_3, .int .i64 a1_4, .int .i64 a1_5] 23 (0, 0))) := ⟨h1_⟩
              have n2_ : Aside0 (w61.heap[gb467]? = some (.cells #[.int .i64 0, .int .i64 0, .int .i64 0, .int .i64 0, .int .i64 0, .int .i64 0] 23 (0, 0))) := ⟨h2_⟩
              have n3_ : Aside0 (w61.heap[gb476]? = some (.cells #[.int .i64 0, .int .i64 0, .int .i64 0, .int .i64 0, .int .i64 0, .int .i64 0] 23 (0, 0))) := ⟨h3_⟩
              have n4_ : Aside0 (w.heap.size ≤ gb476) := ⟨h4_⟩
              have n5_ : Aside0 (w.heap.size ≤ gb476) := ⟨h5_⟩
              have n6_ : Aside0 (gb465 ≠ gb476) := ⟨h6_⟩
              have n7_ : Aside0 (gb476 ≠ gb465) := ⟨h7_⟩
              have n8_ : Aside0 (gb466 ≠ gb476) := ⟨h8_⟩
              have n9_ : Aside0 (gb476 ≠ gb466) := ⟨h9_⟩
              have n10_ : Aside0 (gb467 ≠ gb476) := ⟨h10_⟩
              have n11_ : Aside0 (gb476 ≠ gb467) := ⟨h11_⟩
              have n12_ : Aside0 (Below w.heap.size w w61) := ⟨h12_⟩
              clear BK465 BK466 BK467 HB; clear h0_ h1_ h2_ h3_ h4_ h5_ h6_ h7_ h8_ h9_ h10_ h11_ h12_; have BK465 := n0_; have BK466 := n1_; have BK467 := n2_; have BK476 := n3_; have GW476 := n4_; have GE476 := n5_; have NB465_476 := n6_; have NB476_465 := n7_; have NB466_476 := n8_; have NB476_466 := n9_; have NB467_476 := n10_; have NB476_467 := n11_; have HB := n12_; clear n0_ n1_ n2_ n3_ n4_ n5_ n6_ n7_ n8_ n9_ n10_ n11_ n12_
              have hHeld : w61.cell? ⟨gb466, 0, none⟩ = some (.int .i64 a1_0) ∧ w61.cell? ⟨gb466, 1, none⟩ = some (.int .i64 a1_1) ∧ w61.cell? ⟨gb466, 2, none⟩ = some (.int .i64 a1_2) ∧ w61.cell? ⟨gb466, 3, none⟩ = some (.int .i64 a1_3) ∧ w61.cell? ⟨gb466, 4, none⟩ = some (.int .i64 a1_4) ∧ w61.cell? ⟨gb466, 5, none⟩ = some (.int .i64 a1_5) ∧ w61.cell? ⟨gb465, 0, none⟩ = some (.int .i64 a0_0) ∧ w61.cell? ⟨gb465, 1, none⟩ = some (.int .i64 a0_1) ∧ w61.cell? ⟨gb465, 2, none⟩ = some (.int .i64 a0_2) ∧ w61.cell? ⟨gb465, 3, none⟩ = some (.int .i64 a0_3) ∧ w61.cell? ⟨gb465, 4, none⟩ = some (.int .i64 a0_4) ∧ w61.cell? ⟨gb465, 5, none⟩ = some (.int .i64 a0_5) := hS_
              refine norm_ (a' := ?_) ?_ ?_
              rotate_left
              ·
               simp only [putAll, apz]
               rfl
              refine one_ (i := 26) (N := some 42) (bm 61 720505537275363327) rfl rfl (one_of HT_.out (by kernel_rfl)) (by decide) (fun K hK => ?_)
              refine goes_ Tryd.func22 (by kernel_rfl) rfl #[.int .i64 a1_0, .int .i64 a0_2, .int .i64 a1_2, .int .i64 a0_3, .int .i64 0] (by rfl) rfl rfl (by (try simp only [List.map_toArray, List.map_cons, List.map_nil]); first | done | rfl | (simp only [List.length_drop, List.length_take]; rfl)) ?_
              with_reducible refine (pointillistref08_sum.calls kj2 a1_0 a0_2 a1_2 a0_3 0 t472 _ A27.out).mono ?_
              rintro e w62 ⟨rfl, hb⟩
              refine ⟨_, rfl, ?_⟩
              have n0_ := Aside0.mk (blk_below (bq BK465.out) hb)
              have n1_ := Aside0.mk (blk_below (bq BK466.out) hb)
              have n2_ := Aside0.mk (blk_below (bq BK467.out) hb)
              have n3_ := Aside0.mk (blk_below (bq BK476.out) hb)
              have n4_ := Aside0.mk (below_step (wq HB.out) hb)
              clear BK465 BK466 BK467 BK476; clear HB; have BK465 := n0_; have BK466 := n1_; have BK467 := n2_; have BK476 := n3_; have HB := n4_; clear n0_ n1_ n2_ n3_ n4_
              (try clear hb)
              (try clear hb2)
              (try clear hk)
              (try clear hi)
              refine hK.out _ _ ⟨(blk_cell BK466.out 0).trans rfl, (blk_cell BK466.out 1).trans rfl, (blk_cell BK466.out 2).trans rfl, (blk_cell BK466.out 3).trans rfl, (blk_cell BK466.out 4).trans rfl, (blk_cell BK466.out 5).trans rfl, (blk_cell BK465.out 0).trans rfl, (blk_cell BK465.out 1).trans rfl, (blk_cell BK465.out 2).trans rfl, (blk_cell BK465.out 3).trans rfl, (blk_cell BK465.out 4).trans rfl, (blk_cell BK465.out 5).trans rfl⟩ (fun hHeld => ?_)
              clear hK K
              refine norm_ (a' := ?_) ?_ ?_
              rotate_left
              ·
               show Act.put _ (some 42) _ = _
               simp only [apz, i64_w, i32_w]
               rfl
              exact norm_ (by first | (simp only [putAll, apz]; done) | (simp only [putAll, apz]; rfl)) (hJ8_17_26_59 (gb476) _ ⟨hHeld, (bq BK465.out), (bq BK466.out), (bq BK467.out), (bq BK476.out), GW476.out, GE476.out, NB465_476.out, NB476_465.out, NB466_476.out, NB476_466.out, NB467_476.out, NB476_467.out, (wq HB.out)⟩)
            ·
             skip
             rintro _ w61 ⟨hS_, h0_, h1_, h2_, h3_⟩
             have n0_ : Aside0 (w61.heap[gb465]? = some (.cells #[.int .i64 a0_0, .int .i64 a0_1, .int .i64 a0_2, .int .i64 a0_3, .int .i64 a0_4, .int .i64 a0_5] 23 (0, 0))) := ⟨h0_⟩
             have n1_ : Aside0 (w61.heap[gb466]? = some (.cells #[.int .i64 a1_0, .int .i64 a1_1, .int .i64 a1_2, .int .i64 a1_3, .int .i64 a1_4, .int .i64 a1_5] 23 (0, 0))) := ⟨h1_⟩
             have n2_ : Aside0 (w61.heap[gb467]? = some (.cells #[.int .i64 0, .int .i64 0, .int .i64 0, .int .i64 0, .int .i64 0, .int .i64 0] 23 (0, 0))) := ⟨h2_⟩
             have n3_ : Aside0 (Below w.heap.size w w61) := ⟨h3_⟩
             clear BK465 BK466 BK467 HB; clear h0_ h1_ h2_ h3_; have BK465 := n0_; have BK466 := n1_; have BK467 := n2_; have HB := n3_; clear n0_ n1_ n2_ n3_
             have hHeld : w61.cell? ⟨gb466, 0, none⟩ = some (.int .i64 a1_0) ∧ w61.cell? ⟨gb466, 1, none⟩ = some (.int .i64 a1_1) ∧ w61.cell? ⟨gb466, 2, none⟩ = some (.int .i64 a1_2) ∧ w61.cell? ⟨gb466, 3, none⟩ = some (.int .i64 a1_3) ∧ w61.cell? ⟨gb466, 4, none⟩ = some (.int .i64 a1_4) ∧ w61.cell? ⟨gb466, 5, none⟩ = some (.int .i64 a1_5) ∧ w61.cell? ⟨gb465, 0, none⟩ = some (.int .i64 a0_0) ∧ w61.cell? ⟨gb465, 1, none⟩ = some (.int .i64 a0_1) ∧ w61.cell? ⟨gb465, 2, none⟩ = some (.int .i64 a0_2) ∧ w61.cell? ⟨gb465, 3, none⟩ = some (.int .i64 a0_3) ∧ w61.cell? ⟨gb465, 4, none⟩ = some (.int .i64 a0_4) ∧ w61.cell? ⟨gb465, 5, none⟩ = some (.int .i64 a0_5) := hS_
             refine norm_ (a' := ?_) ?_ ?_
             rotate_left
             ·
              simp only [putAll, apz]
              rfl
             refine two_ (i := 35) (j := 59) (Ni := some 51) (Nj := some 6) (bm 61 144044819331678207) (bm 61 720505537275363327) rfl rfl rfl rfl (two_of HT_.out (by kernel_rfl)) (by decide) (by decide) (fun K hK => ?_) (fun K hK => ?_)
             ·
              skip
              refine goes_ Tryd.func22 (by kernel_rfl) rfl #[.int .i64 a1_1, .int .i64 a0_2, .int .i64 a1_3, .int .i64 a0_3, .int .i64 0] (by rfl) rfl rfl (by (try simp only [List.map_toArray, List.map_cons, List.map_nil]); first | done | rfl | (simp only [List.length_drop, List.length_take]; rfl)) ?_
              with_reducible refine (pointillistref08_sum.calls kj2 a1_1 a0_2 a1_3 a0_3 0 t473 _ A28.out).mono ?_
              rintro e w62 ⟨rfl, hb⟩
              refine ⟨_, rfl, ?_⟩
              have n0_ := Aside0.mk (blk_below (bq BK465.out) hb)
              have n1_ := Aside0.mk (blk_below (bq BK466.out) hb)
              have n2_ := Aside0.mk (blk_below (bq BK467.out) hb)
              have n3_ := Aside0.mk (below_step (wq HB.out) hb)
              clear BK465 BK466 BK467 HB; have BK465 := n0_; have BK466 := n1_; have BK467 := n2_; have HB := n3_; clear n0_ n1_ n2_ n3_
              (try clear hb)
              (try clear hb2)
              (try clear hk)
              (try clear hi)
              refine hK.out _ _ ⟨(blk_cell BK466.out 0).trans rfl, (blk_cell BK466.out 1).trans rfl, (blk_cell BK466.out 2).trans rfl, (blk_cell BK466.out 3).trans rfl, (blk_cell BK466.out 4).trans rfl, (blk_cell BK466.out 5).trans rfl, (blk_cell BK465.out 0).trans rfl, (blk_cell BK465.out 1).trans rfl, (blk_cell BK465.out 2).trans rfl, (blk_cell BK465.out 3).trans rfl, (blk_cell BK465.out 4).trans rfl, (blk_cell BK465.out 5).trans rfl⟩ (fun hHeld => ?_)
              clear hK K
              refine norm_ (a' := ?_) ?_ ?_
              rotate_left
              ·
               show Act.put _ (some 51) _ = _
               simp only [apz, i64_w, i32_w]
               rfl
              exact norm_ (by first | (simp only [putAll, apz]; done) | (simp only [putAll, apz]; rfl)) (hJ8_17_26_35 () _ ⟨hHeld, (bq BK465.out), (bq BK466.out), (bq BK467.out), (wq HB.out)⟩)
             ·
              skip
              refine box_step ?hg (N := 6) ?hd (cs := #[.int .i64 0, .int .i64 0, .int .i64 0, .int .i64 0, .int .i64 0, .int .i64 0]) (t := 23) ?hr ?_; (case hd => rfl); (case hg => rfl); (case hr => first | (go_simp; done) | (go_simp; rfl))
              intro gb476 hg w62 hbox hb
              have n0_ := Aside0.mk (blk_below (bq BK465.out) hb)
              have n1_ := Aside0.mk (blk_below (bq BK466.out) hb)
              have n2_ := Aside0.mk (blk_below (bq BK467.out) hb)
              have n3_ := Aside0.mk (below_step (wq HB.out) hb)
              have n4_ := Aside0.mk (hbox)
              have n5_ := Aside0.mk ((by rw [hg]; exact (below_size (wq HB.out)) : w.heap.size ≤ gb476))
              have n6_ := Aside0.mk ((by rw [hg]; exact (below_size (wq HB.out)) : w.heap.size ≤ gb476))
              have n7_ := Aside0.mk ((by rw [hg]; exact Nat.ne_of_lt (blk_lt (bq BK465.out)) : gb465 ≠ gb476))
              have n8_ := Aside0.mk ((by rw [hg]; exact Nat.ne_of_gt (blk_lt (bq BK465.out)) : gb476 ≠ gb465))
              have n9_ := Aside0.mk ((by rw [hg]; exact Nat.ne_of_lt (blk_lt (bq BK466.out)) : gb466 ≠ gb476))
              have n10_ := Aside0.mk ((by rw [hg]; exact Nat.ne_of_gt (blk_lt (bq BK466.out)) : gb476 ≠ gb466))
              have n11_ := Aside0.mk ((by rw [hg]; exact Nat.ne_of_lt (blk_lt (bq BK467.out)) : gb467 ≠ gb476))
              have n12_ := Aside0.mk ((by rw [hg]; exact Nat.ne_of_gt (blk_lt (bq BK467.out)) : gb476 ≠ gb467))
              clear BK465 BK466 BK467 HB; have BK465 := n0_; have BK466 := n1_; have BK467 := n2_; have HB := n3_; have BK476 := n4_; have GW476 := n5_; have GE476 := n6_; have NB465_476 := n7_; have NB476_465 := n8_; have NB466_476 := n9_; have NB476_466 := n10_; have NB467_476 := n11_; have NB476_467 := n12_; clear n0_ n1_ n2_ n3_ n4_ n5_ n6_ n7_ n8_ n9_ n10_ n11_ n12_ hb hbox hg
              refine hK.out _ _ ⟨(blk_cell BK466.out 0).trans rfl, (blk_cell BK466.out 1).trans rfl, (blk_cell BK466.out 2).trans rfl, (blk_cell BK466.out 3).trans rfl, (blk_cell BK466.out 4).trans rfl, (blk_cell BK466.out 5).trans rfl, (blk_cell BK465.out 0).trans rfl, (blk_cell BK465.out 1).trans rfl, (blk_cell BK465.out 2).trans rfl, (blk_cell BK465.out 3).trans rfl, (blk_cell BK465.out 4).trans rfl, (blk_cell BK465.out 5).trans rfl⟩ (fun hHeld => ?_)
              clear hK K
              refine norm_ (a' := ?_) ?_ ?_
              rotate_left
              ·
               show Act.put _ (some 6) _ = _
               simp only [apz, i64_w, i32_w]
               rfl
              exact norm_ (by first | (simp only [putAll, apz]; done) | (simp only [putAll, apz]; rfl)) (hJ8_17_26_59 (gb476) _ ⟨hHeld, (bq BK465.out), (bq BK466.out), (bq BK467.out), (bq BK476.out), GW476.out, GE476.out, NB465_476.out, NB476_465.out, NB466_476.out, NB476_466.out, NB467_476.out, NB476_467.out, (wq HB.out)⟩)
           ·
            skip
            rintro gb476 w62 ⟨hS_, h0_, h1_, h2_, h3_, h4_, h5_, h6_, h7_, h8_, h9_, h10_, h11_, h12_⟩
            have n0_ : Aside0 (w62.heap[gb465]? = some (.cells #[.int .i64 a0_0, .int .i64 a0_1, .int .i64 a0_2, .int .i64 a0_3, .int .i64 a0_4, .int .i64 a0_5] 23 (0, 0))) := ⟨h0_⟩
            have n1_ : Aside0 (w62.heap[gb466]? = some (.cells #[.int .i64 a1_0, .int .i64 a1_1, .int .i64 a1_2, .int .i64 a1_3, .int .i64 a1_4, .int .i64 a1_5] 23 (0, 0))) := ⟨h1_⟩
            have n2_ : Aside0 (w62.heap[gb467]? = some (.cells #[.int .i64 0, .int .i64 0, .int .i64 0, .int .i64 0, .int .i64 0, .int .i64 0] 23 (0, 0))) := ⟨h2_⟩
            have n3_ : Aside0 (w62.heap[gb476]? = some (.cells #[.int .i64 0, .int .i64 0, .int .i64 0, .int .i64 0, .int .i64 0, .int .i64 0] 23 (0, 0))) := ⟨h3_⟩
            have n4_ : Aside0 (w.heap.size ≤ gb476) := ⟨h4_⟩
            have n5_ : Aside0 (w.heap.size ≤ gb476) := ⟨h5_⟩
            have n6_ : Aside0 (gb465 ≠ gb476) := ⟨h6_⟩
            have n7_ : Aside0 (gb476 ≠ gb465) := ⟨h7_⟩
            have n8_ : Aside0 (gb466 ≠ gb476) := ⟨h8_⟩
            have n9_ : Aside0 (gb476 ≠ gb466) := ⟨h9_⟩
            have n10_ : Aside0 (gb467 ≠ gb476) := ⟨h10_⟩
            have n11_ : Aside0 (gb476 ≠ gb467) := ⟨h11_⟩
            have n12_ : Aside0 (Below w.heap.size w w62) := ⟨h12_⟩
            clear BK465 BK466 BK467 HB; clear h0_ h1_ h2_ h3_ h4_ h5_ h6_ h7_ h8_ h9_ h10_ h11_ h12_; have BK465 := n0_; have BK466 := n1_; have BK467 := n2_; have BK476 := n3_; have GW476 := n4_; have GE476 := n5_; have NB465_476 := n6_; have NB476_465 := n7_; have NB466_476 := n8_; have NB476_466 := n9_; have NB467_476 := n10_; have NB476_467 := n11_; have HB := n12_; clear n0_ n1_ n2_ n3_ n4_ n5_ n6_ n7_ n8_ n9_ n10_ n11_ n12_
            have hHeld : w62.cell? ⟨gb466, 0, none⟩ = some (.int .i64 a1_0) ∧ w62.cell? ⟨gb466, 1, none⟩ = some (.int .i64 a1_1) ∧ w62.cell? ⟨gb466, 2, none⟩ = some (.int .i64 a1_2) ∧ w62.cell? ⟨gb466, 3, none⟩ = some (.int .i64 a1_3) ∧ w62.cell? ⟨gb466, 4, none⟩ = some (.int .i64 a1_4) ∧ w62.cell? ⟨gb466, 5, none⟩ = some (.int .i64 a1_5) ∧ w62.cell? ⟨gb465, 0, none⟩ = some (.int .i64 a0_0) ∧ w62.cell? ⟨gb465, 1, none⟩ = some (.int .i64 a0_1) ∧ w62.cell? ⟨gb465, 2, none⟩ = some (.int .i64 a0_2) ∧ w62.cell? ⟨gb465, 3, none⟩ = some (.int .i64 a0_3) ∧ w62.cell? ⟨gb465, 4, none⟩ = some (.int .i64 a0_4) ∧ w62.cell? ⟨gb465, 5, none⟩ = some (.int .i64 a0_5) := hS_
            refine norm_ (a' := ?_) ?_ ?_
            rotate_left
            ·
             simp only [putAll, apz]
             rfl
            refine one_ (i := 35) (N := some 51) (bm 61 720505571635101695) rfl rfl (one_of HT_.out (by kernel_rfl)) (by decide) (fun K hK => ?_)
            refine goes_ Tryd.func22 (by kernel_rfl) rfl #[.int .i64 a1_1, .int .i64 a0_2, .int .i64 a1_3, .int .i64 a0_3, .int .i64 0] (by rfl) rfl rfl (by (try simp only [List.map_toArray, List.map_cons, List.map_nil]); first | done | rfl | (simp only [List.length_drop, List.length_take]; rfl)) ?_
            with_reducible refine (pointillistref08_sum.calls kj2 a1_1 a0_2 a1_3 a0_3 0 t473 _ A28.out).mono ?_
            rintro e w63 ⟨rfl, hb⟩
            refine ⟨_, rfl, ?_⟩
            have n0_ := Aside0.mk (blk_below (bq BK465.out) hb)
            have n1_ := Aside0.mk (blk_below (bq BK466.out) hb)
            have n2_ := Aside0.mk (blk_below (bq BK467.out) hb)
            have n3_ := Aside0.mk (blk_below (bq BK476.out) hb)
            have n4_ := Aside0.mk (below_step (wq HB.out) hb)
            clear BK465 BK466 BK467 BK476; clear HB; have BK465 := n0_; have BK466 := n1_; have BK467 := n2_; have BK476 := n3_; have HB := n4_; clear n0_ n1_ n2_ n3_ n4_
            (try clear hb)
            (try clear hb2)
            (try clear hk)
            (try clear hi)
            refine hK.out _ _ ⟨(blk_cell BK466.out 0).trans rfl, (blk_cell BK466.out 1).trans rfl, (blk_cell BK466.out 2).trans rfl, (blk_cell BK466.out 3).trans rfl, (blk_cell BK466.out 4).trans rfl, (blk_cell BK466.out 5).trans rfl, (blk_cell BK465.out 0).trans rfl, (blk_cell BK465.out 1).trans rfl, (blk_cell BK465.out 2).trans rfl, (blk_cell BK465.out 3).trans rfl, (blk_cell BK465.out 4).trans rfl, (blk_cell BK465.out 5).trans rfl⟩ (fun hHeld => ?_)
            clear hK K
            refine norm_ (a' := ?_) ?_ ?_
            rotate_left
            ·
             show Act.put _ (some 51) _ = _
             simp only [apz, i64_w, i32_w]
             rfl
            exact norm_ (by first | (simp only [putAll, apz]; done) | (simp only [putAll, apz]; rfl)) (hJ8_17_26_35_59 (gb476) _ ⟨hHeld, (bq BK465.out), (bq BK466.out), (bq BK467.out), (bq BK476.out), GW476.out, GE476.out, NB465_476.out, NB476_465.out, NB466_476.out, NB476_466.out, NB467_476.out, NB476_467.out, (wq HB.out)⟩)
          ·
           skip
           rintro _ w62 ⟨hS_, h0_, h1_, h2_, h3_⟩
           have n0_ : Aside0 (w62.heap[gb465]? = some (.cells #[.int .i64 a0_0, .int .i64 a0_1, .int .i64 a0_2, .int .i64 a0_3, .int .i64 a0_4, .int .i64 a0_5] 23 (0, 0))) := ⟨h0_⟩
           have n1_ : Aside0 (w62.heap[gb466]? = some (.cells #[.int .i64 a1_0, .int .i64 a1_1, .int .i64 a1_2, .int .i64 a1_3, .int .i64 a1_4, .int .i64 a1_5] 23 (0, 0))) := ⟨h1_⟩
           have n2_ : Aside0 (w62.heap[gb467]? = some (.cells #[.int .i64 0, .int .i64 0, .int .i64 0, .int .i64 0, .int .i64 0, .int .i64 0] 23 (0, 0))) := ⟨h2_⟩
           have n3_ : Aside0 (Below w.heap.size w w62) := ⟨h3_⟩
           clear BK465 BK466 BK467 HB; clear h0_ h1_ h2_ h3_; have BK465 := n0_; have BK466 := n1_; have BK467 := n2_; have HB := n3_; clear n0_ n1_ n2_ n3_
           have hHeld : w62.cell? ⟨gb466, 0, none⟩ = some (.int .i64 a1_0) ∧ w62.cell? ⟨gb466, 1, none⟩ = some (.int .i64 a1_1) ∧ w62.cell? ⟨gb466, 2, none⟩ = some (.int .i64 a1_2) ∧ w62.cell? ⟨gb466, 3, none⟩ = some (.int .i64 a1_3) ∧ w62.cell? ⟨gb466, 4, none⟩ = some (.int .i64 a1_4) ∧ w62.cell? ⟨gb466, 5, none⟩ = some (.int .i64 a1_5) ∧ w62.cell? ⟨gb465, 0, none⟩ = some (.int .i64 a0_0) ∧ w62.cell? ⟨gb465, 1, none⟩ = some (.int .i64 a0_1) ∧ w62.cell? ⟨gb465, 2, none⟩ = some (.int .i64 a0_2) ∧ w62.cell? ⟨gb465, 3, none⟩ = some (.int .i64 a0_3) ∧ w62.cell? ⟨gb465, 4, none⟩ = some (.int .i64 a0_4) ∧ w62.cell? ⟨gb465, 5, none⟩ = some (.int .i64 a0_5) := hS_
           refine norm_ (a' := ?_) ?_ ?_
           rotate_left
           ·
            simp only [putAll, apz]
            rfl
           refine two_ (i := 46) (j := 59) (Ni := some 62) (Nj := some 6) (bt 57 4) (bm 61 720505571635101695) rfl rfl rfl rfl (two_of HT_.out (by kernel_rfl)) (by decide) (by decide) (fun K hK => ?_) (fun K hK => ?_)
           ·
            skip
            refine goes_ Tryd.func22 (by kernel_rfl) rfl #[.int .i64 a1_0, .int .i64 a0_4, .int .i64 a1_2, .int .i64 a0_5, .int .i64 a1_4] (by rfl) rfl rfl (by (try simp only [List.map_toArray, List.map_cons, List.map_nil]); first | done | rfl | (simp only [List.length_drop, List.length_take]; rfl)) ?_
            with_reducible refine (pointillistref08_sum.calls kj2 a1_0 a0_4 a1_2 a0_5 a1_4 t474 _ A29.out).mono ?_
            rintro e w63 ⟨rfl, hb⟩
            refine ⟨_, rfl, ?_⟩
            have n0_ := Aside0.mk (blk_below (bq BK465.out) hb)
            have n1_ := Aside0.mk (blk_below (bq BK466.out) hb)
            have n2_ := Aside0.mk (blk_below (bq BK467.out) hb)
            have n3_ := Aside0.mk (below_step (wq HB.out) hb)
            clear BK465 BK466 BK467 HB; have BK465 := n0_; have BK466 := n1_; have BK467 := n2_; have HB := n3_; clear n0_ n1_ n2_ n3_
            (try clear hb)
            (try clear hb2)
            (try clear hk)
            (try clear hi)
            refine hK.out _ _ ⟨(blk_cell BK466.out 0).trans rfl, (blk_cell BK466.out 1).trans rfl, (blk_cell BK466.out 2).trans rfl, (blk_cell BK466.out 3).trans rfl, (blk_cell BK466.out 4).trans rfl, (blk_cell BK466.out 5).trans rfl, (blk_cell BK465.out 0).trans rfl, (blk_cell BK465.out 1).trans rfl, (blk_cell BK465.out 2).trans rfl, (blk_cell BK465.out 3).trans rfl, (blk_cell BK465.out 4).trans rfl, (blk_cell BK465.out 5).trans rfl⟩ (fun hHeld => ?_)
            clear hK K
            refine norm_ (a' := ?_) ?_ ?_
            rotate_left
            ·
             show Act.put _ (some 62) _ = _
             simp only [apz, i64_w, i32_w]
             rfl
            exact norm_ (by first | (simp only [putAll, apz]; done) | (simp only [putAll, apz]; rfl)) (hJ8_17_26_35_46 () _ ⟨hHeld, (bq BK465.out), (bq BK466.out), (bq BK467.out), (wq HB.out)⟩)
           ·
            skip
            refine box_step ?hg (N := 6) ?hd (cs := #[.int .i64 0, .int .i64 0, .int .i64 0, .int .i64 0, .int .i64 0, .int .i64 0]) (t := 23) ?hr ?_; (case hd => rfl); (case hg => rfl); (case hr => first | (go_simp; done) | (go_simp; rfl))
            intro gb476 hg w63 hbox hb
            have n0_ := Aside0.mk (blk_below (bq BK465.out) hb)
            have n1_ := Aside0.mk (blk_below (bq BK466.out) hb)
            have n2_ := Aside0.mk (blk_below (bq BK467.out) hb)
            have n3_ := Aside0.mk (below_step (wq HB.out) hb)
            have n4_ := Aside0.mk (hbox)
            have n5_ := Aside0.mk ((by rw [hg]; exact (below_size (wq HB.out)) : w.heap.size ≤ gb476))
            have n6_ := Aside0.mk ((by rw [hg]; exact (below_size (wq HB.out)) : w.heap.size ≤ gb476))
            have n7_ := Aside0.mk ((by rw [hg]; exact Nat.ne_of_lt (blk_lt (bq BK465.out)) : gb465 ≠ gb476))
            have n8_ := Aside0.mk ((by rw [hg]; exact Nat.ne_of_gt (blk_lt (bq BK465.out)) : gb476 ≠ gb465))
            have n9_ := Aside0.mk ((by rw [hg]; exact Nat.ne_of_lt (blk_lt (bq BK466.out)) : gb466 ≠ gb476))
            have n10_ := Aside0.mk ((by rw [hg]; exact Nat.ne_of_gt (blk_lt (bq BK466.out)) : gb476 ≠ gb466))
            have n11_ := Aside0.mk ((by rw [hg]; exact Nat.ne_of_lt (blk_lt (bq BK467.out)) : gb467 ≠ gb476))
            have n12_ := Aside0.mk ((by rw [hg]; exact Nat.ne_of_gt (blk_lt (bq BK467.out)) : gb476 ≠ gb467))
            clear BK465 BK466 BK467 HB; have BK465 := n0_; have BK466 := n1_; have BK467 := n2_; have HB := n3_; have BK476 := n4_; have GW476 := n5_; have GE476 := n6_; have NB465_476 := n7_; have NB476_465 := n8_; have NB466_476 := n9_; have NB476_466 := n10_; have NB467_476 := n11_; have NB476_467 := n12_; clear n0_ n1_ n2_ n3_ n4_ n5_ n6_ n7_ n8_ n9_ n10_ n11_ n12_ hb hbox hg
            refine hK.out _ _ ⟨(blk_cell BK466.out 0).trans rfl, (blk_cell BK466.out 1).trans rfl, (blk_cell BK466.out 2).trans rfl, (blk_cell BK466.out 3).trans rfl, (blk_cell BK466.out 4).trans rfl, (blk_cell BK466.out 5).trans rfl, (blk_cell BK465.out 0).trans rfl, (blk_cell BK465.out 1).trans rfl, (blk_cell BK465.out 2).trans rfl, (blk_cell BK465.out 3).trans rfl, (blk_cell BK465.out 4).trans rfl, (blk_cell BK465.out 5).trans rfl⟩ (fun hHeld => ?_)
            clear hK K
            refine norm_ (a' := ?_) ?_ ?_
            rotate_left
            ·
             show Act.put _ (some 6) _ = _
             simp only [apz, i64_w, i32_w]
             rfl
            exact norm_ (by first | (simp only [putAll, apz]; done) | (simp only [putAll, apz]; rfl)) (hJ8_17_26_35_59 (gb476) _ ⟨hHeld, (bq BK465.out), (bq BK466.out), (bq BK467.out), (bq BK476.out), GW476.out, GE476.out, NB465_476.out, NB476_465.out, NB466_476.out, NB476_466.out, NB467_476.out, NB476_467.out, (wq HB.out)⟩)
         ·
          skip
          rintro gb476 w63 ⟨hS_, h0_, h1_, h2_, h3_, h4_, h5_, h6_, h7_, h8_, h9_, h10_, h11_, h12_⟩
          have n0_ : Aside0 (w63.heap[gb465]? = some (.cells #[.int .i64 a0_0, .int .i64 a0_1, .int .i64 a0_2, .int .i64 a0_3, .int .i64 a0_4, .int .i64 a0_5] 23 (0, 0))) := ⟨h0_⟩
          have n1_ : Aside0 (w63.heap[gb466]? = some (.cells #[.int .i64 a1_0, .int .i64 a1_1, .int .i64 a1_2, .int .i64 a1_3, .int .i64 a1_4, .int .i64 a1_5] 23 (0, 0))) := ⟨h1_⟩
          have n2_ : Aside0 (w63.heap[gb467]? = some (.cells #[.int .i64 0, .int .i64 0, .int .i64 0, .int .i64 0, .int .i64 0, .int .i64 0] 23 (0, 0))) := ⟨h2_⟩
          have n3_ : Aside0 (w63.heap[gb476]? = some (.cells #[.int .i64 0, .int .i64 0, .int .i64 0, .int .i64 0, .int .i64 0, .int .i64 0] 23 (0, 0))) := ⟨h3_⟩
          have n4_ : Aside0 (w.heap.size ≤ gb476) := ⟨h4_⟩
          have n5_ : Aside0 (w.heap.size ≤ gb476) := ⟨h5_⟩
          have n6_ : Aside0 (gb465 ≠ gb476) := ⟨h6_⟩
          have n7_ : Aside0 (gb476 ≠ gb465) := ⟨h7_⟩
          have n8_ : Aside0 (gb466 ≠ gb476) := ⟨h8_⟩
          have n9_ : Aside0 (gb476 ≠ gb466) := ⟨h9_⟩
          have n10_ : Aside0 (gb467 ≠ gb476) := ⟨h10_⟩
          have n11_ : Aside0 (gb476 ≠ gb467) := ⟨h11_⟩
          have n12_ : Aside0 (Below w.heap.size w w63) := ⟨h12_⟩
          clear BK465 BK466 BK467 HB; clear h0_ h1_ h2_ h3_ h4_ h5_ h6_ h7_ h8_ h9_ h10_ h11_ h12_; have BK465 := n0_; have BK466 := n1_; have BK467 := n2_; have BK476 := n3_; have GW476 := n4_; have GE476 := n5_; have NB465_476 := n6_; have NB476_465 := n7_; have NB466_476 := n8_; have NB476_466 := n9_; have NB467_476 := n10_; have NB476_467 := n11_; have HB := n12_; clear n0_ n1_ n2_ n3_ n4_ n5_ n6_ n7_ n8_ n9_ n10_ n11_ n12_
          have hHeld : w63.cell? ⟨gb466, 0, none⟩ = some (.int .i64 a1_0) ∧ w63.cell? ⟨gb466, 1, none⟩ = some (.int .i64 a1_1) ∧ w63.cell? ⟨gb466, 2, none⟩ = some (.int .i64 a1_2) ∧ w63.cell? ⟨gb466, 3, none⟩ = some (.int .i64 a1_3) ∧ w63.cell? ⟨gb466, 4, none⟩ = some (.int .i64 a1_4) ∧ w63.cell? ⟨gb466, 5, none⟩ = some (.int .i64 a1_5) ∧ w63.cell? ⟨gb465, 0, none⟩ = some (.int .i64 a0_0) ∧ w63.cell? ⟨gb465, 1, none⟩ = some (.int .i64 a0_1) ∧ w63.cell? ⟨gb465, 2, none⟩ = some (.int .i64 a0_2) ∧ w63.cell? ⟨gb465, 3, none⟩ = some (.int .i64 a0_3) ∧ w63.cell? ⟨gb465, 4, none⟩ = some (.int .i64 a0_4) ∧ w63.cell? ⟨gb465, 5, none⟩ = some (.int .i64 a0_5) := hS_
          refine norm_ (a' := ?_) ?_ ?_
          rotate_left
          ·
           simp only [putAll, apz]
           rfl
          refine one_ (i := 46) (N := some 62) (bm 61 720575940379279359) rfl rfl (one_of HT_.out (by kernel_rfl)) (by decide) (fun K hK => ?_)
          refine goes_ Tryd.func22 (by kernel_rfl) rfl #[.int .i64 a1_0, .int .i64 a0_4, .int .i64 a1_2, .int .i64 a0_5, .int .i64 a1_4] (by rfl) rfl rfl (by (try simp only [List.map_toArray, List.map_cons, List.map_nil]); first | done | rfl | (simp only [List.length_drop, List.length_take]; rfl)) ?_
          with_reducible refine (pointillistref08_sum.calls kj2 a1_0 a0_4 a1_2 a0_5 a1_4 t474 _ A29.out).mono ?_
          rintro e w64 ⟨rfl, hb⟩
          refine ⟨_, rfl, ?_⟩
          have n0_ := Aside0.mk (blk_below (bq BK465.out) hb)
          have n1_ := Aside0.mk (blk_below (bq BK466.out) hb)
          have n2_ := Aside0.mk (blk_below (bq BK467.out) hb)
          have n3_ := Aside0.mk (blk_below (bq BK476.out) hb)
          have n4_ := Aside0.mk (below_step (wq HB.out) hb)
          clear BK465 BK466 BK467 BK476; clear HB; have BK465 := n0_; have BK466 := n1_; have BK467 := n2_; have BK476 := n3_; have HB := n4_; clear n0_ n1_ n2_ n3_ n4_
          (try clear hb)
          (try clear hb2)
          (try clear hk)
          (try clear hi)
          refine hK.out _ _ ⟨(blk_cell BK466.out 0).trans rfl, (blk_cell BK466.out 1).trans rfl, (blk_cell BK466.out 2).trans rfl, (blk_cell BK466.out 3).trans rfl, (blk_cell BK466.out 4).trans rfl, (blk_cell BK466.out 5).trans rfl, (blk_cell BK465.out 0).trans rfl, (blk_cell BK465.out 1).trans rfl, (blk_cell BK465.out 2).trans rfl, (blk_cell BK465.out 3).trans rfl, (blk_cell BK465.out 4).trans rfl, (blk_cell BK465.out 5).trans rfl⟩ (fun hHeld => ?_)
          clear hK K
          refine norm_ (a' := ?_) ?_ ?_
          rotate_left
          ·
           show Act.put _ (some 62) _ = _
           simp only [apz, i64_w, i32_w]
           rfl
          exact norm_ (by first | (simp only [putAll, apz]; done) | (simp only [putAll, apz]; rfl)) (hJ8_17_26_35_46_59 (gb476) _ ⟨hHeld, (bq BK465.out), (bq BK466.out), (bq BK467.out), (bq BK476.out), GW476.out, GE476.out, NB465_476.out, NB476_465.out, NB466_476.out, NB476_466.out, NB467_476.out, NB476_467.out, (wq HB.out)⟩)
        ·
         skip
         rintro _ w63 ⟨hS_, h0_, h1_, h2_, h3_⟩
         have n0_ : Aside0 (w63.heap[gb465]? = some (.cells #[.int .i64 a0_0, .int .i64 a0_1, .int .i64 a0_2, .int .i64 a0_3, .int .i64 a0_4, .int .i64 a0_5] 23 (0, 0))) := ⟨h0_⟩
         have n1_ : Aside0 (w63.heap[gb466]? = some (.cells #[.int .i64 a1_0, .int .i64 a1_1, .int .i64 a1_2, .int .i64 a1_3, .int .i64 a1_4, .int .i64 a1_5] 23 (0, 0))) := ⟨h1_⟩
         have n2_ : Aside0 (w63.heap[gb467]? = some (.cells #[.int .i64 0, .int .i64 0, .int .i64 0, .int .i64 0, .int .i64 0, .int .i64 0] 23 (0, 0))) := ⟨h2_⟩
         have n3_ : Aside0 (Below w.heap.size w w63) := ⟨h3_⟩
         clear BK465 BK466 BK467 HB; clear h0_ h1_ h2_ h3_; have BK465 := n0_; have BK466 := n1_; have BK467 := n2_; have HB := n3_; clear n0_ n1_ n2_ n3_
         have hHeld : w63.cell? ⟨gb466, 0, none⟩ = some (.int .i64 a1_0) ∧ w63.cell? ⟨gb466, 1, none⟩ = some (.int .i64 a1_1) ∧ w63.cell? ⟨gb466, 2, none⟩ = some (.int .i64 a1_2) ∧ w63.cell? ⟨gb466, 3, none⟩ = some (.int .i64 a1_3) ∧ w63.cell? ⟨gb466, 4, none⟩ = some (.int .i64 a1_4) ∧ w63.cell? ⟨gb466, 5, none⟩ = some (.int .i64 a1_5) ∧ w63.cell? ⟨gb465, 0, none⟩ = some (.int .i64 a0_0) ∧ w63.cell? ⟨gb465, 1, none⟩ = some (.int .i64 a0_1) ∧ w63.cell? ⟨gb465, 2, none⟩ = some (.int .i64 a0_2) ∧ w63.cell? ⟨gb465, 3, none⟩ = some (.int .i64 a0_3) ∧ w63.cell? ⟨gb465, 4, none⟩ = some (.int .i64 a0_4) ∧ w63.cell? ⟨gb465, 5, none⟩ = some (.int .i64 a0_5) := hS_
         refine norm_ (a' := ?_) ?_ ?_
         rotate_left
         ·
          simp only [putAll, apz]
          rfl
         refine two_ (i := 57) (j := 59) (Ni := some 73) (Nj := some 6) (bt 58 3) (bm 61 720575940379279359) rfl rfl rfl rfl (two_of HT_.out (by kernel_rfl)) (by decide) (by decide) (fun K hK => ?_) (fun K hK => ?_)
         ·
          skip
          refine goes_ Tryd.func22 (by kernel_rfl) rfl #[.int .i64 a1_1, .int .i64 a0_4, .int .i64 a1_3, .int .i64 a0_5, .int .i64 a1_5] (by rfl) rfl rfl (by (try simp only [List.map_toArray, List.map_cons, List.map_nil]); first | done | rfl | (simp only [List.length_drop, List.length_take]; rfl)) ?_
          with_reducible refine (pointillistref08_sum.calls kj2 a1_1 a0_4 a1_3 a0_5 a1_5 t475 _ A30.out).mono ?_
          rintro e w64 ⟨rfl, hb⟩
          refine ⟨_, rfl, ?_⟩
          have n0_ := Aside0.mk (blk_below (bq BK465.out) hb)
          have n1_ := Aside0.mk (blk_below (bq BK466.out) hb)
          have n2_ := Aside0.mk (blk_below (bq BK467.out) hb)
          have n3_ := Aside0.mk (below_step (wq HB.out) hb)
          clear BK465 BK466 BK467 HB; have BK465 := n0_; have BK466 := n1_; have BK467 := n2_; have HB := n3_; clear n0_ n1_ n2_ n3_
          (try clear hb)
          (try clear hb2)
          (try clear hk)
          (try clear hi)
          refine hK.out _ _ ⟨(blk_cell BK466.out 0).trans rfl, (blk_cell BK466.out 1).trans rfl, (blk_cell BK466.out 2).trans rfl, (blk_cell BK466.out 3).trans rfl, (blk_cell BK466.out 4).trans rfl, (blk_cell BK466.out 5).trans rfl, (blk_cell BK465.out 0).trans rfl, (blk_cell BK465.out 1).trans rfl, (blk_cell BK465.out 2).trans rfl, (blk_cell BK465.out 3).trans rfl, (blk_cell BK465.out 4).trans rfl, (blk_cell BK465.out 5).trans rfl⟩ (fun hHeld => ?_)
          clear hK K
          refine norm_ (a' := ?_) ?_ ?_
          rotate_left
          ·
           show Act.put _ (some 73) _ = _
           simp only [apz, i64_w, i32_w]
           rfl
          refine pure_ (i := 58) (N := some 74) (v := ?_) (a' := ?_) (bt 59 2) rfl rfl (any_of HT_.out (by kernel_rfl)) (fun _ _ _ h => h) (Or.inl ⟨by rfl, ?_⟩) ?_ ?_
          rotate_left; focus (intro w'; go_simp; with_reducible rfl)
          rotate_left; focus (simp only [apz, i64_w, i32_w]; rfl)
          exact norm_ (by first | (simp only [putAll, apz]; done) | (simp only [putAll, apz]; rfl)) (hJ8_17_26_35_46_57 () _ ⟨hHeld, (bq BK465.out), (bq BK466.out), (bq BK467.out), (wq HB.out)⟩)
         ·
          skip
          refine box_step ?hg (N := 6) ?hd (cs := #[.int .i64 0, .int .i64 0, .int .i64 0, .int .i64 0, .int .i64 0, .int .i64 0]) (t := 23) ?hr ?_; (case hd => rfl); (case hg => rfl); (case hr => first | (go_simp; done) | (go_simp; rfl))
          intro gb476 hg w64 hbox hb
          have n0_ := Aside0.mk (blk_below (bq BK465.out) hb)
          have n1_ := Aside0.mk (blk_below (bq BK466.out) hb)
          have n2_ := Aside0.mk (blk_below (bq BK467.out) hb)
          have n3_ := Aside0.mk (below_step (wq HB.out) hb)
          have n4_ := Aside0.mk (hbox)
          have n5_ := Aside0.mk ((by rw [hg]; exact (below_size (wq HB.out)) : w.heap.size ≤ gb476))
          have n6_ := Aside0.mk ((by rw [hg]; exact (below_size (wq HB.out)) : w.heap.size ≤ gb476))
          have n7_ := Aside0.mk ((by rw [hg]; exact Nat.ne_of_lt (blk_lt (bq BK465.out)) : gb465 ≠ gb476))
          have n8_ := Aside0.mk ((by rw [hg]; exact Nat.ne_of_gt (blk_lt (bq BK465.out)) : gb476 ≠ gb465))
          have n9_ := Aside0.mk ((by rw [hg]; exact Nat.ne_of_lt (blk_lt (bq BK466.out)) : gb466 ≠ gb476))
          have n10_ := Aside0.mk ((by rw [hg]; exact Nat.ne_of_gt (blk_lt (bq BK466.out)) : gb476 ≠ gb466))
          have n11_ := Aside0.mk ((by rw [hg]; exact Nat.ne_of_lt (blk_lt (bq BK467.out)) : gb467 ≠ gb476))
          have n12_ := Aside0.mk ((by rw [hg]; exact Nat.ne_of_gt (blk_lt (bq BK467.out)) : gb476 ≠ gb467))
          clear BK465 BK466 BK467 HB; have BK465 := n0_; have BK466 := n1_; have BK467 := n2_; have HB := n3_; have BK476 := n4_; have GW476 := n5_; have GE476 := n6_; have NB465_476 := n7_; have NB476_465 := n8_; have NB466_476 := n9_; have NB476_466 := n10_; have NB467_476 := n11_; have NB476_467 := n12_; clear n0_ n1_ n2_ n3_ n4_ n5_ n6_ n7_ n8_ n9_ n10_ n11_ n12_ hb hbox hg
          refine hK.out _ _ ⟨(blk_cell BK466.out 0).trans rfl, (blk_cell BK466.out 1).trans rfl, (blk_cell BK466.out 2).trans rfl, (blk_cell BK466.out 3).trans rfl, (blk_cell BK466.out 4).trans rfl, (blk_cell BK466.out 5).trans rfl, (blk_cell BK465.out 0).trans rfl, (blk_cell BK465.out 1).trans rfl, (blk_cell BK465.out 2).trans rfl, (blk_cell BK465.out 3).trans rfl, (blk_cell BK465.out 4).trans rfl, (blk_cell BK465.out 5).trans rfl⟩ (fun hHeld => ?_)
          clear hK K
          refine norm_ (a' := ?_) ?_ ?_
          rotate_left
          ·
           show Act.put _ (some 6) _ = _
           simp only [apz, i64_w, i32_w]
           rfl
          exact norm_ (by first | (simp only [putAll, apz]; done) | (simp only [putAll, apz]; rfl)) (hJ8_17_26_35_46_59 (gb476) _ ⟨hHeld, (bq BK465.out), (bq BK466.out), (bq BK467.out), (bq BK476.out), GW476.out, GE476.out, NB465_476.out, NB476_465.out, NB466_476.out, NB476_466.out, NB467_476.out, NB476_467.out, (wq HB.out)⟩)
       ·
        skip
        rintro gb476 w64 ⟨hS_, h0_, h1_, h2_, h3_, h4_, h5_, h6_, h7_, h8_, h9_, h10_, h11_, h12_⟩
        have n0_ : Aside0 (w64.heap[gb465]? = some (.cells #[.int .i64 a0_0, .int .i64 a0_1, .int .i64 a0_2, .int .i64 a0_3, .int .i64 a0_4, .int .i64 a0_5] 23 (0, 0))) := ⟨h0_⟩
        have n1_ : Aside0 (w64.heap[gb466]? = some (.cells #[.int .i64 a1_0, .int .i64 a1_1, .int .i64 a1_2, .int .i64 a1_3, .int .i64 a1_4, .int .i64 a1_5] 23 (0, 0))) := ⟨h1_⟩
        have n2_ : Aside0 (w64.heap[gb467]? = some (.cells #[.int .i64 0, .int .i64 0, .int .i64 0, .int .i64 0, .int .i64 0, .int .i64 0] 23 (0, 0))) := ⟨h2_⟩
        have n3_ : Aside0 (w64.heap[gb476]? = some (.cells #[.int .i64 0, .int .i64 0, .int .i64 0, .int .i64 0, .int .i64 0, .int .i64 0] 23 (0, 0))) := ⟨h3_⟩
        have n4_ : Aside0 (w.heap.size ≤ gb476) := ⟨h4_⟩
        have n5_ : Aside0 (w.heap.size ≤ gb476) := ⟨h5_⟩
        have n6_ : Aside0 (gb465 ≠ gb476) := ⟨h6_⟩
        have n7_ : Aside0 (gb476 ≠ gb465) := ⟨h7_⟩
        have n8_ : Aside0 (gb466 ≠ gb476) := ⟨h8_⟩
        have n9_ : Aside0 (gb476 ≠ gb466) := ⟨h9_⟩
        have n10_ : Aside0 (gb467 ≠ gb476) := ⟨h10_⟩
        have n11_ : Aside0 (gb476 ≠ gb467) := ⟨h11_⟩
        have n12_ : Aside0 (Below w.heap.size w w64) := ⟨h12_⟩
        clear BK465 BK466 BK467 HB; clear h0_ h1_ h2_ h3_ h4_ h5_ h6_ h7_ h8_ h9_ h10_ h11_ h12_; have BK465 := n0_; have BK466 := n1_; have BK467 := n2_; have BK476 := n3_; have GW476 := n4_; have GE476 := n5_; have NB465_476 := n6_; have NB476_465 := n7_; have NB466_476 := n8_; have NB476_466 := n9_; have NB467_476 := n10_; have NB476_467 := n11_; have HB := n12_; clear n0_ n1_ n2_ n3_ n4_ n5_ n6_ n7_ n8_ n9_ n10_ n11_ n12_
        have hHeld : w64.cell? ⟨gb466, 0, none⟩ = some (.int .i64 a1_0) ∧ w64.cell? ⟨gb466, 1, none⟩ = some (.int .i64 a1_1) ∧ w64.cell? ⟨gb466, 2, none⟩ = some (.int .i64 a1_2) ∧ w64.cell? ⟨gb466, 3, none⟩ = some (.int .i64 a1_3) ∧ w64.cell? ⟨gb466, 4, none⟩ = some (.int .i64 a1_4) ∧ w64.cell? ⟨gb466, 5, none⟩ = some (.int .i64 a1_5) ∧ w64.cell? ⟨gb465, 0, none⟩ = some (.int .i64 a0_0) ∧ w64.cell? ⟨gb465, 1, none⟩ = some (.int .i64 a0_1) ∧ w64.cell? ⟨gb465, 2, none⟩ = some (.int .i64 a0_2) ∧ w64.cell? ⟨gb465, 3, none⟩ = some (.int .i64 a0_3) ∧ w64.cell? ⟨gb465, 4, none⟩ = some (.int .i64 a0_4) ∧ w64.cell? ⟨gb465, 5, none⟩ = some (.int .i64 a0_5) := hS_
        refine norm_ (a' := ?_) ?_ ?_
        rotate_left
        ·
         simp only [putAll, apz]
         rfl
        refine one_ (i := 57) (N := some 73) (bm 61 864691128455135231) rfl rfl (one_of HT_.out (by kernel_rfl)) (by decide) (fun K hK => ?_)
        refine goes_ Tryd.func22 (by kernel_rfl) rfl #[.int .i64 a1_1, .int .i64 a0_4, .int .i64 a1_3, .int .i64 a0_5, .int .i64 a1_5] (by rfl) rfl rfl (by (try simp only [List.map_toArray, List.map_cons, List.map_nil]); first | done | rfl | (simp only [List.length_drop, List.length_take]; rfl)) ?_
        with_reducible refine (pointillistref08_sum.calls kj2 a1_1 a0_4 a1_3 a0_5 a1_5 t475 _ A30.out).mono ?_
        rintro e w65 ⟨rfl, hb⟩
        refine ⟨_, rfl, ?_⟩
        have n0_ := Aside0.mk (blk_below (bq BK465.out) hb)
        have n1_ := Aside0.mk (blk_below (bq BK466.out) hb)
        have n2_ := Aside0.mk (blk_below (bq BK467.out) hb)
        have n3_ := Aside0.mk (blk_below (bq BK476.out) hb)
        have n4_ := Aside0.mk (below_step (wq HB.out) hb)
        clear BK465 BK466 BK467 BK476; clear HB; have BK465 := n0_; have BK466 := n1_; have BK467 := n2_; have BK476 := n3_; have HB := n4_; clear n0_ n1_ n2_ n3_ n4_
        (try clear hb)
        (try clear hb2)
        (try clear hk)
        (try clear hi)
        refine hK.out _ _ ⟨(blk_cell BK466.out 0).trans rfl, (blk_cell BK466.out 1).trans rfl, (blk_cell BK466.out 2).trans rfl, (blk_cell BK466.out 3).trans rfl, (blk_cell BK466.out 4).trans rfl, (blk_cell BK466.out 5).trans rfl, (blk_cell BK465.out 0).trans rfl, (blk_cell BK465.out 1).trans rfl, (blk_cell BK465.out 2).trans rfl, (blk_cell BK465.out 3).trans rfl, (blk_cell BK465.out 4).trans rfl, (blk_cell BK465.out 5).trans rfl⟩ (fun hHeld => ?_)
        clear hK K
        refine norm_ (a' := ?_) ?_ ?_
        rotate_left
        ·
         show Act.put _ (some 73) _ = _
         simp only [apz, i64_w, i32_w]
         rfl
        refine pure_ (i := 58) (N := some 74) (v := ?_) (a' := ?_) (bt 60 1) rfl rfl (any_of HT_.out (by kernel_rfl)) (fun _ _ _ h => h) (Or.inl ⟨by rfl, ?_⟩) ?_ ?_
        rotate_left; focus (intro w'; go_simp; with_reducible rfl)
        rotate_left; focus (simp only [apz, i64_w, i32_w]; rfl)
        exact norm_ (by first | (simp only [putAll, apz]; done) | (simp only [putAll, apz]; rfl)) (hJ8_17_26_35_46_57_59 (gb476) _ ⟨hHeld, (bq BK465.out), (bq BK466.out), (bq BK467.out), (bq BK476.out), GW476.out, GE476.out, NB465_476.out, NB476_465.out, NB466_476.out, NB476_466.out, NB467_476.out, NB476_467.out, (wq HB.out)⟩)
      ·
       skip
       rintro _ w64 ⟨hS_, h0_, h1_, h2_, h3_⟩
       have n0_ : Aside0 (w64.heap[gb465]? = some (.cells #[.int .i64 a0_0, .int .i64 a0_1, .int .i64 a0_2, .int .i64 a0_3, .int .i64 a0_4, .int .i64 a0_5] 23 (0, 0))) := ⟨h0_⟩
       have n1_ : Aside0 (w64.heap[gb466]? = some (.cells #[.int .i64 a1_0, .int .i64 a1_1, .int .i64 a1_2, .int .i64 a1_3, .int .i64 a1_4, .int .i64 a1_5] 23 (0, 0))) := ⟨h1_⟩
       have n2_ : Aside0 (w64.heap[gb467]? = some (.cells #[.int .i64 0, .int .i64 0, .int .i64 0, .int .i64 0, .int .i64 0, .int .i64 0] 23 (0, 0))) := ⟨h2_⟩
       have n3_ : Aside0 (Below w.heap.size w w64) := ⟨h3_⟩
       clear BK465 BK466 BK467 HB; clear h0_ h1_ h2_ h3_; have BK465 := n0_; have BK466 := n1_; have BK467 := n2_; have HB := n3_; clear n0_ n1_ n2_ n3_
       have hHeld : w64.cell? ⟨gb466, 0, none⟩ = some (.int .i64 a1_0) ∧ w64.cell? ⟨gb466, 1, none⟩ = some (.int .i64 a1_1) ∧ w64.cell? ⟨gb466, 2, none⟩ = some (.int .i64 a1_2) ∧ w64.cell? ⟨gb466, 3, none⟩ = some (.int .i64 a1_3) ∧ w64.cell? ⟨gb466, 4, none⟩ = some (.int .i64 a1_4) ∧ w64.cell? ⟨gb466, 5, none⟩ = some (.int .i64 a1_5) ∧ w64.cell? ⟨gb465, 0, none⟩ = some (.int .i64 a0_0) ∧ w64.cell? ⟨gb465, 1, none⟩ = some (.int .i64 a0_1) ∧ w64.cell? ⟨gb465, 2, none⟩ = some (.int .i64 a0_2) ∧ w64.cell? ⟨gb465, 3, none⟩ = some (.int .i64 a0_3) ∧ w64.cell? ⟨gb465, 4, none⟩ = some (.int .i64 a0_4) ∧ w64.cell? ⟨gb465, 5, none⟩ = some (.int .i64 a0_5) := hS_
       refine norm_ (a' := ?_) ?_ ?_
       rotate_left
       ·
        simp only [putAll, apz]
        rfl
       refine one_ (i := 59) (N := some 6) (bt 60 1) rfl rfl (one_of HT_.out (by kernel_rfl)) (by decide) (fun K hK => ?_)
       refine box_step ?hg (N := 6) ?hd (cs := #[.int .i64 0, .int .i64 0, .int .i64 0, .int .i64 0, .int .i64 0, .int .i64 0]) (t := 23) ?hr ?_; (case hd => rfl); (case hg => rfl); (case hr => first | (go_simp; done) | (go_simp; rfl))
       intro gb476 hg w65 hbox hb
       have n0_ := Aside0.mk (blk_below (bq BK465.out) hb)
       have n1_ := Aside0.mk (blk_below (bq BK466.out) hb)
       have n2_ := Aside0.mk (blk_below (bq BK467.out) hb)
       have n3_ := Aside0.mk (below_step (wq HB.out) hb)
       have n4_ := Aside0.mk (hbox)
       have n5_ := Aside0.mk ((by rw [hg]; exact (below_size (wq HB.out)) : w.heap.size ≤ gb476))
       have n6_ := Aside0.mk ((by rw [hg]; exact (below_size (wq HB.out)) : w.heap.size ≤ gb476))
       have n7_ := Aside0.mk ((by rw [hg]; exact Nat.ne_of_lt (blk_lt (bq BK465.out)) : gb465 ≠ gb476))
       have n8_ := Aside0.mk ((by rw [hg]; exact Nat.ne_of_gt (blk_lt (bq BK465.out)) : gb476 ≠ gb465))
       have n9_ := Aside0.mk ((by rw [hg]; exact Nat.ne_of_lt (blk_lt (bq BK466.out)) : gb466 ≠ gb476))
       have n10_ := Aside0.mk ((by rw [hg]; exact Nat.ne_of_gt (blk_lt (bq BK466.out)) : gb476 ≠ gb466))
       have n11_ := Aside0.mk ((by rw [hg]; exact Nat.ne_of_lt (blk_lt (bq BK467.out)) : gb467 ≠ gb476))
       have n12_ := Aside0.mk ((by rw [hg]; exact Nat.ne_of_gt (blk_lt (bq BK467.out)) : gb476 ≠ gb467))
       clear BK465 BK466 BK467 HB; have BK465 := n0_; have BK466 := n1_; have BK467 := n2_; have HB := n3_; have BK476 := n4_; have GW476 := n5_; have GE476 := n6_; have NB465_476 := n7_; have NB476_465 := n8_; have NB466_476 := n9_; have NB476_466 := n10_; have NB467_476 := n11_; have NB476_467 := n12_; clear n0_ n1_ n2_ n3_ n4_ n5_ n6_ n7_ n8_ n9_ n10_ n11_ n12_ hb hbox hg
       refine hK.out _ _ ⟨(blk_cell BK466.out 0).trans rfl, (blk_cell BK466.out 1).trans rfl, (blk_cell BK466.out 2).trans rfl, (blk_cell BK466.out 3).trans rfl, (blk_cell BK466.out 4).trans rfl, (blk_cell BK466.out 5).trans rfl, (blk_cell BK465.out 0).trans rfl, (blk_cell BK465.out 1).trans rfl, (blk_cell BK465.out 2).trans rfl, (blk_cell BK465.out 3).trans rfl, (blk_cell BK465.out 4).trans rfl, (blk_cell BK465.out 5).trans rfl⟩ (fun hHeld => ?_)
       clear hK K
       refine norm_ (a' := ?_) ?_ ?_
       rotate_left
       ·
        show Act.put _ (some 6) _ = _
        simp only [apz, i64_w, i32_w]
        rfl
       exact norm_ (by first | (simp only [putAll, apz]; done) | (simp only [putAll, apz]; rfl)) (hJ8_17_26_35_46_57_59 (gb476) _ ⟨hHeld, (bq BK465.out), (bq BK466.out), (bq BK467.out), (bq BK476.out), GW476.out, GE476.out, NB465_476.out, NB476_465.out, NB466_476.out, NB476_466.out, NB467_476.out, NB476_467.out, (wq HB.out)⟩)
     rintro gb476 w65 ⟨hS_, h0_, h1_, h2_, h3_, h4_, h5_, h6_, h7_, h8_, h9_, h10_, h11_, h12_⟩
     have n0_ : Aside0 (w65.heap[gb465]? = some (.cells #[.int .i64 a0_0, .int .i64 a0_1, .int .i64 a0_2, .int .i64 a0_3, .int .i64 a0_4, .int .i64 a0_5] 23 (0, 0))) := ⟨h0_⟩
     have n1_ : Aside0 (w65.heap[gb466]? = some (.cells #[.int .i64 a1_0, .int .i64 a1_1, .int .i64 a1_2, .int .i64 a1_3, .int .i64 a1_4, .int .i64 a1_5] 23 (0, 0))) := ⟨h1_⟩
     have n2_ : Aside0 (w65.heap[gb467]? = some (.cells #[.int .i64 0, .int .i64 0, .int .i64 0, .int .i64 0, .int .i64 0, .int .i64 0] 23 (0, 0))) := ⟨h2_⟩
     have n3_ : Aside0 (w65.heap[gb476]? = some (.cells #[.int .i64 0, .int .i64 0, .int .i64 0, .int .i64 0, .int .i64 0, .int .i64 0] 23 (0, 0))) := ⟨h3_⟩
     have n4_ : Aside0 (w.heap.size ≤ gb476) := ⟨h4_⟩
     have n5_ : Aside0 (w.heap.size ≤ gb476) := ⟨h5_⟩
     have n6_ : Aside0 (gb465 ≠ gb476) := ⟨h6_⟩
     have n7_ : Aside0 (gb476 ≠ gb465) := ⟨h7_⟩
     have n8_ : Aside0 (gb466 ≠ gb476) := ⟨h8_⟩
     have n9_ : Aside0 (gb476 ≠ gb466) := ⟨h9_⟩
     have n10_ : Aside0 (gb467 ≠ gb476) := ⟨h10_⟩
     have n11_ : Aside0 (gb476 ≠ gb467) := ⟨h11_⟩
     have n12_ : Aside0 (Below w.heap.size w w65) := ⟨h12_⟩
     clear BK465 BK466 BK467 HB; clear h0_ h1_ h2_ h3_ h4_ h5_ h6_ h7_ h8_ h9_ h10_ h11_ h12_; have BK465 := n0_; have BK466 := n1_; have BK467 := n2_; have BK476 := n3_; have GW476 := n4_; have GE476 := n5_; have NB465_476 := n6_; have NB476_465 := n7_; have NB466_476 := n8_; have NB476_466 := n9_; have NB467_476 := n10_; have NB476_467 := n11_; have HB := n12_; clear n0_ n1_ n2_ n3_ n4_ n5_ n6_ n7_ n8_ n9_ n10_ n11_ n12_
     have hHeld : w65.cell? ⟨gb466, 0, none⟩ = some (.int .i64 a1_0) ∧ w65.cell? ⟨gb466, 1, none⟩ = some (.int .i64 a1_1) ∧ w65.cell? ⟨gb466, 2, none⟩ = some (.int .i64 a1_2) ∧ w65.cell? ⟨gb466, 3, none⟩ = some (.int .i64 a1_3) ∧ w65.cell? ⟨gb466, 4, none⟩ = some (.int .i64 a1_4) ∧ w65.cell? ⟨gb466, 5, none⟩ = some (.int .i64 a1_5) ∧ w65.cell? ⟨gb465, 0, none⟩ = some (.int .i64 a0_0) ∧ w65.cell? ⟨gb465, 1, none⟩ = some (.int .i64 a0_1) ∧ w65.cell? ⟨gb465, 2, none⟩ = some (.int .i64 a0_2) ∧ w65.cell? ⟨gb465, 3, none⟩ = some (.int .i64 a0_3) ∧ w65.cell? ⟨gb465, 4, none⟩ = some (.int .i64 a0_4) ∧ w65.cell? ⟨gb465, 5, none⟩ = some (.int .i64 a0_5) := hS_
     refine norm_ (a' := ?_) ?_ ?_
     rotate_left
     ·
      simp only [putAll, apz]
      rfl
     refine one_ (i := 60) (N := none) (bt 61 0) rfl rfl (one_of HT_.out (by kernel_rfl)) (by decide) (fun K hK => ?_)
     have hs66 : w65.cell? ⟨gb476, 0, none⟩ = some (.int .i64 0) := (blk_cell BK476.out 0).trans rfl
     have hfs66 := blk_frozen BK476.out 0
     have hns66_0 := NB465_476.out
     have hns66_1 := NB466_476.out
     have hns66_2 := NB467_476.out
     have hms66_0 := NB476_465.out
     have hms66_1 := NB476_466.out
     have hms66_2 := NB476_467.out
     have hs67 : w65.cell? ⟨gb476, 1, none⟩ = some (.int .i64 0) := (blk_cell BK476.out 1).trans rfl
     have hfs67 := blk_frozen BK476.out 1
     have hns67_0 := NB465_476.out
     have hns67_1 := NB466_476.out
     have hns67_2 := NB467_476.out
     have hms67_0 := NB476_465.out
     have hms67_1 := NB476_466.out
     have hms67_2 := NB476_467.out
     have hs68 : w65.cell? ⟨gb476, 2, none⟩ = some (.int .i64 0) := (blk_cell BK476.out 2).trans rfl
     have hfs68 := blk_frozen BK476.out 2
     have hns68_0 := NB465_476.out
     have hns68_1 := NB466_476.out
     have hns68_2 := NB467_476.out
     have hms68_0 := NB476_465.out
     have hms68_1 := NB476_466.out
     have hms68_2 := NB476_467.out
     have hs69 : w65.cell? ⟨gb476, 3, none⟩ = some (.int .i64 0) := (blk_cell BK476.out 3).trans rfl
     have hfs69 := blk_frozen BK476.out 3
     have hns69_0 := NB465_476.out
     have hns69_1 := NB466_476.out
     have hns69_2 := NB467_476.out
     have hms69_0 := NB476_465.out
     have hms69_1 := NB476_466.out
     have hms69_2 := NB476_467.out
     have hs70 : w65.cell? ⟨gb476, 4, none⟩ = some (.int .i64 0) := (blk_cell BK476.out 4).trans rfl
     have hfs70 := blk_frozen BK476.out 4
     have hns70_0 := NB465_476.out
     have hns70_1 := NB466_476.out
     have hns70_2 := NB467_476.out
     have hms70_0 := NB476_465.out
     have hms70_1 := NB476_466.out
     have hms70_2 := NB476_467.out
     have hs71 : w65.cell? ⟨gb476, 5, none⟩ = some (.int .i64 0) := (blk_cell BK476.out 5).trans rfl
     have hfs71 := blk_frozen BK476.out 5
     have hns71_0 := NB465_476.out
     have hns71_1 := NB466_476.out
     have hns71_2 := NB467_476.out
     have hms71_0 := NB476_465.out
     have hms71_1 := NB476_466.out
     have hms71_2 := NB476_467.out
     refine skip_ (w1 := ?_) (by rfl) rfl ?_ ?_
     rotate_left
     ·
      go_simp
      rfl
     refine hK.out _ _ ⟨(cf NB466_476.out ((cf NB466_476.out ((cf NB466_476.out ((cf NB466_476.out ((cf NB466_476.out ((cf NB466_476.out (hHeld.1)))))))))))), (cf NB466_476.out ((cf NB466_476.out ((cf NB466_476.out ((cf NB466_476.out ((cf NB466_476.out ((cf NB466_476.out (hHeld.2.1)))))))))))), (cf NB466_476.out ((cf NB466_476.out ((cf NB466_476.out ((cf NB466_476.out ((cf NB466_476.out ((cf NB466_476.out (hHeld.2.2.1)))))))))))), (cf NB466_476.out ((cf NB466_476.out ((cf NB466_476.out ((cf NB466_476.out ((cf NB466_476.out ((cf NB466_476.out (hHeld.2.2.2.1)))))))))))), (cf NB466_476.out ((cf NB466_476.out ((cf NB466_476.out ((cf NB466_476.out ((cf NB466_476.out ((cf NB466_476.out (hHeld.2.2.2.2.1)))))))))))), (cf NB466_476.out ((cf NB466_476.out ((cf NB466_476.out ((cf NB466_476.out ((cf NB466_476.out ((cf NB466_476.out (hHeld.2.2.2.2.2.1)))))))))))), (cf NB465_476.out ((cf NB465_476.out ((cf NB465_476.out ((cf NB465_476.out ((cf NB465_476.out ((cf NB465_476.out (hHeld.2.2.2.2.2.2.1)))))))))))), (cf NB465_476.out ((cf NB465_476.out ((cf NB465_476.out ((cf NB465_476.out ((cf NB465_476.out ((cf NB465_476.out (hHeld.2.2.2.2.2.2.2.1)))))))))))), (cf NB465_476.out ((cf NB465_476.out ((cf NB465_476.out ((cf NB465_476.out ((cf NB465_476.out ((cf NB465_476.out (hHeld.2.2.2.2.2.2.2.2.1)))))))))))), (cf NB465_476.out ((cf NB465_476.out ((cf NB465_476.out ((cf NB465_476.out ((cf NB465_476.out ((cf NB465_476.out (hHeld.2.2.2.2.2.2.2.2.2.1)))))))))))), (cf NB465_476.out ((cf NB465_476.out ((cf NB465_476.out ((cf NB465_476.out ((cf NB465_476.out ((cf NB465_476.out (hHeld.2.2.2.2.2.2.2.2.2.2.1)))))))))))), (cf NB465_476.out ((cf NB465_476.out ((cf NB465_476.out ((cf NB465_476.out ((cf NB465_476.out ((cf NB465_476.out (hHeld.2.2.2.2.2.2.2.2.2.2.2))))))))))))⟩ (fun hHeld => ?_)
     clear hK K
     refine done_ (done_of HT_.out (by kernel_rfl)) ?_
     have hnb72 := NB476_465.out
     have hnc72 := NB465_476.out
     have hnb73 := NB476_466.out
     have hnc73 := NB466_476.out
     have hnb74 := NB476_467.out
     have hnc74 := NB467_476.out
     have hcz75_0 : w65.cell? ⟨gb476, 0, none⟩ = some (.int .i64 0) := (blk_cell BK476.out 0).trans rfl
     have hcz75_1 : w65.cell? ⟨gb476, 1, none⟩ = some (.int .i64 0) := (blk_cell BK476.out 1).trans rfl
     have hcz75_2 : w65.cell? ⟨gb476, 2, none⟩ = some (.int .i64 0) := (blk_cell BK476.out 2).trans rfl
     have hcz75_3 : w65.cell? ⟨gb476, 3, none⟩ = some (.int .i64 0) := (blk_cell BK476.out 3).trans rfl
     have hcz75_4 : w65.cell? ⟨gb476, 4, none⟩ = some (.int .i64 0) := (blk_cell BK476.out 4).trans rfl
     have hcz75_5 : w65.cell? ⟨gb476, 5, none⟩ = some (.int .i64 0) := (blk_cell BK476.out 5).trans rfl
     have hfz75_0 := blk_frozen BK476.out 0
     have hfz75_1 := blk_frozen BK476.out 1
     have hfz75_2 := blk_frozen BK476.out 2
     have hfz75_3 := blk_frozen BK476.out 3
     have hfz75_4 := blk_frozen BK476.out 4
     have hfz75_5 := blk_frozen BK476.out 5
     try go_wp2_with (first | ((with_reducible refine gate_callee (f := 13) rfl ?_); refine goesL_ (some 76) rfl rfl Tryd.func13 (by kernel_rfl) rfl #[.agg #[.int .i64 t470, .int .i64 t471, .int .i64 t472, .int .i64 t473, .int .i64 t474, .int .i64 t475]] rfl (by (try simp only [List.map_toArray, List.map_cons, List.map_nil]); first | done | rfl | (simp only [List.length_drop, List.length_take]; rfl)) ?_; (with_reducible refine (pointillistref08_Right.calls t470 t471 t472 t473 t474 t475 false _ A31.out).mono ?_); rintro e w76 ⟨rfl, hb⟩; refine ⟨_, rfl, ?_⟩; have n0_ := Aside0.mk (blk_below (g := gb465) (o := .cells #[.int .i64 a0_0, .int .i64 a0_1, .int .i64 a0_2, .int .i64 a0_3, .int .i64 a0_4, .int .i64 a0_5] 23 (0, 0)) (by refine bq ?_; refine blk_far ?_ NB465_476.out _; refine bq ?_; refine blk_far ?_ NB465_476.out _; refine bq ?_; refine blk_far ?_ NB465_476.out _; refine bq ?_; refine blk_far ?_ NB465_476.out _; refine bq ?_; refine blk_far ?_ NB465_476.out _; refine bq ?_; refine blk_far ?_ NB465_476.out _; refine bq ?_; exact BK465.out) hb); have n1_ := Aside0.mk (blk_below (g := gb466) (o := .cells #[.int .i64 a1_0, .int .i64 a1_1, .int .i64 a1_2, .int .i64 a1_3, .int .i64 a1_4, .int .i64 a1_5] 23 (0, 0)) (by refine bq ?_; refine blk_far ?_ NB466_476.out _; refine bq ?_; refine blk_far ?_ NB466_476.out _; refine bq ?_; refine blk_far ?_ NB466_476.out _; refine bq ?_; refine blk_far ?_ NB466_476.out _; refine bq ?_; refine blk_far ?_ NB466_476.out _; refine bq ?_; refine blk_far ?_ NB466_476.out _; refine bq ?_; exact BK466.out) hb); have n2_ := Aside0.mk (blk_below (g := gb467) (o := .cells #[.int .i64 0, .int .i64 0, .int .i64 0, .int .i64 0, .int .i64 0, .int .i64 0] 23 (0, 0)) (by refine bq ?_; refine blk_far ?_ NB467_476.out _; refine bq ?_; refine blk_far ?_ NB467_476.out _; refine bq ?_; refine blk_far ?_ NB467_476.out _; refine bq ?_; refine blk_far ?_ NB467_476.out _; refine bq ?_; refine blk_far ?_ NB467_476.out _; refine bq ?_; refine blk_far ?_ NB467_476.out _; refine bq ?_; exact BK467.out) hb); have n3_ := Aside0.mk (blk_below (g := gb476) (o := .cells #[.int .i64 t470, .int .i64 t471, .int .i64 t472, .int .i64 t473, .int .i64 t474, .int .i64 t475] 23 (0, 0)) (by refine bq ?_; refine blk_put (cs := #[.int .i64 t470, .int .i64 t471, .int .i64 t472, .int .i64 t473, .int .i64 t474, .int .i64 0]) ?_ 5 _ rfl; refine bq ?_; refine blk_put (cs := #[.int .i64 t470, .int .i64 t471, .int .i64 t472, .int .i64 t473, .int .i64 0, .int .i64 0]) ?_ 4 _ rfl; refine bq ?_; refine blk_put (cs := #[.int .i64 t470, .int .i64 t471, .int .i64 t472, .int .i64 0, .int .i64 0, .int .i64 0]) ?_ 3 _ rfl; refine bq ?_; refine blk_put (cs := #[.int .i64 t470, .int .i64 t471, .int .i64 0, .int .i64 0, .int .i64 0, .int .i64 0]) ?_ 2 _ rfl; refine bq ?_; refine blk_put (cs := #[.int .i64 t470, .int .i64 0, .int .i64 0, .int .i64 0, .int .i64 0, .int .i64 0]) ?_ 1 _ rfl; refine bq ?_; refine blk_put (cs := #[.int .i64 0, .int .i64 0, .int .i64 0, .int .i64 0, .int .i64 0, .int .i64 0]) ?_ 0 _ rfl; refine bq ?_; exact BK476.out) hb); have n4_ := Aside0.mk (below_step (wq HB.out) hb); clear BK465 BK466 BK467 BK476; clear HB; have BK465 := n0_; have BK466 := n1_; have BK467 := n2_; have BK476 := n3_; have HB := n4_; clear n0_ n1_ n2_ n3_ n4_; (try clear hb); (try clear hb2); (try clear hk); (try clear hi); have hnb77 := NB467_465.out; have hnc77 := NB465_467.out; have hnb78 := NB467_466.out; have hnc78 := NB466_467.out; have hcz79_0 : w76.cell? ⟨gb467, 0, none⟩ = some (.int .i64 0) := (blk_cell BK467.out 0).trans rfl; have hcz79_1 : w76.cell? ⟨gb467, 1, none⟩ = some (.int .i64 0) := (blk_cell BK467.out 1).trans rfl; have hcz79_2 : w76.cell? ⟨gb467, 2, none⟩ = some (.int .i64 0) := (blk_cell BK467.out 2).trans rfl; have hcz79_3 : w76.cell? ⟨gb467, 3, none⟩ = some (.int .i64 0) := (blk_cell BK467.out 3).trans rfl; have hcz79_4 : w76.cell? ⟨gb467, 4, none⟩ = some (.int .i64 0) := (blk_cell BK467.out 4).trans rfl; have hcz79_5 : w76.cell? ⟨gb467, 5, none⟩ = some (.int .i64 0) := (blk_cell BK467.out 5).trans rfl; have hfz79_0 := blk_frozen BK467.out 0; have hfz79_1 := blk_frozen BK467.out 1; have hfz79_2 := blk_frozen BK467.out 2; have hfz79_3 := blk_frozen BK467.out 3; have hfz79_4 := blk_frozen BK467.out 4; have hfz79_5 := blk_frozen BK467.out 5))
     refine bodyPost_ret (results_ct rfl _ _ gb467 23 #[.int .i64 0, .int .i64 0, .int .i64 0, .int .i64 0, .int .i64 0, .int .i64 0] (0, 0) _ rfl (by refine bq ?_; refine blk_put (cs := #[.int .i64 0, .int .i64 0, .int .i64 0, .int .i64 0, .int .i64 0, .int .i64 0]) ?_ 5 _ rfl; refine bq ?_; refine blk_put (cs := #[.int .i64 0, .int .i64 0, .int .i64 0, .int .i64 0, .int .i64 0, .int .i64 0]) ?_ 4 _ rfl; refine bq ?_; refine blk_put (cs := #[.int .i64 0, .int .i64 0, .int .i64 0, .int .i64 0, .int .i64 0, .int .i64 0]) ?_ 3 _ rfl; refine bq ?_; refine blk_put (cs := #[.int .i64 0, .int .i64 0, .int .i64 0, .int .i64 0, .int .i64 0, .int .i64 0]) ?_ 2 _ rfl; refine bq ?_; refine blk_put (cs := #[.int .i64 0, .int .i64 0, .int .i64 0, .int .i64 0, .int .i64 0, .int .i64 0]) ?_ 1 _ rfl; refine bq ?_; refine blk_put (cs := #[.int .i64 0, .int .i64 0, .int .i64 0, .int .i64 0, .int .i64 0, .int .i64 0]) ?_ 0 _ rfl; refine bq ?_; exact BK467.out) Tryd.underlying23 rfl (by kernel_rfl)) rfl ?_
     exact ⟨by first | rfl | (simp [errW_none, errW_some] <;> rfl) | (simp [*, errW_none, errW_some] <;> rfl), by exact wq HB.out⟩
end Go.Proofs.YtbnjgaeeojcjbaaDoor.PR
namespace Go.Proofs.YtbnjgaeeojcjbaaDoor.PR
open Go.RowKit Go.Proofs.YtbnjgaeeojcjbaaDoorW.PrintWords Go.Proofs.YtbnjgaeeojcjbaaDoorW.PrintLast Go.Proofs.YtbnjgaeeojcjbaaDoorW.PrintMore
attribute [local go_sem] max2_int min2_int max_two min_two max_three min_three max_four min_four
set_option linter.unusedVariables false
set_option linter.unusedSimpArgs false
theorem eqA23 (d : Nat) (w : World) (x0 y0 : Int) (x1 y1 : Int) (x2 y2 : Int) (x3 y3 : Int) (x4 y4 : Int) (x5 y5 : Int) :
    (Op.equalIn (d + 2) 23 (.agg #[.int .i64 x0, .int .i64 x1, .int .i64 x2, .int .i64 x3, .int .i64 x4, .int .i64 x5]) (.agg #[.int .i64 y0, .int .i64 y1, .int .i64 y2, .int .i64 y3, .int .i64 y4, .int .i64 y5])).run Tryd.prog w = .ok (x0 == y0 && (x1 == y1 && (x2 == y2 && (x3 == y3 && (x4 == y4 && (x5 == y5)))))) w := by
  refine eqA_of Tryd.underlying23 (by kernel_rfl) ?_
  refine eqf_cons (by rfl) (by go_simp; rfl) (by go_simp; rfl) (by go_simp) ?_
  refine eqf_cons (by rfl) (by go_simp; rfl) (by go_simp; rfl) (by go_simp) ?_
  refine eqf_cons (by rfl) (by go_simp; rfl) (by go_simp; rfl) (by go_simp) ?_
  refine eqf_cons (by rfl) (by go_simp; rfl) (by go_simp; rfl) (by go_simp) ?_
  refine eqf_cons (by rfl) (by go_simp; rfl) (by go_simp; rfl) (by go_simp) ?_
  exact eqf_last (by rfl) (by go_simp; rfl) (by go_simp; rfl) (by go_simp)
end Go.Proofs.YtbnjgaeeojcjbaaDoor.PR
namespace Go.Proofs.YtbnjgaeeojcjbaaDoor.PR
open Go.RowKit Go.Proofs.YtbnjgaeeojcjbaaDoorW.PrintWords Go.Proofs.YtbnjgaeeojcjbaaDoorW.PrintLast Go.Proofs.YtbnjgaeeojcjbaaDoorW.PrintMore
attribute [local go_sem] max2_int min2_int max_two min_two max_three min_three max_four min_four
set_option linter.unusedVariables false
set_option linter.unusedSimpArgs false
attribute [local go_sem high] eqA23
def pointillistlaw08_AffineThen.j0 : Nat → Int → Int → Bool → Int → Int → Int → Int → Int → Int → Int → Int → Int → Int → Int → Int → Int → Int → Int → Int → Int → Int → Option (Bool)
 | 0, _, _, _, _, _, _, _, _, _, _, _, _, _, _, _, _, _, _, _, _, _ => none
 | k + 1, x10, x12, x46, x479000, x479001, x479002, x479003, x479004, x479005, x511000, x511001, x511002, x511003, x511004, x511005, x525000, x525001, x525002, x525003, x525004, x525005 => if x46 = true then (some false) else ((pointillistref08_Right.f x479000 x479001 x479002 x479003 x479004 x479005).bind fun t525 => (if t525 = true then (if x10 = 0 then (if x12 = 0 then (if (x511000 == x479000 && (x511001 == x479001 && (x511002 == x479002 && (x511003 == x479003 && (x511004 == x479004 && (x511005 == x479005)))))) = true then (some (x525000 == x479000 && (x525001 == x479001 && (x525002 == x479002 && (x525003 == x479003 && (x525004 == x479004 && (x525005 == x479005))))))) else (some false)) else (some false)) else (some false)) else (if x10 = 1 then (some (x12 == 1)) else (some false))))
def pointillistlaw08_AffineThen.f (k : Nat) (a0_0 : Int) (a0_1 : Int) (a0_2 : Int) (a0_3 : Int) (a0_4 : Int) (a0_5 : Int) (a1_0 : Int) (a1_1 : Int) (a1_2 : Int) (a1_3 : Int) (a1_4 : Int) (a1_5 : Int) : Option (Bool) := (pointillistlaw08_wakes.f k).bind fun t480 => (if t480 = true then ((affine_Then.f k a0_0 a0_1 a0_2 a0_3 a0_4 a0_5 a1_0 a1_1 a1_2 a1_3 a1_4 a1_5).bind fun bt481 => ((pointillistref08_Then.f k a0_0 a0_1 a0_2 a0_3 a0_4 a0_5 a1_0 a1_1 a1_2 a1_3 a1_4 a1_5).bind fun bt489 => ((affine_Same.f).bind fun bt497 => ((affine_Then.f k a0_0 a0_1 a0_2 a0_3 a0_4 a0_5 bt497.1 bt497.2.1 bt497.2.2.1 bt497.2.2.2.1 bt497.2.2.2.2.1 bt497.2.2.2.2.2).bind fun bt503 => ((affine_Same.f).bind fun bt511 => ((affine_Then.f k bt511.1 bt511.2.1 bt511.2.2.1 bt511.2.2.2.1 bt511.2.2.2.2.1 bt511.2.2.2.2.2 a0_0 a0_1 a0_2 a0_3 a0_4 a0_5).bind fun bt517 => (if (!(bt481.1 == bt489.1) || (!(bt481.2.1 == bt489.2.1) || (!(bt481.2.2.1 == bt489.2.2.1) || (!(bt481.2.2.2.1 == bt489.2.2.2.1) || (!(bt481.2.2.2.2.1 == bt489.2.2.2.2.1) || (!(bt481.2.2.2.2.2.1 == bt489.2.2.2.2.2.1))))))) = true then (pointillistlaw08_AffineThen.j0 k bt503.2.2.2.2.2.2 bt517.2.2.2.2.2.2 true a0_0 a0_1 a0_2 a0_3 a0_4 a0_5 bt503.1 bt503.2.1 bt503.2.2.1 bt503.2.2.2.1 bt503.2.2.2.2.1 bt503.2.2.2.2.2.1 bt517.1 bt517.2.1 bt517.2.2.1 bt517.2.2.2.1 bt517.2.2.2.2.1 bt517.2.2.2.2.2.1) else (pointillistlaw08_AffineThen.j0 k bt503.2.2.2.2.2.2 bt517.2.2.2.2.2.2 (bt481.2.2.2.2.2.2 != bt489.2.2.2.2.2.2) a0_0 a0_1 a0_2 a0_3 a0_4 a0_5 bt503.1 bt503.2.1 bt503.2.2.1 bt503.2.2.2.1 bt503.2.2.2.2.1 bt503.2.2.2.2.2.1 bt517.1 bt517.2.1 bt517.2.2.1 bt517.2.2.2.1 bt517.2.2.2.2.1 bt517.2.2.2.2.2.1)))))))) else (some false))
theorem pointillistlaw08_AffineThen.mono_l : ∀ k, (∀ y0 y1 y2 y3 y4 y5 y6 y7 y8 y9 y10 y11 y12 y13 y14 y15 y16 y17 y18 y19 y20, LeO (pointillistlaw08_AffineThen.j0 k y0 y1 y2 y3 y4 y5 y6 y7 y8 y9 y10 y11 y12 y13 y14 y15 y16 y17 y18 y19 y20) (pointillistlaw08_AffineThen.j0 (k + 1) y0 y1 y2 y3 y4 y5 y6 y7 y8 y9 y10 y11 y12 y13 y14 y15 y16 y17 y18 y19 y20))
 | 0 => fun _ _ _ _ _ _ _ _ _ _ _ _ _ _ _ _ _ _ _ _ _ r h => by simp [pointillistlaw08_AffineThen.j0] at h
 | k + 1 => by
  have ih0 := pointillistlaw08_AffineThen.mono_l k
  ·
   intro y0 y1 y2 y3 y4 y5 y6 y7 y8 y9 y10 y11 y12 y13 y14 y15 y16 y17 y18 y19 y20
   unfold pointillistlaw08_AffineThen.j0
   repeat' first
   | (with_reducible exact ih0 _ _ _ _ _ _ _ _ _ _ _ _ _ _ _ _ _ _ _ _ _)
   | (with_reducible exact affine_Then.mono _ _ _ _ _ _ _ _ _ _ _ _ _)
   | (with_reducible exact pointillistlaw08_wakes.mono _)
   | (with_reducible exact pointillistref08_Then.mono _ _ _ _ _ _ _ _ _ _ _ _ _)
   | (with_reducible exact LeO.refl _)
   | (with_reducible exact LeO.none _)
   | (with_reducible refine LeO.ite ?_ ?_)
   | (with_reducible refine LeO.bind ?_ (fun _ => ?_))
   | exact ih0 _ _ _ _ _ _ _ _ _ _ _ _ _ _ _ _ _ _ _ _ _
   | exact affine_Then.mono _ _ _ _ _ _ _ _ _ _ _ _ _
   | exact pointillistlaw08_wakes.mono _
   | exact pointillistref08_Then.mono _ _ _ _ _ _ _ _ _ _ _ _ _
   | exact LeO.none _
   | refine LeO.ite ?_ ?_
   | refine LeO.bind ?_ (fun _ => ?_)
end Go.Proofs.YtbnjgaeeojcjbaaDoor.PR
