import Derived.ArgAppend
import Derived.Below
import Derived.BigQuiet
import Derived.Deep.AppendLies
import Derived.Deep.CutBlock
import Derived.Deep.DeepCutAuto
import Derived.Deep.Draws
import Derived.Deep.LoopGhost
import Derived.Deep.OwnRows
import Derived.Deep.QuietTactic
import Derived.Deep.RegionHeld3
import Derived.KernelRfl
import Derived.Laws.Bits64
import Derived.Laws.BitsAllLaws
import Derived.Laws.BitsLemmas
import Derived.Laws.BytesArg
import Derived.Laws.Externs
import Derived.Laws.IdiomCopy
import Derived.Laws.MakeOwn
import Derived.Laws.OwnMore
import Derived.Laws.Rows
import Derived.Laws.Slices
import Derived.Laws.StructEq
import Derived.Laws.World
import Derived.Lib.AppendStr
import Derived.Lib.ConvBytes
import Derived.Lib.Mul64
import Derived.Maps.AppendAt
import Derived.OrdersHeld
import Derived.OwnWalk
import Derived.RowKit
import Derived.RowKit3
import Derived.Tactics
import Derived.WalkKit
import Derived.WalkLawsBesides
import Derived.WideLaws
import Derived.Test.YtbnjgaeeojcjbaaDoorProg
import Derived.Test.YtbnjgaeeojcjbaaDoorZa3
-- What this claim needs of the words, the printed walks and this session's texts (merged and cut by wip/prune.py).
namespace Go.Proofs.YtbnjgaeeojcjbaaDoor.PR
open Go.RowKit Go.Proofs.YtbnjgaeeojcjbaaDoorW.PrintWords Go.Proofs.YtbnjgaeeojcjbaaDoorW.PrintLast Go.Proofs.YtbnjgaeeojcjbaaDoorW.PrintMore
attribute [local go_sem] max2_int min2_int max_two min_two max_three min_three max_four min_four
set_option linter.unusedVariables false
set_option linter.unusedSimpArgs false
set_option maxHeartbeats 8000000 in
set_option maxRecDepth 100000 in
theorem pointillistref08_Apply.calls (k : Nat) (a0_0 : Int) (a0_1 : Int) (a0_2 : Int) (a0_3 : Int) (a0_4 : Int) (a0_5 : Int) (a1_0 : Int) (a1_1 : Int) (r1 : Int) (r2 : Int) (r3 : Int) (w : World) (h : pointillistref08_Apply.f k a0_0 a0_1 a0_2 a0_3 a0_4 a0_5 a1_0 a1_1 = some (r1, r2, r3)) :
  Calls Tryd.prog 10 #[.agg #[.int .i64 a0_0, .int .i64 a0_1, .int .i64 a0_2, .int .i64 a0_3, .int .i64 a0_4, .int .i64 a0_5], .agg #[.int .i64 a1_0, .int .i64 a1_1]] w fun e w' => e = .returned (.tuple #[.agg #[.int .i64 r1, .int .i64 r2], .int .i64 r3]) ∧ Below w.heap.size w w' := by
 have hu23 := Tryd.underlying23
 have hu25 := Tryd.underlying25
 have HB := Aside0.mk (Below.refl w.heap.size w)
 have H : ((pointillistref08_Right.f a0_0 a0_1 a0_2 a0_3 a0_4 a0_5).bind fun t393 => (if t393 = true then ((pointillistref08_In.f a1_0).bind fun t394 => (if t394 = true then ((pointillistref08_In.f a1_1).bind fun t395 => (pointillistref08_Apply.j0 k (!t395) a0_0 a0_1 a0_2 a0_3 a0_4 a0_5 a1_0 a1_1)) else (pointillistref08_Apply.j0 k true a0_0 a0_1 a0_2 a0_3 a0_4 a0_5 a1_0 a1_1))) else (pointillistref08_Apply.j0 k true a0_0 a0_1 a0_2 a0_3 a0_4 a0_5 a1_0 a1_1))) = some (r1, r2, r3) := h
 clear h
 have HC3 := Aside0.mk H
 clear H
 go_enter Tryd.func10, Tryd.ntmps10
 go_upto_region 1 with (first | ((with_reducible refine gate_dst (N := 2) rfl ?_); refine box_event ?hg (N := 2) ?hd (cs := #[.int .i64 a0_0, .int .i64 a0_1, .int .i64 a0_2, .int .i64 a0_3, .int .i64 a0_4, .int .i64 a0_5]) (t := 23) ?hr ?_; (case hd => rfl); (case hg => rfl); (case hr => first | (go_simp; done) | (go_simp; rfl)); intro gb390 hg w4 hbox hb; have n0_ := Aside0.mk (below_step (wq HB.out) hb); have n1_ := Aside0.mk (hbox); have n2_ := Aside0.mk ((by rw [hg]; exact (below_size (wq HB.out)) : w.heap.size ≤ gb390)); have n3_ := n2_; clear HB; have HB := n0_; have BK390 := n1_; have GW390 := n2_; have GE390 := n3_; clear n0_ n1_ n2_ n3_ hb hbox hg) | ((with_reducible refine gate_dst (N := 3) rfl ?_); refine box_event ?hg (N := 3) ?hd (cs := #[.int .i64 a1_0, .int .i64 a1_1]) (t := 25) ?hr ?_; (case hd => rfl); (case hg => rfl); (case hr => first | (go_simp; done) | (go_simp; rfl)); intro gb391 hg w5 hbox hb; have n0_ := Aside0.mk (blk_below (bq BK390.out) hb); have n1_ := Aside0.mk (below_step (wq HB.out) hb); have n2_ := Aside0.mk (hbox); have n3_ := Aside0.mk ((by rw [hg]; exact (below_size (wq HB.out)) : w.heap.size ≤ gb391)); have n4_ := n3_; have n5_ := Aside0.mk ((by rw [hg]; exact Nat.ne_of_lt (blk_lt (bq BK390.out)) : gb390 ≠ gb391)); have n6_ := Aside0.mk ((by rw [hg]; exact Nat.ne_of_gt (blk_lt (bq BK390.out)) : gb391 ≠ gb390)); clear BK390 HB; have BK390 := n0_; have HB := n1_; have BK391 := n2_; have GW391 := n3_; have GE391 := n4_; have NB390_391 := n5_; have NB391_390 := n6_; clear n0_ n1_ n2_ n3_ n4_ n5_ n6_ hb hbox hg) | ((with_reducible refine gate_dst (N := 4) rfl ?_); refine box_event ?hg (N := 4) ?hd (cs := #[.int .i64 0, .int .i64 0]) (t := 25) ?hr ?_; (case hd => rfl); (case hg => rfl); (case hr => first | (go_simp; done) | (go_simp; rfl)); intro gb392 hg w6 hbox hb; have n0_ := Aside0.mk (blk_below (bq BK390.out) hb); have n1_ := Aside0.mk (blk_below (bq BK391.out) hb); have n2_ := Aside0.mk (below_step (wq HB.out) hb); have n3_ := Aside0.mk (hbox); have n4_ := Aside0.mk ((by rw [hg]; exact (below_size (wq HB.out)) : w.heap.size ≤ gb392)); have n5_ := n4_; have n6_ := Aside0.mk ((by rw [hg]; exact Nat.ne_of_lt (blk_lt (bq BK390.out)) : gb390 ≠ gb392)); have n7_ := Aside0.mk ((by rw [hg]; exact Nat.ne_of_gt (blk_lt (bq BK390.out)) : gb392 ≠ gb390)); have n8_ := Aside0.mk ((by rw [hg]; exact Nat.ne_of_lt (blk_lt (bq BK391.out)) : gb391 ≠ gb392)); have n9_ := Aside0.mk ((by rw [hg]; exact Nat.ne_of_gt (blk_lt (bq BK391.out)) : gb392 ≠ gb391)); clear BK390 BK391 HB; have BK390 := n0_; have BK391 := n1_; have HB := n2_; have BK392 := n3_; have GW392 := n4_; have GE392 := n5_; have NB390_392 := n6_; have NB392_390 := n7_; have NB391_392 := n8_; have NB392_391 := n9_; clear n0_ n1_ n2_ n3_ n4_ n5_ n6_ n7_ n8_ n9_ hb hbox hg))
 (try simp only [apz])
 go_cut [21] (fun v21 wc => ∃ (kq : Nat) (x21_2 : Bool), v21 = .bool x21_2 ∧ Aside0 (pointillistref08_Apply.j0 kq x21_2 a0_0 a0_1 a0_2 a0_3 a0_4 a0_5 a1_0 a1_1 = some (r1, r2, r3)) ∧ Aside0 (kq ≤ k) ∧ Aside0 (wc.heap[gb390]? = some (.cells #[.int .i64 a0_0, .int .i64 a0_1, .int .i64 a0_2, .int .i64 a0_3, .int .i64 a0_4, .int .i64 a0_5] 23 (0, 0))) ∧ Aside0 (wc.heap[gb391]? = some (.cells #[.int .i64 a1_0, .int .i64 a1_1] 25 (0, 0))) ∧ Aside0 (wc.heap[gb392]? = some (.cells #[.int .i64 0, .int .i64 0] 25 (0, 0))) ∧ Aside0 (Below w.heap.size w wc))
 case first =>
  have H := HC3.out
  clear HC3
  replace H := Option.bind_eq_some_iff.mp H
  obtain ⟨t393, A70, H⟩ := H
  replace H : (if t393 = true then ((pointillistref08_In.f a1_0).bind fun t394 => (if t394 = true then ((pointillistref08_In.f a1_1).bind fun t395 => (pointillistref08_Apply.j0 k (!t395) a0_0 a0_1 a0_2 a0_3 a0_4 a0_5 a1_0 a1_1)) else (pointillistref08_Apply.j0 k true a0_0 a0_1 a0_2 a0_3 a0_4 a0_5 a1_0 a1_1))) else (pointillistref08_Apply.j0 k true a0_0 a0_1 a0_2 a0_3 a0_4 a0_5 a1_0 a1_1)) = some (r1, r2, r3) := H
  have A7 := Aside0.mk A70
  clear A70
  by_cases c8 : t393 = true
  ·
   subst c8
   have H1 : ((pointillistref08_In.f a1_0).bind fun t394 => (if t394 = true then ((pointillistref08_In.f a1_1).bind fun t395 => (pointillistref08_Apply.j0 k (!t395) a0_0 a0_1 a0_2 a0_3 a0_4 a0_5 a1_0 a1_1)) else (pointillistref08_Apply.j0 k true a0_0 a0_1 a0_2 a0_3 a0_4 a0_5 a1_0 a1_1))) = some (r1, r2, r3) := by rw [if_pos rfl] at H; exact H
   clear H
   have H := H1
   clear H1
   replace H := Option.bind_eq_some_iff.mp H
   obtain ⟨t394, A90, H⟩ := H
   replace H : (if t394 = true then ((pointillistref08_In.f a1_1).bind fun t395 => (pointillistref08_Apply.j0 k (!t395) a0_0 a0_1 a0_2 a0_3 a0_4 a0_5 a1_0 a1_1)) else (pointillistref08_Apply.j0 k true a0_0 a0_1 a0_2 a0_3 a0_4 a0_5 a1_0 a1_1)) = some (r1, r2, r3) := H
   have A9 := Aside0.mk A90
   clear A90
   by_cases c10 : t394 = true
   ·
    subst c10
    have H1 : ((pointillistref08_In.f a1_1).bind fun t395 => (pointillistref08_Apply.j0 k (!t395) a0_0 a0_1 a0_2 a0_3 a0_4 a0_5 a1_0 a1_1)) = some (r1, r2, r3) := by rw [if_pos rfl] at H; exact H
    clear H
    have H := H1
    clear H1
    replace H := Option.bind_eq_some_iff.mp H
    obtain ⟨t395, A110, H⟩ := H
    replace H : (pointillistref08_Apply.j0 k (!t395) a0_0 a0_1 a0_2 a0_3 a0_4 a0_5 a1_0 a1_1) = some (r1, r2, r3) := H
    have A11 := Aside0.mk A110
    clear A110
    have H' := Aside0.mk H
    clear H
    have hnb12 := NB390_391.out
    have hnc12 := NB391_390.out
    have hnb13 := NB390_392.out
    have hnc13 := NB392_390.out
    have hcz14_0 : w6.cell? ⟨gb390, 0, none⟩ = some (.int .i64 a0_0) := (blk_cell BK390.out 0).trans rfl
    have hcz14_1 : w6.cell? ⟨gb390, 1, none⟩ = some (.int .i64 a0_1) := (blk_cell BK390.out 1).trans rfl
    have hcz14_2 : w6.cell? ⟨gb390, 2, none⟩ = some (.int .i64 a0_2) := (blk_cell BK390.out 2).trans rfl
    have hcz14_3 : w6.cell? ⟨gb390, 3, none⟩ = some (.int .i64 a0_3) := (blk_cell BK390.out 3).trans rfl
    have hcz14_4 : w6.cell? ⟨gb390, 4, none⟩ = some (.int .i64 a0_4) := (blk_cell BK390.out 4).trans rfl
    have hcz14_5 : w6.cell? ⟨gb390, 5, none⟩ = some (.int .i64 a0_5) := (blk_cell BK390.out 5).trans rfl
    have hfz14_0 := blk_frozen BK390.out 0
    have hfz14_1 := blk_frozen BK390.out 1
    have hfz14_2 := blk_frozen BK390.out 2
    have hfz14_3 := blk_frozen BK390.out 3
    have hfz14_4 := blk_frozen BK390.out 4
    have hfz14_5 := blk_frozen BK390.out 5
    go_wp2_with (first | ((with_reducible refine gate_callee (f := 13) rfl ?_); refine goesL_ (some 8) rfl rfl Tryd.func13 (by kernel_rfl) rfl #[.agg #[.int .i64 a0_0, .int .i64 a0_1, .int .i64 a0_2, .int .i64 a0_3, .int .i64 a0_4, .int .i64 a0_5]] rfl (by (try simp only [List.map_toArray, List.map_cons, List.map_nil]); first | done | rfl | (simp only [List.length_drop, List.length_take]; rfl)) ?_; (with_reducible refine (pointillistref08_Right.calls a0_0 a0_1 a0_2 a0_3 a0_4 a0_5 true _ A7.out).mono ?_); rintro e w15 ⟨rfl, hb⟩; refine ⟨_, rfl, ?_⟩; have n0_ := Aside0.mk (blk_below (bq BK390.out) hb); have n1_ := Aside0.mk (blk_below (bq BK391.out) hb); have n2_ := Aside0.mk (blk_below (bq BK392.out) hb); have n3_ := Aside0.mk (below_step (wq HB.out) hb); clear BK390 BK391 BK392 HB; have BK390 := n0_; have BK391 := n1_; have BK392 := n2_; have HB := n3_; clear n0_ n1_ n2_ n3_; (try clear hb); (try clear hb2); (try clear hk); (try clear hi); have hnb16 := NB391_392.out; have hnc16 := NB392_391.out; have hcz17_0 : w15.cell? ⟨gb391, 0, none⟩ = some (.int .i64 a1_0) := (blk_cell BK391.out 0).trans rfl; have hcz17_1 : w15.cell? ⟨gb391, 1, none⟩ = some (.int .i64 a1_1) := (blk_cell BK391.out 1).trans rfl; have hfz17_0 := blk_frozen BK391.out 0; have hfz17_1 := blk_frozen BK391.out 1) | (go_at_call 14; (with_reducible refine (pointillistref08_In.calls a1_0 true _ A9.out).mono ?_); rintro e w' ⟨rfl, ⟨nd, rfl⟩⟩) | (go_at_call 14; (with_reducible refine (pointillistref08_In.calls a1_1 t395 _ A11.out).mono ?_); rintro e w' ⟨rfl, ⟨nd, rfl⟩⟩))
    go_meet
    case rel => exact ⟨_, (!t395), (by first | rfl | (simp; done) | (simp [*]; done)), H', ⟨by first | omega | exact Nat.le_refl _⟩, ⟨by refine bq ?_; exact BK390.out⟩, ⟨by refine bq ?_; exact BK391.out⟩, ⟨by refine bq ?_; exact BK392.out⟩, ⟨by exact wq HB.out⟩⟩
   ·
    replace c10 := Bool.eq_false_iff.mpr c10
    subst c10
    have H1 : (pointillistref08_Apply.j0 k true a0_0 a0_1 a0_2 a0_3 a0_4 a0_5 a1_0 a1_1) = some (r1, r2, r3) := by rw [if_neg (show ¬ (false = true) by decide)] at H; exact H
    clear H
    have H := H1
    clear H1
    have H' := Aside0.mk H
    clear H
    have hnb18 := NB390_391.out
    have hnc18 := NB391_390.out
    have hnb19 := NB390_392.out
    have hnc19 := NB392_390.out
    have hcz20_0 : w6.cell? ⟨gb390, 0, none⟩ = some (.int .i64 a0_0) := (blk_cell BK390.out 0).trans rfl
    have hcz20_1 : w6.cell? ⟨gb390, 1, none⟩ = some (.int .i64 a0_1) := (blk_cell BK390.out 1).trans rfl
    have hcz20_2 : w6.cell? ⟨gb390, 2, none⟩ = some (.int .i64 a0_2) := (blk_cell BK390.out 2).trans rfl
    have hcz20_3 : w6.cell? ⟨gb390, 3, none⟩ = some (.int .i64 a0_3) := (blk_cell BK390.out 3).trans rfl
    have hcz20_4 : w6.cell? ⟨gb390, 4, none⟩ = some (.int .i64 a0_4) := (blk_cell BK390.out 4).trans rfl
    have hcz20_5 : w6.cell? ⟨gb390, 5, none⟩ = some (.int .i64 a0_5) := (blk_cell BK390.out 5).trans rfl
    have hfz20_0 := blk_frozen BK390.out 0
    have hfz20_1 := blk_frozen BK390.out 1
    have hfz20_2 := blk_frozen BK390.out 2
    have hfz20_3 := blk_frozen BK390.out 3
    have hfz20_4 := blk_frozen BK390.out 4
    have hfz20_5 := blk_frozen BK390.out 5
    go_wp2_with (first | ((with_reducible refine gate_callee (f := 13) rfl ?_); refine goesL_ (some 8) rfl rfl Tryd.func13 (by kernel_rfl) rfl #[.agg #[.int .i64 a0_0, .int .i64 a0_1, .int .i64 a0_2, .int .i64 a0_3, .int .i64 a0_4, .int .i64 a0_5]] rfl (by (try simp only [List.map_toArray, List.map_cons, List.map_nil]); first | done | rfl | (simp only [List.length_drop, List.length_take]; rfl)) ?_; (with_reducible refine (pointillistref08_Right.calls a0_0 a0_1 a0_2 a0_3 a0_4 a0_5 true _ A7.out).mono ?_); rintro e w21 ⟨rfl, hb⟩; refine ⟨_, rfl, ?_⟩; have n0_ := Aside0.mk (blk_below (bq BK390.out) hb); have n1_ := Aside0.mk (blk_below (bq BK391.out) hb); have n2_ := Aside0.mk (blk_below (bq BK392.out) hb); have n3_ := Aside0.mk (below_step (wq HB.out) hb); clear BK390 BK391 BK392 HB; have BK390 := n0_; have BK391 := n1_; have BK392 := n2_; have HB := n3_; clear n0_ n1_ n2_ n3_; (try clear hb); (try clear hb2); (try clear hk); (try clear hi); have hnb22 := NB391_392.out; have hnc22 := NB392_391.out; have hcz23_0 : w21.cell? ⟨gb391, 0, none⟩ = some (.int .i64 a1_0) := (blk_cell BK391.out 0).trans rfl; have hcz23_1 : w21.cell? ⟨gb391, 1, none⟩ = some (.int .i64 a1_1) := (blk_cell BK391.out 1).trans rfl; have hfz23_0 := blk_frozen BK391.out 0; have hfz23_1 := blk_frozen BK391.out 1) | (go_at_call 14; (with_reducible refine (pointillistref08_In.calls a1_0 false _ A9.out).mono ?_); rintro e w' ⟨rfl, ⟨nd, rfl⟩⟩))
    go_meet
    case rel => exact ⟨_, (true), (by first | rfl | (simp; done) | (simp [*]; done)), H', ⟨by first | omega | exact Nat.le_refl _⟩, ⟨by refine bq ?_; exact BK390.out⟩, ⟨by refine bq ?_; exact BK391.out⟩, ⟨by refine bq ?_; exact BK392.out⟩, ⟨by exact wq HB.out⟩⟩
  ·
   replace c8 := Bool.eq_false_iff.mpr c8
   subst c8
   have H1 : (pointillistref08_Apply.j0 k true a0_0 a0_1 a0_2 a0_3 a0_4 a0_5 a1_0 a1_1) = some (r1, r2, r3) := by rw [if_neg (show ¬ (false = true) by decide)] at H; exact H
   clear H
   have H := H1
   clear H1
   have H' := Aside0.mk H
   clear H
   have hnb24 := NB390_391.out
   have hnc24 := NB391_390.out
   have hnb25 := NB390_392.out
   have hnc25 := NB392_390.out
   have hcz26_0 : w6.cell? ⟨gb390, 0, none⟩ = some (.int .i64 a0_0) := (blk_cell BK390.out 0).trans rfl
   have hcz26_1 : w6.cell? ⟨gb390, 1, none⟩ = some (.int .i64 a0_1) := (blk_cell BK390.out 1).trans rfl
   have hcz26_2 : w6.cell? ⟨gb390, 2, none⟩ = some (.int .i64 a0_2) := (blk_cell BK390.out 2).trans rfl
   have hcz26_3 : w6.cell? ⟨gb390, 3, none⟩ = some (.int .i64 a0_3) := (blk_cell BK390.out 3).trans rfl
   have hcz26_4 : w6.cell? ⟨gb390, 4, none⟩ = some (.int .i64 a0_4) := (blk_cell BK390.out 4).trans rfl
   have hcz26_5 : w6.cell? ⟨gb390, 5, none⟩ = some (.int .i64 a0_5) := (blk_cell BK390.out 5).trans rfl
   have hfz26_0 := blk_frozen BK390.out 0
   have hfz26_1 := blk_frozen BK390.out 1
   have hfz26_2 := blk_frozen BK390.out 2
   have hfz26_3 := blk_frozen BK390.out 3
   have hfz26_4 := blk_frozen BK390.out 4
   have hfz26_5 := blk_frozen BK390.out 5
   go_wp2_with (first | ((with_reducible refine gate_callee (f := 13) rfl ?_); refine goesL_ (some 8) rfl rfl Tryd.func13 (by kernel_rfl) rfl #[.agg #[.int .i64 a0_0, .int .i64 a0_1, .int .i64 a0_2, .int .i64 a0_3, .int .i64 a0_4, .int .i64 a0_5]] rfl (by (try simp only [List.map_toArray, List.map_cons, List.map_nil]); first | done | rfl | (simp only [List.length_drop, List.length_take]; rfl)) ?_; (with_reducible refine (pointillistref08_Right.calls a0_0 a0_1 a0_2 a0_3 a0_4 a0_5 false _ A7.out).mono ?_); rintro e w27 ⟨rfl, hb⟩; refine ⟨_, rfl, ?_⟩; have n0_ := Aside0.mk (blk_below (bq BK390.out) hb); have n1_ := Aside0.mk (blk_below (bq BK391.out) hb); have n2_ := Aside0.mk (blk_below (bq BK392.out) hb); have n3_ := Aside0.mk (below_step (wq HB.out) hb); clear BK390 BK391 BK392 HB; have BK390 := n0_; have BK391 := n1_; have BK392 := n2_; have HB := n3_; clear n0_ n1_ n2_ n3_; (try clear hb); (try clear hb2); (try clear hk); (try clear hi)))
   go_meet
   case rel => exact ⟨_, (true), (by first | rfl | (simp; done) | (simp [*]; done)), H', ⟨by first | omega | exact Nat.le_refl _⟩, ⟨by refine bq ?_; exact BK390.out⟩, ⟨by refine bq ?_; exact BK391.out⟩, ⟨by refine bq ?_; exact BK392.out⟩, ⟨by exact wq HB.out⟩⟩
 case rest =>
  clear HC3
  try clear c1
  try clear c2
  try clear p2
  try clear c8
  try clear c10
  try clear c12
  try clear c13
  try clear c16
  try clear c18
  try clear c19
  try clear c22
  try clear c24
  try clear c25
  try clear hcz14_0
  try clear hcz14_1
  try clear hcz14_2
  try clear hcz14_3
  try clear hcz14_4
  try clear hcz14_5
  try clear hcz17_0
  try clear hcz17_1
  try clear hcz20_0
  try clear hcz20_1
  try clear hcz20_2
  try clear hcz20_3
  try clear hcz20_4
  try clear hcz20_5
  try clear hcz23_0
  try clear hcz23_1
  try clear hcz26_0
  try clear hcz26_1
  try clear hcz26_2
  try clear hcz26_3
  try clear hcz26_4
  try clear hcz26_5
  try clear hfz14_0
  try clear hfz14_1
  try clear hfz14_2
  try clear hfz14_3
  try clear hfz14_4
  try clear hfz14_5
  try clear hfz17_0
  try clear hfz17_1
  try clear hfz20_0
  try clear hfz20_1
  try clear hfz20_2
  try clear hfz20_3
  try clear hfz20_4
  try clear hfz20_5
  try clear hfz23_0
  try clear hfz23_1
  try clear hfz26_0
  try clear hfz26_1
  try clear hfz26_2
  try clear hfz26_3
  try clear hfz26_4
  try clear hfz26_5
  obtain ⟨kq, x21_2, rfl, HA, HJ2, BK390, BK391, BK392, HB⟩ := hcut
  cases kq with
  | zero => exact absurd HA.out (by simp [pointillistref08_Apply.j0])
  | succ kj2 =>
   have H := HA.out
   clear HA
   simp only [pointillistref08_Apply.j0] at H
   by_cases c28 : x21_2 = true
   ·
    subst c28
    have H1 : (some (0, 0, 1)) = some (r1, r2, r3) := by rw [if_pos rfl] at H; exact H
    clear H
    have H := H1
    clear H1
    simp only [Option.some.injEq, Prod.mk.injEq] at H
    obtain ⟨rfl, rfl, rfl⟩ := H
    have hnb29 := NB392_390.out
    have hnc29 := NB390_392.out
    have hnb30 := NB392_391.out
    have hnc30 := NB391_392.out
    have hcz31_0 : wc.cell? ⟨gb392, 0, none⟩ = some (.int .i64 0) := (blk_cell BK392.out 0).trans rfl
    have hcz31_1 : wc.cell? ⟨gb392, 1, none⟩ = some (.int .i64 0) := (blk_cell BK392.out 1).trans rfl
    have hfz31_0 := blk_frozen BK392.out 0
    have hfz31_1 := blk_frozen BK392.out 1
    go_wp2
    refine bodyPost_ret (results_ct rfl _ _ gb392 25 #[.int .i64 0, .int .i64 0] (0, 0) _ rfl (by refine bq ?_; refine blk_put (cs := #[.int .i64 0, .int .i64 0]) ?_ 1 _ rfl; refine bq ?_; refine blk_put (cs := #[.int .i64 0, .int .i64 0]) ?_ 0 _ rfl; refine bq ?_; exact BK392.out) Tryd.underlying25 rfl (by kernel_rfl)) rfl ?_
    exact ⟨by first | rfl | (simp [errW_none, errW_some] <;> rfl) | (simp [*, errW_none, errW_some] <;> rfl), by exact wq HB.out⟩
   ·
    replace c28 := Bool.eq_false_iff.mpr c28
    subst c28
    have H1 : ((pointillistref08_sum.f kj2 a0_0 a1_0 a0_2 a1_1 a0_4).bind fun t396 => ((pointillistref08_sum.f kj2 a0_1 a1_0 a0_3 a1_1 a0_5).bind fun t397 => ((pointillistref08_In.f t396).bind fun t399 => (if t399 = true then ((pointillistref08_In.f t397).bind fun t400 => (if t400 = true then (some (t396, t397, 0)) else (some (0, 0, 2)))) else (some (0, 0, 2)))))) = some (r1, r2, r3) := by rw [if_neg (show ¬ (false = true) by decide)] at H; exact H
    clear H
    have H := H1
    clear H1
    replace H := Option.bind_eq_some_iff.mp H
    obtain ⟨t396, A320, H⟩ := H
    replace H : ((pointillistref08_sum.f kj2 a0_1 a1_0 a0_3 a1_1 a0_5).bind fun t397 => ((pointillistref08_In.f t396).bind fun t399 => (if t399 = true then ((pointillistref08_In.f t397).bind fun t400 => (if t400 = true then (some (t396, t397, 0)) else (some (0, 0, 2)))) else (some (0, 0, 2))))) = some (r1, r2, r3) := H
    have A32 := Aside0.mk A320
    clear A320
    replace H := Option.bind_eq_some_iff.mp H
    obtain ⟨t397, A330, H⟩ := H
    replace H : ((pointillistref08_In.f t396).bind fun t399 => (if t399 = true then ((pointillistref08_In.f t397).bind fun t400 => (if t400 = true then (some (t396, t397, 0)) else (some (0, 0, 2)))) else (some (0, 0, 2)))) = some (r1, r2, r3) := H
    have A33 := Aside0.mk A330
    clear A330
    replace H := Option.bind_eq_some_iff.mp H
    obtain ⟨t399, A340, H⟩ := H
    replace H : (if t399 = true then ((pointillistref08_In.f t397).bind fun t400 => (if t400 = true then (some (t396, t397, 0)) else (some (0, 0, 2)))) else (some (0, 0, 2))) = some (r1, r2, r3) := H
    have A34 := Aside0.mk A340
    clear A340
    by_cases c35 : t399 = true
    ·
     subst c35
     have H1 : ((pointillistref08_In.f t397).bind fun t400 => (if t400 = true then (some (t396, t397, 0)) else (some (0, 0, 2)))) = some (r1, r2, r3) := by rw [if_pos rfl] at H; exact H
     clear H
     have H := H1
     clear H1
     replace H := Option.bind_eq_some_iff.mp H
     obtain ⟨t400, A360, H⟩ := H
     replace H : (if t400 = true then (some (t396, t397, 0)) else (some (0, 0, 2))) = some (r1, r2, r3) := H
     have A36 := Aside0.mk A360
     clear A360
     by_cases c37 : t400 = true
     ·
      subst c37
      have H1 : (some (t396, t397, 0)) = some (r1, r2, r3) := by rw [if_pos rfl] at H; exact H
      clear H
      have H := H1
      clear H1
      simp only [Option.some.injEq, Prod.mk.injEq] at H
      obtain ⟨rfl, rfl, rfl⟩ := H
      try go_wp2
      have n0_ := Aside0.mk (blk_drew BK390.out)
      have n1_ := Aside0.mk (blk_drew BK391.out)
      have n2_ := Aside0.mk (blk_drew BK392.out)
      have n3_ := Aside0.mk (below_drew1 HB.out)
      clear BK390 BK391 BK392 HB; have BK390 := n0_; have BK391 := n1_; have BK392 := n2_; have HB := n3_; clear n0_ n1_ n2_ n3_
      refine start_ (n := 25) (S := fun w' => w'.cell? ⟨gb390, 0, none⟩ = some (.int .i64 a0_0) ∧ w'.cell? ⟨gb390, 1, none⟩ = some (.int .i64 a0_1) ∧ w'.cell? ⟨gb390, 2, none⟩ = some (.int .i64 a0_2) ∧ w'.cell? ⟨gb390, 3, none⟩ = some (.int .i64 a0_3) ∧ w'.cell? ⟨gb390, 4, none⟩ = some (.int .i64 a0_4) ∧ w'.cell? ⟨gb390, 5, none⟩ = some (.int .i64 a0_5) ∧ w'.cell? ⟨gb391, 0, none⟩ = some (.int .i64 a1_0) ∧ w'.cell? ⟨gb391, 1, none⟩ = some (.int .i64 a1_1)) (ds := []) (bt 0 25) (by kernel_rfl) rfl rfl ⟨(blk_cell BK390.out 0).trans rfl, (blk_cell BK390.out 1).trans rfl, (blk_cell BK390.out 2).trans rfl, (blk_cell BK390.out 3).trans rfl, (blk_cell BK390.out 4).trans rfl, (blk_cell BK390.out 5).trans rfl, (blk_cell BK391.out 0).trans rfl, (blk_cell BK391.out 1).trans rfl⟩ (fun hHeld => ?_); refine with_tabW pointillistref08_Apply.tab3 pointillistref08_Apply.bits3 (fun HT_ HW_ => ?_)
      generalize wc.drew = w38 at BK390 BK391 BK392 HB hHeld ⊢
      refine pure_ (i := 0) (N := some 23) (v := ?_) (a' := ?_) (bt 1 24) rfl rfl (any_of HT_.out (by kernel_rfl)) (fun _ _ _ h => h) (Or.inl ⟨by rfl, ?_⟩) ?_ ?_
      rotate_left; focus (intro w'; go_simp; with_reducible rfl)
      rotate_left; focus (simp only [apz, i64_w, i32_w]; rfl)
      refine pure_ (i := 2) (N := some 25) (v := ?_) (a' := ?_) #[true, false, true, false, false, false, false, false, false, false, false, false, false, false, false, false, false, false, false, false, false, false, false, false, false] rfl rfl (any_of HT_.out (by kernel_rfl)) (fun _ _ _ h => h) (Or.inl ⟨by rfl, ?_⟩) ?_ ?_
      rotate_left; focus (intro w'; go_simp; with_reducible rfl)
      rotate_left; focus (simp only [apz, i64_w, i32_w]; rfl)
      refine pure_ (i := 4) (N := some 27) (v := ?_) (a' := ?_) #[true, false, true, false, true, false, false, false, false, false, false, false, false, false, false, false, false, false, false, false, false, false, false, false, false] rfl rfl (any_of HT_.out (by kernel_rfl)) (fun _ _ _ h => h) (Or.inl ⟨by rfl, ?_⟩) ?_ ?_
      rotate_left; focus (intro w'; go_simp; with_reducible rfl)
      rotate_left; focus (simp only [apz, i64_w, i32_w]; rfl)
      refine pure_ (i := 6) (N := some 29) (v := ?_) (a' := ?_) #[true, false, true, false, true, false, true, false, false, false, false, false, false, false, false, false, false, false, false, false, false, false, false, false, false] rfl rfl (any_of HT_.out (by kernel_rfl)) (fun _ _ _ h => h) (Or.inl ⟨by rfl, ?_⟩) ?_ ?_
      rotate_left; focus (intro w'; go_simp; with_reducible rfl)
      rotate_left; focus (simp only [apz, i64_w, i32_w]; rfl)
      refine pure_ (i := 8) (N := some 31) (v := ?_) (a' := ?_) #[true, false, true, false, true, false, true, false, true, false, false, false, false, false, false, false, false, false, false, false, false, false, false, false, false] rfl rfl (any_of HT_.out (by kernel_rfl)) (fun _ _ _ h => h) (Or.inl ⟨by rfl, ?_⟩) ?_ ?_
      rotate_left; focus (intro w'; go_simp; with_reducible rfl)
      rotate_left; focus (simp only [apz, i64_w, i32_w]; rfl)
      refine pure_ (i := 11) (N := some 34) (v := ?_) (a' := ?_) #[true, false, true, false, true, false, true, false, true, false, false, true, false, false, false, false, false, false, false, false, false, false, false, false, false] rfl rfl (any_of HT_.out (by kernel_rfl)) (fun _ _ _ h => h) (Or.inl ⟨by rfl, ?_⟩) ?_ ?_
      rotate_left; focus (intro w'; go_simp; with_reducible rfl)
      rotate_left; focus (simp only [apz, i64_w, i32_w]; rfl)
      refine pure_ (i := 13) (N := some 36) (v := ?_) (a' := ?_) #[true, false, true, false, true, false, true, false, true, false, false, true, false, true, false, false, false, false, false, false, false, false, false, false, false] rfl rfl (any_of HT_.out (by kernel_rfl)) (fun _ _ _ h => h) (Or.inl ⟨by rfl, ?_⟩) ?_ ?_
      rotate_left; focus (intro w'; go_simp; with_reducible rfl)
      rotate_left; focus (simp only [apz, i64_w, i32_w]; rfl)
      refine pure_ (i := 15) (N := some 38) (v := ?_) (a' := ?_) #[true, false, true, false, true, false, true, false, true, false, false, true, false, true, false, true, false, false, false, false, false, false, false, false, false] rfl rfl (any_of HT_.out (by kernel_rfl)) (fun _ _ _ h => h) (Or.inl ⟨by rfl, ?_⟩) ?_ ?_
      rotate_left; focus (intro w'; go_simp; with_reducible rfl)
      rotate_left; focus (simp only [apz, i64_w, i32_w]; rfl)
      refine pure_ (i := 17) (N := some 40) (v := ?_) (a' := ?_) #[true, false, true, false, true, false, true, false, true, false, false, true, false, true, false, true, false, true, false, false, false, false, false, false, false] rfl rfl (any_of HT_.out (by kernel_rfl)) (fun _ _ _ h => h) (Or.inl ⟨by rfl, ?_⟩) ?_ ?_
      rotate_left; focus (intro w'; go_simp; with_reducible rfl)
      rotate_left; focus (simp only [apz, i64_w, i32_w]; rfl)
      refine pure_ (i := 19) (N := some 42) (v := ?_) (a' := ?_) #[true, false, true, false, true, false, true, false, true, false, false, true, false, true, false, true, false, true, false, true, false, false, false, false, false] rfl rfl (any_of HT_.out (by kernel_rfl)) (fun _ _ _ h => h) (Or.inl ⟨by rfl, ?_⟩) ?_ ?_
      rotate_left; focus (intro w'; go_simp; with_reducible rfl)
      rotate_left; focus (simp only [apz, i64_w, i32_w]; rfl)
      refine take_ (i := 1) (N := some 24) (v := ?_) (a' := ?_) #[true, true, true, false, true, false, true, false, true, false, false, true, false, true, false, true, false, true, false, true, false, false, false, false, false] rfl rfl (take_ofW HT_.out HW_.out (by kernel_rfl)) (fun _ _ _ h => h) (Or.inl ⟨by rfl, ?_⟩) hHeld ?_ ?_
      rotate_left
      ·
       rintro w' ⟨s0, s1, s2, s3, s4, s5, s6, s7⟩
       go_simp
       with_reducible rfl
      rotate_left; focus (simp only [apz, i64_w, i32_w]; rfl)
      refine take_ (i := 3) (N := some 26) (v := ?_) (a' := ?_) #[true, true, true, true, true, false, true, false, true, false, false, true, false, true, false, true, false, true, false, true, false, false, false, false, false] rfl rfl (take_ofW HT_.out HW_.out (by kernel_rfl)) (fun _ _ _ h => h) (Or.inl ⟨by rfl, ?_⟩) hHeld ?_ ?_
      rotate_left
      ·
       rintro w' ⟨s0, s1, s2, s3, s4, s5, s6, s7⟩
       go_simp
       with_reducible rfl
      rotate_left; focus (simp only [apz, i64_w, i32_w]; rfl)
      refine take_ (i := 5) (N := some 28) (v := ?_) (a' := ?_) #[true, true, true, true, true, true, true, false, true, false, false, true, false, true, false, true, false, true, false, true, false, false, false, false, false] rfl rfl (take_ofW HT_.out HW_.out (by kernel_rfl)) (fun _ _ _ h => h) (Or.inl ⟨by rfl, ?_⟩) hHeld ?_ ?_
      rotate_left
      ·
       rintro w' ⟨s0, s1, s2, s3, s4, s5, s6, s7⟩
       go_simp
       with_reducible rfl
      rotate_left; focus (simp only [apz, i64_w, i32_w]; rfl)
      refine take_ (i := 7) (N := some 30) (v := ?_) (a' := ?_) #[true, true, true, true, true, true, true, true, true, false, false, true, false, true, false, true, false, true, false, true, false, false, false, false, false] rfl rfl (take_ofW HT_.out HW_.out (by kernel_rfl)) (fun _ _ _ h => h) (Or.inl ⟨by rfl, ?_⟩) hHeld ?_ ?_
      rotate_left
      ·
       rintro w' ⟨s0, s1, s2, s3, s4, s5, s6, s7⟩
       go_simp
       with_reducible rfl
      rotate_left; focus (simp only [apz, i64_w, i32_w]; rfl)
      refine take_ (i := 9) (N := some 32) (v := ?_) (a' := ?_) #[true, true, true, true, true, true, true, true, true, true, false, true, false, true, false, true, false, true, false, true, false, false, false, false, false] rfl rfl (take_ofW HT_.out HW_.out (by kernel_rfl)) (fun _ _ _ h => h) (Or.inl ⟨by rfl, ?_⟩) hHeld ?_ ?_
      rotate_left
      ·
       rintro w' ⟨s0, s1, s2, s3, s4, s5, s6, s7⟩
       go_simp
       with_reducible rfl
      rotate_left; focus (simp only [apz, i64_w, i32_w]; rfl)
      refine take_ (i := 12) (N := some 35) (v := ?_) (a' := ?_) #[true, true, true, true, true, true, true, true, true, true, false, true, true, true, false, true, false, true, false, true, false, false, false, false, false] rfl rfl (take_ofW HT_.out HW_.out (by kernel_rfl)) (fun _ _ _ h => h) (Or.inl ⟨by rfl, ?_⟩) hHeld ?_ ?_
      rotate_left
      ·
       rintro w' ⟨s0, s1, s2, s3, s4, s5, s6, s7⟩
       go_simp
       with_reducible rfl
      rotate_left; focus (simp only [apz, i64_w, i32_w]; rfl)
      refine take_ (i := 14) (N := some 37) (v := ?_) (a' := ?_) #[true, true, true, true, true, true, true, true, true, true, false, true, true, true, true, true, false, true, false, true, false, false, false, false, false] rfl rfl (take_ofW HT_.out HW_.out (by kernel_rfl)) (fun _ _ _ h => h) (Or.inl ⟨by rfl, ?_⟩) hHeld ?_ ?_
      rotate_left
      ·
       rintro w' ⟨s0, s1, s2, s3, s4, s5, s6, s7⟩
       go_simp
       with_reducible rfl
      rotate_left; focus (simp only [apz, i64_w, i32_w]; rfl)
      refine take_ (i := 16) (N := some 39) (v := ?_) (a' := ?_) #[true, true, true, true, true, true, true, true, true, true, false, true, true, true, true, true, true, true, false, true, false, false, false, false, false] rfl rfl (take_ofW HT_.out HW_.out (by kernel_rfl)) (fun _ _ _ h => h) (Or.inl ⟨by rfl, ?_⟩) hHeld ?_ ?_
      rotate_left
      ·
       rintro w' ⟨s0, s1, s2, s3, s4, s5, s6, s7⟩
       go_simp
       with_reducible rfl
      rotate_left; focus (simp only [apz, i64_w, i32_w]; rfl)
      refine take_ (i := 18) (N := some 41) (v := ?_) (a' := ?_) #[true, true, true, true, true, true, true, true, true, true, false, true, true, true, true, true, true, true, true, true, false, false, false, false, false] rfl rfl (take_ofW HT_.out HW_.out (by kernel_rfl)) (fun _ _ _ h => h) (Or.inl ⟨by rfl, ?_⟩) hHeld ?_ ?_
      rotate_left
      ·
       rintro w' ⟨s0, s1, s2, s3, s4, s5, s6, s7⟩
       go_simp
       with_reducible rfl
      rotate_left; focus (simp only [apz, i64_w, i32_w]; rfl)
      refine take_ (i := 20) (N := some 43) (v := ?_) (a' := ?_) #[true, true, true, true, true, true, true, true, true, true, false, true, true, true, true, true, true, true, true, true, true, false, false, false, false] rfl rfl (take_ofW HT_.out HW_.out (by kernel_rfl)) (fun _ _ _ h => h) (Or.inl ⟨by rfl, ?_⟩) hHeld ?_ ?_
      rotate_left
      ·
       rintro w' ⟨s0, s1, s2, s3, s4, s5, s6, s7⟩
       go_simp
       with_reducible rfl
      rotate_left; focus (simp only [apz, i64_w, i32_w]; rfl)
      refine join_ (σ := Nat) 1 (bt 24 1) (fun s_ => [(33, .int .i64 t396), (44, .int .i64 t397), (6, .pointer (some ⟨s_, 0, none⟩)), (45, .agg #[.int .i64 t396, .int .i64 t397])]) (fun s_ w' => (w'.cell? ⟨gb390, 0, none⟩ = some (.int .i64 a0_0) ∧ w'.cell? ⟨gb390, 1, none⟩ = some (.int .i64 a0_1) ∧ w'.cell? ⟨gb390, 2, none⟩ = some (.int .i64 a0_2) ∧ w'.cell? ⟨gb390, 3, none⟩ = some (.int .i64 a0_3) ∧ w'.cell? ⟨gb390, 4, none⟩ = some (.int .i64 a0_4) ∧ w'.cell? ⟨gb390, 5, none⟩ = some (.int .i64 a0_5) ∧ w'.cell? ⟨gb391, 0, none⟩ = some (.int .i64 a1_0) ∧ w'.cell? ⟨gb391, 1, none⟩ = some (.int .i64 a1_1)) ∧ (w'.heap[gb390]? = some (.cells #[.int .i64 a0_0, .int .i64 a0_1, .int .i64 a0_2, .int .i64 a0_3, .int .i64 a0_4, .int .i64 a0_5] 23 (0, 0))) ∧ (w'.heap[gb391]? = some (.cells #[.int .i64 a1_0, .int .i64 a1_1] 25 (0, 0))) ∧ (w'.heap[gb392]? = some (.cells #[.int .i64 0, .int .i64 0] 25 (0, 0))) ∧ (w'.heap[s_]? = some (.cells #[.int .i64 0, .int .i64 0] 25 (0, 0))) ∧ (w.heap.size ≤ s_) ∧ (w.heap.size ≤ s_) ∧ (gb390 ≠ s_) ∧ (s_ ≠ gb390) ∧ (gb391 ≠ s_) ∧ (s_ ≠ gb391) ∧ (gb392 ≠ s_) ∧ (s_ ≠ gb392) ∧ (Below w.heap.size w w')) ?_ ?_
      rotate_left
      ·
       intro hCont
       refine two_ (i := 10) (j := 23) (Ni := some 33) (Nj := some 6) (bt 21 4) #[true, true, true, true, true, true, true, true, true, true, false, true, true, true, true, true, true, true, true, true, true, false, false, true, false] rfl rfl rfl rfl (two_of HT_.out (by kernel_rfl)) (by decide) (by decide) (fun K hK => ?_) (fun K hK => ?_)
       ·
        skip
        refine goes_ Tryd.func22 (by kernel_rfl) rfl #[.int .i64 a0_0, .int .i64 a1_0, .int .i64 a0_2, .int .i64 a1_1, .int .i64 a0_4] (by rfl) rfl rfl (by (try simp only [List.map_toArray, List.map_cons, List.map_nil]); first | done | rfl | (simp only [List.length_drop, List.length_take]; rfl)) ?_
        with_reducible refine (pointillistref08_sum.calls kj2 a0_0 a1_0 a0_2 a1_1 a0_4 t396 _ A32.out).mono ?_
        rintro e w39 ⟨rfl, hb⟩
        refine ⟨_, rfl, ?_⟩
        have n0_ := Aside0.mk (blk_below (bq BK390.out) hb)
        have n1_ := Aside0.mk (blk_below (bq BK391.out) hb)
        have n2_ := Aside0.mk (blk_below (bq BK392.out) hb)
        have n3_ := Aside0.mk (below_step (wq HB.out) hb)
        clear BK390 BK391 BK392 HB; have BK390 := n0_; have BK391 := n1_; have BK392 := n2_; have HB := n3_; clear n0_ n1_ n2_ n3_
        (try clear hb)
        (try clear hb2)
        (try clear hk)
        (try clear hi)
        refine hK.out _ _ ⟨(blk_cell BK390.out 0).trans rfl, (blk_cell BK390.out 1).trans rfl, (blk_cell BK390.out 2).trans rfl, (blk_cell BK390.out 3).trans rfl, (blk_cell BK390.out 4).trans rfl, (blk_cell BK390.out 5).trans rfl, (blk_cell BK391.out 0).trans rfl, (blk_cell BK391.out 1).trans rfl⟩ (fun hHeld => ?_)
        clear hK K
        refine norm_ (a' := ?_) ?_ ?_
        rotate_left
        ·
         show Act.put _ (some 33) _ = _
         simp only [apz, i64_w, i32_w]
         rfl
        refine two_ (i := 21) (j := 23) (Ni := some 44) (Nj := some 6) (bt 22 3) #[true, true, true, true, true, true, true, true, true, true, true, true, true, true, true, true, true, true, true, true, true, false, false, true, false] rfl rfl rfl rfl (two_of HT_.out (by kernel_rfl)) (by decide) (by decide) (fun K hK => ?_) (fun K hK => ?_)
        ·
         skip
         refine goes_ Tryd.func22 (by kernel_rfl) rfl #[.int .i64 a0_1, .int .i64 a1_0, .int .i64 a0_3, .int .i64 a1_1, .int .i64 a0_5] (by rfl) rfl rfl (by (try simp only [List.map_toArray, List.map_cons, List.map_nil]); first | done | rfl | (simp only [List.length_drop, List.length_take]; rfl)) ?_
         with_reducible refine (pointillistref08_sum.calls kj2 a0_1 a1_0 a0_3 a1_1 a0_5 t397 _ A33.out).mono ?_
         rintro e w40 ⟨rfl, hb⟩
         refine ⟨_, rfl, ?_⟩
         have n0_ := Aside0.mk (blk_below (bq BK390.out) hb)
         have n1_ := Aside0.mk (blk_below (bq BK391.out) hb)
         have n2_ := Aside0.mk (blk_below (bq BK392.out) hb)
         have n3_ := Aside0.mk (below_step (wq HB.out) hb)
         clear BK390 BK391 BK392 HB; have BK390 := n0_; have BK391 := n1_; have BK392 := n2_; have HB := n3_; clear n0_ n1_ n2_ n3_
         (try clear hb)
         (try clear hb2)
         (try clear hk)
         (try clear hi)
         refine hK.out _ _ ⟨(blk_cell BK390.out 0).trans rfl, (blk_cell BK390.out 1).trans rfl, (blk_cell BK390.out 2).trans rfl, (blk_cell BK390.out 3).trans rfl, (blk_cell BK390.out 4).trans rfl, (blk_cell BK390.out 5).trans rfl, (blk_cell BK391.out 0).trans rfl, (blk_cell BK391.out 1).trans rfl⟩ (fun hHeld => ?_)
         clear hK K
         refine norm_ (a' := ?_) ?_ ?_
         rotate_left
         ·
          show Act.put _ (some 44) _ = _
          simp only [apz, i64_w, i32_w]
          rfl
         refine pure_ (i := 22) (N := some 45) (v := ?_) (a' := ?_) (bt 23 2) rfl rfl (any_of HT_.out (by kernel_rfl)) (fun _ _ _ h => h) (Or.inl ⟨by rfl, ?_⟩) ?_ ?_
         rotate_left; focus (intro w'; go_simp; with_reducible rfl)
         rotate_left; focus (simp only [apz, i64_w, i32_w]; rfl)
         refine one_ (i := 23) (N := some 6) (bt 24 1) rfl rfl (one_of HT_.out (by kernel_rfl)) (by decide) (fun K hK => ?_)
         refine box_step ?hg (N := 6) ?hd (cs := #[.int .i64 0, .int .i64 0]) (t := 25) ?hr ?_; (case hd => rfl); (case hg => rfl); (case hr => first | (go_simp; done) | (go_simp; rfl))
         intro gb398 hg w41 hbox hb
         have n0_ := Aside0.mk (blk_below (bq BK390.out) hb)
         have n1_ := Aside0.mk (blk_below (bq BK391.out) hb)
         have n2_ := Aside0.mk (blk_below (bq BK392.out) hb)
         have n3_ := Aside0.mk (below_step (wq HB.out) hb)
         have n4_ := Aside0.mk (hbox)
         have n5_ := Aside0.mk ((by rw [hg]; exact (below_size (wq HB.out)) : w.heap.size ≤ gb398))
         have n6_ := Aside0.mk ((by rw [hg]; exact (below_size (wq HB.out)) : w.heap.size ≤ gb398))
         have n7_ := Aside0.mk ((by rw [hg]; exact Nat.ne_of_lt (blk_lt (bq BK390.out)) : gb390 ≠ gb398))
         have n8_ := Aside0.mk ((by rw [hg]; exact Nat.ne_of_gt (blk_lt (bq BK390.out)) : gb398 ≠ gb390))
         have n9_ := Aside0.mk ((by rw [hg]; exact Nat.ne_of_lt (blk_lt (bq BK391.out)) : gb391 ≠ gb398))
         have n10_ := Aside0.mk ((by rw [hg]; exact Nat.ne_of_gt (blk_lt (bq BK391.out)) : gb398 ≠ gb391))
         have n11_ := Aside0.mk ((by rw [hg]; exact Nat.ne_of_lt (blk_lt (bq BK392.out)) : gb392 ≠ gb398))
         have n12_ := Aside0.mk ((by rw [hg]; exact Nat.ne_of_gt (blk_lt (bq BK392.out)) : gb398 ≠ gb392))
         clear BK390 BK391 BK392 HB; have BK390 := n0_; have BK391 := n1_; have BK392 := n2_; have HB := n3_; have BK398 := n4_; have GW398 := n5_; have GE398 := n6_; have NB390_398 := n7_; have NB398_390 := n8_; have NB391_398 := n9_; have NB398_391 := n10_; have NB392_398 := n11_; have NB398_392 := n12_; clear n0_ n1_ n2_ n3_ n4_ n5_ n6_ n7_ n8_ n9_ n10_ n11_ n12_ hb hbox hg
         refine hK.out _ _ ⟨(blk_cell BK390.out 0).trans rfl, (blk_cell BK390.out 1).trans rfl, (blk_cell BK390.out 2).trans rfl, (blk_cell BK390.out 3).trans rfl, (blk_cell BK390.out 4).trans rfl, (blk_cell BK390.out 5).trans rfl, (blk_cell BK391.out 0).trans rfl, (blk_cell BK391.out 1).trans rfl⟩ (fun hHeld => ?_)
         clear hK K
         refine norm_ (a' := ?_) ?_ ?_
         rotate_left
         ·
          show Act.put _ (some 6) _ = _
          simp only [apz, i64_w, i32_w]
          rfl
         exact norm_ (by simp only [putAll, apz]) (hCont (gb398) _ ⟨hHeld, (bq BK390.out), (bq BK391.out), (bq BK392.out), (bq BK398.out), GW398.out, GE398.out, NB390_398.out, NB398_390.out, NB391_398.out, NB398_391.out, NB392_398.out, NB398_392.out, (wq HB.out)⟩)
        ·
         skip
         refine box_step ?hg (N := 6) ?hd (cs := #[.int .i64 0, .int .i64 0]) (t := 25) ?hr ?_; (case hd => rfl); (case hg => rfl); (case hr => first | (go_simp; done) | (go_simp; rfl))
         intro gb398 hg w40 hbox hb
         have n0_ := Aside0.mk (blk_below (bq BK390.out) hb)
         have n1_ := Aside0.mk (blk_below (bq BK391.out) hb)
         have n2_ := Aside0.mk (blk_below (bq BK392.out) hb)
         have n3_ := Aside0.mk (below_step (wq HB.out) hb)
         have n4_ := Aside0.mk (hbox)
         have n5_ := Aside0.mk ((by rw [hg]; exact (below_size (wq HB.out)) : w.heap.size ≤ gb398))
         have n6_ := Aside0.mk ((by rw [hg]; exact (below_size (wq HB.out)) : w.heap.size ≤ gb398))
         have n7_ := Aside0.mk ((by rw [hg]; exact Nat.ne_of_lt (blk_lt (bq BK390.out)) : gb390 ≠ gb398))
         have n8_ := Aside0.mk ((by rw [hg]; exact Nat.ne_of_gt (blk_lt (bq BK390.out)) : gb398 ≠ gb390))
         have n9_ := Aside0.mk ((by rw [hg]; exact Nat.ne_of_lt (blk_lt (bq BK391.out)) : gb391 ≠ gb398))
         have n10_ := Aside0.mk ((by rw [hg]; exact Nat.ne_of_gt (blk_lt (bq BK391.out)) : gb398 ≠ gb391))
         have n11_ := Aside0.mk ((by rw [hg]; exact Nat.ne_of_lt (blk_lt (bq BK392.out)) : gb392 ≠ gb398))
         have n12_ := Aside0.mk ((by rw [hg]; exact Nat.ne_of_gt (blk_lt (bq BK392.out)) : gb398 ≠ gb392))
         clear BK390 BK391 BK392 HB; have BK390 := n0_; have BK391 := n1_; have BK392 := n2_; have HB := n3_; have BK398 := n4_; have GW398 := n5_; have GE398 := n6_; have NB390_398 := n7_; have NB398_390 := n8_; have NB391_398 := n9_; have NB398_391 := n10_; have NB392_398 := n11_; have NB398_392 := n12_; clear n0_ n1_ n2_ n3_ n4_ n5_ n6_ n7_ n8_ n9_ n10_ n11_ n12_ hb hbox hg
         refine hK.out _ _ ⟨(blk_cell BK390.out 0).trans rfl, (blk_cell BK390.out 1).trans rfl, (blk_cell BK390.out 2).trans rfl, (blk_cell BK390.out 3).trans rfl, (blk_cell BK390.out 4).trans rfl, (blk_cell BK390.out 5).trans rfl, (blk_cell BK391.out 0).trans rfl, (blk_cell BK391.out 1).trans rfl⟩ (fun hHeld => ?_)
         clear hK K
         refine norm_ (a' := ?_) ?_ ?_
         rotate_left
         ·
          show Act.put _ (some 6) _ = _
          simp only [apz, i64_w, i32_w]
          rfl
         refine one_ (i := 21) (N := some 44) #[true, true, true, true, true, true, true, true, true, true, true, true, true, true, true, true, true, true, true, true, true, true, false, true, false] rfl rfl (one_of HT_.out (by kernel_rfl)) (by decide) (fun K hK => ?_)
         refine goes_ Tryd.func22 (by kernel_rfl) rfl #[.int .i64 a0_1, .int .i64 a1_0, .int .i64 a0_3, .int .i64 a1_1, .int .i64 a0_5] (by rfl) rfl rfl (by (try simp only [List.map_toArray, List.map_cons, List.map_nil]); first | done | rfl | (simp only [List.length_drop, List.length_take]; rfl)) ?_
         with_reducible refine (pointillistref08_sum.calls kj2 a0_1 a1_0 a0_3 a1_1 a0_5 t397 _ A33.out).mono ?_
         rintro e w41 ⟨rfl, hb⟩
         refine ⟨_, rfl, ?_⟩
         have n0_ := Aside0.mk (blk_below (bq BK390.out) hb)
         have n1_ := Aside0.mk (blk_below (bq BK391.out) hb)
         have n2_ := Aside0.mk (blk_below (bq BK392.out) hb)
         have n3_ := Aside0.mk (blk_below (bq BK398.out) hb)
         have n4_ := Aside0.mk (below_step (wq HB.out) hb)
         clear BK390 BK391 BK392 BK398; clear HB; have BK390 := n0_; have BK391 := n1_; have BK392 := n2_; have BK398 := n3_; have HB := n4_; clear n0_ n1_ n2_ n3_ n4_
         (try clear hb)
         (try clear hb2)
         (try clear hk)
         (try clear hi)
         refine hK.out _ _ ⟨(blk_cell BK390.out 0).trans rfl, (blk_cell BK390.out 1).trans rfl, (blk_cell BK390.out 2).trans rfl, (blk_cell BK390.out 3).trans rfl, (blk_cell BK390.out 4).trans rfl, (blk_cell BK390.out 5).trans rfl, (blk_cell BK391.out 0).trans rfl, (blk_cell BK391.out 1).trans rfl⟩ (fun hHeld => ?_)
         clear hK K
         refine norm_ (a' := ?_) ?_ ?_
         rotate_left
         ·
          show Act.put _ (some 44) _ = _
          simp only [apz, i64_w, i32_w]
          rfl
         refine pure_ (i := 22) (N := some 45) (v := ?_) (a' := ?_) (bt 24 1) rfl rfl (any_of HT_.out (by kernel_rfl)) (fun _ _ _ h => h) (Or.inl ⟨by rfl, ?_⟩) ?_ ?_
         rotate_left; focus (intro w'; go_simp; with_reducible rfl)
         rotate_left; focus (simp only [apz, i64_w, i32_w]; rfl)
         exact norm_ (by simp only [putAll, apz]) (hCont (gb398) _ ⟨hHeld, (bq BK390.out), (bq BK391.out), (bq BK392.out), (bq BK398.out), GW398.out, GE398.out, NB390_398.out, NB398_390.out, NB391_398.out, NB398_391.out, NB392_398.out, NB398_392.out, (wq HB.out)⟩)
       ·
        skip
        refine box_step ?hg (N := 6) ?hd (cs := #[.int .i64 0, .int .i64 0]) (t := 25) ?hr ?_; (case hd => rfl); (case hg => rfl); (case hr => first | (go_simp; done) | (go_simp; rfl))
        intro gb398 hg w39 hbox hb
        have n0_ := Aside0.mk (blk_below (bq BK390.out) hb)
        have n1_ := Aside0.mk (blk_below (bq BK391.out) hb)
        have n2_ := Aside0.mk (blk_below (bq BK392.out) hb)
        have n3_ := Aside0.mk (below_step (wq HB.out) hb)
        have n4_ := Aside0.mk (hbox)
        have n5_ := Aside0.mk ((by rw [hg]; exact (below_size (wq HB.out)) : w.heap.size ≤ gb398))
        have n6_ := Aside0.mk ((by rw [hg]; exact (below_size (wq HB.out)) : w.heap.size ≤ gb398))
        have n7_ := Aside0.mk ((by rw [hg]; exact Nat.ne_of_lt (blk_lt (bq BK390.out)) : gb390 ≠ gb398))
        have n8_ := Aside0.mk ((by rw [hg]; exact Nat.ne_of_gt (blk_lt (bq BK390.out)) : gb398 ≠ gb390))
        have n9_ := Aside0.mk ((by rw [hg]; exact Nat.ne_of_lt (blk_lt (bq BK391.out)) : gb391 ≠ gb398))
        have n10_ := Aside0.mk ((by rw [hg]; exact Nat.ne_of_gt (blk_lt (bq BK391.out)) : gb398 ≠ gb391))
        have n11_ := Aside0.mk ((by rw [hg]; exact Nat.ne_of_lt (blk_lt (bq BK392.out)) : gb392 ≠ gb398))
        have n12_ := Aside0.mk ((by rw [hg]; exact Nat.ne_of_gt (blk_lt (bq BK392.out)) : gb398 ≠ gb392))
        clear BK390 BK391 BK392 HB; have BK390 := n0_; have BK391 := n1_; have BK392 := n2_; have HB := n3_; have BK398 := n4_; have GW398 := n5_; have GE398 := n6_; have NB390_398 := n7_; have NB398_390 := n8_; have NB391_398 := n9_; have NB398_391 := n10_; have NB392_398 := n11_; have NB398_392 := n12_; clear n0_ n1_ n2_ n3_ n4_ n5_ n6_ n7_ n8_ n9_ n10_ n11_ n12_ hb hbox hg
        refine hK.out _ _ ⟨(blk_cell BK390.out 0).trans rfl, (blk_cell BK390.out 1).trans rfl, (blk_cell BK390.out 2).trans rfl, (blk_cell BK390.out 3).trans rfl, (blk_cell BK390.out 4).trans rfl, (blk_cell BK390.out 5).trans rfl, (blk_cell BK391.out 0).trans rfl, (blk_cell BK391.out 1).trans rfl⟩ (fun hHeld => ?_)
        clear hK K
        refine norm_ (a' := ?_) ?_ ?_
        rotate_left
        ·
         show Act.put _ (some 6) _ = _
         simp only [apz, i64_w, i32_w]
         rfl
        refine one_ (i := 10) (N := some 33) #[true, true, true, true, true, true, true, true, true, true, true, true, true, true, true, true, true, true, true, true, true, false, false, true, false] rfl rfl (one_of HT_.out (by kernel_rfl)) (by decide) (fun K hK => ?_)
        refine goes_ Tryd.func22 (by kernel_rfl) rfl #[.int .i64 a0_0, .int .i64 a1_0, .int .i64 a0_2, .int .i64 a1_1, .int .i64 a0_4] (by rfl) rfl rfl (by (try simp only [List.map_toArray, List.map_cons, List.map_nil]); first | done | rfl | (simp only [List.length_drop, List.length_take]; rfl)) ?_
        with_reducible refine (pointillistref08_sum.calls kj2 a0_0 a1_0 a0_2 a1_1 a0_4 t396 _ A32.out).mono ?_
        rintro e w40 ⟨rfl, hb⟩
        refine ⟨_, rfl, ?_⟩
        have n0_ := Aside0.mk (blk_below (bq BK390.out) hb)
        have n1_ := Aside0.mk (blk_below (bq BK391.out) hb)
        have n2_ := Aside0.mk (blk_below (bq BK392.out) hb)
        have n3_ := Aside0.mk (blk_below (bq BK398.out) hb)
        have n4_ := Aside0.mk (below_step (wq HB.out) hb)
        clear BK390 BK391 BK392 BK398; clear HB; have BK390 := n0_; have BK391 := n1_; have BK392 := n2_; have BK398 := n3_; have HB := n4_; clear n0_ n1_ n2_ n3_ n4_
        (try clear hb)
        (try clear hb2)
        (try clear hk)
        (try clear hi)
        refine hK.out _ _ ⟨(blk_cell BK390.out 0).trans rfl, (blk_cell BK390.out 1).trans rfl, (blk_cell BK390.out 2).trans rfl, (blk_cell BK390.out 3).trans rfl, (blk_cell BK390.out 4).trans rfl, (blk_cell BK390.out 5).trans rfl, (blk_cell BK391.out 0).trans rfl, (blk_cell BK391.out 1).trans rfl⟩ (fun hHeld => ?_)
        clear hK K
        refine norm_ (a' := ?_) ?_ ?_
        rotate_left
        ·
         show Act.put _ (some 33) _ = _
         simp only [apz, i64_w, i32_w]
         rfl
        refine one_ (i := 21) (N := some 44) #[true, true, true, true, true, true, true, true, true, true, true, true, true, true, true, true, true, true, true, true, true, true, false, true, false] rfl rfl (one_of HT_.out (by kernel_rfl)) (by decide) (fun K hK => ?_)
        refine goes_ Tryd.func22 (by kernel_rfl) rfl #[.int .i64 a0_1, .int .i64 a1_0, .int .i64 a0_3, .int .i64 a1_1, .int .i64 a0_5] (by rfl) rfl rfl (by (try simp only [List.map_toArray, List.map_cons, List.map_nil]); first | done | rfl | (simp only [List.length_drop, List.length_take]; rfl)) ?_
        with_reducible refine (pointillistref08_sum.calls kj2 a0_1 a1_0 a0_3 a1_1 a0_5 t397 _ A33.out).mono ?_
        rintro e w41 ⟨rfl, hb⟩
        refine ⟨_, rfl, ?_⟩
        have n0_ := Aside0.mk (blk_below (bq BK390.out) hb)
        have n1_ := Aside0.mk (blk_below (bq BK391.out) hb)
        have n2_ := Aside0.mk (blk_below (bq BK392.out) hb)
        have n3_ := Aside0.mk (blk_below (bq BK398.out) hb)
        have n4_ := Aside0.mk (below_step (wq HB.out) hb)
        clear BK390 BK391 BK392 BK398; clear HB; have BK390 := n0_; have BK391 := n1_; have BK392 := n2_; have BK398 := n3_; have HB := n4_; clear n0_ n1_ n2_ n3_ n4_
        (try clear hb)
        (try clear hb2)
        (try clear hk)
        (try clear hi)
        refine hK.out _ _ ⟨(blk_cell BK390.out 0).trans rfl, (blk_cell BK390.out 1).trans rfl, (blk_cell BK390.out 2).trans rfl, (blk_cell BK390.out 3).trans rfl, (blk_cell BK390.out 4).trans rfl, (blk_cell BK390.out 5).trans rfl, (blk_cell BK391.out 0).trans rfl, (blk_cell BK391.out 1).trans rfl⟩ (fun hHeld => ?_)
        clear hK K
        refine norm_ (a' := ?_) ?_ ?_
        rotate_left
        ·
         show Act.put _ (some 44) _ = _
         simp only [apz, i64_w, i32_w]
         rfl
        refine pure_ (i := 22) (N := some 45) (v := ?_) (a' := ?_) (bt 24 1) rfl rfl (any_of HT_.out (by kernel_rfl)) (fun _ _ _ h => h) (Or.inl ⟨by rfl, ?_⟩) ?_ ?_
        rotate_left; focus (intro w'; go_simp; with_reducible rfl)
        rotate_left; focus (simp only [apz, i64_w, i32_w]; rfl)
        exact norm_ (by simp only [putAll, apz]) (hCont (gb398) _ ⟨hHeld, (bq BK390.out), (bq BK391.out), (bq BK392.out), (bq BK398.out), GW398.out, GE398.out, NB390_398.out, NB398_390.out, NB391_398.out, NB398_391.out, NB392_398.out, NB398_392.out, (wq HB.out)⟩)
      rintro gb398 w42 ⟨hS_, h0_, h1_, h2_, h3_, h4_, h5_, h6_, h7_, h8_, h9_, h10_, h11_, h12_⟩
      have n0_ : Aside0 (w42.heap[gb390]? = some (.cells #[.int .i64 a0_0, .int .i64 a0_1, .int .i64 a0_2, .int .i64 a0_3, .int .i64 a0_4, .int .i64 a0_5] 23 (0, 0))) := ⟨h0_⟩
      have n1_ : Aside0 (w42.heap[gb391]? = some (.cells #[.int .i64 a1_0, .int .i64 a1_1] 25 (0, 0))) := ⟨h1_⟩
      have n2_ : Aside0 (w42.heap[gb392]? = some (.cells #[.int .i64 0, .int .i64 0] 25 (0, 0))) := ⟨h2_⟩
      have n3_ : Aside0 (w42.heap[gb398]? = some (.cells #[.int .i64 0, .int .i64 0] 25 (0, 0))) := ⟨h3_⟩
      have n4_ : Aside0 (w.heap.size ≤ gb398) := ⟨h4_⟩
      have n5_ : Aside0 (w.heap.size ≤ gb398) := ⟨h5_⟩
      have n6_ : Aside0 (gb390 ≠ gb398) := ⟨h6_⟩
      have n7_ : Aside0 (gb398 ≠ gb390) := ⟨h7_⟩
      have n8_ : Aside0 (gb391 ≠ gb398) := ⟨h8_⟩
      have n9_ : Aside0 (gb398 ≠ gb391) := ⟨h9_⟩
      have n10_ : Aside0 (gb392 ≠ gb398) := ⟨h10_⟩
      have n11_ : Aside0 (gb398 ≠ gb392) := ⟨h11_⟩
      have n12_ : Aside0 (Below w.heap.size w w42) := ⟨h12_⟩
      clear BK390 BK391 BK392 HB; clear h0_ h1_ h2_ h3_ h4_ h5_ h6_ h7_ h8_ h9_ h10_ h11_ h12_; have BK390 := n0_; have BK391 := n1_; have BK392 := n2_; have BK398 := n3_; have GW398 := n4_; have GE398 := n5_; have NB390_398 := n6_; have NB398_390 := n7_; have NB391_398 := n8_; have NB398_391 := n9_; have NB392_398 := n10_; have NB398_392 := n11_; have HB := n12_; clear n0_ n1_ n2_ n3_ n4_ n5_ n6_ n7_ n8_ n9_ n10_ n11_ n12_
      have hHeld : w42.cell? ⟨gb390, 0, none⟩ = some (.int .i64 a0_0) ∧ w42.cell? ⟨gb390, 1, none⟩ = some (.int .i64 a0_1) ∧ w42.cell? ⟨gb390, 2, none⟩ = some (.int .i64 a0_2) ∧ w42.cell? ⟨gb390, 3, none⟩ = some (.int .i64 a0_3) ∧ w42.cell? ⟨gb390, 4, none⟩ = some (.int .i64 a0_4) ∧ w42.cell? ⟨gb390, 5, none⟩ = some (.int .i64 a0_5) ∧ w42.cell? ⟨gb391, 0, none⟩ = some (.int .i64 a1_0) ∧ w42.cell? ⟨gb391, 1, none⟩ = some (.int .i64 a1_1) := hS_
      refine norm_ (a' := ?_) ?_ ?_
      rotate_left
      ·
       simp only [putAll, apz]
       rfl
      refine one_ (i := 24) (N := none) (bt 25 0) rfl rfl (one_of HT_.out (by kernel_rfl)) (by decide) (fun K hK => ?_)
      have hs43 : w42.cell? ⟨gb398, 0, none⟩ = some (.int .i64 0) := (blk_cell BK398.out 0).trans rfl
      have hfs43 := blk_frozen BK398.out 0
      have hns43_0 := NB390_398.out
      have hns43_1 := NB391_398.out
      have hns43_2 := NB392_398.out
      have hms43_0 := NB398_390.out
      have hms43_1 := NB398_391.out
      have hms43_2 := NB398_392.out
      have hs44 : w42.cell? ⟨gb398, 1, none⟩ = some (.int .i64 0) := (blk_cell BK398.out 1).trans rfl
      have hfs44 := blk_frozen BK398.out 1
      have hns44_0 := NB390_398.out
      have hns44_1 := NB391_398.out
      have hns44_2 := NB392_398.out
      have hms44_0 := NB398_390.out
      have hms44_1 := NB398_391.out
      have hms44_2 := NB398_392.out
      refine skip_ (w1 := ?_) (by rfl) rfl ?_ ?_
      rotate_left
      ·
       go_simp
       rfl
      refine hK.out _ _ ⟨((cell_far (p := ⟨gb398, _, none⟩) NB390_398.out _).trans (((cell_far (p := ⟨gb398, _, none⟩) NB390_398.out _).trans (hHeld.1)))), ((cell_far (p := ⟨gb398, _, none⟩) NB390_398.out _).trans (((cell_far (p := ⟨gb398, _, none⟩) NB390_398.out _).trans (hHeld.2.1)))), ((cell_far (p := ⟨gb398, _, none⟩) NB390_398.out _).trans (((cell_far (p := ⟨gb398, _, none⟩) NB390_398.out _).trans (hHeld.2.2.1)))), ((cell_far (p := ⟨gb398, _, none⟩) NB390_398.out _).trans (((cell_far (p := ⟨gb398, _, none⟩) NB390_398.out _).trans (hHeld.2.2.2.1)))), ((cell_far (p := ⟨gb398, _, none⟩) NB390_398.out _).trans (((cell_far (p := ⟨gb398, _, none⟩) NB390_398.out _).trans (hHeld.2.2.2.2.1)))), ((cell_far (p := ⟨gb398, _, none⟩) NB390_398.out _).trans (((cell_far (p := ⟨gb398, _, none⟩) NB390_398.out _).trans (hHeld.2.2.2.2.2.1)))), ((cell_far (p := ⟨gb398, _, none⟩) NB391_398.out _).trans (((cell_far (p := ⟨gb398, _, none⟩) NB391_398.out _).trans (hHeld.2.2.2.2.2.2.1)))), ((cell_far (p := ⟨gb398, _, none⟩) NB391_398.out _).trans (((cell_far (p := ⟨gb398, _, none⟩) NB391_398.out _).trans (hHeld.2.2.2.2.2.2.2))))⟩ (fun hHeld => ?_)
      clear hK K
      refine done_ (done_of HT_.out (by kernel_rfl)) ?_
      have hnb45 := NB398_390.out
      have hnc45 := NB390_398.out
      have hnb46 := NB398_391.out
      have hnc46 := NB391_398.out
      have hnb47 := NB398_392.out
      have hnc47 := NB392_398.out
      have hcz48_0 : w42.cell? ⟨gb398, 0, none⟩ = some (.int .i64 0) := (blk_cell BK398.out 0).trans rfl
      have hcz48_1 : w42.cell? ⟨gb398, 1, none⟩ = some (.int .i64 0) := (blk_cell BK398.out 1).trans rfl
      have hfz48_0 := blk_frozen BK398.out 0
      have hfz48_1 := blk_frozen BK398.out 1
      try go_wp2_with (first | ((with_reducible refine gate_callee (f := 14) rfl ?_); refine goesL_ (some 48) rfl rfl Tryd.func14 (by kernel_rfl) rfl #[.int .i64 t396] rfl (by (try simp only [List.map_toArray, List.map_cons, List.map_nil]); first | done | rfl | (simp only [List.length_drop, List.length_take]; rfl)) ?_; (with_reducible refine (pointillistref08_In.calls t396 true _ A34.out).mono ?_); rintro e w' ⟨rfl, ⟨nd, rfl⟩⟩; refine ⟨_, rfl, ?_⟩) | (go_at_call 14; (with_reducible refine (pointillistref08_In.calls t397 true _ A36.out).mono ?_); rintro e w' ⟨rfl, ⟨nd, rfl⟩⟩; have hnb49 := NB392_390.out; have hnc49 := NB390_392.out; have hnb50 := NB392_391.out; have hnc50 := NB391_392.out; have hcz51_0 : w42.cell? ⟨gb392, 0, none⟩ = some (.int .i64 0) := (blk_cell BK392.out 0).trans rfl; have hcz51_1 : w42.cell? ⟨gb392, 1, none⟩ = some (.int .i64 0) := (blk_cell BK392.out 1).trans rfl; have hfz51_0 := blk_frozen BK392.out 0; have hfz51_1 := blk_frozen BK392.out 1))
      refine bodyPost_ret (results_ct rfl _ _ gb392 25 #[.int .i64 t396, .int .i64 t397] (0, 0) _ rfl (by refine bq ?_; refine blk_put (cs := #[.int .i64 t396, .int .i64 0]) ?_ 1 _ rfl; refine bq ?_; refine blk_put (cs := #[.int .i64 0, .int .i64 0]) ?_ 0 _ rfl; refine bq ?_; refine blk_far ?_ NB392_398.out _; refine bq ?_; refine blk_far ?_ NB392_398.out _; refine bq ?_; exact BK392.out) Tryd.underlying25 rfl (by kernel_rfl)) rfl ?_
      exact ⟨by first | rfl | (simp [errW_none, errW_some] <;> rfl) | (simp [*, errW_none, errW_some] <;> rfl), by exact wq HB.out⟩
     ·
      replace c37 := Bool.eq_false_iff.mpr c37
      subst c37
      have H1 : (some (0, 0, 2)) = some (r1, r2, r3) := by rw [if_neg (show ¬ (false = true) by decide)] at H; exact H
      clear H
      have H := H1
      clear H1
      simp only [Option.some.injEq, Prod.mk.injEq] at H
      obtain ⟨rfl, rfl, rfl⟩ := H
      try go_wp2
      have n0_ := Aside0.mk (blk_drew BK390.out)
      have n1_ := Aside0.mk (blk_drew BK391.out)
      have n2_ := Aside0.mk (blk_drew BK392.out)
      have n3_ := Aside0.mk (below_drew1 HB.out)
      clear BK390 BK391 BK392 HB; have BK390 := n0_; have BK391 := n1_; have BK392 := n2_; have HB := n3_; clear n0_ n1_ n2_ n3_
      refine start_ (n := 25) (S := fun w' => w'.cell? ⟨gb390, 0, none⟩ = some (.int .i64 a0_0) ∧ w'.cell? ⟨gb390, 1, none⟩ = some (.int .i64 a0_1) ∧ w'.cell? ⟨gb390, 2, none⟩ = some (.int .i64 a0_2) ∧ w'.cell? ⟨gb390, 3, none⟩ = some (.int .i64 a0_3) ∧ w'.cell? ⟨gb390, 4, none⟩ = some (.int .i64 a0_4) ∧ w'.cell? ⟨gb390, 5, none⟩ = some (.int .i64 a0_5) ∧ w'.cell? ⟨gb391, 0, none⟩ = some (.int .i64 a1_0) ∧ w'.cell? ⟨gb391, 1, none⟩ = some (.int .i64 a1_1)) (ds := []) (bt 0 25) (by kernel_rfl) rfl rfl ⟨(blk_cell BK390.out 0).trans rfl, (blk_cell BK390.out 1).trans rfl, (blk_cell BK390.out 2).trans rfl, (blk_cell BK390.out 3).trans rfl, (blk_cell BK390.out 4).trans rfl, (blk_cell BK390.out 5).trans rfl, (blk_cell BK391.out 0).trans rfl, (blk_cell BK391.out 1).trans rfl⟩ (fun hHeld => ?_); refine with_tabW pointillistref08_Apply.tab3 pointillistref08_Apply.bits3 (fun HT_ HW_ => ?_)
      generalize wc.drew = w52 at BK390 BK391 BK392 HB hHeld ⊢
      refine pure_ (i := 0) (N := some 23) (v := ?_) (a' := ?_) (bt 1 24) rfl rfl (any_of HT_.out (by kernel_rfl)) (fun _ _ _ h => h) (Or.inl ⟨by rfl, ?_⟩) ?_ ?_
      rotate_left; focus (intro w'; go_simp; with_reducible rfl)
      rotate_left; focus (simp only [apz, i64_w, i32_w]; rfl)
      refine pure_ (i := 2) (N := some 25) (v := ?_) (a' := ?_) #[true, false, true, false, false, false, false, false, false, false, false, false, false, false, false, false, false, false, false, false, false, false, false, false, false] rfl rfl (any_of HT_.out (by kernel_rfl)) (fun _ _ _ h => h) (Or.inl ⟨by rfl, ?_⟩) ?_ ?_
      rotate_left; focus (intro w'; go_simp; with_reducible rfl)
      rotate_left; focus (simp only [apz, i64_w, i32_w]; rfl)
      refine pure_ (i := 4) (N := some 27) (v := ?_) (a' := ?_) #[true, false, true, false, true, false, false, false, false, false, false, false, false, false, false, false, false, false, false, false, false, false, false, false, false] rfl rfl (any_of HT_.out (by kernel_rfl)) (fun _ _ _ h => h) (Or.inl ⟨by rfl, ?_⟩) ?_ ?_
      rotate_left; focus (intro w'; go_simp; with_reducible rfl)
      rotate_left; focus (simp only [apz, i64_w, i32_w]; rfl)
      refine pure_ (i := 6) (N := some 29) (v := ?_) (a' := ?_) #[true, false, true, false, true, false, true, false, false, false, false, false, false, false, false, false, false, false, false, false, false, false, false, false, false] rfl rfl (any_of HT_.out (by kernel_rfl)) (fun _ _ _ h => h) (Or.inl ⟨by rfl, ?_⟩) ?_ ?_
      rotate_left; focus (intro w'; go_simp; with_reducible rfl)
      rotate_left; focus (simp only [apz, i64_w, i32_w]; rfl)
      refine pure_ (i := 8) (N := some 31) (v := ?_) (a' := ?_) #[true, false, true, false, true, false, true, false, true, false, false, false, false, false, false, false, false, false, false, false, false, false, false, false, false] rfl rfl (any_of HT_.out (by kernel_rfl)) (fun _ _ _ h => h) (Or.inl ⟨by rfl, ?_⟩) ?_ ?_
      rotate_left; focus (intro w'; go_simp; with_reducible rfl)
      rotate_left; focus (simp only [apz, i64_w, i32_w]; rfl)
      refine pure_ (i := 11) (N := some 34) (v := ?_) (a' := ?_) #[true, false, true, false, true, false, true, false, true, false, false, true, false, false, false, false, false, false, false, false, false, false, false, false, false] rfl rfl (any_of HT_.out (by kernel_rfl)) (fun _ _ _ h => h) (Or.inl ⟨by rfl, ?_⟩) ?_ ?_
      rotate_left; focus (intro w'; go_simp; with_reducible rfl)
      rotate_left; focus (simp only [apz, i64_w, i32_w]; rfl)
      refine pure_ (i := 13) (N := some 36) (v := ?_) (a' := ?_) #[true, false, true, false, true, false, true, false, true, false, false, true, false, true, false, false, false, false, false, false, false, false, false, false, false] rfl rfl (any_of HT_.out (by kernel_rfl)) (fun _ _ _ h => h) (Or.inl ⟨by rfl, ?_⟩) ?_ ?_
      rotate_left; focus (intro w'; go_simp; with_reducible rfl)
      rotate_left; focus (simp only [apz, i64_w, i32_w]; rfl)
      refine pure_ (i := 15) (N := some 38) (v := ?_) (a' := ?_) #[true, false, true, false, true, false, true, false, true, false, false, true, false, true, false, true, false, false, false, false, false, false, false, false, false] rfl rfl (any_of HT_.out (by kernel_rfl)) (fun _ _ _ h => h) (Or.inl ⟨by rfl, ?_⟩) ?_ ?_
      rotate_left; focus (intro w'; go_simp; with_reducible rfl)
      rotate_left; focus (simp only [apz, i64_w, i32_w]; rfl)
      refine pure_ (i := 17) (N := some 40) (v := ?_) (a' := ?_) #[true, false, true, false, true, false, true, false, true, false, false, true, false, true, false, true, false, true, false, false, false, false, false, false, false] rfl rfl (any_of HT_.out (by kernel_rfl)) (fun _ _ _ h => h) (Or.inl ⟨by rfl, ?_⟩) ?_ ?_
      rotate_left; focus (intro w'; go_simp; with_reducible rfl)
      rotate_left; focus (simp only [apz, i64_w, i32_w]; rfl)
      refine pure_ (i := 19) (N := some 42) (v := ?_) (a' := ?_) #[true, false, true, false, true, false, true, false, true, false, false, true, false, true, false, true, false, true, false, true, false, false, false, false, false] rfl rfl (any_of HT_.out (by kernel_rfl)) (fun _ _ _ h => h) (Or.inl ⟨by rfl, ?_⟩) ?_ ?_
      rotate_left; focus (intro w'; go_simp; with_reducible rfl)
      rotate_left; focus (simp only [apz, i64_w, i32_w]; rfl)
      refine take_ (i := 1) (N := some 24) (v := ?_) (a' := ?_) #[true, true, true, false, true, false, true, false, true, false, false, true, false, true, false, true, false, true, false, true, false, false, false, false, false] rfl rfl (take_ofW HT_.out HW_.out (by kernel_rfl)) (fun _ _ _ h => h) (Or.inl ⟨by rfl, ?_⟩) hHeld ?_ ?_
      rotate_left
      ·
       rintro w' ⟨s0, s1, s2, s3, s4, s5, s6, s7⟩
       go_simp
       with_reducible rfl
      rotate_left; focus (simp only [apz, i64_w, i32_w]; rfl)
      refine take_ (i := 3) (N := some 26) (v := ?_) (a' := ?_) #[true, true, true, true, true, false, true, false, true, false, false, true, false, true, false, true, false, true, false, true, false, false, false, false, false] rfl rfl (take_ofW HT_.out HW_.out (by kernel_rfl)) (fun _ _ _ h => h) (Or.inl ⟨by rfl, ?_⟩) hHeld ?_ ?_
      rotate_left
      ·
       rintro w' ⟨s0, s1, s2, s3, s4, s5, s6, s7⟩
       go_simp
       with_reducible rfl
      rotate_left; focus (simp only [apz, i64_w, i32_w]; rfl)
      refine take_ (i := 5) (N := some 28) (v := ?_) (a' := ?_) #[true, true, true, true, true, true, true, false, true, false, false, true, false, true, false, true, false, true, false, true, false, false, false, false, false] rfl rfl (take_ofW HT_.out HW_.out (by kernel_rfl)) (fun _ _ _ h => h) (Or.inl ⟨by rfl, ?_⟩) hHeld ?_ ?_
      rotate_left
      ·
       rintro w' ⟨s0, s1, s2, s3, s4, s5, s6, s7⟩
       go_simp
       with_reducible rfl
      rotate_left; focus (simp only [apz, i64_w, i32_w]; rfl)
      refine take_ (i := 7) (N := some 30) (v := ?_) (a' := ?_) #[true, true, true, true, true, true, true, true, true, false, false, true, false, true, false, true, false, true, false, true, false, false, false, false, false] rfl rfl (take_ofW HT_.out HW_.out (by kernel_rfl)) (fun _ _ _ h => h) (Or.inl ⟨by rfl, ?_⟩) hHeld ?_ ?_
      rotate_left
      ·
       rintro w' ⟨s0, s1, s2, s3, s4, s5, s6, s7⟩
       go_simp
       with_reducible rfl
      rotate_left; focus (simp only [apz, i64_w, i32_w]; rfl)
      refine take_ (i := 9) (N := some 32) (v := ?_) (a' := ?_) #[true, true, true, true, true, true, true, true, true, true, false, true, false, true, false, true, false, true, false, true, false, false, false, false, false] rfl rfl (take_ofW HT_.out HW_.out (by kernel_rfl)) (fun _ _ _ h => h) (Or.inl ⟨by rfl, ?_⟩) hHeld ?_ ?_
      rotate_left
      ·
       rintro w' ⟨s0, s1, s2, s3, s4, s5, s6, s7⟩
       go_simp
       with_reducible rfl
      rotate_left; focus (simp only [apz, i64_w, i32_w]; rfl)
      refine take_ (i := 12) (N := some 35) (v := ?_) (a' := ?_) #[true, true, true, true, true, true, true, true, true, true, false, true, true, true, false, true, false, true, false, true, false, false, false, false, false] rfl rfl (take_ofW HT_.out HW_.out (by kernel_rfl)) (fun _ _ _ h => h) (Or.inl ⟨by rfl, ?_⟩) hHeld ?_ ?_
      rotate_left
      ·
       rintro w' ⟨s0, s1, s2, s3, s4, s5, s6, s7⟩
       go_simp
       with_reducible rfl
      rotate_left; focus (simp only [apz, i64_w, i32_w]; rfl)
      refine take_ (i := 14) (N := some 37) (v := ?_) (a' := ?_) #[true, true, true, true, true, true, true, true, true, true, false, true, true, true, true, true, false, true, false, true, false, false, false, false, false] rfl rfl (take_ofW HT_.out HW_.out (by kernel_rfl)) (fun _ _ _ h => h) (Or.inl ⟨by rfl, ?_⟩) hHeld ?_ ?_
      rotate_left
      ·
       rintro w' ⟨s0, s1, s2, s3, s4, s5, s6, s7⟩
       go_simp
       with_reducible rfl
      rotate_left; focus (simp only [apz, i64_w, i32_w]; rfl)
      refine take_ (i := 16) (N := some 39) (v := ?_) (a' := ?_) #[true, true, true, true, true, true, true, true, true, true, false, true, true, true, true, true, true, true, false, true, false, false, false, false, false] rfl rfl (take_ofW HT_.out HW_.out (by kernel_rfl)) (fun _ _ _ h => h) (Or.inl ⟨by rfl, ?_⟩) hHeld ?_ ?_
      rotate_left
      ·
       rintro w' ⟨s0, s1, s2, s3, s4, s5, s6, s7⟩
       go_simp
       with_reducible rfl
      rotate_left; focus (simp only [apz, i64_w, i32_w]; rfl)
      refine take_ (i := 18) (N := some 41) (v := ?_) (a' := ?_) #[true, true, true, true, true, true, true, true, true, true, false, true, true, true, true, true, true, true, true, true, false, false, false, false, false] rfl rfl (take_ofW HT_.out HW_.out (by kernel_rfl)) (fun _ _ _ h => h) (Or.inl ⟨by rfl, ?_⟩) hHeld ?_ ?_
      rotate_left
      ·
       rintro w' ⟨s0, s1, s2, s3, s4, s5, s6, s7⟩
       go_simp
       with_reducible rfl
      rotate_left; focus (simp only [apz, i64_w, i32_w]; rfl)
      refine take_ (i := 20) (N := some 43) (v := ?_) (a' := ?_) #[true, true, true, true, true, true, true, true, true, true, false, true, true, true, true, true, true, true, true, true, true, false, false, false, false] rfl rfl (take_ofW HT_.out HW_.out (by kernel_rfl)) (fun _ _ _ h => h) (Or.inl ⟨by rfl, ?_⟩) hHeld ?_ ?_
      rotate_left
      ·
       rintro w' ⟨s0, s1, s2, s3, s4, s5, s6, s7⟩
       go_simp
       with_reducible rfl
      rotate_left; focus (simp only [apz, i64_w, i32_w]; rfl)
      refine join_ (σ := Nat) 1 (bt 24 1) (fun s_ => [(33, .int .i64 t396), (44, .int .i64 t397), (6, .pointer (some ⟨s_, 0, none⟩)), (45, .agg #[.int .i64 t396, .int .i64 t397])]) (fun s_ w' => (w'.cell? ⟨gb390, 0, none⟩ = some (.int .i64 a0_0) ∧ w'.cell? ⟨gb390, 1, none⟩ = some (.int .i64 a0_1) ∧ w'.cell? ⟨gb390, 2, none⟩ = some (.int .i64 a0_2) ∧ w'.cell? ⟨gb390, 3, none⟩ = some (.int .i64 a0_3) ∧ w'.cell? ⟨gb390, 4, none⟩ = some (.int .i64 a0_4) ∧ w'.cell? ⟨gb390, 5, none⟩ = some (.int .i64 a0_5) ∧ w'.cell? ⟨gb391, 0, none⟩ = some (.int .i64 a1_0) ∧ w'.cell? ⟨gb391, 1, none⟩ = some (.int .i64 a1_1)) ∧ (w'.heap[gb390]? = some (.cells #[.int .i64 a0_0, .int .i64 a0_1, .int .i64 a0_2, .int .i64 a0_3, .int .i64 a0_4, .int .i64 a0_5] 23 (0, 0))) ∧ (w'.heap[gb391]? = some (.cells #[.int .i64 a1_0, .int .i64 a1_1] 25 (0, 0))) ∧ (w'.heap[gb392]? = some (.cells #[.int .i64 0, .int .i64 0] 25 (0, 0))) ∧ (w'.heap[s_]? = some (.cells #[.int .i64 0, .int .i64 0] 25 (0, 0))) ∧ (w.heap.size ≤ s_) ∧ (w.heap.size ≤ s_) ∧ (gb390 ≠ s_) ∧ (s_ ≠ gb390) ∧ (gb391 ≠ s_) ∧ (s_ ≠ gb391) ∧ (gb392 ≠ s_) ∧ (s_ ≠ gb392) ∧ (Below w.heap.size w w')) ?_ ?_
      rotate_left
      ·
       intro hCont
       refine two_ (i := 10) (j := 23) (Ni := some 33) (Nj := some 6) (bt 21 4) #[true, true, true, true, true, true, true, true, true, true, false, true, true, true, true, true, true, true, true, true, true, false, false, true, false] rfl rfl rfl rfl (two_of HT_.out (by kernel_rfl)) (by decide) (by decide) (fun K hK => ?_) (fun K hK => ?_)
       ·
        skip
        refine goes_ Tryd.func22 (by kernel_rfl) rfl #[.int .i64 a0_0, .int .i64 a1_0, .int .i64 a0_2, .int .i64 a1_1, .int .i64 a0_4] (by rfl) rfl rfl (by (try simp only [List.map_toArray, List.map_cons, List.map_nil]); first | done | rfl | (simp only [List.length_drop, List.length_take]; rfl)) ?_
        with_reducible refine (pointillistref08_sum.calls kj2 a0_0 a1_0 a0_2 a1_1 a0_4 t396 _ A32.out).mono ?_
        rintro e w53 ⟨rfl, hb⟩
        refine ⟨_, rfl, ?_⟩
        have n0_ := Aside0.mk (blk_below (bq BK390.out) hb)
        have n1_ := Aside0.mk (blk_below (bq BK391.out) hb)
        have n2_ := Aside0.mk (blk_below (bq BK392.out) hb)
        have n3_ := Aside0.mk (below_step (wq HB.out) hb)
        clear BK390 BK391 BK392 HB; have BK390 := n0_; have BK391 := n1_; have BK392 := n2_; have HB := n3_; clear n0_ n1_ n2_ n3_
        (try clear hb)
        (try clear hb2)
        (try clear hk)
        (try clear hi)
        refine hK.out _ _ ⟨(blk_cell BK390.out 0).trans rfl, (blk_cell BK390.out 1).trans rfl, (blk_cell BK390.out 2).trans rfl, (blk_cell BK390.out 3).trans rfl, (blk_cell BK390.out 4).trans rfl, (blk_cell BK390.out 5).trans rfl, (blk_cell BK391.out 0).trans rfl, (blk_cell BK391.out 1).trans rfl⟩ (fun hHeld => ?_)
        clear hK K
        refine norm_ (a' := ?_) ?_ ?_
        rotate_left
        ·
         show Act.put _ (some 33) _ = _
         simp only [apz, i64_w, i32_w]
         rfl
        refine two_ (i := 21) (j := 23) (Ni := some 44) (Nj := some 6) (bt 22 3) #[true, true, true, true, true, true, true, true, true, true, true, true, true, true, true, true, true, true, true, true, true, false, false, true, false] rfl rfl rfl rfl (two_of HT_.out (by kernel_rfl)) (by decide) (by decide) (fun K hK => ?_) (fun K hK => ?_)
        ·
         skip
         refine goes_ Tryd.func22 (by kernel_rfl) rfl #[.int .i64 a0_1, .int .i64 a1_0, .int .i64 a0_3, .int .i64 a1_1, .int .i64 a0_5] (by rfl) rfl rfl (by (try simp only [List.map_toArray, List.map_cons, List.map_nil]); first | done | rfl | (simp only [List.length_drop, List.length_take]; rfl)) ?_
         with_reducible refine (pointillistref08_sum.calls kj2 a0_1 a1_0 a0_3 a1_1 a0_5 t397 _ A33.out).mono ?_
         rintro e w54 ⟨rfl, hb⟩
         refine ⟨_, rfl, ?_⟩
         have n0_ := Aside0.mk (blk_below (bq BK390.out) hb)
         have n1_ := Aside0.mk (blk_below (bq BK391.out) hb)
         have n2_ := Aside0.mk (blk_below (bq BK392.out) hb)
         have n3_ := Aside0.mk (below_step (wq HB.out) hb)
         clear BK390 BK391 BK392 HB; have BK390 := n0_; have BK391 := n1_; have BK392 := n2_; have HB := n3_; clear n0_ n1_ n2_ n3_
         (try clear hb)
         (try clear hb2)
         (try clear hk)
         (try clear hi)
         refine hK.out _ _ ⟨(blk_cell BK390.out 0).trans rfl, (blk_cell BK390.out 1).trans rfl, (blk_cell BK390.out 2).trans rfl, (blk_cell BK390.out 3).trans rfl, (blk_cell BK390.out 4).trans rfl, (blk_cell BK390.out 5).trans rfl, (blk_cell BK391.out 0).trans rfl, (blk_cell BK391.out 1).trans rfl⟩ (fun hHeld => ?_)
         clear hK K
         refine norm_ (a' := ?_) ?_ ?_
         rotate_left
         ·
          show Act.put _ (some 44) _ = _
          simp only [apz, i64_w, i32_w]
          rfl
         refine pure_ (i := 22) (N := some 45) (v := ?_) (a' := ?_) (bt 23 2) rfl rfl (any_of HT_.out (by kernel_rfl)) (fun _ _ _ h => h) (Or.inl ⟨by rfl, ?_⟩) ?_ ?_
         rotate_left; focus (intro w'; go_simp; with_reducible rfl)
         rotate_left; focus (simp only [apz, i64_w, i32_w]; rfl)
         refine one_ (i := 23) (N := some 6) (bt 24 1) rfl rfl (one_of HT_.out (by kernel_rfl)) (by decide) (fun K hK => ?_)
         refine box_step ?hg (N := 6) ?hd (cs := #[.int .i64 0, .int .i64 0]) (t := 25) ?hr ?_; (case hd => rfl); (case hg => rfl); (case hr => first | (go_simp; done) | (go_simp; rfl))
         intro gb398 hg w55 hbox hb
         have n0_ := Aside0.mk (blk_below (bq BK390.out) hb)
         have n1_ := Aside0.mk (blk_below (bq BK391.out) hb)
         have n2_ := Aside0.mk (blk_below (bq BK392.out) hb)
         have n3_ := Aside0.mk (below_step (wq HB.out) hb)
         have n4_ := Aside0.mk (hbox)
         have n5_ := Aside0.mk ((by rw [hg]; exact (below_size (wq HB.out)) : w.heap.size ≤ gb398))
         have n6_ := Aside0.mk ((by rw [hg]; exact (below_size (wq HB.out)) : w.heap.size ≤ gb398))
         have n7_ := Aside0.mk ((by rw [hg]; exact Nat.ne_of_lt (blk_lt (bq BK390.out)) : gb390 ≠ gb398))
         have n8_ := Aside0.mk ((by rw [hg]; exact Nat.ne_of_gt (blk_lt (bq BK390.out)) : gb398 ≠ gb390))
         have n9_ := Aside0.mk ((by rw [hg]; exact Nat.ne_of_lt (blk_lt (bq BK391.out)) : gb391 ≠ gb398))
         have n10_ := Aside0.mk ((by rw [hg]; exact Nat.ne_of_gt (blk_lt (bq BK391.out)) : gb398 ≠ gb391))
         have n11_ := Aside0.mk ((by rw [hg]; exact Nat.ne_of_lt (blk_lt (bq BK392.out)) : gb392 ≠ gb398))
         have n12_ := Aside0.mk ((by rw [hg]; exact Nat.ne_of_gt (blk_lt (bq BK392.out)) : gb398 ≠ gb392))
         clear BK390 BK391 BK392 HB; have BK390 := n0_; have BK391 := n1_; have BK392 := n2_; have HB := n3_; have BK398 := n4_; have GW398 := n5_; have GE398 := n6_; have NB390_398 := n7_; have NB398_390 := n8_; have NB391_398 := n9_; have NB398_391 := n10_; have NB392_398 := n11_; have NB398_392 := n12_; clear n0_ n1_ n2_ n3_ n4_ n5_ n6_ n7_ n8_ n9_ n10_ n11_ n12_ hb hbox hg
         refine hK.out _ _ ⟨(blk_cell BK390.out 0).trans rfl, (blk_cell BK390.out 1).trans rfl, (blk_cell BK390.out 2).trans rfl, (blk_cell BK390.out 3).trans rfl, (blk_cell BK390.out 4).trans rfl, (blk_cell BK390.out 5).trans rfl, (blk_cell BK391.out 0).trans rfl, (blk_cell BK391.out 1).trans rfl⟩ (fun hHeld => ?_)
         clear hK K
         refine norm_ (a' := ?_) ?_ ?_
         rotate_left
         ·
          show Act.put _ (some 6) _ = _
          simp only [apz, i64_w, i32_w]
          rfl
         exact norm_ (by simp only [putAll, apz]) (hCont (gb398) _ ⟨hHeld, (bq BK390.out), (bq BK391.out), (bq BK392.out), (bq BK398.out), GW398.out, GE398.out, NB390_398.out, NB398_390.out, NB391_398.out, NB398_391.out, NB392_398.out, NB398_392.out, (wq HB.out)⟩)
        ·
         skip
         refine box_step ?hg (N := 6) ?hd (cs := #[.int .i64 0, .int .i64 0]) (t := 25) ?hr ?_; (case hd => rfl); (case hg => rfl); (case hr => first | (go_simp; done) | (go_simp; rfl))
         intro gb398 hg w54 hbox hb
         have n0_ := Aside0.mk (blk_below (bq BK390.out) hb)
         have n1_ := Aside0.mk (blk_below (bq BK391.out) hb)
         have n2_ := Aside0.mk (blk_below (bq BK392.out) hb)
         have n3_ := Aside0.mk (below_step (wq HB.out) hb)
         have n4_ := Aside0.mk (hbox)
         have n5_ := Aside0.mk ((by rw [hg]; exact (below_size (wq HB.out)) : w.heap.size ≤ gb398))
         have n6_ := Aside0.mk ((by rw [hg]; exact (below_size (wq HB.out)) : w.heap.size ≤ gb398))
         have n7_ := Aside0.mk ((by rw [hg]; exact Nat.ne_of_lt (blk_lt (bq BK390.out)) : gb390 ≠ gb398))
         have n8_ := Aside0.mk ((by rw [hg]; exact Nat.ne_of_gt (blk_lt (bq BK390.out)) : gb398 ≠ gb390))
         have n9_ := Aside0.mk ((by rw [hg]; exact Nat.ne_of_lt (blk_lt (bq BK391.out)) : gb391 ≠ gb398))
         have n10_ := Aside0.mk ((by rw [hg]; exact Nat.ne_of_gt (blk_lt (bq BK391.out)) : gb398 ≠ gb391))
         have n11_ := Aside0.mk ((by rw [hg]; exact Nat.ne_of_lt (blk_lt (bq BK392.out)) : gb392 ≠ gb398))
         have n12_ := Aside0.mk ((by rw [hg]; exact Nat.ne_of_gt (blk_lt (bq BK392.out)) : gb398 ≠ gb392))
         clear BK390 BK391 BK392 HB; have BK390 := n0_; have BK391 := n1_; have BK392 := n2_; have HB := n3_; have BK398 := n4_; have GW398 := n5_; have GE398 := n6_; have NB390_398 := n7_; have NB398_390 := n8_; have NB391_398 := n9_; have NB398_391 := n10_; have NB392_398 := n11_; have NB398_392 := n12_; clear n0_ n1_ n2_ n3_ n4_ n5_ n6_ n7_ n8_ n9_ n10_ n11_ n12_ hb hbox hg
         refine hK.out _ _ ⟨(blk_cell BK390.out 0).trans rfl, (blk_cell BK390.out 1).trans rfl, (blk_cell BK390.out 2).trans rfl, (blk_cell BK390.out 3).trans rfl, (blk_cell BK390.out 4).trans rfl, (blk_cell BK390.out 5).trans rfl, (blk_cell BK391.out 0).trans rfl, (blk_cell BK391.out 1).trans rfl⟩ (fun hHeld => ?_)
         clear hK K
         refine norm_ (a' := ?_) ?_ ?_
         rotate_left
         ·
          show Act.put _ (some 6) _ = _
          simp only [apz, i64_w, i32_w]
          rfl
         refine one_ (i := 21) (N := some 44) #[true, true, true, true, true, true, true, true, true, true, true, true, true, true, true, true, true, true, true, true, true, true, false, true, false] rfl rfl (one_of HT_.out (by kernel_rfl)) (by decide) (fun K hK => ?_)
         refine goes_ Tryd.func22 (by kernel_rfl) rfl #[.int .i64 a0_1, .int .i64 a1_0, .int .i64 a0_3, .int .i64 a1_1, .int .i64 a0_5] (by rfl) rfl rfl (by (try simp only [List.map_toArray, List.map_cons, List.map_nil]); first | done | rfl | (simp only [List.length_drop, List.length_take]; rfl)) ?_
         with_reducible refine (pointillistref08_sum.calls kj2 a0_1 a1_0 a0_3 a1_1 a0_5 t397 _ A33.out).mono ?_
         rintro e w55 ⟨rfl, hb⟩
         refine ⟨_, rfl, ?_⟩
         have n0_ := Aside0.mk (blk_below (bq BK390.out) hb)
         have n1_ := Aside0.mk (blk_below (bq BK391.out) hb)
         have n2_ := Aside0.mk (blk_below (bq BK392.out) hb)
         have n3_ := Aside0.mk (blk_below (bq BK398.out) hb)
         have n4_ := Aside0.mk (below_step (wq HB.out) hb)
         clear BK390 BK391 BK392 BK398; clear HB; have BK390 := n0_; have BK391 := n1_; have BK392 := n2_; have BK398 := n3_; have HB := n4_; clear n0_ n1_ n2_ n3_ n4_
         (try clear hb)
         (try clear hb2)
         (try clear hk)
         (try clear hi)
         refine hK.out _ _ ⟨(blk_cell BK390.out 0).trans rfl, (blk_cell BK390.out 1).trans rfl, (blk_cell BK390.out 2).trans rfl, (blk_cell BK390.out 3).trans rfl, (blk_cell BK390.out 4).trans rfl, (blk_cell BK390.out 5).trans rfl, (blk_cell BK391.out 0).trans rfl, (blk_cell BK391.out 1).trans rfl⟩ (fun hHeld => ?_)
         clear hK K
         refine norm_ (a' := ?_) ?_ ?_
         rotate_left
         ·
          show Act.put _ (some 44) _ = _
          simp only [apz, i64_w, i32_w]
          rfl
         refine pure_ (i := 22) (N := some 45) (v := ?_) (a' := ?_) (bt 24 1) rfl rfl (any_of HT_.out (by kernel_rfl)) (fun _ _ _ h => h) (Or.inl ⟨by rfl, ?_⟩) ?_ ?_
         rotate_left; focus (intro w'; go_simp; with_reducible rfl)
         rotate_left; focus (simp only [apz, i64_w, i32_w]; rfl)
         exact norm_ (by simp only [putAll, apz]) (hCont (gb398) _ ⟨hHeld, (bq BK390.out), (bq BK391.out), (bq BK392.out), (bq BK398.out), GW398.out, GE398.out, NB390_398.out, NB398_390.out, NB391_398.out, NB398_391.out, NB392_398.out, NB398_392.out, (wq HB.out)⟩)
       ·
        skip
        refine box_step ?hg (N := 6) ?hd (cs := #[.int .i64 0, .int .i64 0]) (t := 25) ?hr ?_; (case hd => rfl); (case hg => rfl); (case hr => first | (go_simp; done) | (go_simp; rfl))
        intro gb398 hg w53 hbox hb
        have n0_ := Aside0.mk (blk_below (bq BK390.out) hb)
        have n1_ := Aside0.mk (blk_below (bq BK391.out) hb)
        have n2_ := Aside0.mk (blk_below (bq BK392.out) hb)
        have n3_ := Aside0.mk (below_step (wq HB.out) hb)
        have n4_ := Aside0.mk (hbox)
        have n5_ := Aside0.mk ((by rw [hg]; exact (below_size (wq HB.out)) : w.heap.size ≤ gb398))
        have n6_ := Aside0.mk ((by rw [hg]; exact (below_size (wq HB.out)) : w.heap.size ≤ gb398))
        have n7_ := Aside0.mk ((by rw [hg]; exact Nat.ne_of_lt (blk_lt (bq BK390.out)) : gb390 ≠ gb398))
        have n8_ := Aside0.mk ((by rw [hg]; exact Nat.ne_of_gt (blk_lt (bq BK390.out)) : gb398 ≠ gb390))
        have n9_ := Aside0.mk ((by rw [hg]; exact Nat.ne_of_lt (blk_lt (bq BK391.out)) : gb391 ≠ gb398))
        have n10_ := Aside0.mk ((by rw [hg]; exact Nat.ne_of_gt (blk_lt (bq BK391.out)) : gb398 ≠ gb391))
        have n11_ := Aside0.mk ((by rw [hg]; exact Nat.ne_of_lt (blk_lt (bq BK392.out)) : gb392 ≠ gb398))
        have n12_ := Aside0.mk ((by rw [hg]; exact Nat.ne_of_gt (blk_lt (bq BK392.out)) : gb398 ≠ gb392))
        clear BK390 BK391 BK392 HB; have BK390 := n0_; have BK391 := n1_; have BK392 := n2_; have HB := n3_; have BK398 := n4_; have GW398 := n5_; have GE398 := n6_; have NB390_398 := n7_; have NB398_390 := n8_; have NB391_398 := n9_; have NB398_391 := n10_; have NB392_398 := n11_; have NB398_392 := n12_; clear n0_ n1_ n2_ n3_ n4_ n5_ n6_ n7_ n8_ n9_ n10_ n11_ n12_ hb hbox hg
        refine hK.out _ _ ⟨(blk_cell BK390.out 0).trans rfl, (blk_cell BK390.out 1).trans rfl, (blk_cell BK390.out 2).trans rfl, (blk_cell BK390.out 3).trans rfl, (blk_cell BK390.out 4).trans rfl, (blk_cell BK390.out 5).trans rfl, (blk_cell BK391.out 0).trans rfl, (blk_cell BK391.out 1).trans rfl⟩ (fun hHeld => ?_)
        clear hK K
        refine norm_ (a' := ?_) ?_ ?_
        rotate_left
        ·
         show Act.put _ (some 6) _ = _
         simp only [apz, i64_w, i32_w]
         rfl
        refine one_ (i := 10) (N := some 33) #[true, true, true, true, true, true, true, true, true, true, true, true, true, true, true, true, true, true, true, true, true, false, false, true, false] rfl rfl (one_of HT_.out (by kernel_rfl)) (by decide) (fun K hK => ?_)
        refine goes_ Tryd.func22 (by kernel_rfl) rfl #[.int .i64 a0_0, .int .i64 a1_0, .int .i64 a0_2, .int .i64 a1_1, .int .i64 a0_4] (by rfl) rfl rfl (by (try simp only [List.map_toArray, List.map_cons, List.map_nil]); first | done | rfl | (simp only [List.length_drop, List.length_take]; rfl)) ?_
        with_reducible refine (pointillistref08_sum.calls kj2 a0_0 a1_0 a0_2 a1_1 a0_4 t396 _ A32.out).mono ?_
        rintro e w54 ⟨rfl, hb⟩
        refine ⟨_, rfl, ?_⟩
        have n0_ := Aside0.mk (blk_below (bq BK390.out) hb)
        have n1_ := Aside0.mk (blk_below (bq BK391.out) hb)
        have n2_ := Aside0.mk (blk_below (bq BK392.out) hb)
        have n3_ := Aside0.mk (blk_below (bq BK398.out) hb)
        have n4_ := Aside0.mk (below_step (wq HB.out) hb)
        clear BK390 BK391 BK392 BK398; clear HB; have BK390 := n0_; have BK391 := n1_; have BK392 := n2_; have BK398 := n3_; have HB := n4_; clear n0_ n1_ n2_ n3_ n4_
        (try clear hb)
        (try clear hb2)
        (try clear hk)
        (try clear hi)
        refine hK.out _ _ ⟨(blk_cell BK390.out 0).trans rfl, (blk_cell BK390.out 1).trans rfl, (blk_cell BK390.out 2).trans rfl, (blk_cell BK390.out 3).trans rfl, (blk_cell BK390.out 4).trans rfl, (blk_cell BK390.out 5).trans rfl, (blk_cell BK391.out 0).trans rfl, (blk_cell BK391.out 1).trans rfl⟩ (fun hHeld => ?_)
        clear hK K
        refine norm_ (a' := ?_) ?_ ?_
        rotate_left
        ·
         show Act.put _ (some 33) _ = _
         simp only [apz, i64_w, i32_w]
         rfl
        refine one_ (i := 21) (N := some 44) #[true, true, true, true, true, true, true, true, true, true, true, true, true, true, true, true, true, true, true, true, true, true, false, true, false] rfl rfl (one_of HT_.out (by kernel_rfl)) (by decide) (fun K hK => ?_)
        refine goes_ Tryd.func22 (by kernel_rfl) rfl #[.int .i64 a0_1, .int .i64 a1_0, .int .i64 a0_3, .int .i64 a1_1, .int .i64 a0_5] (by rfl) rfl rfl (by (try simp only [List.map_toArray, List.map_cons, List.map_nil]); first | done | rfl | (simp only [List.length_drop, List.length_take]; rfl)) ?_
        with_reducible refine (pointillistref08_sum.calls kj2 a0_1 a1_0 a0_3 a1_1 a0_5 t397 _ A33.out).mono ?_
        rintro e w55 ⟨rfl, hb⟩
        refine ⟨_, rfl, ?_⟩
        have n0_ := Aside0.mk (blk_below (bq BK390.out) hb)
        have n1_ := Aside0.mk (blk_below (bq BK391.out) hb)
        have n2_ := Aside0.mk (blk_below (bq BK392.out) hb)
        have n3_ := Aside0.mk (blk_below (bq BK398.out) hb)
        have n4_ := Aside0.mk (below_step (wq HB.out) hb)
        clear BK390 BK391 BK392 BK398; clear HB; have BK390 := n0_; have BK391 := n1_; have BK392 := n2_; have BK398 := n3_; have HB := n4_; clear n0_ n1_ n2_ n3_ n4_
        (try clear hb)
        (try clear hb2)
        (try clear hk)
        (try clear hi)
        refine hK.out _ _ ⟨(blk_cell BK390.out 0).trans rfl, (blk_cell BK390.out 1).trans rfl, (blk_cell BK390.out 2).trans rfl, (blk_cell BK390.out 3).trans rfl, (blk_cell BK390.out 4).trans rfl, (blk_cell BK390.out 5).trans rfl, (blk_cell BK391.out 0).trans rfl, (blk_cell BK391.out 1).trans rfl⟩ (fun hHeld => ?_)
        clear hK K
        refine norm_ (a' := ?_) ?_ ?_
        rotate_left
        ·
         show Act.put _ (some 44) _ = _
         simp only [apz, i64_w, i32_w]
         rfl
        refine pure_ (i := 22) (N := some 45) (v := ?_) (a' := ?_) (bt 24 1) rfl rfl (any_of HT_.out (by kernel_rfl)) (fun _ _ _ h => h) (Or.inl ⟨by rfl, ?_⟩) ?_ ?_
        rotate_left; focus (intro w'; go_simp; with_reducible rfl)
        rotate_left; focus (simp only [apz, i64_w, i32_w]; rfl)
        exact norm_ (by simp only [putAll, apz]) (hCont (gb398) _ ⟨hHeld, (bq BK390.out), (bq BK391.out), (bq BK392.out), (bq BK398.out), GW398.out, GE398.out, NB390_398.out, NB398_390.out, NB391_398.out, NB398_391.out, NB392_398.out, NB398_392.out, (wq HB.out)⟩)
      rintro gb398 w56 ⟨hS_, h0_, h1_, h2_, h3_, h4_, h5_, h6_, h7_, h8_, h9_, h10_, h11_, h12_⟩
      have n0_ : Aside0 (w56.heap[gb390]? = some (.cells #[.int .i64 a0_0, .int .i64 a0_1, .int .i64 a0_2, .int .i64 a0_3, .int .i64 a0_4, .int .i64 a0_5] 23 (0, 0))) := ⟨h0_⟩
      have n1_ : Aside0 (w56.heap[gb391]? = some (.cells #[.int .i64 a1_0, .int .i64 a1_1] 25 (0, 0))) := ⟨h1_⟩
      have n2_ : Aside0 (w56.heap[gb392]? = some (.cells #[.int .i64 0, .int .i64 0] 25 (0, 0))) := ⟨h2_⟩
      have n3_ : Aside0 (w56.heap[gb398]? = some (.cells #[.int .i64 0, .int .i64 0] 25 (0, 0))) := ⟨h3_⟩
      have n4_ : Aside0 (w.heap.size ≤ gb398) := ⟨h4_⟩
      have n5_ : Aside0 (w.heap.size ≤ gb398) := ⟨h5_⟩
      have n6_ : Aside0 (gb390 ≠ gb398) := ⟨h6_⟩
      have n7_ : Aside0 (gb398 ≠ gb390) := ⟨h7_⟩
      have n8_ : Aside0 (gb391 ≠ gb398) := ⟨h8_⟩
      have n9_ : Aside0 (gb398 ≠ gb391) := ⟨h9_⟩
      have n10_ : Aside0 (gb392 ≠ gb398) := ⟨h10_⟩
      have n11_ : Aside0 (gb398 ≠ gb392) := ⟨h11_⟩
      have n12_ : Aside0 (Below w.heap.size w w56) := ⟨h12_⟩
      clear BK390 BK391 BK392 HB; clear h0_ h1_ h2_ h3_ h4_ h5_ h6_ h7_ h8_ h9_ h10_ h11_ h12_; have BK390 := n0_; have BK391 := n1_; have BK392 := n2_; have BK398 := n3_; have GW398 := n4_; have GE398 := n5_; have NB390_398 := n6_; have NB398_390 := n7_; have NB391_398 := n8_; have NB398_391 := n9_; have NB392_398 := n10_; have NB398_392 := n11_; have HB := n12_; clear n0_ n1_ n2_ n3_ n4_ n5_ n6_ n7_ n8_ n9_ n10_ n11_ n12_
      have hHeld : w56.cell? ⟨gb390, 0, none⟩ = some (.int .i64 a0_0) ∧ w56.cell? ⟨gb390, 1, none⟩ = some (.int .i64 a0_1) ∧ w56.cell? ⟨gb390, 2, none⟩ = some (.int .i64 a0_2) ∧ w56.cell? ⟨gb390, 3, none⟩ = some (.int .i64 a0_3) ∧ w56.cell? ⟨gb390, 4, none⟩ = some (.int .i64 a0_4) ∧ w56.cell? ⟨gb390, 5, none⟩ = some (.int .i64 a0_5) ∧ w56.cell? ⟨gb391, 0, none⟩ = some (.int .i64 a1_0) ∧ w56.cell? ⟨gb391, 1, none⟩ = some (.int .i64 a1_1) := hS_
      refine norm_ (a' := ?_) ?_ ?_
      rotate_left
      ·
       simp only [putAll, apz]
       rfl
      refine one_ (i := 24) (N := none) (bt 25 0) rfl rfl (one_of HT_.out (by kernel_rfl)) (by decide) (fun K hK => ?_)
      have hs57 : w56.cell? ⟨gb398, 0, none⟩ = some (.int .i64 0) := (blk_cell BK398.out 0).trans rfl
      have hfs57 := blk_frozen BK398.out 0
      have hns57_0 := NB390_398.out
      have hns57_1 := NB391_398.out
      have hns57_2 := NB392_398.out
      have hms57_0 := NB398_390.out
      have hms57_1 := NB398_391.out
      have hms57_2 := NB398_392.out
      have hs58 : w56.cell? ⟨gb398, 1, none⟩ = some (.int .i64 0) := (blk_cell BK398.out 1).trans rfl
      have hfs58 := blk_frozen BK398.out 1
      have hns58_0 := NB390_398.out
      have hns58_1 := NB391_398.out
      have hns58_2 := NB392_398.out
      have hms58_0 := NB398_390.out
      have hms58_1 := NB398_391.out
      have hms58_2 := NB398_392.out
      refine skip_ (w1 := ?_) (by rfl) rfl ?_ ?_
      rotate_left
      ·
       go_simp
       rfl
      refine hK.out _ _ ⟨((cell_far (p := ⟨gb398, _, none⟩) NB390_398.out _).trans (((cell_far (p := ⟨gb398, _, none⟩) NB390_398.out _).trans (hHeld.1)))), ((cell_far (p := ⟨gb398, _, none⟩) NB390_398.out _).trans (((cell_far (p := ⟨gb398, _, none⟩) NB390_398.out _).trans (hHeld.2.1)))), ((cell_far (p := ⟨gb398, _, none⟩) NB390_398.out _).trans (((cell_far (p := ⟨gb398, _, none⟩) NB390_398.out _).trans (hHeld.2.2.1)))), ((cell_far (p := ⟨gb398, _, none⟩) NB390_398.out _).trans (((cell_far (p := ⟨gb398, _, none⟩) NB390_398.out _).trans (hHeld.2.2.2.1)))), ((cell_far (p := ⟨gb398, _, none⟩) NB390_398.out _).trans (((cell_far (p := ⟨gb398, _, none⟩) NB390_398.out _).trans (hHeld.2.2.2.2.1)))), ((cell_far (p := ⟨gb398, _, none⟩) NB390_398.out _).trans (((cell_far (p := ⟨gb398, _, none⟩) NB390_398.out _).trans (hHeld.2.2.2.2.2.1)))), ((cell_far (p := ⟨gb398, _, none⟩) NB391_398.out _).trans (((cell_far (p := ⟨gb398, _, none⟩) NB391_398.out _).trans (hHeld.2.2.2.2.2.2.1)))), ((cell_far (p := ⟨gb398, _, none⟩) NB391_398.out _).trans (((cell_far (p := ⟨gb398, _, none⟩) NB391_398.out _).trans (hHeld.2.2.2.2.2.2.2))))⟩ (fun hHeld => ?_)
      clear hK K
      refine done_ (done_of HT_.out (by kernel_rfl)) ?_
      have hnb59 := NB398_390.out
      have hnc59 := NB390_398.out
      have hnb60 := NB398_391.out
      have hnc60 := NB391_398.out
      have hnb61 := NB398_392.out
      have hnc61 := NB392_398.out
      have hcz62_0 : w56.cell? ⟨gb398, 0, none⟩ = some (.int .i64 0) := (blk_cell BK398.out 0).trans rfl
      have hcz62_1 : w56.cell? ⟨gb398, 1, none⟩ = some (.int .i64 0) := (blk_cell BK398.out 1).trans rfl
      have hfz62_0 := blk_frozen BK398.out 0
      have hfz62_1 := blk_frozen BK398.out 1
      try go_wp2_with (first | ((with_reducible refine gate_callee (f := 14) rfl ?_); refine goesL_ (some 48) rfl rfl Tryd.func14 (by kernel_rfl) rfl #[.int .i64 t396] rfl (by (try simp only [List.map_toArray, List.map_cons, List.map_nil]); first | done | rfl | (simp only [List.length_drop, List.length_take]; rfl)) ?_; (with_reducible refine (pointillistref08_In.calls t396 true _ A34.out).mono ?_); rintro e w' ⟨rfl, ⟨nd, rfl⟩⟩; refine ⟨_, rfl, ?_⟩) | (go_at_call 14; (with_reducible refine (pointillistref08_In.calls t397 false _ A36.out).mono ?_); rintro e w' ⟨rfl, ⟨nd, rfl⟩⟩; have hnb63 := NB392_390.out; have hnc63 := NB390_392.out; have hnb64 := NB392_391.out; have hnc64 := NB391_392.out; have hcz65_0 : w56.cell? ⟨gb392, 0, none⟩ = some (.int .i64 0) := (blk_cell BK392.out 0).trans rfl; have hcz65_1 : w56.cell? ⟨gb392, 1, none⟩ = some (.int .i64 0) := (blk_cell BK392.out 1).trans rfl; have hfz65_0 := blk_frozen BK392.out 0; have hfz65_1 := blk_frozen BK392.out 1))
      refine bodyPost_ret (results_ct rfl _ _ gb392 25 #[.int .i64 0, .int .i64 0] (0, 0) _ rfl (by refine bq ?_; refine blk_put (cs := #[.int .i64 0, .int .i64 0]) ?_ 1 _ rfl; refine bq ?_; refine blk_put (cs := #[.int .i64 0, .int .i64 0]) ?_ 0 _ rfl; refine bq ?_; refine blk_far ?_ NB392_398.out _; refine bq ?_; refine blk_far ?_ NB392_398.out _; refine bq ?_; exact BK392.out) Tryd.underlying25 rfl (by kernel_rfl)) rfl ?_
      exact ⟨by first | rfl | (simp [errW_none, errW_some] <;> rfl) | (simp [*, errW_none, errW_some] <;> rfl), by exact wq HB.out⟩
    ·
     replace c35 := Bool.eq_false_iff.mpr c35
     subst c35
     have H1 : (some (0, 0, 2)) = some (r1, r2, r3) := by rw [if_neg (show ¬ (false = true) by decide)] at H; exact H
     clear H
     have H := H1
     clear H1
     simp only [Option.some.injEq, Prod.mk.injEq] at H
     obtain ⟨rfl, rfl, rfl⟩ := H
     try go_wp2
     have n0_ := Aside0.mk (blk_drew BK390.out)
     have n1_ := Aside0.mk (blk_drew BK391.out)
     have n2_ := Aside0.mk (blk_drew BK392.out)
     have n3_ := Aside0.mk (below_drew1 HB.out)
     clear BK390 BK391 BK392 HB; have BK390 := n0_; have BK391 := n1_; have BK392 := n2_; have HB := n3_; clear n0_ n1_ n2_ n3_
     refine start_ (n := 25) (S := fun w' => w'.cell? ⟨gb390, 0, none⟩ = some (.int .i64 a0_0) ∧ w'.cell? ⟨gb390, 1, none⟩ = some (.int .i64 a0_1) ∧ w'.cell? ⟨gb390, 2, none⟩ = some (.int .i64 a0_2) ∧ w'.cell? ⟨gb390, 3, none⟩ = some (.int .i64 a0_3) ∧ w'.cell? ⟨gb390, 4, none⟩ = some (.int .i64 a0_4) ∧ w'.cell? ⟨gb390, 5, none⟩ = some (.int .i64 a0_5) ∧ w'.cell? ⟨gb391, 0, none⟩ = some (.int .i64 a1_0) ∧ w'.cell? ⟨gb391, 1, none⟩ = some (.int .i64 a1_1)) (ds := []) (bt 0 25) (by kernel_rfl) rfl rfl ⟨(blk_cell BK390.out 0).trans rfl, (blk_cell BK390.out 1).trans rfl, (blk_cell BK390.out 2).trans rfl, (blk_cell BK390.out 3).trans rfl, (blk_cell BK390.out 4).trans rfl, (blk_cell BK390.out 5).trans rfl, (blk_cell BK391.out 0).trans rfl, (blk_cell BK391.out 1).trans rfl⟩ (fun hHeld => ?_); refine with_tabW pointillistref08_Apply.tab3 pointillistref08_Apply.bits3 (fun HT_ HW_ => ?_)
     generalize wc.drew = w66 at BK390 BK391 BK392 HB hHeld ⊢
     refine pure_ (i := 0) (N := some 23) (v := ?_) (a' := ?_) (bt 1 24) rfl rfl (any_of HT_.out (by kernel_rfl)) (fun _ _ _ h => h) (Or.inl ⟨by rfl, ?_⟩) ?_ ?_
     rotate_left; focus (intro w'; go_simp; with_reducible rfl)
     rotate_left; focus (simp only [apz, i64_w, i32_w]; rfl)
     refine pure_ (i := 2) (N := some 25) (v := ?_) (a' := ?_) #[true, false, true, false, false, false, false, false, false, false, false, false, false, false, false, false, false, false, false, false, false, false, false, false, false] rfl rfl (any_of HT_.out (by kernel_rfl)) (fun _ _ _ h => h) (Or.inl ⟨by rfl, ?_⟩) ?_ ?_
     rotate_left; focus (intro w'; go_simp; with_reducible rfl)
     rotate_left; focus (simp only [apz, i64_w, i32_w]; rfl)
     refine pure_ (i := 4) (N := some 27) (v := ?_) (a' := ?_) #[true, false, true, false, true, false, false, false, false, false, false, false, false, false, false, false, false, false, false, false, false, false, false, false, false] rfl rfl (any_of HT_.out (by kernel_rfl)) (fun _ _ _ h => h) (Or.inl ⟨by rfl, ?_⟩) ?_ ?_
     rotate_left; focus (intro w'; go_simp; with_reducible rfl)
     rotate_left; focus (simp only [apz, i64_w, i32_w]; rfl)
     refine pure_ (i := 6) (N := some 29) (v := ?_) (a' := ?_) #[true, false, true, false, true, false, true, false, false, false, false, false, false, false, false, false, false, false, false, false, false, false, false, false, false] rfl rfl (any_of HT_.out (by kernel_rfl)) (fun _ _ _ h => h) (Or.inl ⟨by rfl, ?_⟩) ?_ ?_
     rotate_left; focus (intro w'; go_simp; with_reducible rfl)
     rotate_left; focus (simp only [apz, i64_w, i32_w]; rfl)
     refine pure_ (i := 8) (N := some 31) (v := ?_) (a' := ?_) #[true, false, true, false, true, false, true, false, true, false, false, false, false, false, false, false, false, false, false, false, false, false, false, false, false] rfl rfl (any_of HT_.out (by kernel_rfl)) (fun _ _ _ h => h) (Or.inl ⟨by rfl, ?_⟩) ?_ ?_
     rotate_left; focus (intro w'; go_simp; with_reducible rfl)
     rotate_left; focus (simp only [apz, i64_w, i32_w]; rfl)
     refine pure_ (i := 11) (N := some 34) (v := ?_) (a' := ?_) #[true, false, true, false, true, false, true, false, true, false, false, true, false, false, false, false, false, false, false, false, false, false, false, false, false] rfl rfl (any_of HT_.out (by kernel_rfl)) (fun _ _ _ h => h) (Or.inl ⟨by rfl, ?_⟩) ?_ ?_
     rotate_left; focus (intro w'; go_simp; with_reducible rfl)
     rotate_left; focus (simp only [apz, i64_w, i32_w]; rfl)
     refine pure_ (i := 13) (N := some 36) (v := ?_) (a' := ?_) #[true, false, true, false, true, false, true, false, true, false, false, true, false, true, false, false, false, false, false, false, false, false, false, false, false] rfl rfl (any_of HT_.out (by kernel_rfl)) (fun _ _ _ h => h) (Or.inl ⟨by rfl, ?_⟩) ?_ ?_
     rotate_left; focus (intro w'; go_simp; with_reducible rfl)
     rotate_left; focus (simp only [apz, i64_w, i32_w]; rfl)
     refine pure_ (i := 15) (N := some 38) (v := ?_) (a' := ?_) #[true, false, true, false, true, false, true, false, true, false, false, true, false, true, false, true, false, false, false, false, false, false, false, false, false] rfl rfl (any_of HT_.out (by kernel_rfl)) (fun _ _ _ h => h) (Or.inl ⟨by rfl, ?_⟩) ?_ ?_
     rotate_left; focus (intro w'; go_simp; with_reducible rfl)
     rotate_left; focus (simp only [apz, i64_w, i32_w]; rfl)
     refine pure_ (i := 17) (N := some 40) (v := ?_) (a' := ?_) #[true, false, true, false, true, false, true, false, true, false, false, true, false, true, false, true, false, true, false, false, false, false, false, false, false] rfl rfl (any_of HT_.out (by kernel_rfl)) (fun _ _ _ h => h) (Or.inl ⟨by rfl, ?_⟩) ?_ ?_
     rotate_left; focus (intro w'; go_simp; with_reducible rfl)
     rotate_left; focus (simp only [apz, i64_w, i32_w]; rfl)
     refine pure_ (i := 19) (N := some 42) (v := ?_) (a' := ?_) #[true, false, true, false, true, false, true, false, true, false, false, true, false, true, false, true, false, true, false, true, false, false, false, false, false] rfl rfl (any_of HT_.out (by kernel_rfl)) (fun _ _ _ h => h) (Or.inl ⟨by rfl, ?_⟩) ?_ ?_
     rotate_left; focus (intro w'; go_simp; with_reducible rfl)
     rotate_left; focus (simp only [apz, i64_w, i32_w]; rfl)
     refine take_ (i := 1) (N := some 24) (v := ?_) (a' := ?_) #[true, true, true, false, true, false, true, false, true, false, false, true, false, true, false, true, false, true, false, true, false, false, false, false, false] rfl rfl (take_ofW HT_.out HW_.out (by kernel_rfl)) (fun _ _ _ h => h) (Or.inl ⟨by rfl, ?_⟩) hHeld ?_ ?_
     rotate_left
     ·
      rintro w' ⟨s0, s1, s2, s3, s4, s5, s6, s7⟩
      go_simp
      with_reducible rfl
     rotate_left; focus (simp only [apz, i64_w, i32_w]; rfl)
     refine take_ (i := 3) (N := some 26) (v := ?_) (a' := ?_) #[true, true, true, true, true, false, true, false, true, false, false, true, false, true, false, true, false, true, false, true, false, false, false, false, false] rfl rfl (take_ofW HT_.out HW_.out (by kernel_rfl)) (fun _ _ _ h => h) (Or.inl ⟨by rfl, ?_⟩) hHeld ?_ ?_
     rotate_left
     ·
      rintro w' ⟨s0, s1, s2, s3, s4, s5, s6, s7⟩
      go_simp
      with_reducible rfl
     rotate_left; focus (simp only [apz, i64_w, i32_w]; rfl)
     refine take_ (i := 5) (N := some 28) (v := ?_) (a' := ?_) #[true, true, true, true, true, true, true, false, true, false, false, true, false, true, false, true, false, true, false, true, false, false, false, false, false] rfl rfl (take_ofW HT_.out HW_.out (by kernel_rfl)) (fun _ _ _ h => h) (Or.inl ⟨by rfl, ?_⟩) hHeld ?_ ?_
     rotate_left
     ·
      rintro w' ⟨s0, s1, s2, s3, s4, s5, s6, s7⟩
      go_simp
      with_reducible rfl
     rotate_left; focus (simp only [apz, i64_w, i32_w]; rfl)
     refine take_ (i := 7) (N := some 30) (v := ?_) (a' := ?_) #[true, true, true, true, true, true, true, true, true, false, false, true, false, true, false, true, false, true, false, true, false, false, false, false, false] rfl rfl (take_ofW HT_.out HW_.out (by kernel_rfl)) (fun _ _ _ h => h) (Or.inl ⟨by rfl, ?_⟩) hHeld ?_ ?_
     rotate_left
     ·
      rintro w' ⟨s0, s1, s2, s3, s4, s5, s6, s7⟩
      go_simp
      with_reducible rfl
     rotate_left; focus (simp only [apz, i64_w, i32_w]; rfl)
     refine take_ (i := 9) (N := some 32) (v := ?_) (a' := ?_) #[true, true, true, true, true, true, true, true, true, true, false, true, false, true, false, true, false, true, false, true, false, false, false, false, false] rfl rfl (take_ofW HT_.out HW_.out (by kernel_rfl)) (fun _ _ _ h => h) (Or.inl ⟨by rfl, ?_⟩) hHeld ?_ ?_
     rotate_left
     ·
      rintro w' ⟨s0, s1, s2, s3, s4, s5, s6, s7⟩
      go_simp
      with_reducible rfl
     rotate_left; focus (simp only [apz, i64_w, i32_w]; rfl)
     refine take_ (i := 12) (N := some 35) (v := ?_) (a' := ?_) #[true, true, true, true, true, true, true, true, true, true, false, true, true, true, false, true, false, true, false, true, false, false, false, false, false] rfl rfl (take_ofW HT_.out HW_.out (by kernel_rfl)) (fun _ _ _ h => h) (Or.inl ⟨by rfl, ?_⟩) hHeld ?_ ?_
     rotate_left
     ·
      rintro w' ⟨s0, s1, s2, s3, s4, s5, s6, s7⟩
      go_simp
      with_reducible rfl
     rotate_left; focus (simp only [apz, i64_w, i32_w]; rfl)
     refine take_ (i := 14) (N := some 37) (v := ?_) (a' := ?_) #[true, true, true, true, true, true, true, true, true, true, false, true, true, true, true, true, false, true, false, true, false, false, false, false, false] rfl rfl (take_ofW HT_.out HW_.out (by kernel_rfl)) (fun _ _ _ h => h) (Or.inl ⟨by rfl, ?_⟩) hHeld ?_ ?_
     rotate_left
     ·
      rintro w' ⟨s0, s1, s2, s3, s4, s5, s6, s7⟩
      go_simp
      with_reducible rfl
     rotate_left; focus (simp only [apz, i64_w, i32_w]; rfl)
     refine take_ (i := 16) (N := some 39) (v := ?_) (a' := ?_) #[true, true, true, true, true, true, true, true, true, true, false, true, true, true, true, true, true, true, false, true, false, false, false, false, false] rfl rfl (take_ofW HT_.out HW_.out (by kernel_rfl)) (fun _ _ _ h => h) (Or.inl ⟨by rfl, ?_⟩) hHeld ?_ ?_
     rotate_left
     ·
      rintro w' ⟨s0, s1, s2, s3, s4, s5, s6, s7⟩
      go_simp
      with_reducible rfl
     rotate_left; focus (simp only [apz, i64_w, i32_w]; rfl)
     refine take_ (i := 18) (N := some 41) (v := ?_) (a' := ?_) #[true, true, true, true, true, true, true, true, true, true, false, true, true, true, true, true, true, true, true, true, false, false, false, false, false] rfl rfl (take_ofW HT_.out HW_.out (by kernel_rfl)) (fun _ _ _ h => h) (Or.inl ⟨by rfl, ?_⟩) hHeld ?_ ?_
     rotate_left
     ·
      rintro w' ⟨s0, s1, s2, s3, s4, s5, s6, s7⟩
      go_simp
      with_reducible rfl
     rotate_left; focus (simp only [apz, i64_w, i32_w]; rfl)
     refine take_ (i := 20) (N := some 43) (v := ?_) (a' := ?_) #[true, true, true, true, true, true, true, true, true, true, false, true, true, true, true, true, true, true, true, true, true, false, false, false, false] rfl rfl (take_ofW HT_.out HW_.out (by kernel_rfl)) (fun _ _ _ h => h) (Or.inl ⟨by rfl, ?_⟩) hHeld ?_ ?_
     rotate_left
     ·
      rintro w' ⟨s0, s1, s2, s3, s4, s5, s6, s7⟩
      go_simp
      with_reducible rfl
     rotate_left; focus (simp only [apz, i64_w, i32_w]; rfl)
     refine join_ (σ := Nat) 1 (bt 24 1) (fun s_ => [(33, .int .i64 t396), (44, .int .i64 t397), (6, .pointer (some ⟨s_, 0, none⟩)), (45, .agg #[.int .i64 t396, .int .i64 t397])]) (fun s_ w' => (w'.cell? ⟨gb390, 0, none⟩ = some (.int .i64 a0_0) ∧ w'.cell? ⟨gb390, 1, none⟩ = some (.int .i64 a0_1) ∧ w'.cell? ⟨gb390, 2, none⟩ = some (.int .i64 a0_2) ∧ w'.cell? ⟨gb390, 3, none⟩ = some (.int .i64 a0_3) ∧ w'.cell? ⟨gb390, 4, none⟩ = some (.int .i64 a0_4) ∧ w'.cell? ⟨gb390, 5, none⟩ = some (.int .i64 a0_5) ∧ w'.cell? ⟨gb391, 0, none⟩ = some (.int .i64 a1_0) ∧ w'.cell? ⟨gb391, 1, none⟩ = some (.int .i64 a1_1)) ∧ (w'.heap[gb390]? = some (.cells #[.int .i64 a0_0, .int .i64 a0_1, .int .i64 a0_2, .int .i64 a0_3, .int .i64 a0_4, .int .i64 a0_5] 23 (0, 0))) ∧ (w'.heap[gb391]? = some (.cells #[.int .i64 a1_0, .int .i64 a1_1] 25 (0, 0))) ∧ (w'.heap[gb392]? = some (.cells #[.int .i64 0, .int .i64 0] 25 (0, 0))) ∧ (w'.heap[s_]? = some (.cells #[.int .i64 0, .int .i64 0] 25 (0, 0))) ∧ (w.heap.size ≤ s_) ∧ (w.heap.size ≤ s_) ∧ (gb390 ≠ s_) ∧ (s_ ≠ gb390) ∧ (gb391 ≠ s_) ∧ (s_ ≠ gb391) ∧ (gb392 ≠ s_) ∧ (s_ ≠ gb392) ∧ (Below w.heap.size w w')) ?_ ?_
     rotate_left
     ·
      intro hCont
      refine two_ (i := 10) (j := 23) (Ni := some 33) (Nj := some 6) (bt 21 4) #[true, true, true, true, true, true, true, true, true, true, false, true, true, true, true, true, true, true, true, true, true, false, false, true, false] rfl rfl rfl rfl (two_of HT_.out (by kernel_rfl)) (by decide) (by decide) (fun K hK => ?_) (fun K hK => ?_)
      ·
       skip
       refine goes_ Tryd.func22 (by kernel_rfl) rfl #[.int .i64 a0_0, .int .i64 a1_0, .int .i64 a0_2, .int .i64 a1_1, .int .i64 a0_4] (by rfl) rfl rfl (by (try simp only [List.map_toArray, List.map_cons, List.map_nil]); first | done | rfl | (simp only [List.length_drop, List.length_take]; rfl)) ?_
       with_reducible refine (pointillistref08_sum.calls kj2 a0_0 a1_0 a0_2 a1_1 a0_4 t396 _ A32.out).mono ?_
       rintro e w67 ⟨rfl, hb⟩
       refine ⟨_, rfl, ?_⟩
       have n0_ := Aside0.mk (blk_below (bq BK390.out) hb)
       have n1_ := Aside0.mk (blk_below (bq BK391.out) hb)
       have n2_ := Aside0.mk (blk_below (bq BK392.out) hb)
       have n3_ := Aside0.mk (below_step (wq HB.out) hb)
       clear BK390 BK391 BK392 HB; have BK390 := n0_; have BK391 := n1_; have BK392 := n2_; have HB := n3_; clear n0_ n1_ n2_ n3_
       (try clear hb)
       (try clear hb2)
       (try clear hk)
       (try clear hi)
       refine hK.out _ _ ⟨(blk_cell BK390.out 0).trans rfl, (blk_cell BK390.out 1).trans rfl, (blk_cell BK390.out 2).trans rfl, (blk_cell BK390.out 3).trans rfl, (blk_cell BK390.out 4).trans rfl, (blk_cell BK390.out 5).trans rfl, (blk_cell BK391.out 0).trans rfl, (blk_cell BK391.out 1).trans rfl⟩ (fun hHeld => ?_)
       clear hK K
       refine norm_ (a' := ?_) ?_ ?_
       rotate_left
       ·
        show Act.put _ (some 33) _ = _
        simp only [apz, i64_w, i32_w]
        rfl
       refine two_ (i := 21) (j := 23) (Ni := some 44) (Nj := some 6) (bt 22 3) #[true, true, true, true, true, true, true, true, true, true, true, true, true, true, true, true, true, true, true, true, true, false, false, true, false] rfl rfl rfl rfl (two_of HT_.out (by kernel_rfl)) (by decide) (by decide) (fun K hK => ?_) (fun K hK => ?_)
       ·
        skip
        refine goes_ Tryd.func22 (by kernel_rfl) rfl #[.int .i64 a0_1, .int .i64 a1_0, .int .i64 a0_3, .int .i64 a1_1, .int .i64 a0_5] (by rfl) rfl rfl (by (try simp only [List.map_toArray, List.map_cons, List.map_nil]); first | done | rfl | (simp only [List.length_drop, List.length_take]; rfl)) ?_
        with_reducible refine (pointillistref08_sum.calls kj2 a0_1 a1_0 a0_3 a1_1 a0_5 t397 _ A33.out).mono ?_
        rintro e w68 ⟨rfl, hb⟩
        refine ⟨_, rfl, ?_⟩
        have n0_ := Aside0.mk (blk_below (bq BK390.out) hb)
        have n1_ := Aside0.mk (blk_below (bq BK391.out) hb)
        have n2_ := Aside0.mk (blk_below (bq BK392.out) hb)
        have n3_ := Aside0.mk (below_step (wq HB.out) hb)
        clear BK390 BK391 BK392 HB; have BK390 := n0_; have BK391 := n1_; have BK392 := n2_; have HB := n3_; clear n0_ n1_ n2_ n3_
        (try clear hb)
        (try clear hb2)
        (try clear hk)
        (try clear hi)
        refine hK.out _ _ ⟨(blk_cell BK390.out 0).trans rfl, (blk_cell BK390.out 1).trans rfl, (blk_cell BK390.out 2).trans rfl, (blk_cell BK390.out 3).trans rfl, (blk_cell BK390.out 4).trans rfl, (blk_cell BK390.out 5).trans rfl, (blk_cell BK391.out 0).trans rfl, (blk_cell BK391.out 1).trans rfl⟩ (fun hHeld => ?_)
        clear hK K
        refine norm_ (a' := ?_) ?_ ?_
        rotate_left
        ·
         show Act.put _ (some 44) _ = _
         simp only [apz, i64_w, i32_w]
         rfl
        refine pure_ (i := 22) (N := some 45) (v := ?_) (a' := ?_) (bt 23 2) rfl rfl (any_of HT_.out (by kernel_rfl)) (fun _ _ _ h => h) (Or.inl ⟨by rfl, ?_⟩) ?_ ?_
        rotate_left; focus (intro w'; go_simp; with_reducible rfl)
        rotate_left; focus (simp only [apz, i64_w, i32_w]; rfl)
        refine one_ (i := 23) (N := some 6) (bt 24 1) rfl rfl (one_of HT_.out (by kernel_rfl)) (by decide) (fun K hK => ?_)
        refine box_step ?hg (N := 6) ?hd (cs := #[.int .i64 0, .int .i64 0]) (t := 25) ?hr ?_; (case hd => rfl); (case hg => rfl); (case hr => first | (go_simp; done) | (go_simp; rfl))
        intro gb398 hg w69 hbox hb
        have n0_ := Aside0.mk (blk_below (bq BK390.out) hb)
        have n1_ := Aside0.mk (blk_below (bq BK391.out) hb)
        have n2_ := Aside0.mk (blk_below (bq BK392.out) hb)
        have n3_ := Aside0.mk (below_step (wq HB.out) hb)
        have n4_ := Aside0.mk (hbox)
        have n5_ := Aside0.mk ((by rw [hg]; exact (below_size (wq HB.out)) : w.heap.size ≤ gb398))
        have n6_ := Aside0.mk ((by rw [hg]; exact (below_size (wq HB.out)) : w.heap.size ≤ gb398))
        have n7_ := Aside0.mk ((by rw [hg]; exact Nat.ne_of_lt (blk_lt (bq BK390.out)) : gb390 ≠ gb398))
        have n8_ := Aside0.mk ((by rw [hg]; exact Nat.ne_of_gt (blk_lt (bq BK390.out)) : gb398 ≠ gb390))
        have n9_ := Aside0.mk ((by rw [hg]; exact Nat.ne_of_lt (blk_lt (bq BK391.out)) : gb391 ≠ gb398))
        have n10_ := Aside0.mk ((by rw [hg]; exact Nat.ne_of_gt (blk_lt (bq BK391.out)) : gb398 ≠ gb391))
        have n11_ := Aside0.mk ((by rw [hg]; exact Nat.ne_of_lt (blk_lt (bq BK392.out)) : gb392 ≠ gb398))
        have n12_ := Aside0.mk ((by rw [hg]; exact Nat.ne_of_gt (blk_lt (bq BK392.out)) : gb398 ≠ gb392))
        clear BK390 BK391 BK392 HB; have BK390 := n0_; have BK391 := n1_; have BK392 := n2_; have HB := n3_; have BK398 := n4_; have GW398 := n5_; have GE398 := n6_; have NB390_398 := n7_; have NB398_390 := n8_; have NB391_398 := n9_; have NB398_391 := n10_; have NB392_398 := n11_; have NB398_392 := n12_; clear n0_ n1_ n2_ n3_ n4_ n5_ n6_ n7_ n8_ n9_ n10_ n11_ n12_ hb hbox hg
        refine hK.out _ _ ⟨(blk_cell BK390.out 0).trans rfl, (blk_cell BK390.out 1).trans rfl, (blk_cell BK390.out 2).trans rfl, (blk_cell BK390.out 3).trans rfl, (blk_cell BK390.out 4).trans rfl, (blk_cell BK390.out 5).trans rfl, (blk_cell BK391.out 0).trans rfl, (blk_cell BK391.out 1).trans rfl⟩ (fun hHeld => ?_)
        clear hK K
        refine norm_ (a' := ?_) ?_ ?_
        rotate_left
        ·
         show Act.put _ (some 6) _ = _
         simp only [apz, i64_w, i32_w]
         rfl
        exact norm_ (by simp only [putAll, apz]) (hCont (gb398) _ ⟨hHeld, (bq BK390.out), (bq BK391.out), (bq BK392.out), (bq BK398.out), GW398.out, GE398.out, NB390_398.out, NB398_390.out, NB391_398.out, NB398_391.out, NB392_398.out, NB398_392.out, (wq HB.out)⟩)
       ·
        skip
        refine box_step ?hg (N := 6) ?hd (cs := #[.int .i64 0, .int .i64 0]) (t := 25) ?hr ?_; (case hd => rfl); (case hg => rfl); (case hr => first | (go_simp; done) | (go_simp; rfl))
        intro gb398 hg w68 hbox hb
        have n0_ := Aside0.mk (blk_below (bq BK390.out) hb)
        have n1_ := Aside0.mk (blk_below (bq BK391.out) hb)
        have n2_ := Aside0.mk (blk_below (bq BK392.out) hb)
        have n3_ := Aside0.mk (below_step (wq HB.out) hb)
        have n4_ := Aside0.mk (hbox)
        have n5_ := Aside0.mk ((by rw [hg]; exact (below_size (wq HB.out)) : w.heap.size ≤ gb398))
        have n6_ := Aside0.mk ((by rw [hg]; exact (below_size (wq HB.out)) : w.heap.size ≤ gb398))
        have n7_ := Aside0.mk ((by rw [hg]; exact Nat.ne_of_lt (blk_lt (bq BK390.out)) : gb390 ≠ gb398))
        have n8_ := Aside0.mk ((by rw [hg]; exact Nat.ne_of_gt (blk_lt (bq BK390.out)) : gb398 ≠ gb390))
        have n9_ := Aside0.mk ((by rw [hg]; exact Nat.ne_of_lt (blk_lt (bq BK391.out)) : gb391 ≠ gb398))
        have n10_ := Aside0.mk ((by rw [hg]; exact Nat.ne_of_gt (blk_lt (bq BK391.out)) : gb398 ≠ gb391))
        have n11_ := Aside0.mk ((by rw [hg]; exact Nat.ne_of_lt (blk_lt (bq BK392.out)) : gb392 ≠ gb398))
        have n12_ := Aside0.mk ((by rw [hg]; exact Nat.ne_of_gt (blk_lt (bq BK392.out)) : gb398 ≠ gb392))
        clear BK390 BK391 BK392 HB; have BK390 := n0_; have BK391 := n1_; have BK392 := n2_; have HB := n3_; have BK398 := n4_; have GW398 := n5_; have GE398 := n6_; have NB390_398 := n7_; have NB398_390 := n8_; have NB391_398 := n9_; have NB398_391 := n10_; have NB392_398 := n11_; have NB398_392 := n12_; clear n0_ n1_ n2_ n3_ n4_ n5_ n6_ n7_ n8_ n9_ n10_ n11_ n12_ hb hbox hg
        refine hK.out _ _ ⟨(blk_cell BK390.out 0).trans rfl, (blk_cell BK390.out 1).trans rfl, (blk_cell BK390.out 2).trans rfl, (blk_cell BK390.out 3).trans rfl, (blk_cell BK390.out 4).trans rfl, (blk_cell BK390.out 5).trans rfl, (blk_cell BK391.out 0).trans rfl, (blk_cell BK391.out 1).trans rfl⟩ (fun hHeld => ?_)
        clear hK K
        refine norm_ (a' := ?_) ?_ ?_
        rotate_left
        ·
         show Act.put _ (some 6) _ = _
         simp only [apz, i64_w, i32_w]
         rfl
        refine one_ (i := 21) (N := some 44) #[true, true, true, true, true, true, true, true, true, true, true, true, true, true, true, true, true, true, true, true, true, true, false, true, false] rfl rfl (one_of HT_.out (by kernel_rfl)) (by decide) (fun K hK => ?_)
        refine goes_ Tryd.func22 (by kernel_rfl) rfl #[.int .i64 a0_1, .int .i64 a1_0, .int .i64 a0_3, .int .i64 a1_1, .int .i64 a0_5] (by rfl) rfl rfl (by (try simp only [List.map_toArray, List.map_cons, List.map_nil]); first | done | rfl | (simp only [List.length_drop, List.length_take]; rfl)) ?_
        with_reducible refine (pointillistref08_sum.calls kj2 a0_1 a1_0 a0_3 a1_1 a0_5 t397 _ A33.out).mono ?_
        rintro e w69 ⟨rfl, hb⟩
        refine ⟨_, rfl, ?_⟩
        have n0_ := Aside0.mk (blk_below (bq BK390.out) hb)
        have n1_ := Aside0.mk (blk_below (bq BK391.out) hb)
        have n2_ := Aside0.mk (blk_below (bq BK392.out) hb)
        have n3_ := Aside0.mk (blk_below (bq BK398.out) hb)
        have n4_ := Aside0.mk (below_step (wq HB.out) hb)
        clear BK390 BK391 BK392 BK398; clear HB; have BK390 := n0_; have BK391 := n1_; have BK392 := n2_; have BK398 := n3_; have HB := n4_; clear n0_ n1_ n2_ n3_ n4_
        (try clear hb)
        (try clear hb2)
        (try clear hk)
        (try clear hi)
        refine hK.out _ _ ⟨(blk_cell BK390.out 0).trans rfl, (blk_cell BK390.out 1).trans rfl, (blk_cell BK390.out 2).trans rfl, (blk_cell BK390.out 3).trans rfl, (blk_cell BK390.out 4).trans rfl, (blk_cell BK390.out 5).trans rfl, (blk_cell BK391.out 0).trans rfl, (blk_cell BK391.out 1).trans rfl⟩ (fun hHeld => ?_)
        clear hK K
        refine norm_ (a' := ?_) ?_ ?_
        rotate_left
        ·
         show Act.put _ (some 44) _ = _
         simp only [apz, i64_w, i32_w]
         rfl
        refine pure_ (i := 22) (N := some 45) (v := ?_) (a' := ?_) (bt 24 1) rfl rfl (any_of HT_.out (by kernel_rfl)) (fun _ _ _ h => h) (Or.inl ⟨by rfl, ?_⟩) ?_ ?_
        rotate_left; focus (intro w'; go_simp; with_reducible rfl)
        rotate_left; focus (simp only [apz, i64_w, i32_w]; rfl)
        exact norm_ (by simp only [putAll, apz]) (hCont (gb398) _ ⟨hHeld, (bq BK390.out), (bq BK391.out), (bq BK392.out), (bq BK398.out), GW398.out, GE398.out, NB390_398.out, NB398_390.out, NB391_398.out, NB398_391.out, NB392_398.out, NB398_392.out, (wq HB.out)⟩)
      ·
       skip
       refine box_step ?hg (N := 6) ?hd (cs := #[.int .i64 0, .int .i64 0]) (t := 25) ?hr ?_; (case hd => rfl); (case hg => rfl); (case hr => first | (go_simp; done) | (go_simp; rfl))
       intro gb398 hg w67 hbox hb
       have n0_ := Aside0.mk (blk_below (bq BK390.out) hb)
       have n1_ := Aside0.mk (blk_below (bq BK391.out) hb)
       have n2_ := Aside0.mk (blk_below (bq BK392.out) hb)
       have n3_ := Aside0.mk (below_step (wq HB.out) hb)
       have n4_ := Aside0.mk (hbox)
       have n5_ := Aside0.mk ((by rw [hg]; exact (below_size (wq HB.out)) : w.heap.size ≤ gb398))
       have n6_ := Aside0.mk ((by rw [hg]; exact (below_size (wq HB.out)) : w.heap.size ≤ gb398))
       have n7_ := Aside0.mk ((by rw [hg]; exact Nat.ne_of_lt (blk_lt (bq BK390.out)) : gb390 ≠ gb398))
       have n8_ := Aside0.mk ((by rw [hg]; exact Nat.ne_of_gt (blk_lt (bq BK390.out)) : gb398 ≠ gb390))
       have n9_ := Aside0.mk ((by rw [hg]; exact Nat.ne_of_lt (blk_lt (bq BK391.out)) : gb391 ≠ gb398))
       have n10_ := Aside0.mk ((by rw [hg]; exact Nat.ne_of_gt (blk_lt (bq BK391.out)) : gb398 ≠ gb391))
       have n11_ := Aside0.mk ((by rw [hg]; exact Nat.ne_of_lt (blk_lt (bq BK392.out)) : gb392 ≠ gb398))
       have n12_ := Aside0.mk ((by rw [hg]; exact Nat.ne_of_gt (blk_lt (bq BK392.out)) : gb398 ≠ gb392))
       clear BK390 BK391 BK392 HB; have BK390 := n0_; have BK391 := n1_; have BK392 := n2_; have HB := n3_; have BK398 := n4_; have GW398 := n5_; have GE398 := n6_; have NB390_398 := n7_; have NB398_390 := n8_; have NB391_398 := n9_; have NB398_391 := n10_; have NB392_398 := n11_; have NB398_392 := n12_; clear n0_ n1_ n2_ n3_ n4_ n5_ n6_ n7_ n8_ n9_ n10_ n11_ n12_ hb hbox hg
       refine hK.out _ _ ⟨(blk_cell BK390.out 0).trans rfl, (blk_cell BK390.out 1).trans rfl, (blk_cell BK390.out 2).trans rfl, (blk_cell BK390.out 3).trans rfl, (blk_cell BK390.out 4).trans rfl, (blk_cell BK390.out 5).trans rfl, (blk_cell BK391.out 0).trans rfl, (blk_cell BK391.out 1).trans rfl⟩ (fun hHeld => ?_)
       clear hK K
       refine norm_ (a' := ?_) ?_ ?_
       rotate_left
       ·
        show Act.put _ (some 6) _ = _
        simp only [apz, i64_w, i32_w]
        rfl
       refine one_ (i := 10) (N := some 33) #[true, true, true, true, true, true, true, true, true, true, true, true, true, true, true, true, true, true, true, true, true, false, false, true, false] rfl rfl (one_of HT_.out (by kernel_rfl)) (by decide) (fun K hK => ?_)
       refine goes_ Tryd.func22 (by kernel_rfl) rfl #[.int .i64 a0_0, .int .i64 a1_0, .int .i64 a0_2, .int .i64 a1_1, .int .i64 a0_4] (by rfl) rfl rfl (by (try simp only [List.map_toArray, List.map_cons, List.map_nil]); first | done | rfl | (simp only [List.length_drop, List.length_take]; rfl)) ?_
       with_reducible refine (pointillistref08_sum.calls kj2 a0_0 a1_0 a0_2 a1_1 a0_4 t396 _ A32.out).mono ?_
       rintro e w68 ⟨rfl, hb⟩
       refine ⟨_, rfl, ?_⟩
       have n0_ := Aside0.mk (blk_below (bq BK390.out) hb)
       have n1_ := Aside0.mk (blk_below (bq BK391.out) hb)
       have n2_ := Aside0.mk (blk_below (bq BK392.out) hb)
       have n3_ := Aside0.mk (blk_below (bq BK398.out) hb)
       have n4_ := Aside0.mk (below_step (wq HB.out) hb)
       clear BK390 BK391 BK392 BK398; clear HB; have BK390 := n0_; have BK391 := n1_; have BK392 := n2_; have BK398 := n3_; have HB := n4_; clear n0_ n1_ n2_ n3_ n4_
       (try clear hb)
       (try clear hb2)
       (try clear hk)
       (try clear hi)
       refine hK.out _ _ ⟨(blk_cell BK390.out 0).trans rfl, (blk_cell BK390.out 1).trans rfl, (blk_cell BK390.out 2).trans rfl, (blk_cell BK390.out 3).trans rfl, (blk_cell BK390.out 4).trans rfl, (blk_cell BK390.out 5).trans rfl, (blk_cell BK391.out 0).trans rfl, (blk_cell BK391.out 1).trans rfl⟩ (fun hHeld => ?_)
       clear hK K
       refine norm_ (a' := ?_) ?_ ?_
       rotate_left
       ·
        show Act.put _ (some 33) _ = _
        simp only [apz, i64_w, i32_w]
        rfl
       refine one_ (i := 21) (N := some 44) #[true, true, true, true, true, true, true, true, true, true, true, true, true, true, true, true, true, true, true, true, true, true, false, true, false] rfl rfl (one_of HT_.out (by kernel_rfl)) (by decide) (fun K hK => ?_)
       refine goes_ Tryd.func22 (by kernel_rfl) rfl #[.int .i64 a0_1, .int .i64 a1_0, .int .i64 a0_3, .int .i64 a1_1, .int .i64 a0_5] (by rfl) rfl rfl (by (try simp only [List.map_toArray, List.map_cons, List.map_nil]); first | done | rfl | (simp only [List.length_drop, List.length_take]; rfl)) ?_
       with_reducible refine (pointillistref08_sum.calls kj2 a0_1 a1_0 a0_3 a1_1 a0_5 t397 _ A33.out).mono ?_
       rintro e w69 ⟨rfl, hb⟩
       refine ⟨_, rfl, ?_⟩
       have n0_ := Aside0.mk (blk_below (bq BK390.out) hb)
       have n1_ := Aside0.mk (blk_below (bq BK391.out) hb)
       have n2_ := Aside0.mk (blk_below (bq BK392.out) hb)
       have n3_ := Aside0.mk (blk_below (bq BK398.out) hb)
       have n4_ := Aside0.mk (below_step (wq HB.out) hb)
       clear BK390 BK391 BK392 BK398; clear HB; have BK390 := n0_; have BK391 := n1_; have BK392 := n2_; have BK398 := n3_; have HB := n4_; clear n0_ n1_ n2_ n3_ n4_
       (try clear hb)
       (try clear hb2)
       (try clear hk)
       (try clear hi)
       refine hK.out _ _ ⟨(blk_cell BK390.out 0).trans rfl, (blk_cell BK390.out 1).trans rfl, (blk_cell BK390.out 2).trans rfl, (blk_cell BK390.out 3).trans rfl, (blk_cell BK390.out 4).trans rfl, (blk_cell BK390.out 5).trans rfl, (blk_cell BK391.out 0).trans rfl, (blk_cell BK391.out 1).trans rfl⟩ (fun hHeld => ?_)
       clear hK K
       refine norm_ (a' := ?_) ?_ ?_
       rotate_left
       ·
        show Act.put _ (some 44) _ = _
        simp only [apz, i64_w, i32_w]
        rfl
       refine pure_ (i := 22) (N := some 45) (v := ?_) (a' := ?_) (bt 24 1) rfl rfl (any_of HT_.out (by kernel_rfl)) (fun _ _ _ h => h) (Or.inl ⟨by rfl, ?_⟩) ?_ ?_
       rotate_left; focus (intro w'; go_simp; with_reducible rfl)
       rotate_left; focus (simp only [apz, i64_w, i32_w]; rfl)
       exact norm_ (by simp only [putAll, apz]) (hCont (gb398) _ ⟨hHeld, (bq BK390.out), (bq BK391.out), (bq BK392.out), (bq BK398.out), GW398.out, GE398.out, NB390_398.out, NB398_390.out, NB391_398.out, NB398_391.out, NB392_398.out, NB398_392.out, (wq HB.out)⟩)
     rintro gb398 w70 ⟨hS_, h0_, h1_, h2_, h3_, h4_, h5_, h6_, h7_, h8_, h9_, h10_, h11_, h12_⟩
     have n0_ : Aside0 (w70.heap[gb390]? = some (.cells #[.int .i64 a0_0, .int .i64 a0_1, .int .i64 a0_2, .int .i64 a0_3, .int .i64 a0_4, .int .i64 a0_5] 23 (0, 0))) := ⟨h0_⟩
     have n1_ : Aside0 (w70.heap[gb391]? = some (.cells #[.int .i64 a1_0, .int .i64 a1_1] 25 (0, 0))) := ⟨h1_⟩
     have n2_ : Aside0 (w70.heap[gb392]? = some (.cells #[.int .i64 0, .int .i64 0] 25 (0, 0))) := ⟨h2_⟩
     have n3_ : Aside0 (w70.heap[gb398]? = some (.cells #[.int .i64 0, .int .i64 0] 25 (0, 0))) := ⟨h3_⟩
     have n4_ : Aside0 (w.heap.size ≤ gb398) := ⟨h4_⟩
     have n5_ : Aside0 (w.heap.size ≤ gb398) := ⟨h5_⟩
     have n6_ : Aside0 (gb390 ≠ gb398) := ⟨h6_⟩
     have n7_ : Aside0 (gb398 ≠ gb390) := ⟨h7_⟩
     have n8_ : Aside0 (gb391 ≠ gb398) := ⟨h8_⟩
     have n9_ : Aside0 (gb398 ≠ gb391) := ⟨h9_⟩
     have n10_ : Aside0 (gb392 ≠ gb398) := ⟨h10_⟩
     have n11_ : Aside0 (gb398 ≠ gb392) := ⟨h11_⟩
     have n12_ : Aside0 (Below w.heap.size w w70) := ⟨h12_⟩
     clear BK390 BK391 BK392 HB; clear h0_ h1_ h2_ h3_ h4_ h5_ h6_ h7_ h8_ h9_ h10_ h11_ h12_; have BK390 := n0_; have BK391 := n1_; have BK392 := n2_; have BK398 := n3_; have GW398 := n4_; have GE398 := n5_; have NB390_398 := n6_; have NB398_390 := n7_; have NB391_398 := n8_; have NB398_391 := n9_; have NB392_398 := n10_; have NB398_392 := n11_; have HB := n12_; clear n0_ n1_ n2_ n3_ n4_ n5_ n6_ n7_ n8_ n9_ n10_ n11_ n12_
     have hHeld : w70.cell? ⟨gb390, 0, none⟩ = some (.int .i64 a0_0) ∧ w70.cell? ⟨gb390, 1, none⟩ = some (.int .i64 a0_1) ∧ w70.cell? ⟨gb390, 2, none⟩ = some (.int .i64 a0_2) ∧ w70.cell? ⟨gb390, 3, none⟩ = some (.int .i64 a0_3) ∧ w70.cell? ⟨gb390, 4, none⟩ = some (.int .i64 a0_4) ∧ w70.cell? ⟨gb390, 5, none⟩ = some (.int .i64 a0_5) ∧ w70.cell? ⟨gb391, 0, none⟩ = some (.int .i64 a1_0) ∧ w70.cell? ⟨gb391, 1, none⟩ = some (.int .i64 a1_1) := hS_
     refine norm_ (a' := ?_) ?_ ?_
     rotate_left
     ·
      simp only [putAll, apz]
      rfl
     refine one_ (i := 24) (N := none) (bt 25 0) rfl rfl (one_of HT_.out (by kernel_rfl)) (by decide) (fun K hK => ?_)
     have hs71 : w70.cell? ⟨gb398, 0, none⟩ = some (.int .i64 0) := (blk_cell BK398.out 0).trans rfl
     have hfs71 := blk_frozen BK398.out 0
     have hns71_0 := NB390_398.out
     have hns71_1 := NB391_398.out
     have hns71_2 := NB392_398.out
     have hms71_0 := NB398_390.out
     have hms71_1 := NB398_391.out
     have hms71_2 := NB398_392.out
     have hs72 : w70.cell? ⟨gb398, 1, none⟩ = some (.int .i64 0) := (blk_cell BK398.out 1).trans rfl
     have hfs72 := blk_frozen BK398.out 1
     have hns72_0 := NB390_398.out
     have hns72_1 := NB391_398.out
     have hns72_2 := NB392_398.out
     have hms72_0 := NB398_390.out
     have hms72_1 := NB398_391.out
     have hms72_2 := NB398_392.out
     refine skip_ (w1 := ?_) (by rfl) rfl ?_ ?_
     rotate_left
     ·
      go_simp
      rfl
     refine hK.out _ _ ⟨((cell_far (p := ⟨gb398, _, none⟩) NB390_398.out _).trans (((cell_far (p := ⟨gb398, _, none⟩) NB390_398.out _).trans (hHeld.1)))), ((cell_far (p := ⟨gb398, _, none⟩) NB390_398.out _).trans (((cell_far (p := ⟨gb398, _, none⟩) NB390_398.out _).trans (hHeld.2.1)))), ((cell_far (p := ⟨gb398, _, none⟩) NB390_398.out _).trans (((cell_far (p := ⟨gb398, _, none⟩) NB390_398.out _).trans (hHeld.2.2.1)))), ((cell_far (p := ⟨gb398, _, none⟩) NB390_398.out _).trans (((cell_far (p := ⟨gb398, _, none⟩) NB390_398.out _).trans (hHeld.2.2.2.1)))), ((cell_far (p := ⟨gb398, _, none⟩) NB390_398.out _).trans (((cell_far (p := ⟨gb398, _, none⟩) NB390_398.out _).trans (hHeld.2.2.2.2.1)))), ((cell_far (p := ⟨gb398, _, none⟩) NB390_398.out _).trans (((cell_far (p := ⟨gb398, _, none⟩) NB390_398.out _).trans (hHeld.2.2.2.2.2.1)))), ((cell_far (p := ⟨gb398, _, none⟩) NB391_398.out _).trans (((cell_far (p := ⟨gb398, _, none⟩) NB391_398.out _).trans (hHeld.2.2.2.2.2.2.1)))), ((cell_far (p := ⟨gb398, _, none⟩) NB391_398.out _).trans (((cell_far (p := ⟨gb398, _, none⟩) NB391_398.out _).trans (hHeld.2.2.2.2.2.2.2))))⟩ (fun hHeld => ?_)
     clear hK K
     refine done_ (done_of HT_.out (by kernel_rfl)) ?_
     have hnb73 := NB398_390.out
     have hnc73 := NB390_398.out
     have hnb74 := NB398_391.out
     have hnc74 := NB391_398.out
     have hnb75 := NB398_392.out
     have hnc75 := NB392_398.out
     have hcz76_0 : w70.cell? ⟨gb398, 0, none⟩ = some (.int .i64 0) := (blk_cell BK398.out 0).trans rfl
     have hcz76_1 : w70.cell? ⟨gb398, 1, none⟩ = some (.int .i64 0) := (blk_cell BK398.out 1).trans rfl
     have hfz76_0 := blk_frozen BK398.out 0
     have hfz76_1 := blk_frozen BK398.out 1
     try go_wp2_with (first | ((with_reducible refine gate_callee (f := 14) rfl ?_); refine goesL_ (some 48) rfl rfl Tryd.func14 (by kernel_rfl) rfl #[.int .i64 t396] rfl (by (try simp only [List.map_toArray, List.map_cons, List.map_nil]); first | done | rfl | (simp only [List.length_drop, List.length_take]; rfl)) ?_; (with_reducible refine (pointillistref08_In.calls t396 false _ A34.out).mono ?_); rintro e w' ⟨rfl, ⟨nd, rfl⟩⟩; refine ⟨_, rfl, ?_⟩; have hnb77 := NB392_390.out; have hnc77 := NB390_392.out; have hnb78 := NB392_391.out; have hnc78 := NB391_392.out; have hcz79_0 : w70.cell? ⟨gb392, 0, none⟩ = some (.int .i64 0) := (blk_cell BK392.out 0).trans rfl; have hcz79_1 : w70.cell? ⟨gb392, 1, none⟩ = some (.int .i64 0) := (blk_cell BK392.out 1).trans rfl; have hfz79_0 := blk_frozen BK392.out 0; have hfz79_1 := blk_frozen BK392.out 1))
     refine bodyPost_ret (results_ct rfl _ _ gb392 25 #[.int .i64 0, .int .i64 0] (0, 0) _ rfl (by refine bq ?_; refine blk_put (cs := #[.int .i64 0, .int .i64 0]) ?_ 1 _ rfl; refine bq ?_; refine blk_put (cs := #[.int .i64 0, .int .i64 0]) ?_ 0 _ rfl; refine bq ?_; refine blk_far ?_ NB392_398.out _; refine bq ?_; refine blk_far ?_ NB392_398.out _; refine bq ?_; exact BK392.out) Tryd.underlying25 rfl (by kernel_rfl)) rfl ?_
     exact ⟨by first | rfl | (simp [errW_none, errW_some] <;> rfl) | (simp [*, errW_none, errW_some] <;> rfl), by exact wq HB.out⟩
end Go.Proofs.YtbnjgaeeojcjbaaDoor.PR
namespace Go.Proofs.YtbnjgaeeojcjbaaDoor.PR
open Go.RowKit Go.Proofs.YtbnjgaeeojcjbaaDoorW.PrintWords Go.Proofs.YtbnjgaeeojcjbaaDoorW.PrintLast Go.Proofs.YtbnjgaeeojcjbaaDoorW.PrintMore
theorem refin_eq (a : Int) : pointillistref08_In.f a = some (decide (inZ a)) := by
  unfold pointillistref08_In.f
  by_cases h : a > -4294967296
  · rw [if_pos h]
    congr 1
    rw [Bool.eq_iff_iff, decide_eq_true_eq, decide_eq_true_eq]
    exact ⟨fun h2 => ⟨h, h2⟩, fun h2 => h2.2⟩
  · rw [if_neg h, decide_eq_false (fun h2 => h h2.1)]
theorem refright_eq (a0 a1 a2 a3 a4 a5 : Int) : pointillistref08_Right.f a0 a1 a2 a3 a4 a5 = some (decide (rightM a0 a1 a2 a3 a4 a5)) := by
  unfold pointillistref08_Right.f rightM
  rw [refin_eq, refin_eq, refin_eq, refin_eq, refin_eq, refin_eq]
  simp only [Option.bind_some]
  by_cases h0 : inZ a0
  · by_cases h1 : inZ a1
    · by_cases h2 : inZ a2
      · by_cases h3 : inZ a3
        · by_cases h4 : inZ a4
          · simp [h0, h1, h2, h3, h4]
          · simp [h0, h1, h2, h3, h4]
        · simp [h0, h1, h2, h3]
      · simp [h0, h1, h2]
    · simp [h0, h1]
  · simp [h0]
theorem refsum_ev {a x b y c : Int} (ha : inZ a) (hx : inZ x) (hb : inZ b) (hy : inZ y) (hc : inZ c) : Ev (fun k => pointillistref08_sum.f k a x b y c) (lin a x b y c) := by
  obtain ⟨h1, h2⟩ := lin_le ha hx hb hy hc
  have hd := refdot_ev a x b y 16 (by decide) (inZ_i64 ha) (inZ_i64 hx) (inZ_i64 hb) (inZ_i64 hy)
  have e1 : nearR (a * x + b * y) 16 = near (a * x + b * y) 16 := by
    rw [near16]
    unfold nearR
    have : ((2 ^ 16 : Nat) : Int) = 65536 := by decide
    rw [this]
    omega
  rw [e1, show fitR (near (a * x + b * y) 16) = (near (a * x + b * y) 16, true) from if_pos h1] at hd
  refine Ev.bind hd (f := fun _ bt => some (wrap64 (bt.1 + c))) ?_
  have : wrap64 (near (a * x + b * y) 16 + c) = lin a x b y c := w64' _ h2.1 h2.2
  rw [← this]
  exact Ev.now _
theorem refapply_ev (a0 a1 a2 a3 a4 a5 x y : Int) : Ev (fun k => pointillistref08_Apply.f k a0 a1 a2 a3 a4 a5 x y) (apply a0 a1 a2 a3 a4 a5 x y) := by
  have bad : Ev (fun k => pointillistref08_Apply.j0 k true a0 a1 a2 a3 a4 a5 x y) (0, 0, 1) := Ev.step (f := fun _ => some (0, 0, 1)) (fun k => by rw [pointillistref08_Apply.j0, if_pos rfl]) (Ev.now _)
  unfold pointillistref08_Apply.f apply
  rw [refright_eq, refin_eq, refin_eq]
  simp only [Option.bind_some]
  by_cases hr : rightM a0 a1 a2 a3 a4 a5
  · by_cases hx : inZ x
    · by_cases hy : inZ y
      · have hr' := hr
        obtain ⟨r0, r1, r2, r3, r4, r5⟩ := hr'
        rw [if_pos ⟨hr, hx, hy⟩]
        simp only [decide_eq_true hr, decide_eq_true hx, decide_eq_true hy, if_true, Bool.not_true]
        refine Ev.step (f := fun k => ((pointillistref08_sum.f k a0 x a2 y a4).bind fun t396 => ((pointillistref08_sum.f k a1 x a3 y a5).bind fun t397 => ((pointillistref08_In.f t396).bind fun t399 => (if t399 = true then ((pointillistref08_In.f t397).bind fun t400 => (if t400 = true then (some (t396, t397, 0)) else (some (0, 0, 2)))) else (some (0, 0, 2))))))) (fun k => by rw [pointillistref08_Apply.j0, if_neg (by decide)]) ?_
        refine Ev.bind (refsum_ev r0 hx r2 hy r4) (Ev.bind (refsum_ev r1 hx r3 hy r5) ?_)
        rw [refin_eq, refin_eq]
        simp only [Option.bind_some]
        by_cases h1 : inZ (lin a0 x a2 y a4)
        · by_cases h2 : inZ (lin a1 x a3 y a5)
          · simp only [h1, h2, decide_true, if_true, and_self]
            exact Ev.now _
          · simp only [h1, h2, decide_true, decide_false, if_true, and_false, Bool.false_eq_true, if_false]
            exact Ev.now _
        · simp only [h1, decide_false, false_and, Bool.false_eq_true, if_false]
          exact Ev.now _
      · rw [if_neg (fun h => hy h.2.2)]
        simp only [decide_eq_true hr, decide_eq_true hx, decide_eq_false hy, if_true, Bool.not_false]
        exact bad
    · rw [if_neg (fun h => hx h.2.1)]
      simp only [decide_eq_true hr, decide_eq_false hx, if_true, Bool.false_eq_true, if_false]
      exact bad
  · rw [if_neg (fun h => hr h.1)]
    simp only [decide_eq_false hr, Bool.false_eq_true, if_false]
    exact bad
end Go.Proofs.YtbnjgaeeojcjbaaDoor.PR
namespace Go.Proofs.YtbnjgaeeojcjbaaDoor.PR
open Go.RowKit Go.Proofs.YtbnjgaeeojcjbaaDoorW.PrintWords Go.Proofs.YtbnjgaeeojcjbaaDoorW.PrintLast Go.Proofs.YtbnjgaeeojcjbaaDoorW.PrintMore
attribute [local go_sem] max2_int min2_int max_two min_two max_three min_three max_four min_four
set_option linter.unusedVariables false
set_option linter.unusedSimpArgs false
attribute [local go_sem high] eqA25
end Go.Proofs.YtbnjgaeeojcjbaaDoor.PR
namespace Go.Proofs.YtbnjgaeeojcjbaaDoor.PR
open Go.RowKit
theorem lin_one (x y c : Int) : lin 65536 x 0 y c = x + c := by unfold lin; rw [near16]; omega
theorem lin_two (x y c : Int) : lin 0 x 65536 y c = y + c := by unfold lin; rw [near16]; omega
theorem wakes_true (k : Nat) : pointillistlaw08_wakes.f (k + 7) = some true := by
  unfold pointillistlaw08_wakes.f
  rw [apply_eq]
  have : apply 131072 0 0 196608 65536 0 65536 65536 = (196608, 196608, 0) := by decide
  rw [this]
  rfl
end Go.Proofs.YtbnjgaeeojcjbaaDoor.PR
namespace Go.Proofs.YtbnjgaeeojcjbaaDoor.PR
open Go.RowKit Go.Proofs.YtbnjgaeeojcjbaaDoorW.PrintWords Go.Proofs.YtbnjgaeeojcjbaaDoorW.PrintLast Go.Proofs.YtbnjgaeeojcjbaaDoorW.PrintMore
attribute [local go_sem] max2_int min2_int max_two min_two max_three min_three max_four min_four
set_option linter.unusedVariables false
set_option linter.unusedSimpArgs false
attribute [local go_sem high] eqA25
def pointillistlaw08_AffineApplies.f (k : Nat) (a0_0 : Int) (a0_1 : Int) (a0_2 : Int) (a0_3 : Int) (a0_4 : Int) (a0_5 : Int) (a1_0 : Int) (a1_1 : Int) : Option (Bool) := (pointillistlaw08_wakes.f k).bind fun t404 => (if t404 = true then ((affine_Apply.f k a0_0 a0_1 a0_2 a0_3 a0_4 a0_5 a1_0 a1_1).bind fun bt405 => ((pointillistref08_Apply.f k a0_0 a0_1 a0_2 a0_3 a0_4 a0_5 a1_0 a1_1).bind fun bt409 => ((affine_Same.f).bind fun bt413 => ((affine_Apply.f k bt413.1 bt413.2.1 bt413.2.2.1 bt413.2.2.2.1 bt413.2.2.2.2.1 bt413.2.2.2.2.2 a1_0 a1_1).bind fun bt419 => (if (bt405.1 == bt409.1 && (bt405.2.1 == bt409.2.1)) = true then (if bt405.2.2 = bt409.2.2 then ((affine_Right.f k a0_0 a0_1 a0_2 a0_3 a0_4 a0_5).bind fun t423 => ((pointillistref08_Right.f a0_0 a0_1 a0_2 a0_3 a0_4 a0_5).bind fun t424 => (if (t423 == t424) = true then (if bt419.2.2 = 0 then (if (bt419.1 == a1_0 && (bt419.2.1 == a1_1)) = true then ((pointillistref08_In.f a1_0).bind fun t425 => (if t425 = true then ((pointillistref08_In.f a1_1).bind fun t426 => (some ((bt419.2.2 == 0) == t426))) else (some ((bt419.2.2 == 0) == false)))) else (some false)) else ((pointillistref08_In.f a1_0).bind fun t427 => (if t427 = true then ((pointillistref08_In.f a1_1).bind fun t428 => (some ((bt419.2.2 == 0) == t428))) else (some ((bt419.2.2 == 0) == false))))) else (some false)))) else (some false)) else (some false)))))) else (some false))
theorem pointillistlaw08_AffineApplies.mono : ∀ a0 a1 a2 a3 a4 a5 a6 a7 k, LeO (pointillistlaw08_AffineApplies.f k a0 a1 a2 a3 a4 a5 a6 a7) (pointillistlaw08_AffineApplies.f (k + 1) a0 a1 a2 a3 a4 a5 a6 a7) := by
 intro a0 a1 a2 a3 a4 a5 a6 a7 k
 unfold pointillistlaw08_AffineApplies.f
 repeat' first
   | (with_reducible exact affine_Apply.mono _ _ _ _ _ _ _ _ _)
   | (with_reducible exact affine_Right.mono _ _ _ _ _ _ _)
   | (with_reducible exact pointillistlaw08_wakes.mono _)
   | (with_reducible exact pointillistref08_Apply.mono _ _ _ _ _ _ _ _ _)
   | (with_reducible exact LeO.refl _)
   | (with_reducible exact LeO.none _)
   | (with_reducible refine LeO.ite ?_ ?_)
   | (with_reducible refine LeO.bind ?_ (fun _ => ?_))
   | exact affine_Apply.mono _ _ _ _ _ _ _ _ _
   | exact affine_Right.mono _ _ _ _ _ _ _
   | exact pointillistlaw08_wakes.mono _
   | exact pointillistref08_Apply.mono _ _ _ _ _ _ _ _ _
   | exact LeO.none _
   | refine LeO.ite ?_ ?_
   | refine LeO.bind ?_ (fun _ => ?_)
def pointillistlaw08_AffineApplies.T5 : Bool × List (List Nat × List Nat) := (true, [([], []), ([], []), ([0, 1, 0], [0, 1]), ([2], [2]), ([3], [3]), ([3], [3]), ([], []), ([6, 4, 2, 0, 1, 2, 3, 4, 6], [4, 6]), ([5, 7, 0, 1, 2, 3, 4, 5, 6, 7], [5])])
def pointillistlaw08_AffineApplies.B5 : List Nat := [0, 0, 3, 7, 15, 15, 0, 95, 255]
theorem pointillistlaw08_AffineApplies.tab5 : rtab .any (opsOf Tryd.f3 5) = pointillistlaw08_AffineApplies.T5 := by kernel_rfl
theorem pointillistlaw08_AffineApplies.bits5 : waitsOk pointillistlaw08_AffineApplies.T5.2 pointillistlaw08_AffineApplies.B5 = true := by kernel_rfl
def pointillistlaw08_AffineApplies.T6 : Bool × List (List Nat × List Nat) := (true, [([], []), ([], []), ([0, 1], [0, 1]), ([2], [2]), ([3], [3]), ([3], [3]), ([4, 5, 3], [3, 4, 5]), ([3, 6], [3, 6]), ([7, 3], [7]), ([8], [8]), ([9, 8, 8], [8, 9]), ([8], [8]), ([11, 10, 8], [8, 11]), ([10, 12, 8], [8, 10, 12]), ([8, 13], [8, 13]), ([14, 12], [14]), ([15], [15]), ([16, 15], [15, 16]), ([17, 15, 15], [15, 17]), ([18], [18]), ([18], [18]), ([19, 20, 18], [18, 19, 20]), ([18, 21, 15], [15, 18, 21]), ([15, 22], [15, 22]), ([23, 18], [23]), ([24], [24]), ([25, 24], [24, 25]), ([24], [24]), ([27, 24], [24, 27]), ([28, 24, 24], [24, 28]), ([29, 29, 24], [24, 29]), ([30], [30]), ([31, 30], [30, 31]), ([32, 30, 30], [30, 32]), ([30, 33, 24], [24, 30, 33]), ([26, 34, 24], [24, 26, 34]), ([24, 35], [24, 35]), ([36, 33, 0, 1, 2, 3, 4, 5, 6, 7, 8, 9, 10, 11, 12, 13, 14, 15, 16, 17, 18, 19, 20, 21, 22, 23, 24, 25, 26, 27, 28, 29, 30, 31, 32, 33, 34, 35, 36], [36])])
def pointillistlaw08_AffineApplies.B6 : List Nat := [0, 0, 3, 7, 15, 15, 63, 127, 255, 511, 1023, 511, 4095, 8191, 16383, 32767, 65535, 131071, 262143, 524287, 524287, 2097151, 4194303, 8388607, 16777215, 33554431, 67108863, 33554431, 167772159, 436207615, 973078527, 2046820351, 4194303999, 8489271295, 17079205887, 34359738367, 68719476735, 137438953471]
theorem pointillistlaw08_AffineApplies.tab6 : rtab .any (opsOf Tryd.f3 6) = pointillistlaw08_AffineApplies.T6 := by kernel_rfl
theorem pointillistlaw08_AffineApplies.bits6 : waitsOk pointillistlaw08_AffineApplies.T6.2 pointillistlaw08_AffineApplies.B6 = true := by kernel_rfl
end Go.Proofs.YtbnjgaeeojcjbaaDoor.PR
