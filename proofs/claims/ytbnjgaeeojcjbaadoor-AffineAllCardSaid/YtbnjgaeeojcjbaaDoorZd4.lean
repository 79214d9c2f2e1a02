/- The row and the card of the law AffineAll: for every input it answers true, and each argument reads behind the call as before. The listed package-level variables read as the program's text lays them (tied by the given tie). -/
import Derived.ArgAppend
import Derived.Below
import Derived.BigQuiet
import Derived.ChangeOld
import Derived.Deep.AppendLies
import Derived.Deep.CutBlock
import Derived.Deep.DeepCutAuto
import Derived.Deep.Draws
import Derived.Deep.LoopGhost
import Derived.Deep.OwnRows
import Derived.Deep.QuietTactic
import Derived.Deep.RegionHeld3
import Derived.Deep.Slices
import Derived.KernelRfl
import Derived.LaidMore
import Derived.Laws.Bits64
import Derived.Laws.BitsAllLaws
import Derived.Laws.BitsLemmas
import Derived.Laws.BytesArg
import Derived.Laws.Externs
import Derived.Laws.IdiomCopy
import Derived.Laws.MakeOwn
import Derived.Laws.OwnMore
import Derived.Laws.Rows
import Derived.Laws.Slices
import Derived.Laws.StructEq
import Derived.Laws.World
import Derived.Lib.AppendStr
import Derived.Lib.ConvBytes
import Derived.Lib.Mul64
import Derived.Maps.AppendAt
import Derived.OpenShut
import Derived.OrdersHeld
import Derived.OwnWalk
import Derived.ProofKit
import Derived.RowKit
import Derived.RowKit3
import Derived.SevenTiedAt
import Derived.ShutString
import Derived.SizedLaws
import Derived.Stop.Joined
import Derived.Tactics
import Derived.WalkKit
import Derived.WalkLawsBesides
import Derived.WideLaws
import Derived.Test.YtbnjgaeeojcjbaaDoorCards
import Derived.Test.YtbnjgaeeojcjbaaDoorProg
import Derived.Test.YtbnjgaeeojcjbaaDoorRows
import Derived.Test.YtbnjgaeeojcjbaaDoorTie
import Derived.Test.YtbnjgaeeojcjbaaDoorZd3
-- What this claim needs of the words, the printed walks and this session's texts (merged and cut by wip/prune.py).
namespace Go.Proofs.YtbnjgaeeojcjbaaDoor.PR
open Go.RowKit Go.Proofs.YtbnjgaeeojcjbaaDoorW.PrintWords Go.Proofs.YtbnjgaeeojcjbaaDoorW.PrintLast Go.Proofs.YtbnjgaeeojcjbaaDoorW.PrintMore
attribute [local go_sem] max2_int min2_int max_two min_two max_three min_three max_four min_four
set_option linter.unusedVariables false
set_option linter.unusedSimpArgs false
set_option maxHeartbeats 8000000 in
set_option maxRecDepth 100000 in
theorem pointillistref08_Apply.calls (k : Nat) (a0_0 : Int) (a0_1 : Int) (a0_2 : Int) (a0_3 : Int) (a0_4 : Int) (a0_5 : Int) (a1_0 : Int) (a1_1 : Int) (r1 : Int) (r2 : Int) (r3 : Int) (w : World) (h : pointillistref08_Apply.f k a0_0 a0_1 a0_2 a0_3 a0_4 a0_5 a1_0 a1_1 = some (r1, r2, r3)) :
  Calls Tryd.prog 10 #[.agg #[.int .i64 a0_0, .int .i64 a0_1, .int .i64 a0_2, .int .i64 a0_3, .int .i64 a0_4, .int .i64 a0_5], .agg #[.int .i64 a1_0, .int .i64 a1_1]] w fun e w' => e = .returned (.tuple #[.agg #[.int .i64 r1, .int .i64 r2], .int .i64 r3]) ∧ Below w.heap.size w w' := by
 have hu23 := Tryd.underlying23
 have hu25 := Tryd.underlying25
 have HB := Aside0.mk (Below.refl w.heap.size w)
 have H : ((pointillistref08_Right.f a0_0 a0_1 a0_2 a0_3 a0_4 a0_5).bind fun t393 => (if t393 = true then ((pointillistref08_In.f a1_0).bind fun t394 => (if t394 = true then ((pointillistref08_In.f a1_1).bind fun t395 => (pointillistref08_Apply.j0 k (!t395) a0_0 a0_1 a0_2 a0_3 a0_4 a0_5 a1_0 a1_1)) else (pointillistref08_Apply.j0 k true a0_0 a0_1 a0_2 a0_3 a0_4 a0_5 a1_0 a1_1))) else (pointillistref08_Apply.j0 k true a0_0 a0_1 a0_2 a0_3 a0_4 a0_5 a1_0 a1_1))) = some (r1, r2, r3) := h
 clear h
 have HC3 := Aside0.mk H
 clear H
 go_enter Tryd.func10, Tryd.ntmps10
 go_upto_region 1 with (first | ((with_reducible refine gate_dst (N := 2) rfl ?_); refine box_event ?hg (N := 2) ?hd (cs := #[.int .i64 a0_0, .int .i64 a0_1, .int .i64 a0_2, .int .i64 a0_3, .int .i64 a0_4, .int .i64 a0_5]) (t := 23) ?hr ?_; (case hd => rfl); (case hg => rfl); (case hr => first | (go_simp; done) | (go_simp; rfl)); intro gb390 hg w4 hbox hb; have n0_ := Aside0.mk (below_step (wq HB.out) hb); have n1_ := Aside0.mk (hbox); have n2_ := Aside0.mk ((by rw [hg]; exact (below_size (wq HB.out)) : w.heap.size ≤ gb390)); have n3_ := n2_; clear HB; have HB := n0_; have BK390 := n1_; have GW390 := n2_; have GE390 := n3_; clear n0_ n1_ n2_ n3_ hb hbox hg) | ((with_reducible refine gate_dst (N := 3) rfl ?_); refine box_event ?hg (N := 3) ?hd (cs := #[.int .i64 a1_0, .int .i64 a1_1]) (t := 25) ?hr ?_; (case hd => rfl); (case hg => rfl); (case hr => first | (go_simp; done) | (go_simp; rfl)); intro gb391 hg w5 hbox hb; have n0_ := Aside0.mk (blk_below (bq BK390.out) hb); have n1_ := Aside0.mk (below_step (wq HB.out) hb); have n2_ := Aside0.mk (hbox); have n3_ := Aside0.mk ((by rw [hg]; exact (below_size (wq HB.out)) : w.heap.size ≤ gb391)); have n4_ := n3_; have n5_ := Aside0.mk ((by rw [hg]; exact Nat.ne_of_lt (blk_lt (bq BK390.out)) : gb390 ≠ gb391)); have n6_ := Aside0.mk ((by rw [hg]; exact Nat.ne_of_gt (blk_lt (bq BK390.out)) : gb391 ≠ gb390)); clear BK390 HB; have BK390 := n0_; have HB := n1_; have BK391 := n2_; have GW391 := n3_; have GE391 := n4_; have NB390_391 := n5_; have NB391_390 := n6_; clear n0_ n1_ n2_ n3_ n4_ n5_ n6_ hb hbox hg) | ((with_reducible refine gate_dst (N := 4) rfl ?_); refine box_event ?hg (N := 4) ?hd (cs := #[.int .i64 0, .int .i64 0]) (t := 25) ?hr ?_; (case hd => rfl); (case hg => rfl); (case hr => first | (go_simp; done) | (go_simp; rfl)); intro gb392 hg w6 hbox hb; have n0_ := Aside0.mk (blk_below (bq BK390.out) hb); have n1_ := Aside0.mk (blk_below (bq BK391.out) hb); have n2_ := Aside0.mk (below_step (wq HB.out) hb); have n3_ := Aside0.mk (hbox); have n4_ := Aside0.mk ((by rw [hg]; exact (below_size (wq HB.out)) : w.heap.size ≤ gb392)); have n5_ := n4_; have n6_ := Aside0.mk ((by rw [hg]; exact Nat.ne_of_lt (blk_lt (bq BK390.out)) : gb390 ≠ gb392)); have n7_ := Aside0.mk ((by rw [hg]; exact Nat.ne_of_gt (blk_lt (bq BK390.out)) : gb392 ≠ gb390)); have n8_ := Aside0.mk ((by rw [hg]; exact Nat.ne_of_lt (blk_lt (bq BK391.out)) : gb391 ≠ gb392)); have n9_ := Aside0.mk ((by rw [hg]; exact Nat.ne_of_gt (blk_lt (bq BK391.out)) : gb392 ≠ gb391)); clear BK390 BK391 HB; have BK390 := n0_; have BK391 := n1_; have HB := n2_; have BK392 := n3_; have GW392 := n4_; have GE392 := n5_; have NB390_392 := n6_; have NB392_390 := n7_; have NB391_392 := n8_; have NB392_391 := n9_; clear n0_ n1_ n2_ n3_ n4_ n5_ n6_ n7_ n8_ n9_ hb hbox hg))
 (try simp only [apz])
 go_cut [21] (fun v21 wc => ∃ (kq : Nat) (x21_2 : Bool), v21 = .bool x21_2 ∧ Aside0 (pointillistref08_Apply.j0 kq x21_2 a0_0 a0_1 a0_2 a0_3 a0_4 a0_5 a1_0 a1_1 = some (r1, r2, r3)) ∧ Aside0 (kq ≤ k) ∧ Aside0 (wc.heap[gb390]? = some (.cells #[.int .i64 a0_0, .int .i64 a0_1, .int .i64 a0_2, .int .i64 a0_3, .int .i64 a0_4, .int .i64 a0_5] 23 (0, 0))) ∧ Aside0 (wc.heap[gb391]? = some (.cells #[.int .i64 a1_0, .int .i64 a1_1] 25 (0, 0))) ∧ Aside0 (wc.heap[gb392]? = some (.cells #[.int .i64 0, .int .i64 0] 25 (0, 0))) ∧ Aside0 (Below w.heap.size w wc))
 case first =>
  have H := HC3.out
  clear HC3
  replace H := Option.bind_eq_some_iff.mp H
  obtain ⟨t393, A70, H⟩ := H
  replace H : (if t393 = true then ((pointillistref08_In.f a1_0).bind fun t394 => (if t394 = true then ((pointillistref08_In.f a1_1).bind fun t395 => (pointillistref08_Apply.j0 k (!t395) a0_0 a0_1 a0_2 a0_3 a0_4 a0_5 a1_0 a1_1)) else (pointillistref08_Apply.j0 k true a0_0 a0_1 a0_2 a0_3 a0_4 a0_5 a1_0 a1_1))) else (pointillistref08_Apply.j0 k true a0_0 a0_1 a0_2 a0_3 a0_4 a0_5 a1_0 a1_1)) = some (r1, r2, r3) := H
  have A7 := Aside0.mk A70
  clear A70
  by_cases c8 : t393 = true
  ·
   subst c8
   have H1 : ((pointillistref08_In.f a1_0).bind fun t394 => (if t394 = true then ((pointillistref08_In.f a1_1).bind fun t395 => (pointillistref08_Apply.j0 k (!t395) a0_0 a0_1 a0_2 a0_3 a0_4 a0_5 a1_0 a1_1)) else (pointillistref08_Apply.j0 k true a0_0 a0_1 a0_2 a0_3 a0_4 a0_5 a1_0 a1_1))) = some (r1, r2, r3) := by rw [if_pos rfl] at H; exact H
   clear H
   have H := H1
   clear H1
   replace H := Option.bind_eq_some_iff.mp H
   obtain ⟨t394, A90, H⟩ := H
   replace H : (if t394 = true then ((pointillistref08_In.f a1_1).bind fun t395 => (pointillistref08_Apply.j0 k (!t395) a0_0 a0_1 a0_2 a0_3 a0_4 a0_5 a1_0 a1_1)) else (pointillistref08_Apply.j0 k true a0_0 a0_1 a0_2 a0_3 a0_4 a0_5 a1_0 a1_1)) = some (r1, r2, r3) := H
   have A9 := Aside0.mk A90
   clear A90
   by_cases c10 : t394 = true
   ·
    subst c10
    have H1 : ((pointillistref08_In.f a1_1).bind fun t395 => (pointillistref08_Apply.j0 k (!t395) a0_0 a0_1 a0_2 a0_3 a0_4 a0_5 a1_0 a1_1)) = some (r1, r2, r3) := by rw [if_pos rfl] at H; exact H
    clear H
    have H := H1
    clear H1
    replace H := Option.bind_eq_some_iff.mp H
    obtain ⟨t395, A110, H⟩ := H
    replace H : (pointillistref08_Apply.j0 k (!t395) a0_0 a0_1 a0_2 a0_3 a0_4 a0_5 a1_0 a1_1) = some (r1, r2, r3) := H
    have A11 := Aside0.mk A110
    clear A110
    have H' := Aside0.mk H
    clear H
    have hnb12 := NB390_391.out
    have hnc12 := NB391_390.out
    have hnb13 := NB390_392.out
    have hnc13 := NB392_390.out
    have hcz14_0 : w6.cell? ⟨gb390, 0, none⟩ = some (.int .i64 a0_0) := (blk_cell BK390.out 0).trans rfl
    have hcz14_1 : w6.cell? ⟨gb390, 1, none⟩ = some (.int .i64 a0_1) := (blk_cell BK390.out 1).trans rfl
    have hcz14_2 : w6.cell? ⟨gb390, 2, none⟩ = some (.int .i64 a0_2) := (blk_cell BK390.out 2).trans rfl
    have hcz14_3 : w6.cell? ⟨gb390, 3, none⟩ = some (.int .i64 a0_3) := (blk_cell BK390.out 3).trans rfl
    have hcz14_4 : w6.cell? ⟨gb390, 4, none⟩ = some (.int .i64 a0_4) := (blk_cell BK390.out 4).trans rfl
    have hcz14_5 : w6.cell? ⟨gb390, 5, none⟩ = some (.int .i64 a0_5) := (blk_cell BK390.out 5).trans rfl
    have hfz14_0 := blk_frozen BK390.out 0
    have hfz14_1 := blk_frozen BK390.out 1
    have hfz14_2 := blk_frozen BK390.out 2
    have hfz14_3 := blk_frozen BK390.out 3
    have hfz14_4 := blk_frozen BK390.out 4
    have hfz14_5 := blk_frozen BK390.out 5
    go_wp2_with (first | ((with_reducible refine gate_callee (f := 13) rfl ?_); refine goesL_ (some 8) rfl rfl Tryd.func13 (by kernel_rfl) rfl #[.agg #[.int .i64 a0_0, .int .i64 a0_1, .int .i64 a0_2, .int .i64 a0_3, .int .i64 a0_4, .int .i64 a0_5]] rfl (by (try simp only [List.map_toArray, List.map_cons, List.map_nil]); first | done | rfl | (simp only [List.length_drop, List.length_take]; rfl)) ?_; (with_reducible refine (pointillistref08_Right.calls a0_0 a0_1 a0_2 a0_3 a0_4 a0_5 true _ A7.out).mono ?_); rintro e w15 ⟨rfl, hb⟩; refine ⟨_, rfl, ?_⟩; have n0_ := Aside0.mk (blk_below (bq BK390.out) hb); have n1_ := Aside0.mk (blk_below (bq BK391.out) hb); have n2_ := Aside0.mk (blk_below (bq BK392.out) hb); have n3_ := Aside0.mk (below_step (wq HB.out) hb); clear BK390 BK391 BK392 HB; have BK390 := n0_; have BK391 := n1_; have BK392 := n2_; have HB := n3_; clear n0_ n1_ n2_ n3_; (try clear hb); (try clear hb2); (try clear hk); (try clear hi); have hnb16 := NB391_392.out; have hnc16 := NB392_391.out; have hcz17_0 : w15.cell? ⟨gb391, 0, none⟩ = some (.int .i64 a1_0) := (blk_cell BK391.out 0).trans rfl; have hcz17_1 : w15.cell? ⟨gb391, 1, none⟩ = some (.int .i64 a1_1) := (blk_cell BK391.out 1).trans rfl; have hfz17_0 := blk_frozen BK391.out 0; have hfz17_1 := blk_frozen BK391.out 1) | (go_at_call 14; (with_reducible refine (pointillistref08_In.calls a1_0 true _ A9.out).mono ?_); rintro e w' ⟨rfl, ⟨nd, rfl⟩⟩) | (go_at_call 14; (with_reducible refine (pointillistref08_In.calls a1_1 t395 _ A11.out).mono ?_); rintro e w' ⟨rfl, ⟨nd, rfl⟩⟩))
    go_meet
    case rel => exact ⟨_, (!t395), (by first | rfl | (simp; done) | (simp [*]; done)), H', ⟨by first | omega | exact Nat.le_refl _⟩, ⟨by refine bq ?_; exact BK390.out⟩, ⟨by refine bq ?_; exact BK391.out⟩, ⟨by refine bq ?_; exact BK392.out⟩, ⟨by exact wq HB.out⟩⟩
   ·
    replace c10 := Bool.eq_false_iff.mpr c10
    subst c10
    have H1 : (pointillistref08_Apply.j0 k true a0_0 a0_1 a0_2 a0_3 a0_4 a0_5 a1_0 a1_1) = some (r1, r2, r3) := by rw [if_neg (show ¬ (false = true) by decide)] at H; exact H
    clear H
    have H := H1
    clear H1
    have H' := Aside0.mk H
    clear H
    have hnb18 := NB390_391.out
    have hnc18 := NB391_390.out
    have hnb19 := NB390_392.out
    have hnc19 := NB392_390.out
    have hcz20_0 : w6.cell? ⟨gb390, 0, none⟩ = some (.int .i64 a0_0) := (blk_cell BK390.out 0).trans rfl
    have hcz20_1 : w6.cell? ⟨gb390, 1, none⟩ = some (.int .i64 a0_1) := (blk_cell BK390.out 1).trans rfl
    have hcz20_2 : w6.cell? ⟨gb390, 2, none⟩ = some (.int .i64 a0_2) := (blk_cell BK390.out 2).trans rfl
    have hcz20_3 : w6.cell? ⟨gb390, 3, none⟩ = some (.int .i64 a0_3) := (blk_cell BK390.out 3).trans rfl
    have hcz20_4 : w6.cell? ⟨gb390, 4, none⟩ = some (.int .i64 a0_4) := (blk_cell BK390.out 4).trans rfl
    have hcz20_5 : w6.cell? ⟨gb390, 5, none⟩ = some (.int .i64 a0_5) := (blk_cell BK390.out 5).trans rfl
    have hfz20_0 := blk_frozen BK390.out 0
    have hfz20_1 := blk_frozen BK390.out 1
    have hfz20_2 := blk_frozen BK390.out 2
    have hfz20_3 := blk_frozen BK390.out 3
    have hfz20_4 := blk_frozen BK390.out 4
    have hfz20_5 := blk_frozen BK390.out 5
    go_wp2_with (first | ((with_reducible refine gate_callee (f := 13) rfl ?_); refine goesL_ (some 8) rfl rfl Tryd.func13 (by kernel_rfl) rfl #[.agg #[.int .i64 a0_0, .int .i64 a0_1, .int .i64 a0_2, .int .i64 a0_3, .int .i64 a0_4, .int .i64 a0_5]] rfl (by (try simp only [List.map_toArray, List.map_cons, List.map_nil]); first | done | rfl | (simp only [List.length_drop, List.length_take]; rfl)) ?_; (with_reducible refine (pointillistref08_Right.calls a0_0 a0_1 a0_2 a0_3 a0_4 a0_5 true _ A7.out).mono ?_); rintro e w21 ⟨rfl, hb⟩; refine ⟨_, rfl, ?_⟩; have n0_ := Aside0.mk (blk_below (bq BK390.out) hb); have n1_ := Aside0.mk (blk_below (bq BK391.out) hb); have n2_ := Aside0.mk (blk_below (bq BK392.out) hb); have n3_ := Aside0.mk (below_step (wq HB.out) hb); clear BK390 BK391 BK392 HB; have BK390 := n0_; have BK391 := n1_; have BK392 := n2_; have HB := n3_; clear n0_ n1_ n2_ n3_; (try clear hb); (try clear hb2); (try clear hk); (try clear hi); have hnb22 := NB391_392.out; have hnc22 := NB392_391.out; have hcz23_0 : w21.cell? ⟨gb391, 0, none⟩ = some (.int .i64 a1_0) := (blk_cell BK391.out 0).trans rfl; have hcz23_1 : w21.cell? ⟨gb391, 1, none⟩ = some (.int .i64 a1_1) := (blk_cell BK391.out 1).trans rfl; have hfz23_0 := blk_frozen BK391.out 0; have hfz23_1 := blk_frozen BK391.out 1) | (go_at_call 14; (with_reducible refine (pointillistref08_In.calls a1_0 false _ A9.out).mono ?_); rintro e w' ⟨rfl, ⟨nd, rfl⟩⟩))
    go_meet
    case rel => exact ⟨_, (true), (by first | rfl | (simp; done) | (simp [*]; done)), H', ⟨by first | omega | exact Nat.le_refl _⟩, ⟨by refine bq ?_; exact BK390.out⟩, ⟨by refine bq ?_; exact BK391.out⟩, ⟨by refine bq ?_; exact BK392.out⟩, ⟨by exact wq HB.out⟩⟩
  ·
   replace c8 := Bool.eq_false_iff.mpr c8
   subst c8
   have H1 : (pointillistref08_Apply.j0 k true a0_0 a0_1 a0_2 a0_3 a0_4 a0_5 a1_0 a1_1) = some (r1, r2, r3) := by rw [if_neg (show ¬ (false = true) by decide)] at H; exact H
   clear H
   have H := H1
   clear H1
   have H' := Aside0.mk H
   clear H
   have hnb24 := NB390_391.out
   have hnc24 := NB391_390.out
   have hnb25 := NB390_392.out
   have hnc25 := NB392_390.out
   have hcz26_0 : w6.cell? ⟨gb390, 0, none⟩ = some (.int .i64 a0_0) := (blk_cell BK390.out 0).trans rfl
   have hcz26_1 : w6.cell? ⟨gb390, 1, none⟩ = some (.int .i64 a0_1) := (blk_cell BK390.out 1).trans rfl
   have hcz26_2 : w6.cell? ⟨gb390, 2, none⟩ = some (.int .i64 a0_2) := (blk_cell BK390.out 2).trans rfl
   have hcz26_3 : w6.cell? ⟨gb390, 3, none⟩ = some (.int .i64 a0_3) := (blk_cell BK390.out 3).trans rfl
   have hcz26_4 : w6.cell? ⟨gb390, 4, none⟩ = some (.int .i64 a0_4) := (blk_cell BK390.out 4).trans rfl
   have hcz26_5 : w6.cell? ⟨gb390, 5, none⟩ = some (.int .i64 a0_5) := (blk_cell BK390.out 5).trans rfl
   have hfz26_0 := blk_frozen BK390.out 0
   have hfz26_1 := blk_frozen BK390.out 1
   have hfz26_2 := blk_frozen BK390.out 2
   have hfz26_3 := blk_frozen BK390.out 3
   have hfz26_4 := blk_frozen BK390.out 4
   have hfz26_5 := blk_frozen BK390.out 5
   go_wp2_with (first | ((with_reducible refine gate_callee (f := 13) rfl ?_); refine goesL_ (some 8) rfl rfl Tryd.func13 (by kernel_rfl) rfl #[.agg #[.int .i64 a0_0, .int .i64 a0_1, .int .i64 a0_2, .int .i64 a0_3, .int .i64 a0_4, .int .i64 a0_5]] rfl (by (try simp only [List.map_toArray, List.map_cons, List.map_nil]); first | done | rfl | (simp only [List.length_drop, List.length_take]; rfl)) ?_; (with_reducible refine (pointillistref08_Right.calls a0_0 a0_1 a0_2 a0_3 a0_4 a0_5 false _ A7.out).mono ?_); rintro e w27 ⟨rfl, hb⟩; refine ⟨_, rfl, ?_⟩; have n0_ := Aside0.mk (blk_below (bq BK390.out) hb); have n1_ := Aside0.mk (blk_below (bq BK391.out) hb); have n2_ := Aside0.mk (blk_below (bq BK392.out) hb); have n3_ := Aside0.mk (below_step (wq HB.out) hb); clear BK390 BK391 BK392 HB; have BK390 := n0_; have BK391 := n1_; have BK392 := n2_; have HB := n3_; clear n0_ n1_ n2_ n3_; (try clear hb); (try clear hb2); (try clear hk); (try clear hi)))
   go_meet
   case rel => exact ⟨_, (true), (by first | rfl | (simp; done) | (simp [*]; done)), H', ⟨by first | omega | exact Nat.le_refl _⟩, ⟨by refine bq ?_; exact BK390.out⟩, ⟨by refine bq ?_; exact BK391.out⟩, ⟨by refine bq ?_; exact BK392.out⟩, ⟨by exact wq HB.out⟩⟩
 case rest =>
  clear HC3
  try clear c1
  try clear c2
  try clear p2
  try clear c8
  try clear c10
  try clear c12
  try clear c13
  try clear c16
  try clear c18
  try clear c19
  try clear c22
  try clear c24
  try clear c25
  try clear hcz14_0
  try clear hcz14_1
  try clear hcz14_2
  try clear hcz14_3
  try clear hcz14_4
  try clear hcz14_5
  try clear hcz17_0
  try clear hcz17_1
  try clear hcz20_0
  try clear hcz20_1
  try clear hcz20_2
  try clear hcz20_3
  try clear hcz20_4
  try clear hcz20_5
  try clear hcz23_0
  try clear hcz23_1
  try clear hcz26_0
  try clear hcz26_1
  try clear hcz26_2
  try clear hcz26_3
  try clear hcz26_4
  try clear hcz26_5
  try clear hfz14_0
  try clear hfz14_1
  try clear hfz14_2
  try clear hfz14_3
  try clear hfz14_4
  try clear hfz14_5
  try clear hfz17_0
  try clear hfz17_1
  try clear hfz20_0
  try clear hfz20_1
  try clear hfz20_2
  try clear hfz20_3
  try clear hfz20_4
  try clear hfz20_5
  try clear hfz23_0
  try clear hfz23_1
  try clear hfz26_0
  try clear hfz26_1
  try clear hfz26_2
  try clear hfz26_3
  try clear hfz26_4
  try clear hfz26_5
  obtain ⟨kq, x21_2, rfl, HA, HJ2, BK390, BK391, BK392, HB⟩ := hcut
  cases kq with
  | zero => exact absurd HA.out (by simp [pointillistref08_Apply.j0])
  | succ kj2 =>
   have H := HA.out
   clear HA
   simp only [pointillistref08_Apply.j0] at H
   by_cases c28 : x21_2 = true
   ·
    subst c28
    have H1 : (some (0, 0, 1)) = some (r1, r2, r3) := by rw [if_pos rfl] at H; exact H
    clear H
    have H := H1
    clear H1
    simp only [Option.some.injEq, Prod.mk.injEq] at H
    obtain ⟨rfl, rfl, rfl⟩ := H
    have hnb29 := NB392_390.out
    have hnc29 := NB390_392.out
    have hnb30 := NB392_391.out
    have hnc30 := NB391_392.out
    have hcz31_0 : wc.cell? ⟨gb392, 0, none⟩ = some (.int .i64 0) := (blk_cell BK392.out 0).trans rfl
    have hcz31_1 : wc.cell? ⟨gb392, 1, none⟩ = some (.int .i64 0) := (blk_cell BK392.out 1).trans rfl
    have hfz31_0 := blk_frozen BK392.out 0
    have hfz31_1 := blk_frozen BK392.out 1
    go_wp2
    refine bodyPost_ret (results_ct rfl _ _ gb392 25 #[.int .i64 0, .int .i64 0] (0, 0) _ rfl (by refine bq ?_; refine blk_put (cs := #[.int .i64 0, .int .i64 0]) ?_ 1 _ rfl; refine bq ?_; refine blk_put (cs := #[.int .i64 0, .int .i64 0]) ?_ 0 _ rfl; refine bq ?_; exact BK392.out) Tryd.underlying25 rfl (by kernel_rfl)) rfl ?_
    exact ⟨by first | rfl | (simp [errW_none, errW_some] <;> rfl) | (simp [*, errW_none, errW_some] <;> rfl), by exact wq HB.out⟩
   ·
    replace c28 := Bool.eq_false_iff.mpr c28
    subst c28
    have H1 : ((pointillistref08_sum.f kj2 a0_0 a1_0 a0_2 a1_1 a0_4).bind fun t396 => ((pointillistref08_sum.f kj2 a0_1 a1_0 a0_3 a1_1 a0_5).bind fun t397 => ((pointillistref08_In.f t396).bind fun t399 => (if t399 = true then ((pointillistref08_In.f t397).bind fun t400 => (if t400 = true then (some (t396, t397, 0)) else (some (0, 0, 2)))) else (some (0, 0, 2)))))) = some (r1, r2, r3) := by rw [if_neg (show ¬ (false = true) by decide)] at H; exact H
    clear H
    have H := H1
    clear H1
    replace H := Option.bind_eq_some_iff.mp H
    obtain ⟨t396, A320, H⟩ := H
    replace H : ((pointillistref08_sum.f kj2 a0_1 a1_0 a0_3 a1_1 a0_5).bind fun t397 => ((pointillistref08_In.f t396).bind fun t399 => (if t399 = true then ((pointillistref08_In.f t397).bind fun t400 => (if t400 = true then (some (t396, t397, 0)) else (some (0, 0, 2)))) else (some (0, 0, 2))))) = some (r1, r2, r3) := H
    have A32 := Aside0.mk A320
    clear A320
    replace H := Option.bind_eq_some_iff.mp H
    obtain ⟨t397, A330, H⟩ := H
    replace H : ((pointillistref08_In.f t396).bind fun t399 => (if t399 = true then ((pointillistref08_In.f t397).bind fun t400 => (if t400 = true then (some (t396, t397, 0)) else (some (0, 0, 2)))) else (some (0, 0, 2)))) = some (r1, r2, r3) := H
    have A33 := Aside0.mk A330
    clear A330
    replace H := Option.bind_eq_some_iff.mp H
    obtain ⟨t399, A340, H⟩ := H
    replace H : (if t399 = true then ((pointillistref08_In.f t397).bind fun t400 => (if t400 = true then (some (t396, t397, 0)) else (some (0, 0, 2)))) else (some (0, 0, 2))) = some (r1, r2, r3) := H
    have A34 := Aside0.mk A340
    clear A340
    by_cases c35 : t399 = true
    ·
     subst c35
     have H1 : ((pointillistref08_In.f t397).bind fun t400 => (if t400 = true then (some (t396, t397, 0)) else (some (0, 0, 2)))) = some (r1, r2, r3) := by rw [if_pos rfl] at H; exact H
     clear H
     have H := H1
     clear H1
     replace H := Option.bind_eq_some_iff.mp H
     obtain ⟨t400, A360, H⟩ := H
     replace H : (if t400 = true then (some (t396, t397, 0)) else (some (0, 0, 2))) = some (r1, r2, r3) := H
     have A36 := Aside0.mk A360
     clear A360
     by_cases c37 : t400 = true
     ·
      subst c37
      have H1 : (some (t396, t397, 0)) = some (r1, r2, r3) := by rw [if_pos rfl] at H; exact H
      clear H
      have H := H1
      clear H1
      simp only [Option.some.injEq, Prod.mk.injEq] at H
      obtain ⟨rfl, rfl, rfl⟩ := H
      try go_wp2
      have n0_ := Aside0.mk (blk_drew BK390.out)
      have n1_ := Aside0.mk (blk_drew BK391.out)
      have n2_ := Aside0.mk (blk_drew BK392.out)
      have n3_ := Aside0.mk (below_drew1 HB.out)
      clear BK390 BK391 BK392 HB; have BK390 := n0_; have BK391 := n1_; have BK392 := n2_; have HB := n3_; clear n0_ n1_ n2_ n3_
      refine start_ (n := 25) (S := fun w' => w'.cell? ⟨gb390, 0, none⟩ = some (.int .i64 a0_0) ∧ w'.cell? ⟨gb390, 1, none⟩ = some (.int .i64 a0_1) ∧ w'.cell? ⟨gb390, 2, none⟩ = some (.int .i64 a0_2) ∧ w'.cell? ⟨gb390, 3, none⟩ = some (.int .i64 a0_3) ∧ w'.cell? ⟨gb390, 4, none⟩ = some (.int .i64 a0_4) ∧ w'.cell? ⟨gb390, 5, none⟩ = some (.int .i64 a0_5) ∧ w'.cell? ⟨gb391, 0, none⟩ = some (.int .i64 a1_0) ∧ w'.cell? ⟨gb391, 1, none⟩ = some (.int .i64 a1_1)) (ds := []) (bt 0 25) (by kernel_rfl) rfl rfl ⟨(blk_cell BK390.out 0).trans rfl, (blk_cell BK390.out 1).trans rfl, (blk_cell BK390.out 2).trans rfl, (blk_cell BK390.out 3).trans rfl, (blk_cell BK390.out 4).trans rfl, (blk_cell BK390.out 5).trans rfl, (blk_cell BK391.out 0).trans rfl, (blk_cell BK391.out 1).trans rfl⟩ (fun hHeld => ?_); refine with_tabW pointillistref08_Apply.tab3 pointillistref08_Apply.bits3 (fun HT_ HW_ => ?_)
      generalize wc.drew = w38 at BK390 BK391 BK392 HB hHeld ⊢
      refine pure_ (i := 0) (N := some 23) (v := ?_) (a' := ?_) (bt 1 24) rfl rfl (any_of HT_.out (by kernel_rfl)) (fun _ _ _ h => h) (Or.inl ⟨by rfl, ?_⟩) ?_ ?_
      rotate_left; focus (intro w'; go_simp; with_reducible rfl)
      rotate_left; focus (simp only [apz, i64_w, i32_w]; rfl)
      refine pure_ (i := 2) (N := some 25) (v := ?_) (a' := ?_) (bm 25 5) rfl rfl (any_of HT_.out (by kernel_rfl)) (fun _ _ _ h => h) (Or.inl ⟨by rfl, ?_⟩) ?_ ?_
      rotate_left; focus (intro w'; go_simp; with_reducible rfl)
      rotate_left; focus (simp only [apz, i64_w, i32_w]; rfl)
      refine pure_ (i := 4) (N := some 27) (v := ?_) (a' := ?_) (bm 25 21) rfl rfl (any_of HT_.out (by kernel_rfl)) (fun _ _ _ h => h) (Or.inl ⟨by rfl, ?_⟩) ?_ ?_
      rotate_left; focus (intro w'; go_simp; with_reducible rfl)
      rotate_left; focus (simp only [apz, i64_w, i32_w]; rfl)
      refine pure_ (i := 6) (N := some 29) (v := ?_) (a' := ?_) (bm 25 85) rfl rfl (any_of HT_.out (by kernel_rfl)) (fun _ _ _ h => h) (Or.inl ⟨by rfl, ?_⟩) ?_ ?_
      rotate_left; focus (intro w'; go_simp; with_reducible rfl)
      rotate_left; focus (simp only [apz, i64_w, i32_w]; rfl)
      refine pure_ (i := 8) (N := some 31) (v := ?_) (a' := ?_) (bm 25 341) rfl rfl (any_of HT_.out (by kernel_rfl)) (fun _ _ _ h => h) (Or.inl ⟨by rfl, ?_⟩) ?_ ?_
      rotate_left; focus (intro w'; go_simp; with_reducible rfl)
      rotate_left; focus (simp only [apz, i64_w, i32_w]; rfl)
      refine pure_ (i := 11) (N := some 34) (v := ?_) (a' := ?_) (bm 25 2389) rfl rfl (any_of HT_.out (by kernel_rfl)) (fun _ _ _ h => h) (Or.inl ⟨by rfl, ?_⟩) ?_ ?_
      rotate_left; focus (intro w'; go_simp; with_reducible rfl)
      rotate_left; focus (simp only [apz, i64_w, i32_w]; rfl)
      refine pure_ (i := 13) (N := some 36) (v := ?_) (a' := ?_) (bm 25 10581) rfl rfl (any_of HT_.out (by kernel_rfl)) (fun _ _ _ h => h) (Or.inl ⟨by rfl, ?_⟩) ?_ ?_
      rotate_left; focus (intro w'; go_simp; with_reducible rfl)
      rotate_left; focus (simp only [apz, i64_w, i32_w]; rfl)
      refine pure_ (i := 15) (N := some 38) (v := ?_) (a' := ?_) (bm 25 43349) rfl rfl (any_of HT_.out (by kernel_rfl)) (fun _ _ _ h => h) (Or.inl ⟨by rfl, ?_⟩) ?_ ?_
      rotate_left; focus (intro w'; go_simp; with_reducible rfl)
      rotate_left; focus (simp only [apz, i64_w, i32_w]; rfl)
      refine pure_ (i := 17) (N := some 40) (v := ?_) (a' := ?_) (bm 25 174421) rfl rfl (any_of HT_.out (by kernel_rfl)) (fun _ _ _ h => h) (Or.inl ⟨by rfl, ?_⟩) ?_ ?_
      rotate_left; focus (intro w'; go_simp; with_reducible rfl)
      rotate_left; focus (simp only [apz, i64_w, i32_w]; rfl)
      refine pure_ (i := 19) (N := some 42) (v := ?_) (a' := ?_) (bm 25 698709) rfl rfl (any_of HT_.out (by kernel_rfl)) (fun _ _ _ h => h) (Or.inl ⟨by rfl, ?_⟩) ?_ ?_
      rotate_left; focus (intro w'; go_simp; with_reducible rfl)
      rotate_left; focus (simp only [apz, i64_w, i32_w]; rfl)
      refine take_ (i := 1) (N := some 24) (v := ?_) (a' := ?_) (bm 25 698711) rfl rfl (take_ofW HT_.out HW_.out (by kernel_rfl)) (fun _ _ _ h => h) (Or.inl ⟨by rfl, ?_⟩) hHeld ?_ ?_
      rotate_left
      ·
       rintro w' ⟨s0, s1, s2, s3, s4, s5, s6, s7⟩
       go_simp
       with_reducible rfl
      rotate_left; focus (simp only [apz, i64_w, i32_w]; rfl)
      refine take_ (i := 3) (N := some 26) (v := ?_) (a' := ?_) (bm 25 698719) rfl rfl (take_ofW HT_.out HW_.out (by kernel_rfl)) (fun _ _ _ h => h) (Or.inl ⟨by rfl, ?_⟩) hHeld ?_ ?_
      rotate_left
      ·
       rintro w' ⟨s0, s1, s2, s3, s4, s5, s6, s7⟩
       go_simp
       with_reducible rfl
      rotate_left; focus (simp only [apz, i64_w, i32_w]; rfl)
      refine take_ (i := 5) (N := some 28) (v := ?_) (a' := ?_) (bm 25 698751) rfl rfl (take_ofW HT_.out HW_.out (by kernel_rfl)) (fun _ _ _ h => h) (Or.inl ⟨by rfl, ?_⟩) hHeld ?_ ?_
      rotate_left
      ·
       rintro w' ⟨s0, s1, s2, s3, s4, s5, s6, s7⟩
       go_simp
       with_reducible rfl
      rotate_left; focus (simp only [apz, i64_w, i32_w]; rfl)
      refine take_ (i := 7) (N := some 30) (v := ?_) (a' := ?_) (bm 25 698879) rfl rfl (take_ofW HT_.out HW_.out (by kernel_rfl)) (fun _ _ _ h => h) (Or.inl ⟨by rfl, ?_⟩) hHeld ?_ ?_
      rotate_left
      ·
       rintro w' ⟨s0, s1, s2, s3, s4, s5, s6, s7⟩
       go_simp
       with_reducible rfl
      rotate_left; focus (simp only [apz, i64_w, i32_w]; rfl)
      refine take_ (i := 9) (N := some 32) (v := ?_) (a' := ?_) (bm 25 699391) rfl rfl (take_ofW HT_.out HW_.out (by kernel_rfl)) (fun _ _ _ h => h) (Or.inl ⟨by rfl, ?_⟩) hHeld ?_ ?_
      rotate_left
      ·
       rintro w' ⟨s0, s1, s2, s3, s4, s5, s6, s7⟩
       go_simp
       with_reducible rfl
      rotate_left; focus (simp only [apz, i64_w, i32_w]; rfl)
      refine take_ (i := 12) (N := some 35) (v := ?_) (a' := ?_) (bm 25 703487) rfl rfl (take_ofW HT_.out HW_.out (by kernel_rfl)) (fun _ _ _ h => h) (Or.inl ⟨by rfl, ?_⟩) hHeld ?_ ?_
      rotate_left
      ·
       rintro w' ⟨s0, s1, s2, s3, s4, s5, s6, s7⟩
       go_simp
       with_reducible rfl
      rotate_left; focus (simp only [apz, i64_w, i32_w]; rfl)
      refine take_ (i := 14) (N := some 37) (v := ?_) (a' := ?_) (bm 25 719871) rfl rfl (take_ofW HT_.out HW_.out (by kernel_rfl)) (fun _ _ _ h => h) (Or.inl ⟨by rfl, ?_⟩) hHeld ?_ ?_
      rotate_left
      ·
       rintro w' ⟨s0, s1, s2, s3, s4, s5, s6, s7⟩
       go_simp
       with_reducible rfl
      rotate_left; focus (simp only [apz, i64_w, i32_w]; rfl)
      refine take_ (i := 16) (N := some 39) (v := ?_) (a' := ?_) (bm 25 785407) rfl rfl (take_ofW HT_.out HW_.out (by kernel_rfl)) (fun _ _ _ h => h) (Or.inl ⟨by rfl, ?_⟩) hHeld ?_ ?_
      rotate_left
      ·
       rintro w' ⟨s0, s1, s2, s3, s4, s5, s6, s7⟩
       go_simp
       with_reducible rfl
      rotate_left; focus (simp only [apz, i64_w, i32_w]; rfl)
      refine take_ (i := 18) (N := some 41) (v := ?_) (a' := ?_) (bm 25 1047551) rfl rfl (take_ofW HT_.out HW_.out (by kernel_rfl)) (fun _ _ _ h => h) (Or.inl ⟨by rfl, ?_⟩) hHeld ?_ ?_
      rotate_left
      ·
       rintro w' ⟨s0, s1, s2, s3, s4, s5, s6, s7⟩
       go_simp
       with_reducible rfl
      rotate_left; focus (simp only [apz, i64_w, i32_w]; rfl)
      refine take_ (i := 20) (N := some 43) (v := ?_) (a' := ?_) (bm 25 2096127) rfl rfl (take_ofW HT_.out HW_.out (by kernel_rfl)) (fun _ _ _ h => h) (Or.inl ⟨by rfl, ?_⟩) hHeld ?_ ?_
      rotate_left
      ·
       rintro w' ⟨s0, s1, s2, s3, s4, s5, s6, s7⟩
       go_simp
       with_reducible rfl
      rotate_left; focus (simp only [apz, i64_w, i32_w]; rfl)
      refine join_ (σ := Nat) 1 (bt 24 1) (fun s_ => [(33, .int .i64 t396), (44, .int .i64 t397), (6, .pointer (some ⟨s_, 0, none⟩)), (45, .agg #[.int .i64 t396, .int .i64 t397])]) (fun s_ w' => (w'.cell? ⟨gb390, 0, none⟩ = some (.int .i64 a0_0) ∧ w'.cell? ⟨gb390, 1, none⟩ = some (.int .i64 a0_1) ∧ w'.cell? ⟨gb390, 2, none⟩ = some (.int .i64 a0_2) ∧ w'.cell? ⟨gb390, 3, none⟩ = some (.int .i64 a0_3) ∧ w'.cell? ⟨gb390, 4, none⟩ = some (.int .i64 a0_4) ∧ w'.cell? ⟨gb390, 5, none⟩ = some (.int .i64 a0_5) ∧ w'.cell? ⟨gb391, 0, none⟩ = some (.int .i64 a1_0) ∧ w'.cell? ⟨gb391, 1, none⟩ = some (.int .i64 a1_1)) ∧ (w'.heap[gb390]? = some (.cells #[.int .i64 a0_0, .int .i64 a0_1, .int .i64 a0_2, .int .i64 a0_3, .int .i64 a0_4, .int .i64 a0_5] 23 (0, 0))) ∧ (w'.heap[gb391]? = some (.cells #[.int .i64 a1_0, .int .i64 a1_1] 25 (0, 0))) ∧ (w'.heap[gb392]? = some (.cells #[.int .i64 0, .int .i64 0] 25 (0, 0))) ∧ (w'.heap[s_]? = some (.cells #[.int .i64 0, .int .i64 0] 25 (0, 0))) ∧ (w.heap.size ≤ s_) ∧ (w.heap.size ≤ s_) ∧ (gb390 ≠ s_) ∧ (s_ ≠ gb390) ∧ (gb391 ≠ s_) ∧ (s_ ≠ gb391) ∧ (gb392 ≠ s_) ∧ (s_ ≠ gb392) ∧ (Below w.heap.size w w')) ?_ ?_
      rotate_left
      ·
       intro hCont
       refine two_ (i := 10) (j := 23) (Ni := some 33) (Nj := some 6) (bt 21 4) (bm 25 10484735) rfl rfl rfl rfl (two_of HT_.out (by kernel_rfl)) (by decide) (by decide) (fun K hK => ?_) (fun K hK => ?_)
       ·
        skip
        refine goes_ Tryd.func22 (by kernel_rfl) rfl #[.int .i64 a0_0, .int .i64 a1_0, .int .i64 a0_2, .int .i64 a1_1, .int .i64 a0_4] (by rfl) rfl rfl (by (try simp only [List.map_toArray, List.map_cons, List.map_nil]); first | done | rfl | (simp only [List.length_drop, List.length_take]; rfl)) ?_
        with_reducible refine (pointillistref08_sum.calls kj2 a0_0 a1_0 a0_2 a1_1 a0_4 t396 _ A32.out).mono ?_
        rintro e w39 ⟨rfl, hb⟩
        refine ⟨_, rfl, ?_⟩
        have n0_ := Aside0.mk (blk_below (bq BK390.out) hb)
        have n1_ := Aside0.mk (blk_below (bq BK391.out) hb)
        have n2_ := Aside0.mk (blk_below (bq BK392.out) hb)
        have n3_ := Aside0.mk (below_step (wq HB.out) hb)
        clear BK390 BK391 BK392 HB; have BK390 := n0_; have BK391 := n1_; have BK392 := n2_; have HB := n3_; clear n0_ n1_ n2_ n3_
        (try clear hb)
        (try clear hb2)
        (try clear hk)
        (try clear hi)
        refine hK.out _ _ ⟨(blk_cell BK390.out 0).trans rfl, (blk_cell BK390.out 1).trans rfl, (blk_cell BK390.out 2).trans rfl, (blk_cell BK390.out 3).trans rfl, (blk_cell BK390.out 4).trans rfl, (blk_cell BK390.out 5).trans rfl, (blk_cell BK391.out 0).trans rfl, (blk_cell BK391.out 1).trans rfl⟩ (fun hHeld => ?_)
        clear hK K
        refine norm_ (a' := ?_) ?_ ?_
        rotate_left
        ·
         show Act.put _ (some 33) _ = _
         simp only [apz, i64_w, i32_w]
         rfl
        refine two_ (i := 21) (j := 23) (Ni := some 44) (Nj := some 6) (bt 22 3) (bm 25 10485759) rfl rfl rfl rfl (two_of HT_.out (by kernel_rfl)) (by decide) (by decide) (fun K hK => ?_) (fun K hK => ?_)
        ·
         skip
         refine goes_ Tryd.func22 (by kernel_rfl) rfl #[.int .i64 a0_1, .int .i64 a1_0, .int .i64 a0_3, .int .i64 a1_1, .int .i64 a0_5] (by rfl) rfl rfl (by (try simp only [List.map_toArray, List.map_cons, List.map_nil]); first | done | rfl | (simp only [List.length_drop, List.length_take]; rfl)) ?_
         with_reducible refine (pointillistref08_sum.calls kj2 a0_1 a1_0 a0_3 a1_1 a0_5 t397 _ A33.out).mono ?_
         rintro e w40 ⟨rfl, hb⟩
         refine ⟨_, rfl, ?_⟩
         have n0_ := Aside0.mk (blk_below (bq BK390.out) hb)
         have n1_ := Aside0.mk (blk_below (bq BK391.out) hb)
         have n2_ := Aside0.mk (blk_below (bq BK392.out) hb)
         have n3_ := Aside0.mk (below_step (wq HB.out) hb)
         clear BK390 BK391 BK392 HB; have BK390 := n0_; have BK391 := n1_; have BK392 := n2_; have HB := n3_; clear n0_ n1_ n2_ n3_
         (try clear hb)
         (try clear hb2)
         (try clear hk)
         (try clear hi)
         refine hK.out _ _ ⟨(blk_cell BK390.out 0).trans rfl, (blk_cell BK390.out 1).trans rfl, (blk_cell BK390.out 2).trans rfl, (blk_cell BK390.out 3).trans rfl, (blk_cell BK390.out 4).trans rfl, (blk_cell BK390.out 5).trans rfl, (blk_cell BK391.out 0).trans rfl, (blk_cell BK391.out 1).trans rfl⟩ (fun hHeld => ?_)
         clear hK K
         refine norm_ (a' := ?_) ?_ ?_
         rotate_left
         ·
          show Act.put _ (some 44) _ = _
          simp only [apz, i64_w, i32_w]
          rfl
         refine pure_ (i := 22) (N := some 45) (v := ?_) (a' := ?_) (bt 23 2) rfl rfl (any_of HT_.out (by kernel_rfl)) (fun _ _ _ h => h) (Or.inl ⟨by rfl, ?_⟩) ?_ ?_
         rotate_left; focus (intro w'; go_simp; with_reducible rfl)
         rotate_left; focus (simp only [apz, i64_w, i32_w]; rfl)
         refine one_ (i := 23) (N := some 6) (bt 24 1) rfl rfl (one_of HT_.out (by kernel_rfl)) (by decide) (fun K hK => ?_)
         refine box_step ?hg (N := 6) ?hd (cs := #[.int .i64 0, .int .i64 0]) (t := 25) ?hr ?_; (case hd => rfl); (case hg => rfl); (case hr => first | (go_simp; done) | (go_simp; rfl))
         intro gb398 hg w41 hbox hb
         have n0_ := Aside0.mk (blk_below (bq BK390.out) hb)
         have n1_ := Aside0.mk (blk_below (bq BK391.out) hb)
         have n2_ := Aside0.mk (blk_below (bq BK392.out) hb)
         have n3_ := Aside0.mk (below_step (wq HB.out) hb)
         have n4_ := Aside0.mk (hbox)
         have n5_ := Aside0.mk ((by rw [hg]; exact (below_size (wq HB.out)) : w.heap.size ≤ gb398))
         have n6_ := Aside0.mk ((by rw [hg]; exact (below_size (wq HB.out)) : w.heap.size ≤ gb398))
         have n7_ := Aside0.mk ((by rw [hg]; exact Nat.ne_of_lt (blk_lt (bq BK390.out)) : gb390 ≠ gb398))
         have n8_ := Aside0.mk ((by rw [hg]; exact Nat.ne_of_gt (blk_lt (bq BK390.out)) : gb398 ≠ gb390))
         have n9_ := Aside0.mk ((by rw [hg]; exact Nat.ne_of_lt (blk_lt (bq BK391.out)) : gb391 ≠ gb398))
         have n10_ := Aside0.mk ((by rw [hg]; exact Nat.ne_of_gt (blk_lt (bq BK391.out)) : gb398 ≠ gb391))
         have n11_ := Aside0.mk ((by rw [hg]; exact Nat.ne_of_lt (blk_lt (bq BK392.out)) : gb392 ≠ gb398))
         have n12_ := Aside0.mk ((by rw [hg]; exact Nat.ne_of_gt (blk_lt (bq BK392.out)) : gb398 ≠ gb392))
         clear BK390 BK391 BK392 HB; have BK390 := n0_; have BK391 := n1_; have BK392 := n2_; have HB := n3_; have BK398 := n4_; have GW398 := n5_; have GE398 := n6_; have NB390_398 := n7_; have NB398_390 := n8_; have NB391_398 := n9_; have NB398_391 := n10_; have NB392_398 := n11_; have NB398_392 := n12_; clear n0_ n1_ n2_ n3_ n4_ n5_ n6_ n7_ n8_ n9_ n10_ n11_ n12_ hb hbox hg
         refine hK.out _ _ ⟨(blk_cell BK390.out 0).trans rfl, (blk_cell BK390.out 1).trans rfl, (blk_cell BK390.out 2).trans rfl, (blk_cell BK390.out 3).trans rfl, (blk_cell BK390.out 4).trans rfl, (blk_cell BK390.out 5).trans rfl, (blk_cell BK391.out 0).trans rfl, (blk_cell BK391.out 1).trans rfl⟩ (fun hHeld => ?_)
         clear hK K
         refine norm_ (a' := ?_) ?_ ?_
         rotate_left
         ·
          show Act.put _ (some 6) _ = _
          simp only [apz, i64_w, i32_w]
          rfl
         exact norm_ (by simp only [putAll, apz]) (hCont (gb398) _ ⟨hHeld, (bq BK390.out), (bq BK391.out), (bq BK392.out), (bq BK398.out), GW398.out, GE398.out, NB390_398.out, NB398_390.out, NB391_398.out, NB398_391.out, NB392_398.out, NB398_392.out, (wq HB.out)⟩)
        ·
         skip
         refine box_step ?hg (N := 6) ?hd (cs := #[.int .i64 0, .int .i64 0]) (t := 25) ?hr ?_; (case hd => rfl); (case hg => rfl); (case hr => first | (go_simp; done) | (go_simp; rfl))
         intro gb398 hg w40 hbox hb
         have n0_ := Aside0.mk (blk_below (bq BK390.out) hb)
         have n1_ := Aside0.mk (blk_below (bq BK391.out) hb)
         have n2_ := Aside0.mk (blk_below (bq BK392.out) hb)
         have n3_ := Aside0.mk (below_step (wq HB.out) hb)
         have n4_ := Aside0.mk (hbox)
         have n5_ := Aside0.mk ((by rw [hg]; exact (below_size (wq HB.out)) : w.heap.size ≤ gb398))
         have n6_ := Aside0.mk ((by rw [hg]; exact (below_size (wq HB.out)) : w.heap.size ≤ gb398))
         have n7_ := Aside0.mk ((by rw [hg]; exact Nat.ne_of_lt (blk_lt (bq BK390.out)) : gb390 ≠ gb398))
         have n8_ := Aside0.mk ((by rw [hg]; exact Nat.ne_of_gt (blk_lt (bq BK390.out)) : gb398 ≠ gb390))
         have n9_ := Aside0.mk ((by rw [hg]; exact Nat.ne_of_lt (blk_lt (bq BK391.out)) : gb391 ≠ gb398))
         have n10_ := Aside0.mk ((by rw [hg]; exact Nat.ne_of_gt (blk_lt (bq BK391.out)) : gb398 ≠ gb391))
         have n11_ := Aside0.mk ((by rw [hg]; exact Nat.ne_of_lt (blk_lt (bq BK392.out)) : gb392 ≠ gb398))
         have n12_ := Aside0.mk ((by rw [hg]; exact Nat.ne_of_gt (blk_lt (bq BK392.out)) : gb398 ≠ gb392))
         clear BK390 BK391 BK392 HB; have BK390 := n0_; have BK391 := n1_; have BK392 := n2_; have HB := n3_; have BK398 := n4_; have GW398 := n5_; have GE398 := n6_; have NB390_398 := n7_; have NB398_390 := n8_; have NB391_398 := n9_; have NB398_391 := n10_; have NB392_398 := n11_; have NB398_392 := n12_; clear n0_ n1_ n2_ n3_ n4_ n5_ n6_ n7_ n8_ n9_ n10_ n11_ n12_ hb hbox hg
         refine hK.out _ _ ⟨(blk_cell BK390.out 0).trans rfl, (blk_cell BK390.out 1).trans rfl, (blk_cell BK390.out 2).trans rfl, (blk_cell BK390.out 3).trans rfl, (blk_cell BK390.out 4).trans rfl, (blk_cell BK390.out 5).trans rfl, (blk_cell BK391.out 0).trans rfl, (blk_cell BK391.out 1).trans rfl⟩ (fun hHeld => ?_)
         clear hK K
         refine norm_ (a' := ?_) ?_ ?_
         rotate_left
         ·
          show Act.put _ (some 6) _ = _
          simp only [apz, i64_w, i32_w]
          rfl
         refine one_ (i := 21) (N := some 44) (bm 25 12582911) rfl rfl (one_of HT_.out (by kernel_rfl)) (by decide) (fun K hK => ?_)
         refine goes_ Tryd.func22 (by kernel_rfl) rfl #[.int .i64 a0_1, .int .i64 a1_0, .int .i64 a0_3, .int .i64 a1_1, .int .i64 a0_5] (by rfl) rfl rfl (by (try simp only [List.map_toArray, List.map_cons, List.map_nil]); first | done | rfl | (simp only [List.length_drop, List.length_take]; rfl)) ?_
         with_reducible refine (pointillistref08_sum.calls kj2 a0_1 a1_0 a0_3 a1_1 a0_5 t397 _ A33.out).mono ?_
         rintro e w41 ⟨rfl, hb⟩
         refine ⟨_, rfl, ?_⟩
         have n0_ := Aside0.mk (blk_below (bq BK390.out) hb)
         have n1_ := Aside0.mk (blk_below (bq BK391.out) hb)
         have n2_ := Aside0.mk (blk_below (bq BK392.out) hb)
         have n3_ := Aside0.mk (blk_below (bq BK398.out) hb)
         have n4_ := Aside0.mk (below_step (wq HB.out) hb)
         clear BK390 BK391 BK392 BK398; clear HB; have BK390 := n0_; have BK391 := n1_; have BK392 := n2_; have BK398 := n3_; have HB := n4_; clear n0_ n1_ n2_ n3_ n4_
         (try clear hb)
         (try clear hb2)
         (try clear hk)
         (try clear hi)
         refine hK.out _ _ ⟨(blk_cell BK390.out 0).trans rfl, (blk_cell BK390.out 1).trans rfl, (blk_cell BK390.out 2).trans rfl, (blk_cell BK390.out 3).trans rfl, (blk_cell BK390.out 4).trans rfl, (blk_cell BK390.out 5).trans rfl, (blk_cell BK391.out 0).trans rfl, (blk_cell BK391.out 1).trans rfl⟩ (fun hHeld => ?_)
         clear hK K
         refine norm_ (a' := ?_) ?_ ?_
         rotate_left
         ·
          show Act.put _ (some 44) _ = _
          simp only [apz, i64_w, i32_w]
          rfl
         refine pure_ (i := 22) (N := some 45) (v := ?_) (a' := ?_) (bt 24 1) rfl rfl (any_of HT_.out (by kernel_rfl)) (fun _ _ _ h => h) (Or.inl ⟨by rfl, ?_⟩) ?_ ?_
         rotate_left; focus (intro w'; go_simp; with_reducible rfl)
         rotate_left; focus (simp only [apz, i64_w, i32_w]; rfl)
         exact norm_ (by simp only [putAll, apz]) (hCont (gb398) _ ⟨hHeld, (bq BK390.out), (bq BK391.out), (bq BK392.out), (bq BK398.out), GW398.out, GE398.out, NB390_398.out, NB398_390.out, NB391_398.out, NB398_391.out, NB392_398.out, NB398_392.out, (wq HB.out)⟩)
       ·
        skip
        refine box_step ?hg (N := 6) ?hd (cs := #[.int .i64 0, .int .i64 0]) (t := 25) ?hr ?_; (case hd => rfl); (case hg => rfl); (case hr => first | (go_simp; done) | (go_simp; rfl))
        intro gb398 hg w39 hbox hb
        have n0_ := Aside0.mk (blk_below (bq BK390.out) hb)
        have n1_ := Aside0.mk (blk_below (bq BK391.out) hb)
        have n2_ := Aside0.mk (blk_below (bq BK392.out) hb)
        have n3_ := Aside0.mk (below_step (wq HB.out) hb)
        have n4_ := Aside0.mk (hbox)
        have n5_ := Aside0.mk ((by rw [hg]; exact (below_size (wq HB.out)) : w.heap.size ≤ gb398))
        have n6_ := Aside0.mk ((by rw [hg]; exact (below_size (wq HB.out)) : w.heap.size ≤ gb398))
        have n7_ := Aside0.mk ((by rw [hg]; exact Nat.ne_of_lt (blk_lt (bq BK390.out)) : gb390 ≠ gb398))
        have n8_ := Aside0.mk ((by rw [hg]; exact Nat.ne_of_gt (blk_lt (bq BK390.out)) : gb398 ≠ gb390))
        have n9_ := Aside0.mk ((by rw [hg]; exact Nat.ne_of_lt (blk_lt (bq BK391.out)) : gb391 ≠ gb398))
        have n10_ := Aside0.mk ((by rw [hg]; exact Nat.ne_of_gt (blk_lt (bq BK391.out)) : gb398 ≠ gb391))
        have n11_ := Aside0.mk ((by rw [hg]; exact Nat.ne_of_lt (blk_lt (bq BK392.out)) : gb392 ≠ gb398))
        have n12_ := Aside0.mk ((by rw [hg]; exact Nat.ne_of_gt (blk_lt (bq BK392.out)) : gb398 ≠ gb392))
        clear BK390 BK391 BK392 HB; have BK390 := n0_; have BK391 := n1_; have BK392 := n2_; have HB := n3_; have BK398 := n4_; have GW398 := n5_; have GE398 := n6_; have NB390_398 := n7_; have NB398_390 := n8_; have NB391_398 := n9_; have NB398_391 := n10_; have NB392_398 := n11_; have NB398_392 := n12_; clear n0_ n1_ n2_ n3_ n4_ n5_ n6_ n7_ n8_ n9_ n10_ n11_ n12_ hb hbox hg
        refine hK.out _ _ ⟨(blk_cell BK390.out 0).trans rfl, (blk_cell BK390.out 1).trans rfl, (blk_cell BK390.out 2).trans rfl, (blk_cell BK390.out 3).trans rfl, (blk_cell BK390.out 4).trans rfl, (blk_cell BK390.out 5).trans rfl, (blk_cell BK391.out 0).trans rfl, (blk_cell BK391.out 1).trans rfl⟩ (fun hHeld => ?_)
        clear hK K
        refine norm_ (a' := ?_) ?_ ?_
        rotate_left
        ·
         show Act.put _ (some 6) _ = _
         simp only [apz, i64_w, i32_w]
         rfl
        refine one_ (i := 10) (N := some 33) (bm 25 10485759) rfl rfl (one_of HT_.out (by kernel_rfl)) (by decide) (fun K hK => ?_)
        refine goes_ Tryd.func22 (by kernel_rfl) rfl #[.int .i64 a0_0, .int .i64 a1_0, .int .i64 a0_2, .int .i64 a1_1, .int .i64 a0_4] (by rfl) rfl rfl (by (try simp only [List.map_toArray, List.map_cons, List.map_nil]); first | done | rfl | (simp only [List.length_drop, List.length_take]; rfl)) ?_
        with_reducible refine (pointillistref08_sum.calls kj2 a0_0 a1_0 a0_2 a1_1 a0_4 t396 _ A32.out).mono ?_
        rintro e w40 ⟨rfl, hb⟩
        refine ⟨_, rfl, ?_⟩
        have n0_ := Aside0.mk (blk_below (bq BK390.out) hb)
        have n1_ := Aside0.mk (blk_below (bq BK391.out) hb)
        have n2_ := Aside0.mk (blk_below (bq BK392.out) hb)
        have n3_ := Aside0.mk (blk_below (bq BK398.out) hb)
        have n4_ := Aside0.mk (below_step (wq HB.out) hb)
        clear BK390 BK391 BK392 BK398; clear HB; have BK390 := n0_; have BK391 := n1_; have BK392 := n2_; have BK398 := n3_; have HB := n4_; clear n0_ n1_ n2_ n3_ n4_
        (try clear hb)
        (try clear hb2)
        (try clear hk)
        (try clear hi)
        refine hK.out _ _ ⟨(blk_cell BK390.out 0).trans rfl, (blk_cell BK390.out 1).trans rfl, (blk_cell BK390.out 2).trans rfl, (blk_cell BK390.out 3).trans rfl, (blk_cell BK390.out 4).trans rfl, (blk_cell BK390.out 5).trans rfl, (blk_cell BK391.out 0).trans rfl, (blk_cell BK391.out 1).trans rfl⟩ (fun hHeld => ?_)
        clear hK K
        refine norm_ (a' := ?_) ?_ ?_
        rotate_left
        ·
         show Act.put _ (some 33) _ = _
         simp only [apz, i64_w, i32_w]
         rfl
        refine one_ (i := 21) (N := some 44) (bm 25 12582911) rfl rfl (one_of HT_.out (by kernel_rfl)) (by decide) (fun K hK => ?_)
        refine goes_ Tryd.func22 (by kernel_rfl) rfl #[.int .i64 a0_1, .int .i64 a1_0, .int .i64 a0_3, .int .i64 a1_1, .int .i64 a0_5] (by rfl) rfl rfl (by (try simp only [List.map_toArray, List.map_cons, List.map_nil]); first | done | rfl | (simp only [List.length_drop, List.length_take]; rfl)) ?_
        with_reducible refine (pointillistref08_sum.calls kj2 a0_1 a1_0 a0_3 a1_1 a0_5 t397 _ A33.out).mono ?_
        rintro e w41 ⟨rfl, hb⟩
        refine ⟨_, rfl, ?_⟩
        have n0_ := Aside0.mk (blk_below (bq BK390.out) hb)
        have n1_ := Aside0.mk (blk_below (bq BK391.out) hb)
        have n2_ := Aside0.mk (blk_below (bq BK392.out) hb)
        have n3_ := Aside0.mk (blk_below (bq BK398.out) hb)
        have n4_ := Aside0.mk (below_step (wq HB.out) hb)
        clear BK390 BK391 BK392 BK398; clear HB; have BK390 := n0_; have BK391 := n1_; have BK392 := n2_; have BK398 := n3_; have HB := n4_; clear n0_ n1_ n2_ n3_ n4_
        (try clear hb)
        (try clear hb2)
        (try clear hk)
        (try clear hi)
        refine hK.out _ _ ⟨(blk_cell BK390.out 0).trans rfl, (blk_cell BK390.out 1).trans rfl, (blk_cell BK390.out 2).trans rfl, (blk_cell BK390.out 3).trans rfl, (blk_cell BK390.out 4).trans rfl, (blk_cell BK390.out 5).trans rfl, (blk_cell BK391.out 0).trans rfl, (blk_cell BK391.out 1).trans rfl⟩ (fun hHeld => ?_)
        clear hK K
        refine norm_ (a' := ?_) ?_ ?_
        rotate_left
        ·
         show Act.put _ (some 44) _ = _
         simp only [apz, i64_w, i32_w]
         rfl
        refine pure_ (i := 22) (N := some 45) (v := ?_) (a' := ?_) (bt 24 1) rfl rfl (any_of HT_.out (by kernel_rfl)) (fun _ _ _ h => h) (Or.inl ⟨by rfl, ?_⟩) ?_ ?_
        rotate_left; focus (intro w'; go_simp; with_reducible rfl)
        rotate_left; focus (simp only [apz, i64_w, i32_w]; rfl)
        exact norm_ (by simp only [putAll, apz]) (hCont (gb398) _ ⟨hHeld, (bq BK390.out), (bq BK391.out), (bq BK392.out), (bq BK398.out), GW398.out, GE398.out, NB390_398.out, NB398_390.out, NB391_398.out, NB398_391.out, NB392_398.out, NB398_392.out, (wq HB.out)⟩)
      rintro gb398 w42 ⟨hS_, h0_, h1_, h2_, h3_, h4_, h5_, h6_, h7_, h8_, h9_, h10_, h11_, h12_⟩
      have n0_ : Aside0 (w42.heap[gb390]? = some (.cells #[.int .i64 a0_0, .int .i64 a0_1, .int .i64 a0_2, .int .i64 a0_3, .int .i64 a0_4, .int .i64 a0_5] 23 (0, 0))) := ⟨h0_⟩
      have n1_ : Aside0 (w42.heap[gb391]? = some (.cells #[.int .i64 a1_0, .int .i64 a1_1] 25 (0, 0))) := ⟨h1_⟩
      have n2_ : Aside0 (w42.heap[gb392]? = some (.cells #[.int .i64 0, .int .i64 0] 25 (0, 0))) := ⟨h2_⟩
      have n3_ : Aside0 (w42.heap[gb398]? = some (.cells #[.int .i64 0, .int .i64 0] 25 (0, 0))) := ⟨h3_⟩
      have n4_ : Aside0 (w.heap.size ≤ gb398) := ⟨h4_⟩
      have n5_ : Aside0 (w.heap.size ≤ gb398) := ⟨h5_⟩
      have n6_ : Aside0 (gb390 ≠ gb398) := ⟨h6_⟩
      have n7_ : Aside0 (gb398 ≠ gb390) := ⟨h7_⟩
      have n8_ : Aside0 (gb391 ≠ gb398) := ⟨h8_⟩
      have n9_ : Aside0 (gb398 ≠ gb391) := ⟨h9_⟩
      have n10_ : Aside0 (gb392 ≠ gb398) := ⟨h10_⟩
      have n11_ : Aside0 (gb398 ≠ gb392) := ⟨h11_⟩
      have n12_ : Aside0 (Below w.heap.size w w42) := ⟨h12_⟩
      clear BK390 BK391 BK392 HB; clear h0_ h1_ h2_ h3_ h4_ h5_ h6_ h7_ h8_ h9_ h10_ h11_ h12_; have BK390 := n0_; have BK391 := n1_; have BK392 := n2_; have BK398 := n3_; have GW398 := n4_; have GE398 := n5_; have NB390_398 := n6_; have NB398_390 := n7_; have NB391_398 := n8_; have NB398_391 := n9_; have NB392_398 := n10_; have NB398_392 := n11_; have HB := n12_; clear n0_ n1_ n2_ n3_ n4_ n5_ n6_ n7_ n8_ n9_ n10_ n11_ n12_
      have hHeld : w42.cell? ⟨gb390, 0, none⟩ = some (.int .i64 a0_0) ∧ w42.cell? ⟨gb390, 1, none⟩ = some (.int .i64 a0_1) ∧ w42.cell? ⟨gb390, 2, none⟩ = some (.int .i64 a0_2) ∧ w42.cell? ⟨gb390, 3, none⟩ = some (.int .i64 a0_3) ∧ w42.cell? ⟨gb390, 4, none⟩ = some (.int .i64 a0_4) ∧ w42.cell? ⟨gb390, 5, none⟩ = some (.int .i64 a0_5) ∧ w42.cell? ⟨gb391, 0, none⟩ = some (.int .i64 a1_0) ∧ w42.cell? ⟨gb391, 1, none⟩ = some (.int .i64 a1_1) := hS_
      refine norm_ (a' := ?_) ?_ ?_
      rotate_left
      ·
       simp only [putAll, apz]
       rfl
      refine one_ (i := 24) (N := none) (bt 25 0) rfl rfl (one_of HT_.out (by kernel_rfl)) (by decide) (fun K hK => ?_)
      have hs43 : w42.cell? ⟨gb398, 0, none⟩ = some (.int .i64 0) := (blk_cell BK398.out 0).trans rfl
      have hfs43 := blk_frozen BK398.out 0
      have hns43_0 := NB390_398.out
      have hns43_1 := NB391_398.out
      have hns43_2 := NB392_398.out
      have hms43_0 := NB398_390.out
      have hms43_1 := NB398_391.out
      have hms43_2 := NB398_392.out
      have hs44 : w42.cell? ⟨gb398, 1, none⟩ = some (.int .i64 0) := (blk_cell BK398.out 1).trans rfl
      have hfs44 := blk_frozen BK398.out 1
      have hns44_0 := NB390_398.out
      have hns44_1 := NB391_398.out
      have hns44_2 := NB392_398.out
      have hms44_0 := NB398_390.out
      have hms44_1 := NB398_391.out
      have hms44_2 := NB398_392.out
      refine skip_ (w1 := ?_) (by rfl) rfl ?_ ?_
      rotate_left
      ·
       go_simp
       rfl
      refine hK.out _ _ ⟨(cf NB390_398.out ((cf NB390_398.out (hHeld.1)))), (cf NB390_398.out ((cf NB390_398.out (hHeld.2.1)))), (cf NB390_398.out ((cf NB390_398.out (hHeld.2.2.1)))), (cf NB390_398.out ((cf NB390_398.out (hHeld.2.2.2.1)))), (cf NB390_398.out ((cf NB390_398.out (hHeld.2.2.2.2.1)))), (cf NB390_398.out ((cf NB390_398.out (hHeld.2.2.2.2.2.1)))), (cf NB391_398.out ((cf NB391_398.out (hHeld.2.2.2.2.2.2.1)))), (cf NB391_398.out ((cf NB391_398.out (hHeld.2.2.2.2.2.2.2))))⟩ (fun hHeld => ?_)
      clear hK K
      refine done_ (done_of HT_.out (by kernel_rfl)) ?_
      have hnb45 := NB398_390.out
      have hnc45 := NB390_398.out
      have hnb46 := NB398_391.out
      have hnc46 := NB391_398.out
      have hnb47 := NB398_392.out
      have hnc47 := NB392_398.out
      have hcz48_0 : w42.cell? ⟨gb398, 0, none⟩ = some (.int .i64 0) := (blk_cell BK398.out 0).trans rfl
      have hcz48_1 : w42.cell? ⟨gb398, 1, none⟩ = some (.int .i64 0) := (blk_cell BK398.out 1).trans rfl
      have hfz48_0 := blk_frozen BK398.out 0
      have hfz48_1 := blk_frozen BK398.out 1
      try go_wp2_with (first | ((with_reducible refine gate_callee (f := 14) rfl ?_); refine goesL_ (some 48) rfl rfl Tryd.func14 (by kernel_rfl) rfl #[.int .i64 t396] rfl (by (try simp only [List.map_toArray, List.map_cons, List.map_nil]); first | done | rfl | (simp only [List.length_drop, List.length_take]; rfl)) ?_; (with_reducible refine (pointillistref08_In.calls t396 true _ A34.out).mono ?_); rintro e w' ⟨rfl, ⟨nd, rfl⟩⟩; refine ⟨_, rfl, ?_⟩) | (go_at_call 14; (with_reducible refine (pointillistref08_In.calls t397 true _ A36.out).mono ?_); rintro e w' ⟨rfl, ⟨nd, rfl⟩⟩; have hnb49 := NB392_390.out; have hnc49 := NB390_392.out; have hnb50 := NB392_391.out; have hnc50 := NB391_392.out; have hcz51_0 : w42.cell? ⟨gb392, 0, none⟩ = some (.int .i64 0) := (blk_cell BK392.out 0).trans rfl; have hcz51_1 : w42.cell? ⟨gb392, 1, none⟩ = some (.int .i64 0) := (blk_cell BK392.out 1).trans rfl; have hfz51_0 := blk_frozen BK392.out 0; have hfz51_1 := blk_frozen BK392.out 1))
      refine bodyPost_ret (results_ct rfl _ _ gb392 25 #[.int .i64 t396, .int .i64 t397] (0, 0) _ rfl (by refine bq ?_; refine blk_put (cs := #[.int .i64 t396, .int .i64 0]) ?_ 1 _ rfl; refine bq ?_; refine blk_put (cs := #[.int .i64 0, .int .i64 0]) ?_ 0 _ rfl; refine bq ?_; refine blk_far ?_ NB392_398.out _; refine bq ?_; refine blk_far ?_ NB392_398.out _; refine bq ?_; exact BK392.out) Tryd.underlying25 rfl (by kernel_rfl)) rfl ?_
      exact ⟨by first | rfl | (simp [errW_none, errW_some] <;> rfl) | (simp [*, errW_none, errW_some] <;> rfl), by exact wq HB.out⟩
     ·
      replace c37 := Bool.eq_false_iff.mpr c37
      subst c37
      have H1 : (some (0, 0, 2)) = some (r1, r2, r3) := by rw [if_neg (show ¬ (false = true) by decide)] at H; exact H
      clear H
      have H := H1
      clear H1
      simp only [Option.some.injEq, Prod.mk.injEq] at H
      obtain ⟨rfl, rfl, rfl⟩ := H
      try go_wp2
      have n0_ := Aside0.mk (blk_drew BK390.out)
      have n1_ := Aside0.mk (blk_drew BK391.out)
      have n2_ := Aside0.mk (blk_drew BK392.out)
      have n3_ := Aside0.mk (below_drew1 HB.out)
      clear BK390 BK391 BK392 HB; have BK390 := n0_; have BK391 := n1_; have BK392 := n2_; have HB := n3_; clear n0_ n1_ n2_ n3_
      refine start_ (n := 25) (S := fun w' => w'.cell? ⟨gb390, 0, none⟩ = some (.int .i64 a0_0) ∧ w'.cell? ⟨gb390, 1, none⟩ = some (.int .i64 a0_1) ∧ w'.cell? ⟨gb390, 2, none⟩ = some (.int .i64 a0_2) ∧ w'.cell? ⟨gb390, 3, none⟩ = some (.int .i64 a0_3) ∧ w'.cell? ⟨gb390, 4, none⟩ = some (.int .i64 a0_4) ∧ w'.cell? ⟨gb390, 5, none⟩ = some (.int .i64 a0_5) ∧ w'.cell? ⟨gb391, 0, none⟩ = some (.int .i64 a1_0) ∧ w'.cell? ⟨gb391, 1, none⟩ = some (.int .i64 a1_1)) (ds := []) (bt 0 25) (by kernel_rfl) rfl rfl ⟨(blk_cell BK390.out 0).trans rfl, (blk_cell BK390.out 1).trans rfl, (blk_cell BK390.out 2).trans rfl, (blk_cell BK390.out 3).trans rfl, (blk_cell BK390.out 4).trans rfl, (blk_cell BK390.out 5).trans rfl, (blk_cell BK391.out 0).trans rfl, (blk_cell BK391.out 1).trans rfl⟩ (fun hHeld => ?_); refine with_tabW pointillistref08_Apply.tab3 pointillistref08_Apply.bits3 (fun HT_ HW_ => ?_)
      generalize wc.drew = w52 at BK390 BK391 BK392 HB hHeld ⊢
      refine pure_ (i := 0) (N := some 23) (v := ?_) (a' := ?_) (bt 1 24) rfl rfl (any_of HT_.out (by kernel_rfl)) (fun _ _ _ h => h) (Or.inl ⟨by rfl, ?_⟩) ?_ ?_
      rotate_left; focus (intro w'; go_simp; with_reducible rfl)
      rotate_left; focus (simp only [apz, i64_w, i32_w]; rfl)
      refine pure_ (i := 2) (N := some 25) (v := ?_) (a' := ?_) (bm 25 5) rfl rfl (any_of HT_.out (by kernel_rfl)) (fun _ _ _ h => h) (Or.inl ⟨by rfl, ?_⟩) ?_ ?_
      rotate_left; focus (intro w'; go_simp; with_reducible rfl)
      rotate_left; focus (simp only [apz, i64_w, i32_w]; rfl)
      refine pure_ (i := 4) (N := some 27) (v := ?_) (a' := ?_) (bm 25 21) rfl rfl (any_of HT_.out (by kernel_rfl)) (fun _ _ _ h => h) (Or.inl ⟨by rfl, ?_⟩) ?_ ?_
      rotate_left; focus (intro w'; go_simp; with_reducible rfl)
      rotate_left; focus (simp only [apz, i64_w, i32_w]; rfl)
      refine pure_ (i := 6) (N := some 29) (v := ?_) (a' := ?_) (bm 25 85) rfl rfl (any_of HT_.out (by kernel_rfl)) (fun _ _ _ h => h) (Or.inl ⟨by rfl, ?_⟩) ?_ ?_
      rotate_left; focus (intro w'; go_simp; with_reducible rfl)
      rotate_left; focus (simp only [apz, i64_w, i32_w]; rfl)
      refine pure_ (i := 8) (N := some 31) (v := ?_) (a' := ?_) (bm 25 341) rfl rfl (any_of HT_.out (by kernel_rfl)) (fun _ _ _ h => h) (Or.inl ⟨by rfl, ?_⟩) ?_ ?_
      rotate_left; focus (intro w'; go_simp; with_reducible rfl)
      rotate_left; focus (simp only [apz, i64_w, i32_w]; rfl)
      refine pure_ (i := 11) (N := some 34) (v := ?_) (a' := ?_) (bm 25 2389) rfl rfl (any_of HT_.out (by kernel_rfl)) (fun _ _ _ h => h) (Or.inl ⟨by rfl, ?_⟩) ?_ ?_
      rotate_left; focus (intro w'; go_simp; with_reducible rfl)
      rotate_left; focus (simp only [apz, i64_w, i32_w]; rfl)
      refine pure_ (i := 13) (N := some 36) (v := ?_) (a' := ?_) (bm 25 10581) rfl rfl (any_of HT_.out (by kernel_rfl)) (fun _ _ _ h => h) (Or.inl ⟨by rfl, ?_⟩) ?_ ?_
      rotate_left; focus (intro w'; go_simp; with_reducible rfl)
      rotate_left; focus (simp only [apz, i64_w, i32_w]; rfl)
      refine pure_ (i := 15) (N := some 38) (v := ?_) (a' := ?_) (bm 25 43349) rfl rfl (any_of HT_.out (by kernel_rfl)) (fun _ _ _ h => h) (Or.inl ⟨by rfl, ?_⟩) ?_ ?_
      rotate_left; focus (intro w'; go_simp; with_reducible rfl)
      rotate_left; focus (simp only [apz, i64_w, i32_w]; rfl)
      refine pure_ (i := 17) (N := some 40) (v := ?_) (a' := ?_) (bm 25 174421) rfl rfl (any_of HT_.out (by kernel_rfl)) (fun _ _ _ h => h) (Or.inl ⟨by rfl, ?_⟩) ?_ ?_
      rotate_left; focus (intro w'; go_simp; with_reducible rfl)
      rotate_left; focus (simp only [apz, i64_w, i32_w]; rfl)
      refine pure_ (i := 19) (N := some 42) (v := ?_) (a' := ?_) (bm 25 698709) rfl rfl (any_of HT_.out (by kernel_rfl)) (fun _ _ _ h => h) (Or.inl ⟨by rfl, ?_⟩) ?_ ?_
      rotate_left; focus (intro w'; go_simp; with_reducible rfl)
      rotate_left; focus (simp only [apz, i64_w, i32_w]; rfl)
      refine take_ (i := 1) (N := some 24) (v := ?_) (a' := ?_) (bm 25 698711) rfl rfl (take_ofW HT_.out HW_.out (by kernel_rfl)) (fun _ _ _ h => h) (Or.inl ⟨by rfl, ?_⟩) hHeld ?_ ?_
      rotate_left
      ·
       rintro w' ⟨s0, s1, s2, s3, s4, s5, s6, s7⟩
       go_simp
       with_reducible rfl
      rotate_left; focus (simp only [apz, i64_w, i32_w]; rfl)
      refine take_ (i := 3) (N := some 26) (v := ?_) (a' := ?_) (bm 25 698719) rfl rfl (take_ofW HT_.out HW_.out (by kernel_rfl)) (fun _ _ _ h => h) (Or.inl ⟨by rfl, ?_⟩) hHeld ?_ ?_
      rotate_left
      ·
       rintro w' ⟨s0, s1, s2, s3, s4, s5, s6, s7⟩
       go_simp
       with_reducible rfl
      rotate_left; focus (simp only [apz, i64_w, i32_w]; rfl)
      refine take_ (i := 5) (N := some 28) (v := ?_) (a' := ?_) (bm 25 698751) rfl rfl (take_ofW HT_.out HW_.out (by kernel_rfl)) (fun _ _ _ h => h) (Or.inl ⟨by rfl, ?_⟩) hHeld ?_ ?_
      rotate_left
      ·
       rintro w' ⟨s0, s1, s2, s3, s4, s5, s6, s7⟩
       go_simp
       with_reducible rfl
      rotate_left; focus (simp only [apz, i64_w, i32_w]; rfl)
      refine take_ (i := 7) (N := some 30) (v := ?_) (a' := ?_) (bm 25 698879) rfl rfl (take_ofW HT_.out HW_.out (by kernel_rfl)) (fun _ _ _ h => h) (Or.inl ⟨by rfl, ?_⟩) hHeld ?_ ?_
      rotate_left
      ·
       rintro w' ⟨s0, s1, s2, s3, s4, s5, s6, s7⟩
       go_simp
       with_reducible rfl
      rotate_left; focus (simp only [apz, i64_w, i32_w]; rfl)
      refine take_ (i := 9) (N := some 32) (v := ?_) (a' := ?_) (bm 25 699391) rfl rfl (take_ofW HT_.out HW_.out (by kernel_rfl)) (fun _ _ _ h => h) (Or.inl ⟨by rfl, ?_⟩) hHeld ?_ ?_
      rotate_left
      ·
       rintro w' ⟨s0, s1, s2, s3, s4, s5, s6, s7⟩
       go_simp
       with_reducible rfl
      rotate_left; focus (simp only [apz, i64_w, i32_w]; rfl)
      refine take_ (i := 12) (N := some 35) (v := ?_) (a' := ?_) (bm 25 703487) rfl rfl (take_ofW HT_.out HW_.out (by kernel_rfl)) (fun _ _ _ h => h) (Or.inl ⟨by rfl, ?_⟩) hHeld ?_ ?_
      rotate_left
      ·
       rintro w' ⟨s0, s1, s2, s3, s4, s5, s6, s7⟩
       go_simp
       with_reducible rfl
      rotate_left; focus (simp only [apz, i64_w, i32_w]; rfl)
      refine take_ (i := 14) (N := some 37) (v := ?_) (a' := ?_) (bm 25 719871) rfl rfl (take_ofW HT_.out HW_.out (by kernel_rfl)) (fun _ _ _ h => h) (Or.inl ⟨by rfl, ?_⟩) hHeld ?_ ?_
      rotate_left
      ·
       rintro w' ⟨s0, s1, s2, s3, s4, s5, s6, s7⟩
       go_simp
       with_reducible rfl
      rotate_left; focus (simp only [apz, i64_w, i32_w]; rfl)
      refine take_ (i := 16) (N := some 39) (v := ?_) (a' := ?_) (bm 25 785407) rfl rfl (take_ofW HT_.out HW_.out (by kernel_rfl)) (fun _ _ _ h => h) (Or.inl ⟨by rfl, ?_⟩) hHeld ?_ ?_
      rotate_left
      ·
       rintro w' ⟨s0, s1, s2, s3, s4, s5, s6, s7⟩
       go_simp
       with_reducible rfl
      rotate_left; focus (simp only [apz, i64_w, i32_w]; rfl)
      refine take_ (i := 18) (N := some 41) (v := ?_) (a' := ?_) (bm 25 1047551) rfl rfl (take_ofW HT_.out HW_.out (by kernel_rfl)) (fun _ _ _ h => h) (Or.inl ⟨by rfl, ?_⟩) hHeld ?_ ?_
      rotate_left
      ·
       rintro w' ⟨s0, s1, s2, s3, s4, s5, s6, s7⟩
       go_simp
       with_reducible rfl
      rotate_left; focus (simp only [apz, i64_w, i32_w]; rfl)
      refine take_ (i := 20) (N := some 43) (v := ?_) (a' := ?_) (bm 25 2096127) rfl rfl (take_ofW HT_.out HW_.out (by kernel_rfl)) (fun _ _ _ h => h) (Or.inl ⟨by rfl, ?_⟩) hHeld ?_ ?_
      rotate_left
      ·
       rintro w' ⟨s0, s1, s2, s3, s4, s5, s6, s7⟩
       go_simp
       with_reducible rfl
      rotate_left; focus (simp only [apz, i64_w, i32_w]; rfl)
      refine join_ (σ := Nat) 1 (bt 24 1) (fun s_ => [(33, .int .i64 t396), (44, .int .i64 t397), (6, .pointer (some ⟨s_, 0, none⟩)), (45, .agg #[.int .i64 t396, .int .i64 t397])]) (fun s_ w' => (w'.cell? ⟨gb390, 0, none⟩ = some (.int .i64 a0_0) ∧ w'.cell? ⟨gb390, 1, none⟩ = some (.int .i64 a0_1) ∧ w'.cell? ⟨gb390, 2, none⟩ = some (.int .i64 a0_2) ∧ w'.cell? ⟨gb390, 3, none⟩ = some (.int .i64 a0_3) ∧ w'.cell? ⟨gb390, 4, none⟩ = some (.int .i64 a0_4) ∧ w'.cell? ⟨gb390, 5, none⟩ = some (.int .i64 a0_5) ∧ w'.cell? ⟨gb391, 0, none⟩ = some (.int .i64 a1_0) ∧ w'.cell? ⟨gb391, 1, none⟩ = some (.int .i64 a1_1)) ∧ (w'.heap[gb390]? = some (.cells #[.int .i64 a0_0, .int .i64 a0_1, .int .i64 a0_2, .int .i64 a0_3, .int .i64 a0_4, .int .i64 a0_5] 23 (0, 0))) ∧ (w'.heap[gb391]? = some (.cells #[.int .i64 a1_0, .int .i64 a1_1] 25 (0, 0))) ∧ (w'.heap[gb392]? = some (.cells #[.int .i64 0, .int .i64 0] 25 (0, 0))) ∧ (w'.heap[s_]? = some (.cells #[.int .i64 0, .int .i64 0] 25 (0, 0))) ∧ (w.heap.size ≤ s_) ∧ (w.heap.size ≤ s_) ∧ (gb390 ≠ s_) ∧ (s_ ≠ gb390) ∧ (gb391 ≠ s_) ∧ (s_ ≠ gb391) ∧ (gb392 ≠ s_) ∧ (s_ ≠ gb392) ∧ (Below w.heap.size w w')) ?_ ?_
      rotate_left
      ·
       intro hCont
       refine two_ (i := 10) (j := 23) (Ni := some 33) (Nj := some 6) (bt 21 4) (bm 25 10484735) rfl rfl rfl rfl (two_of HT_.out (by kernel_rfl)) (by decide) (by decide) (fun K hK => ?_) (fun K hK => ?_)
       ·
        skip
        refine goes_ Tryd.func22 (by kernel_rfl) rfl #[.int .i64 a0_0, .int .i64 a1_0, .int .i64 a0_2, .int .i64 a1_1, .int .i64 a0_4] (by rfl) rfl rfl (by (try simp only [List.map_toArray, List.map_cons, List.map_nil]); first | done | rfl | (simp only [List.length_drop, List.length_take]; rfl)) ?_
        with_reducible refine (pointillistref08_sum.calls kj2 a0_0 a1_0 a0_2 a1_1 a0_4 t396 _ A32.out).mono ?_
        rintro e w53 ⟨rfl, hb⟩
        refine ⟨_, rfl, ?_⟩
        have n0_ := Aside0.mk (blk_below (bq BK390.out) hb)
        have n1_ := Aside0.mk (blk_below (bq BK391.out) hb)
        have n2_ := Aside0.mk (blk_below (bq BK392.out) hb)
        have n3_ := Aside0.mk (below_step (wq HB.out) hb)
        clear BK390 BK391 BK392 HB; have BK390 := n0_; have BK391 := n1_; have BK392 := n2_; have HB := n3_; clear n0_ n1_ n2_ n3_
        (try clear hb)
        (try clear hb2)
        (try clear hk)
        (try clear hi)
        refine hK.out _ _ ⟨(blk_cell BK390.out 0).trans rfl, (blk_cell BK390.out 1).trans rfl, (blk_cell BK390.out 2).trans rfl, (blk_cell BK390.out 3).trans rfl, (blk_cell BK390.out 4).trans rfl, (blk_cell BK390.out 5).trans rfl, (blk_cell BK391.out 0).trans rfl, (blk_cell BK391.out 1).trans rfl⟩ (fun hHeld => ?_)
        clear hK K
        refine norm_ (a' := ?_) ?_ ?_
        rotate_left
        ·
         show Act.put _ (some 33) _ = _
         simp only [apz, i64_w, i32_w]
         rfl
        refine two_ (i := 21) (j := 23) (Ni := some 44) (Nj := some 6) (bt 22 3) (bm 25 10485759) rfl rfl rfl rfl (two_of HT_.out (by kernel_rfl)) (by decide) (by decide) (fun K hK => ?_) (fun K hK => ?_)
        ·
         skip
         refine goes_ Tryd.func22 (by kernel_rfl) rfl #[.int .i64 a0_1, .int .i64 a1_0, .int .i64 a0_3, .int .i64 a1_1, .int .i64 a0_5] (by rfl) rfl rfl (by (try simp only [List.map_toArray, List.map_cons, List.map_nil]); first | done | rfl | (simp only [List.length_drop, List.length_take]; rfl)) ?_
         with_reducible refine (pointillistref08_sum.calls kj2 a0_1 a1_0 a0_3 a1_1 a0_5 t397 _ A33.out).mono ?_
         rintro e w54 ⟨rfl, hb⟩
         refine ⟨_, rfl, ?_⟩
         have n0_ := Aside0.mk (blk_below (bq BK390.out) hb)
         have n1_ := Aside0.mk (blk_below (bq BK391.out) hb)
         have n2_ := Aside0.mk (blk_below (bq BK392.out) hb)
         have n3_ := Aside0.mk (below_step (wq HB.out) hb)
         clear BK390 BK391 BK392 HB; have BK390 := n0_; have BK391 := n1_; have BK392 := n2_; have HB := n3_; clear n0_ n1_ n2_ n3_
         (try clear hb)
         (try clear hb2)
         (try clear hk)
         (try clear hi)
         refine hK.out _ _ ⟨(blk_cell BK390.out 0).trans rfl, (blk_cell BK390.out 1).trans rfl, (blk_cell BK390.out 2).trans rfl, (blk_cell BK390.out 3).trans rfl, (blk_cell BK390.out 4).trans rfl, (blk_cell BK390.out 5).trans rfl, (blk_cell BK391.out 0).trans rfl, (blk_cell BK391.out 1).trans rfl⟩ (fun hHeld => ?_)
         clear hK K
         refine norm_ (a' := ?_) ?_ ?_
         rotate_left
         ·
          show Act.put _ (some 44) _ = _
          simp only [apz, i64_w, i32_w]
          rfl
         refine pure_ (i := 22) (N := some 45) (v := ?_) (a' := ?_) (bt 23 2) rfl rfl (any_of HT_.out (by kernel_rfl)) (fun _ _ _ h => h) (Or.inl ⟨by rfl, ?_⟩) ?_ ?_
         rotate_left; focus (intro w'; go_simp; with_reducible rfl)
         rotate_left; focus (simp only [apz, i64_w, i32_w]; rfl)
         refine one_ (i := 23) (N := some 6) (bt 24 1) rfl rfl (one_of HT_.out (by kernel_rfl)) (by decide) (fun K hK => ?_)
         refine box_step ?hg (N := 6) ?hd (cs := #[.int .i64 0, .int .i64 0]) (t := 25) ?hr ?_; (case hd => rfl); (case hg => rfl); (case hr => first | (go_simp; done) | (go_simp; rfl))
         intro gb398 hg w55 hbox hb
         have n0_ := Aside0.mk (blk_below (bq BK390.out) hb)
         have n1_ := Aside0.mk (blk_below (bq BK391.out) hb)
         have n2_ := Aside0.mk (blk_below (bq BK392.out) hb)
         have n3_ := Aside0.mk (below_step (wq HB.out) hb)
         have n4_ := Aside0.mk (hbox)
         have n5_ := Aside0.mk ((by rw [hg]; exact (below_size (wq HB.out)) : w.heap.size ≤ gb398))
         have n6_ := Aside0.mk ((by rw [hg]; exact (below_size (wq HB.out)) : w.heap.size ≤ gb398))
         have n7_ := Aside0.mk ((by rw [hg]; exact Nat.ne_of_lt (blk_lt (bq BK390.out)) : gb390 ≠ gb398))
         have n8_ := Aside0.mk ((by rw [hg]; exact Nat.ne_of_gt (blk_lt (bq BK390.out)) : gb398 ≠ gb390))
         have n9_ := Aside0.mk ((by rw [hg]; exact Nat.ne_of_lt (blk_lt (bq BK391.out)) : gb391 ≠ gb398))
         have n10_ := Aside0.mk ((by rw [hg]; exact Nat.ne_of_gt (blk_lt (bq BK391.out)) : gb398 ≠ gb391))
         have n11_ := Aside0.mk ((by rw [hg]; exact Nat.ne_of_lt (blk_lt (bq BK392.out)) : gb392 ≠ gb398))
         have n12_ := Aside0.mk ((by rw [hg]; exact Nat.ne_of_gt (blk_lt (bq BK392.out)) : gb398 ≠ gb392))
         clear BK390 BK391 BK392 HB; have BK390 := n0_; have BK391 := n1_; have BK392 := n2_; have HB := n3_; have BK398 := n4_; have GW398 := n5_; have GE398 := n6_; have NB390_398 := n7_; have NB398_390 := n8_; have NB391_398 := n9_; have NB398_391 := n10_; have NB392_398 := n11_; have NB398_392 := n12_; clear n0_ n1_ n2_ n3_ n4_ n5_ n6_ n7_ n8_ n9_ n10_ n11_ n12_ hb hbox hg
         refine hK.out _ _ ⟨(blk_cell BK390.out 0).trans rfl, (blk_cell BK390.out 1).trans rfl, (blk_cell BK390.out 2).trans rfl, (blk_cell BK390.out 3).trans rfl, (blk_cell BK390.out 4).trans rfl, (blk_cell BK390.out 5).trans rfl, (blk_cell BK391.out 0).trans rfl, (blk_cell BK391.out 1).trans rfl⟩ (fun hHeld => ?_)
         clear hK K
         refine norm_ (a' := ?_) ?_ ?_
         rotate_left
         ·
          show Act.put _ (some 6) _ = _
          simp only [apz, i64_w, i32_w]
          rfl
         exact norm_ (by simp only [putAll, apz]) (hCont (gb398) _ ⟨hHeld, (bq BK390.out), (bq BK391.out), (bq BK392.out), (bq BK398.out), GW398.out, GE398.out, NB390_398.out, NB398_390.out, NB391_398.out, NB398_391.out, NB392_398.out, NB398_392.out, (wq HB.out)⟩)
        ·
         skip
         refine box_step ?hg (N := 6) ?hd (cs := #[.int .i64 0, .int .i64 0]) (t := 25) ?hr ?_; (case hd => rfl); (case hg => rfl); (case hr => first | (go_simp; done) | (go_simp; rfl))
         intro gb398 hg w54 hbox hb
         have n0_ := Aside0.mk (blk_below (bq BK390.out) hb)
         have n1_ := Aside0.mk (blk_below (bq BK391.out) hb)
         have n2_ := Aside0.mk (blk_below (bq BK392.out) hb)
         have n3_ := Aside0.mk (below_step (wq HB.out) hb)
         have n4_ := Aside0.mk (hbox)
         have n5_ := Aside0.mk ((by rw [hg]; exact (below_size (wq HB.out)) : w.heap.size ≤ gb398))
         have n6_ := Aside0.mk ((by rw [hg]; exact (below_size (wq HB.out)) : w.heap.size ≤ gb398))
         have n7_ := Aside0.mk ((by rw [hg]; exact Nat.ne_of_lt (blk_lt (bq BK390.out)) : gb390 ≠ gb398))
         have n8_ := Aside0.mk ((by rw [hg]; exact Nat.ne_of_gt (blk_lt (bq BK390.out)) : gb398 ≠ gb390))
         have n9_ := Aside0.mk ((by rw [hg]; exact Nat.ne_of_lt (blk_lt (bq BK391.out)) : gb391 ≠ gb398))
         have n10_ := Aside0.mk ((by rw [hg]; exact Nat.ne_of_gt (blk_lt (bq BK391.out)) : gb398 ≠ gb391))
         have n11_ := Aside0.mk ((by rw [hg]; exact Nat.ne_of_lt (blk_lt (bq BK392.out)) : gb392 ≠ gb398))
         have n12_ := Aside0.mk ((by rw [hg]; exact Nat.ne_of_gt (blk_lt (bq BK392.out)) : gb398 ≠ gb392))
         clear BK390 BK391 BK392 HB; have BK390 := n0_; have BK391 := n1_; have BK392 := n2_; have HB := n3_; have BK398 := n4_; have GW398 := n5_; have GE398 := n6_; have NB390_398 := n7_; have NB398_390 := n8_; have NB391_398 := n9_; have NB398_391 := n10_; have NB392_398 := n11_; have NB398_392 := n12_; clear n0_ n1_ n2_ n3_ n4_ n5_ n6_ n7_ n8_ n9_ n10_ n11_ n12_ hb hbox hg
         refine hK.out _ _ ⟨(blk_cell BK390.out 0).trans rfl, (blk_cell BK390.out 1).trans rfl, (blk_cell BK390.out 2).trans rfl, (blk_cell BK390.out 3).trans rfl, (blk_cell BK390.out 4).trans rfl, (blk_cell BK390.out 5).trans rfl, (blk_cell BK391.out 0).trans rfl, (blk_cell BK391.out 1).trans rfl⟩ (fun hHeld => ?_)
         clear hK K
         refine norm_ (a' := ?_) ?_ ?_
         rotate_left
         ·
          show Act.put _ (some 6) _ = _
          simp only [apz, i64_w, i32_w]
          rfl
         refine one_ (i := 21) (N := some 44) (bm 25 12582911) rfl rfl (one_of HT_.out (by kernel_rfl)) (by decide) (fun K hK => ?_)
         refine goes_ Tryd.func22 (by kernel_rfl) rfl #[.int .i64 a0_1, .int .i64 a1_0, .int .i64 a0_3, .int .i64 a1_1, .int .i64 a0_5] (by rfl) rfl rfl (by (try simp only [List.map_toArray, List.map_cons, List.map_nil]); first | done | rfl | (simp only [List.length_drop, List.length_take]; rfl)) ?_
         with_reducible refine (pointillistref08_sum.calls kj2 a0_1 a1_0 a0_3 a1_1 a0_5 t397 _ A33.out).mono ?_
         rintro e w55 ⟨rfl, hb⟩
         refine ⟨_, rfl, ?_⟩
         have n0_ := Aside0.mk (blk_below (bq BK390.out) hb)
         have n1_ := Aside0.mk (blk_below (bq BK391.out) hb)
         have n2_ := Aside0.mk (blk_below (bq BK392.out) hb)
         have n3_ := Aside0.mk (blk_below (bq BK398.out) hb)
         have n4_ := Aside0.mk (below_step (wq HB.out) hb)
         clear BK390 BK391 BK392 BK398; clear HB; have BK390 := n0_; have BK391 := n1_; have BK392 := n2_; have BK398 := n3_; have HB := n4_; clear n0_ n1_ n2_ n3_ n4_
         (try clear hb)
         (try clear hb2)
         (try clear hk)
         (try clear hi)
         refine hK.out _ _ ⟨(blk_cell BK390.out 0).trans rfl, (blk_cell BK390.out 1).trans rfl, (blk_cell BK390.out 2).trans rfl, (blk_cell BK390.out 3).trans rfl, (blk_cell BK390.out 4).trans rfl, (blk_cell BK390.out 5).trans rfl, (blk_cell BK391.out 0).trans rfl, (blk_cell BK391.out 1).trans rfl⟩ (fun hHeld => ?_)
         clear hK K
         refine norm_ (a' := ?_) ?_ ?_
         rotate_left
         ·
          show Act.put _ (some 44) _ = _
          simp only [apz, i64_w, i32_w]
          rfl
         refine pure_ (i := 22) (N := some 45) (v := ?_) (a' := ?_) (bt 24 1) rfl rfl (any_of HT_.out (by kernel_rfl)) (fun _ _ _ h => h) (Or.inl ⟨by rfl, ?_⟩) ?_ ?_
         rotate_left; focus (intro w'; go_simp; with_reducible rfl)
         rotate_left; focus (simp only [apz, i64_w, i32_w]; rfl)
         exact norm_ (by simp only [putAll, apz]) (hCont (gb398) _ ⟨hHeld, (bq BK390.out), (bq BK391.out), (bq BK392.out), (bq BK398.out), GW398.out, GE398.out, NB390_398.out, NB398_390.out, NB391_398.out, NB398_391.out, NB392_398.out, NB398_392.out, (wq HB.out)⟩)
       ·
        skip
        refine box_step ?hg (N := 6) ?hd (cs := #[.int .i64 0, .int .i64 0]) (t := 25) ?hr ?_; (case hd => rfl); (case hg => rfl); (case hr => first | (go_simp; done) | (go_simp; rfl))
        intro gb398 hg w53 hbox hb
        have n0_ := Aside0.mk (blk_below (bq BK390.out) hb)
        have n1_ := Aside0.mk (blk_below (bq BK391.out) hb)
        have n2_ := Aside0.mk (blk_below (bq BK392.out) hb)
        have n3_ := Aside0.mk (below_step (wq HB.out) hb)
        have n4_ := Aside0.mk (hbox)
        have n5_ := Aside0.mk ((by rw [hg]; exact (below_size (wq HB.out)) : w.heap.size ≤ gb398))
        have n6_ := Aside0.mk ((by rw [hg]; exact (below_size (wq HB.out)) : w.heap.size ≤ gb398))
        have n7_ := Aside0.mk ((by rw [hg]; exact Nat.ne_of_lt (blk_lt (bq BK390.out)) : gb390 ≠ gb398))
        have n8_ := Aside0.mk ((by rw [hg]; exact Nat.ne_of_gt (blk_lt (bq BK390.out)) : gb398 ≠ gb390))
        have n9_ := Aside0.mk ((by rw [hg]; exact Nat.ne_of_lt (blk_lt (bq BK391.out)) : gb391 ≠ gb398))
        have n10_ := Aside0.mk ((by rw [hg]; exact Nat.ne_of_gt (blk_lt (bq BK391.out)) : gb398 ≠ gb391))
        have n11_ := Aside0.mk ((by rw [hg]; exact Nat.ne_of_lt (blk_lt (bq BK392.out)) : gb392 ≠ gb398))
        have n12_ := Aside0.mk ((by rw [hg]; exact Nat.ne_of_gt (blk_lt (bq BK392.out)) : gb398 ≠ gb392))
        clear BK390 BK391 BK392 HB; have BK390 := n0_; have BK391 := n1_; have BK392 := n2_; have HB := n3_; have BK398 := n4_; have GW398 := n5_; have GE398 := n6_; have NB390_398 := n7_; have NB398_390 := n8_; have NB391_398 := n9_; have NB398_391 := n10_; have NB392_398 := n11_; have NB398_392 := n12_; clear n0_ n1_ n2_ n3_ n4_ n5_ n6_ n7_ n8_ n9_ n10_ n11_ n12_ hb hbox hg
        refine hK.out _ _ ⟨(blk_cell BK390.out 0).trans rfl, (blk_cell BK390.out 1).trans rfl, (blk_cell BK390.out 2).trans rfl, (blk_cell BK390.out 3).trans rfl, (blk_cell BK390.out 4).trans rfl, (blk_cell BK390.out 5).trans rfl, (blk_cell BK391.out 0).trans rfl, (blk_cell BK391.out 1).trans rfl⟩ (fun hHeld => ?_)
        clear hK K
        refine norm_ (a' := ?_) ?_ ?_
        rotate_left
        ·
         show Act.put _ (some 6) _ = _
         simp only [apz, i64_w, i32_w]
         rfl
        refine one_ (i := 10) (N := some 33) (bm 25 10485759) rfl rfl (one_of HT_.out (by kernel_rfl)) (by decide) (fun K hK => ?_)
        refine goes_ Tryd.func22 (by kernel_rfl) rfl #[.int .i64 a0_0, .int .i64 a1_0, .int .i64 a0_2, .int .i64 a1_1, .int .i64 a0_4] (by rfl) rfl rfl (by (try simp only [List.map_toArray, List.map_cons, List.map_nil]); first | done | rfl | (simp only [List.length_drop, List.length_take]; rfl)) ?_
        with_reducible refine (pointillistref08_sum.calls kj2 a0_0 a1_0 a0_2 a1_1 a0_4 t396 _ A32.out).mono ?_
        rintro e w54 ⟨rfl, hb⟩
        refine ⟨_, rfl, ?_⟩
        have n0_ := Aside0.mk (blk_below (bq BK390.out) hb)
        have n1_ := Aside0.mk (blk_below (bq BK391.out) hb)
        have n2_ := Aside0.mk (blk_below (bq BK392.out) hb)
        have n3_ := Aside0.mk (blk_below (bq BK398.out) hb)
        have n4_ := Aside0.mk (below_step (wq HB.out) hb)
        clear BK390 BK391 BK392 BK398; clear HB; have BK390 := n0_; have BK391 := n1_; have BK392 := n2_; have BK398 := n3_; have HB := n4_; clear n0_ n1_ n2_ n3_ n4_
        (try clear hb)
        (try clear hb2)
        (try clear hk)
        (try clear hi)
        refine hK.out _ _ ⟨(blk_cell BK390.out 0).trans rfl, (blk_cell BK390.out 1).trans rfl, (blk_cell BK390.out 2).trans rfl, (blk_cell BK390.out 3).trans rfl, (blk_cell BK390.out 4).trans rfl, (blk_cell BK390.out 5).trans rfl, (blk_cell BK391.out 0).trans rfl, (blk_cell BK391.out 1).trans rfl⟩ (fun hHeld => ?_)
        clear hK K
        refine norm_ (a' := ?_) ?_ ?_
        rotate_left
        ·
         show Act.put _ (some 33) _ = _
         simp only [apz, i64_w, i32_w]
         rfl
        refine one_ (i := 21) (N := some 44) (bm 25 12582911) rfl rfl (one_of HT_.out (by kernel_rfl)) (by decide) (fun K hK => ?_)
        refine goes_ Tryd.func22 (by kernel_rfl) rfl #[.int .i64 a0_1, .int .i64 a1_0, .int .i64 a0_3, .int .i64 a1_1, .int .i64 a0_5] (by rfl) rfl rfl (by (try simp only [List.map_toArray, List.map_cons, List.map_nil]); first | done | rfl | (simp only [List.length_drop, List.length_take]; rfl)) ?_
        with_reducible refine (pointillistref08_sum.calls kj2 a0_1 a1_0 a0_3 a1_1 a0_5 t397 _ A33.out).mono ?_
        rintro e w55 ⟨rfl, hb⟩
        refine ⟨_, rfl, ?_⟩
        have n0_ := Aside0.mk (blk_below (bq BK390.out) hb)
        have n1_ := Aside0.mk (blk_below (bq BK391.out) hb)
        have n2_ := Aside0.mk (blk_below (bq BK392.out) hb)
        have n3_ := Aside0.mk (blk_below (bq BK398.out) hb)
        have n4_ := Aside0.mk (below_step (wq HB.out) hb)
        clear BK390 BK391 BK392 BK398; clear HB; have BK390 := n0_; have BK391 := n1_; have BK392 := n2_; have BK398 := n3_; have HB := n4_; clear n0_ n1_ n2_ n3_ n4_
        (try clear hb)
        (try clear hb2)
        (try clear hk)
        (try clear hi)
        refine hK.out _ _ ⟨(blk_cell BK390.out 0).trans rfl, (blk_cell BK390.out 1).trans rfl, (blk_cell BK390.out 2).trans rfl, (blk_cell BK390.out 3).trans rfl, (blk_cell BK390.out 4).trans rfl, (blk_cell BK390.out 5).trans rfl, (blk_cell BK391.out 0).trans rfl, (blk_cell BK391.out 1).trans rfl⟩ (fun hHeld => ?_)
        clear hK K
        refine norm_ (a' := ?_) ?_ ?_
        rotate_left
        ·
         show Act.put _ (some 44) _ = _
         simp only [apz, i64_w, i32_w]
         rfl
        refine pure_ (i := 22) (N := some 45) (v := ?_) (a' := ?_) (bt 24 1) rfl rfl (any_of HT_.out (by kernel_rfl)) (fun _ _ _ h => h) (Or.inl ⟨by rfl, ?_⟩) ?_ ?_
        rotate_left; focus (intro w'; go_simp; with_reducible rfl)
        rotate_left; focus (simp only [apz, i64_w, i32_w]; rfl)
        exact norm_ (by simp only [putAll, apz]) (hCont (gb398) _ ⟨hHeld, (bq BK390.out), (bq BK391.out), (bq BK392.out), (bq BK398.out), GW398.out, GE398.out, NB390_398.out, NB398_390.out, NB391_398.out, NB398_391.out, NB392_398.out, NB398_392.out, (wq HB.out)⟩)
      rintro gb398 w56 ⟨hS_, h0_, h1_, h2_, h3_, h4_, h5_, h6_, h7_, h8_, h9_, h10_, h11_, h12_⟩
      have n0_ : Aside0 (w56.heap[gb390]? = some (.cells #[.int .i64 a0_0, .int .i64 a0_1, .int .i64 a0_2, .int .i64 a0_3, .int .i64 a0_4, .int .i64 a0_5] 23 (0, 0))) := ⟨h0_⟩
      have n1_ : Aside0 (w56.heap[gb391]? = some (.cells #[.int .i64 a1_0, .int .i64 a1_1] 25 (0, 0))) := ⟨h1_⟩
      have n2_ : Aside0 (w56.heap[gb392]? = some (.cells #[.int .i64 0, .int .i64 0] 25 (0, 0))) := ⟨h2_⟩
      have n3_ : Aside0 (w56.heap[gb398]? = some (.cells #[.int .i64 0, .int .i64 0] 25 (0, 0))) := ⟨h3_⟩
      have n4_ : Aside0 (w.heap.size ≤ gb398) := ⟨h4_⟩
      have n5_ : Aside0 (w.heap.size ≤ gb398) := ⟨h5_⟩
      have n6_ : Aside0 (gb390 ≠ gb398) := ⟨h6_⟩
      have n7_ : Aside0 (gb398 ≠ gb390) := ⟨h7_⟩
      have n8_ : Aside0 (gb391 ≠ gb398) := ⟨h8_⟩
      have n9_ : Aside0 (gb398 ≠ gb391) := ⟨h9_⟩
      have n10_ : Aside0 (gb392 ≠ gb398) := ⟨h10_⟩
      have n11_ : Aside0 (gb398 ≠ gb392) := ⟨h11_⟩
      have n12_ : Aside0 (Below w.heap.size w w56) := ⟨h12_⟩
      clear BK390 BK391 BK392 HB; clear h0_ h1_ h2_ h3_ h4_ h5_ h6_ h7_ h8_ h9_ h10_ h11_ h12_; have BK390 := n0_; have BK391 := n1_; have BK392 := n2_; have BK398 := n3_; have GW398 := n4_; have GE398 := n5_; have NB390_398 := n6_; have NB398_390 := n7_; have NB391_398 := n8_; have NB398_391 := n9_; have NB392_398 := n10_; have NB398_392 := n11_; have HB := n12_; clear n0_ n1_ n2_ n3_ n4_ n5_ n6_ n7_ n8_ n9_ n10_ n11_ n12_
      have hHeld : w56.cell? ⟨gb390, 0, none⟩ = some (.int .i64 a0_0) ∧ w56.cell? ⟨gb390, 1, none⟩ = some (.int .i64 a0_1) ∧ w56.cell? ⟨gb390, 2, none⟩ = some (.int .i64 a0_2) ∧ w56.cell? ⟨gb390, 3, none⟩ = some (.int .i64 a0_3) ∧ w56.cell? ⟨gb390, 4, none⟩ = some (.int .i64 a0_4) ∧ w56.cell? ⟨gb390, 5, none⟩ = some (.int .i64 a0_5) ∧ w56.cell? ⟨gb391, 0, none⟩ = some (.int .i64 a1_0) ∧ w56.cell? ⟨gb391, 1, none⟩ = some (.int .i64 a1_1) := hS_
      refine norm_ (a' := ?_) ?_ ?_
      rotate_left
      ·
       simp only [putAll, apz]
       rfl
      refine one_ (i := 24) (N := none) (bt 25 0) rfl rfl (one_of HT_.out (by kernel_rfl)) (by decide) (fun K hK => ?_)
      have hs57 : w56.cell? ⟨gb398, 0, none⟩ = some (.int .i64 0) := (blk_cell BK398.out 0).trans rfl
      have hfs57 := blk_frozen BK398.out 0
      have hns57_0 := NB390_398.out
      have hns57_1 := NB391_398.out
      have hns57_2 := NB392_398.out
      have hms57_0 := NB398_390.out
      have hms57_1 := NB398_391.out
      have hms57_2 := NB398_392.out
      have hs58 : w56.cell? ⟨gb398, 1, none⟩ = some (.int .i64 0) := (blk_cell BK398.out 1).trans rfl
      have hfs58 := blk_frozen BK398.out 1
      have hns58_0 := NB390_398.out
      have hns58_1 := NB391_398.out
      have hns58_2 := NB392_398.out
      have hms58_0 := NB398_390.out
      have hms58_1 := NB398_391.out
      have hms58_2 := NB398_392.out
      refine skip_ (w1 := ?_) (by rfl) rfl ?_ ?_
      rotate_left
      ·
       go_simp
       rfl
      refine hK.out _ _ ⟨(cf NB390_398.out ((cf NB390_398.out (hHeld.1)))), (cf NB390_398.out ((cf NB390_398.out (hHeld.2.1)))), (cf NB390_398.out ((cf NB390_398.out (hHeld.2.2.1)))), (cf NB390_398.out ((cf NB390_398.out (hHeld.2.2.2.1)))), (cf NB390_398.out ((cf NB390_398.out (hHeld.2.2.2.2.1)))), (cf NB390_398.out ((cf NB390_398.out (hHeld.2.2.2.2.2.1)))), (cf NB391_398.out ((cf NB391_398.out (hHeld.2.2.2.2.2.2.1)))), (cf NB391_398.out ((cf NB391_398.out (hHeld.2.2.2.2.2.2.2))))⟩ (fun hHeld => ?_)
      clear hK K
      refine done_ (done_of HT_.out (by kernel_rfl)) ?_
      have hnb59 := NB398_390.out
      have hnc59 := NB390_398.out
      have hnb60 := NB398_391.out
      have hnc60 := NB391_398.out
      have hnb61 := NB398_392.out
      have hnc61 := NB392_398.out
      have hcz62_0 : w56.cell? ⟨gb398, 0, none⟩ = some (.int .i64 0) := (blk_cell BK398.out 0).trans rfl
      have hcz62_1 : w56.cell? ⟨gb398, 1, none⟩ = some (.int .i64 0) := (blk_cell BK398.out 1).trans rfl
      have hfz62_0 := blk_frozen BK398.out 0
      have hfz62_1 := blk_frozen BK398.out 1
      try go_wp2_with (first | ((with_reducible refine gate_callee (f := 14) rfl ?_); refine goesL_ (some 48) rfl rfl Tryd.func14 (by kernel_rfl) rfl #[.int .i64 t396] rfl (by (try simp only [List.map_toArray, List.map_cons, List.map_nil]); first | done | rfl | (simp only [List.length_drop, List.length_take]; rfl)) ?_; (with_reducible refine (pointillistref08_In.calls t396 true _ A34.out).mono ?_); rintro e w' ⟨rfl, ⟨nd, rfl⟩⟩; refine ⟨_, rfl, ?_⟩) | (go_at_call 14; (with_reducible refine (pointillistref08_In.calls t397 false _ A36.out).mono ?_); rintro e w' ⟨rfl, ⟨nd, rfl⟩⟩; have hnb63 := NB392_390.out; have hnc63 := NB390_392.out; have hnb64 := NB392_391.out; have hnc64 := NB391_392.out; have hcz65_0 : w56.cell? ⟨gb392, 0, none⟩ = some (.int .i64 0) := (blk_cell BK392.out 0).trans rfl; have hcz65_1 : w56.cell? ⟨gb392, 1, none⟩ = some (.int .i64 0) := (blk_cell BK392.out 1).trans rfl; have hfz65_0 := blk_frozen BK392.out 0; have hfz65_1 := blk_frozen BK392.out 1))
      refine bodyPost_ret (results_ct rfl _ _ gb392 25 #[.int .i64 0, .int .i64 0] (0, 0) _ rfl (by refine bq ?_; refine blk_put (cs := #[.int .i64 0, .int .i64 0]) ?_ 1 _ rfl; refine bq ?_; refine blk_put (cs := #[.int .i64 0, .int .i64 0]) ?_ 0 _ rfl; refine bq ?_; refine blk_far ?_ NB392_398.out _; refine bq ?_; refine blk_far ?_ NB392_398.out _; refine bq ?_; exact BK392.out) Tryd.underlying25 rfl (by kernel_rfl)) rfl ?_
      exact ⟨by first | rfl | (simp [errW_none, errW_some] <;> rfl) | (simp [*, errW_none, errW_some] <;> rfl), by exact wq HB.out⟩
    ·
     replace c35 := Bool.eq_false_iff.mpr c35
     subst c35
     have H1 : (some (0, 0, 2)) = some (r1, r2, r3) := by rw [if_neg (show ¬ (false = true) by decide)] at H; exact H
     clear H
     have H := H1
     clear H1
     simp only [Option.some.injEq, Prod.mk.injEq] at H
     obtain ⟨rfl, rfl, rfl⟩ := H
     try go_wp2
     have n0_ := Aside0.mk (blk_drew BK390.out)
     have n1_ := Aside0.mk (blk_drew BK391.out)
     have n2_ := Aside0.mk (blk_drew BK392.out)
     have n3_ := Aside0.mk (below_drew1 HB.out)
     clear BK390 BK391 BK392 HB; have BK390 := n0_; have BK391 := n1_; have BK392 := n2_; have HB := n3_; clear n0_ n1_ n2_ n3_
     refine start_ (n := 25) (S := fun w' => w'.cell? ⟨gb390, 0, none⟩ = some (.int .i64 a0_0) ∧ w'.cell? ⟨gb390, 1, none⟩ = some (.int .i64 a0_1) ∧ w'.cell? ⟨gb390, 2, none⟩ = some (.int .i64 a0_2) ∧ w'.cell? ⟨gb390, 3, none⟩ = some (.int .i64 a0_3) ∧ w'.cell? ⟨gb390, 4, none⟩ = some (.int .i64 a0_4) ∧ w'.cell? ⟨gb390, 5, none⟩ = some (.int .i64 a0_5) ∧ w'.cell? ⟨gb391, 0, none⟩ = some (.int .i64 a1_0) ∧ w'.cell? ⟨gb391, 1, none⟩ = some (.int .i64 a1_1)) (ds := []) (bt 0 25) (by kernel_rfl) rfl rfl ⟨(blk_cell BK390.out 0).trans rfl, (blk_cell BK390.out 1).trans rfl, (blk_cell BK390.out 2).trans rfl, (blk_cell BK390.out 3).trans rfl, (blk_cell BK390.out 4).trans rfl, (blk_cell BK390.out 5).trans rfl, (blk_cell BK391.out 0).trans rfl, (blk_cell BK391.out 1).trans rfl⟩ (fun hHeld => ?_); refine with_tabW pointillistref08_Apply.tab3 pointillistref08_Apply.bits3 (fun HT_ HW_ => ?_)
     generalize wc.drew = w66 at BK390 BK391 BK392 HB hHeld ⊢
     refine pure_ (i := 0) (N := some 23) (v := ?_) (a' := ?_) (bt 1 24) rfl rfl (any_of HT_.out (by kernel_rfl)) (fun _ _ _ h => h) (Or.inl ⟨by rfl, ?_⟩) ?_ ?_
     rotate_left; focus (intro w'; go_simp; with_reducible rfl)
     rotate_left; focus (simp only [apz, i64_w, i32_w]; rfl)
     refine pure_ (i := 2) (N := some 25) (v := ?_) (a' := ?_) (bm 25 5) rfl rfl (any_of HT_.out (by kernel_rfl)) (fun _ _ _ h => h) (Or.inl ⟨by rfl, ?_⟩) ?_ ?_
     rotate_left; focus (intro w'; go_simp; with_reducible rfl)
     rotate_left; focus (simp only [apz, i64_w, i32_w]; rfl)
     refine pure_ (i := 4) (N := some 27) (v := ?_) (a' := ?_) (bm 25 21) rfl rfl (any_of HT_.out (by kernel_rfl)) (fun _ _ _ h => h) (Or.inl ⟨by rfl, ?_⟩) ?_ ?_
     rotate_left; focus (intro w'; go_simp; with_reducible rfl)
     rotate_left; focus (simp only [apz, i64_w, i32_w]; rfl)
     refine pure_ (i := 6) (N := some 29) (v := ?_) (a' := ?_) (bm 25 85) rfl rfl (any_of HT_.out (by kernel_rfl)) (fun _ _ _ h => h) (Or.inl ⟨by rfl, ?_⟩) ?_ ?_
     rotate_left; focus (intro w'; go_simp; with_reducible rfl)
     rotate_left; focus (simp only [apz, i64_w, i32_w]; rfl)
     refine pure_ (i := 8) (N := some 31) (v := ?_) (a' := ?_) (bm 25 341) rfl rfl (any_of HT_.out (by kernel_rfl)) (fun _ _ _ h => h) (Or.inl ⟨by rfl, ?_⟩) ?_ ?_
     rotate_left; focus (intro w'; go_simp; with_reducible rfl)
     rotate_left; focus (simp only [apz, i64_w, i32_w]; rfl)
     refine pure_ (i := 11) (N := some 34) (v := ?_) (a' := ?_) (bm 25 2389) rfl rfl (any_of HT_.out (by kernel_rfl)) (fun _ _ _ h => h) (Or.inl ⟨by rfl, ?_⟩) ?_ ?_
     rotate_left; focus (intro w'; go_simp; with_reducible rfl)
     rotate_left; focus (simp only [apz, i64_w, i32_w]; rfl)
     refine pure_ (i := 13) (N := some 36) (v := ?_) (a' := ?_) (bm 25 10581) rfl rfl (any_of HT_.out (by kernel_rfl)) (fun _ _ _ h => h) (Or.inl ⟨by rfl, ?_⟩) ?_ ?_
     rotate_left; focus (intro w'; go_simp; with_reducible rfl)
     rotate_left; focus (simp only [apz, i64_w, i32_w]; rfl)
     refine pure_ (i := 15) (N := some 38) (v := ?_) (a' := ?_) (bm 25 43349) rfl rfl (any_of HT_.out (by kernel_rfl)) (fun _ _ _ h => h) (Or.inl ⟨by rfl, ?_⟩) ?_ ?_
     rotate_left; focus (intro w'; go_simp; with_reducible rfl)
     rotate_left; focus (simp only [apz, i64_w, i32_w]; rfl)
     refine pure_ (i := 17) (N := some 40) (v := ?_) (a' := ?_) (bm 25 174421) rfl rfl (any_of HT_.out (by kernel_rfl)) (fun _ _ _ h => h) (Or.inl ⟨by rfl, ?_⟩) ?_ ?_
     rotate_left; focus (intro w'; go_simp; with_reducible rfl)
     rotate_left; focus (simp only [apz, i64_w, i32_w]; rfl)
     refine pure_ (i := 19) (N := some 42) (v := ?_) (a' := ?_) (bm 25 698709) rfl rfl (any_of HT_.out (by kernel_rfl)) (fun _ _ _ h => h) (Or.inl ⟨by rfl, ?_⟩) ?_ ?_
     rotate_left; focus (intro w'; go_simp; with_reducible rfl)
     rotate_left; focus (simp only [apz, i64_w, i32_w]; rfl)
     refine take_ (i := 1) (N := some 24) (v := ?_) (a' := ?_) (bm 25 698711) rfl rfl (take_ofW HT_.out HW_.out (by kernel_rfl)) (fun _ _ _ h => h) (Or.inl ⟨by rfl, ?_⟩) hHeld ?_ ?_
     rotate_left
     ·
      rintro w' ⟨s0, s1, s2, s3, s4, s5, s6, s7⟩
      go_simp
      with_reducible rfl
     rotate_left; focus (simp only [apz, i64_w, i32_w]; rfl)
     refine take_ (i := 3) (N := some 26) (v := ?_) (a' := ?_) (bm 25 698719) rfl rfl (take_ofW HT_.out HW_.out (by kernel_rfl)) (fun _ _ _ h => h) (Or.inl ⟨by rfl, ?_⟩) hHeld ?_ ?_
     rotate_left
     ·
      rintro w' ⟨s0, s1, s2, s3, s4, s5, s6, s7⟩
      go_simp
      with_reducible rfl
     rotate_left; focus (simp only [apz, i64_w, i32_w]; rfl)
     refine take_ (i := 5) (N := some 28) (v := ?_) (a' := ?_) (bm 25 698751) rfl rfl (take_ofW HT_.out HW_.out (by kernel_rfl)) (fun _ _ _ h => h) (Or.inl ⟨by rfl, ?_⟩) hHeld ?_ ?_
     rotate_left
     ·
      rintro w' ⟨s0, s1, s2, s3, s4, s5, s6, s7⟩
      go_simp
      with_reducible rfl
     rotate_left; focus (simp only [apz, i64_w, i32_w]; rfl)
     refine take_ (i := 7) (N := some 30) (v := ?_) (a' := ?_) (bm 25 698879) rfl rfl (take_ofW HT_.out HW_.out (by kernel_rfl)) (fun _ _ _ h => h) (Or.inl ⟨by rfl, ?_⟩) hHeld ?_ ?_
     rotate_left
     ·
      rintro w' ⟨s0, s1, s2, s3, s4, s5, s6, s7⟩
      go_simp
      with_reducible rfl
     rotate_left; focus (simp only [apz, i64_w, i32_w]; rfl)
     refine take_ (i := 9) (N := some 32) (v := ?_) (a' := ?_) (bm 25 699391) rfl rfl (take_ofW HT_.out HW_.out (by kernel_rfl)) (fun _ _ _ h => h) (Or.inl ⟨by rfl, ?_⟩) hHeld ?_ ?_
     rotate_left
     ·
      rintro w' ⟨s0, s1, s2, s3, s4, s5, s6, s7⟩
      go_simp
      with_reducible rfl
     rotate_left; focus (simp only [apz, i64_w, i32_w]; rfl)
     refine take_ (i := 12) (N := some 35) (v := ?_) (a' := ?_) (bm 25 703487) rfl rfl (take_ofW HT_.out HW_.out (by kernel_rfl)) (fun _ _ _ h => h) (Or.inl ⟨by rfl, ?_⟩) hHeld ?_ ?_
     rotate_left
     ·
      rintro w' ⟨s0, s1, s2, s3, s4, s5, s6, s7⟩
      go_simp
      with_reducible rfl
     rotate_left; focus (simp only [apz, i64_w, i32_w]; rfl)
     refine take_ (i := 14) (N := some 37) (v := ?_) (a' := ?_) (bm 25 719871) rfl rfl (take_ofW HT_.out HW_.out (by kernel_rfl)) (fun _ _ _ h => h) (Or.inl ⟨by rfl, ?_⟩) hHeld ?_ ?_
     rotate_left
     ·
      rintro w' ⟨s0, s1, s2, s3, s4, s5, s6, s7⟩
      go_simp
      with_reducible rfl
     rotate_left; focus (simp only [apz, i64_w, i32_w]; rfl)
     refine take_ (i := 16) (N := some 39) (v := ?_) (a' := ?_) (bm 25 785407) rfl rfl (take_ofW HT_.out HW_.out (by kernel_rfl)) (fun _ _ _ h => h) (Or.inl ⟨by rfl, ?_⟩) hHeld ?_ ?_
     rotate_left
     ·
      rintro w' ⟨s0, s1, s2, s3, s4, s5, s6, s7⟩
      go_simp
      with_reducible rfl
     rotate_left; focus (simp only [apz, i64_w, i32_w]; rfl)
     refine take_ (i := 18) (N := some 41) (v := ?_) (a' := ?_) (bm 25 1047551) rfl rfl (take_ofW HT_.out HW_.out (by kernel_rfl)) (fun _ _ _ h => h) (Or.inl ⟨by rfl, ?_⟩) hHeld ?_ ?_
     rotate_left
     ·
      rintro w' ⟨s0, s1, s2, s3, s4, s5, s6, s7⟩
      go_simp
      with_reducible rfl
     rotate_left; focus (simp only [apz, i64_w, i32_w]; rfl)
     refine take_ (i := 20) (N := some 43) (v := ?_) (a' := ?_) (bm 25 2096127) rfl rfl (take_ofW HT_.out HW_.out (by kernel_rfl)) (fun _ _ _ h => h) (Or.inl ⟨by rfl, ?_⟩) hHeld ?_ ?_
     rotate_left
     ·
      rintro w' ⟨s0, s1, s2, s3, s4, s5, s6, s7⟩
      go_simp
      with_reducible rfl
     rotate_left; focus (simp only [apz, i64_w, i32_w]; rfl)
     refine join_ (σ := Nat) 1 (bt 24 1) (fun s_ => [(33, .int .i64 t396), (44, .int .i64 t397), (6, .pointer (some ⟨s_, 0, none⟩)), (45, .agg #[.int .i64 t396, .int .i64 t397])]) (fun s_ w' => (w'.cell? ⟨gb390, 0, none⟩ = some (.int .i64 a0_0) ∧ w'.cell? ⟨gb390, 1, none⟩ = some (.int .i64 a0_1) ∧ w'.cell? ⟨gb390, 2, none⟩ = some (.int .i64 a0_2) ∧ w'.cell? ⟨gb390, 3, none⟩ = some (.int .i64 a0_3) ∧ w'.cell? ⟨gb390, 4, none⟩ = some (.int .i64 a0_4) ∧ w'.cell? ⟨gb390, 5, none⟩ = some (.int .i64 a0_5) ∧ w'.cell? ⟨gb391, 0, none⟩ = some (.int .i64 a1_0) ∧ w'.cell? ⟨gb391, 1, none⟩ = some (.int .i64 a1_1)) ∧ (w'.heap[gb390]? = some (.cells #[.int .i64 a0_0, .int .i64 a0_1, .int .i64 a0_2, .int .i64 a0_3, .int .i64 a0_4, .int .i64 a0_5] 23 (0, 0))) ∧ (w'.heap[gb391]? = some (.cells #[.int .i64 a1_0, .int .i64 a1_1] 25 (0, 0))) ∧ (w'.heap[gb392]? = some (.cells #[.int .i64 0, .int .i64 0] 25 (0, 0))) ∧ (w'.heap[s_]? = some (.cells #[.int .i64 0, .int .i64 0] 25 (0, 0))) ∧ (w.heap.size ≤ s_) ∧ (w.heap.size ≤ s_) ∧ (gb390 ≠ s_) ∧ (s_ ≠ gb390) ∧ (gb391 ≠ s_) ∧ (s_ ≠ gb391) ∧ (gb392 ≠ s_) ∧ (s_ ≠ gb392) ∧ (Below w.heap.size w w')) ?_ ?_
     rotate_left
     ·
      intro hCont
      refine two_ (i := 10) (j := 23) (Ni := some 33) (Nj := some 6) (bt 21 4) (bm 25 10484735) rfl rfl rfl rfl (two_of HT_.out (by kernel_rfl)) (by decide) (by decide) (fun K hK => ?_) (fun K hK => ?_)
      ·
       skip
       refine goes_ Tryd.func22 (by kernel_rfl) rfl #[.int .i64 a0_0, .int .i64 a1_0, .int .i64 a0_2, .int .i64 a1_1, .int .i64 a0_4] (by rfl) rfl rfl (by (try simp only [List.map_toArray, List.map_cons, List.map_nil]); first | done | rfl | (simp only [List.length_drop, List.length_take]; rfl)) ?_
       with_reducible refine (pointillistref08_sum.calls kj2 a0_0 a1_0 a0_2 a1_1 a0_4 t396 _ A32.out).mono ?_
       rintro e w67 ⟨rfl, hb⟩
       refine ⟨_, rfl, ?_⟩
       have n0_ := Aside0.mk (blk_below (bq BK390.out) hb)
       have n1_ := Aside0.mk (blk_below (bq BK391.out) hb)
       have n2_ := Aside0.mk (blk_below (bq BK392.out) hb)
       have n3_ := Aside0.mk (below_step (wq HB.out) hb)
       clear BK390 BK391 BK392 HB; have BK390 := n0_; have BK391 := n1_; have BK392 := n2_; have HB := n3_; clear n0_ n1_ n2_ n3_
       (try clear hb)
       (try clear hb2)
       (try clear hk)
       (try clear hi)
       refine hK.out _ _ ⟨(blk_cell BK390.out 0).trans rfl, (blk_cell BK390.out 1).trans rfl, (blk_cell BK390.out 2).trans rfl, (blk_cell BK390.out 3).trans rfl, (blk_cell BK390.out 4).trans rfl, (blk_cell BK390.out 5).trans rfl, (blk_cell BK391.out 0).trans rfl, (blk_cell BK391.out 1).trans rfl⟩ (fun hHeld => ?_)
       clear hK K
       refine norm_ (a' := ?_) ?_ ?_
       rotate_left
       ·
        show Act.put _ (some 33) _ = _
        simp only [apz, i64_w, i32_w]
        rfl
       refine two_ (i := 21) (j := 23) (Ni := some 44) (Nj := some 6) (bt 22 3) (bm 25 10485759) rfl rfl rfl rfl (two_of HT_.out (by kernel_rfl)) (by decide) (by decide) (fun K hK => ?_) (fun K hK => ?_)
       ·
        skip
        refine goes_ Tryd.func22 (by kernel_rfl) rfl #[.int .i64 a0_1, .int .i64 a1_0, .int .i64 a0_3, .int .i64 a1_1, .int .i64 a0_5] (by rfl) rfl rfl (by (try simp only [List.map_toArray, List.map_cons, List.map_nil]); first | done | rfl | (simp only [List.length_drop, List.length_take]; rfl)) ?_
        with_reducible refine (pointillistref08_sum.calls kj2 a0_1 a1_0 a0_3 a1_1 a0_5 t397 _ A33.out).mono ?_
        rintro e w68 ⟨rfl, hb⟩
        refine ⟨_, rfl, ?_⟩
        have n0_ := Aside0.mk (blk_below (bq BK390.out) hb)
        have n1_ := Aside0.mk (blk_below (bq BK391.out) hb)
        have n2_ := Aside0.mk (blk_below (bq BK392.out) hb)
        have n3_ := Aside0.mk (below_step (wq HB.out) hb)
        clear BK390 BK391 BK392 HB; have BK390 := n0_; have BK391 := n1_; have BK392 := n2_; have HB := n3_; clear n0_ n1_ n2_ n3_
        (try clear hb)
        (try clear hb2)
        (try clear hk)
        (try clear hi)
        refine hK.out _ _ ⟨(blk_cell BK390.out 0).trans rfl, (blk_cell BK390.out 1).trans rfl, (blk_cell BK390.out 2).trans rfl, (blk_cell BK390.out 3).trans rfl, (blk_cell BK390.out 4).trans rfl, (blk_cell BK390.out 5).trans rfl, (blk_cell BK391.out 0).trans rfl, (blk_cell BK391.out 1).trans rfl⟩ (fun hHeld => ?_)
        clear hK K
        refine norm_ (a' := ?_) ?_ ?_
        rotate_left
        ·
         show Act.put _ (some 44) _ = _
         simp only [apz, i64_w, i32_w]
         rfl
        refine pure_ (i := 22) (N := some 45) (v := ?_) (a' := ?_) (bt 23 2) rfl rfl (any_of HT_.out (by kernel_rfl)) (fun _ _ _ h => h) (Or.inl ⟨by rfl, ?_⟩) ?_ ?_
        rotate_left; focus (intro w'; go_simp; with_reducible rfl)
        rotate_left; focus (simp only [apz, i64_w, i32_w]; rfl)
        refine one_ (i := 23) (N := some 6) (bt 24 1) rfl rfl (one_of HT_.out (by kernel_rfl)) (by decide) (fun K hK => ?_)
        refine box_step ?hg (N := 6) ?hd (cs := #[.int .i64 0, .int .i64 0]) (t := 25) ?hr ?_; (case hd => rfl); (case hg => rfl); (case hr => first | (go_simp; done) | (go_simp; rfl))
        intro gb398 hg w69 hbox hb
        have n0_ := Aside0.mk (blk_below (bq BK390.out) hb)
        have n1_ := Aside0.mk (blk_below (bq BK391.out) hb)
        have n2_ := Aside0.mk (blk_below (bq BK392.out) hb)
        have n3_ := Aside0.mk (below_step (wq HB.out) hb)
        have n4_ := Aside0.mk (hbox)
        have n5_ := Aside0.mk ((by rw [hg]; exact (below_size (wq HB.out)) : w.heap.size ≤ gb398))
        have n6_ := Aside0.mk ((by rw [hg]; exact (below_size (wq HB.out)) : w.heap.size ≤ gb398))
        have n7_ := Aside0.mk ((by rw [hg]; exact Nat.ne_of_lt (blk_lt (bq BK390.out)) : gb390 ≠ gb398))
        have n8_ := Aside0.mk ((by rw [hg]; exact Nat.ne_of_gt (blk_lt (bq BK390.out)) : gb398 ≠ gb390))
        have n9_ := Aside0.mk ((by rw [hg]; exact Nat.ne_of_lt (blk_lt (bq BK391.out)) : gb391 ≠ gb398))
        have n10_ := Aside0.mk ((by rw [hg]; exact Nat.ne_of_gt (blk_lt (bq BK391.out)) : gb398 ≠ gb391))
        have n11_ := Aside0.mk ((by rw [hg]; exact Nat.ne_of_lt (blk_lt (bq BK392.out)) : gb392 ≠ gb398))
        have n12_ := Aside0.mk ((by rw [hg]; exact Nat.ne_of_gt (blk_lt (bq BK392.out)) : gb398 ≠ gb392))
        clear BK390 BK391 BK392 HB; have BK390 := n0_; have BK391 := n1_; have BK392 := n2_; have HB := n3_; have BK398 := n4_; have GW398 := n5_; have GE398 := n6_; have NB390_398 := n7_; have NB398_390 := n8_; have NB391_398 := n9_; have NB398_391 := n10_; have NB392_398 := n11_; have NB398_392 := n12_; clear n0_ n1_ n2_ n3_ n4_ n5_ n6_ n7_ n8_ n9_ n10_ n11_ n12_ hb hbox hg
        refine hK.out _ _ ⟨(blk_cell BK390.out 0).trans rfl, (blk_cell BK390.out 1).trans rfl, (blk_cell BK390.out 2).trans rfl, (blk_cell BK390.out 3).trans rfl, (blk_cell BK390.out 4).trans rfl, (blk_cell BK390.out 5).trans rfl, (blk_cell BK391.out 0).trans rfl, (blk_cell BK391.out 1).trans rfl⟩ (fun hHeld => ?_)
        clear hK K
        refine norm_ (a' := ?_) ?_ ?_
        rotate_left
        ·
         show Act.put _ (some 6) _ = _
         simp only [apz, i64_w, i32_w]
         rfl
        exact norm_ (by simp only [putAll, apz]) (hCont (gb398) _ ⟨hHeld, (bq BK390.out), (bq BK391.out), (bq BK392.out), (bq BK398.out), GW398.out, GE398.out, NB390_398.out, NB398_390.out, NB391_398.out, NB398_391.out, NB392_398.out, NB398_392.out, (wq HB.out)⟩)
       ·
        skip
        refine box_step ?hg (N := 6) ?hd (cs := #[.int .i64 0, .int .i64 0]) (t := 25) ?hr ?_; (case hd => rfl); (case hg => rfl); (case hr => first | (go_simp; done) | (go_simp; rfl))
        intro gb398 hg w68 hbox hb
        have n0_ := Aside0.mk (blk_below (bq BK390.out) hb)
        have n1_ := Aside0.mk (blk_below (bq BK391.out) hb)
        have n2_ := Aside0.mk (blk_below (bq BK392.out) hb)
        have n3_ := Aside0.mk (below_step (wq HB.out) hb)
        have n4_ := Aside0.mk (hbox)
        have n5_ := Aside0.mk ((by rw [hg]; exact (below_size (wq HB.out)) : w.heap.size ≤ gb398))
        have n6_ := Aside0.mk ((by rw [hg]; exact (below_size (wq HB.out)) : w.heap.size ≤ gb398))
        have n7_ := Aside0.mk ((by rw [hg]; exact Nat.ne_of_lt (blk_lt (bq BK390.out)) : gb390 ≠ gb398))
        have n8_ := Aside0.mk ((by rw [hg]; exact Nat.ne_of_gt (blk_lt (bq BK390.out)) : gb398 ≠ gb390))
        have n9_ := Aside0.mk ((by rw [hg]; exact Nat.ne_of_lt (blk_lt (bq BK391.out)) : gb391 ≠ gb398))
        have n10_ := Aside0.mk ((by rw [hg]; exact Nat.ne_of_gt (blk_lt (bq BK391.out)) : gb398 ≠ gb391))
        have n11_ := Aside0.mk ((by rw [hg]; exact Nat.ne_of_lt (blk_lt (bq BK392.out)) : gb392 ≠ gb398))
        have n12_ := Aside0.mk ((by rw [hg]; exact Nat.ne_of_gt (blk_lt (bq BK392.out)) : gb398 ≠ gb392))
        clear BK390 BK391 BK392 HB; have BK390 := n0_; have BK391 := n1_; have BK392 := n2_; have HB := n3_; have BK398 := n4_; have GW398 := n5_; have GE398 := n6_; have NB390_398 := n7_; have NB398_390 := n8_; have NB391_398 := n9_; have NB398_391 := n10_; have NB392_398 := n11_; have NB398_392 := n12_; clear n0_ n1_ n2_ n3_ n4_ n5_ n6_ n7_ n8_ n9_ n10_ n11_ n12_ hb hbox hg
        refine hK.out _ _ ⟨(blk_cell BK390.out 0).trans rfl, (blk_cell BK390.out 1).trans rfl, (blk_cell BK390.out 2).trans rfl, (blk_cell BK390.out 3).trans rfl, (blk_cell BK390.out 4).trans rfl, (blk_cell BK390.out 5).trans rfl, (blk_cell BK391.out 0).trans rfl, (blk_cell BK391.out 1).trans rfl⟩ (fun hHeld => ?_)
        clear hK K
        refine norm_ (a' := ?_) ?_ ?_
        rotate_left
        ·
         show Act.put _ (some 6) _ = _
         simp only [apz, i64_w, i32_w]
         rfl
        refine one_ (i := 21) (N := some 44) (bm 25 12582911) rfl rfl (one_of HT_.out (by kernel_rfl)) (by decide) (fun K hK => ?_)
        refine goes_ Tryd.func22 (by kernel_rfl) rfl #[.int .i64 a0_1, .int .i64 a1_0, .int .i64 a0_3, .int .i64 a1_1, .int .i64 a0_5] (by rfl) rfl rfl (by (try simp only [List.map_toArray, List.map_cons, List.map_nil]); first | done | rfl | (simp only [List.length_drop, List.length_take]; rfl)) ?_
        with_reducible refine (pointillistref08_sum.calls kj2 a0_1 a1_0 a0_3 a1_1 a0_5 t397 _ A33.out).mono ?_
        rintro e w69 ⟨rfl, hb⟩
        refine ⟨_, rfl, ?_⟩
        have n0_ := Aside0.mk (blk_below (bq BK390.out) hb)
        have n1_ := Aside0.mk (blk_below (bq BK391.out) hb)
        have n2_ := Aside0.mk (blk_below (bq BK392.out) hb)
        have n3_ := Aside0.mk (blk_below (bq BK398.out) hb)
        have n4_ := Aside0.mk (below_step (wq HB.out) hb)
        clear BK390 BK391 BK392 BK398; clear HB; have BK390 := n0_; have BK391 := n1_; have BK392 := n2_; have BK398 := n3_; have HB := n4_; clear n0_ n1_ n2_ n3_ n4_
        (try clear hb)
        (try clear hb2)
        (try clear hk)
        (try clear hi)
        refine hK.out _ _ ⟨(blk_cell BK390.out 0).trans rfl, (blk_cell BK390.out 1).trans rfl, (blk_cell BK390.out 2).trans rfl, (blk_cell BK390.out 3).trans rfl, (blk_cell BK390.out 4).trans rfl, (blk_cell BK390.out 5).trans rfl, (blk_cell BK391.out 0).trans rfl, (blk_cell BK391.out 1).trans rfl⟩ (fun hHeld => ?_)
        clear hK K
        refine norm_ (a' := ?_) ?_ ?_
        rotate_left
        ·
         show Act.put _ (some 44) _ = _
         simp only [apz, i64_w, i32_w]
         rfl
        refine pure_ (i := 22) (N := some 45) (v := ?_) (a' := ?_) (bt 24 1) rfl rfl (any_of HT_.out (by kernel_rfl)) (fun _ _ _ h => h) (Or.inl ⟨by rfl, ?_⟩) ?_ ?_
        rotate_left; focus (intro w'; go_simp; with_reducible rfl)
        rotate_left; focus (simp only [apz, i64_w, i32_w]; rfl)
        exact norm_ (by simp only [putAll, apz]) (hCont (gb398) _ ⟨hHeld, (bq BK390.out), (bq BK391.out), (bq BK392.out), (bq BK398.out), GW398.out, GE398.out, NB390_398.out, NB398_390.out, NB391_398.out, NB398_391.out, NB392_398.out, NB398_392.out, (wq HB.out)⟩)
      ·
       skip
       refine box_step ?hg (N := 6) ?hd (cs := #[.int .i64 0, .int .i64 0]) (t := 25) ?hr ?_; (case hd => rfl); (case hg => rfl); (case hr => first | (go_simp; done) | (go_simp; rfl))
       intro gb398 hg w67 hbox hb
       have n0_ := Aside0.mk (blk_below (bq BK390.out) hb)
       have n1_ := Aside0.mk (blk_below (bq BK391.out) hb)
       have n2_ := Aside0.mk (blk_below (bq BK392.out) hb)
       have n3_ := Aside0.mk (below_step (wq HB.out) hb)
       have n4_ := Aside0.mk (hbox)
       have n5_ := Aside0.mk ((by rw [hg]; exact (below_size (wq HB.out)) : w.heap.size ≤ gb398))
       have n6_ := Aside0.mk ((by rw [hg]; exact (below_size (wq HB.out)) : w.heap.size ≤ gb398))
       have n7_ := Aside0.mk ((by rw [hg]; exact Nat.ne_of_lt (blk_lt (bq BK390.out)) : gb390 ≠ gb398))
       have n8_ := Aside0.mk ((by rw [hg]; exact Nat.ne_of_gt (blk_lt (bq BK390.out)) : gb398 ≠ gb390))
       have n9_ := Aside0.mk ((by rw [hg]; exact Nat.ne_of_lt (blk_lt (bq BK391.out)) : gb391 ≠ gb398))
       have n10_ := Aside0.mk ((by rw [hg]; exact Nat.ne_of_gt (blk_lt (bq BK391.out)) : gb398 ≠ gb391))
       have n11_ := Aside0.mk ((by rw [hg]; exact Nat.ne_of_lt (blk_lt (bq BK392.out)) : gb392 ≠ gb398))
       have n12_ := Aside0.mk ((by rw [hg]; exact Nat.ne_of_gt (blk_lt (bq BK392.out)) : gb398 ≠ gb392))
       clear BK390 BK391 BK392 HB; have BK390 := n0_; have BK391 := n1_; have BK392 := n2_; have HB := n3_; have BK398 := n4_; have GW398 := n5_; have GE398 := n6_; have NB390_398 := n7_; have NB398_390 := n8_; have NB391_398 := n9_; have NB398_391 := n10_; have NB392_398 := n11_; have NB398_392 := n12_; clear n0_ n1_ n2_ n3_ n4_ n5_ n6_ n7_ n8_ n9_ n10_ n11_ n12_ hb hbox hg
       refine hK.out _ _ ⟨(blk_cell BK390.out 0).trans rfl, (blk_cell BK390.out 1).trans rfl, (blk_cell BK390.out 2).trans rfl, (blk_cell BK390.out 3).trans rfl, (blk_cell BK390.out 4).trans rfl, (blk_cell BK390.out 5).trans rfl, (blk_cell BK391.out 0).trans rfl, (blk_cell BK391.out 1).trans rfl⟩ (fun hHeld => ?_)
       clear hK K
       refine norm_ (a' := ?_) ?_ ?_
       rotate_left
       ·
        show Act.put _ (some 6) _ = _
        simp only [apz, i64_w, i32_w]
        rfl
       refine one_ (i := 10) (N := some 33) (bm 25 10485759) rfl rfl (one_of HT_.out (by kernel_rfl)) (by decide) (fun K hK => ?_)
       refine goes_ Tryd.func22 (by kernel_rfl) rfl #[.int .i64 a0_0, .int .i64 a1_0, .int .i64 a0_2, .int .i64 a1_1, .int .i64 a0_4] (by rfl) rfl rfl (by (try simp only [List.map_toArray, List.map_cons, List.map_nil]); first | done | rfl | (simp only [List.length_drop, List.length_take]; rfl)) ?_
       with_reducible refine (pointillistref08_sum.calls kj2 a0_0 a1_0 a0_2 a1_1 a0_4 t396 _ A32.out).mono ?_
       rintro e w68 ⟨rfl, hb⟩
       refine ⟨_, rfl, ?_⟩
       have n0_ := Aside0.mk (blk_below (bq BK390.out) hb)
       have n1_ := Aside0.mk (blk_below (bq BK391.out) hb)
       have n2_ := Aside0.mk (blk_below (bq BK392.out) hb)
       have n3_ := Aside0.mk (blk_below (bq BK398.out) hb)
       have n4_ := Aside0.mk (below_step (wq HB.out) hb)
       clear BK390 BK391 BK392 BK398; clear HB; have BK390 := n0_; have BK391 := n1_; have BK392 := n2_; have BK398 := n3_; have HB := n4_; clear n0_ n1_ n2_ n3_ n4_
       (try clear hb)
       (try clear hb2)
       (try clear hk)
       (try clear hi)
       refine hK.out _ _ ⟨(blk_cell BK390.out 0).trans rfl, (blk_cell BK390.out 1).trans rfl, (blk_cell BK390.out 2).trans rfl, (blk_cell BK390.out 3).trans rfl, (blk_cell BK390.out 4).trans rfl, (blk_cell BK390.out 5).trans rfl, (blk_cell BK391.out 0).trans rfl, (blk_cell BK391.out 1).trans rfl⟩ (fun hHeld => ?_)
       clear hK K
       refine norm_ (a' := ?_) ?_ ?_
       rotate_left
       ·
        show Act.put _ (some 33) _ = _
        simp only [apz, i64_w, i32_w]
        rfl
       refine one_ (i := 21) (N := some 44) (bm 25 12582911) rfl rfl (one_of HT_.out (by kernel_rfl)) (by decide) (fun K hK => ?_)
       refine goes_ Tryd.func22 (by kernel_rfl) rfl #[.int .i64 a0_1, .int .i64 a1_0, .int .i64 a0_3, .int .i64 a1_1, .int .i64 a0_5] (by rfl) rfl rfl (by (try simp only [List.map_toArray, List.map_cons, List.map_nil]); first | done | rfl | (simp only [List.length_drop, List.length_take]; rfl)) ?_
       with_reducible refine (pointillistref08_sum.calls kj2 a0_1 a1_0 a0_3 a1_1 a0_5 t397 _ A33.out).mono ?_
       rintro e w69 ⟨rfl, hb⟩
       refine ⟨_, rfl, ?_⟩
       have n0_ := Aside0.mk (blk_below (bq BK390.out) hb)
       have n1_ := Aside0.mk (blk_below (bq BK391.out) hb)
       have n2_ := Aside0.mk (blk_below (bq BK392.out) hb)
       have n3_ := Aside0.mk (blk_below (bq BK398.out) hb)
       have n4_ := Aside0.mk (below_step (wq HB.out) hb)
       clear BK390 BK391 BK392 BK398; clear HB; have BK390 := n0_; have BK391 := n1_; have BK392 := n2_; have BK398 := n3_; have HB := n4_; clear n0_ n1_ n2_ n3_ n4_
       (try clear hb)
       (try clear hb2)
       (try clear hk)
       (try clear hi)
       refine hK.out _ _ ⟨(blk_cell BK390.out 0).trans rfl, (blk_cell BK390.out 1).trans rfl, (blk_cell BK390.out 2).trans rfl, (blk_cell BK390.out 3).trans rfl, (blk_cell BK390.out 4).trans rfl, (blk_cell BK390.out 5).trans rfl, (blk_cell BK391.out 0).trans rfl, (blk_cell BK391.out 1).trans rfl⟩ (fun hHeld => ?_)
       clear hK K
       refine norm_ (a' := ?_) ?_ ?_
       rotate_left
       ·
        show Act.put _ (some 44) _ = _
        simp only [apz, i64_w, i32_w]
        rfl
       refine pure_ (i := 22) (N := some 45) (v := ?_) (a' := ?_) (bt 24 1) rfl rfl (any_of HT_.out (by kernel_rfl)) (fun _ _ _ h => h) (Or.inl ⟨by rfl, ?_⟩) ?_ ?_
       rotate_left; focus (intro w'; go_simp; with_reducible rfl)
       rotate_left; focus (simp only [apz, i64_w, i32_w]; rfl)
       exact norm_ (by simp only [putAll, apz]) (hCont (gb398) _ ⟨hHeld, (bq BK390.out), (bq BK391.out), (bq BK392.out), (bq BK398.out), GW398.out, GE398.out, NB390_398.out, NB398_390.out, NB391_398.out, NB398_391.out, NB392_398.out, NB398_392.out, (wq HB.out)⟩)
     rintro gb398 w70 ⟨hS_, h0_, h1_, h2_, h3_, h4_, h5_, h6_, h7_, h8_, h9_, h10_, h11_, h12_⟩
     have n0_ : Aside0 (w70.heap[gb390]? = some (.cells #[.int .i64 a0_0, .int .i64 a0_1, .int .i64 a0_2, .int .i64 a0_3, .int .i64 a0_4, .int .i64 a0_5] 23 (0, 0))) := ⟨h0_⟩
     have n1_ : Aside0 (w70.heap[gb391]? = some (.cells #[.int .i64 a1_0, .int .i64 a1_1] 25 (0, 0))) := ⟨h1_⟩
     have n2_ : Aside0 (w70.heap[gb392]? = some (.cells #[.int .i64 0, .int .i64 0] 25 (0, 0))) := ⟨h2_⟩
     have n3_ : Aside0 (w70.heap[gb398]? = some (.cells #[.int .i64 0, .int .i64 0] 25 (0, 0))) := ⟨h3_⟩
     have n4_ : Aside0 (w.heap.size ≤ gb398) := ⟨h4_⟩
     have n5_ : Aside0 (w.heap.size ≤ gb398) := ⟨h5_⟩
     have n6_ : Aside0 (gb390 ≠ gb398) := ⟨h6_⟩
     have n7_ : Aside0 (gb398 ≠ gb390) := ⟨h7_⟩
     have n8_ : Aside0 (gb391 ≠ gb398) := ⟨h8_⟩
     have n9_ : Aside0 (gb398 ≠ gb391) := ⟨h9_⟩
     have n10_ : Aside0 (gb392 ≠ gb398) := ⟨h10_⟩
     have n11_ : Aside0 (gb398 ≠ gb392) := ⟨h11_⟩
     have n12_ : Aside0 (Below w.heap.size w w70) := ⟨h12_⟩
     clear BK390 BK391 BK392 HB; clear h0_ h1_ h2_ h3_ h4_ h5_ h6_ h7_ h8_ h9_ h10_ h11_ h12_; have BK390 := n0_; have BK391 := n1_; have BK392 := n2_; have BK398 := n3_; have GW398 := n4_; have GE398 := n5_; have NB390_398 := n6_; have NB398_390 := n7_; have NB391_398 := n8_; have NB398_391 := n9_; have NB392_398 := n10_; have NB398_392 := n11_; have HB := n12_; clear n0_ n1_ n2_ n3_ n4_ n5_ n6_ n7_ n8_ n9_ n10_ n11_ n12_
     have hHeld : w70.cell? ⟨gb390, 0, none⟩ = some (.int .i64 a0_0) ∧ w70.cell? ⟨gb390, 1, none⟩ = some (.int .i64 a0_1) ∧ w70.cell? ⟨gb390, 2, none⟩ = some (.int .i64 a0_2) ∧ w70.cell? ⟨gb390, 3, none⟩ = some (.int .i64 a0_3) ∧ w70.cell? ⟨gb390, 4, none⟩ = some (.int .i64 a0_4) ∧ w70.cell? ⟨gb390, 5, none⟩ = some (.int .i64 a0_5) ∧ w70.cell? ⟨gb391, 0, none⟩ = some (.int .i64 a1_0) ∧ w70.cell? ⟨gb391, 1, none⟩ = some (.int .i64 a1_1) := hS_
     refine norm_ (a' := ?_) ?_ ?_
     rotate_left
     ·
      simp only [putAll, apz]
      rfl
     refine one_ (i := 24) (N := none) (bt 25 0) rfl rfl (one_of HT_.out (by kernel_rfl)) (by decide) (fun K hK => ?_)
     have hs71 : w70.cell? ⟨gb398, 0, none⟩ = some (.int .i64 0) := (blk_cell BK398.out 0).trans rfl
     have hfs71 := blk_frozen BK398.out 0
     have hns71_0 := NB390_398.out
     have hns71_1 := NB391_398.out
     have hns71_2 := NB392_398.out
     have hms71_0 := NB398_390.out
     have hms71_1 := NB398_391.out
     have hms71_2 := NB398_392.out
     have hs72 : w70.cell? ⟨gb398, 1, none⟩ = some (.int .i64 0) := (blk_cell BK398.out 1).trans rfl
     have hfs72 := blk_frozen BK398.out 1
     have hns72_0 := NB390_398.out
     have hns72_1 := NB391_398.out
     have hns72_2 := NB392_398.out
     have hms72_0 := NB398_390.out
     have hms72_1 := NB398_391.out
     have hms72_2 := NB398_392.out
     refine skip_ (w1 := ?_) (by rfl) rfl ?_ ?_
     rotate_left
     ·
      go_simp
      rfl
     refine hK.out _ _ ⟨(cf NB390_398.out ((cf NB390_398.out (hHeld.1)))), (cf NB390_398.out ((cf NB390_398.out (hHeld.2.1)))), (cf NB390_398.out ((cf NB390_398.out (hHeld.2.2.1)))), (cf NB390_398.out ((cf NB390_398.out (hHeld.2.2.2.1)))), (cf NB390_398.out ((cf NB390_398.out (hHeld.2.2.2.2.1)))), (cf NB390_398.out ((cf NB390_398.out (hHeld.2.2.2.2.2.1)))), (cf NB391_398.out ((cf NB391_398.out (hHeld.2.2.2.2.2.2.1)))), (cf NB391_398.out ((cf NB391_398.out (hHeld.2.2.2.2.2.2.2))))⟩ (fun hHeld => ?_)
     clear hK K
     refine done_ (done_of HT_.out (by kernel_rfl)) ?_
     have hnb73 := NB398_390.out
     have hnc73 := NB390_398.out
     have hnb74 := NB398_391.out
     have hnc74 := NB391_398.out
     have hnb75 := NB398_392.out
     have hnc75 := NB392_398.out
     have hcz76_0 : w70.cell? ⟨gb398, 0, none⟩ = some (.int .i64 0) := (blk_cell BK398.out 0).trans rfl
     have hcz76_1 : w70.cell? ⟨gb398, 1, none⟩ = some (.int .i64 0) := (blk_cell BK398.out 1).trans rfl
     have hfz76_0 := blk_frozen BK398.out 0
     have hfz76_1 := blk_frozen BK398.out 1
     try go_wp2_with (first | ((with_reducible refine gate_callee (f := 14) rfl ?_); refine goesL_ (some 48) rfl rfl Tryd.func14 (by kernel_rfl) rfl #[.int .i64 t396] rfl (by (try simp only [List.map_toArray, List.map_cons, List.map_nil]); first | done | rfl | (simp only [List.length_drop, List.length_take]; rfl)) ?_; (with_reducible refine (pointillistref08_In.calls t396 false _ A34.out).mono ?_); rintro e w' ⟨rfl, ⟨nd, rfl⟩⟩; refine ⟨_, rfl, ?_⟩; have hnb77 := NB392_390.out; have hnc77 := NB390_392.out; have hnb78 := NB392_391.out; have hnc78 := NB391_392.out; have hcz79_0 : w70.cell? ⟨gb392, 0, none⟩ = some (.int .i64 0) := (blk_cell BK392.out 0).trans rfl; have hcz79_1 : w70.cell? ⟨gb392, 1, none⟩ = some (.int .i64 0) := (blk_cell BK392.out 1).trans rfl; have hfz79_0 := blk_frozen BK392.out 0; have hfz79_1 := blk_frozen BK392.out 1))
     refine bodyPost_ret (results_ct rfl _ _ gb392 25 #[.int .i64 0, .int .i64 0] (0, 0) _ rfl (by refine bq ?_; refine blk_put (cs := #[.int .i64 0, .int .i64 0]) ?_ 1 _ rfl; refine bq ?_; refine blk_put (cs := #[.int .i64 0, .int .i64 0]) ?_ 0 _ rfl; refine bq ?_; refine blk_far ?_ NB392_398.out _; refine bq ?_; refine blk_far ?_ NB392_398.out _; refine bq ?_; exact BK392.out) Tryd.underlying25 rfl (by kernel_rfl)) rfl ?_
     exact ⟨by first | rfl | (simp [errW_none, errW_some] <;> rfl) | (simp [*, errW_none, errW_some] <;> rfl), by exact wq HB.out⟩
end Go.Proofs.YtbnjgaeeojcjbaaDoor.PR
namespace Go.Proofs.YtbnjgaeeojcjbaaDoor.PR
open Go.RowKit Go.Proofs.YtbnjgaeeojcjbaaDoorW.PrintWords Go.Proofs.YtbnjgaeeojcjbaaDoorW.PrintLast Go.Proofs.YtbnjgaeeojcjbaaDoorW.PrintMore
theorem refin_eq (a : Int) : pointillistref08_In.f a = some (decide (inZ a)) := by
  unfold pointillistref08_In.f
  by_cases h : a > -4294967296
  · rw [if_pos h]
    congr 1
    rw [Bool.eq_iff_iff, decide_eq_true_eq, decide_eq_true_eq]
    exact ⟨fun h2 => ⟨h, h2⟩, fun h2 => h2.2⟩
  · rw [if_neg h, decide_eq_false (fun h2 => h h2.1)]
theorem refright_eq (a0 a1 a2 a3 a4 a5 : Int) : pointillistref08_Right.f a0 a1 a2 a3 a4 a5 = some (decide (rightM a0 a1 a2 a3 a4 a5)) := by
  unfold pointillistref08_Right.f rightM
  rw [refin_eq, refin_eq, refin_eq, refin_eq, refin_eq, refin_eq]
  simp only [Option.bind_some]
  by_cases h0 : inZ a0
  · by_cases h1 : inZ a1
    · by_cases h2 : inZ a2
      · by_cases h3 : inZ a3
        · by_cases h4 : inZ a4
          · simp [h0, h1, h2, h3, h4]
          · simp [h0, h1, h2, h3, h4]
        · simp [h0, h1, h2, h3]
      · simp [h0, h1, h2]
    · simp [h0, h1]
  · simp [h0]
theorem refsum_ev {a x b y c : Int} (ha : inZ a) (hx : inZ x) (hb : inZ b) (hy : inZ y) (hc : inZ c) : Ev (fun k => pointillistref08_sum.f k a x b y c) (lin a x b y c) := by
  obtain ⟨h1, h2⟩ := lin_le ha hx hb hy hc
  have hd := refdot_ev a x b y 16 (by decide) (inZ_i64 ha) (inZ_i64 hx) (inZ_i64 hb) (inZ_i64 hy)
  have e1 : nearR (a * x + b * y) 16 = near (a * x + b * y) 16 := by
    rw [near16]
    unfold nearR
    have : ((2 ^ 16 : Nat) : Int) = 65536 := by decide
    rw [this]
    omega
  rw [e1, show fitR (near (a * x + b * y) 16) = (near (a * x + b * y) 16, true) from if_pos h1] at hd
  refine Ev.bind hd (f := fun _ bt => some (wrap64 (bt.1 + c))) ?_
  have : wrap64 (near (a * x + b * y) 16 + c) = lin a x b y c := w64' _ h2.1 h2.2
  rw [← this]
  exact Ev.now _
theorem refapply_ev (a0 a1 a2 a3 a4 a5 x y : Int) : Ev (fun k => pointillistref08_Apply.f k a0 a1 a2 a3 a4 a5 x y) (apply a0 a1 a2 a3 a4 a5 x y) := by
  have bad : Ev (fun k => pointillistref08_Apply.j0 k true a0 a1 a2 a3 a4 a5 x y) (0, 0, 1) := Ev.step (f := fun _ => some (0, 0, 1)) (fun k => by rw [pointillistref08_Apply.j0, if_pos rfl]) (Ev.now _)
  unfold pointillistref08_Apply.f apply
  rw [refright_eq, refin_eq, refin_eq]
  simp only [Option.bind_some]
  by_cases hr : rightM a0 a1 a2 a3 a4 a5
  · by_cases hx : inZ x
    · by_cases hy : inZ y
      · have hr' := hr
        obtain ⟨r0, r1, r2, r3, r4, r5⟩ := hr'
        rw [if_pos ⟨hr, hx, hy⟩]
        simp only [decide_eq_true hr, decide_eq_true hx, decide_eq_true hy, if_true, Bool.not_true]
        refine Ev.step (f := fun k => ((pointillistref08_sum.f k a0 x a2 y a4).bind fun t396 => ((pointillistref08_sum.f k a1 x a3 y a5).bind fun t397 => ((pointillistref08_In.f t396).bind fun t399 => (if t399 = true then ((pointillistref08_In.f t397).bind fun t400 => (if t400 = true then (some (t396, t397, 0)) else (some (0, 0, 2)))) else (some (0, 0, 2))))))) (fun k => by rw [pointillistref08_Apply.j0, if_neg (by decide)]) ?_
        refine Ev.bind (refsum_ev r0 hx r2 hy r4) (Ev.bind (refsum_ev r1 hx r3 hy r5) ?_)
        rw [refin_eq, refin_eq]
        simp only [Option.bind_some]
        by_cases h1 : inZ (lin a0 x a2 y a4)
        · by_cases h2 : inZ (lin a1 x a3 y a5)
          · simp only [h1, h2, decide_true, if_true, and_self]
            exact Ev.now _
          · simp only [h1, h2, decide_true, decide_false, if_true, and_false, Bool.false_eq_true, if_false]
            exact Ev.now _
        · simp only [h1, decide_false, false_and, Bool.false_eq_true, if_false]
          exact Ev.now _
      · rw [if_neg (fun h => hy h.2.2)]
        simp only [decide_eq_true hr, decide_eq_true hx, decide_eq_false hy, if_true, Bool.not_false]
        exact bad
    · rw [if_neg (fun h => hx h.2.1)]
      simp only [decide_eq_true hr, decide_eq_false hx, if_true, Bool.false_eq_true, if_false]
      exact bad
  · rw [if_neg (fun h => hr h.1)]
    simp only [decide_eq_false hr, Bool.false_eq_true, if_false]
    exact bad
end Go.Proofs.YtbnjgaeeojcjbaaDoor.PR
namespace Go.Proofs.YtbnjgaeeojcjbaaDoor.PR
open Go.RowKit Go.Proofs.YtbnjgaeeojcjbaaDoorW.PrintWords Go.Proofs.YtbnjgaeeojcjbaaDoorW.PrintLast Go.Proofs.YtbnjgaeeojcjbaaDoorW.PrintMore
attribute [local go_sem] max2_int min2_int max_two min_two max_three min_three max_four min_four
set_option linter.unusedVariables false
set_option linter.unusedSimpArgs false
attribute [local go_sem high] eqA25
theorem all_number_err {k : Nat} {a x b y c d : Int} (h : affine_number.r k a x b y c = some (.error d)) : d ≠ 0 := by
 unfold affine_number.r at h
 obtain ⟨p, _, h⟩ := Option.bind_eq_some_iff.mp h
 split at h
 ·
  obtain ⟨q, _, h⟩ := Option.bind_eq_some_iff.mp h
  split at h
  ·
   obtain ⟨r, _, h⟩ := Option.bind_eq_some_iff.mp h
   split at h
   ·
    cases h
   ·
    cases h; decide
  ·
   cases h; decide
 ·
  cases h; decide
theorem all_err {k : Nat} {a0 a1 a2 a3 a4 a5 x y c : Int} (h : affine_moved.r k a0 a1 a2 a3 a4 a5 x y = some (.error c)) : c ≠ 0 := by
 unfold affine_moved.r at h
 obtain ⟨t, _, h⟩ := Option.bind_eq_some_iff.mp h
 split at h
 ·
  obtain ⟨u, _, h⟩ := Option.bind_eq_some_iff.mp h
  split at h
  ·
   obtain ⟨p, hp, h⟩ := Option.bind_eq_some_iff.mp h
   cases p with
   | error d => cases h; exact all_number_err hp
   | ok m =>
    obtain ⟨q, hq, h⟩ := Option.bind_eq_some_iff.mp h
    cases q with
    | error d => cases h; exact all_number_err hq
    | ok n => cases h
  ·
   cases h; decide
 ·
  cases h; decide
theorem all1_idle (p o : Addr) (w : World) (hc : w.cell? p = some (.int .i64 0)) :
  CallsD Tryd.prog 24 #[.pointer (some p), .pointer (some o)] .returning w fun e u' w' => e = .returned (.tuple #[]) ∧ u' = .returning ∧ w = w' := by
 refine callsD_of_wpS Tryd.func24 rfl fun c₀ cs hu => ?_
 apply wpS_seq
 apply wpS_region
 simp [wpOpsS, go_sem, recoverD, hu, Tryd.ntmps24]
 refine (caught_nil p w).mono ?_
 rintro e w' ⟨rfl, rfl⟩
 simp [Exit.thenS, go_sem]
 apply wpS_of_wp
 go_wp2
 cases c₀
 simp_all [bodyPostS, results, Tryd.results24, go_sem]
 done
theorem all1_panicking (b g : Nat) (x c : Int) (hc0 : c ≠ 0) (v : Value) (w : World) (hne : g ≠ b) (hb : w.heap[b]? = some (.cells #[.int .i64 x] 27 (0, 0))) (ho : w.heap[g]? = some (.cells #[v] 38 (0, 0))) :
  CallsD Tryd.prog 24 #[.pointer (some ⟨b, 0, none⟩), .pointer (some ⟨g, 0, none⟩)] (.panicking (errP c)) w fun e u' w' => e = .returned (.tuple #[]) ∧ u' = .panicking [{ v := .iface 27 (.int .i64 c), recovered := true }] ∧
   w'.heap[b]? = some (.cells #[.int .i64 c] 27 (0, 0)) ∧ w'.heap[g]? = some (.cells #[.slice none 0 0] 38 (0, 0)) ∧ ∀ B w0, B ≤ b → B ≤ g → Below B w0 w → Below B w0 w' := by
 have hu38 := Tryd.underlying38
 have c0 := (blk_cell hb 0).trans rfl
 have z0 := blk_frozen hb 0
 have k0 := (blk_cell ho 0).trans rfl
 have z1 := blk_frozen ho 0
 refine callsD_of_wpS Tryd.func24 rfl fun c₀ cs hu => ?_
 unfold errP at hu
 apply wpS_seq
 apply wpS_region
 simp [wpOpsS, go_sem, recoverD, hu, Tryd.ntmps24]
 refine (caught_err _ x c w c0 z0).mono ?_
 rintro e w' ⟨rfl, rfl⟩
 simp [Exit.thenS, go_sem]
 apply wpS_of_wp
 go_wp2
 have q0 := blk_put (cs' := #[.int .i64 c]) hb 0 (.int .i64 c) rfl
 have q1 := blk_far q0 (p := ⟨g, 0, none⟩) (Ne.symm hne) (.slice none 0 0)
 have p0 := blk_far ho (p := ⟨b, 0, none⟩) hne (.int .i64 c)
 have p1 := blk_put (cs' := #[.slice none 0 0]) p0 0 (.slice none 0 0) rfl
 have hB : ∀ (B : Nat) (w0 : World), B ≤ b → B ≤ g → Below B w0 w → Below B w0 ((w.setCell ⟨b, 0, none⟩ (.int .i64 c)).setCell ⟨g, 0, none⟩ (.slice none 0 0)) :=
  fun B w0 h1 h2 h => (h.setCell (p := ⟨b, 0, none⟩) h1 _).setCell (p := ⟨g, 0, none⟩) h2 _
 clear q0 p0 hb ho
 generalize ((w.setCell ⟨b, 0, none⟩ (.int .i64 c)).setCell ⟨g, 0, none⟩ (.slice none 0 0)) = W at *
 simp [bodyPostS, results, Tryd.results24, go_sem]
 exact ⟨q1, p1, hB⟩
theorem all_leaf (tmps : Array Value) {w : World} (h4 : tmps[4]? = some (.pointer (some ⟨w.heap.size + 1, 0, none⟩))) (h5 : tmps[5]? = some (.pointer (some ⟨w.heap.size + 1 + 1, 0, none⟩))) (W : World) (c : Int) (hc : c ≠ 0) (v : Value)
  (hb : W.heap[w.heap.size + 1 + 1]? = some (.cells #[.int .i64 0] 27 (0, 0))) (ho : W.heap[w.heap.size + 1]? = some (.cells #[v] 38 (0, 0))) (hB : Below w.heap.size w W) :
  Leaves Tryd.prog Tryd.f15 tmps (fun e w' => ∃ v0_ : Value, e = .returned (.tuple #[v0_, .int .i64 c]) ∧ Kd.R k25 25 w' w.heap.size (fun _ => True) v0_ [] ∧ Below w.heap.size w w')
   [{ target := .fn (.func 24) #[.pointer (some ⟨w.heap.size + 1 + 1, 0, none⟩), .pointer (some ⟨w.heap.size + 1, 0, none⟩)], args := #[] }] (.panicking (errP c)) W := by
 refine leaves_cons (f := 24) (args := #[.pointer (some ⟨w.heap.size + 1 + 1, 0, none⟩), .pointer (some ⟨w.heap.size + 1, 0, none⟩)]) (by simp) (by simp [go_sem]) ?_
 refine (all1_panicking _ _ 0 c hc v W (by omega) hb ho).mono ?_
 rintro e u' w' ⟨rfl, rfl, q1, q2, q3⟩
 have hu38 := Tryd.underlying38
 have c0 := (blk_cell q1 0).trans rfl
 have k0 := (blk_cell q2 0).trans rfl
 have hB2 := q3 _ _ (by omega) (by omega) hB
 clear q1 q2 q3
 simp [Leaves, settle, results, Tryd.results15, go_sem, h4, h5, c0, k0]
 exact ⟨Kd.R_nil _ _ _ _ _, hB2⟩
theorem all_leaves_same {P : Program} {fn : Func} {tmps tmps' : Array Value} {R : Ending → World → Prop} (he : results fn tmps = results fn tmps') (ds : List Deferred) : ∀ (u : FrameMode) (w : World), Leaves P fn tmps R ds u w → Leaves P fn tmps' R ds u w := by
 induction ds with
 | nil =>
  intro u w h
  cases u with
  | returning => obtain ⟨v, h1, h2⟩ := h; exact ⟨v, he ▸ h1, h2⟩
  | panicking c => exact h
  | run => exact h
 | cons d ds ih =>
  intro u w h
  obtain ⟨h0, fv, cap, f, args, h1, h2, h3⟩ := h
  refine ⟨h0, fv, cap, f, args, h1, h2, h3.mono ?_⟩
  intro e u' w' h4
  cases e with
  | returned v => exact ih _ _ h4
  | panicked c => exact ih _ _ h4
  | outgrown => exact h4
theorem all_put (a : Act) (d : Nat) (v : Value) (h4 : d ≠ 4) (h5 : d ≠ 5) : results Tryd.f15 (a.put (some d) v).tmps = results Tryd.f15 a.tmps := by
 simp [results, Tryd.results15, Act.put, Array.getD_eq_getD_getElem?, Array.getElem?_setIfInBounds_ne h4, Array.getElem?_setIfInBounds_ne h5]
def all_T6 : Bool × List (List Nat × List Nat) := (true, [([], []), ([], []), ([], []), ([1, 2], [1, 2]), ([3], [3]), ([0, 4, 3], [0, 4]), ([5, 5, 0, 1, 2, 3, 4, 5], [5])])
def all_B6 : List Nat := [0, 0, 0, 6, 14, 31, 63]
theorem all_tab6 : rtab .any (opsOf Tryd.f15 6) = all_T6 := by kernel_rfl
theorem all_bits6 : waitsOk all_T6.2 all_B6 = true := by kernel_rfl
def affine_All.g (k : Nat) (m0 m1 m2 m3 m4 m5 : Int) : List S25 → List S25 → Option (List S25 × Int)
 | [], acc => some (acc, 0)
 | p :: l, acc => (affine_moved.r k m0 m1 m2 m3 m4 m5 p.f0 p.f1).bind fun q => match q with
  | .error c => some ([], c)
  | .ok (x, y) => if acc.length < 8796093022208 then affine_All.g k m0 m1 m2 m3 m4 m5 l (acc ++ [⟨x, y⟩]) else none
def affine_All.f (k : Nat) (m0 m1 m2 m3 m4 m5 : Int) (l : List S25) : Option (List S25 × Int) :=
 if l.length < 4611686018427387904 then (affine_Right.f k m0 m1 m2 m3 m4 m5).bind fun t => if t = true then affine_All.g k m0 m1 m2 m3 m4 m5 l [] else some ([], 1) else none
theorem affine_All.mono_g (m0 m1 m2 m3 m4 m5 : Int) (k : Nat) (l : List S25) : ∀ acc, LeO (affine_All.g k m0 m1 m2 m3 m4 m5 l acc) (affine_All.g (k + 1) m0 m1 m2 m3 m4 m5 l acc) := by
 induction l with
 | nil => exact fun _ => LeO.refl _
 | cons p l ih =>
  intro acc
  refine LeO.bind (affine_moved.mono_r _ _ _ _ _ _ _ _ _) (fun q => ?_)
  cases q with
  | error c => exact LeO.refl _
  | ok z => exact LeO.ite (ih _) (LeO.refl _)
theorem affine_All.mono (m0 m1 m2 m3 m4 m5 : Int) (l : List S25) (k : Nat) : LeO (affine_All.f k m0 m1 m2 m3 m4 m5 l) (affine_All.f (k + 1) m0 m1 m2 m3 m4 m5 l) :=
 LeO.ite (LeO.bind (affine_Right.mono _ _ _ _ _ _ _) (fun _ => LeO.ite (affine_All.mono_g _ _ _ _ _ _ _ _ _) (LeO.refl _))) (LeO.refl _)
set_option maxHeartbeats 8000000 in
set_option maxRecDepth 100000 in
theorem affine_All.calls (k : Nat) (m0 m1 m2 m3 m4 m5 : Int) (A1 : Option Addr) (c1 : Nat) (l1 : List S25) (r1 : List S25) (r2 : Int) (w : World) (hr1 : Kd.C k25 w A1 l1.length l1) (hc1 : l1.length ≤ c1) (hG : Gl w) (h : affine_All.f k m0 m1 m2 m3 m4 m5 l1 = some (r1, r2)) :
  Calls Tryd.prog 15 #[.agg #[.int .i64 m0, .int .i64 m1, .int .i64 m2, .int .i64 m3, .int .i64 m4, .int .i64 m5], .slice A1 l1.length c1] w fun e w' => ∃ v0_ : Value, e = .returned (.tuple #[v0_, .int .i64 r2]) ∧ Kd.R k25 25 w' w.heap.size (fun _ => True) v0_ r1 ∧ Below w.heap.size w w' := by
 have hu25 := Tryd.underlying25
 have hu38 := Tryd.underlying38
 unfold affine_All.f at h
 by_cases hlen : l1.length < 4611686018427387904
 case neg => rw [if_neg hlen] at h; cases h
 rw [if_pos hlen] at h
 obtain ⟨t, ht, H⟩ := Option.bind_eq_some_iff.mp h
 clear h
 have HL := Aside0.mk hlen
 clear hlen
 have HG := Aside0.mk hG
 have HR1 := Aside0.mk hr1
 have HC1 := Aside0.mk hc1
 clear hG hr1 hc1
 have hmf : ∀ (fn : Fn) (first cap : Array Value) (w : World), (Instr.makeFunc fn first cap).run Tryd.prog w = .ok (.func fn first cap) w := fun _ _ _ _ => rfl
 go_enter_defers Tryd.func15, Tryd.ntmps15
 go_wp2_with fail
 refine (affine_Right.calls k _ _ _ _ _ _ _ _ ht).mono ?_
 rintro e w1 ⟨rfl, hb⟩
 have BKm : Aside0 (w1.heap[w.heap.size]? = some (.cells #[.int .i64 m0, .int .i64 m1, .int .i64 m2, .int .i64 m3, .int .i64 m4, .int .i64 m5] 23 (0, 0))) := ⟨blk_below (blk_alloc (blk_alloc (blk_new w _) _) _) hb⟩
 have BKo : Aside0 (w1.heap[w.heap.size + 1]? = some (.cells #[.slice none 0 0] 38 (0, 0))) := ⟨blk_below (blk_alloc (by simpa using blk_new (w.alloc (.cells #[.int .i64 m0, .int .i64 m1, .int .i64 m2, .int .i64 m3, .int .i64 m4, .int .i64 m5] 23 (0, 0))) _) _) hb⟩
 have BKe : Aside0 (w1.heap[w.heap.size + 1 + 1]? = some (.cells #[.int .i64 0] 27 (0, 0))) := ⟨blk_below (by simpa using blk_new ((w.alloc (.cells #[.int .i64 m0, .int .i64 m1, .int .i64 m2, .int .i64 m3, .int .i64 m4, .int .i64 m5] 23 (0, 0))).alloc (.cells #[.slice none 0 0] 38 (0, 0))) _) hb⟩
 have HB : Aside0 (Below w.heap.size w w1) := ⟨(((((Below.refl w.heap.size w).alloc (Nat.le_refl _) _).alloc (by simp) _).alloc (by simp; omega) _)).trans (hb.mono (by simp; omega))⟩
 clear hb
 cases t with
 | false =>
  rw [if_neg (by decide)] at H
  simp only [Option.some.injEq, Prod.mk.injEq] at H
  obtain ⟨rfl, rfl⟩ := H
  go_wp2_with (go_at_call 25; refine (must_no _ _).mono ?_; rintro e w2 ⟨rfl, rfl⟩)
  exact all_leaf _ rfl rfl _ _ (by decide) _ BKe.out BKo.out HB.out
 | true =>
 rw [if_pos rfl] at H
 have H' := Aside0.mk H
 clear H
 go_wp2_with (go_at_call 25; refine (must_ok _ _).mono ?_; rintro e w3 ⟨rfl, rfl⟩)
 go_loopg [14] l1.length (fun kq v14 w' => ∃ (acc : List S25) (i : Nat) (A2 : Option Addr) (nu cu : Nat), v14 = .int .i64 (i : Int) ∧ Aside0 (i + kq = l1.length) ∧ Aside0 (affine_All.g k m0 m1 m2 m3 m4 m5 (l1.drop i) acc = some (r1, r2)) ∧
  Aside0 (w'.heap[w.heap.size + 1]? = some (.cells #[.slice A2 nu cu] 38 (0, 0))) ∧ Aside0 (Kd.R k25 25 w' w.heap.size (fun b => w.heap.size + 1 + 1 < b) (.slice A2 nu cu) acc) ∧
  Aside0 (w'.heap[w.heap.size]? = some (.cells #[.int .i64 m0, .int .i64 m1, .int .i64 m2, .int .i64 m3, .int .i64 m4, .int .i64 m5] 23 (0, 0))) ∧ Aside0 (w'.heap[w.heap.size + 1 + 1]? = some (.cells #[.int .i64 0] 27 (0, 0))) ∧ Aside0 (Below w.heap.size w w'))
 case atStart => exact ⟨[], 0, none, 0, 0, rfl, ⟨by omega⟩, H', BKo, ⟨Kd.R_nil _ _ _ _ _⟩, BKm, BKe, HB⟩
 case round =>
  clear H' BKo BKm BKe HB
  obtain ⟨acc, i, A2, nu, cu, rfl, HI, H', BKo, HO, BKm, BKe, HB⟩ := hrel
  by_cases hlt : i < l1.length
  ·
   obtain ⟨u, hu⟩ : ∃ u, u = Value.slice A2 nu cu := ⟨_, rfl⟩
   rw [← hu] at BKo HO
   clear hu
   have hdr : l1.drop i = l1[i] :: l1.drop (i + 1) := by rw [List.drop_eq_getElem_cons hlt]
   have H := H'.out
   clear H'
   rw [hdr, affine_All.g] at H
   clear hdr
   replace H := Option.bind_eq_some_iff.mp H
   obtain ⟨q, hq, H⟩ := H
   have Hq := Aside0.mk hq
   have HH := Aside0.mk H
   clear hq H
   obtain ⟨ad, ea, hx0, hx1⟩ := at_T25 HR1.out (i : Int) (by omega) (by omega)
   cases ea
   replace hx0 := (HB.out.cell (World.block_lt_of_cell? w _ hx0)).trans hx0
   replace hx1 := (HB.out.cell (World.block_lt_of_cell? w _ hx1)).trans hx1
   have hrd : rd_T25 l1 (i : Int) = l1[i] := by simp [rd_T25, hlt]
   rw [hrd] at hx0 hx1
   simp only [Int.toNat_natCast] at hx0 hx1
   clear hrd
   have hlt2 : decide ((i : Int) < (l1.length : Int)) = true := decide_eq_true (by omega)
   go_wp2
   have lo := blk_lt BKo.out
   have lm := blk_lt BKm.out
   have le := blk_lt BKe.out
   have XP := blk_drew (blk_new wr (.cells #[.int .i64 l1[i].f0, .int .i64 l1[i].f1] 25 (0, 0)))
   have XO := blk_drew (blk_alloc BKo.out (.cells #[.int .i64 l1[i].f0, .int .i64 l1[i].f1] 25 (0, 0)))
   have XM := blk_drew (blk_alloc BKm.out (.cells #[.int .i64 l1[i].f0, .int .i64 l1[i].f1] 25 (0, 0)))
   have XE := blk_drew (blk_alloc BKe.out (.cells #[.int .i64 l1[i].f0, .int .i64 l1[i].f1] 25 (0, 0)))
   have XR := Kd.R_drew (Kd.R_alloc (Kd.R_mono (Kd.R_bound HO.out) (ok' := fun b => w.heap.size + 1 + 1 < b ∧ b ≠ wr.heap.size) (fun _ hk => ⟨hk.1, by have := hk.2.2.1; omega⟩)) (.cells #[.int .i64 l1[i].f0, .int .i64 l1[i].f1] 25 (0, 0)))
   have XB := below_drew1 (HB.out.alloc HB.out.size (.cells #[.int .i64 l1[i].f0, .int .i64 l1[i].f1] 25 (0, 0)))
   clear BKo BKm BKe HO HB
   have BKp := Aside0.mk XP; have BKo := Aside0.mk XO; have BKm := Aside0.mk XM; have BKe := Aside0.mk XE; have HO := Aside0.mk XR; have HB := Aside0.mk XB
   clear XP XO XM XE XR XB hx0 hx1
   refine start_ (n := 7) (S := fun w' => w'.cell? ⟨w.heap.size, 0, none⟩ = some (.int .i64 m0) ∧ w'.cell? ⟨w.heap.size, 1, none⟩ = some (.int .i64 m1) ∧ w'.cell? ⟨w.heap.size, 2, none⟩ = some (.int .i64 m2) ∧ w'.cell? ⟨w.heap.size, 3, none⟩ = some (.int .i64 m3) ∧ w'.cell? ⟨w.heap.size, 4, none⟩ = some (.int .i64 m4) ∧ w'.cell? ⟨w.heap.size, 5, none⟩ = some (.int .i64 m5) ∧ w'.cell? ⟨wr.heap.size, 0, none⟩ = some (.int .i64 l1[i].f0) ∧ w'.cell? ⟨wr.heap.size, 1, none⟩ = some (.int .i64 l1[i].f1) ∧ w'.cell? ⟨w.heap.size + 1, 0, none⟩ = some u) (ds := [6]) (bt 0 7) (by kernel_rfl) rfl rfl
    ⟨(blk_cell BKm.out 0).trans rfl, (blk_cell BKm.out 1).trans rfl, (blk_cell BKm.out 2).trans rfl, (blk_cell BKm.out 3).trans rfl, (blk_cell BKm.out 4).trans rfl, (blk_cell BKm.out 5).trans rfl, (blk_cell BKp.out 0).trans rfl, (blk_cell BKp.out 1).trans rfl, (blk_cell BKo.out 0).trans rfl⟩ (fun hHeld => ?_)
   refine with_tabW all_tab6 all_bits6 (fun HT_ HW_ => ?_)
   generalize World.drew _ = W at BKp BKo BKm BKe HO HB hHeld ⊢
   refine take_ (i := 0) (N := some 18) (v := ?_) (a' := ?_) (bm 7 1) rfl rfl (take_ofW HT_.out HW_.out (by kernel_rfl)) (fun _ a _ h => all_leaves_same (all_put a 18 _ (by decide) (by decide)) _ _ _ h) (Or.inl ⟨by rfl, ?_⟩) hHeld ?_ ?_
   rotate_left; focus (rintro w' ⟨s0, s1, s2, s3, s4, s5, s6, s7, s8⟩; go_simp; with_reducible rfl)
   rotate_left; focus (simp only [apz]; rfl)
   refine take_ (i := 1) (N := some 19) (v := ?_) (a' := ?_) (bm 7 3) rfl rfl (take_ofW HT_.out HW_.out (by kernel_rfl)) (fun _ a _ h => all_leaves_same (all_put a 19 _ (by decide) (by decide)) _ _ _ h) (Or.inl ⟨by rfl, ?_⟩) hHeld ?_ ?_
   rotate_left; focus (rintro w' ⟨s0, s1, s2, s3, s4, s5, s6, s7, s8⟩; go_simp; with_reducible rfl)
   rotate_left; focus (simp only [apz]; rfl)
   refine take_ (i := 2) (N := some 20) (v := ?_) (a' := ?_) (bm 7 7) rfl rfl (take_ofW HT_.out HW_.out (by kernel_rfl)) (fun _ a _ h => all_leaves_same (all_put a 20 _ (by decide) (by decide)) _ _ _ h) (Or.inl ⟨by rfl, ?_⟩) hHeld ?_ ?_
   rotate_left; focus (rintro w' ⟨s0, s1, s2, s3, s4, s5, s6, s7, s8⟩; go_simp; with_reducible rfl)
   rotate_left; focus (simp only [apz]; rfl)
   refine one_ (i := 3) (N := some 21) (bm 7 15) rfl rfl (one_of HT_.out (by kernel_rfl)) (by decide) (fun K hK => ?_)
   rcases q with c | ⟨x, y⟩
   ·
    refine goesP_ Tryd.func21 (by kernel_rfl) rfl #[.agg #[.int .i64 m0, .int .i64 m1, .int .i64 m2, .int .i64 m3, .int .i64 m4, .int .i64 m5], .agg #[.int .i64 l1[i].f0, .int .i64 l1[i].f1]] (by rfl) rfl rfl (by (try simp only [List.map_toArray, List.map_cons, List.map_nil]); first | done | rfl) ?_
    refine (affine_moved.calls_r k _ _ _ _ _ _ _ _ _ _ (HG.out.below HB.out) Hq.out).mono ?_
    rintro e w' ⟨rfl, hb⟩
    refine ⟨_, rfl, ?_⟩
    have H := HH.out
    simp only [Option.some.injEq, Prod.mk.injEq] at H
    obtain ⟨rfl, rfl⟩ := H
    clear hK K hHeld HT_ HW_ HH
    go_wp2
    exact all_leaf _ rfl rfl _ _ (all_err Hq.out) _ (blk_below BKe.out hb) (blk_below BKo.out hb) (below_step HB.out hb)
   have H := HH.out
   clear HH
   dsimp only at H
   by_cases hacc : acc.length < 8796093022208
   ·
    rw [if_pos hacc] at H
    have HH := Aside0.mk H
    have LM := Aside0.mk hacc
    clear H hacc
    refine goes_ Tryd.func21 (by kernel_rfl) rfl #[.agg #[.int .i64 m0, .int .i64 m1, .int .i64 m2, .int .i64 m3, .int .i64 m4, .int .i64 m5], .agg #[.int .i64 l1[i].f0, .int .i64 l1[i].f1]] (by rfl) rfl rfl (by (try simp only [List.map_toArray, List.map_cons, List.map_nil]); first | done | rfl) ?_
    refine (affine_moved.calls_r k _ _ _ _ _ _ _ _ _ _ (HG.out.below HB.out) Hq.out).mono ?_
    rintro e w2 ⟨rfl, hb⟩
    refine ⟨_, rfl, ?_⟩
    have XP := blk_below BKp.out hb
    have XO := blk_below BKo.out hb
    have XM := blk_below BKm.out hb
    have XE := blk_below BKe.out hb
    have XR := Kd.R_below HO.out hb
    have XB := below_step HB.out hb
    clear BKp BKo BKm BKe HO HB hHeld hb
    have BKp := Aside0.mk XP; have BKo := Aside0.mk XO; have BKm := Aside0.mk XM; have BKe := Aside0.mk XE; have HO := Aside0.mk XR; have HB := Aside0.mk XB
    clear XP XO XM XE XR XB
    refine hK.out _ _ ⟨(blk_cell BKm.out 0).trans rfl, (blk_cell BKm.out 1).trans rfl, (blk_cell BKm.out 2).trans rfl, (blk_cell BKm.out 3).trans rfl, (blk_cell BKm.out 4).trans rfl, (blk_cell BKm.out 5).trans rfl, (blk_cell BKp.out 0).trans rfl, (blk_cell BKp.out 1).trans rfl, (blk_cell BKo.out 0).trans rfl⟩ (fun hHeld => ?_)
    clear hK K
    refine norm_ (a' := ?_) ?_ ?_
    rotate_left; focus (show Act.put _ (some 21) _ = _; simp only [apz]; rfl)
    refine one_ (i := 4) (N := some 22) (bm 7 31) rfl rfl (one_of HT_.out (by kernel_rfl)) (by decide) (fun K hK => ?_)
    refine value_ (w1 := ?_) (v := ?_) (by rfl) rfl ?_ ?_
    rotate_left 2
    focus (go_simp; constructor; rfl; rfl)
    have lo2 := blk_lt BKo.out
    have lm2 := blk_lt BKm.out
    have le2 := blk_lt BKe.out
    have lp2 := blk_lt BKp.out
    refine hK.out _ _ ⟨(blk_cell (blk_alloc BKm.out _) 0).trans rfl, (blk_cell (blk_alloc BKm.out _) 1).trans rfl, (blk_cell (blk_alloc BKm.out _) 2).trans rfl, (blk_cell (blk_alloc BKm.out _) 3).trans rfl, (blk_cell (blk_alloc BKm.out _) 4).trans rfl, (blk_cell (blk_alloc BKm.out _) 5).trans rfl, (blk_cell (blk_alloc BKp.out _) 0).trans rfl, (blk_cell (blk_alloc BKp.out _) 1).trans rfl, (blk_cell (blk_alloc BKo.out _) 0).trans rfl⟩ (fun hHeld => ?_)
    clear hK K hHeld
    refine norm_ (a' := ?_) ?_ ?_
    rotate_left; focus (show Act.put _ (some 22) _ = _; simp only [apz]; rfl)
    refine one_ (i := 5) (N := some 23) (bm 7 63) rfl rfl (one_of HT_.out (by kernel_rfl)) (by decide) (fun K hK => ?_)
    refine Kd.R_append_step k25 (w0 := w) (W := w2) w.heap.size (by rfl) (.tmp 18) (.tmp 22) 38 25 (.agg #[(.int .i64 0), (.int .i64 0)]) 16 rfl hu38 info25 rfl (by decide) (by omega) u acc (⟨x, y⟩ : S25) [.int .i64 x, .int .i64 y] (fun b => w.heap.size + 1 + 1 < b ∧ b ≠ wr.heap.size) (fun _ => False) rfl (by first | (go_simp; done) | (go_simp; rfl)) ?aP (fun _ hk => hk.elim) ?aF ?aO ?aB ?aS ?aL ?_
    case aP => exact k25_mkM _ _ _ (⟨x, y⟩ : S25)
    case aB => exact HB.out
    case aF => exact fun k_ hk => by omega
    case aO => exact HO.out
    case aS => exact HB.out.size
    case aL => have := LM.out; omega
    intro v1 w3 ho hb hg hat
    obtain ⟨ad2, cc2, hv1⟩ := Kd.R_slice1 ho (by simp)
    obtain ⟨n2, hn2⟩ : ∃ n2, n2 = (acc ++ [(⟨x, y⟩ : S25)]).length := ⟨_, rfl⟩
    rw [← hn2] at hv1
    clear hn2
    subst hv1
    have nP : some wr.heap.size ≠ u.ownBlock := fun he => (HO.out.1 _ he.symm).2 rfl
    have nO : some (w.heap.size + 1) ≠ u.ownBlock := fun he => absurd (HO.out.1 _ he.symm).1 (by omega)
    have nM : some w.heap.size ≠ u.ownBlock := fun he => absurd (HO.out.1 _ he.symm).1 (by omega)
    have nE : some (w.heap.size + 1 + 1) ≠ u.ownBlock := fun he => absurd (HO.out.1 _ he.symm).1 (by omega)
    have XP := blk_grown BKp.out hg nP
    have XO := blk_grown BKo.out hg nO
    have XM := blk_grown BKm.out hg nM
    have XE := blk_grown BKe.out hg nE
    clear BKp BKo BKm BKe HO HB hg hat nP nO nM nE
    have BKp := Aside0.mk XP; have BKo := Aside0.mk XO; have BKm := Aside0.mk XM; have BKe := Aside0.mk XE; have HO := Aside0.mk ho; have HB := Aside0.mk hb
    clear XP XO XM XE ho hb
    refine hK.out _ _ ⟨(blk_cell BKm.out 0).trans rfl, (blk_cell BKm.out 1).trans rfl, (blk_cell BKm.out 2).trans rfl, (blk_cell BKm.out 3).trans rfl, (blk_cell BKm.out 4).trans rfl, (blk_cell BKm.out 5).trans rfl, (blk_cell BKp.out 0).trans rfl, (blk_cell BKp.out 1).trans rfl, (blk_cell BKo.out 0).trans rfl⟩ (fun hHeld => ?_)
    clear hK K hHeld
    refine norm_ (a' := ?_) ?_ ?_
    rotate_left; focus (show Act.put _ (some 23) _ = _; simp only [apz]; rfl)
    refine last_ (i := 6) (N := none) (bt 7 0) rfl rfl (one_of HT_.out (by kernel_rfl)) (by decide) (fun K hK => ?_)
    have hs := (blk_cell BKo.out 0).trans rfl
    have hf := blk_frozen BKo.out 0
    refine skip_ (w1 := ?_) (by rfl) rfl ?_ ?_
    rotate_left; focus (go_simp; rfl)
    clear hs hf
    have XO := blk_put (cs' := #[.slice (some ad2) n2 cc2]) BKo.out 0 (.slice (some ad2) n2 cc2) rfl
    have XM := blk_far (p := ⟨w.heap.size + 1, 0, none⟩) BKm.out (by show w.heap.size ≠ w.heap.size + 1; omega) (.slice (some ad2) n2 cc2)
    have XE := blk_far (p := ⟨w.heap.size + 1, 0, none⟩) BKe.out (by show w.heap.size + 1 + 1 ≠ w.heap.size + 1; omega) (.slice (some ad2) n2 cc2)
    have XR := Kd.R_far (p := ⟨w.heap.size + 1, 0, none⟩) (Kd.R_mono HO.out (ok' := fun b => w.heap.size + 1 + 1 < b) (fun _ hk => hk.1)) (fun k hk => by show k ≠ w.heap.size + 1; omega) (.slice (some ad2) n2 cc2)
    have XB := HB.out.setCell (p := ⟨w.heap.size + 1, 0, none⟩) (by show w.heap.size ≤ w.heap.size + 1; omega) (.slice (some ad2) n2 cc2)
    clear BKp BKo BKm BKe HO HB
    have BKo := Aside0.mk XO; have BKm := Aside0.mk XM; have BKe := Aside0.mk XE; have HO := Aside0.mk XR; have HB := Aside0.mk XB
    clear XO XM XE XR XB
    generalize w3.setCell ⟨w.heap.size + 1, 0, none⟩ (.slice (some ad2) n2 cc2) = W3 at BKo BKm BKe HO HB ⊢
    refine hK.out _ _ ?_
    clear hK K
    refine done_ (done_of HT_.out (by kernel_rfl)) ?_
    clear HT_ HW_
    have hw1 : wrap64 ((i : Int) + 1) = ((i + 1 : Nat) : Int) := by have := HL.out; unfold wrap64; omega
    have Hw1 := Aside0.mk hw1
    clear hw1
    go_wp2
    rw [Hw1.out]
    cases gk with
    | zero => have := HI.out; omega
    | succ g1 =>
    go_roundg g1
    case measure => omega
    case rel => exact ⟨acc ++ [⟨x, y⟩], i + 1, _, _, _, rfl, ⟨by have := HI.out; omega⟩, HH, BKo, HO, BKm, BKe, HB⟩
   ·
    rw [if_neg hacc] at H
    cases H
  ·
   have H := H'.out
   clear H'
   rw [List.drop_eq_nil_of_le (by omega), affine_All.g] at H
   simp only [Option.some.injEq, Prod.mk.injEq] at H
   obtain ⟨rfl, rfl⟩ := H
   have hlt2 : decide (i < l1.length) = false := decide_eq_false hlt
   clear hlt
   have k0 := (blk_cell BKo.out 0).trans rfl
   have z0 := blk_frozen BKo.out 0
   have ke := (blk_cell BKe.out 0).trans rfl
   have ze := blk_frozen BKe.out 0
   go_wp2
   refine leaves_cons (f := 24) (args := #[.pointer (some ⟨w.heap.size + 1 + 1, 0, none⟩), .pointer (some ⟨w.heap.size + 1, 0, none⟩)]) (by simp) (by simp [go_sem]) ?_
   refine (all1_idle _ _ _ ?_).mono ?_
   ·
    simp [go_sem, ke]
   rintro e u' w'' ⟨rfl, rfl, rfl⟩
   simp [Leaves, settle, results, Tryd.results15, go_sem, k0, ke]
   exact ⟨Kd.R_mono (Kd.R_far (p := ⟨w.heap.size + 1 + 1, 0, none⟩) (Kd.R_far (p := ⟨w.heap.size + 1, 0, none⟩) HO.out (fun k hk => by show k ≠ w.heap.size + 1; omega) _) (fun k hk => by show k ≠ w.heap.size + 1 + 1; omega) _) (fun _ _ => trivial),
    (HB.out.setCell (p := ⟨w.heap.size + 1, 0, none⟩) (by show w.heap.size ≤ w.heap.size + 1; omega) _).setCell (p := ⟨w.heap.size + 1 + 1, 0, none⟩) (by show w.heap.size ≤ w.heap.size + 1 + 1; omega) _⟩
end Go.Proofs.YtbnjgaeeojcjbaaDoor.PR
namespace Go.Proofs.YtbnjgaeeojcjbaaDoor.PR
open Go.RowKit
theorem wakes_true (k : Nat) : pointillistlaw08_wakes.f (k + 7) = some true := by
  unfold pointillistlaw08_wakes.f
  rw [apply_eq]
  have : apply 131072 0 0 196608 65536 0 65536 65536 = (196608, 196608, 0) := by decide
  rw [this]
  rfl
end Go.Proofs.YtbnjgaeeojcjbaaDoor.PR
namespace Go.Proofs.YtbnjgaeeojcjbaaDoor.PR
open Go.RowKit Go.Proofs.YtbnjgaeeojcjbaaDoorW.PrintWords Go.Proofs.YtbnjgaeeojcjbaaDoorW.PrintLast Go.Proofs.YtbnjgaeeojcjbaaDoorW.PrintMore
attribute [local go_sem] max2_int min2_int max_two min_two max_three min_three max_four min_four
set_option linter.unusedVariables false
set_option linter.unusedSimpArgs false
attribute [local go_sem high] eqA25
end Go.Proofs.YtbnjgaeeojcjbaaDoor.PR
namespace Go.Proofs.YtbnjgaeeojcjbaaDoor.PR
open Go.RowKit Go.Proofs.YtbnjgaeeojcjbaaDoorW.PrintWords
theorem ev7 {α : Type} {g : Nat → Option α} {r : α} (h : ∀ k, g (k + 7) = some r) : Ev g r := ⟨7, fun k hk => by obtain ⟨j, rfl⟩ := Nat.exists_eq_add_of_le hk; rw [Nat.add_comm]; exact h j⟩
end Go.Proofs.YtbnjgaeeojcjbaaDoor.PR
namespace Go.Proofs.YtbnjgaeeojcjbaaDoor.PR
open Go.RowKit Go.Proofs.YtbnjgaeeojcjbaaDoorW.PrintWords Go.Proofs.YtbnjgaeeojcjbaaDoorW.PrintLast Go.Proofs.YtbnjgaeeojcjbaaDoorW.PrintMore
attribute [local go_sem] max2_int min2_int max_two min_two max_three min_three max_four min_four
set_option linter.unusedVariables false
set_option linter.unusedSimpArgs false
def pointillistref08_All.l0 : Nat → List (S25) → List (S25) → Int → Int → Int → Int → Int → Int → Int → Option ((List (S25)) × Int)
 | 0, _, _, _, _, _, _, _, _, _ => none
 | k + 1, x1, x6, x7, x453000, x453001, x453002, x453003, x453004, x453005 => if x7 < (x1.length : Int) then (if 0 ≤ x7 then ((pointillistref08_Apply.f k x453000 x453001 x453002 x453003 x453004 x453005 ((rd_T25 x1 x7).f0) ((rd_T25 x1 x7).f1)).bind fun bt455 => (if bt455.2.2 = 0 then (if x6.length < 8796093022208 then (pointillistref08_All.l0 k x1 (x6 ++ [(⟨bt455.1, bt455.2.1⟩ : S25)]) (wrap64 (x7 + 1)) x453000 x453001 x453002 x453003 x453004 x453005) else (none)) else (some (([] : List (S25)), bt455.2.2)))) else (none)) else (some (x6, 0))
def pointillistref08_All.f (k : Nat) (a0_0 : Int) (a0_1 : Int) (a0_2 : Int) (a0_3 : Int) (a0_4 : Int) (a0_5 : Int) (l1 : List (S25)) : Option ((List (S25)) × Int) := (pointillistref08_Right.f a0_0 a0_1 a0_2 a0_3 a0_4 a0_5).bind fun t453 => (if t453 = true then (pointillistref08_All.l0 k l1 ([] : List (S25)) 0 a0_0 a0_1 a0_2 a0_3 a0_4 a0_5) else (some (([] : List (S25)), 1)))
theorem pointillistref08_All.mono_l : ∀ k, (∀ y0 y1 y2 y3 y4 y5 y6 y7 y8, LeO (pointillistref08_All.l0 k y0 y1 y2 y3 y4 y5 y6 y7 y8) (pointillistref08_All.l0 (k + 1) y0 y1 y2 y3 y4 y5 y6 y7 y8))
 | 0 => fun _ _ _ _ _ _ _ _ _ r h => by simp [pointillistref08_All.l0] at h
 | k + 1 => by
  have ih0 := pointillistref08_All.mono_l k
  ·
   intro y0 y1 y2 y3 y4 y5 y6 y7 y8
   unfold pointillistref08_All.l0
   repeat' first
   | (with_reducible exact ih0 _ _ _ _ _ _ _ _ _)
   | (with_reducible exact pointillistref08_Apply.mono _ _ _ _ _ _ _ _ _)
   | (with_reducible exact LeO.refl _)
   | (with_reducible exact LeO.none _)
   | (with_reducible refine LeO.ite ?_ ?_)
   | (with_reducible refine LeO.bind ?_ (fun _ => ?_))
   | exact ih0 _ _ _ _ _ _ _ _ _
   | exact pointillistref08_Apply.mono _ _ _ _ _ _ _ _ _
   | exact LeO.none _
   | refine LeO.ite ?_ ?_
   | refine LeO.bind ?_ (fun _ => ?_)
theorem pointillistref08_All.mono : ∀ a0 a1 a2 a3 a4 a5 a6 k, LeO (pointillistref08_All.f k a0 a1 a2 a3 a4 a5 a6) (pointillistref08_All.f (k + 1) a0 a1 a2 a3 a4 a5 a6) := by
 intro a0 a1 a2 a3 a4 a5 a6 k
 have ih0 := pointillistref08_All.mono_l k
 unfold pointillistref08_All.f
 repeat' first
   | (with_reducible exact ih0 _ _ _ _ _ _ _ _ _)
   | (with_reducible exact pointillistref08_Apply.mono _ _ _ _ _ _ _ _ _)
   | (with_reducible exact LeO.refl _)
   | (with_reducible exact LeO.none _)
   | (with_reducible refine LeO.ite ?_ ?_)
   | (with_reducible refine LeO.bind ?_ (fun _ => ?_))
   | exact ih0 _ _ _ _ _ _ _ _ _
   | exact pointillistref08_Apply.mono _ _ _ _ _ _ _ _ _
   | exact LeO.none _
   | refine LeO.ite ?_ ?_
   | refine LeO.bind ?_ (fun _ => ?_)
def pointillistref08_All.T7 : Bool × List (List Nat × List Nat) := (true, [([], []), ([], []), ([], []), ([1, 2], [1, 2]), ([3], [3]), ([0, 4], [0, 4]), ([5], [5]), ([6], [6]), ([6], [6]), ([], []), ([9, 7, 5, 0, 1, 2, 3, 4, 5, 6, 7, 9], [7, 9]), ([8, 10, 0, 1, 2, 3, 4, 5, 6, 7, 8, 9, 10], [8])])
def pointillistref08_All.B7 : List Nat := [0, 0, 0, 6, 14, 31, 63, 127, 127, 0, 767, 2047]
theorem pointillistref08_All.tab7 : rtab .any (opsOf Tryd.f16 7) = pointillistref08_All.T7 := by kernel_rfl
theorem pointillistref08_All.bits7 : waitsOk pointillistref08_All.T7.2 pointillistref08_All.B7 = true := by kernel_rfl
set_option maxHeartbeats 8000000 in
set_option maxRecDepth 100000 in
theorem pointillistref08_All.calls (k : Nat) (a0_0 : Int) (a0_1 : Int) (a0_2 : Int) (a0_3 : Int) (a0_4 : Int) (a0_5 : Int) (A1 : Option Addr) (c1 : Nat) (l1 : List (S25)) (r1 : List (S25)) (r2 : Int) (w : World) (hr1 : Kd.C k25 w A1 l1.length l1) (hc1 : l1.length ≤ c1) (h : pointillistref08_All.f k a0_0 a0_1 a0_2 a0_3 a0_4 a0_5 l1 = some (r1, r2)) :
  Calls Tryd.prog 16 #[.agg #[.int .i64 a0_0, .int .i64 a0_1, .int .i64 a0_2, .int .i64 a0_3, .int .i64 a0_4, .int .i64 a0_5], .slice A1 l1.length c1] w fun e w' => ∃ v0_ : Value, e = .returned (.tuple #[v0_, .int .i64 r2]) ∧ Kd.R k25 25 w' w.heap.size (fun _ => True) v0_ r1 ∧ Below w.heap.size w w' := by
 have hu23 := Tryd.underlying23
 have hu25 := Tryd.underlying25
 have HR1 := Aside0.mk hr1
 have HC1 := Aside0.mk hc1
 clear hr1 hc1
 have HB := Aside0.mk (Below.refl w.heap.size w)
 have H : ((pointillistref08_Right.f a0_0 a0_1 a0_2 a0_3 a0_4 a0_5).bind fun t453 => (if t453 = true then (pointillistref08_All.l0 k l1 ([] : List (S25)) 0 a0_0 a0_1 a0_2 a0_3 a0_4 a0_5) else (some (([] : List (S25)), 1)))) = some (r1, r2) := h
 clear h
 replace H := Option.bind_eq_some_iff.mp H
 obtain ⟨t453, A30, H⟩ := H
 replace H : (if t453 = true then (pointillistref08_All.l0 k l1 ([] : List (S25)) 0 a0_0 a0_1 a0_2 a0_3 a0_4 a0_5) else (some (([] : List (S25)), 1))) = some (r1, r2) := H
 have A3 := Aside0.mk A30
 clear A30
 by_cases c4 : t453 = true
 ·
  subst c4
  have H1 : (pointillistref08_All.l0 k l1 ([] : List (S25)) 0 a0_0 a0_1 a0_2 a0_3 a0_4 a0_5) = some (r1, r2) := by rw [if_pos rfl] at H; exact H
  clear H
  have H := H1
  clear H1
  have H' := Aside0.mk H
  clear H
  go_enter Tryd.func16, Tryd.ntmps16
  go_wp2_with (first | ((with_reducible refine gate_dst (N := 2) rfl ?_); refine box_event ?hg (N := 2) ?hd (cs := #[.int .i64 a0_0, .int .i64 a0_1, .int .i64 a0_2, .int .i64 a0_3, .int .i64 a0_4, .int .i64 a0_5]) (t := 23) ?hr ?_; (case hd => rfl); (case hg => rfl); (case hr => first | (go_simp; done) | (go_simp; rfl)); intro gb452 hg w5 hbox hb; have n0_ := Aside0.mk (below_step (wq HB.out) hb); have n1_ := Aside0.mk (hbox); have n2_ := Aside0.mk ((by rw [hg]; exact (below_size (wq HB.out)) : w.heap.size ≤ gb452)); have n3_ := n2_; clear HB; have HB := n0_; have BK452 := n1_; have GW452 := n2_; have GE452 := n3_; clear n0_ n1_ n2_ n3_ hb hbox hg; have hcz6_0 : w5.cell? ⟨gb452, 0, none⟩ = some (.int .i64 a0_0) := (blk_cell BK452.out 0).trans rfl; have hcz6_1 : w5.cell? ⟨gb452, 1, none⟩ = some (.int .i64 a0_1) := (blk_cell BK452.out 1).trans rfl; have hcz6_2 : w5.cell? ⟨gb452, 2, none⟩ = some (.int .i64 a0_2) := (blk_cell BK452.out 2).trans rfl; have hcz6_3 : w5.cell? ⟨gb452, 3, none⟩ = some (.int .i64 a0_3) := (blk_cell BK452.out 3).trans rfl; have hcz6_4 : w5.cell? ⟨gb452, 4, none⟩ = some (.int .i64 a0_4) := (blk_cell BK452.out 4).trans rfl; have hcz6_5 : w5.cell? ⟨gb452, 5, none⟩ = some (.int .i64 a0_5) := (blk_cell BK452.out 5).trans rfl; have hfz6_0 := blk_frozen BK452.out 0; have hfz6_1 := blk_frozen BK452.out 1; have hfz6_2 := blk_frozen BK452.out 2; have hfz6_3 := blk_frozen BK452.out 3; have hfz6_4 := blk_frozen BK452.out 4; have hfz6_5 := blk_frozen BK452.out 5) | ((with_reducible refine gate_callee (f := 13) rfl ?_); refine goesL_ (some 11) rfl rfl Tryd.func13 (by kernel_rfl) rfl #[.agg #[.int .i64 a0_0, .int .i64 a0_1, .int .i64 a0_2, .int .i64 a0_3, .int .i64 a0_4, .int .i64 a0_5]] rfl (by (try simp only [List.map_toArray, List.map_cons, List.map_nil]); first | done | rfl | (simp only [List.length_drop, List.length_take]; rfl)) ?_; (with_reducible refine (pointillistref08_Right.calls a0_0 a0_1 a0_2 a0_3 a0_4 a0_5 true _ A3.out).mono ?_); rintro e w7 ⟨rfl, hb⟩; refine ⟨_, rfl, ?_⟩; have n0_ := Aside0.mk (blk_below (bq BK452.out) hb); have n1_ := Aside0.mk (below_step (wq HB.out) hb); clear BK452 HB; have BK452 := n0_; have HB := n1_; clear n0_ n1_; (try clear hb); (try clear hb2); (try clear hk); (try clear hi)))
  go_loopg [6, 7] k (fun kq v6 v7 w' => ∃ (x6_1 : List (S25)) (x7_1 : Int), v7 = .int .i64 x7_1 ∧ Aside0 (pointillistref08_All.l0 kq l1 x6_1 x7_1 a0_0 a0_1 a0_2 a0_3 a0_4 a0_5 = some (r1, r2)) ∧ Aside0 (kq ≤ k) ∧ Aside0 (Kd.R k25 25 w' w.heap.size (fun _ => True) v6 x6_1) ∧ Aside0 (w'.heap[gb452]? = some (.cells #[.int .i64 a0_0, .int .i64 a0_1, .int .i64 a0_2, .int .i64 a0_3, .int .i64 a0_4, .int .i64 a0_5] 23 (0, 0))) ∧ Aside0 (Below w.heap.size w w'))
  case atStart => exact ⟨(([] : List (S25))), (0), (by first | rfl | (simp; done) | (simp [*]; done)), H', ⟨Nat.le_refl _⟩, ⟨by first | exact Kd.R_nil _ _ _ _ _ | exact Kd.N_nil _ _ _ _ _ | exact Kd.V_nil _ _ _ _ _ | exact Kd.Q_nil _ _ _ _ _ | exact Kd.S_nil _ _ _ _ _⟩, ⟨by refine bq ?_; exact BK452.out⟩, ⟨by exact wq HB.out⟩⟩
  case round =>
   clear H'
   try clear c1
   try clear p2
   try clear c4
   try clear hcz6_0
   try clear hcz6_1
   try clear hcz6_2
   try clear hcz6_3
   try clear hcz6_4
   try clear hcz6_5
   try clear hfz6_0
   try clear hfz6_1
   try clear hfz6_2
   try clear hfz6_3
   try clear hfz6_4
   try clear hfz6_5
   obtain ⟨x6_1, x7_1, rfl, HA, HK1, HO_6, BK452, HB⟩ := hrel
   cases gk with
   | zero => exact absurd HA.out (by simp [pointillistref08_All.l0])
   | succ k1 =>
    have H := HA.out
    clear HA
    simp only [pointillistref08_All.l0] at H
    by_cases c8 : x7_1 < (l1.length : Int)
    ·
     rw [if_pos c8] at H
     have c8b0 : decide (x7_1 < (l1.length : Int)) = true := decide_eq_true c8
     clear c8
     by_cases c9 : 0 ≤ x7_1
     ·
      rw [if_pos c9] at H
      have c9b0 : decide (0 ≤ x7_1) = true := decide_eq_true c9
      clear c9
      replace H := Option.bind_eq_some_iff.mp H
      obtain ⟨⟨t455, t456, t457⟩, A100, H⟩ := H
      replace H : (if t457 = 0 then (if x6_1.length < 8796093022208 then (pointillistref08_All.l0 k1 l1 (x6_1 ++ [(⟨t455, t456⟩ : S25)]) (wrap64 (x7_1 + 1)) a0_0 a0_1 a0_2 a0_3 a0_4 a0_5) else (none)) else (some (([] : List (S25)), t457))) = some (r1, r2) := H
      have A10 := Aside0.mk A100
      clear A100
      by_cases c11 : t457 = 0
      ·
       rw [if_pos c11] at H
       have c11b0 : (t457 == 0) = true := beq_iff_eq.mpr c11
       have c11b1 : (t457 != 0) = false := bne_eq_false_iff_eq.mpr c11
       clear c11
       by_cases c12 : x6_1.length < 8796093022208
       ·
        rw [if_pos c12] at H
        have LMc12 := Aside0.mk c12
        clear c12
        obtain ⟨y459, hy459⟩ : ∃ y_ : List (S25), y_ = (x6_1 ++ [(⟨t455, t456⟩ : S25)]) := ⟨_, rfl⟩
        replace H : (pointillistref08_All.l0 k1 l1 y459 (wrap64 (x7_1 + 1)) a0_0 a0_1 a0_2 a0_3 a0_4 a0_5) = some (r1, r2) := by first | (rw [hy459]; with_reducible exact H) | (have H2_ := (Option.bind_some _ _).symm.trans H; rw [hy459]; with_reducible exact H2_) | (have H2_ := (Option.bind_some _ _).symm.trans H; with_reducible exact H2_) | with_reducible exact H | (rw [hy459]; exact H) | exact H
        have Ny459 := Aside0.mk hy459
        clear hy459
        have H' := Aside0.mk H
        clear H
        try go_wp2
        have n0_ := Aside0.mk (Kd.R_drew HO_6.out)
        have n1_ := Aside0.mk (blk_drew BK452.out)
        have n2_ := Aside0.mk (below_drew1 HB.out)
        clear HO_6 BK452 HB; have HO_6 := n0_; have BK452 := n1_; have HB := n2_; clear n0_ n1_ n2_
        have p454 : 0 ≤ (x7_1 : Int) := of_decide_eq_true (by first | (with_reducible assumption) | assumption)
        have q454 : x7_1 < (l1.length : Int) := of_decide_eq_true (by first | (with_reducible assumption) | assumption)
        obtain ⟨ad454, e454, hx454_0, hx454_1⟩ := at_T25 HR1.out x7_1 p454 q454
        have hw454_1 := hx454_1
        have hw454_0 := hx454_0
        cases e454
        replace hx454_0 := (HB.out.cell (World.block_lt_of_cell? w _ hx454_0)).trans hx454_0
        replace hx454_1 := (HB.out.cell (World.block_lt_of_cell? w _ hx454_1)).trans hx454_1
        replace p454 := eq_true p454
        replace q454 := eq_true q454
        refine start_ (n := 12) (S := fun w' => w'.cell? ⟨gb452, 0, none⟩ = some (.int .i64 a0_0) ∧ w'.cell? ⟨gb452, 1, none⟩ = some (.int .i64 a0_1) ∧ w'.cell? ⟨gb452, 2, none⟩ = some (.int .i64 a0_2) ∧ w'.cell? ⟨gb452, 3, none⟩ = some (.int .i64 a0_3) ∧ w'.cell? ⟨gb452, 4, none⟩ = some (.int .i64 a0_4) ∧ w'.cell? ⟨gb452, 5, none⟩ = some (.int .i64 a0_5) ∧ w'.cell? (ad454.add ((x7_1).toNat * 2)) = some (.int .i64 ((rd_T25 l1 x7_1).f0)) ∧ w'.cell? ⟨(ad454.add ((x7_1).toNat * 2)).block, (ad454.add ((x7_1).toNat * 2)).off + 1, none⟩ = some (.int .i64 ((rd_T25 l1 x7_1).f1))) (ds := []) (bt 0 12) (by kernel_rfl) rfl rfl ⟨(blk_cell BK452.out 0).trans rfl, (blk_cell BK452.out 1).trans rfl, (blk_cell BK452.out 2).trans rfl, (blk_cell BK452.out 3).trans rfl, (blk_cell BK452.out 4).trans rfl, (blk_cell BK452.out 5).trans rfl, ((HB.out.cell (World.block_lt_of_cell? w _ hw454_0)).trans hw454_0), ((HB.out.cell (World.block_lt_of_cell? w _ hw454_1)).trans hw454_1)⟩ (fun hHeld => ?_); refine with_tabW pointillistref08_All.tab7 pointillistref08_All.bits7 (fun HT_ HW_ => ?_)
        generalize wr.drew = w13 at HO_6 BK452 HB hx454_0 hx454_1 hHeld ⊢
        refine pure_ (i := 1) (N := some 21) (v := ?_) (a' := ?_) (bm 12 2) rfl rfl (any_of HT_.out (by kernel_rfl)) (fun _ _ _ h => h) (Or.inl ⟨by rfl, ?_⟩) ?_ ?_
        rotate_left; focus (intro w'; go_simp; with_reducible rfl)
        rotate_left; focus (simp only [apz, i64_w, i32_w]; rfl)
        refine pure_ (i := 2) (N := some 22) (v := ?_) (a' := ?_) (bm 12 6) rfl rfl (any_of HT_.out (by kernel_rfl)) (fun _ _ _ h => h) (Or.inl ⟨by rfl, ?_⟩) ?_ ?_
        rotate_left; focus (intro w'; go_simp; with_reducible rfl)
        rotate_left; focus (simp only [apz, i64_w, i32_w]; rfl)
        refine pure_ (i := 3) (N := some 23) (v := ?_) (a' := ?_) (bm 12 14) rfl rfl (any_of HT_.out (by kernel_rfl)) (fun _ _ _ h => h) (Or.inl ⟨by rfl, ?_⟩) ?_ ?_
        rotate_left; focus (intro w'; go_simp; with_reducible rfl)
        rotate_left; focus (simp only [apz, i64_w, i32_w]; rfl)
        refine take_ (i := 0) (N := some 20) (v := ?_) (a' := ?_) (bt 4 8) rfl rfl (take_ofW HT_.out HW_.out (by kernel_rfl)) (fun _ _ _ h => h) (Or.inl ⟨by rfl, ?_⟩) hHeld ?_ ?_
        rotate_left
        ·
         rintro w' ⟨s0, s1, s2, s3, s4, s5, s6, s7⟩
         go_simp
         with_reducible rfl
        rotate_left; focus (simp only [apz, i64_w, i32_w]; rfl)
        refine take_ (i := 4) (N := some 24) (v := ?_) (a' := ?_) (bt 5 7) rfl rfl (take_ofW HT_.out HW_.out (by kernel_rfl)) (fun _ _ _ h => h) (Or.inl ⟨by rfl, ?_⟩) hHeld ?_ ?_
        rotate_left
        ·
         rintro w' ⟨s0, s1, s2, s3, s4, s5, s6, s7⟩
         go_simp
         with_reducible rfl
        rotate_left; focus (simp only [apz, i64_w, i32_w]; rfl)
        refine join_ (σ := Nat) 2 (bt 10 2) (fun s_ => [(25, .tuple #[.agg #[.int .i64 t455, .int .i64 t456], .int .i64 t457]), (8, .pointer (some ⟨s_, 0, none⟩)), (19, .tuple #[.agg #[.int .i64 t455, .int .i64 t456], .int .i64 t457]), (26, .agg #[.int .i64 t455, .int .i64 t456]), (27, .int .i64 t457)]) (fun s_ w' => (w'.cell? ⟨gb452, 0, none⟩ = some (.int .i64 a0_0) ∧ w'.cell? ⟨gb452, 1, none⟩ = some (.int .i64 a0_1) ∧ w'.cell? ⟨gb452, 2, none⟩ = some (.int .i64 a0_2) ∧ w'.cell? ⟨gb452, 3, none⟩ = some (.int .i64 a0_3) ∧ w'.cell? ⟨gb452, 4, none⟩ = some (.int .i64 a0_4) ∧ w'.cell? ⟨gb452, 5, none⟩ = some (.int .i64 a0_5) ∧ w'.cell? (ad454.add ((x7_1).toNat * 2)) = some (.int .i64 ((rd_T25 l1 x7_1).f0)) ∧ w'.cell? ⟨(ad454.add ((x7_1).toNat * 2)).block, (ad454.add ((x7_1).toNat * 2)).off + 1, none⟩ = some (.int .i64 ((rd_T25 l1 x7_1).f1))) ∧ (Kd.R k25 25 w' w.heap.size (fun k_ => k_ ≠ s_) u6 x6_1) ∧ (w'.heap[gb452]? = some (.cells #[.int .i64 a0_0, .int .i64 a0_1, .int .i64 a0_2, .int .i64 a0_3, .int .i64 a0_4, .int .i64 a0_5] 23 (0, 0))) ∧ (w'.heap[s_]? = some (.cells #[.int .i64 0, .int .i64 0] 25 (0, 0))) ∧ (w.heap.size ≤ s_) ∧ (w.heap.size ≤ s_) ∧ (gb452 ≠ s_) ∧ (s_ ≠ gb452) ∧ (Below w.heap.size w w')) ?_ ?_
        rotate_left
        ·
         intro hCont
         refine two_ (i := 5) (j := 9) (Ni := some 25) (Nj := some 8) (bt 6 6) (bm 12 543) rfl rfl rfl rfl (two_of HT_.out (by kernel_rfl)) (by decide) (by decide) (fun K hK => ?_) (fun K hK => ?_)
         ·
          skip
          refine goes_ Tryd.func10 (by kernel_rfl) rfl #[.agg #[.int .i64 a0_0, .int .i64 a0_1, .int .i64 a0_2, .int .i64 a0_3, .int .i64 a0_4, .int .i64 a0_5], .agg #[.int .i64 ((rd_T25 l1 x7_1).f0), .int .i64 ((rd_T25 l1 x7_1).f1)]] (by rfl) rfl rfl (by (try simp only [List.map_toArray, List.map_cons, List.map_nil]); first | done | rfl | (simp only [List.length_drop, List.length_take]; rfl)) ?_
          with_reducible refine (pointillistref08_Apply.calls k1 a0_0 a0_1 a0_2 a0_3 a0_4 a0_5 ((rd_T25 l1 x7_1).f0) ((rd_T25 l1 x7_1).f1) t455 t456 t457 _ A10.out).mono ?_
          rintro e w14 ⟨rfl, hb⟩
          refine ⟨_, rfl, ?_⟩
          have n0_ := Aside0.mk (Kd.R_below (rq HO_6.out) hb)
          have n1_ := Aside0.mk (blk_below (bq BK452.out) hb)
          have n2_ := Aside0.mk (below_step (wq HB.out) hb)
          clear HO_6 BK452 HB; have HO_6 := n0_; have BK452 := n1_; have HB := n2_; clear n0_ n1_ n2_
          (try clear hb)
          (try clear hb2)
          (try clear hk)
          (try clear hi)
          refine hK.out _ _ ⟨(blk_cell BK452.out 0).trans rfl, (blk_cell BK452.out 1).trans rfl, (blk_cell BK452.out 2).trans rfl, (blk_cell BK452.out 3).trans rfl, (blk_cell BK452.out 4).trans rfl, (blk_cell BK452.out 5).trans rfl, ((HB.out.cell (World.block_lt_of_cell? w _ hw454_0)).trans hw454_0), ((HB.out.cell (World.block_lt_of_cell? w _ hw454_1)).trans hw454_1)⟩ (fun hHeld => ?_)
          clear hK K
          refine norm_ (a' := ?_) ?_ ?_
          rotate_left
          ·
           show Act.put _ (some 25) _ = _
           simp only [apz, i64_w, i32_w]
           rfl
          refine pure_ (i := 6) (N := some 19) (v := ?_) (a' := ?_) (bt 7 5) rfl rfl (any_of HT_.out (by kernel_rfl)) (fun _ _ _ h => h) (Or.inl ⟨by rfl, ?_⟩) ?_ ?_
          rotate_left; focus (intro w'; go_simp; with_reducible rfl)
          rotate_left; focus (simp only [apz, i64_w, i32_w]; rfl)
          refine pure_ (i := 7) (N := some 26) (v := ?_) (a' := ?_) (bt 8 4) rfl rfl (any_of HT_.out (by kernel_rfl)) (fun _ _ _ h => h) (Or.inl ⟨by rfl, ?_⟩) ?_ ?_
          rotate_left; focus (intro w'; go_simp; with_reducible rfl)
          rotate_left; focus (simp only [apz, i64_w, i32_w]; rfl)
          refine pure_ (i := 8) (N := some 27) (v := ?_) (a' := ?_) (bt 9 3) rfl rfl (any_of HT_.out (by kernel_rfl)) (fun _ _ _ h => h) (Or.inl ⟨by rfl, ?_⟩) ?_ ?_
          rotate_left; focus (intro w'; go_simp; with_reducible rfl)
          rotate_left; focus (simp only [apz, i64_w, i32_w]; rfl)
          refine one_ (i := 9) (N := some 8) (bt 10 2) rfl rfl (one_of HT_.out (by kernel_rfl)) (by decide) (fun K hK => ?_)
          refine box_step ?hg (N := 8) ?hd (cs := #[.int .i64 0, .int .i64 0]) (t := 25) ?hr ?_; (case hd => rfl); (case hg => rfl); (case hr => first | (go_simp; done) | (go_simp; rfl))
          intro gb458 hg w15 hbox hb
          have n0_ := Aside0.mk (Kd.R_below (Kd.R_elderB (rq HO_6.out) gb458 (Nat.le_of_eq hg.symm)) hb)
          have n1_ := Aside0.mk (blk_below (bq BK452.out) hb)
          have n2_ := Aside0.mk (below_step (wq HB.out) hb)
          have n3_ := Aside0.mk (hbox)
          have n4_ := Aside0.mk ((by rw [hg]; exact (below_size (wq HB.out)) : w.heap.size ≤ gb458))
          have n5_ := Aside0.mk ((by rw [hg]; exact (below_size (wq HB.out)) : w.heap.size ≤ gb458))
          have n6_ := Aside0.mk ((by rw [hg]; exact Nat.ne_of_lt (blk_lt (bq BK452.out)) : gb452 ≠ gb458))
          have n7_ := Aside0.mk ((by rw [hg]; exact Nat.ne_of_gt (blk_lt (bq BK452.out)) : gb458 ≠ gb452))
          clear HO_6 BK452 HB; have HO_6 := n0_; have BK452 := n1_; have HB := n2_; have BK458 := n3_; have GW458 := n4_; have GE458 := n5_; have NB452_458 := n6_; have NB458_452 := n7_; clear n0_ n1_ n2_ n3_ n4_ n5_ n6_ n7_ hb hbox hg
          refine hK.out _ _ ⟨(blk_cell BK452.out 0).trans rfl, (blk_cell BK452.out 1).trans rfl, (blk_cell BK452.out 2).trans rfl, (blk_cell BK452.out 3).trans rfl, (blk_cell BK452.out 4).trans rfl, (blk_cell BK452.out 5).trans rfl, ((HB.out.cell (World.block_lt_of_cell? w _ hw454_0)).trans hw454_0), ((HB.out.cell (World.block_lt_of_cell? w _ hw454_1)).trans hw454_1)⟩ (fun hHeld => ?_)
          clear hK K
          refine norm_ (a' := ?_) ?_ ?_
          rotate_left
          ·
           show Act.put _ (some 8) _ = _
           simp only [apz, i64_w, i32_w]
           rfl
          exact norm_ (by simp only [putAll, apz]) (hCont (gb458) _ ⟨hHeld, (by apply rq; exact Kd.R_mono HO_6.out (fun _ hk => hk.2)), (bq BK452.out), (bq BK458.out), GW458.out, GE458.out, NB452_458.out, NB458_452.out, (wq HB.out)⟩)
         ·
          skip
          refine box_step ?hg (N := 8) ?hd (cs := #[.int .i64 0, .int .i64 0]) (t := 25) ?hr ?_; (case hd => rfl); (case hg => rfl); (case hr => first | (go_simp; done) | (go_simp; rfl))
          intro gb458 hg w14 hbox hb
          have n0_ := Aside0.mk (Kd.R_below (Kd.R_elderB (rq HO_6.out) gb458 (Nat.le_of_eq hg.symm)) hb)
          have n1_ := Aside0.mk (blk_below (bq BK452.out) hb)
          have n2_ := Aside0.mk (below_step (wq HB.out) hb)
          have n3_ := Aside0.mk (hbox)
          have n4_ := Aside0.mk ((by rw [hg]; exact (below_size (wq HB.out)) : w.heap.size ≤ gb458))
          have n5_ := Aside0.mk ((by rw [hg]; exact (below_size (wq HB.out)) : w.heap.size ≤ gb458))
          have n6_ := Aside0.mk ((by rw [hg]; exact Nat.ne_of_lt (blk_lt (bq BK452.out)) : gb452 ≠ gb458))
          have n7_ := Aside0.mk ((by rw [hg]; exact Nat.ne_of_gt (blk_lt (bq BK452.out)) : gb458 ≠ gb452))
          clear HO_6 BK452 HB; have HO_6 := n0_; have BK452 := n1_; have HB := n2_; have BK458 := n3_; have GW458 := n4_; have GE458 := n5_; have NB452_458 := n6_; have NB458_452 := n7_; clear n0_ n1_ n2_ n3_ n4_ n5_ n6_ n7_ hb hbox hg
          refine hK.out _ _ ⟨(blk_cell BK452.out 0).trans rfl, (blk_cell BK452.out 1).trans rfl, (blk_cell BK452.out 2).trans rfl, (blk_cell BK452.out 3).trans rfl, (blk_cell BK452.out 4).trans rfl, (blk_cell BK452.out 5).trans rfl, ((HB.out.cell (World.block_lt_of_cell? w _ hw454_0)).trans hw454_0), ((HB.out.cell (World.block_lt_of_cell? w _ hw454_1)).trans hw454_1)⟩ (fun hHeld => ?_)
          clear hK K
          refine norm_ (a' := ?_) ?_ ?_
          rotate_left
          ·
           show Act.put _ (some 8) _ = _
           simp only [apz, i64_w, i32_w]
           rfl
          refine one_ (i := 5) (N := some 25) (bm 12 575) rfl rfl (one_of HT_.out (by kernel_rfl)) (by decide) (fun K hK => ?_)
          refine goes_ Tryd.func10 (by kernel_rfl) rfl #[.agg #[.int .i64 a0_0, .int .i64 a0_1, .int .i64 a0_2, .int .i64 a0_3, .int .i64 a0_4, .int .i64 a0_5], .agg #[.int .i64 ((rd_T25 l1 x7_1).f0), .int .i64 ((rd_T25 l1 x7_1).f1)]] (by rfl) rfl rfl (by (try simp only [List.map_toArray, List.map_cons, List.map_nil]); first | done | rfl | (simp only [List.length_drop, List.length_take]; rfl)) ?_
          with_reducible refine (pointillistref08_Apply.calls k1 a0_0 a0_1 a0_2 a0_3 a0_4 a0_5 ((rd_T25 l1 x7_1).f0) ((rd_T25 l1 x7_1).f1) t455 t456 t457 _ A10.out).mono ?_
          rintro e w15 ⟨rfl, hb⟩
          refine ⟨_, rfl, ?_⟩
          have n0_ := Aside0.mk (Kd.R_below (rq HO_6.out) hb)
          have n1_ := Aside0.mk (blk_below (bq BK452.out) hb)
          have n2_ := Aside0.mk (blk_below (bq BK458.out) hb)
          have n3_ := Aside0.mk (below_step (wq HB.out) hb)
          clear HO_6 BK452 BK458 HB; have HO_6 := n0_; have BK452 := n1_; have BK458 := n2_; have HB := n3_; clear n0_ n1_ n2_ n3_
          (try clear hb)
          (try clear hb2)
          (try clear hk)
          (try clear hi)
          refine hK.out _ _ ⟨(blk_cell BK452.out 0).trans rfl, (blk_cell BK452.out 1).trans rfl, (blk_cell BK452.out 2).trans rfl, (blk_cell BK452.out 3).trans rfl, (blk_cell BK452.out 4).trans rfl, (blk_cell BK452.out 5).trans rfl, ((HB.out.cell (World.block_lt_of_cell? w _ hw454_0)).trans hw454_0), ((HB.out.cell (World.block_lt_of_cell? w _ hw454_1)).trans hw454_1)⟩ (fun hHeld => ?_)
          clear hK K
          refine norm_ (a' := ?_) ?_ ?_
          rotate_left
          ·
           show Act.put _ (some 25) _ = _
           simp only [apz, i64_w, i32_w]
           rfl
          refine pure_ (i := 6) (N := some 19) (v := ?_) (a' := ?_) (bm 12 639) rfl rfl (any_of HT_.out (by kernel_rfl)) (fun _ _ _ h => h) (Or.inl ⟨by rfl, ?_⟩) ?_ ?_
          rotate_left; focus (intro w'; go_simp; with_reducible rfl)
          rotate_left; focus (simp only [apz, i64_w, i32_w]; rfl)
          refine pure_ (i := 7) (N := some 26) (v := ?_) (a' := ?_) (bm 12 767) rfl rfl (any_of HT_.out (by kernel_rfl)) (fun _ _ _ h => h) (Or.inl ⟨by rfl, ?_⟩) ?_ ?_
          rotate_left; focus (intro w'; go_simp; with_reducible rfl)
          rotate_left; focus (simp only [apz, i64_w, i32_w]; rfl)
          refine pure_ (i := 8) (N := some 27) (v := ?_) (a' := ?_) (bt 10 2) rfl rfl (any_of HT_.out (by kernel_rfl)) (fun _ _ _ h => h) (Or.inl ⟨by rfl, ?_⟩) ?_ ?_
          rotate_left; focus (intro w'; go_simp; with_reducible rfl)
          rotate_left; focus (simp only [apz, i64_w, i32_w]; rfl)
          exact norm_ (by simp only [putAll, apz]) (hCont (gb458) _ ⟨hHeld, (by apply rq; exact Kd.R_mono HO_6.out (fun _ hk => hk.2)), (bq BK452.out), (bq BK458.out), GW458.out, GE458.out, NB452_458.out, NB458_452.out, (wq HB.out)⟩)
        rintro gb458 w16 ⟨hS_, h0_, h1_, h2_, h3_, h4_, h5_, h6_, h7_⟩
        have n0_ : Aside0 (Kd.R k25 25 w16 w.heap.size (fun k_ => k_ ≠ gb458) u6 x6_1) := ⟨h0_⟩
        have n1_ : Aside0 (w16.heap[gb452]? = some (.cells #[.int .i64 a0_0, .int .i64 a0_1, .int .i64 a0_2, .int .i64 a0_3, .int .i64 a0_4, .int .i64 a0_5] 23 (0, 0))) := ⟨h1_⟩
        have n2_ : Aside0 (w16.heap[gb458]? = some (.cells #[.int .i64 0, .int .i64 0] 25 (0, 0))) := ⟨h2_⟩
        have n3_ : Aside0 (w.heap.size ≤ gb458) := ⟨h3_⟩
        have n4_ : Aside0 (w.heap.size ≤ gb458) := ⟨h4_⟩
        have n5_ : Aside0 (gb452 ≠ gb458) := ⟨h5_⟩
        have n6_ : Aside0 (gb458 ≠ gb452) := ⟨h6_⟩
        have n7_ : Aside0 (Below w.heap.size w w16) := ⟨h7_⟩
        clear HO_6 BK452 HB h0_ h1_ h2_ h3_ h4_ h5_ h6_ h7_; have HO_6 := n0_; have BK452 := n1_; have BK458 := n2_; have GW458 := n3_; have GE458 := n4_; have NB452_458 := n5_; have NB458_452 := n6_; have HB := n7_; clear n0_ n1_ n2_ n3_ n4_ n5_ n6_ n7_
        have hHeld : w16.cell? ⟨gb452, 0, none⟩ = some (.int .i64 a0_0) ∧ w16.cell? ⟨gb452, 1, none⟩ = some (.int .i64 a0_1) ∧ w16.cell? ⟨gb452, 2, none⟩ = some (.int .i64 a0_2) ∧ w16.cell? ⟨gb452, 3, none⟩ = some (.int .i64 a0_3) ∧ w16.cell? ⟨gb452, 4, none⟩ = some (.int .i64 a0_4) ∧ w16.cell? ⟨gb452, 5, none⟩ = some (.int .i64 a0_5) ∧ w16.cell? (ad454.add ((x7_1).toNat * 2)) = some (.int .i64 ((rd_T25 l1 x7_1).f0)) ∧ w16.cell? ⟨(ad454.add ((x7_1).toNat * 2)).block, (ad454.add ((x7_1).toNat * 2)).off + 1, none⟩ = some (.int .i64 ((rd_T25 l1 x7_1).f1)) := hS_
        refine norm_ (a' := ?_) ?_ ?_
        rotate_left
        ·
         simp only [putAll, apz]
         rfl
        refine one_ (i := 10) (N := none) (bt 11 1) rfl rfl (one_of HT_.out (by kernel_rfl)) (by decide) (fun K hK => ?_)
        have hs17 : w16.cell? ⟨gb458, 0, none⟩ = some (.int .i64 0) := (blk_cell BK458.out 0).trans rfl
        have hfs17 := blk_frozen BK458.out 0
        have hns17_0 := NB452_458.out
        have hms17_0 := NB458_452.out
        have hs18 : w16.cell? ⟨gb458, 1, none⟩ = some (.int .i64 0) := (blk_cell BK458.out 1).trans rfl
        have hfs18 := blk_frozen BK458.out 1
        have hns18_0 := NB452_458.out
        have hms18_0 := NB458_452.out
        refine skip_ (w1 := ?_) (by rfl) rfl ?_ ?_
        rotate_left
        ·
         go_simp
         rfl
        refine hK.out _ _ ⟨(cf NB452_458.out ((cf NB452_458.out (hHeld.1)))), (cf NB452_458.out ((cf NB452_458.out (hHeld.2.1)))), (cf NB452_458.out ((cf NB452_458.out (hHeld.2.2.1)))), (cf NB452_458.out ((cf NB452_458.out (hHeld.2.2.2.1)))), (cf NB452_458.out ((cf NB452_458.out (hHeld.2.2.2.2.1)))), (cf NB452_458.out ((cf NB452_458.out (hHeld.2.2.2.2.2.1)))), ((cell_far (p := ⟨gb458, _, none⟩) (by first | exact Nat.ne_of_lt (Nat.lt_of_lt_of_le (by have := World.block_lt_of_cell? _ _ hw454_0; first | rwa [add_block] at this | exact this) GW458.out) | (rw [add_block]; exact Nat.ne_of_lt (Nat.lt_of_lt_of_le (by have := World.block_lt_of_cell? _ _ hw454_0; first | rwa [add_block] at this | exact this) GW458.out)) | (show (Addr.add _ _).block ≠ _; rw [add_block]; exact Nat.ne_of_lt (Nat.lt_of_lt_of_le (by have := World.block_lt_of_cell? _ _ hw454_0; first | rwa [add_block] at this | exact this) GW458.out)) | (dsimp only; exact Nat.ne_of_lt (Nat.lt_of_lt_of_le (by have := World.block_lt_of_cell? _ _ hw454_0; first | rwa [add_block] at this | exact this) GW458.out))) _).trans (((cell_far (p := ⟨gb458, _, none⟩) (by first | exact Nat.ne_of_lt (Nat.lt_of_lt_of_le (by have := World.block_lt_of_cell? _ _ hw454_0; first | rwa [add_block] at this | exact this) GW458.out) | (rw [add_block]; exact Nat.ne_of_lt (Nat.lt_of_lt_of_le (by have := World.block_lt_of_cell? _ _ hw454_0; first | rwa [add_block] at this | exact this) GW458.out)) | (show (Addr.add _ _).block ≠ _; rw [add_block]; exact Nat.ne_of_lt (Nat.lt_of_lt_of_le (by have := World.block_lt_of_cell? _ _ hw454_0; first | rwa [add_block] at this | exact this) GW458.out)) | (dsimp only; exact Nat.ne_of_lt (Nat.lt_of_lt_of_le (by have := World.block_lt_of_cell? _ _ hw454_0; first | rwa [add_block] at this | exact this) GW458.out))) _).trans (hHeld.2.2.2.2.2.2.1)))), ((cell_far (p := ⟨gb458, _, none⟩) (by first | exact Nat.ne_of_lt (Nat.lt_of_lt_of_le (by have := World.block_lt_of_cell? _ _ hw454_1; first | rwa [add_block] at this | exact this) GW458.out) | (rw [add_block]; exact Nat.ne_of_lt (Nat.lt_of_lt_of_le (by have := World.block_lt_of_cell? _ _ hw454_1; first | rwa [add_block] at this | exact this) GW458.out)) | (show (Addr.add _ _).block ≠ _; rw [add_block]; exact Nat.ne_of_lt (Nat.lt_of_lt_of_le (by have := World.block_lt_of_cell? _ _ hw454_1; first | rwa [add_block] at this | exact this) GW458.out)) | (dsimp only; exact Nat.ne_of_lt (Nat.lt_of_lt_of_le (by have := World.block_lt_of_cell? _ _ hw454_1; first | rwa [add_block] at this | exact this) GW458.out))) _).trans (((cell_far (p := ⟨gb458, _, none⟩) (by first | exact Nat.ne_of_lt (Nat.lt_of_lt_of_le (by have := World.block_lt_of_cell? _ _ hw454_1; first | rwa [add_block] at this | exact this) GW458.out) | (rw [add_block]; exact Nat.ne_of_lt (Nat.lt_of_lt_of_le (by have := World.block_lt_of_cell? _ _ hw454_1; first | rwa [add_block] at this | exact this) GW458.out)) | (show (Addr.add _ _).block ≠ _; rw [add_block]; exact Nat.ne_of_lt (Nat.lt_of_lt_of_le (by have := World.block_lt_of_cell? _ _ hw454_1; first | rwa [add_block] at this | exact this) GW458.out)) | (dsimp only; exact Nat.ne_of_lt (Nat.lt_of_lt_of_le (by have := World.block_lt_of_cell? _ _ hw454_1; first | rwa [add_block] at this | exact this) GW458.out))) _).trans (hHeld.2.2.2.2.2.2.2))))⟩ (fun hHeld => ?_)
        clear hK K
        refine pure_ (i := 11) (N := some 9) (v := ?_) (a' := ?_) (bt 12 0) rfl rfl (any_of HT_.out (by kernel_rfl)) (fun _ _ _ h => h) (Or.inl ⟨by rfl, ?_⟩) ?_ ?_
        rotate_left; focus (intro w'; go_simp; with_reducible rfl)
        rotate_left; focus (simp only [apz, i64_w, i32_w]; rfl)
        refine done_ (done_of HT_.out (by kernel_rfl)) ?_
        have hnb19 := NB458_452.out
        have hnc19 := NB452_458.out
        have hcz20_0 : w16.cell? ⟨gb458, 0, none⟩ = some (.int .i64 0) := (blk_cell BK458.out 0).trans rfl
        have hcz20_1 : w16.cell? ⟨gb458, 1, none⟩ = some (.int .i64 0) := (blk_cell BK458.out 1).trans rfl
        have hfz20_0 := blk_frozen BK458.out 0
        have hfz20_1 := blk_frozen BK458.out 1
        try go_wp2_with (first | ((with_reducible refine gate_builtin (b := .append) (xs := #[.tmp 31, .tmp 33]) rfl ?_); at_builtin; refine Kd.R_append k25 (w0 := w) w.heap.size rfl (.tmp 31) (.tmp 33) 38 25 (.agg #[(.int .i64 0), (.int .i64 0)]) 16 rfl Tryd.underlying38 info25 rfl (by decide) (by omega) u6 x6_1 (⟨t455, t456⟩ : S25) [.int .i64 t455, .int .i64 t456] (fun k_ => k_ ≠ gb458) (fun _ => False) rfl (by first | (go_simp; done) | (go_simp; rfl)) ?aP (fun _ hk => hk.elim) ?aF ?aO ?aB ?aS ?aL ?_; (case aP => exact k25_mkM _ _ _ (⟨t455, t456⟩ : S25)); (case aB => exact (wq HB.out)); (case aF => exact (fun k_ hk => Kd.freshB (g := gb458) (o := .cells #[.int .i64 t455, .int .i64 t456] 25 (0, 0)) (by refine bq ?_; refine blk_put (cs := #[.int .i64 t455, .int .i64 0]) ?_ 1 _ rfl; refine bq ?_; refine blk_put (cs := #[.int .i64 0, .int .i64 0]) ?_ 0 _ rfl; refine bq ?_; exact BK458.out) k_ hk)); (case aO => exact (by apply rq; exact Kd.R_mono (Kd.R_far (p := ⟨gb458, 1, none⟩) (Kd.R_far (p := ⟨gb458, 0, none⟩) (Kd.R_mono HO_6.out (fun k_ hk => (⟨hk, hk⟩ : _ ∧ k_ ≠ gb458))) (fun _ hk => hk.2) (.int .i64 t455)) (fun _ hk => hk.2) (.int .i64 t456)) (fun _ hk => hk.1))); (case aS => exact (below_size (wq HB.out))); (case aL => have := LMc12.out; omega); intro v460 w21 ho hb hg hat; rw [← Ny459.out] at ho; have n0_ := Aside0.mk (blk_grown (g := gb452) (o := .cells #[.int .i64 a0_0, .int .i64 a0_1, .int .i64 a0_2, .int .i64 a0_3, .int .i64 a0_4, .int .i64 a0_5] 23 (0, 0)) (by refine bq ?_; refine blk_far ?_ NB452_458.out _; refine bq ?_; refine blk_far ?_ NB452_458.out _; refine bq ?_; exact BK452.out) hg (Kd.R_ne HO_6.out BK452.out (by decide))); have n1_ := Aside0.mk (blk_grown (g := gb458) (o := .cells #[.int .i64 t455, .int .i64 t456] 25 (0, 0)) (by refine bq ?_; refine blk_put (cs := #[.int .i64 t455, .int .i64 0]) ?_ 1 _ rfl; refine bq ?_; refine blk_put (cs := #[.int .i64 0, .int .i64 0]) ?_ 0 _ rfl; refine bq ?_; exact BK458.out) hg (Kd.R_away HO_6.out (fun _ hk => hk))); have n2_ := Aside0.mk (hb); have n3_ := Aside0.mk (ho); clear BK452 BK458 HB HO_6; have BK452 := n0_; have BK458 := n1_; have HB := n2_; have HO461 := n3_; clear n0_ n1_ n2_ n3_ ho hb hg hat))
        go_roundg k1
        case measure => have := HK1.out; omega
        case rel => exact ⟨(y459), (wrap64 (x7_1 + 1)), (by first | rfl | (simp; done) | (simp [*]; done)), H', ⟨by have := HK1.out; omega⟩, ⟨by apply rq; exact Kd.R_mono HO461.out (fun _ hk => trivial)⟩, ⟨by refine bq ?_; exact BK452.out⟩, ⟨by exact wq HB.out⟩⟩
       ·
        rw [if_neg c12] at H
        exact absurd H (by simp)
      ·
       rw [if_neg c11] at H
       have c11b0 : (t457 == 0) = false := beq_eq_false_iff_ne.mpr c11
       have c11b1 : (t457 != 0) = true := bne_iff_ne.mpr c11
       simp only [Option.some.injEq, Prod.mk.injEq] at H
       obtain ⟨rfl, rfl⟩ := H
       try go_wp2
       have n0_ := Aside0.mk (Kd.R_drew HO_6.out)
       have n1_ := Aside0.mk (blk_drew BK452.out)
       have n2_ := Aside0.mk (below_drew1 HB.out)
       clear HO_6 BK452 HB; have HO_6 := n0_; have BK452 := n1_; have HB := n2_; clear n0_ n1_ n2_
       have p454 : 0 ≤ (x7_1 : Int) := of_decide_eq_true (by first | (with_reducible assumption) | assumption)
       have q454 : x7_1 < (l1.length : Int) := of_decide_eq_true (by first | (with_reducible assumption) | assumption)
       obtain ⟨ad454, e454, hx454_0, hx454_1⟩ := at_T25 HR1.out x7_1 p454 q454
       have hw454_1 := hx454_1
       have hw454_0 := hx454_0
       cases e454
       replace hx454_0 := (HB.out.cell (World.block_lt_of_cell? w _ hx454_0)).trans hx454_0
       replace hx454_1 := (HB.out.cell (World.block_lt_of_cell? w _ hx454_1)).trans hx454_1
       replace p454 := eq_true p454
       replace q454 := eq_true q454
       refine start_ (n := 12) (S := fun w' => w'.cell? ⟨gb452, 0, none⟩ = some (.int .i64 a0_0) ∧ w'.cell? ⟨gb452, 1, none⟩ = some (.int .i64 a0_1) ∧ w'.cell? ⟨gb452, 2, none⟩ = some (.int .i64 a0_2) ∧ w'.cell? ⟨gb452, 3, none⟩ = some (.int .i64 a0_3) ∧ w'.cell? ⟨gb452, 4, none⟩ = some (.int .i64 a0_4) ∧ w'.cell? ⟨gb452, 5, none⟩ = some (.int .i64 a0_5) ∧ w'.cell? (ad454.add ((x7_1).toNat * 2)) = some (.int .i64 ((rd_T25 l1 x7_1).f0)) ∧ w'.cell? ⟨(ad454.add ((x7_1).toNat * 2)).block, (ad454.add ((x7_1).toNat * 2)).off + 1, none⟩ = some (.int .i64 ((rd_T25 l1 x7_1).f1))) (ds := []) (bt 0 12) (by kernel_rfl) rfl rfl ⟨(blk_cell BK452.out 0).trans rfl, (blk_cell BK452.out 1).trans rfl, (blk_cell BK452.out 2).trans rfl, (blk_cell BK452.out 3).trans rfl, (blk_cell BK452.out 4).trans rfl, (blk_cell BK452.out 5).trans rfl, ((HB.out.cell (World.block_lt_of_cell? w _ hw454_0)).trans hw454_0), ((HB.out.cell (World.block_lt_of_cell? w _ hw454_1)).trans hw454_1)⟩ (fun hHeld => ?_); refine with_tabW pointillistref08_All.tab7 pointillistref08_All.bits7 (fun HT_ HW_ => ?_)
       generalize wr.drew = w22 at HO_6 BK452 HB hx454_0 hx454_1 hHeld ⊢
       refine pure_ (i := 1) (N := some 21) (v := ?_) (a' := ?_) (bm 12 2) rfl rfl (any_of HT_.out (by kernel_rfl)) (fun _ _ _ h => h) (Or.inl ⟨by rfl, ?_⟩) ?_ ?_
       rotate_left; focus (intro w'; go_simp; with_reducible rfl)
       rotate_left; focus (simp only [apz, i64_w, i32_w]; rfl)
       refine pure_ (i := 2) (N := some 22) (v := ?_) (a' := ?_) (bm 12 6) rfl rfl (any_of HT_.out (by kernel_rfl)) (fun _ _ _ h => h) (Or.inl ⟨by rfl, ?_⟩) ?_ ?_
       rotate_left; focus (intro w'; go_simp; with_reducible rfl)
       rotate_left; focus (simp only [apz, i64_w, i32_w]; rfl)
       refine pure_ (i := 3) (N := some 23) (v := ?_) (a' := ?_) (bm 12 14) rfl rfl (any_of HT_.out (by kernel_rfl)) (fun _ _ _ h => h) (Or.inl ⟨by rfl, ?_⟩) ?_ ?_
       rotate_left; focus (intro w'; go_simp; with_reducible rfl)
       rotate_left; focus (simp only [apz, i64_w, i32_w]; rfl)
       refine take_ (i := 0) (N := some 20) (v := ?_) (a' := ?_) (bt 4 8) rfl rfl (take_ofW HT_.out HW_.out (by kernel_rfl)) (fun _ _ _ h => h) (Or.inl ⟨by rfl, ?_⟩) hHeld ?_ ?_
       rotate_left
       ·
        rintro w' ⟨s0, s1, s2, s3, s4, s5, s6, s7⟩
        go_simp
        with_reducible rfl
       rotate_left; focus (simp only [apz, i64_w, i32_w]; rfl)
       refine take_ (i := 4) (N := some 24) (v := ?_) (a' := ?_) (bt 5 7) rfl rfl (take_ofW HT_.out HW_.out (by kernel_rfl)) (fun _ _ _ h => h) (Or.inl ⟨by rfl, ?_⟩) hHeld ?_ ?_
       rotate_left
       ·
        rintro w' ⟨s0, s1, s2, s3, s4, s5, s6, s7⟩
        go_simp
        with_reducible rfl
       rotate_left; focus (simp only [apz, i64_w, i32_w]; rfl)
       refine join_ (σ := Nat) 2 (bt 10 2) (fun s_ => [(25, .tuple #[.agg #[.int .i64 t455, .int .i64 t456], .int .i64 t457]), (8, .pointer (some ⟨s_, 0, none⟩)), (19, .tuple #[.agg #[.int .i64 t455, .int .i64 t456], .int .i64 t457]), (26, .agg #[.int .i64 t455, .int .i64 t456]), (27, .int .i64 t457)]) (fun s_ w' => (w'.cell? ⟨gb452, 0, none⟩ = some (.int .i64 a0_0) ∧ w'.cell? ⟨gb452, 1, none⟩ = some (.int .i64 a0_1) ∧ w'.cell? ⟨gb452, 2, none⟩ = some (.int .i64 a0_2) ∧ w'.cell? ⟨gb452, 3, none⟩ = some (.int .i64 a0_3) ∧ w'.cell? ⟨gb452, 4, none⟩ = some (.int .i64 a0_4) ∧ w'.cell? ⟨gb452, 5, none⟩ = some (.int .i64 a0_5) ∧ w'.cell? (ad454.add ((x7_1).toNat * 2)) = some (.int .i64 ((rd_T25 l1 x7_1).f0)) ∧ w'.cell? ⟨(ad454.add ((x7_1).toNat * 2)).block, (ad454.add ((x7_1).toNat * 2)).off + 1, none⟩ = some (.int .i64 ((rd_T25 l1 x7_1).f1))) ∧ (Kd.R k25 25 w' w.heap.size (fun k_ => k_ ≠ s_) u6 x6_1) ∧ (w'.heap[gb452]? = some (.cells #[.int .i64 a0_0, .int .i64 a0_1, .int .i64 a0_2, .int .i64 a0_3, .int .i64 a0_4, .int .i64 a0_5] 23 (0, 0))) ∧ (w'.heap[s_]? = some (.cells #[.int .i64 0, .int .i64 0] 25 (0, 0))) ∧ (w.heap.size ≤ s_) ∧ (w.heap.size ≤ s_) ∧ (gb452 ≠ s_) ∧ (s_ ≠ gb452) ∧ (Below w.heap.size w w')) ?_ ?_
       rotate_left
       ·
        intro hCont
        refine two_ (i := 5) (j := 9) (Ni := some 25) (Nj := some 8) (bt 6 6) (bm 12 543) rfl rfl rfl rfl (two_of HT_.out (by kernel_rfl)) (by decide) (by decide) (fun K hK => ?_) (fun K hK => ?_)
        ·
         skip
         refine goes_ Tryd.func10 (by kernel_rfl) rfl #[.agg #[.int .i64 a0_0, .int .i64 a0_1, .int .i64 a0_2, .int .i64 a0_3, .int .i64 a0_4, .int .i64 a0_5], .agg #[.int .i64 ((rd_T25 l1 x7_1).f0), .int .i64 ((rd_T25 l1 x7_1).f1)]] (by rfl) rfl rfl (by (try simp only [List.map_toArray, List.map_cons, List.map_nil]); first | done | rfl | (simp only [List.length_drop, List.length_take]; rfl)) ?_
         with_reducible refine (pointillistref08_Apply.calls k1 a0_0 a0_1 a0_2 a0_3 a0_4 a0_5 ((rd_T25 l1 x7_1).f0) ((rd_T25 l1 x7_1).f1) t455 t456 t457 _ A10.out).mono ?_
         rintro e w23 ⟨rfl, hb⟩
         refine ⟨_, rfl, ?_⟩
         have n0_ := Aside0.mk (Kd.R_below (rq HO_6.out) hb)
         have n1_ := Aside0.mk (blk_below (bq BK452.out) hb)
         have n2_ := Aside0.mk (below_step (wq HB.out) hb)
         clear HO_6 BK452 HB; have HO_6 := n0_; have BK452 := n1_; have HB := n2_; clear n0_ n1_ n2_
         (try clear hb)
         (try clear hb2)
         (try clear hk)
         (try clear hi)
         refine hK.out _ _ ⟨(blk_cell BK452.out 0).trans rfl, (blk_cell BK452.out 1).trans rfl, (blk_cell BK452.out 2).trans rfl, (blk_cell BK452.out 3).trans rfl, (blk_cell BK452.out 4).trans rfl, (blk_cell BK452.out 5).trans rfl, ((HB.out.cell (World.block_lt_of_cell? w _ hw454_0)).trans hw454_0), ((HB.out.cell (World.block_lt_of_cell? w _ hw454_1)).trans hw454_1)⟩ (fun hHeld => ?_)
         clear hK K
         refine norm_ (a' := ?_) ?_ ?_
         rotate_left
         ·
          show Act.put _ (some 25) _ = _
          simp only [apz, i64_w, i32_w]
          rfl
         refine pure_ (i := 6) (N := some 19) (v := ?_) (a' := ?_) (bt 7 5) rfl rfl (any_of HT_.out (by kernel_rfl)) (fun _ _ _ h => h) (Or.inl ⟨by rfl, ?_⟩) ?_ ?_
         rotate_left; focus (intro w'; go_simp; with_reducible rfl)
         rotate_left; focus (simp only [apz, i64_w, i32_w]; rfl)
         refine pure_ (i := 7) (N := some 26) (v := ?_) (a' := ?_) (bt 8 4) rfl rfl (any_of HT_.out (by kernel_rfl)) (fun _ _ _ h => h) (Or.inl ⟨by rfl, ?_⟩) ?_ ?_
         rotate_left; focus (intro w'; go_simp; with_reducible rfl)
         rotate_left; focus (simp only [apz, i64_w, i32_w]; rfl)
         refine pure_ (i := 8) (N := some 27) (v := ?_) (a' := ?_) (bt 9 3) rfl rfl (any_of HT_.out (by kernel_rfl)) (fun _ _ _ h => h) (Or.inl ⟨by rfl, ?_⟩) ?_ ?_
         rotate_left; focus (intro w'; go_simp; with_reducible rfl)
         rotate_left; focus (simp only [apz, i64_w, i32_w]; rfl)
         refine one_ (i := 9) (N := some 8) (bt 10 2) rfl rfl (one_of HT_.out (by kernel_rfl)) (by decide) (fun K hK => ?_)
         refine box_step ?hg (N := 8) ?hd (cs := #[.int .i64 0, .int .i64 0]) (t := 25) ?hr ?_; (case hd => rfl); (case hg => rfl); (case hr => first | (go_simp; done) | (go_simp; rfl))
         intro gb458 hg w24 hbox hb
         have n0_ := Aside0.mk (Kd.R_below (Kd.R_elderB (rq HO_6.out) gb458 (Nat.le_of_eq hg.symm)) hb)
         have n1_ := Aside0.mk (blk_below (bq BK452.out) hb)
         have n2_ := Aside0.mk (below_step (wq HB.out) hb)
         have n3_ := Aside0.mk (hbox)
         have n4_ := Aside0.mk ((by rw [hg]; exact (below_size (wq HB.out)) : w.heap.size ≤ gb458))
         have n5_ := Aside0.mk ((by rw [hg]; exact (below_size (wq HB.out)) : w.heap.size ≤ gb458))
         have n6_ := Aside0.mk ((by rw [hg]; exact Nat.ne_of_lt (blk_lt (bq BK452.out)) : gb452 ≠ gb458))
         have n7_ := Aside0.mk ((by rw [hg]; exact Nat.ne_of_gt (blk_lt (bq BK452.out)) : gb458 ≠ gb452))
         clear HO_6 BK452 HB; have HO_6 := n0_; have BK452 := n1_; have HB := n2_; have BK458 := n3_; have GW458 := n4_; have GE458 := n5_; have NB452_458 := n6_; have NB458_452 := n7_; clear n0_ n1_ n2_ n3_ n4_ n5_ n6_ n7_ hb hbox hg
         refine hK.out _ _ ⟨(blk_cell BK452.out 0).trans rfl, (blk_cell BK452.out 1).trans rfl, (blk_cell BK452.out 2).trans rfl, (blk_cell BK452.out 3).trans rfl, (blk_cell BK452.out 4).trans rfl, (blk_cell BK452.out 5).trans rfl, ((HB.out.cell (World.block_lt_of_cell? w _ hw454_0)).trans hw454_0), ((HB.out.cell (World.block_lt_of_cell? w _ hw454_1)).trans hw454_1)⟩ (fun hHeld => ?_)
         clear hK K
         refine norm_ (a' := ?_) ?_ ?_
         rotate_left
         ·
          show Act.put _ (some 8) _ = _
          simp only [apz, i64_w, i32_w]
          rfl
         exact norm_ (by simp only [putAll, apz]) (hCont (gb458) _ ⟨hHeld, (by apply rq; exact Kd.R_mono HO_6.out (fun _ hk => hk.2)), (bq BK452.out), (bq BK458.out), GW458.out, GE458.out, NB452_458.out, NB458_452.out, (wq HB.out)⟩)
        ·
         skip
         refine box_step ?hg (N := 8) ?hd (cs := #[.int .i64 0, .int .i64 0]) (t := 25) ?hr ?_; (case hd => rfl); (case hg => rfl); (case hr => first | (go_simp; done) | (go_simp; rfl))
         intro gb458 hg w23 hbox hb
         have n0_ := Aside0.mk (Kd.R_below (Kd.R_elderB (rq HO_6.out) gb458 (Nat.le_of_eq hg.symm)) hb)
         have n1_ := Aside0.mk (blk_below (bq BK452.out) hb)
         have n2_ := Aside0.mk (below_step (wq HB.out) hb)
         have n3_ := Aside0.mk (hbox)
         have n4_ := Aside0.mk ((by rw [hg]; exact (below_size (wq HB.out)) : w.heap.size ≤ gb458))
         have n5_ := Aside0.mk ((by rw [hg]; exact (below_size (wq HB.out)) : w.heap.size ≤ gb458))
         have n6_ := Aside0.mk ((by rw [hg]; exact Nat.ne_of_lt (blk_lt (bq BK452.out)) : gb452 ≠ gb458))
         have n7_ := Aside0.mk ((by rw [hg]; exact Nat.ne_of_gt (blk_lt (bq BK452.out)) : gb458 ≠ gb452))
         clear HO_6 BK452 HB; have HO_6 := n0_; have BK452 := n1_; have HB := n2_; have BK458 := n3_; have GW458 := n4_; have GE458 := n5_; have NB452_458 := n6_; have NB458_452 := n7_; clear n0_ n1_ n2_ n3_ n4_ n5_ n6_ n7_ hb hbox hg
         refine hK.out _ _ ⟨(blk_cell BK452.out 0).trans rfl, (blk_cell BK452.out 1).trans rfl, (blk_cell BK452.out 2).trans rfl, (blk_cell BK452.out 3).trans rfl, (blk_cell BK452.out 4).trans rfl, (blk_cell BK452.out 5).trans rfl, ((HB.out.cell (World.block_lt_of_cell? w _ hw454_0)).trans hw454_0), ((HB.out.cell (World.block_lt_of_cell? w _ hw454_1)).trans hw454_1)⟩ (fun hHeld => ?_)
         clear hK K
         refine norm_ (a' := ?_) ?_ ?_
         rotate_left
         ·
          show Act.put _ (some 8) _ = _
          simp only [apz, i64_w, i32_w]
          rfl
         refine one_ (i := 5) (N := some 25) (bm 12 575) rfl rfl (one_of HT_.out (by kernel_rfl)) (by decide) (fun K hK => ?_)
         refine goes_ Tryd.func10 (by kernel_rfl) rfl #[.agg #[.int .i64 a0_0, .int .i64 a0_1, .int .i64 a0_2, .int .i64 a0_3, .int .i64 a0_4, .int .i64 a0_5], .agg #[.int .i64 ((rd_T25 l1 x7_1).f0), .int .i64 ((rd_T25 l1 x7_1).f1)]] (by rfl) rfl rfl (by (try simp only [List.map_toArray, List.map_cons, List.map_nil]); first | done | rfl | (simp only [List.length_drop, List.length_take]; rfl)) ?_
         with_reducible refine (pointillistref08_Apply.calls k1 a0_0 a0_1 a0_2 a0_3 a0_4 a0_5 ((rd_T25 l1 x7_1).f0) ((rd_T25 l1 x7_1).f1) t455 t456 t457 _ A10.out).mono ?_
         rintro e w24 ⟨rfl, hb⟩
         refine ⟨_, rfl, ?_⟩
         have n0_ := Aside0.mk (Kd.R_below (rq HO_6.out) hb)
         have n1_ := Aside0.mk (blk_below (bq BK452.out) hb)
         have n2_ := Aside0.mk (blk_below (bq BK458.out) hb)
         have n3_ := Aside0.mk (below_step (wq HB.out) hb)
         clear HO_6 BK452 BK458 HB; have HO_6 := n0_; have BK452 := n1_; have BK458 := n2_; have HB := n3_; clear n0_ n1_ n2_ n3_
         (try clear hb)
         (try clear hb2)
         (try clear hk)
         (try clear hi)
         refine hK.out _ _ ⟨(blk_cell BK452.out 0).trans rfl, (blk_cell BK452.out 1).trans rfl, (blk_cell BK452.out 2).trans rfl, (blk_cell BK452.out 3).trans rfl, (blk_cell BK452.out 4).trans rfl, (blk_cell BK452.out 5).trans rfl, ((HB.out.cell (World.block_lt_of_cell? w _ hw454_0)).trans hw454_0), ((HB.out.cell (World.block_lt_of_cell? w _ hw454_1)).trans hw454_1)⟩ (fun hHeld => ?_)
         clear hK K
         refine norm_ (a' := ?_) ?_ ?_
         rotate_left
         ·
          show Act.put _ (some 25) _ = _
          simp only [apz, i64_w, i32_w]
          rfl
         refine pure_ (i := 6) (N := some 19) (v := ?_) (a' := ?_) (bm 12 639) rfl rfl (any_of HT_.out (by kernel_rfl)) (fun _ _ _ h => h) (Or.inl ⟨by rfl, ?_⟩) ?_ ?_
         rotate_left; focus (intro w'; go_simp; with_reducible rfl)
         rotate_left; focus (simp only [apz, i64_w, i32_w]; rfl)
         refine pure_ (i := 7) (N := some 26) (v := ?_) (a' := ?_) (bm 12 767) rfl rfl (any_of HT_.out (by kernel_rfl)) (fun _ _ _ h => h) (Or.inl ⟨by rfl, ?_⟩) ?_ ?_
         rotate_left; focus (intro w'; go_simp; with_reducible rfl)
         rotate_left; focus (simp only [apz, i64_w, i32_w]; rfl)
         refine pure_ (i := 8) (N := some 27) (v := ?_) (a' := ?_) (bt 10 2) rfl rfl (any_of HT_.out (by kernel_rfl)) (fun _ _ _ h => h) (Or.inl ⟨by rfl, ?_⟩) ?_ ?_
         rotate_left; focus (intro w'; go_simp; with_reducible rfl)
         rotate_left; focus (simp only [apz, i64_w, i32_w]; rfl)
         exact norm_ (by simp only [putAll, apz]) (hCont (gb458) _ ⟨hHeld, (by apply rq; exact Kd.R_mono HO_6.out (fun _ hk => hk.2)), (bq BK452.out), (bq BK458.out), GW458.out, GE458.out, NB452_458.out, NB458_452.out, (wq HB.out)⟩)
       rintro gb458 w25 ⟨hS_, h0_, h1_, h2_, h3_, h4_, h5_, h6_, h7_⟩
       have n0_ : Aside0 (Kd.R k25 25 w25 w.heap.size (fun k_ => k_ ≠ gb458) u6 x6_1) := ⟨h0_⟩
       have n1_ : Aside0 (w25.heap[gb452]? = some (.cells #[.int .i64 a0_0, .int .i64 a0_1, .int .i64 a0_2, .int .i64 a0_3, .int .i64 a0_4, .int .i64 a0_5] 23 (0, 0))) := ⟨h1_⟩
       have n2_ : Aside0 (w25.heap[gb458]? = some (.cells #[.int .i64 0, .int .i64 0] 25 (0, 0))) := ⟨h2_⟩
       have n3_ : Aside0 (w.heap.size ≤ gb458) := ⟨h3_⟩
       have n4_ : Aside0 (w.heap.size ≤ gb458) := ⟨h4_⟩
       have n5_ : Aside0 (gb452 ≠ gb458) := ⟨h5_⟩
       have n6_ : Aside0 (gb458 ≠ gb452) := ⟨h6_⟩
       have n7_ : Aside0 (Below w.heap.size w w25) := ⟨h7_⟩
       clear HO_6 BK452 HB h0_ h1_ h2_ h3_ h4_ h5_ h6_ h7_; have HO_6 := n0_; have BK452 := n1_; have BK458 := n2_; have GW458 := n3_; have GE458 := n4_; have NB452_458 := n5_; have NB458_452 := n6_; have HB := n7_; clear n0_ n1_ n2_ n3_ n4_ n5_ n6_ n7_
       have hHeld : w25.cell? ⟨gb452, 0, none⟩ = some (.int .i64 a0_0) ∧ w25.cell? ⟨gb452, 1, none⟩ = some (.int .i64 a0_1) ∧ w25.cell? ⟨gb452, 2, none⟩ = some (.int .i64 a0_2) ∧ w25.cell? ⟨gb452, 3, none⟩ = some (.int .i64 a0_3) ∧ w25.cell? ⟨gb452, 4, none⟩ = some (.int .i64 a0_4) ∧ w25.cell? ⟨gb452, 5, none⟩ = some (.int .i64 a0_5) ∧ w25.cell? (ad454.add ((x7_1).toNat * 2)) = some (.int .i64 ((rd_T25 l1 x7_1).f0)) ∧ w25.cell? ⟨(ad454.add ((x7_1).toNat * 2)).block, (ad454.add ((x7_1).toNat * 2)).off + 1, none⟩ = some (.int .i64 ((rd_T25 l1 x7_1).f1)) := hS_
       refine norm_ (a' := ?_) ?_ ?_
       rotate_left
       ·
        simp only [putAll, apz]
        rfl
       refine one_ (i := 10) (N := none) (bt 11 1) rfl rfl (one_of HT_.out (by kernel_rfl)) (by decide) (fun K hK => ?_)
       have hs26 : w25.cell? ⟨gb458, 0, none⟩ = some (.int .i64 0) := (blk_cell BK458.out 0).trans rfl
       have hfs26 := blk_frozen BK458.out 0
       have hns26_0 := NB452_458.out
       have hms26_0 := NB458_452.out
       have hs27 : w25.cell? ⟨gb458, 1, none⟩ = some (.int .i64 0) := (blk_cell BK458.out 1).trans rfl
       have hfs27 := blk_frozen BK458.out 1
       have hns27_0 := NB452_458.out
       have hms27_0 := NB458_452.out
       refine skip_ (w1 := ?_) (by rfl) rfl ?_ ?_
       rotate_left
       ·
        go_simp
        rfl
       refine hK.out _ _ ⟨(cf NB452_458.out ((cf NB452_458.out (hHeld.1)))), (cf NB452_458.out ((cf NB452_458.out (hHeld.2.1)))), (cf NB452_458.out ((cf NB452_458.out (hHeld.2.2.1)))), (cf NB452_458.out ((cf NB452_458.out (hHeld.2.2.2.1)))), (cf NB452_458.out ((cf NB452_458.out (hHeld.2.2.2.2.1)))), (cf NB452_458.out ((cf NB452_458.out (hHeld.2.2.2.2.2.1)))), ((cell_far (p := ⟨gb458, _, none⟩) (by first | exact Nat.ne_of_lt (Nat.lt_of_lt_of_le (by have := World.block_lt_of_cell? _ _ hw454_0; first | rwa [add_block] at this | exact this) GW458.out) | (rw [add_block]; exact Nat.ne_of_lt (Nat.lt_of_lt_of_le (by have := World.block_lt_of_cell? _ _ hw454_0; first | rwa [add_block] at this | exact this) GW458.out)) | (show (Addr.add _ _).block ≠ _; rw [add_block]; exact Nat.ne_of_lt (Nat.lt_of_lt_of_le (by have := World.block_lt_of_cell? _ _ hw454_0; first | rwa [add_block] at this | exact this) GW458.out)) | (dsimp only; exact Nat.ne_of_lt (Nat.lt_of_lt_of_le (by have := World.block_lt_of_cell? _ _ hw454_0; first | rwa [add_block] at this | exact this) GW458.out))) _).trans (((cell_far (p := ⟨gb458, _, none⟩) (by first | exact Nat.ne_of_lt (Nat.lt_of_lt_of_le (by have := World.block_lt_of_cell? _ _ hw454_0; first | rwa [add_block] at this | exact this) GW458.out) | (rw [add_block]; exact Nat.ne_of_lt (Nat.lt_of_lt_of_le (by have := World.block_lt_of_cell? _ _ hw454_0; first | rwa [add_block] at this | exact this) GW458.out)) | (show (Addr.add _ _).block ≠ _; rw [add_block]; exact Nat.ne_of_lt (Nat.lt_of_lt_of_le (by have := World.block_lt_of_cell? _ _ hw454_0; first | rwa [add_block] at this | exact this) GW458.out)) | (dsimp only; exact Nat.ne_of_lt (Nat.lt_of_lt_of_le (by have := World.block_lt_of_cell? _ _ hw454_0; first | rwa [add_block] at this | exact this) GW458.out))) _).trans (hHeld.2.2.2.2.2.2.1)))), ((cell_far (p := ⟨gb458, _, none⟩) (by first | exact Nat.ne_of_lt (Nat.lt_of_lt_of_le (by have := World.block_lt_of_cell? _ _ hw454_1; first | rwa [add_block] at this | exact this) GW458.out) | (rw [add_block]; exact Nat.ne_of_lt (Nat.lt_of_lt_of_le (by have := World.block_lt_of_cell? _ _ hw454_1; first | rwa [add_block] at this | exact this) GW458.out)) | (show (Addr.add _ _).block ≠ _; rw [add_block]; exact Nat.ne_of_lt (Nat.lt_of_lt_of_le (by have := World.block_lt_of_cell? _ _ hw454_1; first | rwa [add_block] at this | exact this) GW458.out)) | (dsimp only; exact Nat.ne_of_lt (Nat.lt_of_lt_of_le (by have := World.block_lt_of_cell? _ _ hw454_1; first | rwa [add_block] at this | exact this) GW458.out))) _).trans (((cell_far (p := ⟨gb458, _, none⟩) (by first | exact Nat.ne_of_lt (Nat.lt_of_lt_of_le (by have := World.block_lt_of_cell? _ _ hw454_1; first | rwa [add_block] at this | exact this) GW458.out) | (rw [add_block]; exact Nat.ne_of_lt (Nat.lt_of_lt_of_le (by have := World.block_lt_of_cell? _ _ hw454_1; first | rwa [add_block] at this | exact this) GW458.out)) | (show (Addr.add _ _).block ≠ _; rw [add_block]; exact Nat.ne_of_lt (Nat.lt_of_lt_of_le (by have := World.block_lt_of_cell? _ _ hw454_1; first | rwa [add_block] at this | exact this) GW458.out)) | (dsimp only; exact Nat.ne_of_lt (Nat.lt_of_lt_of_le (by have := World.block_lt_of_cell? _ _ hw454_1; first | rwa [add_block] at this | exact this) GW458.out))) _).trans (hHeld.2.2.2.2.2.2.2))))⟩ (fun hHeld => ?_)
       clear hK K
       refine pure_ (i := 11) (N := some 9) (v := ?_) (a' := ?_) (bt 12 0) rfl rfl (any_of HT_.out (by kernel_rfl)) (fun _ _ _ h => h) (Or.inl ⟨by rfl, ?_⟩) ?_ ?_
       rotate_left; focus (intro w'; go_simp; with_reducible rfl)
       rotate_left; focus (simp only [apz, i64_w, i32_w]; rfl)
       refine done_ (done_of HT_.out (by kernel_rfl)) ?_
       try go_wp2
       go_ret2
       exact ⟨_, by first | rfl | (simp [errW_none, errW_some] <;> rfl) | (simp [*, errW_none, errW_some] <;> rfl), by first | exact Kd.R_nil _ _ _ _ _ | exact Kd.N_nil _ _ _ _ _ | exact Kd.V_nil _ _ _ _ _ | exact Kd.Q_nil _ _ _ _ _ | exact Kd.S_nil _ _ _ _ _, by exact wq HB.out⟩
     ·
      rw [if_neg c9] at H
      exact absurd H (by simp)
    ·
     rw [if_neg c8] at H
     have c8b0 : decide (x7_1 < (l1.length : Int)) = false := decide_eq_false c8
     clear c8
     simp only [Option.some.injEq, Prod.mk.injEq] at H
     obtain ⟨rfl, rfl⟩ := H
     go_wp2
     go_ret2
     exact ⟨_, by first | rfl | (simp [errW_none, errW_some] <;> rfl) | (simp [*, errW_none, errW_some] <;> rfl), by apply rq; exact HO_6.out, by exact wq HB.out⟩
 ·
  replace c4 := Bool.eq_false_iff.mpr c4
  subst c4
  have H1 : (some (([] : List (S25)), 1)) = some (r1, r2) := by rw [if_neg (show ¬ (false = true) by decide)] at H; exact H
  clear H
  have H := H1
  clear H1
  simp only [Option.some.injEq, Prod.mk.injEq] at H
  obtain ⟨rfl, rfl⟩ := H
  go_enter Tryd.func16, Tryd.ntmps16
  go_wp2_with (first | ((with_reducible refine gate_dst (N := 2) rfl ?_); refine box_event ?hg (N := 2) ?hd (cs := #[.int .i64 a0_0, .int .i64 a0_1, .int .i64 a0_2, .int .i64 a0_3, .int .i64 a0_4, .int .i64 a0_5]) (t := 23) ?hr ?_; (case hd => rfl); (case hg => rfl); (case hr => first | (go_simp; done) | (go_simp; rfl)); intro gb452 hg w28 hbox hb; have n0_ := Aside0.mk (below_step (wq HB.out) hb); have n1_ := Aside0.mk (hbox); have n2_ := Aside0.mk ((by rw [hg]; exact (below_size (wq HB.out)) : w.heap.size ≤ gb452)); have n3_ := n2_; clear HB; have HB := n0_; have BK452 := n1_; have GW452 := n2_; have GE452 := n3_; clear n0_ n1_ n2_ n3_ hb hbox hg; have hcz29_0 : w28.cell? ⟨gb452, 0, none⟩ = some (.int .i64 a0_0) := (blk_cell BK452.out 0).trans rfl; have hcz29_1 : w28.cell? ⟨gb452, 1, none⟩ = some (.int .i64 a0_1) := (blk_cell BK452.out 1).trans rfl; have hcz29_2 : w28.cell? ⟨gb452, 2, none⟩ = some (.int .i64 a0_2) := (blk_cell BK452.out 2).trans rfl; have hcz29_3 : w28.cell? ⟨gb452, 3, none⟩ = some (.int .i64 a0_3) := (blk_cell BK452.out 3).trans rfl; have hcz29_4 : w28.cell? ⟨gb452, 4, none⟩ = some (.int .i64 a0_4) := (blk_cell BK452.out 4).trans rfl; have hcz29_5 : w28.cell? ⟨gb452, 5, none⟩ = some (.int .i64 a0_5) := (blk_cell BK452.out 5).trans rfl; have hfz29_0 := blk_frozen BK452.out 0; have hfz29_1 := blk_frozen BK452.out 1; have hfz29_2 := blk_frozen BK452.out 2; have hfz29_3 := blk_frozen BK452.out 3; have hfz29_4 := blk_frozen BK452.out 4; have hfz29_5 := blk_frozen BK452.out 5) | ((with_reducible refine gate_callee (f := 13) rfl ?_); refine goesL_ (some 11) rfl rfl Tryd.func13 (by kernel_rfl) rfl #[.agg #[.int .i64 a0_0, .int .i64 a0_1, .int .i64 a0_2, .int .i64 a0_3, .int .i64 a0_4, .int .i64 a0_5]] rfl (by (try simp only [List.map_toArray, List.map_cons, List.map_nil]); first | done | rfl | (simp only [List.length_drop, List.length_take]; rfl)) ?_; (with_reducible refine (pointillistref08_Right.calls a0_0 a0_1 a0_2 a0_3 a0_4 a0_5 false _ A3.out).mono ?_); rintro e w30 ⟨rfl, hb⟩; refine ⟨_, rfl, ?_⟩; have n0_ := Aside0.mk (blk_below (bq BK452.out) hb); have n1_ := Aside0.mk (below_step (wq HB.out) hb); clear BK452 HB; have BK452 := n0_; have HB := n1_; clear n0_ n1_; (try clear hb); (try clear hb2); (try clear hk); (try clear hi)))
  go_ret2
  exact ⟨_, by first | rfl | (simp [errW_none, errW_some] <;> rfl) | (simp [*, errW_none, errW_some] <;> rfl), by first | exact Kd.R_nil _ _ _ _ _ | exact Kd.N_nil _ _ _ _ _ | exact Kd.V_nil _ _ _ _ _ | exact Kd.Q_nil _ _ _ _ _ | exact Kd.S_nil _ _ _ _ _, by exact wq HB.out⟩
end Go.Proofs.YtbnjgaeeojcjbaaDoor.PR
namespace Go.Proofs.YtbnjgaeeojcjbaaDoor.PR
open Go.RowKit Go.Proofs.YtbnjgaeeojcjbaaDoorW.PrintWords Go.Proofs.YtbnjgaeeojcjbaaDoorW.PrintLast Go.Proofs.YtbnjgaeeojcjbaaDoorW.PrintMore
attribute [local go_sem] max2_int min2_int max_two min_two max_three min_three max_four min_four
set_option linter.unusedVariables false
set_option linter.unusedSimpArgs false
attribute [local go_sem high] eqA25
mutual
def pointillistlaw08_AffineAll.j0 : Nat → List (S25) → List (S25) → Bool → Option (Bool)
 | 0, _, _, _ => none
 | k + 1, x5, x7, x36 => if x36 = true then (some false) else (pointillistlaw08_AffineAll.l0 k x5 x7 (x5.length : Int) 0)
def pointillistlaw08_AffineAll.l0 : Nat → List (S25) → List (S25) → Int → Int → Option (Bool)
 | 0, _, _, _, _ => none
 | k + 1, x5, x7, x38, x39 => if x39 < x38 then (if 0 ≤ x39 then (if x39 < (x5.length : Int) then (if x39 < (x7.length : Int) then (if (!(((rd_T25 x5 x39).f0) == ((rd_T25 x7 x39).f0)) || (!(((rd_T25 x5 x39).f1) == ((rd_T25 x7 x39).f1)))) = true then (some false) else (pointillistlaw08_AffineAll.l0 k x5 x7 x38 (wrap64 (x39 + 1)))) else (none)) else (none)) else (none)) else (some true)
end
def pointillistlaw08_AffineAll.f (k : Nat) (a0_0 : Int) (a0_1 : Int) (a0_2 : Int) (a0_3 : Int) (a0_4 : Int) (a0_5 : Int) (l1 : List (S25)) : Option (Bool) := (pointillistlaw08_wakes.f k).bind fun t463 => (if t463 = true then (if (l1.length : Int) > 60 then (some true) else ((affine_All.f k a0_0 a0_1 a0_2 a0_3 a0_4 a0_5 l1).bind fun bt464 => ((pointillistref08_All.f k a0_0 a0_1 a0_2 a0_3 a0_4 a0_5 l1).bind fun bt468 => (if bt464.2 = bt468.2 then (pointillistlaw08_AffineAll.j0 k bt464.1 bt468.1 ((bt464.1.length : Int) != (bt468.1.length : Int))) else (pointillistlaw08_AffineAll.j0 k bt464.1 bt468.1 true))))) else (some false))
theorem pointillistlaw08_AffineAll.mono_l : ∀ k, (∀ y0 y1 y2, LeO (pointillistlaw08_AffineAll.j0 k y0 y1 y2) (pointillistlaw08_AffineAll.j0 (k + 1) y0 y1 y2)) ∧ (∀ y0 y1 y2 y3, LeO (pointillistlaw08_AffineAll.l0 k y0 y1 y2 y3) (pointillistlaw08_AffineAll.l0 (k + 1) y0 y1 y2 y3))
 | 0 => ⟨fun _ _ _ r h => by simp [pointillistlaw08_AffineAll.j0] at h, fun _ _ _ _ r h => by simp [pointillistlaw08_AffineAll.l0] at h⟩
 | k + 1 => by
  obtain ⟨ih0, ih1⟩ := pointillistlaw08_AffineAll.mono_l k
  refine ⟨?_, ?_⟩
  ·
   intro y0 y1 y2
   unfold pointillistlaw08_AffineAll.j0
   repeat' first
   | (with_reducible exact ih0 _ _ _)
   | (with_reducible exact ih1 _ _ _ _)
   | (with_reducible exact affine_All.mono _ _ _ _ _ _ _ _)
   | (with_reducible exact pointillistlaw08_wakes.mono _)
   | (with_reducible exact pointillistref08_All.mono _ _ _ _ _ _ _ _)
   | (with_reducible exact LeO.refl _)
   | (with_reducible exact LeO.none _)
   | (with_reducible refine LeO.ite ?_ ?_)
   | (with_reducible refine LeO.bind ?_ (fun _ => ?_))
   | exact ih0 _ _ _
   | exact ih1 _ _ _ _
   | exact affine_All.mono _ _ _ _ _ _ _ _
   | exact pointillistlaw08_wakes.mono _
   | exact pointillistref08_All.mono _ _ _ _ _ _ _ _
   | exact LeO.none _
   | refine LeO.ite ?_ ?_
   | refine LeO.bind ?_ (fun _ => ?_)
  ·
   intro y0 y1 y2 y3
   unfold pointillistlaw08_AffineAll.l0
   repeat' first
   | (with_reducible exact ih0 _ _ _)
   | (with_reducible exact ih1 _ _ _ _)
   | (with_reducible exact affine_All.mono _ _ _ _ _ _ _ _)
   | (with_reducible exact pointillistlaw08_wakes.mono _)
   | (with_reducible exact pointillistref08_All.mono _ _ _ _ _ _ _ _)
   | (with_reducible exact LeO.refl _)
   | (with_reducible exact LeO.none _)
   | (with_reducible refine LeO.ite ?_ ?_)
   | (with_reducible refine LeO.bind ?_ (fun _ => ?_))
   | exact ih0 _ _ _
   | exact ih1 _ _ _ _
   | exact affine_All.mono _ _ _ _ _ _ _ _
   | exact pointillistlaw08_wakes.mono _
   | exact pointillistref08_All.mono _ _ _ _ _ _ _ _
   | exact LeO.none _
   | refine LeO.ite ?_ ?_
   | refine LeO.bind ?_ (fun _ => ?_)
theorem pointillistlaw08_AffineAll.mono : ∀ a0 a1 a2 a3 a4 a5 a6 k, LeO (pointillistlaw08_AffineAll.f k a0 a1 a2 a3 a4 a5 a6) (pointillistlaw08_AffineAll.f (k + 1) a0 a1 a2 a3 a4 a5 a6) := by
 intro a0 a1 a2 a3 a4 a5 a6 k
 obtain ⟨ih0, ih1⟩ := pointillistlaw08_AffineAll.mono_l k
 unfold pointillistlaw08_AffineAll.f
 repeat' first
   | (with_reducible exact ih0 _ _ _)
   | (with_reducible exact ih1 _ _ _ _)
   | (with_reducible exact affine_All.mono _ _ _ _ _ _ _ _)
   | (with_reducible exact pointillistlaw08_wakes.mono _)
   | (with_reducible exact pointillistref08_All.mono _ _ _ _ _ _ _ _)
   | (with_reducible exact LeO.refl _)
   | (with_reducible exact LeO.none _)
   | (with_reducible refine LeO.ite ?_ ?_)
   | (with_reducible refine LeO.bind ?_ (fun _ => ?_))
   | exact ih0 _ _ _
   | exact ih1 _ _ _ _
   | exact affine_All.mono _ _ _ _ _ _ _ _
   | exact pointillistlaw08_wakes.mono _
   | exact pointillistref08_All.mono _ _ _ _ _ _ _ _
   | exact LeO.none _
   | refine LeO.ite ?_ ?_
   | refine LeO.bind ?_ (fun _ => ?_)
set_option maxHeartbeats 8000000 in
set_option maxRecDepth 100000 in
theorem pointillistlaw08_AffineAll.calls (k : Nat) (a0_0 : Int) (a0_1 : Int) (a0_2 : Int) (a0_3 : Int) (a0_4 : Int) (a0_5 : Int) (A1 : Option Addr) (c1 : Nat) (l1 : List (S25)) (w : World) (hr1 : Kd.C k25 w A1 l1.length l1) (hc1 : l1.length ≤ c1) (hG : Gl w) (h : pointillistlaw08_AffineAll.f k a0_0 a0_1 a0_2 a0_3 a0_4 a0_5 l1 = some true) :
  Calls Tryd.prog 5 #[.agg #[.int .i64 a0_0, .int .i64 a0_1, .int .i64 a0_2, .int .i64 a0_3, .int .i64 a0_4, .int .i64 a0_5], .slice A1 l1.length c1] w fun e w' => e = .returned (.bool true) ∧ Below w.heap.size w w' := by
 have hu23 := Tryd.underlying23
 have hu25 := Tryd.underlying25
 have HR1 := Aside0.mk hr1
 have HC1 := Aside0.mk hc1
 clear hr1 hc1
 have HG := Aside0.mk hG
 clear hG
 have HB := Aside0.mk (Below.refl w.heap.size w)
 have H : ((pointillistlaw08_wakes.f k).bind fun t463 => (if t463 = true then (if (l1.length : Int) > 60 then (some true) else ((affine_All.f k a0_0 a0_1 a0_2 a0_3 a0_4 a0_5 l1).bind fun bt464 => ((pointillistref08_All.f k a0_0 a0_1 a0_2 a0_3 a0_4 a0_5 l1).bind fun bt468 => (if bt464.2 = bt468.2 then (pointillistlaw08_AffineAll.j0 k bt464.1 bt468.1 ((bt464.1.length : Int) != (bt468.1.length : Int))) else (pointillistlaw08_AffineAll.j0 k bt464.1 bt468.1 true))))) else (some false))) = some true := h
 clear h
 replace H := Option.bind_eq_some_iff.mp H
 obtain ⟨t463, A30, H⟩ := H
 replace H : (if t463 = true then (if (l1.length : Int) > 60 then (some true) else ((affine_All.f k a0_0 a0_1 a0_2 a0_3 a0_4 a0_5 l1).bind fun bt464 => ((pointillistref08_All.f k a0_0 a0_1 a0_2 a0_3 a0_4 a0_5 l1).bind fun bt468 => (if bt464.2 = bt468.2 then (pointillistlaw08_AffineAll.j0 k bt464.1 bt468.1 ((bt464.1.length : Int) != (bt468.1.length : Int))) else (pointillistlaw08_AffineAll.j0 k bt464.1 bt468.1 true))))) else (some false)) = some true := H
 have A3 := Aside0.mk A30
 clear A30
 by_cases c4 : t463 = true
 ·
  subst c4
  have H1 : (if (l1.length : Int) > 60 then (some true) else ((affine_All.f k a0_0 a0_1 a0_2 a0_3 a0_4 a0_5 l1).bind fun bt464 => ((pointillistref08_All.f k a0_0 a0_1 a0_2 a0_3 a0_4 a0_5 l1).bind fun bt468 => (if bt464.2 = bt468.2 then (pointillistlaw08_AffineAll.j0 k bt464.1 bt468.1 ((bt464.1.length : Int) != (bt468.1.length : Int))) else (pointillistlaw08_AffineAll.j0 k bt464.1 bt468.1 true))))) = some true := by rw [if_pos rfl] at H; exact H
  clear H
  have H := H1
  clear H1
  by_cases c5 : (l1.length : Int) > 60
  ·
   rw [if_pos c5] at H
   have c5b0 : decide (60 < (l1.length : Int)) = true := decide_eq_true c5
   have c5b1 : decide (60 < l1.length) = true := decide_eq_true (by omega)
   clear c5
   have HE_ := Aside0.mk (Option.some.inj H)
   clear H
   go_enter Tryd.func5, Tryd.ntmps5
   go_wp2_with (first | ((with_reducible refine gate_dst (N := 2) rfl ?_); (try (refine gate_guard (by rfl) ?_; dsimp only)); refine box_event ?hg (N := 2) ?hd (cs := #[.int .i64 a0_0, .int .i64 a0_1, .int .i64 a0_2, .int .i64 a0_3, .int .i64 a0_4, .int .i64 a0_5]) (t := 23) ?hr ?_; (case hd => rfl); (case hg => rfl); (case hr => first | (go_simp; done) | (go_simp; rfl)); intro gb462 hg w6 hbox hb; have n0_ := Aside0.mk (below_step (wq HB.out) hb); have n1_ := Aside0.mk (hbox); have n2_ := Aside0.mk ((by rw [hg]; exact (below_size (wq HB.out)) : w.heap.size ≤ gb462)); have n3_ := n2_; clear HB; have HB := n0_; have BK462 := n1_; have GW462 := n2_; have GE462 := n3_; clear n0_ n1_ n2_ n3_ hb hbox hg) | (go_at_call 8; (with_reducible refine (pointillistlaw08_wakes.calls k  true _ ?side1 A3.out).mono ?_); (case side1 => exact Gl.below HG.out (wq HB.out)); rintro e w7 ⟨rfl, hb⟩; have n0_ := Aside0.mk (blk_below (bq BK462.out) hb); have n1_ := Aside0.mk (below_step (wq HB.out) hb); clear BK462 HB; have BK462 := n0_; have HB := n1_; clear n0_ n1_; (try clear hb); (try clear hb2); (try clear hk); (try clear hi)))
   repeat (go_quiet (first | ((with_reducible refine gate_dst (N := 2) rfl ?_); (try (refine gate_guard (by rfl) ?_; dsimp only)); refine box_event ?hg (N := 2) ?hd (cs := #[.int .i64 a0_0, .int .i64 a0_1, .int .i64 a0_2, .int .i64 a0_3, .int .i64 a0_4, .int .i64 a0_5]) (t := 23) ?hr ?_; (case hd => rfl); (case hg => rfl); (case hr => first | (go_simp; done) | (go_simp; rfl)); intro gb462 hg w6 hbox hb; have n0_ := Aside0.mk (below_step (wq HB.out) hb); have n1_ := Aside0.mk (hbox); have n2_ := Aside0.mk ((by rw [hg]; exact (below_size (wq HB.out)) : w.heap.size ≤ gb462)); have n3_ := n2_; clear HB; have HB := n0_; have BK462 := n1_; have GW462 := n2_; have GE462 := n3_; clear n0_ n1_ n2_ n3_ hb hbox hg) | (go_at_call 8; (with_reducible refine (pointillistlaw08_wakes.calls k  true _ ?side1 A3.out).mono ?_); (case side1 => exact Gl.below HG.out (wq HB.out)); rintro e w7 ⟨rfl, hb⟩; have n0_ := Aside0.mk (blk_below (bq BK462.out) hb); have n1_ := Aside0.mk (below_step (wq HB.out) hb); clear BK462 HB; have BK462 := n0_; have HB := n1_; clear n0_ n1_; (try clear hb); (try clear hb2); (try clear hk); (try clear hi))); try go_wp2_with (first | ((with_reducible refine gate_dst (N := 2) rfl ?_); (try (refine gate_guard (by rfl) ?_; dsimp only)); refine box_event ?hg (N := 2) ?hd (cs := #[.int .i64 a0_0, .int .i64 a0_1, .int .i64 a0_2, .int .i64 a0_3, .int .i64 a0_4, .int .i64 a0_5]) (t := 23) ?hr ?_; (case hd => rfl); (case hg => rfl); (case hr => first | (go_simp; done) | (go_simp; rfl)); intro gb462 hg w6 hbox hb; have n0_ := Aside0.mk (below_step (wq HB.out) hb); have n1_ := Aside0.mk (hbox); have n2_ := Aside0.mk ((by rw [hg]; exact (below_size (wq HB.out)) : w.heap.size ≤ gb462)); have n3_ := n2_; clear HB; have HB := n0_; have BK462 := n1_; have GW462 := n2_; have GE462 := n3_; clear n0_ n1_ n2_ n3_ hb hbox hg) | (go_at_call 8; (with_reducible refine (pointillistlaw08_wakes.calls k  true _ ?side1 A3.out).mono ?_); (case side1 => exact Gl.below HG.out (wq HB.out)); rintro e w7 ⟨rfl, hb⟩; have n0_ := Aside0.mk (blk_below (bq BK462.out) hb); have n1_ := Aside0.mk (below_step (wq HB.out) hb); clear BK462 HB; have BK462 := n0_; have HB := n1_; clear n0_ n1_; (try clear hb); (try clear hb2); (try clear hk); (try clear hi))))
   go_ret
   exact ⟨by first | rfl | (simp [errW_none, errW_some] <;> rfl) | (rw [HE_.out]; done) | (simp [HE_.out]; done) | (have h_ := HE_.out; simp_all; done) | (have h_ := HE_.out; simp [*] at h_; simp [*, h_]; done) | (simp [*, errW_none, errW_some] <;> rfl), by exact wq HB.out⟩
  ·
   rw [if_neg c5] at H
   have c5b0 : decide (60 < (l1.length : Int)) = false := decide_eq_false c5
   have c5b1 : decide (60 < l1.length) = false := decide_eq_false (by omega)
   clear c5
   replace H := Option.bind_eq_some_iff.mp H
   obtain ⟨⟨t464, t467⟩, A80, H⟩ := H
   replace H : ((pointillistref08_All.f k a0_0 a0_1 a0_2 a0_3 a0_4 a0_5 l1).bind fun bt468 => (if t467 = bt468.2 then (pointillistlaw08_AffineAll.j0 k t464 bt468.1 ((t464.length : Int) != (bt468.1.length : Int))) else (pointillistlaw08_AffineAll.j0 k t464 bt468.1 true))) = some true := H
   have A8 := Aside0.mk A80
   clear A80
   replace H := Option.bind_eq_some_iff.mp H
   obtain ⟨⟨t468, t471⟩, A90, H⟩ := H
   replace H : (if t467 = t471 then (pointillistlaw08_AffineAll.j0 k t464 t468 ((t464.length : Int) != (t468.length : Int))) else (pointillistlaw08_AffineAll.j0 k t464 t468 true)) = some true := H
   have A9 := Aside0.mk A90
   clear A90
   have HC10 := Aside0.mk H
   clear H
   go_enter Tryd.func5, Tryd.ntmps5
   go_upto_region 7 with (first | ((with_reducible refine gate_dst (N := 2) rfl ?_); (try (refine gate_guard (by rfl) ?_; dsimp only)); refine box_event ?hg (N := 2) ?hd (cs := #[.int .i64 a0_0, .int .i64 a0_1, .int .i64 a0_2, .int .i64 a0_3, .int .i64 a0_4, .int .i64 a0_5]) (t := 23) ?hr ?_; (case hd => rfl); (case hg => rfl); (case hr => first | (go_simp; done) | (go_simp; rfl)); intro gb462 hg w11 hbox hb; have n0_ := Aside0.mk (below_step (wq HB.out) hb); have n1_ := Aside0.mk (hbox); have n2_ := Aside0.mk ((by rw [hg]; exact (below_size (wq HB.out)) : w.heap.size ≤ gb462)); have n3_ := n2_; clear HB; have HB := n0_; have BK462 := n1_; have GW462 := n2_; have GE462 := n3_; clear n0_ n1_ n2_ n3_ hb hbox hg) | (go_at_call 8; (with_reducible refine (pointillistlaw08_wakes.calls k  true _ ?side1 A3.out).mono ?_); (case side1 => exact Gl.below HG.out (wq HB.out)); rintro e w12 ⟨rfl, hb⟩; have n0_ := Aside0.mk (blk_below (bq BK462.out) hb); have n1_ := Aside0.mk (below_step (wq HB.out) hb); clear BK462 HB; have BK462 := n0_; have HB := n1_; clear n0_ n1_; (try clear hb); (try clear hb2); (try clear hk); (try clear hi); have hcz13_0 : w12.cell? ⟨gb462, 0, none⟩ = some (.int .i64 a0_0) := (blk_cell BK462.out 0).trans rfl; have hcz13_1 : w12.cell? ⟨gb462, 1, none⟩ = some (.int .i64 a0_1) := (blk_cell BK462.out 1).trans rfl; have hcz13_2 : w12.cell? ⟨gb462, 2, none⟩ = some (.int .i64 a0_2) := (blk_cell BK462.out 2).trans rfl; have hcz13_3 : w12.cell? ⟨gb462, 3, none⟩ = some (.int .i64 a0_3) := (blk_cell BK462.out 3).trans rfl; have hcz13_4 : w12.cell? ⟨gb462, 4, none⟩ = some (.int .i64 a0_4) := (blk_cell BK462.out 4).trans rfl; have hcz13_5 : w12.cell? ⟨gb462, 5, none⟩ = some (.int .i64 a0_5) := (blk_cell BK462.out 5).trans rfl; have hfz13_0 := blk_frozen BK462.out 0; have hfz13_1 := blk_frozen BK462.out 1; have hfz13_2 := blk_frozen BK462.out 2; have hfz13_3 := blk_frozen BK462.out 3; have hfz13_4 := blk_frozen BK462.out 4; have hfz13_5 := blk_frozen BK462.out 5) | (go_at_call 15; (with_reducible refine (affine_All.calls k a0_0 a0_1 a0_2 a0_3 a0_4 a0_5 _ _ l1 t464 t467 _ ?side1 ?side2 ?side3 A8.out).mono ?_); (case side1 => exact cq (Kd.C_below HR1.out HB.out)); (case side2 => exact HC1.out); (case side3 => exact Gl.below HG.out (wq HB.out)); rintro e w14 ⟨v465, rfl, ho0, hb⟩; have n0_ := Aside0.mk (Kd.R_lower ho0 (below_size (wq HB.out))); have n1_ := Aside0.mk (blk_below (bq BK462.out) hb); have n2_ := Aside0.mk (below_step (wq HB.out) hb); clear BK462 HB; have HO466 := n0_; have BK462 := n1_; have HB := n2_; clear n0_ n1_ n2_; (try clear hb); (try clear hb2); (try clear hk); (try clear hi); (try clear ho0); have hcz15_0 : w14.cell? ⟨gb462, 0, none⟩ = some (.int .i64 a0_0) := (blk_cell BK462.out 0).trans rfl; have hcz15_1 : w14.cell? ⟨gb462, 1, none⟩ = some (.int .i64 a0_1) := (blk_cell BK462.out 1).trans rfl; have hcz15_2 : w14.cell? ⟨gb462, 2, none⟩ = some (.int .i64 a0_2) := (blk_cell BK462.out 2).trans rfl; have hcz15_3 : w14.cell? ⟨gb462, 3, none⟩ = some (.int .i64 a0_3) := (blk_cell BK462.out 3).trans rfl; have hcz15_4 : w14.cell? ⟨gb462, 4, none⟩ = some (.int .i64 a0_4) := (blk_cell BK462.out 4).trans rfl; have hcz15_5 : w14.cell? ⟨gb462, 5, none⟩ = some (.int .i64 a0_5) := (blk_cell BK462.out 5).trans rfl; have hfz15_0 := blk_frozen BK462.out 0; have hfz15_1 := blk_frozen BK462.out 1; have hfz15_2 := blk_frozen BK462.out 2; have hfz15_3 := blk_frozen BK462.out 3; have hfz15_4 := blk_frozen BK462.out 4; have hfz15_5 := blk_frozen BK462.out 5) | (go_at_call 16; (with_reducible refine (pointillistref08_All.calls k a0_0 a0_1 a0_2 a0_3 a0_4 a0_5 _ _ l1 t468 t471 _ ?side1 ?side2 A9.out).mono ?_); (case side1 => exact cq (Kd.C_below HR1.out HB.out)); (case side2 => exact HC1.out); rintro e w16 ⟨v469, rfl, ho0, hb⟩; have n0_ := Aside0.mk (Kd.R_elder' (rq HO466.out) (Kd.R_base ho0) hb); have n1_ := Aside0.mk (Kd.R_lower (Kd.R_new' ho0 (Kd.R_lt (rq HO466.out))) (below_size (wq HB.out))); have n2_ := Aside0.mk (blk_below (bq BK462.out) hb); have n3_ := Aside0.mk (below_step (wq HB.out) hb); clear HO466 BK462 HB; have HO466 := n0_; have HO470 := n1_; have BK462 := n2_; have HB := n3_; clear n0_ n1_ n2_ n3_; (try clear hb); (try clear hb2); (try clear hk); (try clear hi); (try clear ho0)))
   repeat (go_quiet (first | ((with_reducible refine gate_dst (N := 2) rfl ?_); (try (refine gate_guard (by rfl) ?_; dsimp only)); refine box_event ?hg (N := 2) ?hd (cs := #[.int .i64 a0_0, .int .i64 a0_1, .int .i64 a0_2, .int .i64 a0_3, .int .i64 a0_4, .int .i64 a0_5]) (t := 23) ?hr ?_; (case hd => rfl); (case hg => rfl); (case hr => first | (go_simp; done) | (go_simp; rfl)); intro gb462 hg w11 hbox hb; have n0_ := Aside0.mk (below_step (wq HB.out) hb); have n1_ := Aside0.mk (hbox); have n2_ := Aside0.mk ((by rw [hg]; exact (below_size (wq HB.out)) : w.heap.size ≤ gb462)); have n3_ := n2_; clear HB; have HB := n0_; have BK462 := n1_; have GW462 := n2_; have GE462 := n3_; clear n0_ n1_ n2_ n3_ hb hbox hg) | (go_at_call 8; (with_reducible refine (pointillistlaw08_wakes.calls k  true _ ?side1 A3.out).mono ?_); (case side1 => exact Gl.below HG.out (wq HB.out)); rintro e w12 ⟨rfl, hb⟩; have n0_ := Aside0.mk (blk_below (bq BK462.out) hb); have n1_ := Aside0.mk (below_step (wq HB.out) hb); clear BK462 HB; have BK462 := n0_; have HB := n1_; clear n0_ n1_; (try clear hb); (try clear hb2); (try clear hk); (try clear hi); have hcz13_0 : w12.cell? ⟨gb462, 0, none⟩ = some (.int .i64 a0_0) := (blk_cell BK462.out 0).trans rfl; have hcz13_1 : w12.cell? ⟨gb462, 1, none⟩ = some (.int .i64 a0_1) := (blk_cell BK462.out 1).trans rfl; have hcz13_2 : w12.cell? ⟨gb462, 2, none⟩ = some (.int .i64 a0_2) := (blk_cell BK462.out 2).trans rfl; have hcz13_3 : w12.cell? ⟨gb462, 3, none⟩ = some (.int .i64 a0_3) := (blk_cell BK462.out 3).trans rfl; have hcz13_4 : w12.cell? ⟨gb462, 4, none⟩ = some (.int .i64 a0_4) := (blk_cell BK462.out 4).trans rfl; have hcz13_5 : w12.cell? ⟨gb462, 5, none⟩ = some (.int .i64 a0_5) := (blk_cell BK462.out 5).trans rfl; have hfz13_0 := blk_frozen BK462.out 0; have hfz13_1 := blk_frozen BK462.out 1; have hfz13_2 := blk_frozen BK462.out 2; have hfz13_3 := blk_frozen BK462.out 3; have hfz13_4 := blk_frozen BK462.out 4; have hfz13_5 := blk_frozen BK462.out 5) | (go_at_call 15; (with_reducible refine (affine_All.calls k a0_0 a0_1 a0_2 a0_3 a0_4 a0_5 _ _ l1 t464 t467 _ ?side1 ?side2 ?side3 A8.out).mono ?_); (case side1 => exact cq (Kd.C_below HR1.out HB.out)); (case side2 => exact HC1.out); (case side3 => exact Gl.below HG.out (wq HB.out)); rintro e w14 ⟨v465, rfl, ho0, hb⟩; have n0_ := Aside0.mk (Kd.R_lower ho0 (below_size (wq HB.out))); have n1_ := Aside0.mk (blk_below (bq BK462.out) hb); have n2_ := Aside0.mk (below_step (wq HB.out) hb); clear BK462 HB; have HO466 := n0_; have BK462 := n1_; have HB := n2_; clear n0_ n1_ n2_; (try clear hb); (try clear hb2); (try clear hk); (try clear hi); (try clear ho0); have hcz15_0 : w14.cell? ⟨gb462, 0, none⟩ = some (.int .i64 a0_0) := (blk_cell BK462.out 0).trans rfl; have hcz15_1 : w14.cell? ⟨gb462, 1, none⟩ = some (.int .i64 a0_1) := (blk_cell BK462.out 1).trans rfl; have hcz15_2 : w14.cell? ⟨gb462, 2, none⟩ = some (.int .i64 a0_2) := (blk_cell BK462.out 2).trans rfl; have hcz15_3 : w14.cell? ⟨gb462, 3, none⟩ = some (.int .i64 a0_3) := (blk_cell BK462.out 3).trans rfl; have hcz15_4 : w14.cell? ⟨gb462, 4, none⟩ = some (.int .i64 a0_4) := (blk_cell BK462.out 4).trans rfl; have hcz15_5 : w14.cell? ⟨gb462, 5, none⟩ = some (.int .i64 a0_5) := (blk_cell BK462.out 5).trans rfl; have hfz15_0 := blk_frozen BK462.out 0; have hfz15_1 := blk_frozen BK462.out 1; have hfz15_2 := blk_frozen BK462.out 2; have hfz15_3 := blk_frozen BK462.out 3; have hfz15_4 := blk_frozen BK462.out 4; have hfz15_5 := blk_frozen BK462.out 5) | (go_at_call 16; (with_reducible refine (pointillistref08_All.calls k a0_0 a0_1 a0_2 a0_3 a0_4 a0_5 _ _ l1 t468 t471 _ ?side1 ?side2 A9.out).mono ?_); (case side1 => exact cq (Kd.C_below HR1.out HB.out)); (case side2 => exact HC1.out); rintro e w16 ⟨v469, rfl, ho0, hb⟩; have n0_ := Aside0.mk (Kd.R_elder' (rq HO466.out) (Kd.R_base ho0) hb); have n1_ := Aside0.mk (Kd.R_lower (Kd.R_new' ho0 (Kd.R_lt (rq HO466.out))) (below_size (wq HB.out))); have n2_ := Aside0.mk (blk_below (bq BK462.out) hb); have n3_ := Aside0.mk (below_step (wq HB.out) hb); clear HO466 BK462 HB; have HO466 := n0_; have HO470 := n1_; have BK462 := n2_; have HB := n3_; clear n0_ n1_ n2_ n3_; (try clear hb); (try clear hb2); (try clear hk); (try clear hi); (try clear ho0))); go_upto_region 7 with (first | ((with_reducible refine gate_dst (N := 2) rfl ?_); (try (refine gate_guard (by rfl) ?_; dsimp only)); refine box_event ?hg (N := 2) ?hd (cs := #[.int .i64 a0_0, .int .i64 a0_1, .int .i64 a0_2, .int .i64 a0_3, .int .i64 a0_4, .int .i64 a0_5]) (t := 23) ?hr ?_; (case hd => rfl); (case hg => rfl); (case hr => first | (go_simp; done) | (go_simp; rfl)); intro gb462 hg w11 hbox hb; have n0_ := Aside0.mk (below_step (wq HB.out) hb); have n1_ := Aside0.mk (hbox); have n2_ := Aside0.mk ((by rw [hg]; exact (below_size (wq HB.out)) : w.heap.size ≤ gb462)); have n3_ := n2_; clear HB; have HB := n0_; have BK462 := n1_; have GW462 := n2_; have GE462 := n3_; clear n0_ n1_ n2_ n3_ hb hbox hg) | (go_at_call 8; (with_reducible refine (pointillistlaw08_wakes.calls k  true _ ?side1 A3.out).mono ?_); (case side1 => exact Gl.below HG.out (wq HB.out)); rintro e w12 ⟨rfl, hb⟩; have n0_ := Aside0.mk (blk_below (bq BK462.out) hb); have n1_ := Aside0.mk (below_step (wq HB.out) hb); clear BK462 HB; have BK462 := n0_; have HB := n1_; clear n0_ n1_; (try clear hb); (try clear hb2); (try clear hk); (try clear hi); have hcz13_0 : w12.cell? ⟨gb462, 0, none⟩ = some (.int .i64 a0_0) := (blk_cell BK462.out 0).trans rfl; have hcz13_1 : w12.cell? ⟨gb462, 1, none⟩ = some (.int .i64 a0_1) := (blk_cell BK462.out 1).trans rfl; have hcz13_2 : w12.cell? ⟨gb462, 2, none⟩ = some (.int .i64 a0_2) := (blk_cell BK462.out 2).trans rfl; have hcz13_3 : w12.cell? ⟨gb462, 3, none⟩ = some (.int .i64 a0_3) := (blk_cell BK462.out 3).trans rfl; have hcz13_4 : w12.cell? ⟨gb462, 4, none⟩ = some (.int .i64 a0_4) := (blk_cell BK462.out 4).trans rfl; have hcz13_5 : w12.cell? ⟨gb462, 5, none⟩ = some (.int .i64 a0_5) := (blk_cell BK462.out 5).trans rfl; have hfz13_0 := blk_frozen BK462.out 0; have hfz13_1 := blk_frozen BK462.out 1; have hfz13_2 := blk_frozen BK462.out 2; have hfz13_3 := blk_frozen BK462.out 3; have hfz13_4 := blk_frozen BK462.out 4; have hfz13_5 := blk_frozen BK462.out 5) | (go_at_call 15; (with_reducible refine (affine_All.calls k a0_0 a0_1 a0_2 a0_3 a0_4 a0_5 _ _ l1 t464 t467 _ ?side1 ?side2 ?side3 A8.out).mono ?_); (case side1 => exact cq (Kd.C_below HR1.out HB.out)); (case side2 => exact HC1.out); (case side3 => exact Gl.below HG.out (wq HB.out)); rintro e w14 ⟨v465, rfl, ho0, hb⟩; have n0_ := Aside0.mk (Kd.R_lower ho0 (below_size (wq HB.out))); have n1_ := Aside0.mk (blk_below (bq BK462.out) hb); have n2_ := Aside0.mk (below_step (wq HB.out) hb); clear BK462 HB; have HO466 := n0_; have BK462 := n1_; have HB := n2_; clear n0_ n1_ n2_; (try clear hb); (try clear hb2); (try clear hk); (try clear hi); (try clear ho0); have hcz15_0 : w14.cell? ⟨gb462, 0, none⟩ = some (.int .i64 a0_0) := (blk_cell BK462.out 0).trans rfl; have hcz15_1 : w14.cell? ⟨gb462, 1, none⟩ = some (.int .i64 a0_1) := (blk_cell BK462.out 1).trans rfl; have hcz15_2 : w14.cell? ⟨gb462, 2, none⟩ = some (.int .i64 a0_2) := (blk_cell BK462.out 2).trans rfl; have hcz15_3 : w14.cell? ⟨gb462, 3, none⟩ = some (.int .i64 a0_3) := (blk_cell BK462.out 3).trans rfl; have hcz15_4 : w14.cell? ⟨gb462, 4, none⟩ = some (.int .i64 a0_4) := (blk_cell BK462.out 4).trans rfl; have hcz15_5 : w14.cell? ⟨gb462, 5, none⟩ = some (.int .i64 a0_5) := (blk_cell BK462.out 5).trans rfl; have hfz15_0 := blk_frozen BK462.out 0; have hfz15_1 := blk_frozen BK462.out 1; have hfz15_2 := blk_frozen BK462.out 2; have hfz15_3 := blk_frozen BK462.out 3; have hfz15_4 := blk_frozen BK462.out 4; have hfz15_5 := blk_frozen BK462.out 5) | (go_at_call 16; (with_reducible refine (pointillistref08_All.calls k a0_0 a0_1 a0_2 a0_3 a0_4 a0_5 _ _ l1 t468 t471 _ ?side1 ?side2 A9.out).mono ?_); (case side1 => exact cq (Kd.C_below HR1.out HB.out)); (case side2 => exact HC1.out); rintro e w16 ⟨v469, rfl, ho0, hb⟩; have n0_ := Aside0.mk (Kd.R_elder' (rq HO466.out) (Kd.R_base ho0) hb); have n1_ := Aside0.mk (Kd.R_lower (Kd.R_new' ho0 (Kd.R_lt (rq HO466.out))) (below_size (wq HB.out))); have n2_ := Aside0.mk (blk_below (bq BK462.out) hb); have n3_ := Aside0.mk (below_step (wq HB.out) hb); clear HO466 BK462 HB; have HO466 := n0_; have HO470 := n1_; have BK462 := n2_; have HB := n3_; clear n0_ n1_ n2_ n3_; (try clear hb); (try clear hb2); (try clear hk); (try clear hi); (try clear ho0))))
   (try simp only [apz])
   go_cut [36] (fun v36 wc => ∃ (kq : Nat) (x36_9 : Bool), v36 = .bool x36_9 ∧ Aside0 (pointillistlaw08_AffineAll.j0 kq t464 t468 x36_9 = some true) ∧ Aside0 (kq ≤ k) ∧ Aside0 (Kd.R k25 25 wc w.heap.size (fun k_ => some k_ ≠ (v469 : Value).ownBlock) v465 t464) ∧ Aside0 (Kd.R k25 25 wc w.heap.size (fun k_ => some k_ ≠ (v465 : Value).ownBlock) v469 t468) ∧ Aside0 (wc.heap[gb462]? = some (.cells #[.int .i64 a0_0, .int .i64 a0_1, .int .i64 a0_2, .int .i64 a0_3, .int .i64 a0_4, .int .i64 a0_5] 23 (0, 0))) ∧ Aside0 (Below w.heap.size w wc))
   case first =>
    have H := HC10.out
    clear HC10
    by_cases c17 : t467 = t471
    ·
     rw [if_pos c17] at H
     have c17b0 : (t467 == t471) = true := beq_iff_eq.mpr c17
     have c17b1 : (t467 != t471) = false := bne_eq_false_iff_eq.mpr c17
     clear c17
     (first | rw [c17b0] | (simp only [i64_w, i32_w]; rw [c17b0]) | skip)
     have H' := Aside0.mk H
     clear H
     obtain ⟨Ao18, co18, eo18⟩ := Kd.R_slice HO466.out
     subst eo18
     obtain ⟨Ao19, co19, eo19⟩ := Kd.R_slice HO470.out
     subst eo19
     go_wp2
     repeat (go_quiet (fail); try go_wp2)
     go_meet
     case rel => exact ⟨_, (((t464.length : Int) != (t468.length : Int))), (by first | rfl | (simp; done) | (simp [*]; done)), H', ⟨by first | omega | exact Nat.le_refl _⟩, ⟨by apply rq; exact Kd.R_mono HO466.out (fun _ hk => hk.2)⟩, ⟨by apply rq; exact Kd.R_mono HO470.out (fun _ hk => hk.2)⟩, ⟨by refine bq ?_; exact BK462.out⟩, ⟨by exact wq HB.out⟩⟩
    ·
     rw [if_neg c17] at H
     have c17b0 : (t467 == t471) = false := beq_eq_false_iff_ne.mpr c17
     have c17b1 : (t467 != t471) = true := bne_iff_ne.mpr c17
     (first | rw [c17b0] | (simp only [i64_w, i32_w]; rw [c17b0]) | skip)
     have H' := Aside0.mk H
     clear H
     go_wp2
     repeat (go_quiet (fail); try go_wp2)
     go_meet
     case rel => exact ⟨_, (true), (by first | rfl | (simp; done) | (simp [*]; done)), H', ⟨by first | omega | exact Nat.le_refl _⟩, ⟨by apply rq; exact Kd.R_mono HO466.out (fun _ hk => hk.2)⟩, ⟨by apply rq; exact Kd.R_mono HO470.out (fun _ hk => hk.2)⟩, ⟨by refine bq ?_; exact BK462.out⟩, ⟨by exact wq HB.out⟩⟩
   case rest =>
    clear HC10
    try clear c1
    try clear p2
    try clear c4
    try clear c5
    try clear c5b0
    try clear c5b1
    try clear c17
    try clear c17b0
    try clear c17b1
    try clear hcz13_0
    try clear hcz13_1
    try clear hcz13_2
    try clear hcz13_3
    try clear hcz13_4
    try clear hcz13_5
    try clear hcz15_0
    try clear hcz15_1
    try clear hcz15_2
    try clear hcz15_3
    try clear hcz15_4
    try clear hcz15_5
    try clear hfz13_0
    try clear hfz13_1
    try clear hfz13_2
    try clear hfz13_3
    try clear hfz13_4
    try clear hfz13_5
    try clear hfz15_0
    try clear hfz15_1
    try clear hfz15_2
    try clear hfz15_3
    try clear hfz15_4
    try clear hfz15_5
    obtain ⟨kq, x36_9, rfl, HA, HJ9, HO_5, HO_7, BK462, HB⟩ := hcut
    cases kq with
    | zero => exact absurd HA.out (by simp [pointillistlaw08_AffineAll.j0])
    | succ kj9 =>
     have H := HA.out
     clear HA
     simp only [pointillistlaw08_AffineAll.j0] at H
     by_cases c20 : x36_9 = true
     ·
      subst c20
      have H1 : (some false) = some true := by rw [if_pos rfl] at H; exact H
      clear H
      have H := H1
      clear H1
      exact absurd H (by simp)
     ·
      replace c20 := Bool.eq_false_iff.mpr c20
      subst c20
      have H1 : (pointillistlaw08_AffineAll.l0 kj9 t464 t468 (t464.length : Int) 0) = some true := by rw [if_neg (show ¬ (false = true) by decide)] at H; exact H
      clear H
      have H := H1
      clear H1
      have H' := Aside0.mk H
      clear H
      obtain ⟨Ao21, co21, eo21⟩ := Kd.R_slice HO_5.out
      subst eo21
      go_wp2
      repeat (go_quiet (fail); try go_wp2)
      go_loopg [39] kj9 (fun kq v39 w' => ∃ (x39_2 : Int), v39 = .int .i64 x39_2 ∧ Aside0 (pointillistlaw08_AffineAll.l0 kq t464 t468 (t464.length : Int) x39_2 = some true) ∧ Aside0 (kq ≤ kj9) ∧ Aside0 (Kd.R k25 25 w' w.heap.size (fun k_ => some k_ ≠ (v469 : Value).ownBlock) (.slice Ao21 t464.length co21) t464) ∧ Aside0 (Kd.R k25 25 w' w.heap.size (fun k_ => some k_ ≠ ((.slice Ao21 t464.length co21) : Value).ownBlock) v469 t468) ∧ Aside0 (w'.heap[gb462]? = some (.cells #[.int .i64 a0_0, .int .i64 a0_1, .int .i64 a0_2, .int .i64 a0_3, .int .i64 a0_4, .int .i64 a0_5] 23 (0, 0))) ∧ Aside0 (Below w.heap.size w w'))
      case atStart => exact ⟨(0), (by first | rfl | (simp; done) | (simp [*]; done)), H', ⟨Nat.le_refl _⟩, ⟨by apply rq; exact HO_5.out⟩, ⟨by apply rq; exact HO_7.out⟩, ⟨by refine bq ?_; exact BK462.out⟩, ⟨by exact wq HB.out⟩⟩
      case round =>
       clear H'
       try clear c1
       try clear c2
       try clear p2
       try clear c4
       try clear c5
       try clear c5b0
       try clear c5b1
       try clear c17
       try clear c17b0
       try clear c17b1
       try clear c20
       try clear hcz13_0
       try clear hcz13_1
       try clear hcz13_2
       try clear hcz13_3
       try clear hcz13_4
       try clear hcz13_5
       try clear hcz15_0
       try clear hcz15_1
       try clear hcz15_2
       try clear hcz15_3
       try clear hcz15_4
       try clear hcz15_5
       try clear hfz13_0
       try clear hfz13_1
       try clear hfz13_2
       try clear hfz13_3
       try clear hfz13_4
       try clear hfz13_5
       try clear hfz15_0
       try clear hfz15_1
       try clear hfz15_2
       try clear hfz15_3
       try clear hfz15_4
       try clear hfz15_5
       try clear p2
       obtain ⟨x39_2, rfl, HA, HK2, HO_5, HO_7, BK462, HB⟩ := hrel
       cases gk with
       | zero => exact absurd HA.out (by simp [pointillistlaw08_AffineAll.l0])
       | succ k2 =>
        have H := HA.out
        clear HA
        simp only [pointillistlaw08_AffineAll.l0] at H
        by_cases c22 : x39_2 < (t464.length : Int)
        ·
         rw [if_pos c22] at H
         have c22b0 : decide (x39_2 < (t464.length : Int)) = true := decide_eq_true c22
         clear c22
         by_cases c23 : 0 ≤ x39_2
         ·
          rw [if_pos c23] at H
          have c23b0 : decide (0 ≤ x39_2) = true := decide_eq_true c23
          clear c23
          by_cases c24 : x39_2 < (t464.length : Int)
          ·
           rw [if_pos c24] at H
           have c24b0 : decide (x39_2 < (t464.length : Int)) = true := decide_eq_true c24
           clear c24
           by_cases c25 : x39_2 < (t468.length : Int)
           ·
            rw [if_pos c25] at H
            have c25b0 : decide (x39_2 < (t468.length : Int)) = true := decide_eq_true c25
            clear c25
            by_cases c26 : (!(((rd_T25 t464 x39_2).f0) == ((rd_T25 t468 x39_2).f0)) || (!(((rd_T25 t464 x39_2).f1) == ((rd_T25 t468 x39_2).f1)))) = true
            ·
             rw [if_pos c26] at H
             have c26b0 : (!(((rd_T25 t464 x39_2).f0) == ((rd_T25 t468 x39_2).f0)) || (!(((rd_T25 t464 x39_2).f1) == ((rd_T25 t468 x39_2).f1)))) = true := c26
             clear c26
             exact absurd H (by simp)
            ·
             rw [if_neg c26] at H
             have c26b0 : (!(((rd_T25 t464 x39_2).f0) == ((rd_T25 t468 x39_2).f0)) || (!(((rd_T25 t464 x39_2).f1) == ((rd_T25 t468 x39_2).f1)))) = false := by simpa using c26
             clear c26
             have H' := Aside0.mk H
             clear H
             have p472 : 0 ≤ (x39_2 : Int) := of_decide_eq_true (by first | (with_reducible assumption) | assumption)
             have q472 : x39_2 < (t464.length : Int) := of_decide_eq_true (by first | (with_reducible assumption) | assumption)
             obtain ⟨ad472, e472, hx472_0, hx472_1⟩ := at_T25 (Kd.R_reads' HO_5.out).2.2 x39_2 p472 q472
             cases e472
             replace p472 := eq_true p472
             replace q472 := eq_true q472
             obtain ⟨Ao27, co27, eo27⟩ := Kd.R_slice HO_7.out
             subst eo27
             have p473 : 0 ≤ (x39_2 : Int) := of_decide_eq_true (by first | (with_reducible assumption) | assumption)
             have q473 : x39_2 < (t468.length : Int) := of_decide_eq_true (by first | (with_reducible assumption) | assumption)
             obtain ⟨ad473, e473, hx473_0, hx473_1⟩ := at_T25 (Kd.R_reads' HO_7.out).2.2 x39_2 p473 q473
             cases e473
             replace p473 := eq_true p473
             replace q473 := eq_true q473
             go_wp2
             repeat (go_quiet (fail); try go_wp2)
             go_roundg k2
             case measure => have := HJ9.out; have := HK2.out; omega
             case rel => exact ⟨(wrap64 (x39_2 + 1)), (by first | rfl | (simp; done) | (simp [*]; done)), H', ⟨by have := HJ9.out; have := HK2.out; omega⟩, ⟨by apply rq; exact HO_5.out⟩, ⟨by apply rq; exact HO_7.out⟩, ⟨by refine bq ?_; exact BK462.out⟩, ⟨by exact wq HB.out⟩⟩
           ·
            rw [if_neg c25] at H
            exact absurd H (by simp)
          ·
           rw [if_neg c24] at H
           exact absurd H (by simp)
         ·
          rw [if_neg c23] at H
          exact absurd H (by simp)
        ·
         rw [if_neg c22] at H
         have c22b0 : decide (x39_2 < (t464.length : Int)) = false := decide_eq_false c22
         clear c22
         have HE_ := Aside0.mk (Option.some.inj H)
         clear H
         go_wp2
         repeat (go_quiet (fail); try go_wp2)
         go_ret
         exact ⟨by first | rfl | (simp [errW_none, errW_some] <;> rfl) | (rw [HE_.out]; done) | (simp [HE_.out]; done) | (have h_ := HE_.out; simp_all; done) | (have h_ := HE_.out; simp [*] at h_; simp [*, h_]; done) | (simp [*, errW_none, errW_some] <;> rfl), by exact wq HB.out⟩
 ·
  replace c4 := Bool.eq_false_iff.mpr c4
  subst c4
  have H1 : (some false) = some true := by rw [if_neg (show ¬ (false = true) by decide)] at H; exact H
  clear H
  have H := H1
  clear H1
  exact absurd H (by simp)
end Go.Proofs.YtbnjgaeeojcjbaaDoor.PR
namespace Go.Proofs.YtbnjgaeeojcjbaaDoor.PR
open Go.RowKit Go.Proofs.YtbnjgaeeojcjbaaDoorW.PrintWords
def allG (m0 m1 m2 m3 m4 m5 : Int) : List S25 → List S25 → List S25 × Int
  | [], acc => (acc, 0)
  | p :: l, acc => if (apply m0 m1 m2 m3 m4 m5 p.f0 p.f1).2.2 = 0 then allG m0 m1 m2 m3 m4 m5 l (acc ++ [⟨(apply m0 m1 m2 m3 m4 m5 p.f0 p.f1).1, (apply m0 m1 m2 m3 m4 m5 p.f0 p.f1).2.1⟩]) else ([], (apply m0 m1 m2 m3 m4 m5 p.f0 p.f1).2.2)
theorem moved_eq (k : Nat) (m0 m1 m2 m3 m4 m5 x y : Int) : affine_moved.r (k + 7) m0 m1 m2 m3 m4 m5 x y = some (if (apply m0 m1 m2 m3 m4 m5 x y).2.2 = 0 then .ok ((apply m0 m1 m2 m3 m4 m5 x y).1, (apply m0 m1 m2 m3 m4 m5 x y).2.1) else .error (apply m0 m1 m2 m3 m4 m5 x y).2.2) := by
  have h := apply_eq k m0 m1 m2 m3 m4 m5 x y
  unfold affine_Apply.f at h
  obtain ⟨r, hr, h2⟩ := Option.bind_eq_some_iff.mp h
  rw [hr]
  cases r with
  | ok q =>
    obtain ⟨a, b⟩ := q
    rw [← Option.some.inj h2]
    rfl
  | error c =>
    have hc := all_err hr
    rw [← Option.some.inj h2]
    simp [hc]
theorem all_g_eq (k : Nat) (m0 m1 m2 m3 m4 m5 : Int) : ∀ (l acc : List S25), acc.length + l.length < 8796093022208 → affine_All.g (k + 7) m0 m1 m2 m3 m4 m5 l acc = some (allG m0 m1 m2 m3 m4 m5 l acc) := by
  intro l
  induction l with
  | nil => intro acc _; rfl
  | cons p l ih =>
    intro acc hl
    rw [affine_All.g, moved_eq, allG]
    simp only [Option.bind_some]
    by_cases h : (apply m0 m1 m2 m3 m4 m5 p.f0 p.f1).2.2 = 0
    · rw [if_pos h, if_pos h]
      simp only
      rw [if_pos (by simp only [List.length_cons] at hl; omega), ih _ (by simp only [List.length_append, List.length_cons, List.length_nil] at *; omega)]
    · rw [if_neg h, if_neg h]
def allM (m0 m1 m2 m3 m4 m5 : Int) (l : List S25) : List S25 × Int := if rightM m0 m1 m2 m3 m4 m5 then allG m0 m1 m2 m3 m4 m5 l [] else ([], 1)
theorem all_eq (k : Nat) (m0 m1 m2 m3 m4 m5 : Int) (l : List S25) (hl : l.length < 8796093022208) : affine_All.f (k + 7) m0 m1 m2 m3 m4 m5 l = some (allM m0 m1 m2 m3 m4 m5 l) := by
  unfold affine_All.f allM
  rw [if_pos (by omega), right_eq]
  simp only [Option.bind_some, decide_eq_true_eq]
  by_cases h : rightM m0 m1 m2 m3 m4 m5
  · rw [if_pos h, if_pos h, all_g_eq k _ _ _ _ _ _ l [] (by simpa using hl)]
  · rw [if_neg h, if_neg h]
theorem refall_loop (m0 m1 m2 m3 m4 m5 : Int) (l : List S25) (hl : l.length < 4611686018427387904) : ∀ (d i : Nat) (acc : List S25), i + d = l.length → acc.length + d < 8796093022208 →
    Ev (fun k => pointillistref08_All.l0 k l acc (i : Int) m0 m1 m2 m3 m4 m5) (allG m0 m1 m2 m3 m4 m5 (l.drop i) acc) := by
  intro d
  induction d with
  | zero =>
    intro i acc hi _
    rw [List.drop_eq_nil_of_le (by omega), allG]
    exact Ev.step (fun k => by rw [pointillistref08_All.l0, if_neg (by omega)]) (Ev.now _)
  | succ d ih =>
    intro i acc hi ha
    have hlt : i < l.length := by omega
    have hrd : rd_T25 l (i : Int) = l[i] := by simp [rd_T25, hlt]
    rw [List.drop_eq_getElem_cons hlt, allG]
    refine Ev.step (fun k => by rw [pointillistref08_All.l0, if_pos (by omega), if_pos (by omega), hrd]) ?_
    refine Ev.bind (refapply_ev m0 m1 m2 m3 m4 m5 l[i].f0 l[i].f1) ?_
    generalize apply m0 m1 m2 m3 m4 m5 l[i].f0 l[i].f1 = q
    have hw : wrap64 ((i : Int) + 1) = ((i + 1 : Nat) : Int) := by rw [w64' _ (by omega) (by omega)]; omega
    by_cases h : q.2.2 = 0
    · simp only [if_pos h]
      refine Ev.congr (fun k => by rw [if_pos (show acc.length < 8796093022208 by omega), hw]) (ih (i + 1) (acc ++ [⟨q.1, q.2.1⟩]) (by omega) (by simp only [List.length_append, List.length_cons, List.length_nil]; omega))
    · simp only [if_neg h]
      exact Ev.now _
theorem refall_ev (m0 m1 m2 m3 m4 m5 : Int) (l : List S25) (hl : l.length < 8796093022208) : Ev (fun k => pointillistref08_All.f k m0 m1 m2 m3 m4 m5 l) (allM m0 m1 m2 m3 m4 m5 l) := by
  unfold pointillistref08_All.f allM
  rw [refright_eq]
  simp only [Option.bind_some, decide_eq_true_eq]
  by_cases h : rightM m0 m1 m2 m3 m4 m5
  · simp only [if_pos h]
    exact refall_loop m0 m1 m2 m3 m4 m5 l (by omega) l.length 0 [] (by omega) (by simpa using hl)
  · simp only [if_neg h]
    exact Ev.now _
theorem allG_len (m0 m1 m2 m3 m4 m5 : Int) : ∀ (l acc : List S25), (allG m0 m1 m2 m3 m4 m5 l acc).1.length ≤ acc.length + l.length := by
  intro l
  induction l with
  | nil => intro acc; exact Nat.le_refl _
  | cons p l ih =>
    intro acc
    rw [allG]
    split
    · have := ih (acc ++ [⟨(apply m0 m1 m2 m3 m4 m5 p.f0 p.f1).1, (apply m0 m1 m2 m3 m4 m5 p.f0 p.f1).2.1⟩])
      simp only [List.length_append, List.length_cons, List.length_nil] at *
      omega
    · exact Nat.zero_le _
theorem allM_len (m0 m1 m2 m3 m4 m5 : Int) (l : List S25) : (allM m0 m1 m2 m3 m4 m5 l).1.length ≤ l.length := by
  unfold allM
  split
  · simpa using allG_len m0 m1 m2 m3 m4 m5 l []
  · exact Nat.zero_le _
theorem all_same (q : List S25) (hq : q.length < 4611686018427387904) : ∀ (d i : Nat), i + d = q.length → Ev (fun k => pointillistlaw08_AffineAll.l0 k q q (q.length : Int) (i : Int)) true := by
  intro d
  induction d with
  | zero => intro i hi; exact Ev.step (fun k => by rw [pointillistlaw08_AffineAll.l0, if_neg (by omega)]) (Ev.now _)
  | succ d ih =>
    intro i hi
    have hw : wrap64 ((i : Int) + 1) = ((i + 1 : Nat) : Int) := by rw [w64' _ (by omega) (by omega)]; omega
    refine Ev.step (fun k => by rw [pointillistlaw08_AffineAll.l0, if_pos (by omega), if_pos (by omega), if_pos (by omega), if_pos (by omega), if_neg (by simp), hw]) (ih (i + 1) (by omega))
theorem all_ev (m0 m1 m2 m3 m4 m5 : Int) (l : List S25) : Ev (fun k => pointillistlaw08_AffineAll.f k m0 m1 m2 m3 m4 m5 l) true := by
  unfold pointillistlaw08_AffineAll.f
  refine Ev.bind (ev7 wakes_true) ?_
  simp only [if_true]
  by_cases hl : (l.length : Int) > 60
  · simp only [if_pos hl]
    exact Ev.now _
  · simp only [if_neg hl]
    refine Ev.bind (ev7 (fun k => all_eq k m0 m1 m2 m3 m4 m5 l (by omega))) (Ev.bind (refall_ev m0 m1 m2 m3 m4 m5 l (by omega)) ?_)
    have hlen := allM_len m0 m1 m2 m3 m4 m5 l
    generalize allM m0 m1 m2 m3 m4 m5 l = q at *
    simp only [if_true, bne_self_eq_false]
    refine Ev.step (fun k => by rw [pointillistlaw08_AffineAll.j0, if_neg (by decide)]) ?_
    exact all_same q.1 (by omega) q.1.length 0 (by omega)
theorem affineAll_walk (a0 a1 a2 a3 a4 a5 : Int) (A : Option Addr) (c : Nat) (l : List S25) (w : World) (hG : Gl w) (_ : -9223372036854775808 ≤ a0 ∧ a0 < 9223372036854775808) (_ : -9223372036854775808 ≤ a1 ∧ a1 < 9223372036854775808) (_ : -9223372036854775808 ≤ a2 ∧ a2 < 9223372036854775808)
    (_ : -9223372036854775808 ≤ a3 ∧ a3 < 9223372036854775808) (_ : -9223372036854775808 ≤ a4 ∧ a4 < 9223372036854775808) (_ : -9223372036854775808 ≤ a5 ∧ a5 < 9223372036854775808) (hr : Kd.C k25 w A l.length l) (hc : l.length ≤ c) :
    Calls Tryd.prog 5 #[.agg #[.int .i64 a0, .int .i64 a1, .int .i64 a2, .int .i64 a3, .int .i64 a4, .int .i64 a5], .slice A l.length c] w fun e w' => e = .returned (.bool true) ∧ Below w.heap.size w w' := by
  obtain ⟨k, h⟩ := (all_ev a0 a1 a2 a3 a4 a5 l).rounds
  exact pointillistlaw08_AffineAll.calls k a0 a1 a2 a3 a4 a5 A c l w hr hc hG h
end Go.Proofs.YtbnjgaeeojcjbaaDoor.PR
namespace Go.Proofs.YtbnjgaeeojcjbaaDoor
open Go.ChangeShapes Go.WideShapes Go.ChangeAt
section
variable {H : Type} {enc : TypeId × Value → H} {P : Program} {w : World} {base : Nat} {spare : Nat → Bool} {held : Bool} {t : TypeId}
def isInt (P : Program) (k : IntKind) (t : TypeId) : Bool := match P.underlying t with | some (.int k') => k' == k | _ => false
theorem isInt_spec {k : IntKind} (h : isInt P k t = true) : P.underlying t = some (.int k) := by
  unfold isInt at h
  split at h
  · rename_i k' hk
    have : k' = k := by cases k' <;> cases k <;> first | rfl | (exact absurd h (by decide))
    rw [hk, this]
  · cases h
def intFields (P : Program) (k : IntKind) (fs : Array Field) : Bool := (List.range fs.size).all fun i => match fs[i]? with | some f => isInt P k f.type && f.offset == i && P.cellsOf f.type == 1 | none => false
theorem ints_of_parts {k : IntKind} {cs : List Value} {n m : Nat} {xs : List (DataW H × List MemPlace)} {T : Nat → TypeId} (hn : cs.length = n) (hx : xs.length = n) (hT : ∀ i, i < n → P.underlying (T i) = some (.int k))
    (h : ∀ i, i < n → DataW.trod enc P w base spare held m (T i) ((cs.drop i).take 1) = xs[i]?) : ∃ ns : List Int, ns.length = n ∧ cs = ns.map (Value.int k) ∧ (∀ x ∈ ns, (Lit.int k x).wf = true) ∧ xs.map (·.1) = ns.map (fun z => .lit (.int k z)) := by
  have key : ∀ i, i < n → ∃ z, cs[i]? = some (.int k z) ∧ (Lit.int k z).wf = true ∧ xs[i]? = some (.lit (.int k z), []) := by
    intro i hi
    have h1 := h i hi
    rw [List.getElem?_eq_getElem (by omega)] at h1
    obtain ⟨z, hz, hxz, hw⟩ := DataW.trod_int (hT i hi) h1
    refine ⟨z, ?_, hw, by rw [List.getElem?_eq_getElem (by omega), hxz]⟩
    have hlt : i < cs.length := by omega
    rw [List.drop_eq_getElem_cons hlt] at hz
    simp only [List.take_succ_cons, List.take_zero, List.cons.injEq, and_true] at hz
    rw [List.getElem?_eq_getElem hlt, hz]
  refine ⟨cs.map (fun v => match v with | .int _ z => z | _ => 0), by simpa using hn, ?_, ?_, ?_⟩
  · apply List.ext_getElem?
    intro i
    by_cases hi : i < n
    · obtain ⟨z, hz, _⟩ := key i hi
      simp [List.getElem?_map, hz]
    · simp [List.getElem?_map, List.getElem?_eq_none (show cs.length ≤ i by omega)]
  rotate_left
  · apply List.ext_getElem?
    intro i
    by_cases hi : i < n
    · obtain ⟨z, hz, _, hxz⟩ := key i hi
      simp [List.getElem?_map, hz, hxz]
    · simp [List.getElem?_map, List.getElem?_eq_none (show cs.length ≤ i by omega), List.getElem?_eq_none (show xs.length ≤ i by omega)]
  · intro x hx2
    rw [List.mem_map] at hx2
    obtain ⟨v, hv, hvx⟩ := hx2
    obtain ⟨i, hi⟩ := List.getElem?_of_mem hv
    have hlt : i < n := by
      have := (List.getElem?_eq_some_iff.1 hi).1
      omega
    obtain ⟨z, hz, hw, _⟩ := key i hlt
    rw [hi] at hz
    obtain rfl := Option.some.inj hz
    simp only at hvx
    rw [← hvx]
    exact hw
theorem trod_struct_ints {k : IntKind} {fs : Array Field} {fuel : Nat} {cs : List Value} {x : DataW H × List MemPlace} (ht : P.underlying t = some (.struct fs)) (hf : intFields P k fs = true) (hC : P.cellsOf t = fs.size)
    (h : DataW.trod enc P w base spare held fuel t cs = some x) : ∃ ns : List Int, ns.length = fs.size ∧ cs = ns.map (Value.int k) ∧ (∀ z ∈ ns, (Lit.int k z).wf = true) ∧ x.1 = .agg (ns.map (fun z => .lit (.int k z))) := by
  obtain ⟨xs, m, rfl, rfl, hlen, hx, hel⟩ := DataW.trod_struct ht h
  unfold intFields at hf
  rw [List.all_eq_true] at hf
  have hg : ∀ i, i < fs.size → ∃ f, fs[i]? = some f ∧ P.underlying f.type = some (.int k) ∧ f.offset = i ∧ P.cellsOf f.type = 1 := by
    intro i hi
    have := hf i (List.mem_range.2 hi)
    split at this
    · rename_i f hfi
      simp only [Bool.and_eq_true, beq_iff_eq] at this
      exact ⟨f, hfi, isInt_spec this.1.1, this.1.2, this.2⟩
    · cases this
  suffices hsuf : ∃ ns : List Int, ns.length = fs.size ∧ cs = ns.map (Value.int k) ∧ (∀ z ∈ ns, (Lit.int k z).wf = true) ∧ xs.map (·.1) = ns.map (fun z => .lit (.int k z)) by
    obtain ⟨ns, h1, h2, h3, h4⟩ := hsuf
    exact ⟨ns, h1, h2, h3, by simp only [h4]⟩
  refine ints_of_parts (enc := enc) (P := P) (w := w) (base := base) (spare := spare) (held := held) (m := m) (T := fun i => ((fs[i]?).map (·.type)).getD 0) (by omega) hx (fun i hi => ?_) (fun i hi => ?_)
  · obtain ⟨f, hfi, hu, _, _⟩ := hg i hi
    simp only [hfi, Option.map_some, Option.getD_some]
    exact hu
  · obtain ⟨f, hfi, hu, ho, hc⟩ := hg i hi
    have := hel i f hfi
    rw [ho, hc] at this
    simp only [hfi, Option.map_some, Option.getD_some]
    exact this
theorem open_struct_ints {r : Reach} {b0 : Nat} {v : Value} {d : DataW H} {p : List MemPlace} {k : IntKind} {fs : Array Field} (ht : P.underlying t = some (.struct fs)) (hf : intFields P k fs = true) (hC : P.cellsOf t = fs.size)
    (hv : Value.okWide P w r b0 t v) (h : DataW.Trod enc P w base spare held t v d p) : ∃ ns : List Int, ns.length = fs.size ∧ v = .agg (ns.map (Value.int k)).toArray ∧ ∀ z ∈ ns, (Lit.int k z).wf = true := by
  obtain ⟨cs, rfl, _⟩ := okWide_struct ht hv
  obtain ⟨fuel, hf2⟩ := h
  obtain ⟨ns, h1, h2, h3, _⟩ := trod_struct_ints ht hf hC hf2
  have h2' : cs.toList = ns.map (Value.int k) := by simpa [Value.cells] using h2
  refine ⟨ns, h1, ?_, h3⟩
  rw [← h2']
end
theorem list_of_length2 {α : Type} {l : List α} (h : l.length = 2) : ∃ a b, l = [a, b] := by
  match l, h with
  | [a, b], _ => exact ⟨a, b, rfl⟩
theorem list_of_length6 {α : Type} {l : List α} (h : l.length = 6) : ∃ a b c d e f, l = [a, b, c, d, e, f] := by
  match l, h with
  | [a, b, c, d, e, f], _ => exact ⟨a, b, c, d, e, f, rfl⟩
theorem wf_i64 {n : Int} (h : (Lit.int .i64 n).wf = true) : -9223372036854775808 ≤ n ∧ n < 9223372036854775808 := by
  simp [Lit.wf, IntKind.min, IntKind.max, IntKind.signed, IntKind.bits] at h
  omega
end Go.Proofs.YtbnjgaeeojcjbaaDoor
namespace Go.Proofs.YtbnjgaeeojcjbaaDoor
open Go.ChangeShapes Go.WideShapes Go.ChangeAt Go.Proofs.YtbnjgaeeojcjbaaDoorW.PrintWords
section
variable {H : Type} {enc : TypeId × Value → H} {P : Program} {w : World} {spare : Nat → Bool} {held : Bool} {t : TypeId}
theorem open_rows {α : Type} {r : Reach} {b0 : Nat} {v : Value} {d : DataW H} {p : List MemPlace} {e : TypeId} (z : α) (wf : α → Prop) (K : α → List Value → Prop) (size : Nat) (ht : P.underlying t = some (.slice e)) (hc : P.cellsOf e = size)
    (hK : ∀ n cs x, DataW.trod enc P w 0 spare held n e cs = some x → ∃ q : α, wf q ∧ K q cs) (hv : Value.okWide P w r b0 t v) (h : DataW.Trod enc P w 0 spare held t v d p) :
    ∃ (A : Option Addr) (c : Nat) (l : List α), v = .slice A l.length c ∧ ReadsRow K size w A l.length l ∧ l.length ≤ c ∧ ∀ x ∈ l, wf x := by
  obtain ⟨a, len, cap, rfl⟩ := okWide_slice ht hv
  obtain ⟨fuel, hf⟩ := h
  rcases Go.Deep.open_slice ht hf with ⟨hcs, _⟩ | ⟨x, l, c, m, n, D, Pl, hcs, _, hl, hm, hmm, hx, hel⟩
  · simp [Value.cells] at hcs
    obtain ⟨rfl, rfl, rfl⟩ := hcs
    exact ⟨none, 0, [], rfl, ⟨rfl, by simp, fun h => absurd h (by simp)⟩, Nat.le_refl _, fun _ h => by simp at h⟩
  · simp [Value.cells] at hcs
    obtain ⟨rfl, rfl, rfl⟩ := hcs
    have hlm : len ≤ m := by rw [hmm]; split <;> omega
    haveI : Inhabited α := ⟨z⟩
    obtain ⟨f, hF⟩ := Go.Deep.choose_lt (α := α) (n := len) (p := fun i q => wf q ∧ ∃ cs, cs.length = size ∧ K q cs ∧ ∀ j u, cs[j]? = some u → w.cell? (x.add (i * size + j)) = some u) (fun i hi => by
      obtain ⟨cs', h1, h2⟩ := hel i (by omega)
      obtain ⟨q, hq, hk⟩ := hK _ _ _ h2
      rw [hc] at h1
      obtain ⟨_, h3, h4⟩ := World.cells?_some h1
      refine ⟨q, hq, cs', h3, hk, fun j u hu => ?_⟩
      have hj : j < size := by rw [← h3]; exact (List.getElem?_eq_some_iff.1 hu).1
      have := h4 j hj
      rw [hu] at this
      rw [← this, Go.Deep.add_add])
    refine ⟨some x, cap, (List.range len).map f, by simp, ⟨rfl, ?_, fun _ => ⟨x, rfl, fun j p hj => ?_⟩⟩, by simpa using hl, fun y hy => ?_⟩
    · have : cap ≤ 9223372036854775807 := by unfold maxLen at hm; omega
      simp
      omega
    · have hj2 : j < len := by simpa using (List.getElem?_eq_some_iff.1 hj).1
      simp [hj2] at hj
      subst hj
      exact (hF j hj2).2
    · rw [List.mem_map] at hy
      obtain ⟨i, hi, rfl⟩ := hy
      exact (hF i (List.mem_range.1 hi)).1
end
end Go.Proofs.YtbnjgaeeojcjbaaDoor
namespace Go.Proofs.YtbnjgaeeojcjbaaDoor
open Go.ChangeShapes Go.WideShapes Go.ChangeAt Go.RowKit
theorem gNought : Tryd.prog.globalNamed "pointillist/wide.nought" = some 0 := by kernel_rfl
theorem tNought : (Tryd.prog.globals[0]?).map (·.type) = some 69 := by kernel_rfl
theorem of_nought {W : World} (h : laidMetH Tryd.prog [("pointillist/wide.nought", Rows.laid_pointillist_wide_nought)] W) : Gl W := by
  rw [MakeChecks.laidMetH_plain _ _ _ (by kernel_rfl)] at h
  obtain ⟨ps, ⟨g0, t0, cs0, f0, p0, q0, hg0, ht0, hv0, hd0, _, _⟩, _, _⟩ := h
  obtain rfl := Option.some.inj (gNought.symm.trans hg0)
  obtain rfl := Option.some.inj (tNought.symm.trans ht0)
  obtain ⟨ns, hl, hc, _, hx⟩ := trod_struct_ints (k := .u64) Tryd.underlying69 (by kernel_rfl) (by kernel_rfl) hd0
  obtain ⟨a, b, rfl⟩ := list_of_length2 hl
  simp only [Rows.laid_pointillist_wide_nought, List.map_cons, List.map_nil, DataW.agg.injEq, List.cons.injEq, DataW.lit.injEq, Lit.int.injEq, true_and, and_true] at hx
  obtain ⟨rfl, rfl⟩ := hx
  have c : cs0 = #[.int .u64 0, .int .u64 0] := by
    apply Array.ext'
    simpa using hc
  have h0 := World.var?_cell hg0 hv0 0
  have h1 := World.var?_cell hg0 hv0 1
  rw [c] at h0 h1
  exact ⟨by simpa using h0, by simpa using h1⟩
theorem Gl.of_affineAll {W : World} (h : laidMetH Tryd.prog [("pointillist/wide.nought", Rows.laid_pointillist_wide_nought)] W) : Gl W := of_nought h
end Go.Proofs.YtbnjgaeeojcjbaaDoor
namespace Go.Proofs.YtbnjgaeeojcjbaaDoor.affineAllR
open Go.ChangeShapes Go.WideShapes Go.ChangeAt Go.RowKit
open Go.ChangeMaps (open_string shut_string)
theorem own : ownKnob Tryd.prog.godebug = none := by kernel_rfl
theorem laidOut : laidOutB Tryd.prog = true := by kernel_rfl
def listed {H : Type} : List (String × DataW H) := [("pointillist/wide.nought", Rows.laid_pointillist_wide_nought)]
theorem met (os : Os) (args : Array Value) : laidMetH Tryd.prog listed ((World.doorLaid Tryd.prog 14 os).forCall (fun _ _ => 0) ⟨#[], args, []⟩).memory :=
  laidMetH_of_parts3 (fuel := 8) (laidMet_of_run' 8 (by kernel_rfl) (by kernel_rfl)) (by kernel_rfl) (by kernel_rfl)
set_option maxRecDepth 100000 in
theorem lifted (os : Os) (started : os.Started) (H : Type) (enc : TypeId × Value → H) :
    ReturnsInHanded {} Tryd.checked os 5 .any (fun w args => (Rows.affineAllSpec.pre enc Tryd.prog Tryd.f5 [] false w args ∧ laidMetH Tryd.prog listed w) ∧ sizedMet enc Tryd.prog Tryd.f5 (OpenSpec.ofChange Rows.affineAllSpec) false w args)
      (Rows.affineAllSpec.post enc Tryd.prog Tryd.f5 false true false false) := by
  refine returnsInHanded_of_change_and (C := Tryd.checked) (X := fun w _ => laidMetH Tryd.prog listed w) (fun _ _ _ hh h => h.of_heap hh) own started (by kernel_rfl) Tryd.func5
    (ChangeSpec.witness_shaped (enc := enc) (C := Tryd.checked) (os := os) (X := fun w _ => laidMetH Tryd.prog listed w) false (World.doorLaid Tryd.prog 14 os) #[.agg #[.int .i64 0, .int .i64 0, .int .i64 0, .int .i64 0, .int .i64 0, .int .i64 0], .slice none 0 0] 8 rfl (World.shaped_of_RefB (by kernel_rfl) (by kernel_rfl)) (by kernel_rfl) (by kernel_rfl) (by kernel_rfl) (met os _)) ?_
  intro W base args ds gs before hval0 hW hcnd hsz0 hL _
  clear hcnd
  have hval : ∀ (j : Nat) t v, Tryd.f5.params[j]? = some t → args[j]? = some v → Value.okWide Tryd.prog W .any base t v := hval0
  have hsz : (DataW.weightsEach Tryd.prog (Tryd.f5.params.toList ++ Rows.affineAllSpec.plain.varTypes Tryd.prog) (ds ++ gs)).all (· ≤ reachBytes) = true := hsz0
  have hW' := hW
  obtain ⟨p, q, hA0, hV, rfl, hfz, hnd⟩ := hW
  have hA : DataW.TrodAll enc Tryd.prog W 0 (fun _ => true) true Tryd.f5.params.toList args.toList ds p := hA0
  rw [Tryd.params5] at hA hval hsz
  obtain ⟨v0, vs0, d0, ds0, p0, q0, hargs, rfl, rfl, h0, r0⟩ := trodAll_cons hA
  obtain ⟨v1, vs1, d1, ds1, p1, q1, rfl, rfl, rfl, h1, r1⟩ := trodAll_cons r0
  obtain ⟨rfl, rfl, rfl⟩ := trodAll_nil r1
  obtain rfl : args = #[v0, v1] := by cases args; simp_all
  obtain ⟨rfl, rfl⟩ := trodVars_none hV
  have hG : Gl W := Gl.of_affineAll hL
  have k0 := h0
  have lt0 : ∀ x ∈ p0, x.block < W.heap.size := by obtain ⟨m, hm⟩ := k0; exact DataW.trod_lt m _ _ _ hm
  obtain ⟨ns0, nl0, rfl, nw0⟩ := open_struct_ints (k := .i64) Tryd.underlying23 (by kernel_rfl) (by kernel_rfl) (hval 0 23 v0 rfl rfl) h0
  obtain ⟨a0_0, a0_1, a0_2, a0_3, a0_4, a0_5, rfl⟩ : ∃ a0_0 a0_1 a0_2 a0_3 a0_4 a0_5, ns0 = [a0_0, a0_1, a0_2, a0_3, a0_4, a0_5] := list_of_length6 nl0
  have w_a0_0 := wf_i64 (nw0 a0_0 (by simp))
  have w_a0_1 := wf_i64 (nw0 a0_1 (by simp))
  have w_a0_2 := wf_i64 (nw0 a0_2 (by simp))
  have w_a0_3 := wf_i64 (nw0 a0_3 (by simp))
  have w_a0_4 := wf_i64 (nw0 a0_4 (by simp))
  have w_a0_5 := wf_i64 (nw0 a0_5 (by simp))
  clear nw0 nl0
  simp only [List.map_cons, List.map_nil] at hW'
  have k1 := h1
  have lt1 : ∀ x ∈ p1, x.block < W.heap.size := by obtain ⟨m, hm⟩ := k1; exact DataW.trod_lt m _ _ _ hm
  obtain ⟨A1, c1, a1, rfl, hr1, hc1, _⟩ := open_rows (⟨0, 0⟩ : PR.S25) (fun _ => True) (fun q cs => PR.k25.K W q cs) 2 Tryd.underlying38 (by kernel_rfl) (fun n cs x hx => by obtain ⟨ns, nl, rfl, _, _⟩ := trod_struct_ints (k := .i64) Tryd.underlying25 (by kernel_rfl) (by kernel_rfl) hx; obtain ⟨b0, b1, rfl⟩ : ∃ b0 b1, ns = [b0, b1] := list_of_length2 nl; exact ⟨⟨b0, b1⟩, trivial, PR.k25_mk W ⟨b0, b1⟩⟩) (hval 1 38 v1 rfl rfl) h1
  clear hA0 hval0 hsz0 hsz
  refine (PR.affineAll_walk a0_0 a0_1 a0_2 a0_3 a0_4 a0_5 A1 c1 a1 W hG w_a0_0 w_a0_1 w_a0_2 w_a0_3 w_a0_4 w_a0_5 hr1 hc1).mono fun e W' ⟨he, bel⟩ => ?_
  subst he
  exact ⟨_, rfl, _, _, _, [], _, [], hW', trodAll_mk1 (shut_bool Tryd.underlying4 _), (trodAll_cons_mk (Below.trod laidOut (by kernel_rfl) (of_decide_eq_true (by kernel_rfl)) k0 bel lt0) (trodAll_cons_mk (Below.trod laidOut (by kernel_rfl) (of_decide_eq_true (by kernel_rfl)) k1 bel lt1) trodAll_mk0)), rfl, bel.frame _, fun h => by cases h⟩
theorem over : Rows.affineAllRow.holds Tryd.pinned (OpenSpec.ofChange Rows.affineAllSpec) :=
  OpenClaim.holds_of_wide 5 Tryd.f5 rfl rfl rfl rfl rfl rfl rfl ⟨rfl, rfl, rfl, rfl, rfl⟩ rfl rfl rfl rfl rfl (by kernel_rfl) Tryd.func5 (by kernel_rfl)
    (of_decide_eq_true (by kernel_rfl)) (by unfold Func.isWrapper; first | (rw [if_pos (by decide +kernel)]; kernel_rfl) | (rw [if_neg (by decide +kernel)]; exact ⟨rfl, rfl⟩))
    (fun os started H enc _ => lifted os started H enc)
theorem carded : Rows.AffineAllCardSaid :=
  Claim7.holds_tied_plain_at .later [] [.data] true (true, "0fa006a278c56c431f774ead5f5f82fabf10850824c98a1f5a14cd52982934ae") true
    over (fun _ h => by cases h) (by kernel_rfl) (fun _ h => by cases h) affineAll_row_tie rfl ⟨rfl, rfl⟩ (by kernel_rfl) rfl
    (fun f fn hf hfn => by
      obtain rfl : f = 5 := Option.some.inj ((show Tryd.prog.funcNamed "pointillist/pointillistlaw08.AffineAll" = some 5 by kernel_rfl).symm.trans hf) |>.symm
      obtain rfl : fn = Tryd.f5 := (Option.some.inj (Tryd.func5.symm.trans hfn)).symm
      exact ⟨by kernel_rfl, fun j t ht => by
        rw [Tryd.params5] at ht
        have hm : t ∈ [23, 38] := by simpa using Array.mem_of_getElem? ht
        have hall : ([23, 38].all fun u => !Tryd.prog.wantsStandIn u) = true := by kernel_rfl
        exact (show Tryd.prog.wantsStandIn t = false by simpa using List.all_eq_true.1 hall t hm)⟩)
    (by kernel_rfl)
#print axioms carded
end Go.Proofs.YtbnjgaeeojcjbaaDoor.affineAllR
namespace Go.Proofs.YtbnjgaeeojcjbaaDoor
theorem affineAll_card : Rows.AffineAllCardSaid := affineAllR.carded
end Go.Proofs.YtbnjgaeeojcjbaaDoor
