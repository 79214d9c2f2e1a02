import Derived.ArgAppend
import Derived.Below
import Derived.BigQuiet
import Derived.Deep.AppendLies
import Derived.Deep.CutBlock
import Derived.Deep.DeepCutAuto
import Derived.Deep.Draws
import Derived.Deep.LoopGhost
import Derived.Deep.OwnRows
import Derived.Deep.QuietTactic
import Derived.Deep.RegionHeld3
import Derived.KernelRfl
import Derived.Laws.Bits64
import Derived.Laws.BitsAllLaws
import Derived.Laws.BitsLemmas
import Derived.Laws.BytesArg
import Derived.Laws.Externs
import Derived.Laws.IdiomCopy
import Derived.Laws.MakeOwn
import Derived.Laws.OwnMore
import Derived.Laws.Rows
import Derived.Laws.Slices
import Derived.Laws.StructEq
import Derived.Laws.World
import Derived.Lib.AppendStr
import Derived.Lib.ConvBytes
import Derived.Lib.Mul64
import Derived.Maps.AppendAt
import Derived.OrdersHeld
import Derived.OwnWalk
import Derived.RowKit
import Derived.RowKit3
import Derived.Tactics
import Derived.WalkKit
import Derived.WalkLawsBesides
import Derived.WideLaws
import Derived.Test.YtbnjgaeeojcjbaaDoorProg
import Derived.Test.YtbnjgaeeojcjbaaDoorZd2
-- What this claim needs of the words, the printed walks and this session's texts (merged and cut by wip/prune.py).
namespace Go.Proofs.YtbnjgaeeojcjbaaDoor.PR
open Go.RowKit Go.Proofs.YtbnjgaeeojcjbaaDoorW.PrintWords Go.Proofs.YtbnjgaeeojcjbaaDoorW.PrintLast Go.Proofs.YtbnjgaeeojcjbaaDoorW.PrintMore
attribute [local go_sem] max2_int min2_int max_two min_two max_three min_three max_four min_four
set_option linter.unusedVariables false
set_option linter.unusedSimpArgs false
set_option maxHeartbeats 8000000 in
set_option maxRecDepth 100000 in
theorem pointillistref01_Mul.calls (k : Nat) (a0_0 : Bool) (A0_1 : Option Addr) (c0_1 : Nat) (l0_1 : List Int) (a1_0 : Bool) (A1_1 : Option Addr) (c1_1 : Nat) (l1_1 : List Int) (r1 : Bool) (r2 : List Int) (w : World) (hr0_1 : Kd.C (Kd.int .i64) w A0_1 l0_1.length l0_1) (hc0_1 : l0_1.length ≤ c0_1) (hr1_1 : Kd.C (Kd.int .i64) w A1_1 l1_1.length l1_1) (hc1_1 : l1_1.length ≤ c1_1) (h : pointillistref01_Mul.f k a0_0 l0_1 a1_0 l1_1 = some (r1, r2)) :
  Calls Tryd.prog 34 #[.agg #[.bool a0_0, .slice A0_1 l0_1.length c0_1], .agg #[.bool a1_0, .slice A1_1 l1_1.length c1_1]] w fun e w' => ∃ v1_ : Value, e = .returned (.agg #[.bool r1, v1_]) ∧ Kd.V (Kd.int .i64) 3 w' w.heap.size (fun k_ => (w.heap.size ≤ k_)) v1_ r2 ∧ Below w.heap.size w w' := by
 have hu63 := Tryd.underlying63
 have HR0_1 := Aside0.mk hr0_1
 have HC0_1 := Aside0.mk hc0_1
 clear hr0_1 hc0_1
 have HR1_1 := Aside0.mk hr1_1
 have HC1_1 := Aside0.mk hc1_1
 clear hr1_1 hc1_1
 have HB := Aside0.mk (Below.refl w.heap.size w)
 have H : (pointillistref01_Mul.l0 k ([] : List Int) 0 a0_0 l0_1 a1_0 l1_1) = some (r1, r2) := h
 clear h
 have H' := Aside0.mk H
 clear H
 go_enter Tryd.func34, Tryd.ntmps34
 go_wp2_with (first | ((with_reducible refine gate_dst (N := 2) rfl ?_); refine box_event ?hg (N := 2) ?hd (cs := #[.bool a0_0, .slice A0_1 l0_1.length c0_1]) (t := 63) ?hr ?_; (case hd => rfl); (case hg => rfl); (case hr => first | (go_simp; done) | (go_simp; rfl)); intro gb313 hg w3 hbox hb; have n0_ := Aside0.mk (below_step (wq HB.out) hb); have n1_ := Aside0.mk (hbox); have n2_ := Aside0.mk ((by rw [hg]; exact (below_size (wq HB.out)) : w.heap.size ≤ gb313)); have n3_ := n2_; clear HB; have HB := n0_; have BK313 := n1_; have GW313 := n2_; have GE313 := n3_; clear n0_ n1_ n2_ n3_ hb hbox hg) | ((with_reducible refine gate_dst (N := 3) rfl ?_); refine box_event ?hg (N := 3) ?hd (cs := #[.bool a1_0, .slice A1_1 l1_1.length c1_1]) (t := 63) ?hr ?_; (case hd => rfl); (case hg => rfl); (case hr => first | (go_simp; done) | (go_simp; rfl)); intro gb314 hg w4 hbox hb; have n0_ := Aside0.mk (blk_below (bq BK313.out) hb); have n1_ := Aside0.mk (below_step (wq HB.out) hb); have n2_ := Aside0.mk (hbox); have n3_ := Aside0.mk ((by rw [hg]; exact (below_size (wq HB.out)) : w.heap.size ≤ gb314)); have n4_ := n3_; have n5_ := Aside0.mk ((by rw [hg]; exact Nat.ne_of_lt (blk_lt (bq BK313.out)) : gb313 ≠ gb314)); have n6_ := Aside0.mk ((by rw [hg]; exact Nat.ne_of_gt (blk_lt (bq BK313.out)) : gb314 ≠ gb313)); clear BK313 HB; have BK313 := n0_; have HB := n1_; have BK314 := n2_; have GW314 := n3_; have GE314 := n4_; have NB313_314 := n5_; have NB314_313 := n6_; clear n0_ n1_ n2_ n3_ n4_ n5_ n6_ hb hbox hg) | ((with_reducible refine gate_dst (N := 4) rfl ?_); refine box_event ?hg (N := 4) ?hd (cs := #[.bool false, .slice none 0 0]) (t := 63) ?hr ?_; (case hd => rfl); (case hg => rfl); (case hr => first | (go_simp; done) | (go_simp; rfl)); intro gb315 hg w5 hbox hb; have n0_ := Aside0.mk (blk_below (bq BK313.out) hb); have n1_ := Aside0.mk (blk_below (bq BK314.out) hb); have n2_ := Aside0.mk (below_step (wq HB.out) hb); have n3_ := Aside0.mk (hbox); have n4_ := Aside0.mk ((by rw [hg]; exact (below_size (wq HB.out)) : w.heap.size ≤ gb315)); have n5_ := n4_; have n6_ := Aside0.mk ((by rw [hg]; exact Nat.ne_of_lt (blk_lt (bq BK313.out)) : gb313 ≠ gb315)); have n7_ := Aside0.mk ((by rw [hg]; exact Nat.ne_of_gt (blk_lt (bq BK313.out)) : gb315 ≠ gb313)); have n8_ := Aside0.mk ((by rw [hg]; exact Nat.ne_of_lt (blk_lt (bq BK314.out)) : gb314 ≠ gb315)); have n9_ := Aside0.mk ((by rw [hg]; exact Nat.ne_of_gt (blk_lt (bq BK314.out)) : gb315 ≠ gb314)); clear BK313 BK314 HB; have BK313 := n0_; have BK314 := n1_; have HB := n2_; have BK315 := n3_; have GW315 := n4_; have GE315 := n5_; have NB313_315 := n6_; have NB315_313 := n7_; have NB314_315 := n8_; have NB315_314 := n9_; clear n0_ n1_ n2_ n3_ n4_ n5_ n6_ n7_ n8_ n9_ hb hbox hg))
 repeat (go_quiet (first | ((with_reducible refine gate_dst (N := 2) rfl ?_); refine box_event ?hg (N := 2) ?hd (cs := #[.bool a0_0, .slice A0_1 l0_1.length c0_1]) (t := 63) ?hr ?_; (case hd => rfl); (case hg => rfl); (case hr => first | (go_simp; done) | (go_simp; rfl)); intro gb313 hg w3 hbox hb; have n0_ := Aside0.mk (below_step (wq HB.out) hb); have n1_ := Aside0.mk (hbox); have n2_ := Aside0.mk ((by rw [hg]; exact (below_size (wq HB.out)) : w.heap.size ≤ gb313)); have n3_ := n2_; clear HB; have HB := n0_; have BK313 := n1_; have GW313 := n2_; have GE313 := n3_; clear n0_ n1_ n2_ n3_ hb hbox hg) | ((with_reducible refine gate_dst (N := 3) rfl ?_); refine box_event ?hg (N := 3) ?hd (cs := #[.bool a1_0, .slice A1_1 l1_1.length c1_1]) (t := 63) ?hr ?_; (case hd => rfl); (case hg => rfl); (case hr => first | (go_simp; done) | (go_simp; rfl)); intro gb314 hg w4 hbox hb; have n0_ := Aside0.mk (blk_below (bq BK313.out) hb); have n1_ := Aside0.mk (below_step (wq HB.out) hb); have n2_ := Aside0.mk (hbox); have n3_ := Aside0.mk ((by rw [hg]; exact (below_size (wq HB.out)) : w.heap.size ≤ gb314)); have n4_ := n3_; have n5_ := Aside0.mk ((by rw [hg]; exact Nat.ne_of_lt (blk_lt (bq BK313.out)) : gb313 ≠ gb314)); have n6_ := Aside0.mk ((by rw [hg]; exact Nat.ne_of_gt (blk_lt (bq BK313.out)) : gb314 ≠ gb313)); clear BK313 HB; have BK313 := n0_; have HB := n1_; have BK314 := n2_; have GW314 := n3_; have GE314 := n4_; have NB313_314 := n5_; have NB314_313 := n6_; clear n0_ n1_ n2_ n3_ n4_ n5_ n6_ hb hbox hg) | ((with_reducible refine gate_dst (N := 4) rfl ?_); refine box_event ?hg (N := 4) ?hd (cs := #[.bool false, .slice none 0 0]) (t := 63) ?hr ?_; (case hd => rfl); (case hg => rfl); (case hr => first | (go_simp; done) | (go_simp; rfl)); intro gb315 hg w5 hbox hb; have n0_ := Aside0.mk (blk_below (bq BK313.out) hb); have n1_ := Aside0.mk (blk_below (bq BK314.out) hb); have n2_ := Aside0.mk (below_step (wq HB.out) hb); have n3_ := Aside0.mk (hbox); have n4_ := Aside0.mk ((by rw [hg]; exact (below_size (wq HB.out)) : w.heap.size ≤ gb315)); have n5_ := n4_; have n6_ := Aside0.mk ((by rw [hg]; exact Nat.ne_of_lt (blk_lt (bq BK313.out)) : gb313 ≠ gb315)); have n7_ := Aside0.mk ((by rw [hg]; exact Nat.ne_of_gt (blk_lt (bq BK313.out)) : gb315 ≠ gb313)); have n8_ := Aside0.mk ((by rw [hg]; exact Nat.ne_of_lt (blk_lt (bq BK314.out)) : gb314 ≠ gb315)); have n9_ := Aside0.mk ((by rw [hg]; exact Nat.ne_of_gt (blk_lt (bq BK314.out)) : gb315 ≠ gb314)); clear BK313 BK314 HB; have BK313 := n0_; have BK314 := n1_; have HB := n2_; have BK315 := n3_; have GW315 := n4_; have GE315 := n5_; have NB313_315 := n6_; have NB315_313 := n7_; have NB314_315 := n8_; have NB315_314 := n9_; clear n0_ n1_ n2_ n3_ n4_ n5_ n6_ n7_ n8_ n9_ hb hbox hg)); try go_wp2_with (first | ((with_reducible refine gate_dst (N := 2) rfl ?_); refine box_event ?hg (N := 2) ?hd (cs := #[.bool a0_0, .slice A0_1 l0_1.length c0_1]) (t := 63) ?hr ?_; (case hd => rfl); (case hg => rfl); (case hr => first | (go_simp; done) | (go_simp; rfl)); intro gb313 hg w3 hbox hb; have n0_ := Aside0.mk (below_step (wq HB.out) hb); have n1_ := Aside0.mk (hbox); have n2_ := Aside0.mk ((by rw [hg]; exact (below_size (wq HB.out)) : w.heap.size ≤ gb313)); have n3_ := n2_; clear HB; have HB := n0_; have BK313 := n1_; have GW313 := n2_; have GE313 := n3_; clear n0_ n1_ n2_ n3_ hb hbox hg) | ((with_reducible refine gate_dst (N := 3) rfl ?_); refine box_event ?hg (N := 3) ?hd (cs := #[.bool a1_0, .slice A1_1 l1_1.length c1_1]) (t := 63) ?hr ?_; (case hd => rfl); (case hg => rfl); (case hr => first | (go_simp; done) | (go_simp; rfl)); intro gb314 hg w4 hbox hb; have n0_ := Aside0.mk (blk_below (bq BK313.out) hb); have n1_ := Aside0.mk (below_step (wq HB.out) hb); have n2_ := Aside0.mk (hbox); have n3_ := Aside0.mk ((by rw [hg]; exact (below_size (wq HB.out)) : w.heap.size ≤ gb314)); have n4_ := n3_; have n5_ := Aside0.mk ((by rw [hg]; exact Nat.ne_of_lt (blk_lt (bq BK313.out)) : gb313 ≠ gb314)); have n6_ := Aside0.mk ((by rw [hg]; exact Nat.ne_of_gt (blk_lt (bq BK313.out)) : gb314 ≠ gb313)); clear BK313 HB; have BK313 := n0_; have HB := n1_; have BK314 := n2_; have GW314 := n3_; have GE314 := n4_; have NB313_314 := n5_; have NB314_313 := n6_; clear n0_ n1_ n2_ n3_ n4_ n5_ n6_ hb hbox hg) | ((with_reducible refine gate_dst (N := 4) rfl ?_); refine box_event ?hg (N := 4) ?hd (cs := #[.bool false, .slice none 0 0]) (t := 63) ?hr ?_; (case hd => rfl); (case hg => rfl); (case hr => first | (go_simp; done) | (go_simp; rfl)); intro gb315 hg w5 hbox hb; have n0_ := Aside0.mk (blk_below (bq BK313.out) hb); have n1_ := Aside0.mk (blk_below (bq BK314.out) hb); have n2_ := Aside0.mk (below_step (wq HB.out) hb); have n3_ := Aside0.mk (hbox); have n4_ := Aside0.mk ((by rw [hg]; exact (below_size (wq HB.out)) : w.heap.size ≤ gb315)); have n5_ := n4_; have n6_ := Aside0.mk ((by rw [hg]; exact Nat.ne_of_lt (blk_lt (bq BK313.out)) : gb313 ≠ gb315)); have n7_ := Aside0.mk ((by rw [hg]; exact Nat.ne_of_gt (blk_lt (bq BK313.out)) : gb315 ≠ gb313)); have n8_ := Aside0.mk ((by rw [hg]; exact Nat.ne_of_lt (blk_lt (bq BK314.out)) : gb314 ≠ gb315)); have n9_ := Aside0.mk ((by rw [hg]; exact Nat.ne_of_gt (blk_lt (bq BK314.out)) : gb315 ≠ gb314)); clear BK313 BK314 HB; have BK313 := n0_; have BK314 := n1_; have HB := n2_; have BK315 := n3_; have GW315 := n4_; have GE315 := n5_; have NB313_315 := n6_; have NB315_313 := n7_; have NB314_315 := n8_; have NB315_314 := n9_; clear n0_ n1_ n2_ n3_ n4_ n5_ n6_ n7_ n8_ n9_ hb hbox hg)))
 go_loopg [5, 6] k (fun kq v5 v6 w' => ∃ (x5_1 : List Int) (x6_1 : Int), v6 = .int .i64 x6_1 ∧ Aside0 (pointillistref01_Mul.l0 kq x5_1 x6_1 a0_0 l0_1 a1_0 l1_1 = some (r1, r2)) ∧ Aside0 (kq ≤ k) ∧ Aside0 (Kd.V (Kd.int .i64) 3 w' w.heap.size (fun k_ => (w.heap.size ≤ k_) ∧ k_ ≠ gb313 ∧ k_ ≠ gb314 ∧ k_ ≠ gb315) v5 x5_1) ∧ Aside0 (w'.heap[gb313]? = some (.cells #[.bool a0_0, (.slice A0_1 l0_1.length c0_1)] 63 (0, 0))) ∧ Aside0 (w'.heap[gb314]? = some (.cells #[.bool a1_0, (.slice A1_1 l1_1.length c1_1)] 63 (0, 0))) ∧ Aside0 (w'.heap[gb315]? = some (.cells #[.bool false, (.slice none 0 0)] 63 (0, 0))) ∧ Aside0 (Below w.heap.size w w'))
 case atStart => exact ⟨(([] : List Int)), (0), (by first | rfl | (simp; done) | (simp [*]; done)), H', ⟨Nat.le_refl _⟩, ⟨Kd.V_nil _ _ _ _ _⟩, ⟨by refine bq ?_; exact BK313.out⟩, ⟨by refine bq ?_; exact BK314.out⟩, ⟨by refine bq ?_; exact BK315.out⟩, ⟨by exact wq HB.out⟩⟩
 case round =>
  clear H'
  try clear c1
  try clear p2
  try clear c3
  obtain ⟨x5_1, x6_1, rfl, HA, HK1, HO_5, BK313, BK314, BK315, HB⟩ := hrel
  cases gk with
  | zero => exact absurd HA.out (by simp [pointillistref01_Mul.l0])
  | succ k1 =>
   have H := HA.out
   clear HA
   simp only [pointillistref01_Mul.l0] at H
   by_cases c6 : x6_1 < (l0_1.length : Int)
   ·
    rw [if_pos c6] at H
    have c6b0 : decide (x6_1 < (l0_1.length : Int)) = true := decide_eq_true c6
    clear c6
    by_cases c7 : 0 ≤ x6_1
    ·
     rw [if_pos c7] at H
     have c7b0 := eq_true c7
     have c7b1 : decide (0 ≤ x6_1) = true := decide_eq_true c7
     clear c7
     by_cases c8 : (x6_1 : Int).toNat ≤ 35184372088832
     ·
      rw [if_pos c8] at H
      have c8b0 := eq_true c8
      have c8b1 : decide ((x6_1 : Int).toNat ≤ 35184372088832) = true := decide_eq_true c8
      clear c8
      obtain ⟨y316, hy316⟩ : ∃ y_ : List Int, y_ = (List.replicate (x6_1 : Int).toNat 0) := ⟨_, rfl⟩
      replace H : (pointillistref01_Mul.l1 k1 x5_1 x6_1 y316 0 0 a0_0 l0_1 a1_0 l1_1) = some (r1, r2) := by first | (rw [hy316]; with_reducible exact H) | (have H2_ := (Option.bind_some _ _).symm.trans H; rw [hy316]; with_reducible exact H2_) | (have H2_ := (Option.bind_some _ _).symm.trans H; with_reducible exact H2_) | with_reducible exact H | (rw [hy316]; exact H) | exact H
      have Ny316 := Aside0.mk hy316
      clear hy316
      have H' := Aside0.mk H
      clear H
      have hnb9 := NB313_314.out
      have hnc9 := NB314_313.out
      have hnb10 := NB313_315.out
      have hnc10 := NB315_313.out
      have hcz11_0 : wr.cell? ⟨gb313, 0, none⟩ = some (.bool a0_0) := (blk_cell BK313.out 0).trans rfl
      have hcz11_1 : wr.cell? ⟨gb313, 1, none⟩ = some (.slice A0_1 l0_1.length c0_1) := (blk_cell BK313.out 1).trans rfl
      have hfz11_0 := blk_frozen BK313.out 0
      have hfz11_1 := blk_frozen BK313.out 1
      go_wp2_with (first | ((with_reducible refine gate_dst (N := 19) rfl ?_); refine Kd.R_make (Kd.int .i64) _ 3 rfl (N := 19) rfl 61 _ _ rfl x6_1 rfl rfl Tryd.underlying61 (.int .i64 0) 8 info3 rfl (by decide) (by omega) 0 (ok := fun _ => True) (okp := fun _ => True) rfl (fun _ hk => hk) trivial (of_decide_eq_true (by first | (with_reducible assumption) | assumption)) (Nat.le_trans (Nat.mul_le_mul_right _ (of_decide_eq_true (by first | (with_reducible assumption) | assumption) : x6_1.toNat ≤ 35184372088832)) (by omega)) (Below.refl _ _) (Nat.le_refl _) ?_; intro v317 w12 ho13 hb hg_ hnew_; clear hg_ hnew_; (first | rw [← Ny316.out] at ho13 | (simp only [Int.reduceToNat] at ho13; rw [← Ny316.out] at ho13)); have n0_ := Aside0.mk (Kd.V_elder' (vq HO_5.out) (Kd.R_base ho13) hb); have n1_ := Aside0.mk (Kd.R_lower (Kd.R_newM (M := fun k_ => (w.heap.size ≤ k_)) ho13 (below_size (wq HB.out)) (fun k_ h_ => h_)) (below_size (wq HB.out))); have n2_ := Aside0.mk (blk_below (bq BK313.out) hb); have n3_ := Aside0.mk (blk_below (bq BK314.out) hb); have n4_ := Aside0.mk (blk_below (bq BK315.out) hb); have n5_ := Aside0.mk (below_step (wq HB.out) hb); clear HO_5 BK313 BK314 BK315; clear HB; have HO_5 := n0_; have HO318 := n1_; have BK313 := n2_; have BK314 := n3_; have BK315 := n4_; have HB := n5_; clear n0_ n1_ n2_ n3_ n4_ n5_ hb ho13))
      repeat (go_quiet (first | ((with_reducible refine gate_dst (N := 19) rfl ?_); refine Kd.R_make (Kd.int .i64) _ 3 rfl (N := 19) rfl 61 _ _ rfl x6_1 rfl rfl Tryd.underlying61 (.int .i64 0) 8 info3 rfl (by decide) (by omega) 0 (ok := fun _ => True) (okp := fun _ => True) rfl (fun _ hk => hk) trivial (of_decide_eq_true (by first | (with_reducible assumption) | assumption)) (Nat.le_trans (Nat.mul_le_mul_right _ (of_decide_eq_true (by first | (with_reducible assumption) | assumption) : x6_1.toNat ≤ 35184372088832)) (by omega)) (Below.refl _ _) (Nat.le_refl _) ?_; intro v317 w12 ho13 hb hg_ hnew_; clear hg_ hnew_; (first | rw [← Ny316.out] at ho13 | (simp only [Int.reduceToNat] at ho13; rw [← Ny316.out] at ho13)); have n0_ := Aside0.mk (Kd.V_elder' (vq HO_5.out) (Kd.R_base ho13) hb); have n1_ := Aside0.mk (Kd.R_lower (Kd.R_newM (M := fun k_ => (w.heap.size ≤ k_)) ho13 (below_size (wq HB.out)) (fun k_ h_ => h_)) (below_size (wq HB.out))); have n2_ := Aside0.mk (blk_below (bq BK313.out) hb); have n3_ := Aside0.mk (blk_below (bq BK314.out) hb); have n4_ := Aside0.mk (blk_below (bq BK315.out) hb); have n5_ := Aside0.mk (below_step (wq HB.out) hb); clear HO_5 BK313 BK314 BK315; clear HB; have HO_5 := n0_; have HO318 := n1_; have BK313 := n2_; have BK314 := n3_; have BK315 := n4_; have HB := n5_; clear n0_ n1_ n2_ n3_ n4_ n5_ hb ho13)); try go_wp2_with (first | ((with_reducible refine gate_dst (N := 19) rfl ?_); refine Kd.R_make (Kd.int .i64) _ 3 rfl (N := 19) rfl 61 _ _ rfl x6_1 rfl rfl Tryd.underlying61 (.int .i64 0) 8 info3 rfl (by decide) (by omega) 0 (ok := fun _ => True) (okp := fun _ => True) rfl (fun _ hk => hk) trivial (of_decide_eq_true (by first | (with_reducible assumption) | assumption)) (Nat.le_trans (Nat.mul_le_mul_right _ (of_decide_eq_true (by first | (with_reducible assumption) | assumption) : x6_1.toNat ≤ 35184372088832)) (by omega)) (Below.refl _ _) (Nat.le_refl _) ?_; intro v317 w12 ho13 hb hg_ hnew_; clear hg_ hnew_; (first | rw [← Ny316.out] at ho13 | (simp only [Int.reduceToNat] at ho13; rw [← Ny316.out] at ho13)); have n0_ := Aside0.mk (Kd.V_elder' (vq HO_5.out) (Kd.R_base ho13) hb); have n1_ := Aside0.mk (Kd.R_lower (Kd.R_newM (M := fun k_ => (w.heap.size ≤ k_)) ho13 (below_size (wq HB.out)) (fun k_ h_ => h_)) (below_size (wq HB.out))); have n2_ := Aside0.mk (blk_below (bq BK313.out) hb); have n3_ := Aside0.mk (blk_below (bq BK314.out) hb); have n4_ := Aside0.mk (blk_below (bq BK315.out) hb); have n5_ := Aside0.mk (below_step (wq HB.out) hb); clear HO_5 BK313 BK314 BK315; clear HB; have HO_5 := n0_; have HO318 := n1_; have BK313 := n2_; have BK314 := n3_; have BK315 := n4_; have HB := n5_; clear n0_ n1_ n2_ n3_ n4_ n5_ hb ho13)))
      go_loopg [7, 8, 9] k1 (fun kq v7 v8 v9 w' => ∃ (x7_2 : List Int) (x8_2 : Int) (x9_2 : Int), v8 = .int .i64 x8_2 ∧ v9 = .int .i64 x9_2 ∧ Aside0 (pointillistref01_Mul.l1 kq x5_1 x6_1 x7_2 x8_2 x9_2 a0_0 l0_1 a1_0 l1_1 = some (r1, r2)) ∧ Aside0 (kq ≤ k1) ∧ Aside0 (Kd.V (Kd.int .i64) 3 w' w.heap.size (fun k_ => (w.heap.size ≤ k_) ∧ some k_ ≠ (v7 : Value).ownBlock ∧ k_ ≠ gb313 ∧ k_ ≠ gb314 ∧ k_ ≠ gb315) u5 x5_1) ∧ Aside0 (Kd.R (Kd.int .i64) 3 w' w.heap.size (fun k_ => (w.heap.size ≤ k_)) v7 x7_2) ∧ Aside0 (w'.heap[gb313]? = some (.cells #[.bool a0_0, (.slice A0_1 l0_1.length c0_1)] 63 (0, 0))) ∧ Aside0 (w'.heap[gb314]? = some (.cells #[.bool a1_0, (.slice A1_1 l1_1.length c1_1)] 63 (0, 0))) ∧ Aside0 (w'.heap[gb315]? = some (.cells #[.bool false, (.slice none 0 0)] 63 (0, 0))) ∧ Aside0 (Below w.heap.size w w'))
      case atStart => exact ⟨(y316), (0), (0), (by first | rfl | (simp; done) | (simp [*]; done)), (by first | rfl | (simp; done) | (simp [*]; done)), H', ⟨Nat.le_refl _⟩, ⟨by apply vq; exact Kd.V_mono HO_5.out (fun _ hk => ⟨hk.1.1, ⟨hk.2, ⟨hk.1.2.1, ⟨hk.1.2.2.1, hk.1.2.2.2⟩⟩⟩⟩)⟩, ⟨by apply rq; exact Kd.R_mono HO318.out (fun _ hk => hk.1)⟩, ⟨by refine bq ?_; exact BK313.out⟩, ⟨by refine bq ?_; exact BK314.out⟩, ⟨by refine bq ?_; exact BK315.out⟩, ⟨by exact wq HB.out⟩⟩
      case round =>
       clear H'
       try clear c1
       try clear p2
       try clear c3
       try clear c6
       try clear c6b0
       try clear c7
       try clear c7b0
       try clear c7b1
       try clear c8
       try clear c8b0
       try clear c8b1
       try clear c9
       try clear c10
       try clear hcz11_0
       try clear hcz11_1
       try clear hfz11_0
       try clear hfz11_1
       try clear p2
       obtain ⟨x7_2, x8_2, x9_2, rfl, rfl, HA, HK2, HO_5, HO_7, BK313, BK314, BK315, HB⟩ := hrel
       cases gk with
       | zero => exact absurd HA.out (by simp [pointillistref01_Mul.l1])
       | succ k2 =>
        have H := HA.out
        clear HA
        simp only [pointillistref01_Mul.l1] at H
        have HC14 := Aside0.mk H
        clear H
        go_upto_region 8 with (fail)
        repeat (go_quiet (fail); go_upto_region 8 with (fail))
        go_cut [28] (fun v28 wc => ∃ (kq : Nat) (x28_13 : Bool), v28 = .bool x28_13 ∧ Aside0 (pointillistref01_Mul.j2 kq x5_1 x6_1 x7_2 x8_2 x9_2 x28_13 a0_0 l0_1 a1_0 l1_1 = some (r1, r2)) ∧ Aside0 (kq ≤ k2) ∧ Aside0 (Kd.V (Kd.int .i64) 3 wc w.heap.size (fun k_ => (w.heap.size ≤ k_) ∧ some k_ ≠ (u7 : Value).ownBlock ∧ k_ ≠ gb313 ∧ k_ ≠ gb314 ∧ k_ ≠ gb315) u5 x5_1) ∧ Aside0 (Kd.R (Kd.int .i64) 3 wc w.heap.size (fun k_ => (w.heap.size ≤ k_)) u7 x7_2) ∧ Aside0 (wc.heap[gb313]? = some (.cells #[.bool a0_0, (.slice A0_1 l0_1.length c0_1)] 63 (0, 0))) ∧ Aside0 (wc.heap[gb314]? = some (.cells #[.bool a1_0, (.slice A1_1 l1_1.length c1_1)] 63 (0, 0))) ∧ Aside0 (wc.heap[gb315]? = some (.cells #[.bool false, (.slice none 0 0)] 63 (0, 0))) ∧ Aside0 (Below w.heap.size w wc))
        case first =>
         have H := HC14.out
         clear HC14
         by_cases c15 : x9_2 < (l1_1.length : Int)
         ·
          rw [if_pos c15] at H
          have c15b0 : decide (x9_2 < (l1_1.length : Int)) = true := decide_eq_true c15
          clear c15
          (first | rw [c15b0] | (simp only [i64_w, i32_w]; rw [c15b0]) | skip)
          have H' := Aside0.mk H
          clear H
          have hnb16 := NB314_313.out
          have hnc16 := NB313_314.out
          have hnb17 := NB314_315.out
          have hnc17 := NB315_314.out
          have hcz18_0 : wr.cell? ⟨gb314, 0, none⟩ = some (.bool a1_0) := (blk_cell BK314.out 0).trans rfl
          have hcz18_1 : wr.cell? ⟨gb314, 1, none⟩ = some (.slice A1_1 l1_1.length c1_1) := (blk_cell BK314.out 1).trans rfl
          have hfz18_0 := blk_frozen BK314.out 0
          have hfz18_1 := blk_frozen BK314.out 1
          go_wp2
          repeat (go_quiet (fail); try go_wp2)
          go_meet
          case rel => exact ⟨_, (true), (by first | rfl | (simp; done) | (simp [*]; done)), H', ⟨by have := HK1.out; have := HK2.out; first | omega | exact Nat.le_refl _⟩, ⟨by apply vq; exact HO_5.out⟩, ⟨by apply rq; exact HO_7.out⟩, ⟨by refine bq ?_; exact BK313.out⟩, ⟨by refine bq ?_; exact BK314.out⟩, ⟨by refine bq ?_; exact BK315.out⟩, ⟨by exact wq HB.out⟩⟩
         ·
          rw [if_neg c15] at H
          have c15b0 : decide (x9_2 < (l1_1.length : Int)) = false := decide_eq_false c15
          clear c15
          (first | rw [c15b0] | (simp only [i64_w, i32_w]; rw [c15b0]) | skip)
          have H' := Aside0.mk H
          clear H
          have hnb19 := NB314_313.out
          have hnc19 := NB313_314.out
          have hnb20 := NB314_315.out
          have hnc20 := NB315_314.out
          have hcz21_0 : wr.cell? ⟨gb314, 0, none⟩ = some (.bool a1_0) := (blk_cell BK314.out 0).trans rfl
          have hcz21_1 : wr.cell? ⟨gb314, 1, none⟩ = some (.slice A1_1 l1_1.length c1_1) := (blk_cell BK314.out 1).trans rfl
          have hfz21_0 := blk_frozen BK314.out 0
          have hfz21_1 := blk_frozen BK314.out 1
          go_wp2
          repeat (go_quiet (fail); try go_wp2)
          go_meet
          case rel => exact ⟨_, (decide (x8_2 > 0)), (by first | rfl | (simp; done) | (simp [*]; done)), H', ⟨by have := HK1.out; have := HK2.out; first | omega | exact Nat.le_refl _⟩, ⟨by apply vq; exact HO_5.out⟩, ⟨by apply rq; exact HO_7.out⟩, ⟨by refine bq ?_; exact BK313.out⟩, ⟨by refine bq ?_; exact BK314.out⟩, ⟨by refine bq ?_; exact BK315.out⟩, ⟨by exact wq HB.out⟩⟩
        case rest =>
         clear HC14
         try clear c1
         try clear c2
         try clear p2
         try clear c3
         try clear c6
         try clear c6b0
         try clear c7
         try clear c7b0
         try clear c7b1
         try clear c8
         try clear c8b0
         try clear c8b1
         try clear c9
         try clear c10
         try clear c15
         try clear c15b0
         try clear c16
         try clear c17
         try clear c19
         try clear c20
         try clear hcz11_0
         try clear hcz11_1
         try clear hcz18_0
         try clear hcz18_1
         try clear hcz21_0
         try clear hcz21_1
         try clear hfz11_0
         try clear hfz11_1
         try clear hfz18_0
         try clear hfz18_1
         try clear hfz21_0
         try clear hfz21_1
         try clear p2
         obtain ⟨kq, x28_13, rfl, HA, HJ13, HO_5, HO_7, BK313, BK314, BK315, HB⟩ := hcut
         cases kq with
         | zero => exact absurd HA.out (by simp [pointillistref01_Mul.j2])
         | succ kj13 =>
          have H := HA.out
          clear HA
          simp only [pointillistref01_Mul.j2] at H
          by_cases c22 : x28_13 = true
          ·
           subst c22
           have H1 : (if x9_2 < (l1_1.length : Int) then (if 0 ≤ x6_1 then (if x6_1 < (l0_1.length : Int) then (if 0 ≤ x9_2 then (if x7_2.length < 17592186044416 then (pointillistref01_Mul.l1 kj13 x5_1 x6_1 (x7_2 ++ [Int.tmod (wrap64 (x8_2 + (wrap64 ((rd l0_1 x6_1) * (rd l1_1 x9_2))))) 65536]) (wrap64 (Int.tdiv (wrap64 (x8_2 + (wrap64 ((rd l0_1 x6_1) * (rd l1_1 x9_2))))) 65536)) (wrap64 (x9_2 + 1)) a0_0 l0_1 a1_0 l1_1) else (none)) else (none)) else (none)) else (none)) else (if x7_2.length < 17592186044416 then (pointillistref01_Mul.l1 kj13 x5_1 x6_1 (x7_2 ++ [Int.tmod x8_2 65536]) (wrap64 (Int.tdiv x8_2 65536)) (wrap64 (x9_2 + 1)) a0_0 l0_1 a1_0 l1_1) else (none))) = some (r1, r2) := by rw [if_pos rfl] at H; exact H
           clear H
           have H := H1
           clear H1
           by_cases c23 : x9_2 < (l1_1.length : Int)
           ·
            rw [if_pos c23] at H
            have c23b0 : decide (x9_2 < (l1_1.length : Int)) = true := decide_eq_true c23
            clear c23
            by_cases c24 : 0 ≤ x6_1
            ·
             rw [if_pos c24] at H
             have c24b0 : decide (0 ≤ x6_1) = true := decide_eq_true c24
             clear c24
             by_cases c25 : x6_1 < (l0_1.length : Int)
             ·
              rw [if_pos c25] at H
              have c25b0 : decide (x6_1 < (l0_1.length : Int)) = true := decide_eq_true c25
              clear c25
              by_cases c26 : 0 ≤ x9_2
              ·
               rw [if_pos c26] at H
               have c26b0 : decide (0 ≤ x9_2) = true := decide_eq_true c26
               clear c26
               by_cases c27 : x7_2.length < 17592186044416
               ·
                rw [if_pos c27] at H
                have LMc27 := Aside0.mk c27
                clear c27
                obtain ⟨y321, hy321⟩ : ∃ y_ : List Int, y_ = (x7_2 ++ [Int.tmod (wrap64 (x8_2 + (wrap64 ((rd l0_1 x6_1) * (rd l1_1 x9_2))))) 65536]) := ⟨_, rfl⟩
                replace H : (pointillistref01_Mul.l1 kj13 x5_1 x6_1 y321 (wrap64 (Int.tdiv (wrap64 (x8_2 + (wrap64 ((rd l0_1 x6_1) * (rd l1_1 x9_2))))) 65536)) (wrap64 (x9_2 + 1)) a0_0 l0_1 a1_0 l1_1) = some (r1, r2) := by first | (rw [hy321]; with_reducible exact H) | (have H2_ := (Option.bind_some _ _).symm.trans H; rw [hy321]; with_reducible exact H2_) | (have H2_ := (Option.bind_some _ _).symm.trans H; with_reducible exact H2_) | with_reducible exact H | (rw [hy321]; exact H) | exact H
                have Ny321 := Aside0.mk hy321
                clear hy321
                have H' := Aside0.mk H
                clear H
                have hnb28 := NB314_313.out
                have hnc28 := NB313_314.out
                have hnb29 := NB314_315.out
                have hnc29 := NB315_314.out
                have hcz30_0 : wc.cell? ⟨gb314, 0, none⟩ = some (.bool a1_0) := (blk_cell BK314.out 0).trans rfl
                have hcz30_1 : wc.cell? ⟨gb314, 1, none⟩ = some (.slice A1_1 l1_1.length c1_1) := (blk_cell BK314.out 1).trans rfl
                have hfz30_0 := blk_frozen BK314.out 0
                have hfz30_1 := blk_frozen BK314.out 1
                have hnb31 := NB313_315.out
                have hnc31 := NB315_313.out
                have hcz32_0 : wc.cell? ⟨gb313, 0, none⟩ = some (.bool a0_0) := (blk_cell BK313.out 0).trans rfl
                have hcz32_1 : wc.cell? ⟨gb313, 1, none⟩ = some (.slice A0_1 l0_1.length c0_1) := (blk_cell BK313.out 1).trans rfl
                have hfz32_0 := blk_frozen BK313.out 0
                have hfz32_1 := blk_frozen BK313.out 1
                have p319 : 0 ≤ (x6_1 : Int) := of_decide_eq_true (by first | (with_reducible assumption) | assumption)
                have q319 : x6_1 < (l0_1.length : Int) := of_decide_eq_true (by first | (with_reducible assumption) | assumption)
                obtain ⟨ad319, e319, hx319_0⟩ := Kd.at_int HR0_1.out x6_1 p319 q319
                cases e319
                replace hx319_0 := (HB.out.cell (World.block_lt_of_cell? w _ hx319_0)).trans hx319_0
                replace p319 := eq_true p319
                replace q319 := eq_true q319
                have p320 : 0 ≤ (x9_2 : Int) := of_decide_eq_true (by first | (with_reducible assumption) | assumption)
                have q320 : x9_2 < (l1_1.length : Int) := of_decide_eq_true (by first | (with_reducible assumption) | assumption)
                obtain ⟨ad320, e320, hx320_0⟩ := Kd.at_int HR1_1.out x9_2 p320 q320
                cases e320
                replace hx320_0 := (HB.out.cell (World.block_lt_of_cell? w _ hx320_0)).trans hx320_0
                replace p320 := eq_true p320
                replace q320 := eq_true q320
                go_wp2_with (first | ((with_reducible refine gate_builtin (b := .append) (xs := #[.tmp 50, .tmp 53]) rfl ?_); at_builtin; refine Kd.R_append (Kd.int .i64) (w0 := w) w.heap.size rfl (.tmp 50) (.tmp 53) 61 3 (.int .i64 0) 8 rfl Tryd.underlying61 info3 rfl (by decide) (by omega) u7 x7_2 (Int.tmod (wrap64 (x8_2 + (wrap64 ((rd l0_1 x6_1) * (rd l1_1 x9_2))))) 65536) [.int .i64 (Int.tmod (wrap64 (x8_2 + (wrap64 ((rd l0_1 x6_1) * (rd l1_1 x9_2))))) 65536)] (fun k_ => (w.heap.size ≤ k_)) (fun _ => False) rfl rfl ?aP (fun _ hk => hk.elim) ?aF ?aO ?aB ?aS ?aL ?_; (case aP => exact rfl); (case aB => exact (wq HB.out)); (case aF => exact (fun k_ hk => (Nat.le_trans (below_size (wq HB.out)) hk))); (case aO => exact (rq HO_7.out)); (case aS => exact (below_size (wq HB.out))); (case aL => have := LMc27.out; omega); intro v322 w33 ho hb hg hat; rw [← Ny321.out] at ho; have n0_ := Aside0.mk (Kd.V_afterv (ok := (fun k_ => (w.heap.size ≤ k_) ∧ k_ ≠ gb313 ∧ k_ ≠ gb314 ∧ k_ ≠ gb315)) (by apply vq; exact Kd.V_mono HO_5.out (fun _ hk => ⟨⟨hk.1, ⟨hk.2.2.1, ⟨hk.2.2.2.1, hk.2.2.2.2⟩⟩⟩, hk.2.1⟩)) hg hat); have n1_ := Aside0.mk (blk_grown (g := gb313) (o := .cells #[.bool a0_0, .slice (some ad319) l0_1.length c0_1] 63 (0, 0)) (bq BK313.out) hg (Kd.R_ne HO_7.out BK313.out (by decide))); have n2_ := Aside0.mk (blk_grown (g := gb314) (o := .cells #[.bool a1_0, .slice (some ad320) l1_1.length c1_1] 63 (0, 0)) (bq BK314.out) hg (Kd.R_ne HO_7.out BK314.out (by decide))); have n3_ := Aside0.mk (blk_grown (g := gb315) (o := .cells #[.bool false, .slice none 0 0] 63 (0, 0)) (bq BK315.out) hg (Kd.R_ne HO_7.out BK315.out (by decide))); have n4_ := Aside0.mk (hb); have n5_ := Aside0.mk (ho); clear HO_5 BK313 BK314 BK315; clear HB HO_7; have HO_5 := n0_; have BK313 := n1_; have BK314 := n2_; have BK315 := n3_; have HB := n4_; have HO323 := n5_; clear n0_ n1_ n2_ n3_ n4_ n5_ ho hb hg hat))
                repeat (go_quiet (first | ((with_reducible refine gate_builtin (b := .append) (xs := #[.tmp 50, .tmp 53]) rfl ?_); at_builtin; refine Kd.R_append (Kd.int .i64) (w0 := w) w.heap.size rfl (.tmp 50) (.tmp 53) 61 3 (.int .i64 0) 8 rfl Tryd.underlying61 info3 rfl (by decide) (by omega) u7 x7_2 (Int.tmod (wrap64 (x8_2 + (wrap64 ((rd l0_1 x6_1) * (rd l1_1 x9_2))))) 65536) [.int .i64 (Int.tmod (wrap64 (x8_2 + (wrap64 ((rd l0_1 x6_1) * (rd l1_1 x9_2))))) 65536)] (fun k_ => (w.heap.size ≤ k_)) (fun _ => False) rfl rfl ?aP (fun _ hk => hk.elim) ?aF ?aO ?aB ?aS ?aL ?_; (case aP => exact rfl); (case aB => exact (wq HB.out)); (case aF => exact (fun k_ hk => (Nat.le_trans (below_size (wq HB.out)) hk))); (case aO => exact (rq HO_7.out)); (case aS => exact (below_size (wq HB.out))); (case aL => have := LMc27.out; omega); intro v322 w33 ho hb hg hat; rw [← Ny321.out] at ho; have n0_ := Aside0.mk (Kd.V_afterv (ok := (fun k_ => (w.heap.size ≤ k_) ∧ k_ ≠ gb313 ∧ k_ ≠ gb314 ∧ k_ ≠ gb315)) (by apply vq; exact Kd.V_mono HO_5.out (fun _ hk => ⟨⟨hk.1, ⟨hk.2.2.1, ⟨hk.2.2.2.1, hk.2.2.2.2⟩⟩⟩, hk.2.1⟩)) hg hat); have n1_ := Aside0.mk (blk_grown (g := gb313) (o := .cells #[.bool a0_0, .slice (some ad319) l0_1.length c0_1] 63 (0, 0)) (bq BK313.out) hg (Kd.R_ne HO_7.out BK313.out (by decide))); have n2_ := Aside0.mk (blk_grown (g := gb314) (o := .cells #[.bool a1_0, .slice (some ad320) l1_1.length c1_1] 63 (0, 0)) (bq BK314.out) hg (Kd.R_ne HO_7.out BK314.out (by decide))); have n3_ := Aside0.mk (blk_grown (g := gb315) (o := .cells #[.bool false, .slice none 0 0] 63 (0, 0)) (bq BK315.out) hg (Kd.R_ne HO_7.out BK315.out (by decide))); have n4_ := Aside0.mk (hb); have n5_ := Aside0.mk (ho); clear HO_5 BK313 BK314 BK315; clear HB HO_7; have HO_5 := n0_; have BK313 := n1_; have BK314 := n2_; have BK315 := n3_; have HB := n4_; have HO323 := n5_; clear n0_ n1_ n2_ n3_ n4_ n5_ ho hb hg hat)); try go_wp2_with (first | ((with_reducible refine gate_builtin (b := .append) (xs := #[.tmp 50, .tmp 53]) rfl ?_); at_builtin; refine Kd.R_append (Kd.int .i64) (w0 := w) w.heap.size rfl (.tmp 50) (.tmp 53) 61 3 (.int .i64 0) 8 rfl Tryd.underlying61 info3 rfl (by decide) (by omega) u7 x7_2 (Int.tmod (wrap64 (x8_2 + (wrap64 ((rd l0_1 x6_1) * (rd l1_1 x9_2))))) 65536) [.int .i64 (Int.tmod (wrap64 (x8_2 + (wrap64 ((rd l0_1 x6_1) * (rd l1_1 x9_2))))) 65536)] (fun k_ => (w.heap.size ≤ k_)) (fun _ => False) rfl rfl ?aP (fun _ hk => hk.elim) ?aF ?aO ?aB ?aS ?aL ?_; (case aP => exact rfl); (case aB => exact (wq HB.out)); (case aF => exact (fun k_ hk => (Nat.le_trans (below_size (wq HB.out)) hk))); (case aO => exact (rq HO_7.out)); (case aS => exact (below_size (wq HB.out))); (case aL => have := LMc27.out; omega); intro v322 w33 ho hb hg hat; rw [← Ny321.out] at ho; have n0_ := Aside0.mk (Kd.V_afterv (ok := (fun k_ => (w.heap.size ≤ k_) ∧ k_ ≠ gb313 ∧ k_ ≠ gb314 ∧ k_ ≠ gb315)) (by apply vq; exact Kd.V_mono HO_5.out (fun _ hk => ⟨⟨hk.1, ⟨hk.2.2.1, ⟨hk.2.2.2.1, hk.2.2.2.2⟩⟩⟩, hk.2.1⟩)) hg hat); have n1_ := Aside0.mk (blk_grown (g := gb313) (o := .cells #[.bool a0_0, .slice (some ad319) l0_1.length c0_1] 63 (0, 0)) (bq BK313.out) hg (Kd.R_ne HO_7.out BK313.out (by decide))); have n2_ := Aside0.mk (blk_grown (g := gb314) (o := .cells #[.bool a1_0, .slice (some ad320) l1_1.length c1_1] 63 (0, 0)) (bq BK314.out) hg (Kd.R_ne HO_7.out BK314.out (by decide))); have n3_ := Aside0.mk (blk_grown (g := gb315) (o := .cells #[.bool false, .slice none 0 0] 63 (0, 0)) (bq BK315.out) hg (Kd.R_ne HO_7.out BK315.out (by decide))); have n4_ := Aside0.mk (hb); have n5_ := Aside0.mk (ho); clear HO_5 BK313 BK314 BK315; clear HB HO_7; have HO_5 := n0_; have BK313 := n1_; have BK314 := n2_; have BK315 := n3_; have HB := n4_; have HO323 := n5_; clear n0_ n1_ n2_ n3_ n4_ n5_ ho hb hg hat)))
                go_roundg kj13
                case measure => have := HK1.out; have := HK2.out; have := HJ13.out; omega
                case rel => exact ⟨(y321), (wrap64 (Int.tdiv (wrap64 (x8_2 + (wrap64 ((rd l0_1 x6_1) * (rd l1_1 x9_2))))) 65536)), (wrap64 (x9_2 + 1)), (by first | rfl | (simp; done) | (simp [*]; done)), (by first | rfl | (simp; done) | (simp [*]; done)), H', ⟨by have := HK1.out; have := HK2.out; have := HJ13.out; omega⟩, ⟨by apply vq; exact Kd.V_mono HO_5.out (fun _ hk => ⟨hk.1.1, ⟨hk.2, ⟨hk.1.2.1, ⟨hk.1.2.2.1, hk.1.2.2.2⟩⟩⟩⟩)⟩, ⟨by apply rq; exact HO323.out⟩, ⟨by refine bq ?_; exact BK313.out⟩, ⟨by refine bq ?_; exact BK314.out⟩, ⟨by refine bq ?_; exact BK315.out⟩, ⟨by exact wq HB.out⟩⟩
               ·
                rw [if_neg c27] at H
                exact absurd H (by simp)
              ·
               rw [if_neg c26] at H
               exact absurd H (by simp)
             ·
              rw [if_neg c25] at H
              exact absurd H (by simp)
            ·
             rw [if_neg c24] at H
             exact absurd H (by simp)
           ·
            rw [if_neg c23] at H
            have c23b0 : decide (x9_2 < (l1_1.length : Int)) = false := decide_eq_false c23
            clear c23
            by_cases c34 : x7_2.length < 17592186044416
            ·
             rw [if_pos c34] at H
             have LMc34 := Aside0.mk c34
             clear c34
             obtain ⟨y324, hy324⟩ : ∃ y_ : List Int, y_ = (x7_2 ++ [Int.tmod x8_2 65536]) := ⟨_, rfl⟩
             replace H : (pointillistref01_Mul.l1 kj13 x5_1 x6_1 y324 (wrap64 (Int.tdiv x8_2 65536)) (wrap64 (x9_2 + 1)) a0_0 l0_1 a1_0 l1_1) = some (r1, r2) := by first | (rw [hy324]; with_reducible exact H) | (have H2_ := (Option.bind_some _ _).symm.trans H; rw [hy324]; with_reducible exact H2_) | (have H2_ := (Option.bind_some _ _).symm.trans H; with_reducible exact H2_) | with_reducible exact H | (rw [hy324]; exact H) | exact H
             have Ny324 := Aside0.mk hy324
             clear hy324
             have H' := Aside0.mk H
             clear H
             have hnb35 := NB314_313.out
             have hnc35 := NB313_314.out
             have hnb36 := NB314_315.out
             have hnc36 := NB315_314.out
             have hcz37_0 : wc.cell? ⟨gb314, 0, none⟩ = some (.bool a1_0) := (blk_cell BK314.out 0).trans rfl
             have hcz37_1 : wc.cell? ⟨gb314, 1, none⟩ = some (.slice A1_1 l1_1.length c1_1) := (blk_cell BK314.out 1).trans rfl
             have hfz37_0 := blk_frozen BK314.out 0
             have hfz37_1 := blk_frozen BK314.out 1
             go_wp2_with (first | ((with_reducible refine gate_builtin (b := .append) (xs := #[.tmp 50, .tmp 53]) rfl ?_); at_builtin; refine Kd.R_append (Kd.int .i64) (w0 := w) w.heap.size rfl (.tmp 50) (.tmp 53) 61 3 (.int .i64 0) 8 rfl Tryd.underlying61 info3 rfl (by decide) (by omega) u7 x7_2 (Int.tmod x8_2 65536) [.int .i64 (Int.tmod x8_2 65536)] (fun k_ => (w.heap.size ≤ k_)) (fun _ => False) rfl rfl ?aP (fun _ hk => hk.elim) ?aF ?aO ?aB ?aS ?aL ?_; (case aP => exact rfl); (case aB => exact (wq HB.out)); (case aF => exact (fun k_ hk => (Nat.le_trans (below_size (wq HB.out)) hk))); (case aO => exact (rq HO_7.out)); (case aS => exact (below_size (wq HB.out))); (case aL => have := LMc34.out; omega); intro v325 w38 ho hb hg hat; rw [← Ny324.out] at ho; have n0_ := Aside0.mk (Kd.V_afterv (ok := (fun k_ => (w.heap.size ≤ k_) ∧ k_ ≠ gb313 ∧ k_ ≠ gb314 ∧ k_ ≠ gb315)) (by apply vq; exact Kd.V_mono HO_5.out (fun _ hk => ⟨⟨hk.1, ⟨hk.2.2.1, ⟨hk.2.2.2.1, hk.2.2.2.2⟩⟩⟩, hk.2.1⟩)) hg hat); have n1_ := Aside0.mk (blk_grown (g := gb313) (o := .cells #[.bool a0_0, .slice A0_1 l0_1.length c0_1] 63 (0, 0)) (bq BK313.out) hg (Kd.R_ne HO_7.out BK313.out (by decide))); have n2_ := Aside0.mk (blk_grown (g := gb314) (o := .cells #[.bool a1_0, .slice A1_1 l1_1.length c1_1] 63 (0, 0)) (bq BK314.out) hg (Kd.R_ne HO_7.out BK314.out (by decide))); have n3_ := Aside0.mk (blk_grown (g := gb315) (o := .cells #[.bool false, .slice none 0 0] 63 (0, 0)) (bq BK315.out) hg (Kd.R_ne HO_7.out BK315.out (by decide))); have n4_ := Aside0.mk (hb); have n5_ := Aside0.mk (ho); clear HO_5 BK313 BK314 BK315; clear HB HO_7; have HO_5 := n0_; have BK313 := n1_; have BK314 := n2_; have BK315 := n3_; have HB := n4_; have HO326 := n5_; clear n0_ n1_ n2_ n3_ n4_ n5_ ho hb hg hat))
             repeat (go_quiet (first | ((with_reducible refine gate_builtin (b := .append) (xs := #[.tmp 50, .tmp 53]) rfl ?_); at_builtin; refine Kd.R_append (Kd.int .i64) (w0 := w) w.heap.size rfl (.tmp 50) (.tmp 53) 61 3 (.int .i64 0) 8 rfl Tryd.underlying61 info3 rfl (by decide) (by omega) u7 x7_2 (Int.tmod x8_2 65536) [.int .i64 (Int.tmod x8_2 65536)] (fun k_ => (w.heap.size ≤ k_)) (fun _ => False) rfl rfl ?aP (fun _ hk => hk.elim) ?aF ?aO ?aB ?aS ?aL ?_; (case aP => exact rfl); (case aB => exact (wq HB.out)); (case aF => exact (fun k_ hk => (Nat.le_trans (below_size (wq HB.out)) hk))); (case aO => exact (rq HO_7.out)); (case aS => exact (below_size (wq HB.out))); (case aL => have := LMc34.out; omega); intro v325 w38 ho hb hg hat; rw [← Ny324.out] at ho; have n0_ := Aside0.mk (Kd.V_afterv (ok := (fun k_ => (w.heap.size ≤ k_) ∧ k_ ≠ gb313 ∧ k_ ≠ gb314 ∧ k_ ≠ gb315)) (by apply vq; exact Kd.V_mono HO_5.out (fun _ hk => ⟨⟨hk.1, ⟨hk.2.2.1, ⟨hk.2.2.2.1, hk.2.2.2.2⟩⟩⟩, hk.2.1⟩)) hg hat); have n1_ := Aside0.mk (blk_grown (g := gb313) (o := .cells #[.bool a0_0, .slice A0_1 l0_1.length c0_1] 63 (0, 0)) (bq BK313.out) hg (Kd.R_ne HO_7.out BK313.out (by decide))); have n2_ := Aside0.mk (blk_grown (g := gb314) (o := .cells #[.bool a1_0, .slice A1_1 l1_1.length c1_1] 63 (0, 0)) (bq BK314.out) hg (Kd.R_ne HO_7.out BK314.out (by decide))); have n3_ := Aside0.mk (blk_grown (g := gb315) (o := .cells #[.bool false, .slice none 0 0] 63 (0, 0)) (bq BK315.out) hg (Kd.R_ne HO_7.out BK315.out (by decide))); have n4_ := Aside0.mk (hb); have n5_ := Aside0.mk (ho); clear HO_5 BK313 BK314 BK315; clear HB HO_7; have HO_5 := n0_; have BK313 := n1_; have BK314 := n2_; have BK315 := n3_; have HB := n4_; have HO326 := n5_; clear n0_ n1_ n2_ n3_ n4_ n5_ ho hb hg hat)); try go_wp2_with (first | ((with_reducible refine gate_builtin (b := .append) (xs := #[.tmp 50, .tmp 53]) rfl ?_); at_builtin; refine Kd.R_append (Kd.int .i64) (w0 := w) w.heap.size rfl (.tmp 50) (.tmp 53) 61 3 (.int .i64 0) 8 rfl Tryd.underlying61 info3 rfl (by decide) (by omega) u7 x7_2 (Int.tmod x8_2 65536) [.int .i64 (Int.tmod x8_2 65536)] (fun k_ => (w.heap.size ≤ k_)) (fun _ => False) rfl rfl ?aP (fun _ hk => hk.elim) ?aF ?aO ?aB ?aS ?aL ?_; (case aP => exact rfl); (case aB => exact (wq HB.out)); (case aF => exact (fun k_ hk => (Nat.le_trans (below_size (wq HB.out)) hk))); (case aO => exact (rq HO_7.out)); (case aS => exact (below_size (wq HB.out))); (case aL => have := LMc34.out; omega); intro v325 w38 ho hb hg hat; rw [← Ny324.out] at ho; have n0_ := Aside0.mk (Kd.V_afterv (ok := (fun k_ => (w.heap.size ≤ k_) ∧ k_ ≠ gb313 ∧ k_ ≠ gb314 ∧ k_ ≠ gb315)) (by apply vq; exact Kd.V_mono HO_5.out (fun _ hk => ⟨⟨hk.1, ⟨hk.2.2.1, ⟨hk.2.2.2.1, hk.2.2.2.2⟩⟩⟩, hk.2.1⟩)) hg hat); have n1_ := Aside0.mk (blk_grown (g := gb313) (o := .cells #[.bool a0_0, .slice A0_1 l0_1.length c0_1] 63 (0, 0)) (bq BK313.out) hg (Kd.R_ne HO_7.out BK313.out (by decide))); have n2_ := Aside0.mk (blk_grown (g := gb314) (o := .cells #[.bool a1_0, .slice A1_1 l1_1.length c1_1] 63 (0, 0)) (bq BK314.out) hg (Kd.R_ne HO_7.out BK314.out (by decide))); have n3_ := Aside0.mk (blk_grown (g := gb315) (o := .cells #[.bool false, .slice none 0 0] 63 (0, 0)) (bq BK315.out) hg (Kd.R_ne HO_7.out BK315.out (by decide))); have n4_ := Aside0.mk (hb); have n5_ := Aside0.mk (ho); clear HO_5 BK313 BK314 BK315; clear HB HO_7; have HO_5 := n0_; have BK313 := n1_; have BK314 := n2_; have BK315 := n3_; have HB := n4_; have HO326 := n5_; clear n0_ n1_ n2_ n3_ n4_ n5_ ho hb hg hat)))
             go_roundg kj13
             case measure => have := HK1.out; have := HK2.out; have := HJ13.out; omega
             case rel => exact ⟨(y324), (wrap64 (Int.tdiv x8_2 65536)), (wrap64 (x9_2 + 1)), (by first | rfl | (simp; done) | (simp [*]; done)), (by first | rfl | (simp; done) | (simp [*]; done)), H', ⟨by have := HK1.out; have := HK2.out; have := HJ13.out; omega⟩, ⟨by apply vq; exact Kd.V_mono HO_5.out (fun _ hk => ⟨hk.1.1, ⟨hk.2, ⟨hk.1.2.1, ⟨hk.1.2.2.1, hk.1.2.2.2⟩⟩⟩⟩)⟩, ⟨by apply rq; exact HO326.out⟩, ⟨by refine bq ?_; exact BK313.out⟩, ⟨by refine bq ?_; exact BK314.out⟩, ⟨by refine bq ?_; exact BK315.out⟩, ⟨by exact wq HB.out⟩⟩
            ·
             rw [if_neg c34] at H
             exact absurd H (by simp)
          ·
           replace c22 := Bool.eq_false_iff.mpr c22
           subst c22
           have H1 : ((pointillistref01_trim.f kj13 x7_2).bind fun t327 => ((pointillistref01_plus.f kj13 x5_1 t327).bind fun t330 => (pointillistref01_Mul.l0 kj13 t330 (wrap64 (x6_1 + 1)) a0_0 l0_1 a1_0 l1_1))) = some (r1, r2) := by rw [if_neg (show ¬ (false = true) by decide)] at H; exact H
           clear H
           have H := H1
           clear H1
           replace H := Option.bind_eq_some_iff.mp H
           obtain ⟨t327, A390, H⟩ := H
           replace H : ((pointillistref01_plus.f kj13 x5_1 t327).bind fun t330 => (pointillistref01_Mul.l0 kj13 t330 (wrap64 (x6_1 + 1)) a0_0 l0_1 a1_0 l1_1)) = some (r1, r2) := H
           have A39 := Aside0.mk A390
           clear A390
           replace H := Option.bind_eq_some_iff.mp H
           obtain ⟨t330, A400, H⟩ := H
           replace H : (pointillistref01_Mul.l0 kj13 t330 (wrap64 (x6_1 + 1)) a0_0 l0_1 a1_0 l1_1) = some (r1, r2) := H
           have A40 := Aside0.mk A400
           clear A400
           have H' := Aside0.mk H
           clear H
           obtain ⟨Ao41, co41, eo41⟩ := Kd.R_slice HO_7.out
           subst eo41
           go_wp2_with (first | (go_at_call 46; (with_reducible refine (pointillistref01_trim.calls kj13 (fun k_ => some k_ = (.slice Ao41 x7_2.length co41 : Value).ownBlock) _ _ x7_2 t327 _ ?side1 A39.out).mono ?_); (case side1 => exact Kd.R_V (Kd.R_tight rfl (Kd.R_types (Kd.R_types (Kd.R_types (HO_7.out) BK313.out (by decide)) BK314.out (by decide)) BK315.out (by decide)))); rintro e w42 ⟨v328, rfl, ho0, hb⟩; have n0_ := Aside0.mk (Kd.V_below (vq HO_5.out) hb); have n1_ := Aside0.mk (Kd.R_below (rq HO_7.out) hb); have n2_ := Aside0.mk (Kd.V_lower (Kd.V_mono (ok' := fun k_ => (w.heap.size ≤ k_) ∧ k_ ≠ gb313 ∧ k_ ≠ gb314 ∧ k_ ≠ gb315) ho0 (fun k_ hk_ => ⟨Or.elim hk_ (fun hs_ => ((Kd.R_types (Kd.R_types (Kd.R_types (HO_7.out) BK313.out (by decide)) BK314.out (by decide)) BK315.out (by decide)).1 k_ hs_.symm).1.1.1) (fun hn_ => (Nat.le_trans (below_size (wq HB.out)) hn_)), Or.elim hk_ (fun hs_ => ((Kd.R_types (Kd.R_types (Kd.R_types (HO_7.out) BK313.out (by decide)) BK314.out (by decide)) BK315.out (by decide)).1 k_ hs_.symm).1.1.2) (fun hn_ => (Kd.freshB (bq BK313.out) k_ hn_)), Or.elim hk_ (fun hs_ => ((Kd.R_types (Kd.R_types (Kd.R_types (HO_7.out) BK313.out (by decide)) BK314.out (by decide)) BK315.out (by decide)).1 k_ hs_.symm).1.2) (fun hn_ => (Kd.freshB (bq BK314.out) k_ hn_)), Or.elim hk_ (fun hs_ => ((Kd.R_types (Kd.R_types (Kd.R_types (HO_7.out) BK313.out (by decide)) BK314.out (by decide)) BK315.out (by decide)).1 k_ hs_.symm).2) (fun hn_ => (Kd.freshB (bq BK315.out) k_ hn_))⟩)) (below_size (wq HB.out))); have n3_ := Aside0.mk (blk_below (bq BK313.out) hb); have n4_ := Aside0.mk (blk_below (bq BK314.out) hb); have n5_ := Aside0.mk (blk_below (bq BK315.out) hb); have n6_ := Aside0.mk (below_step (wq HB.out) hb); clear HO_5 HO_7 BK313 BK314; clear BK315 HB; have HO_5 := n0_; have HO_7 := n1_; have HO329 := n2_; have BK313 := n3_; have BK314 := n4_; have BK315 := n5_; have HB := n6_; clear n0_ n1_ n2_ n3_ n4_ n5_ n6_; (try clear hb); (try clear hb2); (try clear hk); (try clear hi); (try clear ho0); obtain ⟨Ao43, co43, eo43⟩ := Kd.V_slice HO_5.out; subst eo43; obtain ⟨Ao44, co44, eo44⟩ := Kd.V_slice HO329.out; subst eo44) | (go_at_call 43; (with_reducible refine (pointillistref01_plus.calls kj13 _ _ x5_1 _ _ t327 t330 _ ?side1 ?side2 ?side3 ?side4 A40.out).mono ?_); (case side1 => exact cq (Kd.V_reads' HO_5.out).2.2); (case side2 => exact (Kd.V_reads' HO_5.out).2.1); (case side3 => exact cq (Kd.V_reads' HO329.out).2.2); (case side4 => exact (Kd.V_reads' HO329.out).2.1); rintro e w45 ⟨v331, rfl, ho0, hb⟩; have n0_ := Aside0.mk (Kd.V_below (vq HO_5.out) hb); have n1_ := Aside0.mk (Kd.R_below (rq HO_7.out) hb); have n2_ := Aside0.mk (Kd.V_below (vq HO329.out) hb); have n3_ := Aside0.mk (Kd.V_lower (Kd.V_mono (ok' := fun k_ => (w.heap.size ≤ k_) ∧ some k_ ≠ (.slice Ao41 x7_2.length co41 : Value).ownBlock ∧ k_ ≠ gb313 ∧ k_ ≠ gb314 ∧ k_ ≠ gb315) ho0 (fun k_ hk_ => ⟨(Nat.le_trans (below_size (wq HB.out)) hk_), (Kd.fresh' (Kd.R_lt (rq HO_7.out)) k_ hk_), (Kd.freshB (bq BK313.out) k_ hk_), (Kd.freshB (bq BK314.out) k_ hk_), (Kd.freshB (bq BK315.out) k_ hk_)⟩)) (below_size (wq HB.out))); have n4_ := Aside0.mk (blk_below (bq BK313.out) hb); have n5_ := Aside0.mk (blk_below (bq BK314.out) hb); have n6_ := Aside0.mk (blk_below (bq BK315.out) hb); have n7_ := Aside0.mk (below_step (wq HB.out) hb); clear HO_5 HO_7 HO329 BK313; clear BK314 BK315 HB; have HO_5 := n0_; have HO_7 := n1_; have HO329 := n2_; have HO332 := n3_; have BK313 := n4_; have BK314 := n5_; have BK315 := n6_; have HB := n7_; clear n0_ n1_ n2_ n3_ n4_ n5_ n6_ n7_; (try clear hb); (try clear hb2); (try clear hk); (try clear hi); (try clear ho0)))
           repeat (go_quiet (first | (go_at_call 46; (with_reducible refine (pointillistref01_trim.calls kj13 (fun k_ => some k_ = (.slice Ao41 x7_2.length co41 : Value).ownBlock) _ _ x7_2 t327 _ ?side1 A39.out).mono ?_); (case side1 => exact Kd.R_V (Kd.R_tight rfl (Kd.R_types (Kd.R_types (Kd.R_types (HO_7.out) BK313.out (by decide)) BK314.out (by decide)) BK315.out (by decide)))); rintro e w42 ⟨v328, rfl, ho0, hb⟩; have n0_ := Aside0.mk (Kd.V_below (vq HO_5.out) hb); have n1_ := Aside0.mk (Kd.R_below (rq HO_7.out) hb); have n2_ := Aside0.mk (Kd.V_lower (Kd.V_mono (ok' := fun k_ => (w.heap.size ≤ k_) ∧ k_ ≠ gb313 ∧ k_ ≠ gb314 ∧ k_ ≠ gb315) ho0 (fun k_ hk_ => ⟨Or.elim hk_ (fun hs_ => ((Kd.R_types (Kd.R_types (Kd.R_types (HO_7.out) BK313.out (by decide)) BK314.out (by decide)) BK315.out (by decide)).1 k_ hs_.symm).1.1.1) (fun hn_ => (Nat.le_trans (below_size (wq HB.out)) hn_)), Or.elim hk_ (fun hs_ => ((Kd.R_types (Kd.R_types (Kd.R_types (HO_7.out) BK313.out (by decide)) BK314.out (by decide)) BK315.out (by decide)).1 k_ hs_.symm).1.1.2) (fun hn_ => (Kd.freshB (bq BK313.out) k_ hn_)), Or.elim hk_ (fun hs_ => ((Kd.R_types (Kd.R_types (Kd.R_types (HO_7.out) BK313.out (by decide)) BK314.out (by decide)) BK315.out (by decide)).1 k_ hs_.symm).1.2) (fun hn_ => (Kd.freshB (bq BK314.out) k_ hn_)), Or.elim hk_ (fun hs_ => ((Kd.R_types (Kd.R_types (Kd.R_types (HO_7.out) BK313.out (by decide)) BK314.out (by decide)) BK315.out (by decide)).1 k_ hs_.symm).2) (fun hn_ => (Kd.freshB (bq BK315.out) k_ hn_))⟩)) (below_size (wq HB.out))); have n3_ := Aside0.mk (blk_below (bq BK313.out) hb); have n4_ := Aside0.mk (blk_below (bq BK314.out) hb); have n5_ := Aside0.mk (blk_below (bq BK315.out) hb); have n6_ := Aside0.mk (below_step (wq HB.out) hb); clear HO_5 HO_7 BK313 BK314; clear BK315 HB; have HO_5 := n0_; have HO_7 := n1_; have HO329 := n2_; have BK313 := n3_; have BK314 := n4_; have BK315 := n5_; have HB := n6_; clear n0_ n1_ n2_ n3_ n4_ n5_ n6_; (try clear hb); (try clear hb2); (try clear hk); (try clear hi); (try clear ho0); obtain ⟨Ao43, co43, eo43⟩ := Kd.V_slice HO_5.out; subst eo43; obtain ⟨Ao44, co44, eo44⟩ := Kd.V_slice HO329.out; subst eo44) | (go_at_call 43; (with_reducible refine (pointillistref01_plus.calls kj13 _ _ x5_1 _ _ t327 t330 _ ?side1 ?side2 ?side3 ?side4 A40.out).mono ?_); (case side1 => exact cq (Kd.V_reads' HO_5.out).2.2); (case side2 => exact (Kd.V_reads' HO_5.out).2.1); (case side3 => exact cq (Kd.V_reads' HO329.out).2.2); (case side4 => exact (Kd.V_reads' HO329.out).2.1); rintro e w45 ⟨v331, rfl, ho0, hb⟩; have n0_ := Aside0.mk (Kd.V_below (vq HO_5.out) hb); have n1_ := Aside0.mk (Kd.R_below (rq HO_7.out) hb); have n2_ := Aside0.mk (Kd.V_below (vq HO329.out) hb); have n3_ := Aside0.mk (Kd.V_lower (Kd.V_mono (ok' := fun k_ => (w.heap.size ≤ k_) ∧ some k_ ≠ (.slice Ao41 x7_2.length co41 : Value).ownBlock ∧ k_ ≠ gb313 ∧ k_ ≠ gb314 ∧ k_ ≠ gb315) ho0 (fun k_ hk_ => ⟨(Nat.le_trans (below_size (wq HB.out)) hk_), (Kd.fresh' (Kd.R_lt (rq HO_7.out)) k_ hk_), (Kd.freshB (bq BK313.out) k_ hk_), (Kd.freshB (bq BK314.out) k_ hk_), (Kd.freshB (bq BK315.out) k_ hk_)⟩)) (below_size (wq HB.out))); have n4_ := Aside0.mk (blk_below (bq BK313.out) hb); have n5_ := Aside0.mk (blk_below (bq BK314.out) hb); have n6_ := Aside0.mk (blk_below (bq BK315.out) hb); have n7_ := Aside0.mk (below_step (wq HB.out) hb); clear HO_5 HO_7 HO329 BK313; clear BK314 BK315 HB; have HO_5 := n0_; have HO_7 := n1_; have HO329 := n2_; have HO332 := n3_; have BK313 := n4_; have BK314 := n5_; have BK315 := n6_; have HB := n7_; clear n0_ n1_ n2_ n3_ n4_ n5_ n6_ n7_; (try clear hb); (try clear hb2); (try clear hk); (try clear hi); (try clear ho0))); try go_wp2_with (first | (go_at_call 46; (with_reducible refine (pointillistref01_trim.calls kj13 (fun k_ => some k_ = (.slice Ao41 x7_2.length co41 : Value).ownBlock) _ _ x7_2 t327 _ ?side1 A39.out).mono ?_); (case side1 => exact Kd.R_V (Kd.R_tight rfl (Kd.R_types (Kd.R_types (Kd.R_types (HO_7.out) BK313.out (by decide)) BK314.out (by decide)) BK315.out (by decide)))); rintro e w42 ⟨v328, rfl, ho0, hb⟩; have n0_ := Aside0.mk (Kd.V_below (vq HO_5.out) hb); have n1_ := Aside0.mk (Kd.R_below (rq HO_7.out) hb); have n2_ := Aside0.mk (Kd.V_lower (Kd.V_mono (ok' := fun k_ => (w.heap.size ≤ k_) ∧ k_ ≠ gb313 ∧ k_ ≠ gb314 ∧ k_ ≠ gb315) ho0 (fun k_ hk_ => ⟨Or.elim hk_ (fun hs_ => ((Kd.R_types (Kd.R_types (Kd.R_types (HO_7.out) BK313.out (by decide)) BK314.out (by decide)) BK315.out (by decide)).1 k_ hs_.symm).1.1.1) (fun hn_ => (Nat.le_trans (below_size (wq HB.out)) hn_)), Or.elim hk_ (fun hs_ => ((Kd.R_types (Kd.R_types (Kd.R_types (HO_7.out) BK313.out (by decide)) BK314.out (by decide)) BK315.out (by decide)).1 k_ hs_.symm).1.1.2) (fun hn_ => (Kd.freshB (bq BK313.out) k_ hn_)), Or.elim hk_ (fun hs_ => ((Kd.R_types (Kd.R_types (Kd.R_types (HO_7.out) BK313.out (by decide)) BK314.out (by decide)) BK315.out (by decide)).1 k_ hs_.symm).1.2) (fun hn_ => (Kd.freshB (bq BK314.out) k_ hn_)), Or.elim hk_ (fun hs_ => ((Kd.R_types (Kd.R_types (Kd.R_types (HO_7.out) BK313.out (by decide)) BK314.out (by decide)) BK315.out (by decide)).1 k_ hs_.symm).2) (fun hn_ => (Kd.freshB (bq BK315.out) k_ hn_))⟩)) (below_size (wq HB.out))); have n3_ := Aside0.mk (blk_below (bq BK313.out) hb); have n4_ := Aside0.mk (blk_below (bq BK314.out) hb); have n5_ := Aside0.mk (blk_below (bq BK315.out) hb); have n6_ := Aside0.mk (below_step (wq HB.out) hb); clear HO_5 HO_7 BK313 BK314; clear BK315 HB; have HO_5 := n0_; have HO_7 := n1_; have HO329 := n2_; have BK313 := n3_; have BK314 := n4_; have BK315 := n5_; have HB := n6_; clear n0_ n1_ n2_ n3_ n4_ n5_ n6_; (try clear hb); (try clear hb2); (try clear hk); (try clear hi); (try clear ho0); obtain ⟨Ao43, co43, eo43⟩ := Kd.V_slice HO_5.out; subst eo43; obtain ⟨Ao44, co44, eo44⟩ := Kd.V_slice HO329.out; subst eo44) | (go_at_call 43; (with_reducible refine (pointillistref01_plus.calls kj13 _ _ x5_1 _ _ t327 t330 _ ?side1 ?side2 ?side3 ?side4 A40.out).mono ?_); (case side1 => exact cq (Kd.V_reads' HO_5.out).2.2); (case side2 => exact (Kd.V_reads' HO_5.out).2.1); (case side3 => exact cq (Kd.V_reads' HO329.out).2.2); (case side4 => exact (Kd.V_reads' HO329.out).2.1); rintro e w45 ⟨v331, rfl, ho0, hb⟩; have n0_ := Aside0.mk (Kd.V_below (vq HO_5.out) hb); have n1_ := Aside0.mk (Kd.R_below (rq HO_7.out) hb); have n2_ := Aside0.mk (Kd.V_below (vq HO329.out) hb); have n3_ := Aside0.mk (Kd.V_lower (Kd.V_mono (ok' := fun k_ => (w.heap.size ≤ k_) ∧ some k_ ≠ (.slice Ao41 x7_2.length co41 : Value).ownBlock ∧ k_ ≠ gb313 ∧ k_ ≠ gb314 ∧ k_ ≠ gb315) ho0 (fun k_ hk_ => ⟨(Nat.le_trans (below_size (wq HB.out)) hk_), (Kd.fresh' (Kd.R_lt (rq HO_7.out)) k_ hk_), (Kd.freshB (bq BK313.out) k_ hk_), (Kd.freshB (bq BK314.out) k_ hk_), (Kd.freshB (bq BK315.out) k_ hk_)⟩)) (below_size (wq HB.out))); have n4_ := Aside0.mk (blk_below (bq BK313.out) hb); have n5_ := Aside0.mk (blk_below (bq BK314.out) hb); have n6_ := Aside0.mk (blk_below (bq BK315.out) hb); have n7_ := Aside0.mk (below_step (wq HB.out) hb); clear HO_5 HO_7 HO329 BK313; clear BK314 BK315 HB; have HO_5 := n0_; have HO_7 := n1_; have HO329 := n2_; have HO332 := n3_; have BK313 := n4_; have BK314 := n5_; have BK315 := n6_; have HB := n7_; clear n0_ n1_ n2_ n3_ n4_ n5_ n6_ n7_; (try clear hb); (try clear hb2); (try clear hk); (try clear hi); (try clear ho0))))
           go_roundg kj13
           case measure => have := HK1.out; have := HK2.out; have := HJ13.out; omega
           case rel => exact ⟨(t330), (wrap64 (x6_1 + 1)), (by first | rfl | (simp; done) | (simp [*]; done)), H', ⟨by have := HK1.out; have := HK2.out; have := HJ13.out; omega⟩, ⟨by apply vq; exact Kd.V_mono HO332.out (fun _ hk => ⟨hk.1, ⟨hk.2.2.1, ⟨hk.2.2.2.1, hk.2.2.2.2⟩⟩⟩)⟩, ⟨by refine bq ?_; exact BK313.out⟩, ⟨by refine bq ?_; exact BK314.out⟩, ⟨by refine bq ?_; exact BK315.out⟩, ⟨by exact wq HB.out⟩⟩
     ·
      rw [if_neg c8] at H
      exact absurd H (by simp)
    ·
     rw [if_neg c7] at H
     exact absurd H (by simp)
   ·
    rw [if_neg c6] at H
    have c6b0 : decide (x6_1 < (l0_1.length : Int)) = false := decide_eq_false c6
    clear c6
    simp only [Option.some.injEq, Prod.mk.injEq] at H
    obtain ⟨rfl, rfl⟩ := H
    have hnb46 := NB313_314.out
    have hnc46 := NB314_313.out
    have hnb47 := NB313_315.out
    have hnc47 := NB315_313.out
    have hcz48_0 : wr.cell? ⟨gb313, 0, none⟩ = some (.bool a0_0) := (blk_cell BK313.out 0).trans rfl
    have hcz48_1 : wr.cell? ⟨gb313, 1, none⟩ = some (.slice A0_1 l0_1.length c0_1) := (blk_cell BK313.out 1).trans rfl
    have hfz48_0 := blk_frozen BK313.out 0
    have hfz48_1 := blk_frozen BK313.out 1
    have hnb49 := NB314_315.out
    have hnc49 := NB315_314.out
    have hcz50_0 : wr.cell? ⟨gb314, 0, none⟩ = some (.bool a1_0) := (blk_cell BK314.out 0).trans rfl
    have hcz50_1 : wr.cell? ⟨gb314, 1, none⟩ = some (.slice A1_1 l1_1.length c1_1) := (blk_cell BK314.out 1).trans rfl
    have hfz50_0 := blk_frozen BK314.out 0
    have hfz50_1 := blk_frozen BK314.out 1
    obtain ⟨Ao51, co51, eo51⟩ := Kd.V_slice HO_5.out
    subst eo51
    have hcz52_0 : wr.cell? ⟨gb315, 0, none⟩ = some (.bool false) := (blk_cell BK315.out 0).trans rfl
    have hcz52_1 : wr.cell? ⟨gb315, 1, none⟩ = some (.slice none 0 0) := (blk_cell BK315.out 1).trans rfl
    have hfz52_0 := blk_frozen BK315.out 0
    have hfz52_1 := blk_frozen BK315.out 1
    go_wp2
    repeat (go_quiet (fail); try go_wp2)
    refine bodyPost_ret (results_cell_row rfl _ _ gb315 63 #[.bool (a0_0 != a1_0), .slice Ao51 x5_1.length co51] (0, 0) _ rfl (by refine bq ?_; refine blk_put (cs := #[.bool (a0_0 != a1_0), .slice none 0 0]) ?_ 1 _ rfl; refine bq ?_; refine blk_put (cs := #[.bool false, .slice none 0 0]) ?_ 0 _ rfl; refine bq ?_; exact BK315.out) Tryd.underlying63 rfl (by kernel_rfl)) rfl ?_
    exact ⟨_, by first | rfl | (simp [errW_none, errW_some] <;> rfl) | (simp [*, errW_none, errW_some] <;> rfl), by apply vq; exact Kd.V_mono (Kd.V_far (p := ⟨gb315, 1, none⟩) (Kd.V_far (p := ⟨gb315, 0, none⟩) (Kd.V_mono HO_5.out (fun k_ hk => (⟨hk, hk.2.2.2⟩ : _ ∧ k_ ≠ gb315))) (fun _ hk => hk.2) (.bool (a0_0 != a1_0))) (fun _ hk => hk.2) (.slice Ao51 x5_1.length co51)) (fun _ hk => hk.1.1), by exact wq HB.out⟩
def pointillistref01_Of.l0 : Nat → Int → Bool → List Int → Int → Option (Bool × List Int)
 | 0, _, _, _, _ => none
 | k + 1, x0, x3, x4, x5 => if x5 < 4 then (if (Int.tmod x0 65536) < 0 then (if x4.length < 17592186044416 then (pointillistref01_Of.l0 k (wrap64 (Int.tdiv x0 65536)) x3 (x4 ++ [wrap64 (-(Int.tmod x0 65536))]) (wrap64 (x5 + 1))) else (none)) else (if x4.length < 17592186044416 then (pointillistref01_Of.l0 k (wrap64 (Int.tdiv x0 65536)) x3 (x4 ++ [Int.tmod x0 65536]) (wrap64 (x5 + 1))) else (none))) else ((pointillistref01_trim.f k x4).bind fun t340 => (some (x3, t340)))
def pointillistref01_Of.f (k : Nat) (a0 : Int) : Option (Bool × List Int) := pointillistref01_Of.l0 k a0 (decide (a0 < 0)) ([] : List Int) 0
theorem pointillistref01_Of.mono_l : ∀ k, (∀ y0 y1 y2 y3, LeO (pointillistref01_Of.l0 k y0 y1 y2 y3) (pointillistref01_Of.l0 (k + 1) y0 y1 y2 y3))
 | 0 => fun _ _ _ _ r h => by simp [pointillistref01_Of.l0] at h
 | k + 1 => by
  have ih0 := pointillistref01_Of.mono_l k
  ·
   intro y0 y1 y2 y3
   unfold pointillistref01_Of.l0
   repeat' first
   | (with_reducible exact ih0 _ _ _ _)
   | (with_reducible exact pointillistref01_trim.mono _ _)
   | (with_reducible exact LeO.refl _)
   | (with_reducible exact LeO.none _)
   | (with_reducible refine LeO.ite ?_ ?_)
   | (with_reducible refine LeO.bind ?_ (fun _ => ?_))
   | exact ih0 _ _ _ _
   | exact pointillistref01_trim.mono _ _
   | exact LeO.none _
   | refine LeO.ite ?_ ?_
   | refine LeO.bind ?_ (fun _ => ?_)
theorem pointillistref01_Of.mono : ∀ a0 k, LeO (pointillistref01_Of.f k a0) (pointillistref01_Of.f (k + 1) a0) := by
 intro a0 k
 have ih0 := pointillistref01_Of.mono_l k
 unfold pointillistref01_Of.f
 repeat' first
   | (with_reducible exact ih0 _ _ _ _)
   | (with_reducible exact pointillistref01_trim.mono _ _)
   | (with_reducible exact LeO.refl _)
   | (with_reducible exact LeO.none _)
   | (with_reducible refine LeO.ite ?_ ?_)
   | (with_reducible refine LeO.bind ?_ (fun _ => ?_))
   | exact ih0 _ _ _ _
   | exact pointillistref01_trim.mono _ _
   | exact LeO.none _
   | refine LeO.ite ?_ ?_
   | refine LeO.bind ?_ (fun _ => ?_)
set_option maxHeartbeats 8000000 in
set_option maxRecDepth 100000 in
theorem pointillistref01_Of.calls (k : Nat) (a0 : Int) (r1 : Bool) (r2 : List Int) (w : World) (h : pointillistref01_Of.f k a0 = some (r1, r2)) :
  Calls Tryd.prog 35 #[.int .i64 a0] w fun e w' => ∃ v1_ : Value, e = .returned (.agg #[.bool r1, v1_]) ∧ Kd.V (Kd.int .i64) 3 w' w.heap.size (fun k_ => (w.heap.size ≤ k_)) v1_ r2 ∧ Below w.heap.size w w' := by
 have hu63 := Tryd.underlying63
 have HB := Aside0.mk (Below.refl w.heap.size w)
 have H : (pointillistref01_Of.l0 k a0 (decide (a0 < 0)) ([] : List Int) 0) = some (r1, r2) := h
 clear h
 have H' := Aside0.mk H
 clear H
 go_enter Tryd.func35, Tryd.ntmps35
 go_wp2_with (first | ((with_reducible refine gate_dst (N := 2) rfl ?_); refine box_event ?hg (N := 2) ?hd (cs := #[.bool false, .slice none 0 0]) (t := 63) ?hr ?_; (case hd => rfl); (case hg => rfl); (case hr => first | (go_simp; done) | (go_simp; rfl)); intro gb333 hg w2 hbox hb; have n0_ := Aside0.mk (below_step (wq HB.out) hb); have n1_ := Aside0.mk (hbox); have n2_ := Aside0.mk ((by rw [hg]; exact (below_size (wq HB.out)) : w.heap.size ≤ gb333)); have n3_ := n2_; clear HB; have HB := n0_; have BK333 := n1_; have GW333 := n2_; have GE333 := n3_; clear n0_ n1_ n2_ n3_ hb hbox hg))
 go_loopg [0, 4, 5] k (fun kq v0 v4 v5 w' => ∃ (x0_1 : Int) (x4_1 : List Int) (x5_1 : Int), v0 = .int .i64 x0_1 ∧ v5 = .int .i64 x5_1 ∧ Aside0 (pointillistref01_Of.l0 kq x0_1 (decide (a0 < 0)) x4_1 x5_1 = some (r1, r2)) ∧ Aside0 (kq ≤ k) ∧ Aside0 (Kd.R (Kd.int .i64) 3 w' w.heap.size (fun k_ => (w.heap.size ≤ k_)) v4 x4_1) ∧ Aside0 (w'.heap[gb333]? = some (.cells #[.bool false, (.slice none 0 0)] 63 (0, 0))) ∧ Aside0 (Below w.heap.size w w'))
 case atStart => exact ⟨(a0), (([] : List Int)), (0), (by first | rfl | (simp; done) | (simp [*]; done)), (by first | rfl | (simp; done) | (simp [*]; done)), H', ⟨Nat.le_refl _⟩, ⟨by first | exact Kd.R_nil _ _ _ _ _ | exact Kd.N_nil _ _ _ _ _ | exact Kd.V_nil _ _ _ _ _ | exact Kd.Q_nil _ _ _ _ _ | exact Kd.S_nil _ _ _ _ _⟩, ⟨by refine bq ?_; exact BK333.out⟩, ⟨by exact wq HB.out⟩⟩
 case round =>
  clear H'
  try clear p2
  obtain ⟨x0_1, x4_1, x5_1, rfl, rfl, HA, HK1, HO_4, BK333, HB⟩ := hrel
  cases gk with
  | zero => exact absurd HA.out (by simp [pointillistref01_Of.l0])
  | succ k1 =>
   have H := HA.out
   clear HA
   simp only [pointillistref01_Of.l0] at H
   by_cases c3 : x5_1 < 4
   ·
    rw [if_pos c3] at H
    have c3b0 : decide (x5_1 < 4) = true := decide_eq_true c3
    clear c3
    by_cases c4 : (Int.tmod x0_1 65536) < 0
    ·
     rw [if_pos c4] at H
     have c4b0 : decide ((Int.tmod x0_1 65536) < 0) = true := decide_eq_true c4
     clear c4
     by_cases c5 : x4_1.length < 17592186044416
     ·
      rw [if_pos c5] at H
      have LMc5 := Aside0.mk c5
      clear c5
      obtain ⟨y334, hy334⟩ : ∃ y_ : List Int, y_ = (x4_1 ++ [wrap64 (-(Int.tmod x0_1 65536))]) := ⟨_, rfl⟩
      replace H : (pointillistref01_Of.l0 k1 (wrap64 (Int.tdiv x0_1 65536)) (decide (a0 < 0)) y334 (wrap64 (x5_1 + 1))) = some (r1, r2) := by first | (rw [hy334]; with_reducible exact H) | (have H2_ := (Option.bind_some _ _).symm.trans H; rw [hy334]; with_reducible exact H2_) | (have H2_ := (Option.bind_some _ _).symm.trans H; with_reducible exact H2_) | with_reducible exact H | (rw [hy334]; exact H) | exact H
      have Ny334 := Aside0.mk hy334
      clear hy334
      have H' := Aside0.mk H
      clear H
      go_wp2_with (first | ((with_reducible refine gate_builtin (b := .append) (xs := #[.tmp 19, .tmp 21]) rfl ?_); at_builtin; refine Kd.R_append (Kd.int .i64) (w0 := w) w.heap.size rfl (.tmp 19) (.tmp 21) 61 3 (.int .i64 0) 8 rfl Tryd.underlying61 info3 rfl (by decide) (by omega) u4 x4_1 (wrap64 (-(Int.tmod x0_1 65536))) [.int .i64 (wrap64 (-(Int.tmod x0_1 65536)))] (fun k_ => (w.heap.size ≤ k_)) (fun _ => False) rfl rfl ?aP (fun _ hk => hk.elim) ?aF ?aO ?aB ?aS ?aL ?_; (case aP => exact rfl); (case aB => exact (wq HB.out)); (case aF => exact (fun k_ hk => (Nat.le_trans (below_size (wq HB.out)) hk))); (case aO => exact (rq HO_4.out)); (case aS => exact (below_size (wq HB.out))); (case aL => have := LMc5.out; omega); intro v335 w6 ho hb hg hat; rw [← Ny334.out] at ho; have n0_ := Aside0.mk (blk_grown (g := gb333) (o := .cells #[.bool false, .slice none 0 0] 63 (0, 0)) (bq BK333.out) hg (Kd.R_ne HO_4.out BK333.out (by decide))); have n1_ := Aside0.mk (hb); have n2_ := Aside0.mk (ho); clear BK333 HB HO_4; have BK333 := n0_; have HB := n1_; have HO336 := n2_; clear n0_ n1_ n2_ ho hb hg hat))
      go_roundg k1
      case measure => have := HK1.out; omega
      case rel => exact ⟨(wrap64 (Int.tdiv x0_1 65536)), (y334), (wrap64 (x5_1 + 1)), (by first | rfl | (simp; done) | (simp [*]; done)), (by first | rfl | (simp; done) | (simp [*]; done)), H', ⟨by have := HK1.out; omega⟩, ⟨by apply rq; exact HO336.out⟩, ⟨by refine bq ?_; exact BK333.out⟩, ⟨by exact wq HB.out⟩⟩
     ·
      rw [if_neg c5] at H
      exact absurd H (by simp)
    ·
     rw [if_neg c4] at H
     have c4b0 : decide ((Int.tmod x0_1 65536) < 0) = false := decide_eq_false c4
     clear c4
     by_cases c7 : x4_1.length < 17592186044416
     ·
      rw [if_pos c7] at H
      have LMc7 := Aside0.mk c7
      clear c7
      obtain ⟨y337, hy337⟩ : ∃ y_ : List Int, y_ = (x4_1 ++ [Int.tmod x0_1 65536]) := ⟨_, rfl⟩
      replace H : (pointillistref01_Of.l0 k1 (wrap64 (Int.tdiv x0_1 65536)) (decide (a0 < 0)) y337 (wrap64 (x5_1 + 1))) = some (r1, r2) := by first | (rw [hy337]; with_reducible exact H) | (have H2_ := (Option.bind_some _ _).symm.trans H; rw [hy337]; with_reducible exact H2_) | (have H2_ := (Option.bind_some _ _).symm.trans H; with_reducible exact H2_) | with_reducible exact H | (rw [hy337]; exact H) | exact H
      have Ny337 := Aside0.mk hy337
      clear hy337
      have H' := Aside0.mk H
      clear H
      go_wp2_with (first | ((with_reducible refine gate_builtin (b := .append) (xs := #[.tmp 19, .tmp 21]) rfl ?_); at_builtin; refine Kd.R_append (Kd.int .i64) (w0 := w) w.heap.size rfl (.tmp 19) (.tmp 21) 61 3 (.int .i64 0) 8 rfl Tryd.underlying61 info3 rfl (by decide) (by omega) u4 x4_1 (Int.tmod x0_1 65536) [.int .i64 (Int.tmod x0_1 65536)] (fun k_ => (w.heap.size ≤ k_)) (fun _ => False) rfl rfl ?aP (fun _ hk => hk.elim) ?aF ?aO ?aB ?aS ?aL ?_; (case aP => exact rfl); (case aB => exact (wq HB.out)); (case aF => exact (fun k_ hk => (Nat.le_trans (below_size (wq HB.out)) hk))); (case aO => exact (rq HO_4.out)); (case aS => exact (below_size (wq HB.out))); (case aL => have := LMc7.out; omega); intro v338 w8 ho hb hg hat; rw [← Ny337.out] at ho; have n0_ := Aside0.mk (blk_grown (g := gb333) (o := .cells #[.bool false, .slice none 0 0] 63 (0, 0)) (bq BK333.out) hg (Kd.R_ne HO_4.out BK333.out (by decide))); have n1_ := Aside0.mk (hb); have n2_ := Aside0.mk (ho); clear BK333 HB HO_4; have BK333 := n0_; have HB := n1_; have HO339 := n2_; clear n0_ n1_ n2_ ho hb hg hat))
      go_roundg k1
      case measure => have := HK1.out; omega
      case rel => exact ⟨(wrap64 (Int.tdiv x0_1 65536)), (y337), (wrap64 (x5_1 + 1)), (by first | rfl | (simp; done) | (simp [*]; done)), (by first | rfl | (simp; done) | (simp [*]; done)), H', ⟨by have := HK1.out; omega⟩, ⟨by apply rq; exact HO339.out⟩, ⟨by refine bq ?_; exact BK333.out⟩, ⟨by exact wq HB.out⟩⟩
     ·
      rw [if_neg c7] at H
      exact absurd H (by simp)
   ·
    rw [if_neg c3] at H
    have c3b0 : decide (x5_1 < 4) = false := decide_eq_false c3
    clear c3
    replace H := Option.bind_eq_some_iff.mp H
    obtain ⟨t340, A90, H⟩ := H
    replace H : (some ((decide (a0 < 0)), t340)) = some (r1, r2) := H
    have A9 := Aside0.mk A90
    clear A90
    simp only [Option.some.injEq, Prod.mk.injEq] at H
    obtain ⟨rfl, rfl⟩ := H
    obtain ⟨Ao10, co10, eo10⟩ := Kd.R_slice HO_4.out
    subst eo10
    go_wp2_with (first | ((with_reducible refine gate_callee (f := 46) rfl ?_); refine goesL_ (some 27) rfl rfl Tryd.func46 (by kernel_rfl) rfl #[.slice Ao10 x4_1.length co10] rfl (by (try simp only [List.map_toArray, List.map_cons, List.map_nil]); first | done | rfl | (simp only [List.length_drop, List.length_take]; rfl)) ?_; (with_reducible refine (pointillistref01_trim.calls k1 (fun k_ => some k_ = (.slice Ao10 x4_1.length co10 : Value).ownBlock) _ _ x4_1 t340 _ ?side1 A9.out).mono ?_); (case side1 => exact Kd.R_V (Kd.R_tight rfl (Kd.R_types (HO_4.out) BK333.out (by decide)))); rintro e w11 ⟨v341, rfl, ho0, hb⟩; refine ⟨_, rfl, ?_⟩; have n0_ := Aside0.mk (Kd.R_below (rq HO_4.out) hb); have n1_ := Aside0.mk (Kd.V_lower (Kd.V_mono (ok' := fun k_ => (w.heap.size ≤ k_) ∧ k_ ≠ gb333) ho0 (fun k_ hk_ => ⟨Or.elim hk_ (fun hs_ => ((Kd.R_types (HO_4.out) BK333.out (by decide)).1 k_ hs_.symm).1) (fun hn_ => (Nat.le_trans (below_size (wq HB.out)) hn_)), Or.elim hk_ (fun hs_ => ((Kd.R_types (HO_4.out) BK333.out (by decide)).1 k_ hs_.symm).2) (fun hn_ => (Kd.freshB (bq BK333.out) k_ hn_))⟩)) (below_size (wq HB.out))); have n2_ := Aside0.mk (blk_below (bq BK333.out) hb); have n3_ := Aside0.mk (below_step (wq HB.out) hb); clear HO_4 BK333 HB; have HO_4 := n0_; have HO342 := n1_; have BK333 := n2_; have HB := n3_; clear n0_ n1_ n2_ n3_; (try clear hb); (try clear hb2); (try clear hk); (try clear hi); (try clear ho0); obtain ⟨Ao12, co12, eo12⟩ := Kd.V_slice HO342.out; subst eo12; have hcz13_0 : w11.cell? ⟨gb333, 0, none⟩ = some (.bool false) := (blk_cell BK333.out 0).trans rfl; have hcz13_1 : w11.cell? ⟨gb333, 1, none⟩ = some (.slice none 0 0) := (blk_cell BK333.out 1).trans rfl; have hfz13_0 := blk_frozen BK333.out 0; have hfz13_1 := blk_frozen BK333.out 1))
    refine bodyPost_ret (results_cell_row rfl _ _ gb333 63 #[.bool (decide (a0 < 0)), .slice Ao12 t340.length co12] (0, 0) _ rfl (by refine bq ?_; refine blk_put (cs := #[.bool (decide (a0 < 0)), .slice none 0 0]) ?_ 1 _ rfl; refine bq ?_; refine blk_put (cs := #[.bool false, .slice none 0 0]) ?_ 0 _ rfl; refine bq ?_; exact BK333.out) Tryd.underlying63 rfl (by kernel_rfl)) rfl ?_
    exact ⟨_, by first | rfl | (simp [errW_none, errW_some] <;> rfl) | (simp [*, errW_none, errW_some] <;> rfl), by apply vq; exact Kd.V_mono (Kd.V_far (p := ⟨gb333, 1, none⟩) (Kd.V_far (p := ⟨gb333, 0, none⟩) (Kd.V_mono HO342.out (fun k_ hk => (⟨hk, hk.2⟩ : _ ∧ k_ ≠ gb333))) (fun _ hk => hk.2) (.bool (decide (a0 < 0)))) (fun _ hk => hk.2) (.slice Ao12 t340.length co12)) (fun _ hk => hk.1.1), by exact wq HB.out⟩
def pointillistref01_Power.l0 : Nat → Int → List Int → Int → Int → Option (Bool × List Int)
 | 0, _, _, _, _ => none
 | k + 1, x0, x3, x4, x5 => if x5 < (Int.tmod x0 16) then (pointillistref01_Power.l0 k x0 x3 (wrap64 (x4 * 2)) (wrap64 (x5 + 1))) else (if x3.length < 17592186044416 then (some (false, (x3 ++ [x4]))) else (none))
def pointillistref01_Power.f (k : Nat) (a0 : Int) : Option (Bool × List Int) := if 0 ≤ (wrap64 (Int.tdiv a0 16)) then (if (wrap64 (Int.tdiv a0 16) : Int).toNat ≤ 35184372088832 then (pointillistref01_Power.l0 k a0 (List.replicate (wrap64 (Int.tdiv a0 16) : Int).toNat 0) 1 0) else (none)) else (none)
theorem pointillistref01_Power.mono_l : ∀ k, (∀ y0 y1 y2 y3, LeO (pointillistref01_Power.l0 k y0 y1 y2 y3) (pointillistref01_Power.l0 (k + 1) y0 y1 y2 y3))
 | 0 => fun _ _ _ _ r h => by simp [pointillistref01_Power.l0] at h
 | k + 1 => by
  have ih0 := pointillistref01_Power.mono_l k
  ·
   intro y0 y1 y2 y3
   unfold pointillistref01_Power.l0
   repeat' first
   | (with_reducible exact ih0 _ _ _ _)
   | (with_reducible exact LeO.refl _)
   | (with_reducible exact LeO.none _)
   | (with_reducible refine LeO.ite ?_ ?_)
   | (with_reducible refine LeO.bind ?_ (fun _ => ?_))
   | exact ih0 _ _ _ _
   | exact LeO.none _
   | refine LeO.ite ?_ ?_
   | refine LeO.bind ?_ (fun _ => ?_)
theorem pointillistref01_Power.mono : ∀ a0 k, LeO (pointillistref01_Power.f k a0) (pointillistref01_Power.f (k + 1) a0) := by
 intro a0 k
 have ih0 := pointillistref01_Power.mono_l k
 unfold pointillistref01_Power.f
 repeat' first
   | (with_reducible exact ih0 _ _ _ _)
   | (with_reducible exact LeO.refl _)
   | (with_reducible exact LeO.none _)
   | (with_reducible refine LeO.ite ?_ ?_)
   | (with_reducible refine LeO.bind ?_ (fun _ => ?_))
   | exact ih0 _ _ _ _
   | exact LeO.none _
   | refine LeO.ite ?_ ?_
   | refine LeO.bind ?_ (fun _ => ?_)
set_option maxHeartbeats 8000000 in
set_option maxRecDepth 100000 in
theorem pointillistref01_Power.calls (k : Nat) (a0 : Int) (r1 : Bool) (r2 : List Int) (w : World) (h : pointillistref01_Power.f k a0 = some (r1, r2)) :
  Calls Tryd.prog 36 #[.int .i64 a0] w fun e w' => ∃ v1_ : Value, e = .returned (.agg #[.bool r1, v1_]) ∧ Kd.R (Kd.int .i64) 3 w' w.heap.size (fun _ => True) v1_ r2 ∧ Below w.heap.size w w' := by
 have hu63 := Tryd.underlying63
 have HB := Aside0.mk (Below.refl w.heap.size w)
 have H : (if 0 ≤ (wrap64 (Int.tdiv a0 16)) then (if (wrap64 (Int.tdiv a0 16) : Int).toNat ≤ 35184372088832 then (pointillistref01_Power.l0 k a0 (List.replicate (wrap64 (Int.tdiv a0 16) : Int).toNat 0) 1 0) else (none)) else (none)) = some (r1, r2) := h
 clear h
 obtain ⟨ji2, hji2⟩ : ∃ j_ : Int, (wrap64 (Int.tdiv a0 16)) = j_ := ⟨_, rfl⟩
 replace H : (if 0 ≤ (ji2) then (if (ji2 : Int).toNat ≤ 35184372088832 then (pointillistref01_Power.l0 k a0 (List.replicate (ji2 : Int).toNat 0) 1 0) else (none)) else (none)) = some (r1, r2) := by first | (rw [hji2] at H; exact H) | (simp only [hji2] at H ⊢; exact H)
 have hji2w : (IntKind.i64.wrap (Int.tdiv a0 16)) = ji2 := (i64_w _).trans hji2
 by_cases c3 : 0 ≤ (ji2)
 ·
  rw [if_pos c3] at H
  have c3b0 := eq_true c3
  have c3b1 : decide (0 ≤ (ji2)) = true := decide_eq_true c3
  clear c3
  by_cases c4 : (ji2 : Int).toNat ≤ 35184372088832
  ·
   rw [if_pos c4] at H
   have c4b0 := eq_true c4
   have c4b1 : decide ((ji2 : Int).toNat ≤ 35184372088832) = true := decide_eq_true c4
   clear c4
   obtain ⟨y344, hy344⟩ : ∃ y_ : List Int, y_ = (List.replicate (ji2 : Int).toNat 0) := ⟨_, rfl⟩
   replace H : (pointillistref01_Power.l0 k a0 y344 1 0) = some (r1, r2) := by first | (rw [hy344]; with_reducible exact H) | (have H2_ := (Option.bind_some _ _).symm.trans H; rw [hy344]; with_reducible exact H2_) | (have H2_ := (Option.bind_some _ _).symm.trans H; with_reducible exact H2_) | with_reducible exact H | (rw [hy344]; exact H) | exact H
   have Ny344 := Aside0.mk hy344
   clear hy344
   have H' := Aside0.mk H
   clear H
   go_enter Tryd.func36, Tryd.ntmps36
   go_wp2_with (first | ((with_reducible refine gate_dst (N := 2) rfl ?_); refine box_event ?hg (N := 2) ?hd (cs := #[.bool false, .slice none 0 0]) (t := 63) ?hr ?_; (case hd => rfl); (case hg => rfl); (case hr => first | (go_simp; done) | (go_simp; rfl)); intro gb343 hg w5 hbox hb; have n0_ := Aside0.mk (below_step (wq HB.out) hb); have n1_ := Aside0.mk (hbox); have n2_ := Aside0.mk ((by rw [hg]; exact (below_size (wq HB.out)) : w.heap.size ≤ gb343)); have n3_ := n2_; clear HB; have HB := n0_; have BK343 := n1_; have GW343 := n2_; have GE343 := n3_; clear n0_ n1_ n2_ n3_ hb hbox hg) | ((with_reducible refine gate_dst (N := 8) rfl ?_); refine Kd.R_make (Kd.int .i64) _ 3 rfl (N := 8) rfl 61 _ _ rfl ji2 rfl rfl Tryd.underlying61 (.int .i64 0) 8 info3 rfl (by decide) (by omega) 0 (ok := fun _ => True) (okp := fun _ => True) rfl (fun _ hk => hk) trivial (of_decide_eq_true (by first | (with_reducible assumption) | assumption)) (Nat.le_trans (Nat.mul_le_mul_right _ (of_decide_eq_true (by first | (with_reducible assumption) | assumption) : ji2.toNat ≤ 35184372088832)) (by omega)) (Below.refl _ _) (Nat.le_refl _) ?_; intro v345 w6 ho7 hb hg_ hnew_; clear hg_ hnew_; (first | rw [← Ny344.out] at ho7 | (simp only [Int.reduceToNat] at ho7; rw [← Ny344.out] at ho7)); have n0_ := Aside0.mk (Kd.R_lower ho7 (below_size (wq HB.out))); have n1_ := Aside0.mk (blk_below (bq BK343.out) hb); have n2_ := Aside0.mk (below_step (wq HB.out) hb); clear BK343 HB; have HO346 := n0_; have BK343 := n1_; have HB := n2_; clear n0_ n1_ n2_ hb ho7))
   go_loopg [4, 5] k (fun kq v4 v5 w' => ∃ (x4_1 : Int) (x5_1 : Int), v4 = .int .i64 x4_1 ∧ v5 = .int .i64 x5_1 ∧ Aside0 (pointillistref01_Power.l0 kq a0 y344 x4_1 x5_1 = some (r1, r2)) ∧ Aside0 (kq ≤ k) ∧ Aside0 (Kd.R (Kd.int .i64) 3 w' w.heap.size (fun _ => True) v345 y344) ∧ Aside0 (w'.heap[gb343]? = some (.cells #[.bool false, (.slice none 0 0)] 63 (0, 0))) ∧ Aside0 (Below w.heap.size w w'))
   case atStart => exact ⟨(1), (0), (by first | rfl | (simp; done) | (simp [*]; done)), (by first | rfl | (simp; done) | (simp [*]; done)), H', ⟨Nat.le_refl _⟩, ⟨by apply rq; exact HO346.out⟩, ⟨by refine bq ?_; exact BK343.out⟩, ⟨by exact wq HB.out⟩⟩
   case round =>
    clear H'
    try clear p2
    try clear c3
    try clear c3b0
    try clear c3b1
    try clear c4
    try clear c4b0
    try clear c4b1
    try clear p6
    obtain ⟨x4_1, x5_1, rfl, rfl, HA, HK1, HO_3, BK343, HB⟩ := hrel
    cases gk with
    | zero => exact absurd HA.out (by simp [pointillistref01_Power.l0])
    | succ k1 =>
     have H := HA.out
     clear HA
     simp only [pointillistref01_Power.l0] at H
     by_cases c8 : x5_1 < (Int.tmod a0 16)
     ·
      rw [if_pos c8] at H
      have c8b0 : decide (x5_1 < (Int.tmod a0 16)) = true := decide_eq_true c8
      clear c8
      have H' := Aside0.mk H
      clear H
      go_wp2
      go_roundg k1
      case measure => have := HK1.out; omega
      case rel => exact ⟨(wrap64 (x4_1 * 2)), (wrap64 (x5_1 + 1)), (by first | rfl | (simp; done) | (simp [*]; done)), (by first | rfl | (simp; done) | (simp [*]; done)), H', ⟨by have := HK1.out; omega⟩, ⟨by apply rq; exact HO_3.out⟩, ⟨by refine bq ?_; exact BK343.out⟩, ⟨by exact wq HB.out⟩⟩
     ·
      rw [if_neg c8] at H
      have c8b0 : decide (x5_1 < (Int.tmod a0 16)) = false := decide_eq_false c8
      clear c8
      by_cases c9 : y344.length < 17592186044416
      ·
       rw [if_pos c9] at H
       have LMc9 := Aside0.mk c9
       clear c9
       obtain ⟨y347, hy347⟩ : ∃ y_ : List Int, y_ = (y344 ++ [x4_1]) := ⟨_, rfl⟩
       replace H : (some (false, y347)) = some (r1, r2) := by first | (rw [hy347]; with_reducible exact H) | (have H2_ := (Option.bind_some _ _).symm.trans H; rw [hy347]; with_reducible exact H2_) | (have H2_ := (Option.bind_some _ _).symm.trans H; with_reducible exact H2_) | with_reducible exact H | (rw [hy347]; exact H) | exact H
       have Ny347 := Aside0.mk hy347
       clear hy347
       simp only [Option.some.injEq, Prod.mk.injEq] at H
       obtain ⟨rfl, rfl⟩ := H
       go_wp2_with (first | ((with_reducible refine gate_builtin (b := .append) (xs := #[.tmp 17, .tmp 19]) rfl ?_); at_builtin; refine Kd.R_append (Kd.int .i64) (w0 := w) w.heap.size rfl (.tmp 17) (.tmp 19) 61 3 (.int .i64 0) 8 rfl Tryd.underlying61 info3 rfl (by decide) (by omega) v345 y344 x4_1 [.int .i64 x4_1] (fun _ => True) (fun _ => False) rfl rfl ?aP (fun _ hk => hk.elim) ?aF ?aO ?aB ?aS ?aL ?_; (case aP => exact rfl); (case aB => exact (wq HB.out)); (case aF => exact (fun _ _ => trivial)); (case aO => exact (rq HO_3.out)); (case aS => exact (below_size (wq HB.out))); (case aL => have := LMc9.out; omega); intro v348 w10 ho hb hg hat; rw [← Ny347.out] at ho; have n0_ := Aside0.mk (blk_grown (g := gb343) (o := .cells #[.bool false, .slice none 0 0] 63 (0, 0)) (bq BK343.out) hg (Kd.R_ne HO_3.out BK343.out (by decide))); have n1_ := Aside0.mk (hb); have n2_ := Aside0.mk (ho); clear BK343 HB HO_3; have BK343 := n0_; have HB := n1_; have HO349 := n2_; clear n0_ n1_ n2_ ho hb hg hat; obtain ⟨Ao11, co11, eo11⟩ := Kd.R_slice HO349.out; subst eo11; have hcz12_0 : w10.cell? ⟨gb343, 0, none⟩ = some (.bool false) := (blk_cell BK343.out 0).trans rfl; have hcz12_1 : w10.cell? ⟨gb343, 1, none⟩ = some (.slice none 0 0) := (blk_cell BK343.out 1).trans rfl; have hfz12_0 := blk_frozen BK343.out 0; have hfz12_1 := blk_frozen BK343.out 1))
       refine bodyPost_ret (results_cell_row rfl _ _ gb343 63 #[.bool false, .slice Ao11 y347.length co11] (0, 0) _ rfl (by refine bq ?_; refine blk_put (cs := #[.bool false, .slice none 0 0]) ?_ 1 _ rfl; refine bq ?_; refine blk_put (cs := #[.bool false, .slice none 0 0]) ?_ 0 _ rfl; refine bq ?_; exact BK343.out) Tryd.underlying63 rfl (by kernel_rfl)) rfl ?_
       exact ⟨_, by first | rfl | (simp [errW_none, errW_some] <;> rfl) | (simp only [← hji2]; first | rfl | (simp [errW_none, errW_some] <;> rfl)) | (simp [*, errW_none, errW_some] <;> rfl), by apply rq; exact Kd.R_mono (Kd.R_far (p := ⟨gb343, 1, none⟩) (Kd.R_far (p := ⟨gb343, 0, none⟩) (Kd.R_types HO349.out BK343.out (by decide)) (fun _ hk => hk.2) (.bool false)) (fun _ hk => hk.2) (.slice Ao11 y347.length co11)) (fun _ hk => trivial), by exact wq HB.out⟩
      ·
       rw [if_neg c9] at H
       exact absurd H (by simp)
  ·
   rw [if_neg c4] at H
   exact absurd H (by simp)
 ·
  rw [if_neg c3] at H
  exact absurd H (by simp)
def pointillistref01_Dot.j0 : Nat → Int → Int → Int → Int → Int → Bool → Option (Int × Bool)
 | 0, _, _, _, _, _, _ => none
 | k + 1, x0, x1, x2, x3, x4, x17 => if x17 = true then (some (0, false)) else ((pointillistref01_Of.f k x0).bind fun bt350 => ((pointillistref01_Of.f k x1).bind fun bt354 => ((pointillistref01_Mul.f k bt350.1 bt350.2 bt354.1 bt354.2).bind fun bt358 => ((pointillistref01_Of.f k x2).bind fun bt362 => ((pointillistref01_Of.f k x3).bind fun bt366 => ((pointillistref01_Mul.f k bt362.1 bt362.2 bt366.1 bt366.2).bind fun bt370 => ((pointillistref01_Add.f k bt358.1 bt358.2 bt370.1 bt370.2).bind fun bt374 => ((pointillistref01_Power.f k x4).bind fun bt378 => ((pointillistref01_Near.f k bt374.1 bt374.2 bt378.1 bt378.2).bind fun bt382 => ((pointillistref01_Plain.f k bt382.1 bt382.2).bind fun bt386 => (some (bt386.1, bt386.2))))))))))))
def pointillistref01_Dot.f (k : Nat) (a0 : Int) (a1 : Int) (a2 : Int) (a3 : Int) (a4 : Int) : Option (Int × Bool) := if a4 < 0 then (pointillistref01_Dot.j0 k a0 a1 a2 a3 a4 true) else (pointillistref01_Dot.j0 k a0 a1 a2 a3 a4 (decide (a4 > 62)))
theorem pointillistref01_Dot.mono_l : ∀ k, (∀ y0 y1 y2 y3 y4 y5, LeO (pointillistref01_Dot.j0 k y0 y1 y2 y3 y4 y5) (pointillistref01_Dot.j0 (k + 1) y0 y1 y2 y3 y4 y5))
 | 0 => fun _ _ _ _ _ _ r h => by simp [pointillistref01_Dot.j0] at h
 | k + 1 => by
  have ih0 := pointillistref01_Dot.mono_l k
  ·
   intro y0 y1 y2 y3 y4 y5
   unfold pointillistref01_Dot.j0
   repeat' first
   | (with_reducible exact ih0 _ _ _ _ _ _)
   | (with_reducible exact pointillistref01_Add.mono _ _ _ _ _)
   | (with_reducible exact pointillistref01_Mul.mono _ _ _ _ _)
   | (with_reducible exact pointillistref01_Near.mono _ _ _ _ _)
   | (with_reducible exact pointillistref01_Of.mono _ _)
   | (with_reducible exact pointillistref01_Plain.mono _ _ _)
   | (with_reducible exact pointillistref01_Power.mono _ _)
   | (with_reducible exact LeO.refl _)
   | (with_reducible exact LeO.none _)
   | (with_reducible refine LeO.ite ?_ ?_)
   | (with_reducible refine LeO.bind ?_ (fun _ => ?_))
   | exact ih0 _ _ _ _ _ _
   | exact pointillistref01_Add.mono _ _ _ _ _
   | exact pointillistref01_Mul.mono _ _ _ _ _
   | exact pointillistref01_Near.mono _ _ _ _ _
   | exact pointillistref01_Of.mono _ _
   | exact pointillistref01_Plain.mono _ _ _
   | exact pointillistref01_Power.mono _ _
   | exact LeO.none _
   | refine LeO.ite ?_ ?_
   | refine LeO.bind ?_ (fun _ => ?_)
theorem pointillistref01_Dot.mono : ∀ a0 a1 a2 a3 a4 k, LeO (pointillistref01_Dot.f k a0 a1 a2 a3 a4) (pointillistref01_Dot.f (k + 1) a0 a1 a2 a3 a4) := by
 intro a0 a1 a2 a3 a4 k
 have ih0 := pointillistref01_Dot.mono_l k
 unfold pointillistref01_Dot.f
 repeat' first
   | (with_reducible exact ih0 _ _ _ _ _ _)
   | (with_reducible exact pointillistref01_Add.mono _ _ _ _ _)
   | (with_reducible exact pointillistref01_Mul.mono _ _ _ _ _)
   | (with_reducible exact pointillistref01_Near.mono _ _ _ _ _)
   | (with_reducible exact pointillistref01_Of.mono _ _)
   | (with_reducible exact pointillistref01_Plain.mono _ _ _)
   | (with_reducible exact pointillistref01_Power.mono _ _)
   | (with_reducible exact LeO.refl _)
   | (with_reducible exact LeO.none _)
   | (with_reducible refine LeO.ite ?_ ?_)
   | (with_reducible refine LeO.bind ?_ (fun _ => ?_))
   | exact ih0 _ _ _ _ _ _
   | exact pointillistref01_Add.mono _ _ _ _ _
   | exact pointillistref01_Mul.mono _ _ _ _ _
   | exact pointillistref01_Near.mono _ _ _ _ _
   | exact pointillistref01_Of.mono _ _
   | exact pointillistref01_Plain.mono _ _ _
   | exact pointillistref01_Power.mono _ _
   | exact LeO.none _
   | refine LeO.ite ?_ ?_
   | refine LeO.bind ?_ (fun _ => ?_)
set_option maxHeartbeats 8000000 in
set_option maxRecDepth 100000 in
theorem pointillistref01_Dot.calls (k : Nat) (a0 : Int) (a1 : Int) (a2 : Int) (a3 : Int) (a4 : Int) (r1 : Int) (r2 : Bool) (w : World) (h : pointillistref01_Dot.f k a0 a1 a2 a3 a4 = some (r1, r2)) :
  Calls Tryd.prog 28 #[.int .i64 a0, .int .i64 a1, .int .i64 a2, .int .i64 a3, .int .i64 a4] w fun e w' => e = .returned (.tuple #[.int .i64 r1, .bool r2]) ∧ Below w.heap.size w w' := by
 have HB := Aside0.mk (Below.refl w.heap.size w)
 have H : (if a4 < 0 then (pointillistref01_Dot.j0 k a0 a1 a2 a3 a4 true) else (pointillistref01_Dot.j0 k a0 a1 a2 a3 a4 (decide (a4 > 62)))) = some (r1, r2) := h
 clear h
 have HC6 := Aside0.mk H
 clear H
 go_enter Tryd.func28, Tryd.ntmps28
 go_upto_region 1 with (fail)
 go_cut [17] (fun v17 wc => ∃ (kq : Nat) (x17_5 : Bool), v17 = .bool x17_5 ∧ Aside0 (pointillistref01_Dot.j0 kq a0 a1 a2 a3 a4 x17_5 = some (r1, r2)) ∧ Aside0 (kq ≤ k) ∧ Aside0 (Below w.heap.size w wc))
 case first =>
  have H := HC6.out
  clear HC6
  by_cases c7 : a4 < 0
  ·
   rw [if_pos c7] at H
   have c7b0 : decide (a4 < 0) = true := decide_eq_true c7
   clear c7
   (first | rw [c7b0] | (simp only [i64_w, i32_w]; rw [c7b0]) | skip)
   have H' := Aside0.mk H
   clear H
   go_wp2
   go_meet
   case rel => exact ⟨_, (true), (by first | rfl | (simp; done) | (simp [*]; done)), H', ⟨by first | omega | exact Nat.le_refl _⟩, ⟨by exact wq HB.out⟩⟩
  ·
   rw [if_neg c7] at H
   have c7b0 : decide (a4 < 0) = false := decide_eq_false c7
   clear c7
   (first | rw [c7b0] | (simp only [i64_w, i32_w]; rw [c7b0]) | skip)
   have H' := Aside0.mk H
   clear H
   go_wp2
   go_meet
   case rel => exact ⟨_, (decide (a4 > 62)), (by first | rfl | (simp; done) | (simp [*]; done)), H', ⟨by first | omega | exact Nat.le_refl _⟩, ⟨by exact wq HB.out⟩⟩
 case rest =>
  clear HC6
  try clear c2
  try clear p2
  try clear c7
  try clear c7b0
  obtain ⟨kq, x17_5, rfl, HA, HJ5, HB⟩ := hcut
  cases kq with
  | zero => exact absurd HA.out (by simp [pointillistref01_Dot.j0])
  | succ kj5 =>
   have H := HA.out
   clear HA
   simp only [pointillistref01_Dot.j0] at H
   by_cases c8 : x17_5 = true
   ·
    subst c8
    have H1 : (some (0, false)) = some (r1, r2) := by rw [if_pos rfl] at H; exact H
    clear H
    have H := H1
    clear H1
    simp only [Option.some.injEq, Prod.mk.injEq] at H
    obtain ⟨rfl, rfl⟩ := H
    go_wp2
    go_ret2
    exact ⟨by first | rfl | (simp [errW_none, errW_some] <;> rfl) | (simp [*, errW_none, errW_some] <;> rfl), by exact wq HB.out⟩
   ·
    replace c8 := Bool.eq_false_iff.mpr c8
    subst c8
    have H1 : ((pointillistref01_Of.f kj5 a0).bind fun bt350 => ((pointillistref01_Of.f kj5 a1).bind fun bt354 => ((pointillistref01_Mul.f kj5 bt350.1 bt350.2 bt354.1 bt354.2).bind fun bt358 => ((pointillistref01_Of.f kj5 a2).bind fun bt362 => ((pointillistref01_Of.f kj5 a3).bind fun bt366 => ((pointillistref01_Mul.f kj5 bt362.1 bt362.2 bt366.1 bt366.2).bind fun bt370 => ((pointillistref01_Add.f kj5 bt358.1 bt358.2 bt370.1 bt370.2).bind fun bt374 => ((pointillistref01_Power.f kj5 a4).bind fun bt378 => ((pointillistref01_Near.f kj5 bt374.1 bt374.2 bt378.1 bt378.2).bind fun bt382 => ((pointillistref01_Plain.f kj5 bt382.1 bt382.2).bind fun bt386 => (some (bt386.1, bt386.2)))))))))))) = some (r1, r2) := by rw [if_neg (show ¬ (false = true) by decide)] at H; exact H
    clear H
    have H := H1
    clear H1
    replace H := Option.bind_eq_some_iff.mp H
    obtain ⟨⟨t350, t351⟩, A90, H⟩ := H
    replace H : ((pointillistref01_Of.f kj5 a1).bind fun bt354 => ((pointillistref01_Mul.f kj5 t350 t351 bt354.1 bt354.2).bind fun bt358 => ((pointillistref01_Of.f kj5 a2).bind fun bt362 => ((pointillistref01_Of.f kj5 a3).bind fun bt366 => ((pointillistref01_Mul.f kj5 bt362.1 bt362.2 bt366.1 bt366.2).bind fun bt370 => ((pointillistref01_Add.f kj5 bt358.1 bt358.2 bt370.1 bt370.2).bind fun bt374 => ((pointillistref01_Power.f kj5 a4).bind fun bt378 => ((pointillistref01_Near.f kj5 bt374.1 bt374.2 bt378.1 bt378.2).bind fun bt382 => ((pointillistref01_Plain.f kj5 bt382.1 bt382.2).bind fun bt386 => (some (bt386.1, bt386.2))))))))))) = some (r1, r2) := H
    have A9 := Aside0.mk A90
    clear A90
    replace H := Option.bind_eq_some_iff.mp H
    obtain ⟨⟨t354, t355⟩, A100, H⟩ := H
    replace H : ((pointillistref01_Mul.f kj5 t350 t351 t354 t355).bind fun bt358 => ((pointillistref01_Of.f kj5 a2).bind fun bt362 => ((pointillistref01_Of.f kj5 a3).bind fun bt366 => ((pointillistref01_Mul.f kj5 bt362.1 bt362.2 bt366.1 bt366.2).bind fun bt370 => ((pointillistref01_Add.f kj5 bt358.1 bt358.2 bt370.1 bt370.2).bind fun bt374 => ((pointillistref01_Power.f kj5 a4).bind fun bt378 => ((pointillistref01_Near.f kj5 bt374.1 bt374.2 bt378.1 bt378.2).bind fun bt382 => ((pointillistref01_Plain.f kj5 bt382.1 bt382.2).bind fun bt386 => (some (bt386.1, bt386.2)))))))))) = some (r1, r2) := H
    have A10 := Aside0.mk A100
    clear A100
    replace H := Option.bind_eq_some_iff.mp H
    obtain ⟨⟨t358, t359⟩, A110, H⟩ := H
    replace H : ((pointillistref01_Of.f kj5 a2).bind fun bt362 => ((pointillistref01_Of.f kj5 a3).bind fun bt366 => ((pointillistref01_Mul.f kj5 bt362.1 bt362.2 bt366.1 bt366.2).bind fun bt370 => ((pointillistref01_Add.f kj5 t358 t359 bt370.1 bt370.2).bind fun bt374 => ((pointillistref01_Power.f kj5 a4).bind fun bt378 => ((pointillistref01_Near.f kj5 bt374.1 bt374.2 bt378.1 bt378.2).bind fun bt382 => ((pointillistref01_Plain.f kj5 bt382.1 bt382.2).bind fun bt386 => (some (bt386.1, bt386.2))))))))) = some (r1, r2) := H
    have A11 := Aside0.mk A110
    clear A110
    replace H := Option.bind_eq_some_iff.mp H
    obtain ⟨⟨t362, t363⟩, A120, H⟩ := H
    replace H : ((pointillistref01_Of.f kj5 a3).bind fun bt366 => ((pointillistref01_Mul.f kj5 t362 t363 bt366.1 bt366.2).bind fun bt370 => ((pointillistref01_Add.f kj5 t358 t359 bt370.1 bt370.2).bind fun bt374 => ((pointillistref01_Power.f kj5 a4).bind fun bt378 => ((pointillistref01_Near.f kj5 bt374.1 bt374.2 bt378.1 bt378.2).bind fun bt382 => ((pointillistref01_Plain.f kj5 bt382.1 bt382.2).bind fun bt386 => (some (bt386.1, bt386.2)))))))) = some (r1, r2) := H
    have A12 := Aside0.mk A120
    clear A120
    replace H := Option.bind_eq_some_iff.mp H
    obtain ⟨⟨t366, t367⟩, A130, H⟩ := H
    replace H : ((pointillistref01_Mul.f kj5 t362 t363 t366 t367).bind fun bt370 => ((pointillistref01_Add.f kj5 t358 t359 bt370.1 bt370.2).bind fun bt374 => ((pointillistref01_Power.f kj5 a4).bind fun bt378 => ((pointillistref01_Near.f kj5 bt374.1 bt374.2 bt378.1 bt378.2).bind fun bt382 => ((pointillistref01_Plain.f kj5 bt382.1 bt382.2).bind fun bt386 => (some (bt386.1, bt386.2))))))) = some (r1, r2) := H
    have A13 := Aside0.mk A130
    clear A130
    replace H := Option.bind_eq_some_iff.mp H
    obtain ⟨⟨t370, t371⟩, A140, H⟩ := H
    replace H : ((pointillistref01_Add.f kj5 t358 t359 t370 t371).bind fun bt374 => ((pointillistref01_Power.f kj5 a4).bind fun bt378 => ((pointillistref01_Near.f kj5 bt374.1 bt374.2 bt378.1 bt378.2).bind fun bt382 => ((pointillistref01_Plain.f kj5 bt382.1 bt382.2).bind fun bt386 => (some (bt386.1, bt386.2)))))) = some (r1, r2) := H
    have A14 := Aside0.mk A140
    clear A140
    replace H := Option.bind_eq_some_iff.mp H
    obtain ⟨⟨t374, t375⟩, A150, H⟩ := H
    replace H : ((pointillistref01_Power.f kj5 a4).bind fun bt378 => ((pointillistref01_Near.f kj5 t374 t375 bt378.1 bt378.2).bind fun bt382 => ((pointillistref01_Plain.f kj5 bt382.1 bt382.2).bind fun bt386 => (some (bt386.1, bt386.2))))) = some (r1, r2) := H
    have A15 := Aside0.mk A150
    clear A150
    replace H := Option.bind_eq_some_iff.mp H
    obtain ⟨⟨t378, t379⟩, A160, H⟩ := H
    replace H : ((pointillistref01_Near.f kj5 t374 t375 t378 t379).bind fun bt382 => ((pointillistref01_Plain.f kj5 bt382.1 bt382.2).bind fun bt386 => (some (bt386.1, bt386.2)))) = some (r1, r2) := H
    have A16 := Aside0.mk A160
    clear A160
    replace H := Option.bind_eq_some_iff.mp H
    obtain ⟨⟨t382, t383⟩, A170, H⟩ := H
    replace H : ((pointillistref01_Plain.f kj5 t382 t383).bind fun bt386 => (some (bt386.1, bt386.2))) = some (r1, r2) := H
    have A17 := Aside0.mk A170
    clear A170
    replace H := Option.bind_eq_some_iff.mp H
    obtain ⟨⟨t386, t387⟩, A180, H⟩ := H
    replace H : (some (t386, t387)) = some (r1, r2) := H
    have A18 := Aside0.mk A180
    clear A180
    simp only [Option.some.injEq, Prod.mk.injEq] at H
    obtain ⟨rfl, rfl⟩ := H
    go_wp2_with (first | ((with_reducible refine gate_callee (f := 35) rfl ?_); refine goesL_ (some 19) rfl rfl Tryd.func35 (by kernel_rfl) rfl #[.int .i64 a0] rfl (by (try simp only [List.map_toArray, List.map_cons, List.map_nil]); first | done | rfl | (simp only [List.length_drop, List.length_take]; rfl)) ?_; (with_reducible refine (pointillistref01_Of.calls kj5 a0 t350 t351 _ A9.out).mono ?_); rintro e w19 ⟨v352, rfl, ho0, hb⟩; refine ⟨_, rfl, ?_⟩; have n0_ := Aside0.mk (Kd.V_lower (Kd.V_mono (ok' := fun k_ => True) ho0 (fun k_ hk_ => trivial)) (below_size (wq HB.out))); have n1_ := Aside0.mk (below_step (wq HB.out) hb); clear HB; have HO353 := n0_; have HB := n1_; clear n0_ n1_; (try clear hb); (try clear hb2); (try clear hk); (try clear hi); (try clear ho0)) | ((with_reducible refine gate_callee (f := 35) rfl ?_); refine goesL_ (some 21) rfl rfl Tryd.func35 (by kernel_rfl) rfl #[.int .i64 a1] rfl (by (try simp only [List.map_toArray, List.map_cons, List.map_nil]); first | done | rfl | (simp only [List.length_drop, List.length_take]; rfl)) ?_; (with_reducible refine (pointillistref01_Of.calls kj5 a1 t354 t355 _ A10.out).mono ?_); rintro e w20 ⟨v356, rfl, ho0, hb⟩; refine ⟨_, rfl, ?_⟩; have n0_ := Aside0.mk (Kd.V_below (vq HO353.out) hb); have n1_ := Aside0.mk (Kd.V_lower (Kd.V_mono (ok' := fun k_ => True) ho0 (fun k_ hk_ => trivial)) (below_size (wq HB.out))); have n2_ := Aside0.mk (below_step (wq HB.out) hb); clear HO353 HB; have HO353 := n0_; have HO357 := n1_; have HB := n2_; clear n0_ n1_ n2_; (try clear hb); (try clear hb2); (try clear hk); (try clear hi); (try clear ho0); obtain ⟨Ao21, co21, eo21⟩ := Kd.V_slice HO353.out; subst eo21; obtain ⟨Ao22, co22, eo22⟩ := Kd.V_slice HO357.out; subst eo22) | ((with_reducible refine gate_callee (f := 34) rfl ?_); refine goesL_ (some 22) rfl rfl Tryd.func34 (by kernel_rfl) rfl #[.agg #[.bool t350, .slice Ao21 t351.length co21], .agg #[.bool t354, .slice Ao22 t355.length co22]] rfl (by (try simp only [List.map_toArray, List.map_cons, List.map_nil]); first | done | rfl | (simp only [List.length_drop, List.length_take]; rfl)) ?_; (with_reducible refine (pointillistref01_Mul.calls kj5 t350 _ _ t351 t354 _ _ t355 t358 t359 _ ?side1 ?side2 ?side3 ?side4 A11.out).mono ?_); (case side1 => exact cq (Kd.V_reads' HO353.out).2.2); (case side2 => exact (Kd.V_reads' HO353.out).2.1); (case side3 => exact cq (Kd.V_reads' HO357.out).2.2); (case side4 => exact (Kd.V_reads' HO357.out).2.1); rintro e w23 ⟨v360, rfl, ho0, hb⟩; refine ⟨_, rfl, ?_⟩; have n0_ := Aside0.mk (Kd.V_below (vq HO353.out) hb); have n1_ := Aside0.mk (Kd.V_below (vq HO357.out) hb); have n2_ := Aside0.mk (Kd.V_lower (Kd.V_mono (ok' := fun k_ => True) ho0 (fun k_ hk_ => trivial)) (below_size (wq HB.out))); have n3_ := Aside0.mk (below_step (wq HB.out) hb); clear HO353 HO357 HB; have HO353 := n0_; have HO357 := n1_; have HO361 := n2_; have HB := n3_; clear n0_ n1_ n2_ n3_; (try clear hb); (try clear hb2); (try clear hk); (try clear hi); (try clear ho0)) | ((with_reducible refine gate_callee (f := 35) rfl ?_); refine goesL_ (some 24) rfl rfl Tryd.func35 (by kernel_rfl) rfl #[.int .i64 a2] rfl (by (try simp only [List.map_toArray, List.map_cons, List.map_nil]); first | done | rfl | (simp only [List.length_drop, List.length_take]; rfl)) ?_; (with_reducible refine (pointillistref01_Of.calls kj5 a2 t362 t363 _ A12.out).mono ?_); rintro e w24 ⟨v364, rfl, ho0, hb⟩; refine ⟨_, rfl, ?_⟩; have n0_ := Aside0.mk (Kd.V_below (vq HO353.out) hb); have n1_ := Aside0.mk (Kd.V_below (vq HO357.out) hb); have n2_ := Aside0.mk (Kd.V_below (vq HO361.out) hb); have n3_ := Aside0.mk (Kd.V_lower (Kd.V_mono (ok' := fun k_ => True) ho0 (fun k_ hk_ => trivial)) (below_size (wq HB.out))); have n4_ := Aside0.mk (below_step (wq HB.out) hb); clear HO353 HO357 HO361 HB; have HO353 := n0_; have HO357 := n1_; have HO361 := n2_; have HO365 := n3_; have HB := n4_; clear n0_ n1_ n2_ n3_ n4_; (try clear hb); (try clear hb2); (try clear hk); (try clear hi); (try clear ho0)) | ((with_reducible refine gate_callee (f := 35) rfl ?_); refine goesL_ (some 26) rfl rfl Tryd.func35 (by kernel_rfl) rfl #[.int .i64 a3] rfl (by (try simp only [List.map_toArray, List.map_cons, List.map_nil]); first | done | rfl | (simp only [List.length_drop, List.length_take]; rfl)) ?_; (with_reducible refine (pointillistref01_Of.calls kj5 a3 t366 t367 _ A13.out).mono ?_); rintro e w25 ⟨v368, rfl, ho0, hb⟩; refine ⟨_, rfl, ?_⟩; have n0_ := Aside0.mk (Kd.V_below (vq HO353.out) hb); have n1_ := Aside0.mk (Kd.V_below (vq HO357.out) hb); have n2_ := Aside0.mk (Kd.V_below (vq HO361.out) hb); have n3_ := Aside0.mk (Kd.V_below (vq HO365.out) hb); have n4_ := Aside0.mk (Kd.V_lower (Kd.V_mono (ok' := fun k_ => True) ho0 (fun k_ hk_ => trivial)) (below_size (wq HB.out))); have n5_ := Aside0.mk (below_step (wq HB.out) hb); clear HO353 HO357 HO361 HO365; clear HB; have HO353 := n0_; have HO357 := n1_; have HO361 := n2_; have HO365 := n3_; have HO369 := n4_; have HB := n5_; clear n0_ n1_ n2_ n3_ n4_ n5_; (try clear hb); (try clear hb2); (try clear hk); (try clear hi); (try clear ho0); obtain ⟨Ao26, co26, eo26⟩ := Kd.V_slice HO365.out; subst eo26; obtain ⟨Ao27, co27, eo27⟩ := Kd.V_slice HO369.out; subst eo27) | ((with_reducible refine gate_callee (f := 34) rfl ?_); refine goesL_ (some 27) rfl rfl Tryd.func34 (by kernel_rfl) rfl #[.agg #[.bool t362, .slice Ao26 t363.length co26], .agg #[.bool t366, .slice Ao27 t367.length co27]] rfl (by (try simp only [List.map_toArray, List.map_cons, List.map_nil]); first | done | rfl | (simp only [List.length_drop, List.length_take]; rfl)) ?_; (with_reducible refine (pointillistref01_Mul.calls kj5 t362 _ _ t363 t366 _ _ t367 t370 t371 _ ?side1 ?side2 ?side3 ?side4 A14.out).mono ?_); (case side1 => exact cq (Kd.V_reads' HO365.out).2.2); (case side2 => exact (Kd.V_reads' HO365.out).2.1); (case side3 => exact cq (Kd.V_reads' HO369.out).2.2); (case side4 => exact (Kd.V_reads' HO369.out).2.1); rintro e w28 ⟨v372, rfl, ho0, hb⟩; refine ⟨_, rfl, ?_⟩; have n0_ := Aside0.mk (Kd.V_below (vq HO353.out) hb); have n1_ := Aside0.mk (Kd.V_below (vq HO357.out) hb); have n2_ := Aside0.mk (Kd.V_below (vq HO361.out) hb); have n3_ := Aside0.mk (Kd.V_below (vq HO365.out) hb); have n4_ := Aside0.mk (Kd.V_below (vq HO369.out) hb); have n5_ := Aside0.mk (Kd.V_lower (Kd.V_mono (ok' := fun k_ => True) ho0 (fun k_ hk_ => trivial)) (below_size (wq HB.out))); have n6_ := Aside0.mk (below_step (wq HB.out) hb); clear HO353 HO357 HO361 HO365; clear HO369 HB; have HO353 := n0_; have HO357 := n1_; have HO361 := n2_; have HO365 := n3_; have HO369 := n4_; have HO373 := n5_; have HB := n6_; clear n0_ n1_ n2_ n3_ n4_ n5_ n6_; (try clear hb); (try clear hb2); (try clear hk); (try clear hi); (try clear ho0); obtain ⟨Ao29, co29, eo29⟩ := Kd.V_slice HO361.out; subst eo29; obtain ⟨Ao30, co30, eo30⟩ := Kd.V_slice HO373.out; subst eo30) | ((with_reducible refine gate_callee (f := 33) rfl ?_); refine goesL_ (some 28) rfl rfl Tryd.func33 (by kernel_rfl) rfl #[.agg #[.bool t358, .slice Ao29 t359.length co29], .agg #[.bool t370, .slice Ao30 t371.length co30]] rfl (by (try simp only [List.map_toArray, List.map_cons, List.map_nil]); first | done | rfl | (simp only [List.length_drop, List.length_take]; rfl)) ?_; (with_reducible refine (pointillistref01_Add.calls kj5 t358 _ _ t359 t370 _ _ t371 t374 t375 _ ?side1 ?side2 ?side3 ?side4 A15.out).mono ?_); (case side1 => exact cq (Kd.V_reads' HO361.out).2.2); (case side2 => exact (Kd.V_reads' HO361.out).2.1); (case side3 => exact cq (Kd.V_reads' HO373.out).2.2); (case side4 => exact (Kd.V_reads' HO373.out).2.1); rintro e w31 ⟨v376, rfl, ho0, hb⟩; refine ⟨_, rfl, ?_⟩; have n0_ := Aside0.mk (Kd.V_below (vq HO353.out) hb); have n1_ := Aside0.mk (Kd.V_below (vq HO357.out) hb); have n2_ := Aside0.mk (Kd.V_below (vq HO361.out) hb); have n3_ := Aside0.mk (Kd.V_below (vq HO365.out) hb); have n4_ := Aside0.mk (Kd.V_below (vq HO369.out) hb); have n5_ := Aside0.mk (Kd.V_below (vq HO373.out) hb); have n6_ := Aside0.mk (Kd.V_lower (Kd.V_mono (ok' := fun k_ => True) ho0 (fun k_ hk_ => trivial)) (below_size (wq HB.out))); have n7_ := Aside0.mk (below_step (wq HB.out) hb); clear HO353 HO357 HO361 HO365; clear HO369 HO373 HB; have HO353 := n0_; have HO357 := n1_; have HO361 := n2_; have HO365 := n3_; have HO369 := n4_; have HO373 := n5_; have HO377 := n6_; have HB := n7_; clear n0_ n1_ n2_ n3_ n4_ n5_ n6_ n7_; (try clear hb); (try clear hb2); (try clear hk); (try clear hi); (try clear ho0)) | ((with_reducible refine gate_callee (f := 36) rfl ?_); refine goesL_ (some 30) rfl rfl Tryd.func36 (by kernel_rfl) rfl #[.int .i64 a4] rfl (by (try simp only [List.map_toArray, List.map_cons, List.map_nil]); first | done | rfl | (simp only [List.length_drop, List.length_take]; rfl)) ?_; (with_reducible refine (pointillistref01_Power.calls kj5 a4 t378 t379 _ A16.out).mono ?_); rintro e w32 ⟨v380, rfl, ho0, hb⟩; refine ⟨_, rfl, ?_⟩; have n0_ := Aside0.mk (Kd.V_elder' (vq HO353.out) (Kd.R_base ho0) hb); have n1_ := Aside0.mk (Kd.V_elder' (vq HO357.out) (Kd.R_base ho0) hb); have n2_ := Aside0.mk (Kd.V_elder' (vq HO361.out) (Kd.R_base ho0) hb); have n3_ := Aside0.mk (Kd.V_elder' (vq HO365.out) (Kd.R_base ho0) hb); have n4_ := Aside0.mk (Kd.V_elder' (vq HO369.out) (Kd.R_base ho0) hb); have n5_ := Aside0.mk (Kd.V_elder' (vq HO373.out) (Kd.R_base ho0) hb); have n6_ := Aside0.mk (Kd.V_elder' (vq HO377.out) (Kd.R_base ho0) hb); have n7_ := Aside0.mk (Kd.R_lower ho0 (below_size (wq HB.out))); have n8_ := Aside0.mk (below_step (wq HB.out) hb); clear HO353 HO357 HO361 HO365; clear HO369 HO373 HO377 HB; have HO353 := n0_; have HO357 := n1_; have HO361 := n2_; have HO365 := n3_; have HO369 := n4_; have HO373 := n5_; have HO377 := n6_; have HO381 := n7_; have HB := n8_; clear n0_ n1_ n2_ n3_ n4_ n5_ n6_ n7_ n8_; (try clear hb); (try clear hb2); (try clear hk); (try clear hi); (try clear ho0); obtain ⟨Ao33, co33, eo33⟩ := Kd.V_slice HO377.out; subst eo33; obtain ⟨Ao34, co34, eo34⟩ := Kd.R_slice HO381.out; subst eo34) | ((with_reducible refine gate_callee (f := 32) rfl ?_); refine goesL_ (some 31) rfl rfl Tryd.func32 (by kernel_rfl) rfl #[.agg #[.bool t374, .slice Ao33 t375.length co33], .agg #[.bool t378, .slice Ao34 t379.length co34]] rfl (by (try simp only [List.map_toArray, List.map_cons, List.map_nil]); first | done | rfl | (simp only [List.length_drop, List.length_take]; rfl)) ?_; (with_reducible refine (pointillistref01_Near.calls kj5 t374 _ _ t375 t378 _ _ t379 t382 t383 _ ?side1 ?side2 ?side3 ?side4 A17.out).mono ?_); (case side1 => exact cq (Kd.V_reads' HO377.out).2.2); (case side2 => exact (Kd.V_reads' HO377.out).2.1); (case side3 => exact cq (Kd.R_reads' HO381.out).2.2); (case side4 => exact (Kd.R_reads' HO381.out).2.1); rintro e w35 ⟨v384, rfl, ho0, hb⟩; refine ⟨_, rfl, ?_⟩; have n0_ := Aside0.mk (Kd.V_below (vq HO353.out) hb); have n1_ := Aside0.mk (Kd.V_below (vq HO357.out) hb); have n2_ := Aside0.mk (Kd.V_below (vq HO361.out) hb); have n3_ := Aside0.mk (Kd.V_below (vq HO365.out) hb); have n4_ := Aside0.mk (Kd.V_below (vq HO369.out) hb); have n5_ := Aside0.mk (Kd.V_below (vq HO373.out) hb); have n6_ := Aside0.mk (Kd.V_below (vq HO377.out) hb); have n7_ := Aside0.mk (Kd.R_below (rq HO381.out) hb); have n8_ := Aside0.mk (Kd.V_lower (Kd.V_mono (ok' := fun k_ => some k_ ≠ (.slice Ao34 t379.length co34 : Value).ownBlock) ho0 (fun k_ hk_ => (Kd.fresh' (Kd.R_lt (rq HO381.out)) k_ hk_))) (below_size (wq HB.out))); have n9_ := Aside0.mk (below_step (wq HB.out) hb); clear HO353 HO357 HO361 HO365; clear HO369 HO373 HO377 HO381; clear HB; have HO353 := n0_; have HO357 := n1_; have HO361 := n2_; have HO365 := n3_; have HO369 := n4_; have HO373 := n5_; have HO377 := n6_; have HO381 := n7_; have HO385 := n8_; have HB := n9_; clear n0_ n1_ n2_ n3_ n4_ n5_ n6_ n7_ n8_ n9_; (try clear hb); (try clear hb2); (try clear hk); (try clear hi); (try clear ho0); obtain ⟨Ao36, co36, eo36⟩ := Kd.V_slice HO385.out; subst eo36) | ((with_reducible refine gate_callee (f := 31) rfl ?_); refine goesL_ (some 32) rfl rfl Tryd.func31 (by kernel_rfl) rfl #[.agg #[.bool t382, .slice Ao36 t383.length co36]] rfl (by (try simp only [List.map_toArray, List.map_cons, List.map_nil]); first | done | rfl | (simp only [List.length_drop, List.length_take]; rfl)) ?_; (with_reducible refine (pointillistref01_Plain.calls kj5 t382 _ _ t383 t386 t387 _ ?side1 ?side2 A18.out).mono ?_); (case side1 => exact cq (Kd.V_reads' HO385.out).2.2); (case side2 => exact (Kd.V_reads' HO385.out).2.1); rintro e w37 ⟨rfl, hb⟩; refine ⟨_, rfl, ?_⟩; have n0_ := Aside0.mk (Kd.V_below (vq HO353.out) hb); have n1_ := Aside0.mk (Kd.V_below (vq HO357.out) hb); have n2_ := Aside0.mk (Kd.V_below (vq HO361.out) hb); have n3_ := Aside0.mk (Kd.V_below (vq HO365.out) hb); have n4_ := Aside0.mk (Kd.V_below (vq HO369.out) hb); have n5_ := Aside0.mk (Kd.V_below (vq HO373.out) hb); have n6_ := Aside0.mk (Kd.V_below (vq HO377.out) hb); have n7_ := Aside0.mk (Kd.R_below (rq HO381.out) hb); have n8_ := Aside0.mk (Kd.V_below (vq HO385.out) hb); have n9_ := Aside0.mk (below_step (wq HB.out) hb); clear HO353 HO357 HO361 HO365; clear HO369 HO373 HO377 HO381; clear HO385 HB; have HO353 := n0_; have HO357 := n1_; have HO361 := n2_; have HO365 := n3_; have HO369 := n4_; have HO373 := n5_; have HO377 := n6_; have HO381 := n7_; have HO385 := n8_; have HB := n9_; clear n0_ n1_ n2_ n3_ n4_ n5_ n6_ n7_ n8_ n9_; (try clear hb); (try clear hb2); (try clear hk); (try clear hi)))
    go_ret2
    exact ⟨by first | rfl | (simp [errW_none, errW_some] <;> rfl) | (simp [*, errW_none, errW_some] <;> rfl), by exact wq HB.out⟩
end Go.Proofs.YtbnjgaeeojcjbaaDoor.PR
namespace Go.Proofs.YtbnjgaeeojcjbaaDoor.PR
open Go.RowKit Go.Proofs.YtbnjgaeeojcjbaaDoorW.PrintWords Go.Proofs.YtbnjgaeeojcjbaaDoorW.PrintLast Go.Proofs.YtbnjgaeeojcjbaaDoorW.PrintMore
theorem w64' (n : Int) (h : -9223372036854775808 ≤ n) (h2 : n < 9223372036854775808) : wrap64 n = n := by
  have : wrap64 n = (n + 9223372036854775808) % 18446744073709551616 - 9223372036854775808 := by unfold wrap64; rfl
  rw [this]; omega
theorem rd_end (l : List Int) (i : Nat) (h : l.length ≤ i) : rd l (i : Int) = 0 := by
  unfold rd
  rw [Int.toNat_natCast, List.getD_eq_getElem?_getD, List.getElem?_eq_none h]
  rfl
theorem rd_ok' {l : List Int} (h : Okd l) (i : Nat) : 0 ≤ rd l (i : Int) ∧ rd l (i : Int) < 65536 := by
  by_cases hi : i < l.length
  · exact rd_ok h hi
  · rw [rd_end l i (by omega)]; decide
theorem val_drop' (l : List Int) (i : Nat) : val (l.drop i) = (rd l (i : Int)).toNat + 65536 * val (l.drop (i + 1)) := by
  by_cases hi : i < l.length
  · exact val_drop l i hi
  · rw [rd_end l i (by omega), val_drop_len l i (by omega), val_drop_len l (i + 1) (by omega)]; rfl
theorem rd_snoc (l : List Int) (a : Int) : rd (l ++ [a]) (l.length : Int) = a := by
  unfold rd
  rw [Int.toNat_natCast, List.getD_eq_getElem?_getD, List.getElem?_append_right (Nat.le_refl _), Nat.sub_self]
  rfl
theorem trim_ev (n : Nat) : ∀ l : List Int, l.length = n → l.length < 4611686018427387904 → Okd l → Ev (fun k => pointillistref01_trim.f k l) (dg (val l)) := by
  induction n with
  | zero =>
    intro l hl _ _
    have : l = [] := List.length_eq_zero_iff.mp hl
    subst this
    refine Ev.step (f := fun _ => some []) (fun k => rfl) ?_
    show Ev _ (dg 0)
    rw [dg_0]
    exact Ev.now _
  | succ n ih =>
    intro l hl hb ho
    rcases List.eq_nil_or_concat l with rfl | ⟨l', a, rfl⟩
    · cases hl
    rw [List.concat_eq_append] at *
    have hl' : l'.length = n := by simpa using hl
    have e1 : ((l' ++ [a]).length : Int) = (l'.length : Int) + 1 := by simp
    have e2 : wrap64 (((l' ++ [a]).length : Int) - 1) = (l'.length : Int) := by
      rw [e1, w64' _ (by omega) (by rw [List.length_append] at hb; simp at hb; omega)]; omega
    by_cases ha : a = 0
    · subst ha
      have hv : val (l' ++ [0]) = val l' := by rw [val_snoc]; simp
      rw [hv]
      refine Ev.step (f := fun k => pointillistref01_trim.f k l') (fun k => ?_) (ih l' hl' (by omega) ho.left)
      show pointillistref01_trim.l0 (k + 1) _ = pointillistref01_trim.l0 k _
      unfold pointillistref01_trim.l0
      rw [e2, rd_snoc, if_pos (by rw [e1]; omega), if_pos (by omega), if_pos (by rw [e1]; omega), if_pos rfl, if_pos (by rw [e1]; omega)]
      rw [Int.toNat_natCast, List.take_left]
      cases k <;> rfl
    · have hv : dg (val (l' ++ [a])) = l' ++ [a] := dg_val _ ho (by intro b hb2; rw [List.getLast?_append] at hb2; simp at hb2; rw [← hb2]; exact ha)
      rw [hv]
      refine Ev.step (f := fun k => some (l' ++ [a])) (fun k => ?_) (Ev.now _)
      show pointillistref01_trim.l0 (k + 1) _ = _
      unfold pointillistref01_trim.l0
      rw [e2, rd_snoc, if_pos (by rw [e1]; omega), if_pos (by omega), if_pos (by rw [e1]; omega), if_neg ha]
theorem trim_eq {l : List Int} {n : Nat} (hv : val l = n) (hl : l.length < 4611686018427387904) (h : Okd l) : Ev (fun k => pointillistref01_trim.f k l) (dg n) := by
  rw [← hv]; exact trim_ev _ l rfl hl h
theorem plus_step (a b o : List Int) (c : Int) (i : Nat) (ha : Okd a) (hb : Okd b) (hc : 0 ≤ c) (hc1 : c ≤ 1) (hi : i < 4611686018427387904) (ho : o.length < 17592186044416)
    (hgo : (i : Int) < (a.length : Int) ∨ (i : Int) < (b.length : Int) ∨ 0 < c) (k : Nat) :
    pointillistref01_plus.l0 (k + 1 + 1) a b o c (i : Int) = pointillistref01_plus.l0 k a b (o ++ [(c + rd a i + rd b i) % 65536]) ((c + rd a i + rd b i) / 65536) ((i + 1 : Nat) : Int) := by
  have h1 := rd_ok' ha i
  have h2 := rd_ok' hb i
  have e0 : wrap64 ((i : Int) + 1) = ((i + 1 : Nat) : Int) := by rw [w64' _ (by omega) (by omega)]; omega
  have hj : pointillistref01_plus.l0 (k + 1 + 1) a b o c (i : Int) = pointillistref01_plus.j1 (k + 1) a b o c (i : Int) true := by
    rw [pointillistref01_plus.l0]
    by_cases g1 : (i : Int) < (a.length : Int)
    · rw [if_pos g1]
    · rw [if_neg g1]
      by_cases g2 : (i : Int) < (b.length : Int)
      · rw [if_pos g2]
      · rw [if_neg g2]
        have : decide (c > 0) = true := by rcases hgo with h | h | h; exact absurd h g1; exact absurd h g2; exact decide_eq_true h
        rw [this]
  rw [hj, pointillistref01_plus.j1, if_pos rfl, if_pos ho, if_pos ho, if_pos ho, if_pos ho, e0]
  have m1 : ∀ x : Int, 0 ≤ x → Int.tmod x 65536 = x % 65536 := fun x hx => Int.tmod_eq_emod_of_nonneg hx
  have m2 : ∀ x : Int, 0 ≤ x → x < 4611686018427387904 → wrap64 (Int.tdiv x 65536) = x / 65536 := fun x hx h => by rw [Int.tdiv_eq_ediv_of_nonneg hx, w64' _ (by omega) (by omega)]
  by_cases g1 : (i : Int) < (a.length : Int)
  · rw [if_pos g1, if_pos (by omega)]
    rw [w64' (c + rd a i) (by omega) (by omega)]
    by_cases g2 : (i : Int) < (b.length : Int)
    · rw [if_pos g2, w64' (c + rd a i + rd b i) (by omega) (by omega), m1 _ (by omega), m2 _ (by omega) (by omega)]
    · rw [if_neg g2, m1 _ (by omega), m2 _ (by omega) (by omega), rd_end b i (by omega), Int.add_zero]
  · rw [if_neg g1, rd_end a i (by omega), Int.add_zero]
    by_cases g2 : (i : Int) < (b.length : Int)
    · rw [if_pos g2, if_pos (by omega), w64' (c + rd b i) (by omega) (by omega), m1 _ (by omega), m2 _ (by omega) (by omega)]
    · rw [if_neg g2, m1 _ (by omega), m2 _ (by omega) (by omega), rd_end b i (by omega), Int.add_zero]
theorem plus_end (a b o : List Int) (c : Int) (i : Nat) (hgo : ¬((i : Int) < (a.length : Int) ∨ (i : Int) < (b.length : Int) ∨ 0 < c)) (k : Nat) :
    pointillistref01_plus.l0 (k + 1 + 1) a b o c (i : Int) = (pointillistref01_trim.f k o).bind fun t => some t := by
  rw [pointillistref01_plus.l0, if_neg (fun h => hgo (.inl h)), if_neg (fun h => hgo (.inr (.inl h))), decide_eq_false (fun h => hgo (.inr (.inr h))), pointillistref01_plus.j1, if_neg (by decide)]
theorem ev_some {α : Type} {g : Nat → Option α} {r : α} (h : Ev g r) : Ev (fun k => (g k).bind fun t => some t) r := Ev.bind h (Ev.now _)
theorem ev_step2 {α : Type} {g f : Nat → Option α} {r : α} (h : ∀ k, g (k + 1 + 1) = f k) (k : Ev f r) : Ev g r :=
  Ev.step (f := fun k => g (k + 1)) (fun _ => rfl) (Ev.step (f := f) h k)
theorem pow_up (P x A y z : Nat) (h : x + 65536 * y = z) : A + P * x + P * 65536 * y = A + P * z := by
  rw [← h, Nat.mul_add, Nat.mul_assoc]; omega
theorem plus_loop (a b : List Int) (ha : Okd a) (hb : Okd b) (hla : a.length ≤ 1073741824) (hlb : b.length ≤ 1073741824) (R : Nat) :
    ∀ (d i : Nat) (o : List Int) (c : Int), i + d = max a.length b.length + 1 → 0 ≤ c → c ≤ 1 → (d = 0 → c = 0) → Okd o → o.length = i →
      val o + 65536 ^ i * (c.toNat + val (a.drop i) + val (b.drop i)) = R → Ev (fun k => pointillistref01_plus.l0 k a b o c (i : Int)) (dg R) := by
  intro d
  induction d with
  | zero =>
    intro i o c hi hc hc1 hd ho hol hR
    refine ev_step2 (plus_end a b o c i (by have := hd rfl; omega)) (ev_some (trim_eq ?_ (by omega) ho))
    rw [val_drop_len a i (by omega), val_drop_len b i (by omega), hd rfl] at hR
    simpa using hR
  | succ d ih =>
    intro i o c hi hc hc1 hd ho hol hR
    by_cases hgo : (i : Int) < (a.length : Int) ∨ (i : Int) < (b.length : Int) ∨ 0 < c
    · refine ev_step2 (plus_step a b o c i ha hb hc hc1 (by omega) (by omega) hgo) ?_
      have h1 := rd_ok' ha i
      have h2 := rd_ok' hb i
      refine ih (i + 1) _ _ (by omega) (by omega) (by omega) ?_ (ho.snoc (by omega) (by omega)) (by simp [hol]) ?_
      · intro hd0
        rw [rd_end a i (by omega), rd_end b i (by omega)]
        omega
      · rw [val_snoc, hol, Nat.pow_succ, ← hR]
        exact pow_up _ _ _ _ _ (by rw [val_drop' a i, val_drop' b i]; omega)
    · refine ev_step2 (plus_end a b o c i hgo) (ev_some (trim_eq ?_ (by omega) ho))
      rw [val_drop_len a i (by omega), val_drop_len b i (by omega)] at hR
      have : c.toNat = 0 := by omega
      rw [this] at hR
      simpa using hR
theorem plus_row (a b : List Int) (ha : Okd a) (hb : Okd b) (hla : a.length ≤ 1073741824) (hlb : b.length ≤ 1073741824) :
    Ev (fun k => pointillistref01_plus.f k a b) (dg (val a + val b)) :=
  plus_loop a b ha hb hla hlb _ (max a.length b.length + 1) 0 [] 0 (by omega) (by decide) (by decide) (by omega) Okd.nil rfl (by simp [val])
theorem plus_ev (m n : Nat) (hm : (dg m).length ≤ 1073741824) (hn : (dg n).length ≤ 1073741824) : Ev (fun k => pointillistref01_plus.f k (dg m) (dg n)) (dg (m + n)) := by
  have := plus_row (dg m) (dg n) (dg_ok m) (dg_ok n) hm hn
  rwa [val_dg, val_dg] at this
theorem take_snoc (l : List Int) (i : Nat) (h : i < l.length) : l.take (i + 1) = l.take i ++ [rd l (i : Int)] := by
  rw [List.take_add_one]
  unfold rd
  rw [Int.toNat_natCast, List.getD_eq_getElem?_getD, List.getElem?_eq_getElem h]
  rfl
theorem val_take_succ (l : List Int) (i : Nat) (h : i < l.length) : val (l.take (i + 1)) = val (l.take i) + 65536 ^ i * (rd l (i : Int)).toNat := by
  rw [take_snoc l i h, val_snoc, List.length_take, Nat.min_eq_left (by omega)]
theorem Okd.take {l : List Int} (h : Okd l) (n : Nat) : Okd (l.take n) := fun b hb => h b (List.mem_of_mem_take hb)
theorem val_take_lt {l : List Int} (h : Okd l) {i : Nat} (hi : i ≤ l.length) : val (l.take i) < 65536 ^ i := by
  have := val_lt _ (h.take i)
  rwa [List.length_take, Nat.min_eq_left hi] at this
theorem digit_lt {P x y a b : Nat} (hx : x < P) (_hy : y < P) (hab : a < b) : x + P * a < y + P * b := by
  have : P * a + P ≤ P * b := by rw [← Nat.mul_succ]; exact Nat.mul_le_mul_left P hab
  omega
theorem less_loop (a b : List Int) (ha : Okd a) (hb : Okd b) (hl : a.length = b.length) (hla : a.length ≤ 1073741824) :
    ∀ j, j ≤ a.length → Ev (fun k => pointillistref01_less.l0 k a b ((j : Int) - 1)) (decide (val (a.take j) < val (b.take j))) := by
  intro j
  induction j with
  | zero =>
    intro _
    refine Ev.step (f := fun _ => some false) (fun k => ?_) ?_
    · rw [pointillistref01_less.l0, if_neg (by decide)]
    · exact Ev.now _
  | succ j ih =>
    intro hj
    have e0 : ((j + 1 : Nat) : Int) - 1 = (j : Int) := by omega
    have h1 := rd_ok ha (show j < a.length by omega)
    have h2 := rd_ok hb (show j < b.length by omega)
    have t1 := val_take_lt ha (show j ≤ a.length by omega)
    have t2 := val_take_lt hb (show j ≤ b.length by omega)
    rw [e0, val_take_succ a j (by omega), val_take_succ b j (by omega)]
    by_cases he : rd a (j : Int) = rd b (j : Int)
    · have e1 : decide (val (a.take j) + 65536 ^ j * (rd a (j : Int)).toNat < val (b.take j) + 65536 ^ j * (rd b (j : Int)).toNat) = decide (val (a.take j) < val (b.take j)) := by
        rw [he, Bool.eq_iff_iff, decide_eq_true_eq, decide_eq_true_eq]; omega
      rw [e1]
      refine Ev.step (f := fun k => pointillistref01_less.l0 k a b ((j : Int) - 1)) (fun k => ?_) (ih (by omega))
      rw [pointillistref01_less.l0, if_pos (by omega), if_pos (by omega), if_pos (by omega), if_pos (by omega), if_pos he, w64' _ (by omega) (by omega)]
    · refine Ev.step (f := fun k => some (decide (rd a (j : Int) < rd b (j : Int)))) (fun k => ?_) ?_
      · rw [pointillistref01_less.l0, if_pos (by omega), if_pos (by omega), if_pos (by omega), if_pos (by omega), if_neg he]
      · have e1 : decide (val (a.take j) + 65536 ^ j * (rd a (j : Int)).toNat < val (b.take j) + 65536 ^ j * (rd b (j : Int)).toNat) = decide (rd a (j : Int) < rd b (j : Int)) := by
          rw [Bool.eq_iff_iff, decide_eq_true_eq, decide_eq_true_eq]
          constructor
          · intro h
            refine Int.lt_of_not_ge fun hge => ?_
            have := digit_lt t2 t1 (show (rd b (j : Int)).toNat < (rd a (j : Int)).toNat by omega)
            omega
          · intro h
            exact digit_lt t1 t2 (by omega)
        rw [e1]
        exact Ev.now _
theorem less_row (a b : List Int) (ha : Okd a) (hb : Okd b) (hl : a.length = b.length) (hla : a.length ≤ 1073741824) :
    Ev (fun k => pointillistref01_less.f k a b) (decide (val a < val b)) := by
  have := less_loop a b ha hb hl hla a.length (Nat.le_refl _)
  rw [List.take_length, hl, List.take_length] at this
  refine Ev.congr (fun k => ?_) this
  rw [pointillistref01_less.f, if_pos (by omega), w64' _ (by omega) (by omega), hl]
theorem dg_len_low {n : Nat} (h : 0 < n) : 65536 ^ ((dg n).length - 1) ≤ n := by
  refine Nat.le_of_not_lt fun hn => ?_
  have := dg_len hn
  have := (dg_len_pos n).mpr h
  omega
theorem dg_len_lt {m n : Nat} (h : (dg m).length < (dg n).length) : m < n := by
  have h1 := val_lt _ (dg_ok m)
  rw [val_dg] at h1
  have h2 := dg_len_low (n := n) ((dg_len_pos n).mp (by omega))
  have h3 : 65536 ^ (dg m).length ≤ 65536 ^ ((dg n).length - 1) := Nat.pow_le_pow_right (by decide) (by omega)
  omega
theorem dg_len_mono {m n : Nat} (h : m ≤ n) : (dg m).length ≤ (dg n).length := Nat.le_of_not_lt fun hl => by have := dg_len_lt hl; omega
theorem less_ev (m n : Nat) (hm : (dg m).length ≤ 1073741824) (_hn : (dg n).length ≤ 1073741824) : Ev (fun k => pointillistref01_less.f k (dg m) (dg n)) (decide (m < n)) := by
  by_cases hl : (dg m).length = (dg n).length
  · have := less_row (dg m) (dg n) (dg_ok m) (dg_ok n) hl hm
    rwa [val_dg, val_dg] at this
  · have e : decide (m < n) = decide (((dg m).length : Int) < ((dg n).length : Int)) := by
      rw [Bool.eq_iff_iff, decide_eq_true_eq, decide_eq_true_eq]
      constructor
      · intro h; have := dg_len_mono (show m ≤ n by omega); omega
      · intro h; exact dg_len_lt (by omega)
    rw [e]
    refine Ev.congr (fun k => ?_) (Ev.now _)
    rw [pointillistref01_less.f, if_neg (by omega)]
theorem minus_step (a b o : List Int) (c : Int) (i : Nat) (ha : Okd a) (hb : Okd b) (hc : 0 ≤ c) (hc1 : c ≤ 1) (hi : i < 4611686018427387904) (ho : o.length < 17592186044416)
    (hgo : (i : Int) < (a.length : Int)) (k : Nat) :
    pointillistref01_minus.l0 (k + 1) a b o c (i : Int) = pointillistref01_minus.l0 k a b (o ++ [(rd a i - c - rd b i) % 65536]) (if rd a i - c - rd b i < 0 then 1 else 0) ((i + 1 : Nat) : Int) := by
  have h1 := rd_ok' ha i
  have h2 := rd_ok' hb i
  have e0 : wrap64 ((i : Int) + 1) = ((i + 1 : Nat) : Int) := by rw [w64' _ (by omega) (by omega)]; omega
  rw [pointillistref01_minus.l0, if_pos hgo, if_pos (by omega), if_pos ho, if_pos ho, if_pos ho, if_pos ho, e0, w64' (rd a i - c) (by omega) (by omega)]
  have key : ∀ x : Int, -65536 ≤ x → x < 65536 → (if x < 0 then pointillistref01_minus.l0 k a b (o ++ [wrap64 (x + 65536)]) 1 ((i + 1 : Nat) : Int) else pointillistref01_minus.l0 k a b (o ++ [x]) 0 ((i + 1 : Nat) : Int)) =
      pointillistref01_minus.l0 k a b (o ++ [x % 65536]) (if x < 0 then 1 else 0) ((i + 1 : Nat) : Int) := by
    intro x hx hx1
    by_cases hn : x < 0
    · rw [if_pos hn, if_pos hn, w64' _ (by omega) (by omega)]
      have : x + 65536 = x % 65536 := by omega
      rw [this]
    · rw [if_neg hn, if_neg hn]
      have : x % 65536 = x := by omega
      rw [this]
  by_cases g2 : (i : Int) < (b.length : Int)
  · rw [if_pos g2, w64' (rd a i - c - rd b i) (by omega) (by omega)]
    exact key _ (by omega) (by omega)
  · rw [if_neg g2, rd_end b i (by omega), Int.sub_zero]
    exact key _ (by omega) (by omega)
theorem minus_loop (a b : List Int) (ha : Okd a) (hb : Okd b) (hla : a.length ≤ 1073741824) (R : Nat) :
    ∀ (d i : Nat) (o : List Int) (c : Int), i + d = a.length → 0 ≤ c → c ≤ 1 → Okd o → o.length = i →
      val o + 65536 ^ i * val (a.drop i) = R + 65536 ^ i * (c.toNat + val (b.drop i)) → Ev (fun k => pointillistref01_minus.l0 k a b o c (i : Int)) (dg R) := by
  intro d
  induction d with
  | zero =>
    intro i o c hi hc hc1 ho hol hR
    refine Ev.step (f := fun k => (pointillistref01_trim.f k o).bind fun t => some t) (fun k => ?_) (ev_some (trim_eq ?_ (by omega) ho))
    · rw [pointillistref01_minus.l0, if_neg (by omega)]
    · rw [val_drop_len a i (by omega), Nat.mul_zero, Nat.add_zero] at hR
      have h1 := val_lt o ho
      rw [hol] at h1
      rcases Nat.eq_zero_or_pos (c.toNat + val (b.drop i)) with h | h
      · rw [h] at hR; simpa using hR
      · have := Nat.le_mul_of_pos_right (65536 ^ i) h
        omega
  | succ d ih =>
    intro i o c hi hc hc1 ho hol hR
    have h1 := rd_ok' ha i
    have h2 := rd_ok' hb i
    refine Ev.step (minus_step a b o c i ha hb hc hc1 (by omega) (by omega) (by omega)) ?_
    refine ih (i + 1) _ _ (by omega) (by split <;> omega) (by split <;> omega) (ho.snoc (by omega) (by omega)) (by simp [hol]) ?_
    rw [val_snoc, hol, Nat.pow_succ]
    rw [val_drop' a i, val_drop' b i] at hR
    have e1 : ((rd a i - c - rd b i) % 65536).toNat + c.toNat + (rd b i).toNat = (rd a i).toNat + 65536 * (if rd a i - c - rd b i < 0 then (1 : Int) else 0).toNat := by split <;> omega
    revert hR e1
    generalize (rd a (i : Int)).toNat = ra
    generalize (rd b (i : Int)).toNat = rb
    generalize (if rd a (i : Int) - c - rd b i < 0 then (1 : Int) else 0).toNat = c2
    generalize ((rd a (i : Int) - c - rd b i) % 65536).toNat = y
    generalize c.toNat = c1
    generalize val (a.drop (i + 1)) = A
    generalize val (b.drop (i + 1)) = B
    generalize 65536 ^ i = P
    intro hR e1
    have e2 := congrArg (P * ·) e1
    simp only [Nat.mul_add, ← Nat.mul_assoc] at hR e2 ⊢
    omega
theorem minus_ev (m n : Nat) (hm : (dg m).length ≤ 1073741824) (h : n ≤ m) : Ev (fun k => pointillistref01_minus.f k (dg m) (dg n)) (dg (m - n)) :=
  minus_loop (dg m) (dg n) (dg_ok m) (dg_ok n) hm (m - n) (dg m).length 0 [] 0 (by omega) (by decide) (by decide) Okd.nil rfl (by
    show 0 + 65536 ^ 0 * val (dg m) = m - n + 65536 ^ 0 * (0 + val (dg n))
    rw [val_dg, val_dg]; omega)
theorem dg_len_mul {m n a b : Nat} (hm : (dg m).length ≤ a) (hn : (dg n).length ≤ b) : (dg (m * n)).length ≤ a + b := by
  refine dg_len ?_
  have h1 := val_lt _ (dg_ok m)
  have h2 := val_lt _ (dg_ok n)
  rw [val_dg] at h1 h2
  have h3 : 65536 ^ (dg m).length ≤ 65536 ^ a := Nat.pow_le_pow_right (by decide) hm
  have h4 : 65536 ^ (dg n).length ≤ 65536 ^ b := Nat.pow_le_pow_right (by decide) hn
  rw [Nat.pow_add]
  rcases Nat.eq_zero_or_pos n with h0 | h0
  · rw [h0, Nat.mul_zero]; exact Nat.mul_pos (by omega) (by omega)
  · calc m * n < 65536 ^ a * n := Nat.mul_lt_mul_of_pos_right (by omega) h0
      _ ≤ 65536 ^ a * 65536 ^ b := Nat.mul_le_mul_left _ (by omega)
theorem dg_len_add {m n a : Nat} (hm : (dg m).length ≤ a) (hn : (dg n).length ≤ a) : (dg (m + n)).length ≤ a + 1 := by
  refine dg_len ?_
  have h1 := val_lt _ (dg_ok m)
  have h2 := val_lt _ (dg_ok n)
  rw [val_dg] at h1 h2
  have h3 : 65536 ^ (dg m).length ≤ 65536 ^ a := Nat.pow_le_pow_right (by decide) hm
  have h4 : 65536 ^ (dg n).length ≤ 65536 ^ a := Nat.pow_le_pow_right (by decide) hn
  rw [Nat.pow_succ]
  omega
def addFlag (g h : Bool) (m n : Nat) : Bool := if g = h then g else if m < n then h else g
def addSize (g h : Bool) (m n : Nat) : Nat := if g = h then m + n else if m < n then n - m else m - n
theorem add_ev (g h : Bool) (m n : Nat) (hm : (dg m).length ≤ 1073741824) (hn : (dg n).length ≤ 1073741824) :
    Ev (fun k => pointillistref01_Add.f k g (dg m) h (dg n)) (addFlag g h m n, dg (addSize g h m n)) := by
  unfold addFlag addSize
  by_cases hg : g = h
  · subst hg
    rw [if_pos rfl, if_pos rfl]
    refine Ev.congr (fun k => ?_) (Ev.bind (plus_ev m n hm hn) (f := fun _ t => some (g, t)) (Ev.now _))
    rw [pointillistref01_Add.f, if_pos (by simp)]
  · rw [if_neg hg, if_neg hg]
    by_cases hl : m < n
    · rw [if_pos hl, if_pos hl]
      have h1 := less_ev m n hm hn
      rw [decide_eq_true hl] at h1
      refine Ev.congr (fun k => ?_) (Ev.bind h1 (f := fun k t => if t = true then ((pointillistref01_minus.f k (dg n) (dg m)).bind fun t => some (h, t)) else ((pointillistref01_minus.f k (dg m) (dg n)).bind fun t => some (g, t)))
        (Ev.congr (fun k => if_pos rfl) (Ev.bind (minus_ev n m hn (by omega)) (f := fun _ t => some (h, t)) (Ev.now _))))
      rw [pointillistref01_Add.f, if_neg (by simp [hg])]
    · rw [if_neg hl, if_neg hl]
      have h1 := less_ev m n hm hn
      rw [decide_eq_false hl] at h1
      refine Ev.congr (fun k => ?_) (Ev.bind h1 (f := fun k t => if t = true then ((pointillistref01_minus.f k (dg n) (dg m)).bind fun t => some (h, t)) else ((pointillistref01_minus.f k (dg m) (dg n)).bind fun t => some (g, t)))
        (Ev.congr (fun k => if_neg (by decide)) (Ev.bind (minus_ev m n hm (by omega)) (f := fun _ t => some (g, t)) (Ev.now _))))
      rw [pointillistref01_Add.f, if_neg (by simp [hg])]
def sgn (g : Bool) (m : Nat) : Int := if g then -(m : Int) else (m : Int)
theorem add_sgn (g h : Bool) (m n : Nat) : sgn (addFlag g h m n) (addSize g h m n) = sgn g m + sgn h n := by
  unfold sgn addFlag addSize
  by_cases hl : m < n
  · rw [if_pos hl, if_pos hl]
    cases g <;> cases h <;> simp <;> omega
  · rw [if_neg hl, if_neg hl]
    cases g <;> cases h <;> simp <;> omega
theorem addSize_le (g h : Bool) (m n : Nat) : addSize g h m n ≤ m + n := by
  unfold addSize; split
  · omega
  · split <;> omega
theorem set_at (j : Nat) (q : List Int) (y : Int) : (List.replicate (j + 1) 0 ++ q).set j y = List.replicate j 0 ++ (y :: q) := by
  rw [List.replicate_succ', List.append_assoc, List.set_append_right _ _ (by simp)]
  simp
theorem half_loop (a : List Int) (ha : Okd a) (hla : a.length ≤ 1073741824) (R : Nat) (r : Int) :
    ∀ (j : Nat) (q : List Int) (c : Int), j ≤ a.length → 0 ≤ c → c ≤ 1 → Okd q → j + q.length = a.length →
      2 * val q + c.toNat = val (a.drop j) → val a / 2 = R → ((val a % 2 : Nat) : Int) = r → Ev (fun k => pointillistref01_half.l0 k a (List.replicate j 0 ++ q) c ((j : Int) - 1)) (dg R, r) := by
  intro j
  induction j with
  | zero =>
    intro q c _ hc hc1 hq hl hv hR hr
    rw [List.drop_zero] at hv
    have e1 : c = r := by omega
    refine Ev.step (f := fun k => (pointillistref01_trim.f k q).bind fun t => some (t, c)) (fun k => ?_) ?_
    · rw [pointillistref01_half.l0, if_neg (by decide)]; rfl
    · rw [e1]
      exact Ev.bind (trim_eq (by omega) (by omega) hq) (f := fun _ t => some (t, r)) (Ev.now _)
  | succ j ih =>
    intro q c hj hc hc1 hq hl hv hR hr
    have h1 := rd_ok' ha j
    have e0 : ((j + 1 : Nat) : Int) - 1 = (j : Int) := by omega
    rw [e0]
    refine Ev.step (f := fun k => pointillistref01_half.l0 k a (List.replicate j 0 ++ (((c * 65536 + rd a j) / 2) :: q)) ((c * 65536 + rd a j) % 2) ((j : Int) - 1)) (fun k => ?_) ?_
    · rw [pointillistref01_half.l0, if_pos (by omega), if_pos (by omega), if_pos (by omega), if_pos (by simp; omega), Int.toNat_natCast, set_at]
      rw [w64' (c * 65536) (by omega) (by omega), w64' (c * 65536 + rd a j) (by omega) (by omega), Int.tdiv_eq_ediv_of_nonneg (by omega), Int.tmod_eq_emod_of_nonneg (by omega), w64' ((c * 65536 + rd a j) / 2) (by omega) (by omega), w64' ((j : Int) - 1) (by omega) (by omega)]
    · refine ih _ _ (by omega) (by omega) (by omega) (Okd.cons (by omega) (by omega) hq) (by simp; omega) ?_ hR hr
      rw [val_drop' a j, ← hv]
      show 2 * (((c * 65536 + rd a j) / 2).toNat + 65536 * val q) + ((c * 65536 + rd a j) % 2).toNat = _
      omega
theorem half_ev (m : Nat) (hm : (dg m).length ≤ 1073741824) : Ev (fun k => pointillistref01_half.f k (dg m)) (dg (m / 2), ((m % 2 : Nat) : Int)) := by
  have := half_loop (dg m) (dg_ok m) hm (m / 2) _ (dg m).length [] 0 (Nat.le_refl _) (by decide) (by decide) Okd.nil rfl (by rw [val_drop_len _ _ (Nat.le_refl _)]; rfl) (by rw [val_dg]) rfl
  rw [val_dg, List.append_nil] at this
  refine Ev.congr (fun k => ?_) this
  rw [pointillistref01_half.f, if_pos (by omega), if_pos (by omega), Int.toNat_natCast, w64' _ (by omega) (by omega)]
def bv : List Int → Nat
  | [] => 0
  | a :: l => a.toNat + 2 * bv l
def Okb (l : List Int) : Prop := ∀ a ∈ l, 0 ≤ a ∧ a < 2
theorem bv_app (l r : List Int) : bv (l ++ r) = bv l + 2 ^ l.length * bv r := by
  induction l with
  | nil => simp [bv]
  | cons a l ih =>
    show a.toNat + 2 * bv (l ++ r) = a.toNat + 2 * bv l + 2 ^ (l.length + 1) * bv r
    rw [ih, Nat.pow_succ, Nat.mul_add, Nat.add_assoc]
    congr 2
    rw [← Nat.mul_assoc]
    congr 1
    rw [Nat.mul_comm]
theorem dg1 : ([1] : List Int) = dg 1 := by rw [dg_pos (by decide)]; show _ = _ :: dg 0; rw [dg_0]; rfl
theorem floor_top (A C : Nat) (g : Bool) (hA : (dg A).length ≤ 1073741800) (hC0 : 0 < C) (hC : (dg C).length ≤ 1073741800) (bits : List Int) (hb : Okb bits) (hbl : bits.length < 4611686018427387904) (hv : bv bits = A) (L : List Int) :
    ∀ (j Q R : Nat), j ≤ bits.length → Q * C + R = bv (bits.drop j) → R < C →
      Ev (fun k => pointillistref01_Floor.l1 k (dg C) bits (dg Q) (dg R) ((j : Int) - 1) g L) (if g = true ∧ A % C ≠ 0 then (decide (0 < A / C + 1), dg (A / C + 1)) else (decide (g = true ∧ 0 < A / C), dg (A / C))) := by
  intro j
  induction j with
  | zero =>
    intro Q R _ hqr hr
    rw [List.drop_zero, hv] at hqr
    have e1 : A / C = Q := by rw [← hqr, Nat.add_comm, Nat.add_mul_div_right _ _ hC0, Nat.div_eq_of_lt hr, Nat.zero_add]
    have e2 : A % C = R := by rw [← hqr, Nat.add_comm, Nat.add_mul_mod_self_right, Nat.mod_eq_of_lt hr]
    rw [e1, e2]
    have hQ : (dg Q).length ≤ 1073741800 := Nat.le_trans (dg_len_mono (by rw [← e1]; exact Nat.div_le_self _ _)) hA
    cases g with
    | false =>
      refine Ev.step (f := fun k => some (false, dg Q)) (fun k => ?_) ?_
      · rw [pointillistref01_Floor.l1, if_neg (by decide), if_neg (by decide)]
      · rw [if_neg (by simp), decide_eq_false (by simp)]; exact Ev.now _
    | true =>
      by_cases h0 : R = 0
      · subst h0
        refine Ev.step (f := fun k => some (decide (0 < (dg Q).length), dg Q)) (fun k => ?_) ?_
        · rw [pointillistref01_Floor.l1, if_neg (by decide), if_pos rfl, dg_0, if_neg (by decide)]
        · rw [if_neg (by simp)]
          have : decide (true = true ∧ 0 < Q) = decide (0 < (dg Q).length) := by rw [Bool.eq_iff_iff, decide_eq_true_eq, decide_eq_true_eq, dg_len_pos]; simp
          rw [this]; exact Ev.now _
      · refine Ev.step (f := fun k => (pointillistref01_plus.f k (dg Q) (dg 1)).bind fun t => some (decide (0 < t.length), t)) (fun k => ?_) ?_
        · have := (dg_len_pos R).mpr (by omega)
          rw [pointillistref01_Floor.l1, if_neg (by decide), if_pos rfl, if_pos (by omega), dg1]
        · rw [if_pos ⟨rfl, h0⟩]
          have : decide (0 < Q + 1) = decide (0 < (dg (Q + 1)).length) := by rw [Bool.eq_iff_iff, decide_eq_true_eq, decide_eq_true_eq, dg_len_pos]
          rw [this]
          exact Ev.bind (plus_ev Q 1 (by omega) (by rw [← dg1]; decide)) (f := fun _ t => some (decide (0 < t.length), t)) (Ev.now _)
  | succ j ih =>
    intro Q R hj hqr hr
    have e0 : ((j + 1 : Nat) : Int) - 1 = (j : Int) := by omega
    rw [e0]
    have hx : bits.drop j = rd bits (j : Int) :: bits.drop (j + 1) := rd_drop bits j (by omega)
    have hbj : 0 ≤ rd bits (j : Int) ∧ rd bits (j : Int) < 2 := hb _ (List.mem_of_mem_drop (by rw [hx]; exact List.mem_cons_self ..))
    have hbv : bv (bits.drop j) = (rd bits (j : Int)).toNat + 2 * (Q * C + R) := by rw [hx, hqr]; rfl
    have hle : bv (bits.drop j) ≤ A := by
      have := bv_app (bits.take j) (bits.drop j)
      rw [List.take_append_drop, hv] at this
      have h2 := Nat.le_mul_of_pos_left (bv (bits.drop j)) (Nat.pow_pos (n := (bits.take j).length) (show 0 < 2 by decide))
      omega
    have hQA : Q ≤ A := by
      have h1 : Q * 1 ≤ Q * C := Nat.mul_le_mul_left Q hC0
      omega
    have hlQ : (dg Q).length ≤ 1073741800 := Nat.le_trans (dg_len_mono hQA) hA
    have hlR : (dg R).length ≤ 1073741800 := Nat.le_trans (dg_len_mono (show R ≤ C by omega)) hC
    have hlQ2 := dg_len_add hlQ hlQ
    have hlR2 := dg_len_add hlR hlR

    have hj2 : ∀ R2 : Nat, R2 = 2 * R + (rd bits (j : Int)).toNat → Ev (fun k => pointillistref01_Floor.j2 k (dg C) bits (dg (Q + Q)) (dg R2) (j : Int) g L)
        (if g = true ∧ A % C ≠ 0 then (decide (0 < A / C + 1), dg (A / C + 1)) else (decide (g = true ∧ 0 < A / C), dg (A / C))) := by
      intro R2 hR2
      have hlR2' : (dg R2).length ≤ 1073741810 := by
        have h1 : (dg 1).length ≤ 1 := by rw [← dg1]; decide
        have h2 := dg_len_add hlR2 (Nat.le_trans h1 (by decide))
        have h3 := dg_len_mono (show R2 ≤ R + R + 1 by omega)
        omega
      have hls := less_ev R2 C (by omega) (by omega)
      have hw : wrap64 ((j : Int) - 1) = (j : Int) - 1 := w64' _ (by omega) (by omega)
      refine Ev.step (f := fun k => (pointillistref01_less.f k (dg R2) (dg C)).bind fun t285 => (if t285 = true then (pointillistref01_Floor.l1 k (dg C) bits (dg (Q + Q)) (dg R2) ((j : Int) - 1) g L) else ((pointillistref01_minus.f k (dg R2) (dg C)).bind fun t286 => ((pointillistref01_plus.f k (dg (Q + Q)) (dg 1)).bind fun t292 => (pointillistref01_Floor.l1 k (dg C) bits t292 t286 ((j : Int) - 1) g L))))) (fun k => ?_) ?_
      · rw [pointillistref01_Floor.j2, hw, dg1]
      · refine Ev.bind hls ?_
        by_cases hl : R2 < C
        · refine Ev.congr (fun k => if_pos (decide_eq_true hl)) ?_
          refine ih (Q + Q) R2 (by omega) ?_ hl
          rw [hbv, hR2, Nat.add_mul]; omega
        · refine Ev.congr (fun k => if_neg (by rw [decide_eq_false hl]; decide)) ?_
          refine Ev.bind (minus_ev R2 C (by omega) (by omega)) ?_
          refine Ev.bind (plus_ev (Q + Q) 1 (by omega) (by rw [← dg1]; decide)) ?_
          refine ih (Q + Q + 1) (R2 - C) (by omega) ?_ (by omega)
          rw [hbv, hR2, Nat.add_mul, Nat.add_mul]; omega
    refine Ev.step (f := fun k => (pointillistref01_plus.f k (dg Q) (dg Q)).bind fun t272 => ((pointillistref01_plus.f k (dg R) (dg R)).bind fun t275 => (if (rd bits (j : Int)) = 1 then ((pointillistref01_plus.f k t275 (dg 1)).bind fun t282 => (pointillistref01_Floor.j2 k (dg C) bits t272 t282 (j : Int) g L)) else (pointillistref01_Floor.j2 k (dg C) bits t272 t275 (j : Int) g L)))) (fun k => ?_) ?_
    · rw [pointillistref01_Floor.l1, if_pos (by omega)]
      simp only [if_pos (show (0 : Int) ≤ (j : Int) by omega), if_pos (show (j : Int) < (bits.length : Int) by omega), dg1]
    · refine Ev.bind (plus_ev Q Q (by omega) (by omega)) ?_
      refine Ev.bind (plus_ev R R (by omega) (by omega)) ?_
      by_cases h1 : rd bits (j : Int) = 1
      · refine Ev.congr (fun k => if_pos h1) ?_
        refine Ev.bind (plus_ev (R + R) 1 (by omega) (by rw [← dg1]; decide)) ?_
        exact hj2 _ (by rw [h1]; show R + R + 1 = 2 * R + 1; omega)
      · refine Ev.congr (fun k => if_neg h1) ?_
        have : rd bits (j : Int) = 0 := by omega
        exact hj2 _ (by rw [this]; show R + R = 2 * R + 0; omega)
def floorP (g : Bool) (A C : Nat) : Bool × List Int := if g = true ∧ A % C ≠ 0 then (decide (0 < A / C + 1), dg (A / C + 1)) else (decide (g = true ∧ 0 < A / C), dg (A / C))
theorem floor_bits (A C : Nat) (g : Bool) (hA : (dg A).length ≤ 1073741800) (hC0 : 0 < C) (hC : (dg C).length ≤ 1073741800) (L : List Int) :
    ∀ (d m : Nat) (bits : List Int), m < 2 ^ d → bits.length + d ≤ 17592186044416 → Okb bits → bv bits + 2 ^ bits.length * m = A → (dg m).length ≤ 1073741800 →
      Ev (fun k => pointillistref01_Floor.l0 k (dg C) bits (dg m) g L) (floorP g A C) := by
  intro d
  induction d with
  | zero =>
    intro m bits hm hl hb hv _
    have hm0 : m = 0 := by simpa using hm
    subst hm0
    rw [Nat.mul_zero, Nat.add_zero] at hv
    have h := floor_top A C g hA hC0 hC bits hb (by omega) hv L bits.length 0 0 (Nat.le_refl _) (by rw [List.drop_length]; simp [bv]) hC0
    rw [dg_0] at h
    refine Ev.step (fun k => ?_) h
    rw [pointillistref01_Floor.l0, dg_0, if_neg (by decide), w64' _ (by omega) (by omega)]
  | succ d ih =>
    intro m bits hm hl hb hv hml
    rcases Nat.eq_zero_or_pos m with hm0 | hm0
    · subst hm0
      rw [Nat.mul_zero, Nat.add_zero] at hv
      have h := floor_top A C g hA hC0 hC bits hb (by omega) hv L bits.length 0 0 (Nat.le_refl _) (by rw [List.drop_length]; simp [bv]) hC0
      rw [dg_0] at h
      refine Ev.step (fun k => ?_) h
      rw [pointillistref01_Floor.l0, dg_0, if_neg (by decide), w64' _ (by omega) (by omega)]
    · refine Ev.step (f := fun k => (pointillistref01_half.f k (dg m)).bind fun bt => pointillistref01_Floor.l0 k (dg C) (bits ++ [bt.2]) bt.1 g L) (fun k => ?_) ?_
      · have := (dg_len_pos m).mpr hm0
        rw [pointillistref01_Floor.l0, if_pos (by omega)]
        simp only [if_pos (show bits.length < 17592186044416 by omega)]
      · refine Ev.bind (half_ev m (by omega)) ?_
        rw [Nat.pow_succ] at hm
        refine ih (m / 2) (bits ++ [((m % 2 : Nat) : Int)]) (by omega) (by simp; omega) ?_ ?_ (Nat.le_trans (dg_len_mono (Nat.div_le_self _ _)) hml)
        · intro b hbm
          rcases List.mem_append.mp hbm with h | h
          · exact hb b h
          · rw [List.mem_singleton.mp h]; omega
        · rw [bv_app, List.length_append, List.length_singleton, Nat.pow_succ, ← hv]
          show bv bits + 2 ^ bits.length * ((m % 2 : Nat) + 2 * 0) + 2 ^ bits.length * 2 * (m / 2) = _
          rw [Nat.mul_assoc, Nat.add_assoc, ← Nat.mul_add]
          congr 2
          omega
theorem floor_ev (A C : Nat) (g : Bool) (d : Nat) (hd : A < 2 ^ d) (hdl : d ≤ 17592186044416) (hA : (dg A).length ≤ 1073741800) (hC0 : 0 < C) (hC : (dg C).length ≤ 1073741800) :
    Ev (fun k => pointillistref01_Floor.f k g (dg A) (dg C)) (floorP g A C) :=
  floor_bits A C g hA hC0 hC (dg A) d A [] hd (by simpa using hdl) (fun _ h => by cases h) (by simp [bv]) hA
def floorFlag (g : Bool) (A C : Nat) : Bool := if g = true ∧ A % C ≠ 0 then decide (0 < A / C + 1) else decide (g = true ∧ 0 < A / C)
def floorSize (g : Bool) (A C : Nat) : Nat := if g = true ∧ A % C ≠ 0 then A / C + 1 else A / C
theorem floorP_eq (g : Bool) (A C : Nat) : floorP g A C = (floorFlag g A C, dg (floorSize g A C)) := by
  unfold floorP floorFlag floorSize; split <;> rfl
theorem neg_floor (C q r : Nat) (hr : r < C) : -((C * q + r : Nat) : Int) / (C : Int) = if r = 0 then -(q : Int) else -(q : Int) - 1 := by
  by_cases h : r = 0
  · rw [if_pos h, h, Nat.add_zero, Int.natCast_mul, ← Int.mul_neg, Int.mul_ediv_cancel_left _ (by omega)]
  · rw [if_neg h, Int.natCast_add, Int.natCast_mul]
    have : -((C : Int) * (q : Int) + (r : Int)) = ((C : Int) - (r : Int)) + C * (-(q : Int) - 1) := by rw [Int.mul_sub, Int.mul_neg]; omega
    rw [this, Int.add_mul_ediv_left _ _ (by omega), Int.ediv_eq_zero_of_lt (by omega) (by omega)]
    omega
theorem floor_sgn (g : Bool) (A C : Nat) (hC : 0 < C) : sgn (floorFlag g A C) (floorSize g A C) = sgn g A / (C : Int) := by
  have h1 := Nat.div_add_mod A C
  have h2 := Nat.mod_lt A hC
  unfold floorFlag floorSize
  cases g with
  | false =>
    rw [if_neg (by simp), if_neg (by simp), decide_eq_false (by simp)]
    show ((A / C : Nat) : Int) = ((A : Nat) : Int) / (C : Int)
    exact Int.natCast_ediv A C
  | true =>
    have hk := neg_floor C (A / C) (A % C) h2
    rw [h1] at hk
    show _ = -(A : Int) / (C : Int)
    rw [hk]
    generalize A / C = q
    by_cases h : A % C = 0
    · rw [if_neg (by simp [h]), if_neg (by simp [h]), if_pos h]
      by_cases hq : 0 < q
      · rw [decide_eq_true ⟨rfl, hq⟩]; rfl
      · have : q = 0 := by omega
        subst this; rfl
    · rw [if_pos ⟨rfl, h⟩, if_pos ⟨rfl, h⟩, if_neg h, decide_eq_true (by omega)]
      show -((q + 1 : Nat) : Int) = _
      omega
theorem floorSize_le (g : Bool) (A C : Nat) : floorSize g A C ≤ A + 1 := by
  have := Nat.div_le_self A C
  unfold floorSize; split <;> omega
theorem lt_two_pow_dg (m : Nat) : m < 2 ^ (16 * (dg m).length) := by
  have h := val_lt _ (dg_ok m)
  rw [val_dg] at h
  rw [Nat.pow_mul]
  exact h
theorem near_ev (g : Bool) (m : Nat) (h : Bool) (C : Nat) (hm : (dg m).length ≤ 1073741000) (hC : (dg C).length ≤ 1073741000) (hC0 : 0 < C) :
    ∃ (f : Bool) (q : Nat), Ev (fun k => pointillistref01_Near.f k g (dg m) h (dg C)) (f, dg q) ∧ sgn f q = (2 * sgn (g != h) m + C) / (2 * (C : Int)) ∧ q ≤ 2 * m + C + 1 := by
  have body : ∀ e : Bool, ∃ (f : Bool) (q : Nat), Ev (fun k => pointillistref01_Near.j0 k e (dg m) false (dg C)) (f, dg q) ∧ sgn f q = (2 * sgn e m + C) / (2 * (C : Int)) ∧ q ≤ 2 * m + C + 1 := by
    intro e
    have l1 := dg_len_add hm hm
    have l2 := dg_len_add hC hC
    have s1 := addSize_le e e m m
    have l3 : (dg (addSize e e m m)).length ≤ 1073741001 := Nat.le_trans (dg_len_mono s1) l1
    have s2 := addSize_le (addFlag e e m m) false (addSize e e m m) C
    have l4 : (dg (addSize (addFlag e e m m) false (addSize e e m m) C)).length ≤ 1073741002 := Nat.le_trans (dg_len_mono s2) (dg_len_add l3 (by omega))
    refine ⟨floorFlag (addFlag (addFlag e e m m) false (addSize e e m m) C) (addSize (addFlag e e m m) false (addSize e e m m) C) (C + C), floorSize (addFlag (addFlag e e m m) false (addSize e e m m) C) (addSize (addFlag e e m m) false (addSize e e m m) C) (C + C), ?_, ?_, ?_⟩
    · rw [← floorP_eq]
      refine Ev.step (f := fun k => (pointillistref01_Add.f k e (dg m) e (dg m)).bind fun bt298 => ((pointillistref01_Add.f k bt298.1 bt298.2 false (dg C)).bind fun bt302 => ((pointillistref01_plus.f k (dg C) (dg C)).bind fun t306 => ((pointillistref01_Floor.f k bt302.1 bt302.2 t306).bind fun bt309 => (some (bt309.1, bt309.2)))))) (fun k => rfl) ?_
      refine Ev.bind (add_ev e e m m (by omega) (by omega)) ?_
      refine Ev.bind (add_ev _ false _ C (by omega) (by omega)) ?_
      refine Ev.bind (plus_ev C C (by omega) (by omega)) ?_
      have l5 : (dg (C + C)).length ≤ 1073741800 := by omega
      have l6 : 16 * (dg (addSize (addFlag e e m m) false (addSize e e m m) C)).length ≤ 17592186044416 := by omega
      have l7 : (dg (addSize (addFlag e e m m) false (addSize e e m m) C)).length ≤ 1073741800 := by omega
      refine Ev.bind (floor_ev _ (C + C) _ _ (lt_two_pow_dg _) l6 l7 (by omega) l5) ?_
      exact Ev.now _
    · rw [floor_sgn _ _ _ (by omega), add_sgn, add_sgn]
      have e1 : sgn false C = (C : Int) := rfl
      have e2 : ((C + C : Nat) : Int) = 2 * (C : Int) := by omega
      rw [e1, e2]
      congr 1
      omega
    · have := floorSize_le (addFlag (addFlag e e m m) false (addSize e e m m) C) (addSize (addFlag e e m m) false (addSize e e m m) C) (C + C)
      omega
  cases h with
  | true =>
    obtain ⟨f, q, h1, h2⟩ := body (!g)
    refine ⟨f, q, Ev.congr (fun k => ?_) h1, ?_⟩
    · rw [pointillistref01_Near.f, if_pos rfl]
    · have : (g != true) = !g := by cases g <;> rfl
      rw [this]; exact h2
  | false =>
    obtain ⟨f, q, h1, h2⟩ := body g
    refine ⟨f, q, Ev.congr (fun k => ?_) h1, ?_⟩
    · rw [pointillistref01_Near.f, if_neg (by decide)]
    · have : (g != false) = g := by cases g <;> rfl
      rw [this]; exact h2
theorem digit_mul {a b : Int} (ha : 0 ≤ a) (ha1 : a < 65536) (hb : 0 ≤ b) (hb1 : b < 65536) : 0 ≤ a * b ∧ a * b ≤ 4294836225 :=
  ⟨Int.mul_nonneg ha hb, Int.mul_le_mul (c := 65535) (d := 65535) (by omega) (by omega) hb (by omega)⟩
theorem mul_step (a b o : List Int) (g h : Bool) (c : Int) (i j P : Nat) (ha : Okd a) (hb : Okd b) (hi : i < a.length) (hc : 0 ≤ c) (hc1 : c ≤ 65535) (hj : j < 4611686018427387904) (ho : o.length < 17592186044416)
    (hgo : (j : Int) < (b.length : Int) ∨ 0 < c) (k : Nat) :
    pointillistref01_Mul.l1 (k + 1 + 1) (dg P) (i : Int) o c (j : Int) g a h b = pointillistref01_Mul.l1 k (dg P) (i : Int) (o ++ [(c + rd a (i : Int) * rd b (j : Int)) % 65536]) ((c + rd a (i : Int) * rd b (j : Int)) / 65536) ((j + 1 : Nat) : Int) g a h b := by
  have h1 := rd_ok' ha i
  have h2 := rd_ok' hb j
  have hm := digit_mul h1.1 h1.2 h2.1 h2.2
  have e0 : wrap64 ((j : Int) + 1) = ((j + 1 : Nat) : Int) := by rw [w64' _ (by omega) (by omega)]; omega
  have m1 : ∀ x : Int, 0 ≤ x → Int.tmod x 65536 = x % 65536 := fun x hx => Int.tmod_eq_emod_of_nonneg hx
  have m2 : ∀ x : Int, 0 ≤ x → x < 4611686018427387904 → wrap64 (Int.tdiv x 65536) = x / 65536 := fun x hx h => by rw [Int.tdiv_eq_ediv_of_nonneg hx, w64' _ (by omega) (by omega)]
  have hj2 : pointillistref01_Mul.l1 (k + 1 + 1) (dg P) (i : Int) o c (j : Int) g a h b = pointillistref01_Mul.j2 (k + 1) (dg P) (i : Int) o c (j : Int) true g a h b := by
    rw [pointillistref01_Mul.l1]
    by_cases g1 : (j : Int) < (b.length : Int)
    · rw [if_pos g1]
    · rw [if_neg g1, decide_eq_true (by omega)]
  have hi' : (i : Int) < (a.length : Int) := by omega
  have hi0 : (0 : Int) ≤ (i : Int) := by omega
  have hj0 : (0 : Int) ≤ (j : Int) := by omega
  rw [hj2, pointillistref01_Mul.j2, if_pos rfl, e0]
  generalize hx : rd a (i : Int) * rd b (j : Int) = x at hm
  by_cases g1 : (j : Int) < (b.length : Int)
  · have hw1 : wrap64 x = x := w64' x (by omega) (by omega)
    have hw2 : wrap64 (c + x) = c + x := w64' _ (by omega) (by omega)
    rw [if_pos g1, if_pos hi0, if_pos hi', if_pos hj0, if_pos ho, hw1, hw2, m1 _ (by omega), m2 _ (by omega) (by omega)]
  · have hx0 : x = 0 := by rw [← hx, rd_end b j (by omega), Int.mul_zero]
    rw [if_neg g1, if_pos ho, hx0, Int.add_zero, m1 _ (by omega), m2 _ (by omega) (by omega)]
structure Hid (p : Prop) : Prop where
  is : p
theorem mul_row (a b : List Int) (g h : Bool) (ha : Okd a) (hb : Okd b) (hla : a.length ≤ 1073741000) (hlb : b.length ≤ 1073741000) (i : Nat) (hi : i < a.length) (P Rr : Nat) (res : Bool × List Int)
    (hPR : Hid ((dg P).length ≤ 1073741824 ∧ (dg Rr).length ≤ 1073741824))
    (hcont : Ev (fun k => pointillistref01_Mul.l0 k (dg (P + Rr)) ((i + 1 : Nat) : Int) g a h b) res) :
    ∀ (d j : Nat) (o : List Int) (c : Int), j + d = b.length + 1 → 0 ≤ c → c ≤ 65535 → (d = 0 → c = 0) → Okd o → o.length = i + j →
      Hid (val o + 65536 ^ (i + j) * (c.toNat + (rd a (i : Int)).toNat * val (b.drop j)) = Rr) → Ev (fun k => pointillistref01_Mul.l1 k (dg P) (i : Int) o c (j : Int) g a h b) res := by
  have fin : ∀ (j : Nat) (o : List Int), Okd o → o.length = i + j → j ≤ b.length + 1 → b.length ≤ j → val o = Rr → Ev (fun k => pointillistref01_Mul.l1 k (dg P) (i : Int) o 0 (j : Int) g a h b) res := by
    intro j o ho hol hj1 hj hv
    have hw : wrap64 ((i : Int) + 1) = ((i + 1 : Nat) : Int) := by rw [w64' _ (by omega) (by omega)]; omega
    refine ev_step2 (f := fun k => (pointillistref01_trim.f k o).bind fun t327 => ((pointillistref01_plus.f k (dg P) t327).bind fun t330 => (pointillistref01_Mul.l0 k t330 ((i + 1 : Nat) : Int) g a h b))) (fun k => ?_) ?_
    · rw [pointillistref01_Mul.l1, if_neg (by omega), decide_eq_false (by decide), pointillistref01_Mul.j2, if_neg (by decide), hw]
    · refine Ev.bind (trim_eq hv (by omega) ho) ?_
      exact Ev.bind (plus_ev P Rr hPR.is.1 hPR.is.2) hcont
  intro d
  induction d with
  | zero =>
    intro j o c hj hc hc1 hd ho hol hv
    have h0 := hd rfl
    subst h0
    refine fin j o ho hol (by omega) (by omega) ?_
    have hv := hv.is
    rw [val_drop_len b j (by omega)] at hv
    simpa using hv
  | succ d ih =>
    intro j o c hj hc hc1 hd ho hol hv
    have h1 := rd_ok' ha i
    have h2 := rd_ok' hb j
    have hm := digit_mul h1.1 h1.2 h2.1 h2.2
    by_cases hgo : (j : Int) < (b.length : Int) ∨ 0 < c
    · refine ev_step2 (fun k => mul_step a b o g h c i j P ha hb hi hc hc1 (by omega) (by omega) hgo k) ?_
      refine ih (j + 1) _ _ (by omega) (by omega) (by omega) ?_ (ho.snoc (by omega) (by omega)) (by simp [hol]; omega) ?_
      · intro hd0
        rw [rd_end b j (by omega), Int.mul_zero]
        omega
      · refine ⟨?_⟩
        rw [val_snoc, hol, ← Nat.add_assoc i j 1, Nat.pow_succ, ← hv.is, val_drop' b j]
        clear hv hgo ih hcont fin
        refine pow_up _ _ _ _ _ ?_
        have e3 : (rd a (i : Int)).toNat * (rd b (j : Int)).toNat = (rd a (i : Int) * rd b (j : Int)).toNat := by
          have : (((rd a (i : Int)).toNat * (rd b (j : Int)).toNat : Nat) : Int) = rd a (i : Int) * rd b (j : Int) := by
            rw [Int.natCast_mul, Int.toNat_of_nonneg h1.1, Int.toNat_of_nonneg h2.1]
          omega
        rw [Nat.mul_add, Nat.mul_add, e3]
        have e4 : (rd a (i : Int)).toNat * (65536 * val (b.drop (j + 1))) = 65536 * ((rd a (i : Int)).toNat * val (b.drop (j + 1))) := by rw [← Nat.mul_assoc, ← Nat.mul_assoc, Nat.mul_comm _ 65536]
        rw [e4]
        omega
    · have h0 : c = 0 := by omega
      subst h0
      refine fin j o ho hol (by omega) (by omega) ?_
      have hv := hv.is
      rw [val_drop_len b j (by omega)] at hv
      simpa using hv
theorem mul_loop (a b : List Int) (g h : Bool) (ha : Okd a) (hb : Okd b) (hla : a.length ≤ 1073741000) (hlb : b.length ≤ 1073741000) (R : Nat) (hR : (dg R).length ≤ 1073741824) :
    ∀ (d i P : Nat), i + d = a.length → P + 65536 ^ i * (val (a.drop i) * val b) = R → Ev (fun k => pointillistref01_Mul.l0 k (dg P) (i : Int) g a h b) ((g != h), dg R) := by
  intro d
  induction d with
  | zero =>
    intro i P hi hv
    rw [val_drop_len a i (by omega), Nat.zero_mul, Nat.mul_zero, Nat.add_zero] at hv
    refine Ev.step (f := fun _ => some ((g != h), dg P)) (fun k => ?_) ?_
    · rw [pointillistref01_Mul.l0, if_neg (by omega)]
    · rw [hv]; exact Ev.now _
  | succ d ih =>
    intro i P hi hv
    have hrow : P + 65536 ^ i * ((rd a (i : Int)).toNat * val b) + 65536 ^ (i + 1) * (val (a.drop (i + 1)) * val b) = R := by
      rw [← hv, val_drop' a i, Nat.pow_succ]
      refine pow_up _ _ _ _ _ ?_
      rw [Nat.add_mul, Nat.mul_assoc]
    have hP : (dg P).length ≤ 1073741824 := Nat.le_trans (dg_len_mono (by omega)) hR
    have hRr : (dg (65536 ^ i * ((rd a (i : Int)).toNat * val b))).length ≤ 1073741824 := Nat.le_trans (dg_len_mono (by omega)) hR
    have hin := mul_row a b g h ha hb hla hlb i (by omega) P (65536 ^ i * ((rd a (i : Int)).toNat * val b)) ((g != h), dg R) ⟨⟨hP, hRr⟩⟩ (ih (i + 1) _ (by omega) hrow) (b.length + 1) 0 (List.replicate i 0) 0 (by omega) (by decide) (by decide) (by omega) (Okd.zeros i) (by simp)
      ⟨by rw [val_zeros]; simp⟩
    refine Ev.step (fun k => ?_) hin
    rw [pointillistref01_Mul.l0, if_pos (by omega), if_pos (by omega), if_pos (by omega), Int.toNat_natCast]
    rfl
theorem mul_ev (g h : Bool) (m n : Nat) (hm : (dg m).length ≤ 536870000) (hn : (dg n).length ≤ 536870000) : Ev (fun k => pointillistref01_Mul.f k g (dg m) h (dg n)) ((g != h), dg (m * n)) := by
  have := mul_loop (dg m) (dg n) g h (dg_ok m) (dg_ok n) (by omega) (by omega) (m * n) (Nat.le_trans (dg_len_mul hm hn) (by decide)) (dg m).length 0 0 (by omega) (by rw [List.drop_zero, val_dg, val_dg]; simp)
  rw [dg_0] at this
  exact this
theorem mul_sgn (g h : Bool) (m n : Nat) : sgn (g != h) (m * n) = sgn g m * sgn h n := by
  unfold sgn; cases g <;> cases h <;> simp [Int.mul_neg, Int.neg_mul]
theorem of_loop (n : Bool) (R : Nat) (hR : R < 18446744073709551616) :
    ∀ (d i : Nat) (o : List Int) (x : Int), i + d = 4 → x.natAbs ≤ 9223372036854775808 → Okd o → o.length = i → val o + 65536 ^ i * x.natAbs = R →
      Ev (fun k => pointillistref01_Of.l0 k x n o (i : Int)) (n, dg R) := by
  intro d
  induction d with
  | zero =>
    intro i o x hi hx ho hol hv
    have hi4 : i = 4 := by omega
    subst hi4
    have hv2 : val o = R := by
      have : (65536 : Nat) ^ 4 = 18446744073709551616 := by decide
      rw [this] at hv
      have := val_lt o ho
      omega
    refine Ev.step (f := fun k => (pointillistref01_trim.f k o).bind fun t => some (n, t)) (fun k => ?_) (Ev.bind (trim_eq hv2 (by omega) ho) (f := fun _ t => some (n, t)) (Ev.now _))
    rw [pointillistref01_Of.l0, if_neg (by decide)]
  | succ d ih =>
    intro i o x hi hx ho hol hv
    have e0 : wrap64 ((i : Int) + 1) = ((i + 1 : Nat) : Int) := by rw [w64' _ (by omega) (by omega)]; omega
    have hstep : ∃ (dgt y : Int), 0 ≤ dgt ∧ dgt < 65536 ∧ dgt.toNat + 65536 * y.natAbs = x.natAbs ∧ (∀ k, pointillistref01_Of.l0 (k + 1) x n o (i : Int) = pointillistref01_Of.l0 k y n (o ++ [dgt]) ((i + 1 : Nat) : Int)) := by
      by_cases hneg : x < 0
      · refine ⟨(-x) % 65536, -((-x) / 65536), by omega, by omega, by omega, fun k => ?_⟩
        have m1 : Int.tmod x 65536 = -((-x) % 65536) := by
          have := Int.neg_tmod (-x) 65536
          rw [Int.neg_neg] at this
          rw [this, Int.tmod_eq_emod_of_nonneg (by omega)]
        have m2 : Int.tdiv x 65536 = -((-x) / 65536) := by
          have := Int.neg_tdiv (-x) 65536
          rw [Int.neg_neg] at this
          rw [this, Int.tdiv_eq_ediv_of_nonneg (by omega)]
        have hol2 : o.length < 17592186044416 := by omega
        rw [pointillistref01_Of.l0, if_pos (by omega), m1, m2, e0, w64' (-((-x) / 65536)) (by omega) (by omega), Int.neg_neg, w64' ((-x) % 65536) (by omega) (by omega)]
        by_cases hz : -(-x % 65536) < 0
        · rw [if_pos hz, if_pos hol2]
        · rw [if_neg hz, if_pos hol2]
          have : -x % 65536 = 0 := by omega
          rw [this]; rfl
      · refine ⟨x % 65536, x / 65536, by omega, by omega, by omega, fun k => ?_⟩
        rw [pointillistref01_Of.l0, if_pos (by omega), Int.tmod_eq_emod_of_nonneg (by omega), Int.tdiv_eq_ediv_of_nonneg (by omega), e0, w64' (x / 65536) (by omega) (by omega), if_neg (by omega), if_pos (by omega)]
    obtain ⟨dgt, y, h0, h1, h2, h3⟩ := hstep
    refine Ev.step h3 (ih (i + 1) _ y (by omega) (by omega) (ho.snoc h0 h1) (by simp [hol]) ?_)
    rw [val_snoc, hol, Nat.pow_succ, ← hv]
    exact pow_up _ _ _ _ _ h2
theorem of_ev (x : Int) (h : -9223372036854775808 ≤ x ∧ x < 9223372036854775808) : Ev (fun k => pointillistref01_Of.f k x) (decide (x < 0), dg x.natAbs) :=
  of_loop (decide (x < 0)) x.natAbs (by omega) 4 0 [] x rfl (by omega) Okd.nil rfl (by simp [val])
theorem of_sgn (x : Int) : sgn (decide (x < 0)) x.natAbs = x := by
  unfold sgn
  by_cases h : x < 0
  · rw [if_pos (decide_eq_true h)]; omega
  · rw [if_neg (by simpa using h)]; omega
theorem len4 {m : Nat} (h : m < 18446744073709551616) : (dg m).length ≤ 4 := by
  have h4 : (65536 : Nat) ^ 4 = 18446744073709551616 := by decide
  exact dg_len (by omega)
def fitR (v : Int) : Int × Bool := if -9223372036854775808 ≤ v ∧ v < 9223372036854775808 then (v, true) else (0, false)
theorem plain_loop (g : Bool) (a : List Int) (ha : Okd a) (hl : a.length ≤ 4) :
    ∀ (j V : Nat), j ≤ a.length → V = val (a.drop j) → V ≤ 9223372036854775808 → Ev (fun k => pointillistref01_Plain.l0 k (-(V : Int)) ((j : Int) - 1) g a) (fitR (sgn g (val a))) := by
  intro j
  induction j with
  | zero =>
    intro V _ hV hle
    rw [List.drop_zero] at hV
    rw [← hV]
    have hstep : ∀ k, pointillistref01_Plain.l0 (k + 1) (-(V : Int)) ((0 : Nat) - 1) g a = some (fitR (sgn g V)) := by
      intro k
      rw [pointillistref01_Plain.l0, if_neg (by decide)]
      unfold fitR sgn
      cases g with
      | true => rw [if_pos rfl, if_pos rfl, if_pos (by omega)]
      | false =>
        simp only [Bool.false_eq_true, if_false]
        by_cases h : -(V : Int) = -9223372036854775808
        · rw [if_pos h, if_neg (by omega)]
        · rw [if_neg h, if_pos (by omega), Int.neg_neg, w64' _ (by omega) (by omega)]
    exact Ev.step hstep (Ev.now _)
  | succ j ih =>
    intro V hj hV hle
    have e0 : ((j + 1 : Nat) : Int) - 1 = (j : Int) := by omega
    have h1 := rd_ok ha (show j < a.length by omega)
    have hd := val_drop a j (by omega)
    rw [← hV] at hd
    have hA : val (a.drop j) ≤ val a := by
      have h2 := val_take a j
      have h3 := Nat.le_mul_of_pos_left (val (a.drop j)) (Nat.pow_pos (n := (a.take j).length) (show 0 < 65536 by decide))
      omega
    have bad : 9223372036854775808 < val a → fitR (sgn g (val a)) = (0, false) := by
      intro h
      unfold fitR sgn
      cases g with
      | true => rw [if_neg (by rw [if_pos rfl]; omega)]
      | false => rw [if_neg (by rw [if_neg (by decide)]; omega)]
    rw [e0]
    by_cases g1 : (-(V : Int)) < -140737488355328
    · rw [bad (by omega)]
      refine Ev.step (f := fun _ => some (0, false)) (fun k => ?_) (Ev.now _)
      rw [pointillistref01_Plain.l0, if_pos (by omega), if_pos g1]
    · have e1 : wrap64 (-(V : Int) * 65536) = -(V : Int) * 65536 := w64' _ (by omega) (by omega)
      have e2 : wrap64 (-9223372036854775808 + rd a (j : Int)) = -9223372036854775808 + rd a (j : Int) := w64' _ (by omega) (by omega)
      by_cases g2 : -(V : Int) * 65536 < -9223372036854775808 + rd a (j : Int)
      · rw [bad (by omega)]
        refine Ev.step (f := fun _ => some (0, false)) (fun k => ?_) (Ev.now _)
        rw [pointillistref01_Plain.l0, if_pos (by omega), if_neg g1, if_pos (by omega), if_pos (by omega), e1, e2, if_pos g2]
      · have e3 : -(V : Int) * 65536 - rd a (j : Int) = -((val (a.drop j) : Nat) : Int) := by omega
        refine Ev.step (f := fun k => pointillistref01_Plain.l0 k (-((val (a.drop j) : Nat) : Int)) ((j : Int) - 1) g a) (fun k => ?_) (ih _ (by omega) rfl (by omega))
        rw [pointillistref01_Plain.l0, if_pos (by omega), if_neg g1, if_pos (by omega), if_pos (by omega), e1, e2, if_neg g2, w64' (-(V : Int) * 65536 - rd a (j : Int)) (by omega) (by omega), w64' ((j : Int) - 1) (by omega) (by omega), e3]
theorem plain_ev (g : Bool) (m : Nat) (hm : (dg m).length ≤ 1073741824) : Ev (fun k => pointillistref01_Plain.f k g (dg m)) (fitR (sgn g m)) := by
  by_cases h : (dg m).length ≤ 4
  · have := plain_loop g (dg m) (dg_ok m) h (dg m).length 0 (Nat.le_refl _) (by rw [val_drop_len _ _ (Nat.le_refl _)]) (by decide)
    rw [val_dg] at this
    refine Ev.congr (fun k => ?_) this
    rw [pointillistref01_Plain.f, if_neg (by omega), w64' _ (by omega) (by omega)]
    rfl
  · have hbig : 18446744073709551616 ≤ m := by
      refine Nat.le_of_not_lt fun h2 => h (len4 h2)
    have bad : fitR (sgn g m) = (0, false) := by
      unfold fitR sgn
      cases g with
      | true => rw [if_neg (by rw [if_pos rfl]; omega)]
      | false => rw [if_neg (by rw [if_neg (by decide)]; omega)]
    rw [bad]
    refine Ev.congr (fun k => ?_) (Ev.now _)
    rw [pointillistref01_Plain.f, if_pos (by omega)]
theorem power_row (s : Nat) : List.replicate (s / 16) 0 ++ [((2 ^ (s % 16) : Nat) : Int)] = dg (2 ^ s) := by
  have hlt : 2 ^ (s % 16) < 2 ^ 16 := Nat.pow_lt_pow_right (by decide) (Nat.mod_lt _ (by decide))
  have h16 : (2 : Nat) ^ 16 = 65536 := by decide
  have hpos : 0 < 2 ^ (s % 16) := Nat.pow_pos (by decide)
  have hv : val (List.replicate (s / 16) 0 ++ [((2 ^ (s % 16) : Nat) : Int)]) = 2 ^ s := by
    rw [val_snoc, val_zeros, List.length_replicate, Nat.zero_add, Int.toNat_natCast, ← h16, ← Nat.pow_mul, ← Nat.pow_add]
    congr 1
    omega
  rw [← hv, dg_val]
  · exact (Okd.zeros _).snoc (by omega) (by omega)
  · intro b hb
    rw [List.getLast?_append] at hb
    simp at hb
    rw [← hb]
    have : ((2 ^ (s % 16) : Nat) : Int) ≠ 0 := by omega
    simpa using this
theorem power_loop (s : Nat) (hs : s ≤ 1000000) : ∀ (d j : Nat), j + d = s % 16 → Ev (fun k => pointillistref01_Power.l0 k (s : Int) (List.replicate (s / 16) 0) ((2 ^ j : Nat) : Int) (j : Int)) (false, dg (2 ^ s)) := by
  intro d
  have hm : Int.tmod (s : Int) 16 = ((s % 16 : Nat) : Int) := by rw [Int.tmod_eq_emod_of_nonneg (by omega)]; omega
  induction d with
  | zero =>
    intro j hj
    have hj' : j = s % 16 := by omega
    refine Ev.step (f := fun _ => some (false, dg (2 ^ s))) (fun k => ?_) (Ev.now _)
    rw [pointillistref01_Power.l0, hm, if_neg (by omega), if_pos (by rw [List.length_replicate]; omega), hj', power_row]
  | succ d ih =>
    intro j hj
    have hlt : 2 ^ j < 2 ^ 16 := Nat.pow_lt_pow_right (by decide) (by omega)
    have h16 : (2 : Nat) ^ 16 = 65536 := by decide
    have e0 : wrap64 ((j : Int) + 1) = ((j + 1 : Nat) : Int) := by rw [w64' _ (by omega) (by omega)]; omega
    have e1 : wrap64 (((2 ^ j : Nat) : Int) * 2) = ((2 ^ (j + 1) : Nat) : Int) := by
      rw [Nat.pow_succ]
      rw [h16] at hlt
      revert hlt
      generalize 2 ^ j = p
      intro hlt
      rw [w64' _ (by omega) (by omega)]; omega
    refine Ev.step (fun k => ?_) (ih (j + 1) (by omega))
    rw [pointillistref01_Power.l0, hm, if_pos (by omega), e0, e1]
theorem power_ev (s : Nat) (hs : s ≤ 1000000) : Ev (fun k => pointillistref01_Power.f k (s : Int)) (false, dg (2 ^ s)) := by
  refine Ev.congr (fun k => ?_) (power_loop s hs (s % 16) 0 (by omega))
  have e : wrap64 (Int.tdiv (s : Int) 16) = ((s / 16 : Nat) : Int) := by rw [Int.tdiv_eq_ediv_of_nonneg (by omega), w64' _ (by omega) (by omega)]; omega
  rw [pointillistref01_Power.f, e, if_pos (by omega), if_pos (by omega), Int.toNat_natCast]
  rfl
def nearR (x : Int) (s : Nat) : Int := (2 * x + ((2 ^ s : Nat) : Int)) / (2 * ((2 ^ s : Nat) : Int))
theorem refdot_ev (a b c d : Int) (s : Nat) (hs : s ≤ 62) (ha : -9223372036854775808 ≤ a ∧ a < 9223372036854775808) (hb : -9223372036854775808 ≤ b ∧ b < 9223372036854775808)
    (hc : -9223372036854775808 ≤ c ∧ c < 9223372036854775808) (hd : -9223372036854775808 ≤ d ∧ d < 9223372036854775808) :
    Ev (fun k => pointillistref01_Dot.f k a b c d (s : Int)) (fitR (nearR (a * b + c * d) s)) := by
  have la := len4 (show a.natAbs < 18446744073709551616 by omega)
  have lb := len4 (show b.natAbs < 18446744073709551616 by omega)
  have lc := len4 (show c.natAbs < 18446744073709551616 by omega)
  have ld := len4 (show d.natAbs < 18446744073709551616 by omega)
  have l1 := dg_len_mul la lb
  have l2 := dg_len_mul lc ld
  have l3 := dg_len_add l1 l2
  have s1 := addSize_le (decide (a < 0) != decide (b < 0)) (decide (c < 0) != decide (d < 0)) (a.natAbs * b.natAbs) (c.natAbs * d.natAbs)
  have l4 := Nat.le_trans (dg_len_mono s1) l3
  have lP : (dg (2 ^ s)).length ≤ 1000 := by
    rw [← power_row, List.length_append, List.length_replicate]
    simp; omega
  have hP0 : 0 < 2 ^ s := Nat.pow_pos (by decide)
  obtain ⟨f, q, h1, h2, h3⟩ := near_ev (addFlag (decide (a < 0) != decide (b < 0)) (decide (c < 0) != decide (d < 0)) (a.natAbs * b.natAbs) (c.natAbs * d.natAbs)) (addSize (decide (a < 0) != decide (b < 0)) (decide (c < 0) != decide (d < 0)) (a.natAbs * b.natAbs) (c.natAbs * d.natAbs)) false (2 ^ s) (by omega) (by omega) hP0
  have hflag : ∀ e : Bool, (e != false) = e := by intro e; cases e <;> rfl
  rw [hflag, add_sgn, mul_sgn, mul_sgn, of_sgn, of_sgn, of_sgn, of_sgn] at h2
  have lq : (dg q).length ≤ 1073741824 := by
    have l6 := dg_len_mono h3
    have l7 := dg_len_add l4 l4
    have l8 := dg_len_add (Nat.le_trans l7 (show 4 + 4 + 1 + 1 ≤ 1000 by decide)) lP
    have l9 : (dg 1).length ≤ 1001 := by rw [← dg1]; decide
    have l10 := dg_len_add l8 l9
    rw [Nat.two_mul] at l6
    omega
  have h4 : Ev (fun k => pointillistref01_Dot.j0 k a b c d (s : Int) false) (fitR (nearR (a * b + c * d) s)) := by
    refine Ev.step (f := fun k => (pointillistref01_Of.f k a).bind fun bt350 => ((pointillistref01_Of.f k b).bind fun bt354 => ((pointillistref01_Mul.f k bt350.1 bt350.2 bt354.1 bt354.2).bind fun bt358 => ((pointillistref01_Of.f k c).bind fun bt362 => ((pointillistref01_Of.f k d).bind fun bt366 => ((pointillistref01_Mul.f k bt362.1 bt362.2 bt366.1 bt366.2).bind fun bt370 => ((pointillistref01_Add.f k bt358.1 bt358.2 bt370.1 bt370.2).bind fun bt374 => ((pointillistref01_Power.f k (s : Int)).bind fun bt378 => ((pointillistref01_Near.f k bt374.1 bt374.2 bt378.1 bt378.2).bind fun bt382 => ((pointillistref01_Plain.f k bt382.1 bt382.2).bind fun bt386 => (some (bt386.1, bt386.2))))))))))))
      (fun k => by rw [pointillistref01_Dot.j0, if_neg (by decide)]) ?_
    refine Ev.bind (of_ev a ha) (Ev.bind (of_ev b hb) (Ev.bind (mul_ev _ _ _ _ (by omega) (by omega)) (Ev.bind (of_ev c hc) (Ev.bind (of_ev d hd) (Ev.bind (mul_ev _ _ _ _ (by omega) (by omega)) (Ev.bind (add_ev _ _ _ _ (by omega) (by omega)) (Ev.bind (power_ev s (by omega)) (Ev.bind h1 (Ev.bind (plain_ev f q lq) ?_)))))))))
    rw [h2]
    exact Ev.now _
  refine Ev.congr (fun k => ?_) h4
  rw [pointillistref01_Dot.f, if_neg (by omega), decide_eq_false (by omega)]
end Go.Proofs.YtbnjgaeeojcjbaaDoor.PR
namespace Go.Proofs.YtbnjgaeeojcjbaaDoor.PR
open Go.RowKit Go.Proofs.YtbnjgaeeojcjbaaDoorW.PrintWords Go.Proofs.YtbnjgaeeojcjbaaDoorW.PrintLast Go.Proofs.YtbnjgaeeojcjbaaDoorW.PrintMore
attribute [local go_sem] max2_int min2_int max_two min_two max_three min_three max_four min_four
set_option linter.unusedVariables false
set_option linter.unusedSimpArgs false
def pointillistref08_sum.f (k : Nat) (a0 : Int) (a1 : Int) (a2 : Int) (a3 : Int) (a4 : Int) : Option (Int) := (pointillistref01_Dot.f k a0 a1 a2 a3 16).bind fun bt388 => (some (wrap64 (bt388.1 + a4)))
theorem pointillistref08_sum.mono : ∀ a0 a1 a2 a3 a4 k, LeO (pointillistref08_sum.f k a0 a1 a2 a3 a4) (pointillistref08_sum.f (k + 1) a0 a1 a2 a3 a4) := by
 intro a0 a1 a2 a3 a4 k
 unfold pointillistref08_sum.f
 repeat' first
   | (with_reducible exact pointillistref01_Dot.mono _ _ _ _ _ _)
   | (with_reducible exact LeO.refl _)
   | (with_reducible exact LeO.none _)
   | (with_reducible refine LeO.ite ?_ ?_)
   | (with_reducible refine LeO.bind ?_ (fun _ => ?_))
   | exact pointillistref01_Dot.mono _ _ _ _ _ _
   | exact LeO.none _
   | refine LeO.ite ?_ ?_
   | refine LeO.bind ?_ (fun _ => ?_)
set_option maxHeartbeats 8000000 in
set_option maxRecDepth 100000 in
theorem pointillistref08_sum.calls (k : Nat) (a0 : Int) (a1 : Int) (a2 : Int) (a3 : Int) (a4 : Int) (r : Int) (w : World) (h : pointillistref08_sum.f k a0 a1 a2 a3 a4 = some r) :
  Calls Tryd.prog 22 #[.int .i64 a0, .int .i64 a1, .int .i64 a2, .int .i64 a3, .int .i64 a4] w fun e w' => e = .returned (.int .i64 r) ∧ Below w.heap.size w w' := by
 have HB := Aside0.mk (Below.refl w.heap.size w)
 have H : ((pointillistref01_Dot.f k a0 a1 a2 a3 16).bind fun bt388 => (some (wrap64 (bt388.1 + a4)))) = some r := h
 clear h
 replace H := Option.bind_eq_some_iff.mp H
 obtain ⟨⟨t388, t389⟩, A60, H⟩ := H
 replace H : (some (wrap64 (t388 + a4))) = some r := H
 have A6 := Aside0.mk A60
 clear A60
 obtain rfl := Option.some.inj H
 go_enter Tryd.func22, Tryd.ntmps22
 go_wp2_with (first | ((with_reducible refine gate_callee (f := 28) rfl ?_); refine goesL_ (some 18) rfl rfl Tryd.func28 (by kernel_rfl) rfl #[.int .i64 a0, .int .i64 a1, .int .i64 a2, .int .i64 a3, .int .i64 16] rfl (by (try simp only [List.map_toArray, List.map_cons, List.map_nil]); first | done | rfl | (simp only [List.length_drop, List.length_take]; rfl)) ?_; (with_reducible refine (pointillistref01_Dot.calls k a0 a1 a2 a3 16 t388 t389 _ A6.out).mono ?_); rintro e w7 ⟨rfl, hb⟩; refine ⟨_, rfl, ?_⟩; have n0_ := Aside0.mk (below_step (wq HB.out) hb); clear HB; have HB := n0_; clear n0_; (try clear hb); (try clear hb2); (try clear hk); (try clear hi)))
 go_ret
 exact ⟨by first | rfl | (simp [errW_none, errW_some] <;> rfl) | (simp [*, errW_none, errW_some] <;> rfl), by exact wq HB.out⟩
end Go.Proofs.YtbnjgaeeojcjbaaDoor.PR
namespace Go.Proofs.YtbnjgaeeojcjbaaDoor.PR
open Go.RowKit Go.Proofs.YtbnjgaeeojcjbaaDoorW.PrintWords Go.Proofs.YtbnjgaeeojcjbaaDoorW.PrintLast Go.Proofs.YtbnjgaeeojcjbaaDoorW.PrintMore
attribute [local go_sem] max2_int min2_int max_two min_two max_three min_three max_four min_four
set_option linter.unusedVariables false
set_option linter.unusedSimpArgs false
def pointillistref08_Apply.j0 : Nat → Bool → Int → Int → Int → Int → Int → Int → Int → Int → Option (Int × Int × Int)
 | 0, _, _, _, _, _, _, _, _, _ => none
 | k + 1, x21, x391000, x391001, x391002, x391003, x391004, x391005, x392000, x392001 => if x21 = true then (some (0, 0, 1)) else ((pointillistref08_sum.f k x391000 x392000 x391002 x392001 x391004).bind fun t396 => ((pointillistref08_sum.f k x391001 x392000 x391003 x392001 x391005).bind fun t397 => ((pointillistref08_In.f t396).bind fun t399 => (if t399 = true then ((pointillistref08_In.f t397).bind fun t400 => (if t400 = true then (some (t396, t397, 0)) else (some (0, 0, 2)))) else (some (0, 0, 2))))))
def pointillistref08_Apply.f (k : Nat) (a0_0 : Int) (a0_1 : Int) (a0_2 : Int) (a0_3 : Int) (a0_4 : Int) (a0_5 : Int) (a1_0 : Int) (a1_1 : Int) : Option (Int × Int × Int) := (pointillistref08_Right.f a0_0 a0_1 a0_2 a0_3 a0_4 a0_5).bind fun t393 => (if t393 = true then ((pointillistref08_In.f a1_0).bind fun t394 => (if t394 = true then ((pointillistref08_In.f a1_1).bind fun t395 => (pointillistref08_Apply.j0 k (!t395) a0_0 a0_1 a0_2 a0_3 a0_4 a0_5 a1_0 a1_1)) else (pointillistref08_Apply.j0 k true a0_0 a0_1 a0_2 a0_3 a0_4 a0_5 a1_0 a1_1))) else (pointillistref08_Apply.j0 k true a0_0 a0_1 a0_2 a0_3 a0_4 a0_5 a1_0 a1_1))
theorem pointillistref08_Apply.mono_l : ∀ k, (∀ y0 y1 y2 y3 y4 y5 y6 y7 y8, LeO (pointillistref08_Apply.j0 k y0 y1 y2 y3 y4 y5 y6 y7 y8) (pointillistref08_Apply.j0 (k + 1) y0 y1 y2 y3 y4 y5 y6 y7 y8))
 | 0 => fun _ _ _ _ _ _ _ _ _ r h => by simp [pointillistref08_Apply.j0] at h
 | k + 1 => by
  have ih0 := pointillistref08_Apply.mono_l k
  ·
   intro y0 y1 y2 y3 y4 y5 y6 y7 y8
   unfold pointillistref08_Apply.j0
   repeat' first
   | (with_reducible exact ih0 _ _ _ _ _ _ _ _ _)
   | (with_reducible exact pointillistref08_sum.mono _ _ _ _ _ _)
   | (with_reducible exact LeO.refl _)
   | (with_reducible exact LeO.none _)
   | (with_reducible refine LeO.ite ?_ ?_)
   | (with_reducible refine LeO.bind ?_ (fun _ => ?_))
   | exact ih0 _ _ _ _ _ _ _ _ _
   | exact pointillistref08_sum.mono _ _ _ _ _ _
   | exact LeO.none _
   | refine LeO.ite ?_ ?_
   | refine LeO.bind ?_ (fun _ => ?_)
theorem pointillistref08_Apply.mono : ∀ a0 a1 a2 a3 a4 a5 a6 a7 k, LeO (pointillistref08_Apply.f k a0 a1 a2 a3 a4 a5 a6 a7) (pointillistref08_Apply.f (k + 1) a0 a1 a2 a3 a4 a5 a6 a7) := by
 intro a0 a1 a2 a3 a4 a5 a6 a7 k
 have ih0 := pointillistref08_Apply.mono_l k
 unfold pointillistref08_Apply.f
 repeat' first
   | (with_reducible exact ih0 _ _ _ _ _ _ _ _ _)
   | (with_reducible exact pointillistref08_sum.mono _ _ _ _ _ _)
   | (with_reducible exact LeO.refl _)
   | (with_reducible exact LeO.none _)
   | (with_reducible refine LeO.ite ?_ ?_)
   | (with_reducible refine LeO.bind ?_ (fun _ => ?_))
   | exact ih0 _ _ _ _ _ _ _ _ _
   | exact pointillistref08_sum.mono _ _ _ _ _ _
   | exact LeO.none _
   | refine LeO.ite ?_ ?_
   | refine LeO.bind ?_ (fun _ => ?_)
def pointillistref08_Apply.T3 : Bool × List (List Nat × List Nat) := (true, [([], []), ([0], [0]), ([], []), ([2], [2]), ([], []), ([4], [4]), ([], []), ([6], [6]), ([], []), ([8], [8]), ([1, 3, 5, 7, 9], [1, 3, 5, 7, 9]), ([], []), ([11], [11]), ([], []), ([13], [13]), ([], []), ([15], [15]), ([], []), ([17], [17]), ([], []), ([19], [19]), ([12, 14, 16, 18, 20, 10], [12, 14, 16, 18, 20]), ([10, 21], [10, 21]), ([], []), ([23, 22, 21, 0, 1, 2, 3, 4, 5, 6, 7, 8, 9, 10, 11, 12, 13, 14, 15, 16, 17, 18, 19, 20, 21, 22, 23], [22, 23])])
def pointillistref08_Apply.B3 : List Nat := [0, 1, 0, 4, 0, 16, 0, 64, 0, 256, 1023, 0, 2048, 0, 8192, 0, 32768, 0, 131072, 0, 524288, 2097151, 4194303, 0, 16777215]
theorem pointillistref08_Apply.tab3 : rtab .any (opsOf Tryd.f10 3) = pointillistref08_Apply.T3 := by kernel_rfl
theorem pointillistref08_Apply.bits3 : waitsOk pointillistref08_Apply.T3.2 pointillistref08_Apply.B3 = true := by kernel_rfl
end Go.Proofs.YtbnjgaeeojcjbaaDoor.PR
