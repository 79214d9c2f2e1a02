import Derived.ArgAppend
import Derived.Below
import Derived.BigQuiet
import Derived.Deep.AppendLies
import Derived.Deep.CutBlock
import Derived.Deep.DeepCutAuto
import Derived.Deep.Draws
import Derived.Deep.LoopGhost
import Derived.Deep.OwnRows
import Derived.Deep.QuietTactic
import Derived.Deep.RegionHeld3
import Derived.KernelRfl
import Derived.Laws.BitsLemmas
import Derived.Laws.BytesArg
import Derived.Laws.Externs
import Derived.Laws.IdiomCopy
import Derived.Laws.MakeOwn
import Derived.Laws.OwnMore
import Derived.Laws.Rows
import Derived.Laws.Slices
import Derived.Laws.StructEq
import Derived.Laws.World
import Derived.Lib.AppendStr
import Derived.Lib.ConvBytes
import Derived.Maps.AppendAt
import Derived.OrdersHeld
import Derived.OwnWalk
import Derived.RowKit
import Derived.RowKit3
import Derived.Tactics
import Derived.WalkKit
import Derived.WalkLawsBesides
import Derived.WideLaws
import Derived.Test.YtfpnglgipchjhaaDoorLen64
import Derived.Test.YtfpnglgipchjhaaDoorProg
import Derived.Test.YtfpnglgipchjhaaDoorZa0
import Derived.Test.YtfpnglgipchjhaaDoorZa1
-- What this claim needs of the words, the printed walks and this session's texts (merged and cut by wip/prune.py).
namespace Go.Proofs.YtfpnglgipchjhaaDoor.PR
open Go.RowKit Go.Proofs.YtfpnglgipchjhaaDoorW.PrintWords Go.Proofs.YtfpnglgipchjhaaDoorW.PrintLast Go.Proofs.YtfpnglgipchjhaaDoorW.PrintMore
attribute [local go_sem] max2_int min2_int max_two min_two max_three min_three max_four min_four
set_option linter.unusedVariables false
set_option linter.unusedSimpArgs false
set_option maxHeartbeats 8000000 in
set_option maxRecDepth 100000 in
theorem pointillistref01_Floor.calls (k : Nat) (a0_0 : Bool) (P0_1_ : Nat → Prop) (A0_1 : Option Addr) (c0_1 : Nat) (l0_1 : List Int) (A1 : Option Addr) (c1 : Nat) (l1 : List Int) (r1 : Bool) (r2 : List Int) (w : World) (hs0_1 : Kd.V (Kd.int .i64) 3 w w.heap.size (fun k_ => P0_1_ k_) (.slice A0_1 l0_1.length c0_1) l0_1) (hr1 : Kd.C (Kd.int .i64) w A1 l1.length l1) (hc1 : l1.length ≤ c1) (h : pointillistref01_Floor.f k a0_0 l0_1 l1 = some (r1, r2)) :
  Calls Tryd.prog 53 #[.agg #[.bool a0_0, .slice A0_1 l0_1.length c0_1], .slice A1 l1.length c1] w fun e w' => ∃ v1_ : Value, e = .returned (.agg #[.bool r1, v1_]) ∧ Kd.V (Kd.int .i64) 3 w' w.heap.size (fun k_ => (P0_1_ k_ ∨ w.heap.size ≤ k_)) v1_ r2 ∧ Below w.heap.size w w' := by
 have hu69 := Tryd.underlying69
 have HO0_1 := Aside0.mk (show Kd.V (Kd.int .i64) 3 w w.heap.size (fun k_ => (P0_1_ k_ ∨ w.heap.size ≤ k_)) (.slice A0_1 l0_1.length c0_1) l0_1 from Kd.V_mono hs0_1 (fun k_ hk => .inl hk))
 have HR1 := Aside0.mk hr1
 have HC1 := Aside0.mk hc1
 clear hr1 hc1
 have HB := Aside0.mk (Below.refl w.heap.size w)
 have H : (pointillistref01_Floor.l0 k l1 ([] : List Int) l0_1 a0_0 l0_1) = some (r1, r2) := h
 clear h
 have H' := Aside0.mk H
 clear H
 go_enter Tryd.func53, Tryd.ntmps53
 go_wp2_with (first | ((with_reducible refine gate_dst (N := 2) rfl ?_); (try (refine gate_guard (by rfl) ?_; dsimp only)); refine box_event ?hg (N := 2) ?hd (cs := #[.bool a0_0, .slice A0_1 l0_1.length c0_1]) (t := 69) ?hr ?_; (case hd => rfl); (case hg => rfl); (case hr => first | (go_simp; done) | (go_simp; rfl)); intro gb269 hg w3 hbox hb; have n0_ := Aside0.mk (Kd.V_below (Kd.V_elderB (vq HO0_1.out) gb269 (Nat.le_of_eq hg.symm)) hb); have n1_ := Aside0.mk (below_step (wq HB.out) hb); have n2_ := Aside0.mk (hbox); have n3_ := Aside0.mk ((by rw [hg]; exact (below_size (wq HB.out)) : w.heap.size ≤ gb269)); have n4_ := n3_; clear HO0_1 HB; have HO0_1 := n0_; have HB := n1_; have BK269 := n2_; have GW269 := n3_; have GE269 := n4_; clear n0_ n1_ n2_ n3_ n4_ hb hbox hg) | ((with_reducible refine gate_dst (N := 4) rfl ?_); (try (refine gate_guard (by rfl) ?_; dsimp only)); refine box_event ?hg (N := 4) ?hd (cs := #[.bool false, .slice none 0 0]) (t := 69) ?hr ?_; (case hd => rfl); (case hg => rfl); (case hr => first | (go_simp; done) | (go_simp; rfl)); intro gb270 hg w4 hbox hb; have n0_ := Aside0.mk (Kd.V_below (Kd.V_elderB (vq HO0_1.out) gb270 (Nat.le_of_eq hg.symm)) hb); have n1_ := Aside0.mk (blk_below (bq BK269.out) hb); have n2_ := Aside0.mk (below_step (wq HB.out) hb); have n3_ := Aside0.mk (hbox); have n4_ := Aside0.mk ((by rw [hg]; exact (below_size (wq HB.out)) : w.heap.size ≤ gb270)); have n5_ := n4_; have n6_ := Aside0.mk ((by rw [hg]; exact Nat.ne_of_lt (blk_lt (bq BK269.out)) : gb269 ≠ gb270)); have n7_ := Aside0.mk ((by rw [hg]; exact Nat.ne_of_gt (blk_lt (bq BK269.out)) : gb270 ≠ gb269)); clear HO0_1 BK269 HB; have HO0_1 := n0_; have BK269 := n1_; have HB := n2_; have BK270 := n3_; have GW270 := n4_; have GE270 := n5_; have NB269_270 := n6_; have NB270_269 := n7_; clear n0_ n1_ n2_ n3_ n4_ n5_ n6_ n7_ hb hbox hg; have hnb5 := NB269_270.out; have hnc5 := NB270_269.out; have hcz6_0 : w4.cell? ⟨gb269, 0, none⟩ = some (.bool a0_0) := (blk_cell BK269.out 0).trans rfl; have hcz6_1 : w4.cell? ⟨gb269, 1, none⟩ = some (.slice A0_1 l0_1.length c0_1) := (blk_cell BK269.out 1).trans rfl; have hfz6_0 := blk_frozen BK269.out 0; have hfz6_1 := blk_frozen BK269.out 1))
 go_loopg [5, 6] k (fun kq v5 v6 w' => ∃ (x5_1 : List Int) (x6_1 : List Int), Aside0 (pointillistref01_Floor.l0 kq l1 x5_1 x6_1 a0_0 l0_1 = some (r1, r2)) ∧ Aside0 (kq ≤ k) ∧ Aside0 (Kd.R (Kd.int .i64) 3 w' w.heap.size (fun k_ => (w.heap.size ≤ k_)) v5 x5_1) ∧ Aside0 (Kd.V (Kd.int .i64) 3 w' w.heap.size (fun k_ => (P0_1_ k_ ∨ w.heap.size ≤ k_) ∧ some k_ ≠ (v5 : Value).ownBlock ∧ k_ ≠ gb269 ∧ k_ ≠ gb270) v6 x6_1) ∧ Aside0 (Kd.V (Kd.int .i64) 3 w' w.heap.size (fun k_ => (P0_1_ k_ ∨ w.heap.size ≤ k_) ∧ some k_ ≠ (v5 : Value).ownBlock ∧ k_ ≠ gb269 ∧ k_ ≠ gb270) (.slice A0_1 l0_1.length c0_1) l0_1) ∧ Aside0 (w'.heap[gb269]? = some (.cells #[.bool a0_0, (.slice A0_1 l0_1.length c0_1)] 69 (0, 0))) ∧ Aside0 (w'.heap[gb270]? = some (.cells #[.bool false, (.slice none 0 0)] 69 (0, 0))) ∧ Aside0 (Below w.heap.size w w'))
 case atStart => exact ⟨(([] : List Int)), (l0_1), H', ⟨Nat.le_refl _⟩, ⟨by first | exact Kd.R_nil _ _ _ _ _ | exact Kd.N_nil _ _ _ _ _ | exact Kd.V_nil _ _ _ _ _ | exact Kd.Q_nil _ _ _ _ _ | exact Kd.S_nil _ _ _ _ _⟩, ⟨by apply vq; exact Kd.V_mono HO0_1.out (fun _ hk => ⟨hk.1.1, ⟨(by simp [Value.ownBlock]), ⟨hk.1.2, hk.2⟩⟩⟩)⟩, ⟨by apply vq; exact Kd.V_mono HO0_1.out (fun _ hk => ⟨hk.1.1, ⟨(by simp [Value.ownBlock]), ⟨hk.1.2, hk.2⟩⟩⟩)⟩, ⟨by refine bq ?_; exact BK269.out⟩, ⟨by refine bq ?_; exact BK270.out⟩, ⟨by exact wq HB.out⟩⟩
 case round =>
  clear H'
  try clear c1
  try clear p2
  try clear c5
  try clear hcz6_0
  try clear hcz6_1
  try clear hfz6_0
  try clear hfz6_1
  obtain ⟨x5_1, x6_1, HA, HK1, HO_5, HO_6, HO_270001, BK269, BK270, HB⟩ := hrel
  cases gk with
  | zero => exact absurd HA.out (by simp [pointillistref01_Floor.l0])
  | succ k1 =>
   have H := HA.out
   clear HA
   simp only [pointillistref01_Floor.l0] at H
   by_cases c7 : (x6_1.length : Int) > 0
   ·
    rw [if_pos c7] at H
    have c7b0 : decide (0 < (x6_1.length : Int)) = true := decide_eq_true c7
    have c7b1 : decide (0 < x6_1.length) = true := decide_eq_true (by omega)
    clear c7
    replace H := Option.bind_eq_some_iff.mp H
    obtain ⟨⟨t271, t274⟩, A80, H⟩ := H
    replace H : (if x5_1.length < 17592186044416 then (pointillistref01_Floor.l0 k1 l1 (x5_1 ++ [t274]) t271 a0_0 l0_1) else (none)) = some (r1, r2) := H
    have A8 := Aside0.mk A80
    clear A80
    by_cases c9 : x5_1.length < 17592186044416
    ·
     rw [if_pos c9] at H
     have LMc9 := Aside0.mk c9
     clear c9
     obtain ⟨y275, hy275⟩ : ∃ y_ : List Int, y_ = (x5_1 ++ [t274]) := ⟨_, rfl⟩
     replace H : (pointillistref01_Floor.l0 k1 l1 y275 t271 a0_0 l0_1) = some (r1, r2) := by first | (rw [hy275]; with_reducible exact H) | (have H2_ := (Option.bind_some _ _).symm.trans H; rw [hy275]; with_reducible exact H2_) | (have H2_ := (Option.bind_some _ _).symm.trans H; with_reducible exact H2_) | with_reducible exact H | (rw [hy275]; exact H) | exact H
     have Ny275 := Aside0.mk hy275
     clear hy275
     have H' := Aside0.mk H
     clear H
     obtain ⟨Ao10, co10, eo10⟩ := Kd.V_slice HO_6.out
     subst eo10
     go_wp2_with (first | ((with_reducible refine gate_callee (f := 59) rfl ?_); refine goesL_ (some 19) rfl rfl Tryd.func59 (by kernel_rfl) rfl #[.slice Ao10 x6_1.length co10] rfl (by (try simp only [List.map_toArray, List.map_cons, List.map_nil]); first | done | rfl | (simp only [List.length_drop, List.length_take]; rfl)) ?_; (with_reducible refine (pointillistref01_half.calls k1 _ _ x6_1 t271 t274 _ ?side1 ?side2 A8.out).mono ?_); (case side1 => exact cq (Kd.V_reads' HO_6.out).2.2); (case side2 => exact (Kd.V_reads' HO_6.out).2.1); rintro e w11 ⟨v272, rfl, ho0, hb⟩; refine ⟨_, rfl, ?_⟩; have n0_ := Aside0.mk (Kd.R_below (rq HO_5.out) hb); have n1_ := Aside0.mk (Kd.V_below (vq HO_6.out) hb); have n2_ := Aside0.mk (Kd.V_below (vq HO_270001.out) hb); have n3_ := Aside0.mk (Kd.V_lower (Kd.V_mono (ok' := fun k_ => (P0_1_ k_ ∨ w.heap.size ≤ k_) ∧ some k_ ≠ (u5 : Value).ownBlock ∧ k_ ≠ gb269 ∧ k_ ≠ gb270) ho0 (fun k_ hk_ => ⟨(.inr (Nat.le_trans (below_size (wq HB.out)) hk_)), (Kd.fresh' (Kd.R_lt (rq HO_5.out)) k_ hk_), (Kd.freshB (bq BK269.out) k_ hk_), (Kd.freshB (bq BK270.out) k_ hk_)⟩)) (below_size (wq HB.out))); have n4_ := Aside0.mk (blk_below (bq BK269.out) hb); have n5_ := Aside0.mk (blk_below (bq BK270.out) hb); have n6_ := Aside0.mk (below_step (wq HB.out) hb); clear HO_5 HO_6 HO_270001 BK269; clear BK270 HB; have HO_5 := n0_; have HO_6 := n1_; have HO_270001 := n2_; have HO273 := n3_; have BK269 := n4_; have BK270 := n5_; have HB := n6_; clear n0_ n1_ n2_ n3_ n4_ n5_ n6_; (try clear hb); (try clear hb2); (try clear hk); (try clear hi); (try clear ho0)) | ((with_reducible refine gate_builtin (b := .append) (xs := #[.tmp 22, .tmp 24]) rfl ?_); (try (refine gate_guard (by rfl) ?_; dsimp only)); at_builtin; refine Kd.R_append (Kd.int .i64) (w0 := w) w.heap.size rfl (.tmp 22) (.tmp 24) 67 3 (.int .i64 0) 8 rfl Tryd.underlying67 info3 rfl (by decide) (by omega) u5 x5_1 t274 [.int .i64 t274] (fun k_ => (w.heap.size ≤ k_)) (fun _ => False) rfl rfl ?aP (fun _ hk => hk.elim) ?aF ?aO ?aB ?aS ?aL ?_; (case aP => exact rfl); (case aB => exact (wq HB.out)); (case aF => exact (fun k_ hk => (Nat.le_trans (below_size (wq HB.out)) hk))); (case aO => exact (rq HO_5.out)); (case aS => exact (below_size (wq HB.out))); (case aL => have := LMc9.out; omega); intro v276 w12 ho hb hg hat; rw [← Ny275.out] at ho; have n0_ := Aside0.mk (Kd.V_afterv (ok := (fun k_ => (P0_1_ k_ ∨ w.heap.size ≤ k_) ∧ k_ ≠ gb269 ∧ k_ ≠ gb270)) (by apply vq; exact Kd.V_mono HO_6.out (fun _ hk => ⟨⟨hk.1, ⟨hk.2.2.1, hk.2.2.2⟩⟩, hk.2.1⟩)) hg hat); have n1_ := Aside0.mk (Kd.V_afterv (ok := (fun k_ => (P0_1_ k_ ∨ w.heap.size ≤ k_) ∧ k_ ≠ gb269 ∧ k_ ≠ gb270)) (by apply vq; exact Kd.V_mono HO_270001.out (fun _ hk => ⟨⟨hk.1, ⟨hk.2.2.1, hk.2.2.2⟩⟩, hk.2.1⟩)) hg hat); have n2_ := Aside0.mk (blk_grown (g := gb269) (o := .cells #[.bool a0_0, .slice A0_1 l0_1.length c0_1] 69 (0, 0)) (bq BK269.out) hg (Kd.R_ne HO_5.out BK269.out (by decide))); have n3_ := Aside0.mk (blk_grown (g := gb270) (o := .cells #[.bool false, .slice none 0 0] 69 (0, 0)) (bq BK270.out) hg (Kd.R_ne HO_5.out BK270.out (by decide))); have n4_ := Aside0.mk (Kd.V_afterv (ok := (fun k_ => (P0_1_ k_ ∨ w.heap.size ≤ k_) ∧ k_ ≠ gb269 ∧ k_ ≠ gb270)) (by apply vq; exact Kd.V_mono HO273.out (fun _ hk => ⟨⟨hk.1, ⟨hk.2.2.1, hk.2.2.2⟩⟩, hk.2.1⟩)) hg hat); have n5_ := Aside0.mk (hb); have n6_ := Aside0.mk (ho); clear HO_6 HO_270001 BK269 BK270; clear HO273 HB HO_5; have HO_6 := n0_; have HO_270001 := n1_; have BK269 := n2_; have BK270 := n3_; have HO273 := n4_; have HB := n5_; have HO277 := n6_; clear n0_ n1_ n2_ n3_ n4_ n5_ n6_ ho hb hg hat))
     go_roundg k1
     case measure => have := HK1.out; omega
     case rel => exact ⟨(y275), (t271), H', ⟨by have := HK1.out; omega⟩, ⟨by apply rq; exact HO277.out⟩, ⟨by apply vq; exact Kd.V_mono HO273.out (fun _ hk => ⟨hk.1.1, ⟨hk.2, ⟨hk.1.2.1, hk.1.2.2⟩⟩⟩)⟩, ⟨by apply vq; exact Kd.V_mono HO_270001.out (fun _ hk => ⟨hk.1.1, ⟨hk.2, ⟨hk.1.2.1, hk.1.2.2⟩⟩⟩)⟩, ⟨by refine bq ?_; exact BK269.out⟩, ⟨by refine bq ?_; exact BK270.out⟩, ⟨by exact wq HB.out⟩⟩
    ·
     rw [if_neg c9] at H
     exact absurd H (by simp)
   ·
    rw [if_neg c7] at H
    have c7b0 : decide (0 < (x6_1.length : Int)) = false := decide_eq_false c7
    have c7b1 : decide (0 < x6_1.length) = false := decide_eq_false (by omega)
    clear c7
    have H' := Aside0.mk H
    clear H
    obtain ⟨Ao13, co13, eo13⟩ := Kd.V_slice HO_6.out
    subst eo13
    obtain ⟨Ao14, co14, eo14⟩ := Kd.R_slice HO_5.out
    subst eo14
    go_wp2
    go_loopg [9, 10, 11] k1 (fun kq v9 v10 v11 w' => ∃ (x9_2 : List Int) (x10_2 : List Int) (x11_2 : Int), v11 = .int .i64 x11_2 ∧ Aside0 (pointillistref01_Floor.l1 kq l1 x5_1 x9_2 x10_2 x11_2 a0_0 l0_1 = some (r1, r2)) ∧ Aside0 (kq ≤ k1) ∧ Aside0 (Kd.R (Kd.int .i64) 3 w' w.heap.size (fun k_ => (w.heap.size ≤ k_)) (.slice Ao14 x5_1.length co14) x5_1) ∧ Aside0 (Kd.V (Kd.int .i64) 3 w' w.heap.size (fun k_ => (P0_1_ k_ ∨ w.heap.size ≤ k_) ∧ some k_ ≠ ((.slice Ao14 x5_1.length co14) : Value).ownBlock ∧ k_ ≠ gb269 ∧ k_ ≠ gb270) v9 x9_2) ∧ Aside0 (Kd.V (Kd.int .i64) 3 w' w.heap.size (fun k_ => (P0_1_ k_ ∨ w.heap.size ≤ k_) ∧ some k_ ≠ ((.slice Ao14 x5_1.length co14) : Value).ownBlock ∧ k_ ≠ gb269 ∧ k_ ≠ gb270) v10 x10_2) ∧ Aside0 (Kd.V (Kd.int .i64) 3 w' w.heap.size (fun k_ => (P0_1_ k_ ∨ w.heap.size ≤ k_) ∧ some k_ ≠ ((.slice Ao14 x5_1.length co14) : Value).ownBlock ∧ k_ ≠ gb269 ∧ k_ ≠ gb270) (.slice A0_1 l0_1.length c0_1) l0_1) ∧ Aside0 (w'.heap[gb269]? = some (.cells #[.bool a0_0, (.slice A0_1 l0_1.length c0_1)] 69 (0, 0))) ∧ Aside0 (w'.heap[gb270]? = some (.cells #[.bool false, (.slice none 0 0)] 69 (0, 0))) ∧ Aside0 (Below w.heap.size w w'))
    case atStart => exact ⟨(([] : List Int)), (([] : List Int)), (wrap64 ((x5_1.length : Int) - 1)), (by first | rfl | (simp; done) | (simp [*]; done)), H', ⟨Nat.le_refl _⟩, ⟨by apply rq; exact HO_5.out⟩, ⟨Kd.V_nil _ _ _ _ _⟩, ⟨Kd.V_nil _ _ _ _ _⟩, ⟨by apply vq; exact HO_270001.out⟩, ⟨by refine bq ?_; exact BK269.out⟩, ⟨by refine bq ?_; exact BK270.out⟩, ⟨by exact wq HB.out⟩⟩
    case round =>
     clear H'
     try clear c1
     try clear p2
     try clear c5
     try clear p6
     try clear c7
     try clear c7b0
     try clear c7b1
     try clear c9
     try clear hcz6_0
     try clear hcz6_1
     try clear hfz6_0
     try clear hfz6_1
     try clear p2
     obtain ⟨x9_2, x10_2, x11_2, rfl, HA, HK2, HO_5, HO_9, HO_10, HO_270001, BK269, BK270, HB⟩ := hrel
     cases gk with
     | zero => exact absurd HA.out (by simp [pointillistref01_Floor.l1])
     | succ k2 =>
      have H := HA.out
      clear HA
      simp only [pointillistref01_Floor.l1] at H
      by_cases c15 : x11_2 ≥ 0
      ·
       rw [if_pos c15] at H
       have c15b0 : decide (0 ≤ x11_2) = true := decide_eq_true c15
       clear c15
       replace H := Option.bind_eq_some_iff.mp H
       obtain ⟨t284, A160, H⟩ := H
       replace H : ((pointillistref01_plus.f k2 x10_2 x10_2).bind fun t287 => (if 0 ≤ x11_2 then (if x11_2 < (x5_1.length : Int) then (if (rd x5_1 x11_2) = 1 then ((pointillistref01_plus.f k2 t287 (([1] : List Int))).bind fun t294 => (pointillistref01_Floor.j2 k2 l1 x5_1 t284 t294 x11_2 a0_0 l0_1)) else (pointillistref01_Floor.j2 k2 l1 x5_1 t284 t287 x11_2 a0_0 l0_1)) else (none)) else (none))) = some (r1, r2) := H
       have A16 := Aside0.mk A160
       clear A160
       replace H := Option.bind_eq_some_iff.mp H
       obtain ⟨t287, A170, H⟩ := H
       replace H : (if 0 ≤ x11_2 then (if x11_2 < (x5_1.length : Int) then (if (rd x5_1 x11_2) = 1 then ((pointillistref01_plus.f k2 t287 (([1] : List Int))).bind fun t294 => (pointillistref01_Floor.j2 k2 l1 x5_1 t284 t294 x11_2 a0_0 l0_1)) else (pointillistref01_Floor.j2 k2 l1 x5_1 t284 t287 x11_2 a0_0 l0_1)) else (none)) else (none)) = some (r1, r2) := H
       have A17 := Aside0.mk A170
       clear A170
       by_cases c18 : 0 ≤ x11_2
       ·
        rw [if_pos c18] at H
        have c18b0 : decide (0 ≤ x11_2) = true := decide_eq_true c18
        clear c18
        by_cases c19 : x11_2 < (x5_1.length : Int)
        ·
         rw [if_pos c19] at H
         have c19b0 : decide (x11_2 < (x5_1.length : Int)) = true := decide_eq_true c19
         clear c19
         have HC20 := Aside0.mk H
         clear H
         obtain ⟨Ao21, co21, eo21⟩ := Kd.V_slice HO_9.out
         subst eo21
         go_upto_if 44 with (first | ((with_reducible refine gate_callee (f := 51) rfl ?_); refine goesL_ (some 36) rfl rfl Tryd.func51 (by kernel_rfl) rfl #[.slice Ao21 x9_2.length co21, .slice Ao21 x9_2.length co21] rfl (by (try simp only [List.map_toArray, List.map_cons, List.map_nil]); first | done | rfl | (simp only [List.length_drop, List.length_take]; rfl)) ?_; (with_reducible refine (pointillistref01_plus.calls k2 _ _ x9_2 _ _ x9_2 t284 _ ?side1 ?side2 ?side3 ?side4 A16.out).mono ?_); (case side1 => exact cq (Kd.V_reads' HO_9.out).2.2); (case side2 => exact (Kd.V_reads' HO_9.out).2.1); (case side3 => exact cq (Kd.V_reads' HO_9.out).2.2); (case side4 => exact (Kd.V_reads' HO_9.out).2.1); rintro e w22 ⟨v285, rfl, ho0, hb⟩; refine ⟨_, rfl, ?_⟩; have n0_ := Aside0.mk (Kd.R_below (rq HO_5.out) hb); have n1_ := Aside0.mk (Kd.V_below (vq HO_9.out) hb); have n2_ := Aside0.mk (Kd.V_below (vq HO_10.out) hb); have n3_ := Aside0.mk (Kd.V_below (vq HO_270001.out) hb); have n4_ := Aside0.mk (Kd.V_lower (Kd.V_mono (ok' := fun k_ => (P0_1_ k_ ∨ w.heap.size ≤ k_) ∧ some k_ ≠ (.slice Ao14 x5_1.length co14 : Value).ownBlock ∧ k_ ≠ gb269 ∧ k_ ≠ gb270) ho0 (fun k_ hk_ => ⟨(.inr (Nat.le_trans (below_size (wq HB.out)) hk_)), (Kd.fresh' (Kd.R_lt (rq HO_5.out)) k_ hk_), (Kd.freshB (bq BK269.out) k_ hk_), (Kd.freshB (bq BK270.out) k_ hk_)⟩)) (below_size (wq HB.out))); have n5_ := Aside0.mk (blk_below (bq BK269.out) hb); have n6_ := Aside0.mk (blk_below (bq BK270.out) hb); have n7_ := Aside0.mk (below_step (wq HB.out) hb); clear HO_5 HO_9 HO_10 HO_270001; clear BK269 BK270 HB; have HO_5 := n0_; have HO_9 := n1_; have HO_10 := n2_; have HO_270001 := n3_; have HO286 := n4_; have BK269 := n5_; have BK270 := n6_; have HB := n7_; clear n0_ n1_ n2_ n3_ n4_ n5_ n6_ n7_; (try clear hb); (try clear hb2); (try clear hk); (try clear hi); (try clear ho0); obtain ⟨Ao23, co23, eo23⟩ := Kd.V_slice HO_10.out; subst eo23) | ((with_reducible refine gate_callee (f := 51) rfl ?_); refine goesL_ (some 39) rfl rfl Tryd.func51 (by kernel_rfl) rfl #[.slice Ao23 x10_2.length co23, .slice Ao23 x10_2.length co23] rfl (by (try simp only [List.map_toArray, List.map_cons, List.map_nil]); first | done | rfl | (simp only [List.length_drop, List.length_take]; rfl)) ?_; (with_reducible refine (pointillistref01_plus.calls k2 _ _ x10_2 _ _ x10_2 t287 _ ?side1 ?side2 ?side3 ?side4 A17.out).mono ?_); (case side1 => exact cq (Kd.V_reads' HO_10.out).2.2); (case side2 => exact (Kd.V_reads' HO_10.out).2.1); (case side3 => exact cq (Kd.V_reads' HO_10.out).2.2); (case side4 => exact (Kd.V_reads' HO_10.out).2.1); rintro e w24 ⟨v288, rfl, ho0, hb⟩; refine ⟨_, rfl, ?_⟩; have n0_ := Aside0.mk (Kd.R_below (rq HO_5.out) hb); have n1_ := Aside0.mk (Kd.V_below (vq HO_9.out) hb); have n2_ := Aside0.mk (Kd.V_below (vq HO_10.out) hb); have n3_ := Aside0.mk (Kd.V_below (vq HO_270001.out) hb); have n4_ := Aside0.mk (Kd.V_below (vq HO286.out) hb); have n5_ := Aside0.mk (Kd.V_lower (Kd.V_mono (ok' := fun k_ => (P0_1_ k_ ∨ w.heap.size ≤ k_) ∧ some k_ ≠ (.slice Ao14 x5_1.length co14 : Value).ownBlock ∧ k_ ≠ gb269 ∧ k_ ≠ gb270) ho0 (fun k_ hk_ => ⟨(.inr (Nat.le_trans (below_size (wq HB.out)) hk_)), (Kd.fresh' (Kd.R_lt (rq HO_5.out)) k_ hk_), (Kd.freshB (bq BK269.out) k_ hk_), (Kd.freshB (bq BK270.out) k_ hk_)⟩)) (below_size (wq HB.out))); have n6_ := Aside0.mk (blk_below (bq BK269.out) hb); have n7_ := Aside0.mk (blk_below (bq BK270.out) hb); have n8_ := Aside0.mk (below_step (wq HB.out) hb); clear HO_5 HO_9 HO_10 HO_270001; clear HO286 BK269 BK270 HB; have HO_5 := n0_; have HO_9 := n1_; have HO_10 := n2_; have HO_270001 := n3_; have HO286 := n4_; have HO289 := n5_; have BK269 := n6_; have BK270 := n7_; have HB := n8_; clear n0_ n1_ n2_ n3_ n4_ n5_ n6_ n7_ n8_; (try clear hb); (try clear hb2); (try clear hk); (try clear hi); (try clear ho0); have p290 : 0 ≤ (x11_2 : Int) := of_decide_eq_true (by first | (with_reducible assumption) | assumption); have q290 : x11_2 < (x5_1.length : Int) := of_decide_eq_true (by first | (with_reducible assumption) | assumption); obtain ⟨ad290, e290, hx290_0⟩ := Kd.at_int (Kd.R_reads' HO_5.out).2.2 x11_2 p290 q290; cases e290; replace p290 := eq_true p290; replace q290 := eq_true q290))
         (try simp only [apz])
         go_cut [10] (fun v10 wc => ∃ (kq : Nat) (x10_19 : List Int), Aside0 (pointillistref01_Floor.j2 kq l1 x5_1 t284 x10_19 x11_2 a0_0 l0_1 = some (r1, r2)) ∧ Aside0 (kq ≤ k2) ∧ Aside0 (Kd.R (Kd.int .i64) 3 wc w.heap.size (fun k_ => (w.heap.size ≤ k_)) (.slice (some ad290) x5_1.length co14) x5_1) ∧ Aside0 (Kd.V (Kd.int .i64) 3 wc w.heap.size (fun k_ => (P0_1_ k_ ∨ w.heap.size ≤ k_) ∧ some k_ ≠ ((.slice (some ad290) x5_1.length co14) : Value).ownBlock ∧ k_ ≠ gb269 ∧ k_ ≠ gb270) v285 t284) ∧ Aside0 (Kd.V (Kd.int .i64) 3 wc w.heap.size (fun k_ => (P0_1_ k_ ∨ w.heap.size ≤ k_) ∧ some k_ ≠ ((.slice (some ad290) x5_1.length co14) : Value).ownBlock ∧ k_ ≠ gb269 ∧ k_ ≠ gb270) v10 x10_19) ∧ Aside0 (Kd.V (Kd.int .i64) 3 wc w.heap.size (fun k_ => (P0_1_ k_ ∨ w.heap.size ≤ k_) ∧ some k_ ≠ ((.slice (some ad290) x5_1.length co14) : Value).ownBlock ∧ k_ ≠ gb269 ∧ k_ ≠ gb270) (.slice A0_1 l0_1.length c0_1) l0_1) ∧ Aside0 (wc.heap[gb269]? = some (.cells #[.bool a0_0, (.slice A0_1 l0_1.length c0_1)] 69 (0, 0))) ∧ Aside0 (wc.heap[gb270]? = some (.cells #[.bool false, (.slice none 0 0)] 69 (0, 0))) ∧ Aside0 (Below w.heap.size w wc))
         case first =>
          have H := HC20.out
          clear HC20
          by_cases c25 : (rd x5_1 x11_2) = 1
          ·
           rw [if_pos c25] at H
           have c25b0 : ((rd x5_1 x11_2) == 1) = true := beq_iff_eq.mpr c25
           have c25b1 : ((rd x5_1 x11_2) != 1) = false := bne_eq_false_iff_eq.mpr c25
           clear c25
           (first | rw [c25b0] | (simp only [i64_w, i32_w]; rw [c25b0]) | skip)
           obtain ⟨y291, hy291⟩ : ∃ y_ : List Int, y_ = (([1] : List Int)) := ⟨_, rfl⟩
           replace H : ((pointillistref01_plus.f k2 t287 y291).bind fun t294 => (pointillistref01_Floor.j2 k2 l1 x5_1 t284 t294 x11_2 a0_0 l0_1)) = some (r1, r2) := by first | (rw [hy291]; with_reducible exact H) | (have H2_ := (Option.bind_some _ _).symm.trans H; rw [hy291]; with_reducible exact H2_) | (have H2_ := (Option.bind_some _ _).symm.trans H; with_reducible exact H2_) | with_reducible exact H | (rw [hy291]; exact H) | exact H
           have Ny291 := Aside0.mk hy291
           clear hy291
           replace H := Option.bind_eq_some_iff.mp H
           obtain ⟨t294, A260, H⟩ := H
           replace H : (pointillistref01_Floor.j2 k2 l1 x5_1 t284 t294 x11_2 a0_0 l0_1) = some (r1, r2) := H
           have A26 := Aside0.mk A260
           clear A260
           have H' := Aside0.mk H
           clear H
           go_wp2_with (first | ((with_reducible refine gate_dst (N := 46) rfl ?_); (try (refine gate_guard (by rfl) ?_; dsimp only)); refine Kd.R_lit (Kd.int .i64) _ 3 ?hg (N := 46) ?hd (xs := ([1] : List Int)) (inner := [.int .i64 1]) (ok := fun _ => True) (okp := fun _ => True) ?hr ?hp (fun _ hk => hk) trivial (Below.refl _ _) (Nat.le_refl _) (by simp) ?_; (case hd => rfl); (case hg => rfl); (case hr => first | (go_simp; done) | (go_simp; rfl)); (case hp => exact (Reps.one (show Kd.M (Kd.int .i64) _ _ _ 1 [.int .i64 1] from rfl) (Reps.none _ _))); intro v292 w27 ho28 hb hg_ hnew_; clear hg_ hnew_; (first | rw [← Ny291.out] at ho28 | (simp only [Int.reduceToNat] at ho28; rw [← Ny291.out] at ho28)); have n0_ := Aside0.mk (Kd.R_elder' (rq HO_5.out) (Kd.R_base ho28) hb); have n1_ := Aside0.mk (Kd.V_elder' (vq HO_9.out) (Kd.R_base ho28) hb); have n2_ := Aside0.mk (Kd.V_elder' (vq HO_10.out) (Kd.R_base ho28) hb); have n3_ := Aside0.mk (Kd.V_elder' (vq HO_270001.out) (Kd.R_base ho28) hb); have n4_ := Aside0.mk (Kd.V_elder' (vq HO286.out) (Kd.R_base ho28) hb); have n5_ := Aside0.mk (Kd.V_elder' (vq HO289.out) (Kd.R_base ho28) hb); have n6_ := Aside0.mk (Kd.R_lower (Kd.R_new' (Kd.R_newM (M := fun k_ => (w.heap.size ≤ k_)) ho28 (below_size (wq HB.out)) (fun k_ h_ => h_)) (Kd.R_lt (rq HO_5.out))) (below_size (wq HB.out))); have n7_ := Aside0.mk (blk_below (bq BK269.out) hb); have n8_ := Aside0.mk (blk_below (bq BK270.out) hb); have n9_ := Aside0.mk (below_step (wq HB.out) hb); clear HO_5 HO_9 HO_10 HO_270001; clear HO286 HO289 BK269 BK270; clear HB; have HO_5 := n0_; have HO_9 := n1_; have HO_10 := n2_; have HO_270001 := n3_; have HO286 := n4_; have HO289 := n5_; have HO293 := n6_; have BK269 := n7_; have BK270 := n8_; have HB := n9_; clear n0_ n1_ n2_ n3_ n4_ n5_ n6_ n7_ n8_ n9_ hb ho28; obtain ⟨Ao29, co29, eo29⟩ := Kd.V_slice HO289.out; subst eo29; obtain ⟨Ao30, co30, eo30⟩ := Kd.R_slice HO293.out; subst eo30) | ((with_reducible refine gate_callee (f := 51) rfl ?_); refine goesL_ (some 47) rfl rfl Tryd.func51 (by kernel_rfl) rfl #[.slice Ao29 t287.length co29, .slice Ao30 y291.length co30] rfl (by (try simp only [List.map_toArray, List.map_cons, List.map_nil]); first | done | rfl | (simp only [List.length_drop, List.length_take]; rfl)) ?_; (with_reducible refine (pointillistref01_plus.calls k2 _ _ t287 _ _ y291 t294 _ ?side1 ?side2 ?side3 ?side4 A26.out).mono ?_); (case side1 => exact cq (Kd.V_reads' HO289.out).2.2); (case side2 => exact (Kd.V_reads' HO289.out).2.1); (case side3 => exact cq (Kd.R_reads' HO293.out).2.2); (case side4 => exact (Kd.R_reads' HO293.out).2.1); rintro e w31 ⟨v295, rfl, ho0, hb⟩; refine ⟨_, rfl, ?_⟩; have n0_ := Aside0.mk (Kd.R_below (rq HO_5.out) hb); have n1_ := Aside0.mk (Kd.V_below (vq HO_9.out) hb); have n2_ := Aside0.mk (Kd.V_below (vq HO_10.out) hb); have n3_ := Aside0.mk (Kd.V_below (vq HO_270001.out) hb); have n4_ := Aside0.mk (Kd.V_below (vq HO286.out) hb); have n5_ := Aside0.mk (Kd.V_below (vq HO289.out) hb); have n6_ := Aside0.mk (Kd.R_below (rq HO293.out) hb); have n7_ := Aside0.mk (Kd.V_lower (Kd.V_mono (ok' := fun k_ => (P0_1_ k_ ∨ w.heap.size ≤ k_) ∧ some k_ ≠ (.slice (some ad290) x5_1.length co14 : Value).ownBlock ∧ some k_ ≠ (.slice Ao30 y291.length co30 : Value).ownBlock ∧ k_ ≠ gb269 ∧ k_ ≠ gb270) ho0 (fun k_ hk_ => ⟨(.inr (Nat.le_trans (below_size (wq HB.out)) hk_)), (Kd.fresh' (Kd.R_lt (rq HO_5.out)) k_ hk_), (Kd.fresh' (Kd.R_lt (rq HO293.out)) k_ hk_), (Kd.freshB (bq BK269.out) k_ hk_), (Kd.freshB (bq BK270.out) k_ hk_)⟩)) (below_size (wq HB.out))); have n8_ := Aside0.mk (blk_below (bq BK269.out) hb); have n9_ := Aside0.mk (blk_below (bq BK270.out) hb); have n10_ := Aside0.mk (below_step (wq HB.out) hb); clear HO_5 HO_9 HO_10 HO_270001; clear HO286 HO289 HO293 BK269; clear BK270 HB; have HO_5 := n0_; have HO_9 := n1_; have HO_10 := n2_; have HO_270001 := n3_; have HO286 := n4_; have HO289 := n5_; have HO293 := n6_; have HO296 := n7_; have BK269 := n8_; have BK270 := n9_; have HB := n10_; clear n0_ n1_ n2_ n3_ n4_ n5_ n6_ n7_ n8_ n9_ n10_; (try clear hb); (try clear hb2); (try clear hk); (try clear hi); (try clear ho0)))
           go_meet
           case rel => exact ⟨_, (t294), H', ⟨by have := HK1.out; have := HK2.out; first | omega | exact Nat.le_refl _⟩, ⟨by apply rq; exact Kd.R_mono HO_5.out (fun _ hk => hk.1)⟩, ⟨by apply vq; exact Kd.V_mono HO286.out (fun _ hk => ⟨hk.1.1, ⟨hk.1.2.1, ⟨hk.1.2.2.1, hk.1.2.2.2⟩⟩⟩)⟩, ⟨by apply vq; exact Kd.V_mono HO296.out (fun _ hk => ⟨hk.1, ⟨hk.2.1, ⟨hk.2.2.2.1, hk.2.2.2.2⟩⟩⟩)⟩, ⟨by apply vq; exact Kd.V_mono HO_270001.out (fun _ hk => ⟨hk.1.1, ⟨hk.1.2.1, ⟨hk.1.2.2.1, hk.1.2.2.2⟩⟩⟩)⟩, ⟨by refine bq ?_; exact BK269.out⟩, ⟨by refine bq ?_; exact BK270.out⟩, ⟨by exact wq HB.out⟩⟩
          ·
           rw [if_neg c25] at H
           have c25b0 : ((rd x5_1 x11_2) == 1) = false := beq_eq_false_iff_ne.mpr c25
           have c25b1 : ((rd x5_1 x11_2) != 1) = true := bne_iff_ne.mpr c25
           (first | rw [c25b0] | (simp only [i64_w, i32_w]; rw [c25b0]) | skip)
           have H' := Aside0.mk H
           clear H
           go_wp2
           go_meet
           case rel => exact ⟨_, (t287), H', ⟨by have := HK1.out; have := HK2.out; first | omega | exact Nat.le_refl _⟩, ⟨by apply rq; exact HO_5.out⟩, ⟨by apply vq; exact HO286.out⟩, ⟨by apply vq; exact HO289.out⟩, ⟨by apply vq; exact HO_270001.out⟩, ⟨by refine bq ?_; exact BK269.out⟩, ⟨by refine bq ?_; exact BK270.out⟩, ⟨by exact wq HB.out⟩⟩
         case rest =>
          clear HC20
          try clear c1
          try clear c2
          try clear p2
          try clear q2
          try clear hx2
          try clear c5
          try clear p6
          try clear c7
          try clear c7b0
          try clear c7b1
          try clear c9
          try clear c15
          try clear c15b0
          try clear c18
          try clear c18b0
          try clear c19
          try clear c19b0
          try clear c25
          try clear c25b0
          try clear c25b1
          try clear p29
          try clear q29
          try clear hx29
          try clear hcz6_0
          try clear hcz6_1
          try clear hfz6_0
          try clear hfz6_1
          try clear hx290_0
          try clear p2
          try clear p290
          try clear p6
          try clear q290
          obtain ⟨kq, x10_19, HA, HJ19, HO_5, HO_9, HO_10, HO_270001, BK269, BK270, HB⟩ := hcut
          cases kq with
          | zero => exact absurd HA.out (by simp [pointillistref01_Floor.j2])
          | succ kj19 =>
           have H := HA.out
           clear HA
           simp only [pointillistref01_Floor.j2] at H
           replace H := Option.bind_eq_some_iff.mp H
           obtain ⟨t297, A320, H⟩ := H
           replace H : (if t297 = true then (pointillistref01_Floor.l1 kj19 l1 x5_1 t284 x10_19 (wrap64 (x11_2 - 1)) a0_0 l0_1) else ((pointillistref01_minus.f kj19 x10_19 l1).bind fun t298 => ((pointillistref01_plus.f kj19 t284 (([1] : List Int))).bind fun t304 => (pointillistref01_Floor.l1 kj19 l1 x5_1 t304 t298 (wrap64 (x11_2 - 1)) a0_0 l0_1)))) = some (r1, r2) := H
           have A32 := Aside0.mk A320
           clear A320
           by_cases c33 : t297 = true
           ·
            subst c33
            have H1 : (pointillistref01_Floor.l1 kj19 l1 x5_1 t284 x10_19 (wrap64 (x11_2 - 1)) a0_0 l0_1) = some (r1, r2) := by rw [if_pos rfl] at H; exact H
            clear H
            have H := H1
            clear H1
            have H' := Aside0.mk H
            clear H
            obtain ⟨Ao34, co34, eo34⟩ := Kd.V_slice HO_10.out
            subst eo34
            go_wp2_with (first | ((with_reducible refine gate_callee (f := 57) rfl ?_); refine goesL_ (some 50) rfl rfl Tryd.func57 (by kernel_rfl) rfl #[.slice Ao34 x10_19.length co34, .slice A1 l1.length c1] rfl (by (try simp only [List.map_toArray, List.map_cons, List.map_nil]); first | done | rfl | (simp only [List.length_drop, List.length_take]; rfl)) ?_; (with_reducible refine (pointillistref01_less.calls kj19 _ _ x10_19 _ _ l1 true _ ?side1 ?side2 ?side3 ?side4 A32.out).mono ?_); (case side1 => exact cq (Kd.V_reads' HO_10.out).2.2); (case side2 => exact (Kd.V_reads' HO_10.out).2.1); (case side3 => exact cq (Kd.C_below HR1.out HB.out)); (case side4 => exact HC1.out); rintro e w' ⟨rfl, ⟨nd, rfl⟩⟩; refine ⟨_, rfl, ?_⟩))
            go_roundg kj19
            case measure => have := HK1.out; have := HK2.out; have := HJ19.out; omega
            case rel => exact ⟨(t284), (x10_19), (wrap64 (x11_2 - 1)), (by first | rfl | (simp; done) | (simp [*]; done)), H', ⟨by have := HK1.out; have := HK2.out; have := HJ19.out; omega⟩, ⟨by apply rq; exact HO_5.out⟩, ⟨by apply vq; exact HO_9.out⟩, ⟨by apply vq; exact HO_10.out⟩, ⟨by apply vq; exact HO_270001.out⟩, ⟨by refine bq ?_; exact BK269.out⟩, ⟨by refine bq ?_; exact BK270.out⟩, ⟨by exact wq HB.out⟩⟩
           ·
            replace c33 := Bool.eq_false_iff.mpr c33
            subst c33
            have H1 : ((pointillistref01_minus.f kj19 x10_19 l1).bind fun t298 => ((pointillistref01_plus.f kj19 t284 (([1] : List Int))).bind fun t304 => (pointillistref01_Floor.l1 kj19 l1 x5_1 t304 t298 (wrap64 (x11_2 - 1)) a0_0 l0_1))) = some (r1, r2) := by rw [if_neg (show ¬ (false = true) by decide)] at H; exact H
            clear H
            have H := H1
            clear H1
            replace H := Option.bind_eq_some_iff.mp H
            obtain ⟨t298, A350, H⟩ := H
            replace H : ((pointillistref01_plus.f kj19 t284 (([1] : List Int))).bind fun t304 => (pointillistref01_Floor.l1 kj19 l1 x5_1 t304 t298 (wrap64 (x11_2 - 1)) a0_0 l0_1)) = some (r1, r2) := H
            have A35 := Aside0.mk A350
            clear A350
            obtain ⟨y301, hy301⟩ : ∃ y_ : List Int, y_ = (([1] : List Int)) := ⟨_, rfl⟩
            replace H : ((pointillistref01_plus.f kj19 t284 y301).bind fun t304 => (pointillistref01_Floor.l1 kj19 l1 x5_1 t304 t298 (wrap64 (x11_2 - 1)) a0_0 l0_1)) = some (r1, r2) := by first | (rw [hy301]; with_reducible exact H) | (have H2_ := (Option.bind_some _ _).symm.trans H; rw [hy301]; with_reducible exact H2_) | (have H2_ := (Option.bind_some _ _).symm.trans H; with_reducible exact H2_) | with_reducible exact H | (rw [hy301]; exact H) | exact H
            have Ny301 := Aside0.mk hy301
            clear hy301
            replace H := Option.bind_eq_some_iff.mp H
            obtain ⟨t304, A360, H⟩ := H
            replace H : (pointillistref01_Floor.l1 kj19 l1 x5_1 t304 t298 (wrap64 (x11_2 - 1)) a0_0 l0_1) = some (r1, r2) := H
            have A36 := Aside0.mk A360
            clear A360
            have H' := Aside0.mk H
            clear H
            obtain ⟨Ao37, co37, eo37⟩ := Kd.V_slice HO_10.out
            subst eo37
            go_wp2_with (first | ((with_reducible refine gate_callee (f := 57) rfl ?_); refine goesL_ (some 50) rfl rfl Tryd.func57 (by kernel_rfl) rfl #[.slice Ao37 x10_19.length co37, .slice A1 l1.length c1] rfl (by (try simp only [List.map_toArray, List.map_cons, List.map_nil]); first | done | rfl | (simp only [List.length_drop, List.length_take]; rfl)) ?_; (with_reducible refine (pointillistref01_less.calls kj19 _ _ x10_19 _ _ l1 false _ ?side1 ?side2 ?side3 ?side4 A32.out).mono ?_); (case side1 => exact cq (Kd.V_reads' HO_10.out).2.2); (case side2 => exact (Kd.V_reads' HO_10.out).2.1); (case side3 => exact cq (Kd.C_below HR1.out HB.out)); (case side4 => exact HC1.out); rintro e w' ⟨rfl, ⟨nd, rfl⟩⟩; refine ⟨_, rfl, ?_⟩) | ((with_reducible refine gate_callee (f := 58) rfl ?_); refine goesL_ (some 54) rfl rfl Tryd.func58 (by kernel_rfl) rfl #[.slice Ao37 x10_19.length co37, .slice A1 l1.length c1] rfl (by (try simp only [List.map_toArray, List.map_cons, List.map_nil]); first | done | rfl | (simp only [List.length_drop, List.length_take]; rfl)) ?_; (with_reducible refine (pointillistref01_minus.calls kj19 _ _ x10_19 _ _ l1 t298 _ ?side1 ?side2 ?side3 ?side4 A35.out).mono ?_); (case side1 => exact cq (Kd.V_reads' HO_10.out).2.2); (case side2 => exact (Kd.V_reads' HO_10.out).2.1); (case side3 => repeat (first | exact (Kd.C_below HR1.out (wq HB.out)) | (with_reducible refine Kd.C_alloc ?_ _) | (with_reducible refine Kd.C_drewN ?_ _) | (with_reducible refine Kd.C_drew ?_))); (case side4 => exact HC1.out); rintro e w38 ⟨v299, rfl, ho0, hb⟩; refine ⟨_, rfl, ?_⟩; have n0_ := Aside0.mk (Kd.R_below (rq HO_5.out) hb); have n1_ := Aside0.mk (Kd.V_below (vq HO_9.out) hb); have n2_ := Aside0.mk (Kd.V_below (vq HO_10.out) hb); have n3_ := Aside0.mk (Kd.V_below (vq HO_270001.out) hb); have n4_ := Aside0.mk (Kd.V_lower (Kd.V_mono (ok' := fun k_ => (P0_1_ k_ ∨ w.heap.size ≤ k_) ∧ some k_ ≠ (.slice (some ad290) x5_1.length co14 : Value).ownBlock ∧ k_ ≠ gb269 ∧ k_ ≠ gb270) ho0 (fun k_ hk_ => ⟨(.inr (Nat.le_trans (below_size (wq HB.out)) hk_)), (Kd.fresh' (Kd.R_lt (rq HO_5.out)) k_ hk_), (Kd.freshB (bq BK269.out) k_ hk_), (Kd.freshB (bq BK270.out) k_ hk_)⟩)) (below_size (wq HB.out))); have n5_ := Aside0.mk (blk_below (bq BK269.out) hb); have n6_ := Aside0.mk (blk_below (bq BK270.out) hb); have n7_ := Aside0.mk (below_step (wq HB.out) hb); clear HO_5 HO_9 HO_10 HO_270001; clear BK269 BK270 HB; have HO_5 := n0_; have HO_9 := n1_; have HO_10 := n2_; have HO_270001 := n3_; have HO300 := n4_; have BK269 := n5_; have BK270 := n6_; have HB := n7_; clear n0_ n1_ n2_ n3_ n4_ n5_ n6_ n7_; (try clear hb); (try clear hb2); (try clear hk); (try clear hi); (try clear ho0)) | ((with_reducible refine gate_dst (N := 56) rfl ?_); (try (refine gate_guard (by rfl) ?_; dsimp only)); refine Kd.R_lit (Kd.int .i64) _ 3 ?hg (N := 56) ?hd (xs := ([1] : List Int)) (inner := [.int .i64 1]) (ok := fun _ => True) (okp := fun _ => True) ?hr ?hp (fun _ hk => hk) trivial (Below.refl _ _) (Nat.le_refl _) (by simp) ?_; (case hd => rfl); (case hg => rfl); (case hr => first | (go_simp; done) | (go_simp; rfl)); (case hp => exact (Reps.one (show Kd.M (Kd.int .i64) _ _ _ 1 [.int .i64 1] from rfl) (Reps.none _ _))); intro v302 w39 ho40 hb hg_ hnew_; clear hg_ hnew_; (first | rw [← Ny301.out] at ho40 | (simp only [Int.reduceToNat] at ho40; rw [← Ny301.out] at ho40)); have n0_ := Aside0.mk (Kd.R_elder' (rq HO_5.out) (Kd.R_base ho40) hb); have n1_ := Aside0.mk (Kd.V_elder' (vq HO_9.out) (Kd.R_base ho40) hb); have n2_ := Aside0.mk (Kd.V_elder' (vq HO_10.out) (Kd.R_base ho40) hb); have n3_ := Aside0.mk (Kd.V_elder' (vq HO_270001.out) (Kd.R_base ho40) hb); have n4_ := Aside0.mk (Kd.V_elder' (vq HO300.out) (Kd.R_base ho40) hb); have n5_ := Aside0.mk (Kd.R_lower (Kd.R_new' (Kd.R_newM (M := fun k_ => (w.heap.size ≤ k_)) ho40 (below_size (wq HB.out)) (fun k_ h_ => h_)) (Kd.R_lt (rq HO_5.out))) (below_size (wq HB.out))); have n6_ := Aside0.mk (blk_below (bq BK269.out) hb); have n7_ := Aside0.mk (blk_below (bq BK270.out) hb); have n8_ := Aside0.mk (below_step (wq HB.out) hb); clear HO_5 HO_9 HO_10 HO_270001; clear HO300 BK269 BK270 HB; have HO_5 := n0_; have HO_9 := n1_; have HO_10 := n2_; have HO_270001 := n3_; have HO300 := n4_; have HO303 := n5_; have BK269 := n6_; have BK270 := n7_; have HB := n8_; clear n0_ n1_ n2_ n3_ n4_ n5_ n6_ n7_ n8_ hb ho40; obtain ⟨Ao41, co41, eo41⟩ := Kd.V_slice HO_9.out; subst eo41; obtain ⟨Ao42, co42, eo42⟩ := Kd.R_slice HO303.out; subst eo42) | ((with_reducible refine gate_callee (f := 51) rfl ?_); refine goesL_ (some 57) rfl rfl Tryd.func51 (by kernel_rfl) rfl #[.slice Ao41 t284.length co41, .slice Ao42 y301.length co42] rfl (by (try simp only [List.map_toArray, List.map_cons, List.map_nil]); first | done | rfl | (simp only [List.length_drop, List.length_take]; rfl)) ?_; (with_reducible refine (pointillistref01_plus.calls kj19 _ _ t284 _ _ y301 t304 _ ?side1 ?side2 ?side3 ?side4 A36.out).mono ?_); (case side1 => exact cq (Kd.V_reads' HO_9.out).2.2); (case side2 => exact (Kd.V_reads' HO_9.out).2.1); (case side3 => exact cq (Kd.R_reads' HO303.out).2.2); (case side4 => exact (Kd.R_reads' HO303.out).2.1); rintro e w43 ⟨v305, rfl, ho0, hb⟩; refine ⟨_, rfl, ?_⟩; have n0_ := Aside0.mk (Kd.R_below (rq HO_5.out) hb); have n1_ := Aside0.mk (Kd.V_below (vq HO_9.out) hb); have n2_ := Aside0.mk (Kd.V_below (vq HO_10.out) hb); have n3_ := Aside0.mk (Kd.V_below (vq HO_270001.out) hb); have n4_ := Aside0.mk (Kd.V_below (vq HO300.out) hb); have n5_ := Aside0.mk (Kd.R_below (rq HO303.out) hb); have n6_ := Aside0.mk (Kd.V_lower (Kd.V_mono (ok' := fun k_ => (P0_1_ k_ ∨ w.heap.size ≤ k_) ∧ some k_ ≠ (.slice (some ad290) x5_1.length co14 : Value).ownBlock ∧ some k_ ≠ (.slice Ao42 y301.length co42 : Value).ownBlock ∧ k_ ≠ gb269 ∧ k_ ≠ gb270) ho0 (fun k_ hk_ => ⟨(.inr (Nat.le_trans (below_size (wq HB.out)) hk_)), (Kd.fresh' (Kd.R_lt (rq HO_5.out)) k_ hk_), (Kd.fresh' (Kd.R_lt (rq HO303.out)) k_ hk_), (Kd.freshB (bq BK269.out) k_ hk_), (Kd.freshB (bq BK270.out) k_ hk_)⟩)) (below_size (wq HB.out))); have n7_ := Aside0.mk (blk_below (bq BK269.out) hb); have n8_ := Aside0.mk (blk_below (bq BK270.out) hb); have n9_ := Aside0.mk (below_step (wq HB.out) hb); clear HO_5 HO_9 HO_10 HO_270001; clear HO300 HO303 BK269 BK270; clear HB; have HO_5 := n0_; have HO_9 := n1_; have HO_10 := n2_; have HO_270001 := n3_; have HO300 := n4_; have HO303 := n5_; have HO306 := n6_; have BK269 := n7_; have BK270 := n8_; have HB := n9_; clear n0_ n1_ n2_ n3_ n4_ n5_ n6_ n7_ n8_ n9_; (try clear hb); (try clear hb2); (try clear hk); (try clear hi); (try clear ho0)))
            go_roundg kj19
            case measure => have := HK1.out; have := HK2.out; have := HJ19.out; omega
            case rel => exact ⟨(t304), (t298), (wrap64 (x11_2 - 1)), (by first | rfl | (simp; done) | (simp [*]; done)), H', ⟨by have := HK1.out; have := HK2.out; have := HJ19.out; omega⟩, ⟨by apply rq; exact Kd.R_mono HO_5.out (fun _ hk => hk.1)⟩, ⟨by apply vq; exact Kd.V_mono HO306.out (fun _ hk => ⟨hk.1, ⟨hk.2.1, ⟨hk.2.2.2.1, hk.2.2.2.2⟩⟩⟩)⟩, ⟨by apply vq; exact Kd.V_mono HO300.out (fun _ hk => ⟨hk.1.1, ⟨hk.1.2.1, ⟨hk.1.2.2.1, hk.1.2.2.2⟩⟩⟩)⟩, ⟨by apply vq; exact Kd.V_mono HO_270001.out (fun _ hk => ⟨hk.1.1, ⟨hk.1.2.1, ⟨hk.1.2.2.1, hk.1.2.2.2⟩⟩⟩)⟩, ⟨by refine bq ?_; exact BK269.out⟩, ⟨by refine bq ?_; exact BK270.out⟩, ⟨by exact wq HB.out⟩⟩
        ·
         rw [if_neg c19] at H
         exact absurd H (by simp)
       ·
        rw [if_neg c18] at H
        exact absurd H (by simp)
      ·
       rw [if_neg c15] at H
       have c15b0 : decide (0 ≤ x11_2) = false := decide_eq_false c15
       clear c15
       by_cases c44 : a0_0 = true
       ·
        subst c44
        have H1 : (if (x10_2.length : Int) > 0 then ((pointillistref01_plus.f k2 x9_2 (([1] : List Int))).bind fun t281 => (some (decide (0 < t281.length), t281))) else (some (decide (0 < x9_2.length), x9_2))) = some (r1, r2) := by rw [if_pos rfl] at H; exact H
        clear H
        have H := H1
        clear H1
        by_cases c45 : (x10_2.length : Int) > 0
        ·
         rw [if_pos c45] at H
         have c45b0 : decide (0 < (x10_2.length : Int)) = true := decide_eq_true c45
         have c45b1 : decide (0 < x10_2.length) = true := decide_eq_true (by omega)
         clear c45
         obtain ⟨y278, hy278⟩ : ∃ y_ : List Int, y_ = (([1] : List Int)) := ⟨_, rfl⟩
         replace H : ((pointillistref01_plus.f k2 x9_2 y278).bind fun t281 => (some (decide (0 < t281.length), t281))) = some (r1, r2) := by first | (rw [hy278]; with_reducible exact H) | (have H2_ := (Option.bind_some _ _).symm.trans H; rw [hy278]; with_reducible exact H2_) | (have H2_ := (Option.bind_some _ _).symm.trans H; with_reducible exact H2_) | with_reducible exact H | (rw [hy278]; exact H) | exact H
         have Ny278 := Aside0.mk hy278
         clear hy278
         replace H := Option.bind_eq_some_iff.mp H
         obtain ⟨t281, A460, H⟩ := H
         replace H : (some (decide (0 < t281.length), t281)) = some (r1, r2) := H
         have A46 := Aside0.mk A460
         clear A460
         simp only [Option.some.injEq, Prod.mk.injEq] at H
         obtain ⟨rfl, rfl⟩ := H
         have hnb47 := NB269_270.out
         have hnc47 := NB270_269.out
         have hcz48_0 : wr.cell? ⟨gb269, 0, none⟩ = some (.bool true) := (blk_cell BK269.out 0).trans rfl
         have hcz48_1 : wr.cell? ⟨gb269, 1, none⟩ = some (.slice A0_1 l0_1.length c0_1) := (blk_cell BK269.out 1).trans rfl
         have hfz48_0 := blk_frozen BK269.out 0
         have hfz48_1 := blk_frozen BK269.out 1
         obtain ⟨Ao49, co49, eo49⟩ := Kd.V_slice HO_10.out
         subst eo49
         go_wp2_with (first | ((with_reducible refine gate_dst (N := 66) rfl ?_); (try (refine gate_guard (by rfl) ?_; dsimp only)); refine Kd.R_lit (Kd.int .i64) _ 3 ?hg (N := 66) ?hd (xs := ([1] : List Int)) (inner := [.int .i64 1]) (ok := fun _ => True) (okp := fun _ => True) ?hr ?hp (fun _ hk => hk) trivial (Below.refl _ _) (Nat.le_refl _) (by simp) ?_; (case hd => rfl); (case hg => rfl); (case hr => first | (go_simp; done) | (go_simp; rfl)); (case hp => exact (Reps.one (show Kd.M (Kd.int .i64) _ _ _ 1 [.int .i64 1] from rfl) (Reps.none _ _))); intro v279 w50 ho51 hb hg_ hnew_; clear hg_ hnew_; (first | rw [← Ny278.out] at ho51 | (simp only [Int.reduceToNat] at ho51; rw [← Ny278.out] at ho51)); have n0_ := Aside0.mk (Kd.R_elder' (rq HO_5.out) (Kd.R_base ho51) hb); have n1_ := Aside0.mk (Kd.V_elder' (vq HO_9.out) (Kd.R_base ho51) hb); have n2_ := Aside0.mk (Kd.V_elder' (vq HO_10.out) (Kd.R_base ho51) hb); have n3_ := Aside0.mk (Kd.V_elder' (vq HO_270001.out) (Kd.R_base ho51) hb); have n4_ := Aside0.mk (Kd.R_lower (Kd.R_new' (Kd.R_newM (M := fun k_ => (w.heap.size ≤ k_)) ho51 (below_size (wq HB.out)) (fun k_ h_ => h_)) (Kd.R_lt (rq HO_5.out))) (below_size (wq HB.out))); have n5_ := Aside0.mk (blk_below (bq BK269.out) hb); have n6_ := Aside0.mk (blk_below (bq BK270.out) hb); have n7_ := Aside0.mk (below_step (wq HB.out) hb); clear HO_5 HO_9 HO_10 HO_270001; clear BK269 BK270 HB; have HO_5 := n0_; have HO_9 := n1_; have HO_10 := n2_; have HO_270001 := n3_; have HO280 := n4_; have BK269 := n5_; have BK270 := n6_; have HB := n7_; clear n0_ n1_ n2_ n3_ n4_ n5_ n6_ n7_ hb ho51; obtain ⟨Ao52, co52, eo52⟩ := Kd.V_slice HO_9.out; subst eo52; obtain ⟨Ao53, co53, eo53⟩ := Kd.R_slice HO280.out; subst eo53) | ((with_reducible refine gate_callee (f := 51) rfl ?_); refine goesL_ (some 67) rfl rfl Tryd.func51 (by kernel_rfl) rfl #[.slice Ao52 x9_2.length co52, .slice Ao53 y278.length co53] rfl (by (try simp only [List.map_toArray, List.map_cons, List.map_nil]); first | done | rfl | (simp only [List.length_drop, List.length_take]; rfl)) ?_; (with_reducible refine (pointillistref01_plus.calls k2 _ _ x9_2 _ _ y278 t281 _ ?side1 ?side2 ?side3 ?side4 A46.out).mono ?_); (case side1 => exact cq (Kd.V_reads' HO_9.out).2.2); (case side2 => exact (Kd.V_reads' HO_9.out).2.1); (case side3 => exact cq (Kd.R_reads' HO280.out).2.2); (case side4 => exact (Kd.R_reads' HO280.out).2.1); rintro e w54 ⟨v282, rfl, ho0, hb⟩; refine ⟨_, rfl, ?_⟩; have n0_ := Aside0.mk (Kd.R_below (rq HO_5.out) hb); have n1_ := Aside0.mk (Kd.V_below (vq HO_9.out) hb); have n2_ := Aside0.mk (Kd.V_below (vq HO_10.out) hb); have n3_ := Aside0.mk (Kd.V_below (vq HO_270001.out) hb); have n4_ := Aside0.mk (Kd.R_below (rq HO280.out) hb); have n5_ := Aside0.mk (Kd.V_lower (Kd.V_mono (ok' := fun k_ => (P0_1_ k_ ∨ w.heap.size ≤ k_) ∧ some k_ ≠ (.slice Ao14 x5_1.length co14 : Value).ownBlock ∧ some k_ ≠ (.slice Ao53 y278.length co53 : Value).ownBlock ∧ k_ ≠ gb269 ∧ k_ ≠ gb270) ho0 (fun k_ hk_ => ⟨(.inr (Nat.le_trans (below_size (wq HB.out)) hk_)), (Kd.fresh' (Kd.R_lt (rq HO_5.out)) k_ hk_), (Kd.fresh' (Kd.R_lt (rq HO280.out)) k_ hk_), (Kd.freshB (bq BK269.out) k_ hk_), (Kd.freshB (bq BK270.out) k_ hk_)⟩)) (below_size (wq HB.out))); have n6_ := Aside0.mk (blk_below (bq BK269.out) hb); have n7_ := Aside0.mk (blk_below (bq BK270.out) hb); have n8_ := Aside0.mk (below_step (wq HB.out) hb); clear HO_5 HO_9 HO_10 HO_270001; clear HO280 BK269 BK270 HB; have HO_5 := n0_; have HO_9 := n1_; have HO_10 := n2_; have HO_270001 := n3_; have HO280 := n4_; have HO283 := n5_; have BK269 := n6_; have BK270 := n7_; have HB := n8_; clear n0_ n1_ n2_ n3_ n4_ n5_ n6_ n7_ n8_; (try clear hb); (try clear hb2); (try clear hk); (try clear hi); (try clear ho0); have hcz55_0 : w54.cell? ⟨gb269, 0, none⟩ = some (.bool true) := (blk_cell BK269.out 0).trans rfl; have hcz55_1 : w54.cell? ⟨gb269, 1, none⟩ = some (.slice A0_1 l0_1.length c0_1) := (blk_cell BK269.out 1).trans rfl; have hfz55_0 := blk_frozen BK269.out 0; have hfz55_1 := blk_frozen BK269.out 1; obtain ⟨Ao56, co56, eo56⟩ := Kd.V_slice HO283.out; subst eo56; have hcz57_0 : w54.cell? ⟨gb270, 0, none⟩ = some (.bool false) := (blk_cell BK270.out 0).trans rfl; have hcz57_1 : w54.cell? ⟨gb270, 1, none⟩ = some (.slice none 0 0) := (blk_cell BK270.out 1).trans rfl; have hfz57_0 := blk_frozen BK270.out 0; have hfz57_1 := blk_frozen BK270.out 1))
         refine bodyPost_ret (results_cell_row rfl _ _ gb270 69 #[.bool (decide (0 < t281.length)), .slice Ao56 t281.length co56] (0, 0) _ rfl (by refine bq ?_; refine blk_put (cs := #[.bool (decide (0 < t281.length)), .slice none 0 0]) ?_ 1 _ rfl; refine bq ?_; refine blk_put (cs := #[.bool false, .slice none 0 0]) ?_ 0 _ rfl; refine bq ?_; exact BK270.out) Tryd.underlying69 rfl (by kernel_rfl)) rfl ?_
         exact ⟨_, by first | rfl | (simp [errW_none, errW_some] <;> rfl) | (simp [*, errW_none, errW_some] <;> rfl), by apply vq; exact Kd.V_mono (Kd.V_far (p := ⟨gb270, 1, none⟩) (Kd.V_far (p := ⟨gb270, 0, none⟩) (Kd.V_mono HO283.out (fun k_ hk => (⟨hk, hk.2.2.2.2⟩ : _ ∧ k_ ≠ gb270))) (fun _ hk => hk.2) (.bool (decide (0 < t281.length)))) (fun _ hk => hk.2) (.slice Ao56 t281.length co56)) (fun _ hk => hk.1.1), by exact wq HB.out⟩
        ·
         rw [if_neg c45] at H
         have c45b0 : decide (0 < (x10_2.length : Int)) = false := decide_eq_false c45
         have c45b1 : decide (0 < x10_2.length) = false := decide_eq_false (by omega)
         clear c45
         simp only [Option.some.injEq, Prod.mk.injEq] at H
         obtain ⟨rfl, rfl⟩ := H
         have hnb58 := NB269_270.out
         have hnc58 := NB270_269.out
         have hcz59_0 : wr.cell? ⟨gb269, 0, none⟩ = some (.bool true) := (blk_cell BK269.out 0).trans rfl
         have hcz59_1 : wr.cell? ⟨gb269, 1, none⟩ = some (.slice A0_1 l0_1.length c0_1) := (blk_cell BK269.out 1).trans rfl
         have hfz59_0 := blk_frozen BK269.out 0
         have hfz59_1 := blk_frozen BK269.out 1
         obtain ⟨Ao60, co60, eo60⟩ := Kd.V_slice HO_10.out
         subst eo60
         obtain ⟨Ao61, co61, eo61⟩ := Kd.V_slice HO_9.out
         subst eo61
         have hcz62_0 : wr.cell? ⟨gb270, 0, none⟩ = some (.bool false) := (blk_cell BK270.out 0).trans rfl
         have hcz62_1 : wr.cell? ⟨gb270, 1, none⟩ = some (.slice none 0 0) := (blk_cell BK270.out 1).trans rfl
         have hfz62_0 := blk_frozen BK270.out 0
         have hfz62_1 := blk_frozen BK270.out 1
         go_wp2
         refine bodyPost_ret (results_cell_row rfl _ _ gb270 69 #[.bool (decide (0 < x9_2.length)), .slice Ao61 x9_2.length co61] (0, 0) _ rfl (by refine bq ?_; refine blk_put (cs := #[.bool (decide (0 < x9_2.length)), .slice none 0 0]) ?_ 1 _ rfl; refine bq ?_; refine blk_put (cs := #[.bool false, .slice none 0 0]) ?_ 0 _ rfl; refine bq ?_; exact BK270.out) Tryd.underlying69 rfl (by kernel_rfl)) rfl ?_
         exact ⟨_, by first | rfl | (simp [errW_none, errW_some] <;> rfl) | (simp [*, errW_none, errW_some] <;> rfl), by apply vq; exact Kd.V_mono (Kd.V_far (p := ⟨gb270, 1, none⟩) (Kd.V_far (p := ⟨gb270, 0, none⟩) (Kd.V_mono HO_9.out (fun k_ hk => (⟨hk, hk.2.2.2⟩ : _ ∧ k_ ≠ gb270))) (fun _ hk => hk.2) (.bool (decide (0 < x9_2.length)))) (fun _ hk => hk.2) (.slice Ao61 x9_2.length co61)) (fun _ hk => hk.1.1), by exact wq HB.out⟩
       ·
        replace c44 := Bool.eq_false_iff.mpr c44
        subst c44
        have H1 : (some (false, x9_2)) = some (r1, r2) := by rw [if_neg (show ¬ (false = true) by decide)] at H; exact H
        clear H
        have H := H1
        clear H1
        simp only [Option.some.injEq, Prod.mk.injEq] at H
        obtain ⟨rfl, rfl⟩ := H
        have hnb63 := NB269_270.out
        have hnc63 := NB270_269.out
        have hcz64_0 : wr.cell? ⟨gb269, 0, none⟩ = some (.bool false) := (blk_cell BK269.out 0).trans rfl
        have hcz64_1 : wr.cell? ⟨gb269, 1, none⟩ = some (.slice A0_1 l0_1.length c0_1) := (blk_cell BK269.out 1).trans rfl
        have hfz64_0 := blk_frozen BK269.out 0
        have hfz64_1 := blk_frozen BK269.out 1
        obtain ⟨Ao65, co65, eo65⟩ := Kd.V_slice HO_9.out
        subst eo65
        have hcz66_0 : wr.cell? ⟨gb270, 0, none⟩ = some (.bool false) := (blk_cell BK270.out 0).trans rfl
        have hcz66_1 : wr.cell? ⟨gb270, 1, none⟩ = some (.slice none 0 0) := (blk_cell BK270.out 1).trans rfl
        have hfz66_0 := blk_frozen BK270.out 0
        have hfz66_1 := blk_frozen BK270.out 1
        go_wp2
        refine bodyPost_ret (results_cell_row rfl _ _ gb270 69 #[.bool false, .slice Ao65 x9_2.length co65] (0, 0) _ rfl (by refine bq ?_; refine blk_put (cs := #[.bool false, .slice none 0 0]) ?_ 1 _ rfl; refine bq ?_; refine blk_put (cs := #[.bool false, .slice none 0 0]) ?_ 0 _ rfl; refine bq ?_; exact BK270.out) Tryd.underlying69 rfl (by kernel_rfl)) rfl ?_
        exact ⟨_, by first | rfl | (simp [errW_none, errW_some] <;> rfl) | (simp [*, errW_none, errW_some] <;> rfl), by apply vq; exact Kd.V_mono (Kd.V_far (p := ⟨gb270, 1, none⟩) (Kd.V_far (p := ⟨gb270, 0, none⟩) (Kd.V_mono HO_9.out (fun k_ hk => (⟨hk, hk.2.2.2⟩ : _ ∧ k_ ≠ gb270))) (fun _ hk => hk.2) (.bool false)) (fun _ hk => hk.2) (.slice Ao65 x9_2.length co65)) (fun _ hk => hk.1.1), by exact wq HB.out⟩
end Go.Proofs.YtfpnglgipchjhaaDoor.PR
namespace Go.Proofs.YtfpnglgipchjhaaDoor.PR
open Go.RowKit Go.Proofs.YtfpnglgipchjhaaDoorW.PrintWords Go.Proofs.YtfpnglgipchjhaaDoorW.PrintLast Go.Proofs.YtfpnglgipchjhaaDoorW.PrintMore
attribute [local go_sem] max2_int min2_int max_two min_two max_three min_three max_four min_four
set_option linter.unusedVariables false
set_option linter.unusedSimpArgs false
def pointillistref01_Near.j0 : Nat → Bool → List Int → Bool → List Int → Option (Bool × List Int)
 | 0, _, _, _, _ => none
 | k + 1, x308000, x308001, x309000, x309001 => (pointillistref01_Add.f k x308000 x308001 x308000 x308001).bind fun bt310 => ((pointillistref01_Add.f k bt310.1 bt310.2 x309000 x309001).bind fun bt314 => ((pointillistref01_plus.f k x309001 x309001).bind fun t318 => ((pointillistref01_Floor.f k bt314.1 bt314.2 t318).bind fun bt321 => (some (bt321.1, bt321.2)))))
def pointillistref01_Near.f (k : Nat) (a0_0 : Bool) (l0_1 : List Int) (a1_0 : Bool) (l1_1 : List Int) : Option (Bool × List Int) := if a1_0 = true then (pointillistref01_Near.j0 k (!a0_0) l0_1 false l1_1) else (pointillistref01_Near.j0 k a0_0 l0_1 a1_0 l1_1)
theorem pointillistref01_Near.mono_l : ∀ k, (∀ y0 y1 y2 y3, LeO (pointillistref01_Near.j0 k y0 y1 y2 y3) (pointillistref01_Near.j0 (k + 1) y0 y1 y2 y3))
 | 0 => fun _ _ _ _ r h => by simp [pointillistref01_Near.j0] at h
 | k + 1 => by
  have ih0 := pointillistref01_Near.mono_l k
  ·
   intro y0 y1 y2 y3
   unfold pointillistref01_Near.j0
   repeat' first
   | (with_reducible exact ih0 _ _ _ _)
   | (with_reducible exact pointillistref01_Add.mono _ _ _ _ _)
   | (with_reducible exact pointillistref01_Floor.mono _ _ _ _)
   | (with_reducible exact pointillistref01_plus.mono _ _ _)
   | (with_reducible exact LeO.refl _)
   | (with_reducible exact LeO.none _)
   | (with_reducible refine LeO.ite ?_ ?_)
   | (with_reducible refine LeO.bind ?_ (fun _ => ?_))
   | exact ih0 _ _ _ _
   | exact pointillistref01_Add.mono _ _ _ _ _
   | exact pointillistref01_Floor.mono _ _ _ _
   | exact pointillistref01_plus.mono _ _ _
   | exact LeO.none _
   | refine LeO.ite ?_ ?_
   | refine LeO.bind ?_ (fun _ => ?_)
theorem pointillistref01_Near.mono : ∀ a0 a1 a2 a3 k, LeO (pointillistref01_Near.f k a0 a1 a2 a3) (pointillistref01_Near.f (k + 1) a0 a1 a2 a3) := by
 intro a0 a1 a2 a3 k
 have ih0 := pointillistref01_Near.mono_l k
 unfold pointillistref01_Near.f
 repeat' first
   | (with_reducible exact ih0 _ _ _ _)
   | (with_reducible exact pointillistref01_Add.mono _ _ _ _ _)
   | (with_reducible exact pointillistref01_Floor.mono _ _ _ _)
   | (with_reducible exact pointillistref01_plus.mono _ _ _)
   | (with_reducible exact LeO.refl _)
   | (with_reducible exact LeO.none _)
   | (with_reducible refine LeO.ite ?_ ?_)
   | (with_reducible refine LeO.bind ?_ (fun _ => ?_))
   | exact ih0 _ _ _ _
   | exact pointillistref01_Add.mono _ _ _ _ _
   | exact pointillistref01_Floor.mono _ _ _ _
   | exact pointillistref01_plus.mono _ _ _
   | exact LeO.none _
   | refine LeO.ite ?_ ?_
   | refine LeO.bind ?_ (fun _ => ?_)
def pointillistref01_Near.T4 : Bool × List (List Nat × List Nat) := (true, [([], []), ([], []), ([0, 1], [0, 1]), ([], []), ([2, 3, 2], [2, 3]), ([], []), ([5], [5]), ([], []), ([7], [7]), ([6, 8, 4], [6, 8]), ([4, 9, 9], [4, 9]), ([10, 10, 0, 1, 2, 3, 4, 5, 6, 7, 8, 9, 10], [10])])
def pointillistref01_Near.B4 : List Nat := [0, 0, 3, 0, 15, 0, 32, 0, 128, 511, 1023, 2047]
theorem pointillistref01_Near.tab4 : rtab .any (opsOf Tryd.f41 4) = pointillistref01_Near.T4 := by kernel_rfl
theorem pointillistref01_Near.bits4 : waitsOk pointillistref01_Near.T4.2 pointillistref01_Near.B4 = true := by kernel_rfl
set_option maxHeartbeats 8000000 in
set_option maxRecDepth 100000 in
theorem pointillistref01_Near.calls (k : Nat) (a0_0 : Bool) (A0_1 : Option Addr) (c0_1 : Nat) (l0_1 : List Int) (a1_0 : Bool) (A1_1 : Option Addr) (c1_1 : Nat) (l1_1 : List Int) (r1 : Bool) (r2 : List Int) (w : World) (hr0_1 : Kd.C (Kd.int .i64) w A0_1 l0_1.length l0_1) (hc0_1 : l0_1.length ≤ c0_1) (hr1_1 : Kd.C (Kd.int .i64) w A1_1 l1_1.length l1_1) (hc1_1 : l1_1.length ≤ c1_1) (h : pointillistref01_Near.f k a0_0 l0_1 a1_0 l1_1 = some (r1, r2)) :
  Calls Tryd.prog 41 #[.agg #[.bool a0_0, .slice A0_1 l0_1.length c0_1], .agg #[.bool a1_0, .slice A1_1 l1_1.length c1_1]] w fun e w' => ∃ v1_ : Value, e = .returned (.agg #[.bool r1, v1_]) ∧ Kd.V (Kd.int .i64) 3 w' w.heap.size (fun k_ => (w.heap.size ≤ k_)) v1_ r2 ∧ Below w.heap.size w w' := by
 have hu69 := Tryd.underlying69
 have HR0_1 := Aside0.mk hr0_1
 have HC0_1 := Aside0.mk hc0_1
 clear hr0_1 hc0_1
 have HR1_1 := Aside0.mk hr1_1
 have HC1_1 := Aside0.mk hc1_1
 clear hr1_1 hc1_1
 have HB := Aside0.mk (Below.refl w.heap.size w)
 have H : (if a1_0 = true then (pointillistref01_Near.j0 k (!a0_0) l0_1 false l1_1) else (pointillistref01_Near.j0 k a0_0 l0_1 a1_0 l1_1)) = some (r1, r2) := h
 clear h
 have HC3 := Aside0.mk H
 clear H
 go_enter Tryd.func41, Tryd.ntmps41
 go_upto_if 6 with (first | ((with_reducible refine gate_dst (N := 2) rfl ?_); refine box_event ?hg (N := 2) ?hd (cs := #[.bool a0_0, .slice A0_1 l0_1.length c0_1]) (t := 69) ?hr ?_; (case hd => rfl); (case hg => rfl); (case hr => first | (go_simp; done) | (go_simp; rfl)); intro gb307 hg w4 hbox hb; have n0_ := Aside0.mk (below_step (wq HB.out) hb); have n1_ := Aside0.mk (hbox); have n2_ := Aside0.mk ((by rw [hg]; exact (below_size (wq HB.out)) : w.heap.size ≤ gb307)); have n3_ := n2_; clear HB; have HB := n0_; have BK307 := n1_; have GW307 := n2_; have GE307 := n3_; clear n0_ n1_ n2_ n3_ hb hbox hg) | ((with_reducible refine gate_dst (N := 3) rfl ?_); refine box_event ?hg (N := 3) ?hd (cs := #[.bool a1_0, .slice A1_1 l1_1.length c1_1]) (t := 69) ?hr ?_; (case hd => rfl); (case hg => rfl); (case hr => first | (go_simp; done) | (go_simp; rfl)); intro gb308 hg w5 hbox hb; have n0_ := Aside0.mk (blk_below (bq BK307.out) hb); have n1_ := Aside0.mk (below_step (wq HB.out) hb); have n2_ := Aside0.mk (hbox); have n3_ := Aside0.mk ((by rw [hg]; exact (below_size (wq HB.out)) : w.heap.size ≤ gb308)); have n4_ := n3_; have n5_ := Aside0.mk ((by rw [hg]; exact Nat.ne_of_lt (blk_lt (bq BK307.out)) : gb307 ≠ gb308)); have n6_ := Aside0.mk ((by rw [hg]; exact Nat.ne_of_gt (blk_lt (bq BK307.out)) : gb308 ≠ gb307)); clear BK307 HB; have BK307 := n0_; have HB := n1_; have BK308 := n2_; have GW308 := n3_; have GE308 := n4_; have NB307_308 := n5_; have NB308_307 := n6_; clear n0_ n1_ n2_ n3_ n4_ n5_ n6_ hb hbox hg) | ((with_reducible refine gate_dst (N := 4) rfl ?_); refine box_event ?hg (N := 4) ?hd (cs := #[.bool false, .slice none 0 0]) (t := 69) ?hr ?_; (case hd => rfl); (case hg => rfl); (case hr => first | (go_simp; done) | (go_simp; rfl)); intro gb309 hg w6 hbox hb; have n0_ := Aside0.mk (blk_below (bq BK307.out) hb); have n1_ := Aside0.mk (blk_below (bq BK308.out) hb); have n2_ := Aside0.mk (below_step (wq HB.out) hb); have n3_ := Aside0.mk (hbox); have n4_ := Aside0.mk ((by rw [hg]; exact (below_size (wq HB.out)) : w.heap.size ≤ gb309)); have n5_ := n4_; have n6_ := Aside0.mk ((by rw [hg]; exact Nat.ne_of_lt (blk_lt (bq BK307.out)) : gb307 ≠ gb309)); have n7_ := Aside0.mk ((by rw [hg]; exact Nat.ne_of_gt (blk_lt (bq BK307.out)) : gb309 ≠ gb307)); have n8_ := Aside0.mk ((by rw [hg]; exact Nat.ne_of_lt (blk_lt (bq BK308.out)) : gb308 ≠ gb309)); have n9_ := Aside0.mk ((by rw [hg]; exact Nat.ne_of_gt (blk_lt (bq BK308.out)) : gb309 ≠ gb308)); clear BK307 BK308 HB; have BK307 := n0_; have BK308 := n1_; have HB := n2_; have BK309 := n3_; have GW309 := n4_; have GE309 := n5_; have NB307_309 := n6_; have NB309_307 := n7_; have NB308_309 := n8_; have NB309_308 := n9_; clear n0_ n1_ n2_ n3_ n4_ n5_ n6_ n7_ n8_ n9_ hb hbox hg; have hnb7 := NB308_307.out; have hnc7 := NB307_308.out; have hnb8 := NB308_309.out; have hnc8 := NB309_308.out; have hcz9_0 : w6.cell? ⟨gb308, 0, none⟩ = some (.bool a1_0) := (blk_cell BK308.out 0).trans rfl; have hcz9_1 : w6.cell? ⟨gb308, 1, none⟩ = some (.slice A1_1 l1_1.length c1_1) := (blk_cell BK308.out 1).trans rfl; have hfz9_0 := blk_frozen BK308.out 0; have hfz9_1 := blk_frozen BK308.out 1))
 (try simp only [apz])
 go_cut [] (fun wc => ∃ (kq : Nat) (x308000_2 : Bool) (x309000_2 : Bool), Aside0 (pointillistref01_Near.j0 kq x308000_2 l0_1 x309000_2 l1_1 = some (r1, r2)) ∧ Aside0 (kq ≤ k) ∧ Aside0 (wc.heap[gb307]? = some (.cells #[.bool x308000_2, (.slice A0_1 l0_1.length c0_1)] 69 (0, 0))) ∧ Aside0 (wc.heap[gb308]? = some (.cells #[.bool x309000_2, (.slice A1_1 l1_1.length c1_1)] 69 (0, 0))) ∧ Aside0 (wc.heap[gb309]? = some (.cells #[.bool false, (.slice none 0 0)] 69 (0, 0))) ∧ Aside0 (Below w.heap.size w wc))
 case first =>
  have H := HC3.out
  clear HC3
  by_cases c10 : a1_0 = true
  ·
   subst c10
   have H1 : (pointillistref01_Near.j0 k (!a0_0) l0_1 false l1_1) = some (r1, r2) := by rw [if_pos rfl] at H; exact H
   clear H
   have H := H1
   clear H1
   have H' := Aside0.mk H
   clear H
   have hnb11 := NB307_308.out
   have hnc11 := NB308_307.out
   have hnb12 := NB307_309.out
   have hnc12 := NB309_307.out
   have hcz13_0 : w6.cell? ⟨gb307, 0, none⟩ = some (.bool a0_0) := (blk_cell BK307.out 0).trans rfl
   have hcz13_1 : w6.cell? ⟨gb307, 1, none⟩ = some (.slice A0_1 l0_1.length c0_1) := (blk_cell BK307.out 1).trans rfl
   have hfz13_0 := blk_frozen BK307.out 0
   have hfz13_1 := blk_frozen BK307.out 1
   have hnb14 := NB308_309.out
   have hnc14 := NB309_308.out
   have hcz15_0 : w6.cell? ⟨gb308, 0, none⟩ = some (.bool true) := (blk_cell BK308.out 0).trans rfl
   have hcz15_1 : w6.cell? ⟨gb308, 1, none⟩ = some (.slice A1_1 l1_1.length c1_1) := (blk_cell BK308.out 1).trans rfl
   have hfz15_0 := blk_frozen BK308.out 0
   have hfz15_1 := blk_frozen BK308.out 1
   go_wp2
   go_meet
   case rel => exact ⟨_, (!a0_0), (false), H', ⟨by first | omega | exact Nat.le_refl _⟩, ⟨by refine bq ?_; refine blk_far ?_ NB307_308.out _; refine bq ?_; refine blk_put (cs := #[.bool a0_0, .slice A0_1 l0_1.length c0_1]) ?_ 0 _ rfl; refine bq ?_; exact BK307.out⟩, ⟨by refine bq ?_; refine blk_put (cs := #[.bool true, .slice A1_1 l1_1.length c1_1]) ?_ 0 _ rfl; refine bq ?_; refine blk_far ?_ NB308_307.out _; refine bq ?_; exact BK308.out⟩, ⟨by refine bq ?_; refine blk_far ?_ NB309_308.out _; refine bq ?_; refine blk_far ?_ NB309_307.out _; refine bq ?_; exact BK309.out⟩, ⟨by exact wq HB.out⟩⟩
  ·
   replace c10 := Bool.eq_false_iff.mpr c10
   subst c10
   have H1 : (pointillistref01_Near.j0 k a0_0 l0_1 false l1_1) = some (r1, r2) := by rw [if_neg (show ¬ (false = true) by decide)] at H; exact H
   clear H
   have H := H1
   clear H1
   have H' := Aside0.mk H
   clear H
   go_wp2
   go_meet
   case rel => exact ⟨_, (a0_0), (false), H', ⟨by first | omega | exact Nat.le_refl _⟩, ⟨by refine bq ?_; exact BK307.out⟩, ⟨by refine bq ?_; exact BK308.out⟩, ⟨by refine bq ?_; exact BK309.out⟩, ⟨by exact wq HB.out⟩⟩
 case rest =>
  clear HC3
  try clear c1
  try clear p2
  try clear c4
  try clear c7
  try clear c8
  try clear c10
  try clear c11
  try clear c12
  try clear c14
  try clear hcz13_0
  try clear hcz13_1
  try clear hcz15_0
  try clear hcz15_1
  try clear hcz9_0
  try clear hcz9_1
  try clear hfz13_0
  try clear hfz13_1
  try clear hfz15_0
  try clear hfz15_1
  try clear hfz9_0
  try clear hfz9_1
  obtain ⟨kq, x308000_2, x309000_2, HA, HJ2, BK307, BK308, BK309, HB⟩ := hcut
  cases kq with
  | zero => exact absurd HA.out (by simp [pointillistref01_Near.j0])
  | succ kj2 =>
   have H := HA.out
   clear HA
   simp only [pointillistref01_Near.j0] at H
   replace H := Option.bind_eq_some_iff.mp H
   obtain ⟨⟨t310, t311⟩, A160, H⟩ := H
   replace H : ((pointillistref01_Add.f kj2 t310 t311 x309000_2 l1_1).bind fun bt314 => ((pointillistref01_plus.f kj2 l1_1 l1_1).bind fun t318 => ((pointillistref01_Floor.f kj2 bt314.1 bt314.2 t318).bind fun bt321 => (some (bt321.1, bt321.2))))) = some (r1, r2) := H
   have A16 := Aside0.mk A160
   clear A160
   replace H := Option.bind_eq_some_iff.mp H
   obtain ⟨⟨t314, t315⟩, A170, H⟩ := H
   replace H : ((pointillistref01_plus.f kj2 l1_1 l1_1).bind fun t318 => ((pointillistref01_Floor.f kj2 t314 t315 t318).bind fun bt321 => (some (bt321.1, bt321.2)))) = some (r1, r2) := H
   have A17 := Aside0.mk A170
   clear A170
   replace H := Option.bind_eq_some_iff.mp H
   obtain ⟨t318, A180, H⟩ := H
   replace H : ((pointillistref01_Floor.f kj2 t314 t315 t318).bind fun bt321 => (some (bt321.1, bt321.2))) = some (r1, r2) := H
   have A18 := Aside0.mk A180
   clear A180
   replace H := Option.bind_eq_some_iff.mp H
   obtain ⟨⟨t321, t322⟩, A190, H⟩ := H
   replace H : (some (t321, t322)) = some (r1, r2) := H
   have A19 := Aside0.mk A190
   clear A190
   simp only [Option.some.injEq, Prod.mk.injEq] at H
   obtain ⟨rfl, rfl⟩ := H
   try go_wp2
   have n0_ := Aside0.mk (blk_drew BK307.out)
   have n1_ := Aside0.mk (blk_drew BK308.out)
   have n2_ := Aside0.mk (blk_drew BK309.out)
   have n3_ := Aside0.mk (below_drew1 HB.out)
   clear BK307 BK308 BK309 HB; have BK307 := n0_; have BK308 := n1_; have BK309 := n2_; have HB := n3_; clear n0_ n1_ n2_ n3_
   refine start_ (n := 12) (S := fun w' => w'.cell? ⟨gb307, 0, none⟩ = some (.bool x308000_2) ∧ w'.cell? ⟨gb307, 1, none⟩ = some (.slice A0_1 l0_1.length c0_1) ∧ w'.cell? ⟨gb308, 0, none⟩ = some (.bool x309000_2) ∧ w'.cell? ⟨gb308, 1, none⟩ = some (.slice A1_1 l1_1.length c1_1)) (ds := []) (bmk 0 12) (by kernel_rfl) rfl rfl ⟨(blk_cell BK307.out 0).trans rfl, (blk_cell BK307.out 1).trans rfl, (blk_cell BK308.out 0).trans rfl, (blk_cell BK308.out 1).trans rfl⟩ (fun hHeld => ?_); refine with_tabW pointillistref01_Near.tab4 pointillistref01_Near.bits4 (fun HT_ HW_ => ?_)
   generalize wc.drew = w20 at BK307 BK308 BK309 HB hHeld ⊢
   refine pure_ (i := 5) (N := some 17) (v := ?_) (a' := ?_) (bm 12 32) rfl rfl (any_of HT_.out (by kernel_rfl)) (fun _ _ _ h => h) (Or.inl ⟨by rfl, ?_⟩) ?_ ?_
   rotate_left; focus (intro w'; go_simp; with_reducible rfl)
   rotate_left; focus (simp only [apz, i64_w, i32_w]; rfl)
   refine pure_ (i := 7) (N := some 19) (v := ?_) (a' := ?_) (bm 12 160) rfl rfl (any_of HT_.out (by kernel_rfl)) (fun _ _ _ h => h) (Or.inl ⟨by rfl, ?_⟩) ?_ ?_
   rotate_left; focus (intro w'; go_simp; with_reducible rfl)
   rotate_left; focus (simp only [apz, i64_w, i32_w]; rfl)
   refine take_ (i := 0) (N := some 12) (v := ?_) (a' := ?_) (bm 12 161) rfl rfl (take_ofW HT_.out HW_.out (by kernel_rfl)) (fun _ _ _ h => h) (Or.inl ⟨by rfl, ?_⟩) hHeld ?_ ?_
   rotate_left
   ·
    rintro w' ⟨s0, s1, s2, s3⟩
    go_simp
    with_reducible rfl
   rotate_left; focus (simp only [apz, i64_w, i32_w]; rfl)
   refine take_ (i := 1) (N := some 13) (v := ?_) (a' := ?_) (bm 12 163) rfl rfl (take_ofW HT_.out HW_.out (by kernel_rfl)) (fun _ _ _ h => h) (Or.inl ⟨by rfl, ?_⟩) hHeld ?_ ?_
   rotate_left
   ·
    rintro w' ⟨s0, s1, s2, s3⟩
    go_simp
    with_reducible rfl
   rotate_left; focus (simp only [apz, i64_w, i32_w]; rfl)
   refine take_ (i := 3) (N := some 15) (v := ?_) (a' := ?_) (bm 12 171) rfl rfl (take_ofW HT_.out HW_.out (by kernel_rfl)) (fun _ _ _ h => h) (Or.inl ⟨by rfl, ?_⟩) hHeld ?_ ?_
   rotate_left
   ·
    rintro w' ⟨s0, s1, s2, s3⟩
    go_simp
    with_reducible rfl
   rotate_left; focus (simp only [apz, i64_w, i32_w]; rfl)
   refine take_ (i := 6) (N := some 18) (v := ?_) (a' := ?_) (bm 12 235) rfl rfl (take_ofW HT_.out HW_.out (by kernel_rfl)) (fun _ _ _ h => h) (Or.inl ⟨by rfl, ?_⟩) hHeld ?_ ?_
   rotate_left
   ·
    rintro w' ⟨s0, s1, s2, s3⟩
    go_simp
    with_reducible rfl
   rotate_left; focus (simp only [apz, i64_w, i32_w]; rfl)
   refine take_ (i := 8) (N := some 20) (v := ?_) (a' := ?_) (bm 12 491) rfl rfl (take_ofW HT_.out HW_.out (by kernel_rfl)) (fun _ _ _ h => h) (Or.inl ⟨by rfl, ?_⟩) hHeld ?_ ?_
   rotate_left
   ·
    rintro w' ⟨s0, s1, s2, s3⟩
    go_simp
    with_reducible rfl
   rotate_left; focus (simp only [apz, i64_w, i32_w]; rfl)
   refine one_ (i := 2) (N := some 14) (bm 12 495) rfl rfl (one_of HT_.out (by kernel_rfl)) (by decide) (fun K hK => ?_)
   refine goes_ Tryd.func50 (by kernel_rfl) rfl #[.agg #[.bool x308000_2, .slice A0_1 l0_1.length c0_1], .agg #[.bool x308000_2, .slice A0_1 l0_1.length c0_1]] (by rfl) rfl rfl (by (try simp only [List.map_toArray, List.map_cons, List.map_nil]); first | done | rfl | (simp only [List.length_drop, List.length_take]; rfl)) ?_
   with_reducible refine (pointillistref01_Add.calls kj2 x308000_2 _ _ l0_1 x308000_2 _ _ l0_1 t310 t311 _ ?side1 ?side2 ?side3 ?side4 A16.out).mono ?_
   (case side1 => exact cq (Kd.C_below HR0_1.out HB.out))
   (case side2 => exact HC0_1.out)
   (case side3 => exact cq (Kd.C_below HR0_1.out HB.out))
   (case side4 => exact HC0_1.out)
   rintro e w21 ⟨v312, rfl, ho0, hb⟩
   refine ⟨_, rfl, ?_⟩
   have n0_ := Aside0.mk (Kd.V_lower (Kd.V_mono (ok' := fun k_ => (w.heap.size ≤ k_) ∧ k_ ≠ gb307 ∧ k_ ≠ gb308 ∧ k_ ≠ gb309) ho0 (fun k_ hk_ => ⟨(Nat.le_trans (below_size (wq HB.out)) hk_), (Kd.freshB (bq BK307.out) k_ hk_), (Kd.freshB (bq BK308.out) k_ hk_), (Kd.freshB (bq BK309.out) k_ hk_)⟩)) (below_size (wq HB.out)))
   have n1_ := Aside0.mk (blk_below (bq BK307.out) hb)
   have n2_ := Aside0.mk (blk_below (bq BK308.out) hb)
   have n3_ := Aside0.mk (blk_below (bq BK309.out) hb)
   have n4_ := Aside0.mk (below_step (wq HB.out) hb)
   clear BK307 BK308 BK309 HB; have HO313 := n0_; have BK307 := n1_; have BK308 := n2_; have BK309 := n3_; have HB := n4_; clear n0_ n1_ n2_ n3_ n4_
   (try clear hb)
   (try clear hb2)
   (try clear hk)
   (try clear hi)
   (try clear ho0)
   obtain ⟨Ao22, co22, eo22⟩ := Kd.V_slice HO313.out
   (first | subst eo22 | (injection eo22 with f1_ f2_ f3_; have f4_ := f1_.symm; have f5_ := f3_.symm; clear f1_ f2_ f3_; subst f4_; subst f5_))
   refine hK.out _ _ ⟨(blk_cell BK307.out 0).trans rfl, (blk_cell BK307.out 1).trans rfl, (blk_cell BK308.out 0).trans rfl, (blk_cell BK308.out 1).trans rfl⟩ (fun hHeld => ?_)
   clear hK K
   refine norm_ (a' := ?_) ?_ ?_
   rotate_left
   ·
    show Act.put _ (some 14) _ = _
    simp only [apz, i64_w, i32_w]
    rfl
   refine one_ (i := 4) (N := some 16) (bmk 9 3) rfl rfl (one_of HT_.out (by kernel_rfl)) (by decide) (fun K hK => ?_)
   refine goes_ Tryd.func50 (by kernel_rfl) rfl #[.agg #[.bool t310, .slice Ao22 t311.length co22], .agg #[.bool x309000_2, .slice A1_1 l1_1.length c1_1]] (by rfl) rfl rfl (by (try simp only [List.map_toArray, List.map_cons, List.map_nil]); first | done | rfl | (simp only [List.length_drop, List.length_take]; rfl)) ?_
   with_reducible refine (pointillistref01_Add.calls kj2 t310 _ _ t311 x309000_2 _ _ l1_1 t314 t315 _ ?side1 ?side2 ?side3 ?side4 A17.out).mono ?_
   (case side1 => exact cq (Kd.V_reads' HO313.out).2.2)
   (case side2 => exact (Kd.V_reads' HO313.out).2.1)
   (case side3 => exact cq (Kd.C_below HR1_1.out HB.out))
   (case side4 => exact HC1_1.out)
   rintro e w23 ⟨v316, rfl, ho0, hb⟩
   refine ⟨_, rfl, ?_⟩
   have n0_ := Aside0.mk (Kd.V_below (vq HO313.out) hb)
   have n1_ := Aside0.mk (Kd.V_lower (Kd.V_mono (ok' := fun k_ => (w.heap.size ≤ k_) ∧ k_ ≠ gb307 ∧ k_ ≠ gb308 ∧ k_ ≠ gb309) ho0 (fun k_ hk_ => ⟨(Nat.le_trans (below_size (wq HB.out)) hk_), (Kd.freshB (bq BK307.out) k_ hk_), (Kd.freshB (bq BK308.out) k_ hk_), (Kd.freshB (bq BK309.out) k_ hk_)⟩)) (below_size (wq HB.out)))
   have n2_ := Aside0.mk (blk_below (bq BK307.out) hb)
   have n3_ := Aside0.mk (blk_below (bq BK308.out) hb)
   have n4_ := Aside0.mk (blk_below (bq BK309.out) hb)
   have n5_ := Aside0.mk (below_step (wq HB.out) hb)
   clear HO313 BK307 BK308 BK309; clear HB; have HO313 := n0_; have HO317 := n1_; have BK307 := n2_; have BK308 := n3_; have BK309 := n4_; have HB := n5_; clear n0_ n1_ n2_ n3_ n4_ n5_
   (try clear hb)
   (try clear hb2)
   (try clear hk)
   (try clear hi)
   (try clear ho0)
   refine hK.out _ _ ⟨(blk_cell BK307.out 0).trans rfl, (blk_cell BK307.out 1).trans rfl, (blk_cell BK308.out 0).trans rfl, (blk_cell BK308.out 1).trans rfl⟩ (fun hHeld => ?_)
   clear hK K
   refine norm_ (a' := ?_) ?_ ?_
   rotate_left
   ·
    show Act.put _ (some 16) _ = _
    simp only [apz, i64_w, i32_w]
    rfl
   refine one_ (i := 9) (N := some 21) (bmk 10 2) rfl rfl (one_of HT_.out (by kernel_rfl)) (by decide) (fun K hK => ?_)
   refine goes_ Tryd.func51 (by kernel_rfl) rfl #[.slice A1_1 l1_1.length c1_1, .slice A1_1 l1_1.length c1_1] (by rfl) rfl rfl (by (try simp only [List.map_toArray, List.map_cons, List.map_nil]); first | done | rfl | (simp only [List.length_drop, List.length_take]; rfl)) ?_
   with_reducible refine (pointillistref01_plus.calls kj2 _ _ l1_1 _ _ l1_1 t318 _ ?side1 ?side2 ?side3 ?side4 A18.out).mono ?_
   (case side1 => exact cq (Kd.C_below HR1_1.out HB.out))
   (case side2 => exact HC1_1.out)
   (case side3 => exact cq (Kd.C_below HR1_1.out HB.out))
   (case side4 => exact HC1_1.out)
   rintro e w24 ⟨v319, rfl, ho0, hb⟩
   refine ⟨_, rfl, ?_⟩
   have n0_ := Aside0.mk (Kd.V_below (vq HO313.out) hb)
   have n1_ := Aside0.mk (Kd.V_below (vq HO317.out) hb)
   have n2_ := Aside0.mk (Kd.V_lower (Kd.V_mono (ok' := fun k_ => (w.heap.size ≤ k_) ∧ k_ ≠ gb307 ∧ k_ ≠ gb308 ∧ k_ ≠ gb309) ho0 (fun k_ hk_ => ⟨(Nat.le_trans (below_size (wq HB.out)) hk_), (Kd.freshB (bq BK307.out) k_ hk_), (Kd.freshB (bq BK308.out) k_ hk_), (Kd.freshB (bq BK309.out) k_ hk_)⟩)) (below_size (wq HB.out)))
   have n3_ := Aside0.mk (blk_below (bq BK307.out) hb)
   have n4_ := Aside0.mk (blk_below (bq BK308.out) hb)
   have n5_ := Aside0.mk (blk_below (bq BK309.out) hb)
   have n6_ := Aside0.mk (below_step (wq HB.out) hb)
   clear HO313 HO317 BK307 BK308; clear BK309 HB; have HO313 := n0_; have HO317 := n1_; have HO320 := n2_; have BK307 := n3_; have BK308 := n4_; have BK309 := n5_; have HB := n6_; clear n0_ n1_ n2_ n3_ n4_ n5_ n6_
   (try clear hb)
   (try clear hb2)
   (try clear hk)
   (try clear hi)
   (try clear ho0)
   obtain ⟨Ao25, co25, eo25⟩ := Kd.V_slice HO317.out
   (first | subst eo25 | (injection eo25 with f1_ f2_ f3_; have f4_ := f1_.symm; have f5_ := f3_.symm; clear f1_ f2_ f3_; subst f4_; subst f5_))
   obtain ⟨Ao26, co26, eo26⟩ := Kd.V_slice HO320.out
   (first | subst eo26 | (injection eo26 with f1_ f2_ f3_; have f4_ := f1_.symm; have f5_ := f3_.symm; clear f1_ f2_ f3_; subst f4_; subst f5_))
   refine hK.out _ _ ⟨(blk_cell BK307.out 0).trans rfl, (blk_cell BK307.out 1).trans rfl, (blk_cell BK308.out 0).trans rfl, (blk_cell BK308.out 1).trans rfl⟩ (fun hHeld => ?_)
   clear hK K
   refine norm_ (a' := ?_) ?_ ?_
   rotate_left
   ·
    show Act.put _ (some 21) _ = _
    simp only [apz, i64_w, i32_w]
    rfl
   refine one_ (i := 10) (N := some 22) (bmk 11 1) rfl rfl (one_of HT_.out (by kernel_rfl)) (by decide) (fun K hK => ?_)
   refine goes_ Tryd.func53 (by kernel_rfl) rfl #[.agg #[.bool t314, .slice Ao25 t315.length co25], .slice Ao26 t318.length co26] (by rfl) rfl rfl (by (try simp only [List.map_toArray, List.map_cons, List.map_nil]); first | done | rfl | (simp only [List.length_drop, List.length_take]; rfl)) ?_
   with_reducible refine (pointillistref01_Floor.calls kj2 t314 (fun k_ => ((w.heap.size ≤ k_) ∧ (k_ ≠ gb307 ∧ (k_ ≠ gb308 ∧ k_ ≠ gb309)))) _ _ t315 _ _ t318 t321 t322 _ ?side1 ?side2 ?side3 A19.out).mono ?_
   (case side1 => exact HO317.out)
   (case side2 => exact cq (Kd.V_reads' HO320.out).2.2)
   (case side3 => exact (Kd.V_reads' HO320.out).2.1)
   rintro e w27 ⟨v323, rfl, ho0, hb⟩
   refine ⟨_, rfl, ?_⟩
   have n0_ := Aside0.mk (Kd.V_below (vq HO313.out) hb)
   have n1_ := Aside0.mk (Kd.V_below (vq HO317.out) hb)
   have n2_ := Aside0.mk (Kd.V_below (vq HO320.out) hb)
   have n3_ := Aside0.mk (Kd.V_lower (Kd.V_mono (ok' := fun k_ => (w.heap.size ≤ k_) ∧ k_ ≠ gb307 ∧ k_ ≠ gb308 ∧ k_ ≠ gb309) ho0 (fun k_ hk_ => ⟨Or.elim hk_ (fun hs_ => hs_.1) (fun hn_ => (Nat.le_trans (below_size (wq HB.out)) hn_)), Or.elim hk_ (fun hs_ => hs_.2.1) (fun hn_ => (Kd.freshB (bq BK307.out) k_ hn_)), Or.elim hk_ (fun hs_ => hs_.2.2.1) (fun hn_ => (Kd.freshB (bq BK308.out) k_ hn_)), Or.elim hk_ (fun hs_ => hs_.2.2.2) (fun hn_ => (Kd.freshB (bq BK309.out) k_ hn_))⟩)) (below_size (wq HB.out)))
   have n4_ := Aside0.mk (blk_below (bq BK307.out) hb)
   have n5_ := Aside0.mk (blk_below (bq BK308.out) hb)
   have n6_ := Aside0.mk (blk_below (bq BK309.out) hb)
   have n7_ := Aside0.mk (below_step (wq HB.out) hb)
   clear HO313 HO317 HO320 BK307; clear BK308 BK309 HB; have HO313 := n0_; have HO317 := n1_; have HO320 := n2_; have HO324 := n3_; have BK307 := n4_; have BK308 := n5_; have BK309 := n6_; have HB := n7_; clear n0_ n1_ n2_ n3_ n4_ n5_ n6_ n7_
   (try clear hb)
   (try clear hb2)
   (try clear hk)
   (try clear hi)
   (try clear ho0)
   obtain ⟨Ao29, co29, eo29⟩ := Kd.V_slice HO324.out
   (first | subst eo29 | (injection eo29 with f1_ f2_ f3_; have f4_ := f1_.symm; have f5_ := f3_.symm; clear f1_ f2_ f3_; subst f4_; subst f5_))
   refine hK.out _ _ ⟨(blk_cell BK307.out 0).trans rfl, (blk_cell BK307.out 1).trans rfl, (blk_cell BK308.out 0).trans rfl, (blk_cell BK308.out 1).trans rfl⟩ (fun hHeld => ?_)
   clear hK K
   refine norm_ (a' := ?_) ?_ ?_
   rotate_left
   ·
    show Act.put _ (some 22) _ = _
    simp only [apz, i64_w, i32_w]
    rfl
   refine one_ (i := 11) (N := none) (bmk 12 0) rfl rfl (one_of HT_.out (by kernel_rfl)) (by decide) (fun K hK => ?_)
   have hs28 : w27.cell? ⟨gb309, 0, none⟩ = some (.bool false) := (blk_cell BK309.out 0).trans rfl
   have hfs28 := blk_frozen BK309.out 0
   have hns28_0 := NB307_309.out
   have hns28_1 := NB308_309.out
   have hms28_0 := NB309_307.out
   have hms28_1 := NB309_308.out
   have hs30 : w27.cell? ⟨gb309, 1, none⟩ = some (.slice none 0 0) := (blk_cell BK309.out 1).trans rfl
   have hfs30 := blk_frozen BK309.out 1
   have hns30_0 := NB307_309.out
   have hns30_1 := NB308_309.out
   have hms30_0 := NB309_307.out
   have hms30_1 := NB309_308.out
   refine skip_ (w1 := ?_) (by rfl) rfl ?_ ?_
   rotate_left
   ·
    go_simp
    rfl
   refine hK.out _ _ ⟨(cf NB307_309.out ((cf NB307_309.out (hHeld.1)))), (cf NB307_309.out ((cf NB307_309.out (hHeld.2.1)))), (cf NB308_309.out ((cf NB308_309.out (hHeld.2.2.1)))), (cf NB308_309.out ((cf NB308_309.out (hHeld.2.2.2))))⟩ (fun hHeld => ?_)
   clear hK K
   refine done_ (done_of HT_.out (by kernel_rfl)) ?_
   try go_wp2
   refine bodyPost_ret (results_cell_row rfl _ _ gb309 69 #[.bool t321, .slice Ao29 t322.length co29] (0, 0) _ rfl (by refine bq ?_; refine blk_put (cs := #[.bool t321, .slice none 0 0]) ?_ 1 _ rfl; refine bq ?_; refine blk_put (cs := #[.bool false, .slice none 0 0]) ?_ 0 _ rfl; refine bq ?_; exact BK309.out) Tryd.underlying69 rfl (by kernel_rfl)) rfl ?_
   exact ⟨_, by first | rfl | (simp [errW_none, errW_some] <;> rfl) | (simp [*, errW_none, errW_some] <;> rfl), by apply vq; exact Kd.V_mono (Kd.V_far (p := ⟨gb309, 1, none⟩) (Kd.V_far (p := ⟨gb309, 0, none⟩) (Kd.V_mono HO324.out (fun k_ hk => (⟨hk, hk.2.2.2⟩ : _ ∧ k_ ≠ gb309))) (fun _ hk => hk.2) (.bool t321)) (fun _ hk => hk.2) (.slice Ao29 t322.length co29)) (fun _ hk => hk.1.1), by exact wq HB.out⟩
end Go.Proofs.YtfpnglgipchjhaaDoor.PR
namespace Go.Proofs.YtfpnglgipchjhaaDoor.PR
open Go.RowKit Go.Proofs.YtfpnglgipchjhaaDoorW.PrintWords Go.Proofs.YtfpnglgipchjhaaDoorW.PrintLast Go.Proofs.YtfpnglgipchjhaaDoorW.PrintMore
theorem w64' (n : Int) (h : -9223372036854775808 ≤ n) (h2 : n < 9223372036854775808) : wrap64 n = n := by
  have : wrap64 n = (n + 9223372036854775808) % 18446744073709551616 - 9223372036854775808 := by unfold wrap64; rfl
  rw [this]; omega
theorem rd_end (l : List Int) (i : Nat) (h : l.length ≤ i) : rd l (i : Int) = 0 := by
  unfold rd
  rw [Int.toNat_natCast, List.getD_eq_getElem?_getD, List.getElem?_eq_none h]
  rfl
theorem rd_ok' {l : List Int} (h : Okd l) (i : Nat) : 0 ≤ rd l (i : Int) ∧ rd l (i : Int) < 65536 := by
  by_cases hi : i < l.length
  · exact rd_ok h hi
  · rw [rd_end l i (by omega)]; decide
theorem val_drop' (l : List Int) (i : Nat) : val (l.drop i) = (rd l (i : Int)).toNat + 65536 * val (l.drop (i + 1)) := by
  by_cases hi : i < l.length
  · exact val_drop l i hi
  · rw [rd_end l i (by omega), val_drop_len l i (by omega), val_drop_len l (i + 1) (by omega)]; rfl
theorem rd_snoc (l : List Int) (a : Int) : rd (l ++ [a]) (l.length : Int) = a := by
  unfold rd
  rw [Int.toNat_natCast, List.getD_eq_getElem?_getD, List.getElem?_append_right (Nat.le_refl _), Nat.sub_self]
  rfl
theorem trim_ev (n : Nat) : ∀ l : List Int, l.length = n → l.length < 4611686018427387904 → Okd l → Ev (fun k => pointillistref01_trim.f k l) (dg (val l)) := by
  induction n with
  | zero =>
    intro l hl _ _
    have : l = [] := List.length_eq_zero_iff.mp hl
    subst this
    refine Ev.step (f := fun _ => some []) (fun k => rfl) ?_
    show Ev _ (dg 0)
    rw [dg_0]
    exact Ev.now _
  | succ n ih =>
    intro l hl hb ho
    rcases List.eq_nil_or_concat l with rfl | ⟨l', a, rfl⟩
    · cases hl
    rw [List.concat_eq_append] at *
    have hl' : l'.length = n := by simpa using hl
    have e1 : ((l' ++ [a]).length : Int) = (l'.length : Int) + 1 := by simp
    have e2 : wrap64 (((l' ++ [a]).length : Int) - 1) = (l'.length : Int) := by
      rw [e1, w64' _ (by omega) (by rw [List.length_append] at hb; simp at hb; omega)]; omega
    by_cases ha : a = 0
    · subst ha
      have hv : val (l' ++ [0]) = val l' := by rw [val_snoc]; simp
      rw [hv]
      refine Ev.step (f := fun k => pointillistref01_trim.f k l') (fun k => ?_) (ih l' hl' (by omega) ho.left)
      show pointillistref01_trim.l0 (k + 1) _ = pointillistref01_trim.l0 k _
      unfold pointillistref01_trim.l0
      rw [e2, rd_snoc, if_pos (by rw [e1]; omega), if_pos (by omega), if_pos (by rw [e1]; omega), if_pos rfl, if_pos (by rw [e1]; omega)]
      rw [Int.toNat_natCast, List.take_left]
      cases k <;> rfl
    · have hv : dg (val (l' ++ [a])) = l' ++ [a] := dg_val _ ho (by intro b hb2; rw [List.getLast?_append] at hb2; simp at hb2; rw [← hb2]; exact ha)
      rw [hv]
      refine Ev.step (f := fun k => some (l' ++ [a])) (fun k => ?_) (Ev.now _)
      show pointillistref01_trim.l0 (k + 1) _ = _
      unfold pointillistref01_trim.l0
      rw [e2, rd_snoc, if_pos (by rw [e1]; omega), if_pos (by omega), if_pos (by rw [e1]; omega), if_neg ha]
theorem trim_eq {l : List Int} {n : Nat} (hv : val l = n) (hl : l.length < 4611686018427387904) (h : Okd l) : Ev (fun k => pointillistref01_trim.f k l) (dg n) := by
  rw [← hv]; exact trim_ev _ l rfl hl h
theorem plus_step (a b o : List Int) (c : Int) (i : Nat) (ha : Okd a) (hb : Okd b) (hc : 0 ≤ c) (hc1 : c ≤ 1) (hi : i < 4611686018427387904) (ho : o.length < 17592186044416)
    (hgo : (i : Int) < (a.length : Int) ∨ (i : Int) < (b.length : Int) ∨ 0 < c) (k : Nat) :
    pointillistref01_plus.l0 (k + 1 + 1) a b o c (i : Int) = pointillistref01_plus.l0 k a b (o ++ [(c + rd a i + rd b i) % 65536]) ((c + rd a i + rd b i) / 65536) ((i + 1 : Nat) : Int) := by
  have h1 := rd_ok' ha i
  have h2 := rd_ok' hb i
  have e0 : wrap64 ((i : Int) + 1) = ((i + 1 : Nat) : Int) := by rw [w64' _ (by omega) (by omega)]; omega
  have hj : pointillistref01_plus.l0 (k + 1 + 1) a b o c (i : Int) = pointillistref01_plus.j1 (k + 1) a b o c (i : Int) true := by
    rw [pointillistref01_plus.l0]
    by_cases g1 : (i : Int) < (a.length : Int)
    · rw [if_pos g1]
    · rw [if_neg g1]
      by_cases g2 : (i : Int) < (b.length : Int)
      · rw [if_pos g2]
      · rw [if_neg g2]
        have : decide (c > 0) = true := by rcases hgo with h | h | h; exact absurd h g1; exact absurd h g2; exact decide_eq_true h
        rw [this]
  rw [hj, pointillistref01_plus.j1, if_pos rfl, if_pos ho, if_pos ho, if_pos ho, if_pos ho, e0]
  have m1 : ∀ x : Int, 0 ≤ x → Int.tmod x 65536 = x % 65536 := fun x hx => Int.tmod_eq_emod_of_nonneg hx
  have m2 : ∀ x : Int, 0 ≤ x → x < 4611686018427387904 → wrap64 (Int.tdiv x 65536) = x / 65536 := fun x hx h => by rw [Int.tdiv_eq_ediv_of_nonneg hx, w64' _ (by omega) (by omega)]
  by_cases g1 : (i : Int) < (a.length : Int)
  · rw [if_pos g1, if_pos (by omega)]
    rw [w64' (c + rd a i) (by omega) (by omega)]
    by_cases g2 : (i : Int) < (b.length : Int)
    · rw [if_pos g2, w64' (c + rd a i + rd b i) (by omega) (by omega), m1 _ (by omega), m2 _ (by omega) (by omega)]
    · rw [if_neg g2, m1 _ (by omega), m2 _ (by omega) (by omega), rd_end b i (by omega), Int.add_zero]
  · rw [if_neg g1, rd_end a i (by omega), Int.add_zero]
    by_cases g2 : (i : Int) < (b.length : Int)
    · rw [if_pos g2, if_pos (by omega), w64' (c + rd b i) (by omega) (by omega), m1 _ (by omega), m2 _ (by omega) (by omega)]
    · rw [if_neg g2, m1 _ (by omega), m2 _ (by omega) (by omega), rd_end b i (by omega), Int.add_zero]
theorem plus_end (a b o : List Int) (c : Int) (i : Nat) (hgo : ¬((i : Int) < (a.length : Int) ∨ (i : Int) < (b.length : Int) ∨ 0 < c)) (k : Nat) :
    pointillistref01_plus.l0 (k + 1 + 1) a b o c (i : Int) = (pointillistref01_trim.f k o).bind fun t => some t := by
  rw [pointillistref01_plus.l0, if_neg (fun h => hgo (.inl h)), if_neg (fun h => hgo (.inr (.inl h))), decide_eq_false (fun h => hgo (.inr (.inr h))), pointillistref01_plus.j1, if_neg (by decide)]
theorem ev_some {α : Type} {g : Nat → Option α} {r : α} (h : Ev g r) : Ev (fun k => (g k).bind fun t => some t) r := Ev.bind h (Ev.now _)
theorem ev_step2 {α : Type} {g f : Nat → Option α} {r : α} (h : ∀ k, g (k + 1 + 1) = f k) (k : Ev f r) : Ev g r :=
  Ev.step (f := fun k => g (k + 1)) (fun _ => rfl) (Ev.step (f := f) h k)
theorem pow_up (P x A y z : Nat) (h : x + 65536 * y = z) : A + P * x + P * 65536 * y = A + P * z := by
  rw [← h, Nat.mul_add, Nat.mul_assoc]; omega
theorem plus_loop (a b : List Int) (ha : Okd a) (hb : Okd b) (hla : a.length ≤ 1073741824) (hlb : b.length ≤ 1073741824) (R : Nat) :
    ∀ (d i : Nat) (o : List Int) (c : Int), i + d = max a.length b.length + 1 → 0 ≤ c → c ≤ 1 → (d = 0 → c = 0) → Okd o → o.length = i →
      val o + 65536 ^ i * (c.toNat + val (a.drop i) + val (b.drop i)) = R → Ev (fun k => pointillistref01_plus.l0 k a b o c (i : Int)) (dg R) := by
  intro d
  induction d with
  | zero =>
    intro i o c hi hc hc1 hd ho hol hR
    refine ev_step2 (plus_end a b o c i (by have := hd rfl; omega)) (ev_some (trim_eq ?_ (by omega) ho))
    rw [val_drop_len a i (by omega), val_drop_len b i (by omega), hd rfl] at hR
    simpa using hR
  | succ d ih =>
    intro i o c hi hc hc1 hd ho hol hR
    by_cases hgo : (i : Int) < (a.length : Int) ∨ (i : Int) < (b.length : Int) ∨ 0 < c
    · refine ev_step2 (plus_step a b o c i ha hb hc hc1 (by omega) (by omega) hgo) ?_
      have h1 := rd_ok' ha i
      have h2 := rd_ok' hb i
      refine ih (i + 1) _ _ (by omega) (by omega) (by omega) ?_ (ho.snoc (by omega) (by omega)) (by simp [hol]) ?_
      · intro hd0
        rw [rd_end a i (by omega), rd_end b i (by omega)]
        omega
      · rw [val_snoc, hol, Nat.pow_succ, ← hR]
        exact pow_up _ _ _ _ _ (by rw [val_drop' a i, val_drop' b i]; omega)
    · refine ev_step2 (plus_end a b o c i hgo) (ev_some (trim_eq ?_ (by omega) ho))
      rw [val_drop_len a i (by omega), val_drop_len b i (by omega)] at hR
      have : c.toNat = 0 := by omega
      rw [this] at hR
      simpa using hR
theorem plus_row (a b : List Int) (ha : Okd a) (hb : Okd b) (hla : a.length ≤ 1073741824) (hlb : b.length ≤ 1073741824) :
    Ev (fun k => pointillistref01_plus.f k a b) (dg (val a + val b)) :=
  plus_loop a b ha hb hla hlb _ (max a.length b.length + 1) 0 [] 0 (by omega) (by decide) (by decide) (by omega) Okd.nil rfl (by simp [val])
theorem plus_ev (m n : Nat) (hm : (dg m).length ≤ 1073741824) (hn : (dg n).length ≤ 1073741824) : Ev (fun k => pointillistref01_plus.f k (dg m) (dg n)) (dg (m + n)) := by
  have := plus_row (dg m) (dg n) (dg_ok m) (dg_ok n) hm hn
  rwa [val_dg, val_dg] at this
theorem take_snoc (l : List Int) (i : Nat) (h : i < l.length) : l.take (i + 1) = l.take i ++ [rd l (i : Int)] := by
  rw [List.take_add_one]
  unfold rd
  rw [Int.toNat_natCast, List.getD_eq_getElem?_getD, List.getElem?_eq_getElem h]
  rfl
theorem val_take_succ (l : List Int) (i : Nat) (h : i < l.length) : val (l.take (i + 1)) = val (l.take i) + 65536 ^ i * (rd l (i : Int)).toNat := by
  rw [take_snoc l i h, val_snoc, List.length_take, Nat.min_eq_left (by omega)]
theorem Okd.take {l : List Int} (h : Okd l) (n : Nat) : Okd (l.take n) := fun b hb => h b (List.mem_of_mem_take hb)
theorem val_take_lt {l : List Int} (h : Okd l) {i : Nat} (hi : i ≤ l.length) : val (l.take i) < 65536 ^ i := by
  have := val_lt _ (h.take i)
  rwa [List.length_take, Nat.min_eq_left hi] at this
theorem digit_lt {P x y a b : Nat} (hx : x < P) (_hy : y < P) (hab : a < b) : x + P * a < y + P * b := by
  have : P * a + P ≤ P * b := by rw [← Nat.mul_succ]; exact Nat.mul_le_mul_left P hab
  omega
theorem less_loop (a b : List Int) (ha : Okd a) (hb : Okd b) (hl : a.length = b.length) (hla : a.length ≤ 1073741824) :
    ∀ j, j ≤ a.length → Ev (fun k => pointillistref01_less.l0 k a b ((j : Int) - 1)) (decide (val (a.take j) < val (b.take j))) := by
  intro j
  induction j with
  | zero =>
    intro _
    refine Ev.step (f := fun _ => some false) (fun k => ?_) ?_
    · rw [pointillistref01_less.l0, if_neg (by decide)]
    · exact Ev.now _
  | succ j ih =>
    intro hj
    have e0 : ((j + 1 : Nat) : Int) - 1 = (j : Int) := by omega
    have h1 := rd_ok ha (show j < a.length by omega)
    have h2 := rd_ok hb (show j < b.length by omega)
    have t1 := val_take_lt ha (show j ≤ a.length by omega)
    have t2 := val_take_lt hb (show j ≤ b.length by omega)
    rw [e0, val_take_succ a j (by omega), val_take_succ b j (by omega)]
    by_cases he : rd a (j : Int) = rd b (j : Int)
    · have e1 : decide (val (a.take j) + 65536 ^ j * (rd a (j : Int)).toNat < val (b.take j) + 65536 ^ j * (rd b (j : Int)).toNat) = decide (val (a.take j) < val (b.take j)) := by
        rw [he, Bool.eq_iff_iff, decide_eq_true_eq, decide_eq_true_eq]; omega
      rw [e1]
      refine Ev.step (f := fun k => pointillistref01_less.l0 k a b ((j : Int) - 1)) (fun k => ?_) (ih (by omega))
      rw [pointillistref01_less.l0, if_pos (by omega), if_pos (by omega), if_pos (by omega), if_pos (by omega), if_pos he, w64' _ (by omega) (by omega)]
    · refine Ev.step (f := fun k => some (decide (rd a (j : Int) < rd b (j : Int)))) (fun k => ?_) ?_
      · rw [pointillistref01_less.l0, if_pos (by omega), if_pos (by omega), if_pos (by omega), if_pos (by omega), if_neg he]
      · have e1 : decide (val (a.take j) + 65536 ^ j * (rd a (j : Int)).toNat < val (b.take j) + 65536 ^ j * (rd b (j : Int)).toNat) = decide (rd a (j : Int) < rd b (j : Int)) := by
          rw [Bool.eq_iff_iff, decide_eq_true_eq, decide_eq_true_eq]
          constructor
          · intro h
            refine Int.lt_of_not_ge fun hge => ?_
            have := digit_lt t2 t1 (show (rd b (j : Int)).toNat < (rd a (j : Int)).toNat by omega)
            omega
          · intro h
            exact digit_lt t1 t2 (by omega)
        rw [e1]
        exact Ev.now _
theorem less_row (a b : List Int) (ha : Okd a) (hb : Okd b) (hl : a.length = b.length) (hla : a.length ≤ 1073741824) :
    Ev (fun k => pointillistref01_less.f k a b) (decide (val a < val b)) := by
  have := less_loop a b ha hb hl hla a.length (Nat.le_refl _)
  rw [List.take_length, hl, List.take_length] at this
  refine Ev.congr (fun k => ?_) this
  rw [pointillistref01_less.f, if_pos (by omega), w64' _ (by omega) (by omega), hl]
theorem dg_len_low {n : Nat} (h : 0 < n) : 65536 ^ ((dg n).length - 1) ≤ n := by
  refine Nat.le_of_not_lt fun hn => ?_
  have := dg_len hn
  have := (dg_len_pos n).mpr h
  omega
theorem dg_len_lt {m n : Nat} (h : (dg m).length < (dg n).length) : m < n := by
  have h1 := val_lt _ (dg_ok m)
  rw [val_dg] at h1
  have h2 := dg_len_low (n := n) ((dg_len_pos n).mp (by omega))
  have h3 : 65536 ^ (dg m).length ≤ 65536 ^ ((dg n).length - 1) := Nat.pow_le_pow_right (by decide) (by omega)
  omega
theorem dg_len_mono {m n : Nat} (h : m ≤ n) : (dg m).length ≤ (dg n).length := Nat.le_of_not_lt fun hl => by have := dg_len_lt hl; omega
theorem less_ev (m n : Nat) (hm : (dg m).length ≤ 1073741824) (_hn : (dg n).length ≤ 1073741824) : Ev (fun k => pointillistref01_less.f k (dg m) (dg n)) (decide (m < n)) := by
  by_cases hl : (dg m).length = (dg n).length
  · have := less_row (dg m) (dg n) (dg_ok m) (dg_ok n) hl hm
    rwa [val_dg, val_dg] at this
  · have e : decide (m < n) = decide (((dg m).length : Int) < ((dg n).length : Int)) := by
      rw [Bool.eq_iff_iff, decide_eq_true_eq, decide_eq_true_eq]
      constructor
      · intro h; have := dg_len_mono (show m ≤ n by omega); omega
      · intro h; exact dg_len_lt (by omega)
    rw [e]
    refine Ev.congr (fun k => ?_) (Ev.now _)
    rw [pointillistref01_less.f, if_neg (by omega)]
theorem minus_step (a b o : List Int) (c : Int) (i : Nat) (ha : Okd a) (hb : Okd b) (hc : 0 ≤ c) (hc1 : c ≤ 1) (hi : i < 4611686018427387904) (ho : o.length < 17592186044416)
    (hgo : (i : Int) < (a.length : Int)) (k : Nat) :
    pointillistref01_minus.l0 (k + 1) a b o c (i : Int) = pointillistref01_minus.l0 k a b (o ++ [(rd a i - c - rd b i) % 65536]) (if rd a i - c - rd b i < 0 then 1 else 0) ((i + 1 : Nat) : Int) := by
  have h1 := rd_ok' ha i
  have h2 := rd_ok' hb i
  have e0 : wrap64 ((i : Int) + 1) = ((i + 1 : Nat) : Int) := by rw [w64' _ (by omega) (by omega)]; omega
  rw [pointillistref01_minus.l0, if_pos hgo, if_pos (by omega), if_pos ho, if_pos ho, if_pos ho, if_pos ho, e0, w64' (rd a i - c) (by omega) (by omega)]
  have key : ∀ x : Int, -65536 ≤ x → x < 65536 → (if x < 0 then pointillistref01_minus.l0 k a b (o ++ [wrap64 (x + 65536)]) 1 ((i + 1 : Nat) : Int) else pointillistref01_minus.l0 k a b (o ++ [x]) 0 ((i + 1 : Nat) : Int)) =
      pointillistref01_minus.l0 k a b (o ++ [x % 65536]) (if x < 0 then 1 else 0) ((i + 1 : Nat) : Int) := by
    intro x hx hx1
    by_cases hn : x < 0
    · rw [if_pos hn, if_pos hn, w64' _ (by omega) (by omega)]
      have : x + 65536 = x % 65536 := by omega
      rw [this]
    · rw [if_neg hn, if_neg hn]
      have : x % 65536 = x := by omega
      rw [this]
  by_cases g2 : (i : Int) < (b.length : Int)
  · rw [if_pos g2, w64' (rd a i - c - rd b i) (by omega) (by omega)]
    exact key _ (by omega) (by omega)
  · rw [if_neg g2, rd_end b i (by omega), Int.sub_zero]
    exact key _ (by omega) (by omega)
theorem minus_loop (a b : List Int) (ha : Okd a) (hb : Okd b) (hla : a.length ≤ 1073741824) (R : Nat) :
    ∀ (d i : Nat) (o : List Int) (c : Int), i + d = a.length → 0 ≤ c → c ≤ 1 → Okd o → o.length = i →
      val o + 65536 ^ i * val (a.drop i) = R + 65536 ^ i * (c.toNat + val (b.drop i)) → Ev (fun k => pointillistref01_minus.l0 k a b o c (i : Int)) (dg R) := by
  intro d
  induction d with
  | zero =>
    intro i o c hi hc hc1 ho hol hR
    refine Ev.step (f := fun k => (pointillistref01_trim.f k o).bind fun t => some t) (fun k => ?_) (ev_some (trim_eq ?_ (by omega) ho))
    · rw [pointillistref01_minus.l0, if_neg (by omega)]
    · rw [val_drop_len a i (by omega), Nat.mul_zero, Nat.add_zero] at hR
      have h1 := val_lt o ho
      rw [hol] at h1
      rcases Nat.eq_zero_or_pos (c.toNat + val (b.drop i)) with h | h
      · rw [h] at hR; simpa using hR
      · have := Nat.le_mul_of_pos_right (65536 ^ i) h
        omega
  | succ d ih =>
    intro i o c hi hc hc1 ho hol hR
    have h1 := rd_ok' ha i
    have h2 := rd_ok' hb i
    refine Ev.step (minus_step a b o c i ha hb hc hc1 (by omega) (by omega) (by omega)) ?_
    refine ih (i + 1) _ _ (by omega) (by split <;> omega) (by split <;> omega) (ho.snoc (by omega) (by omega)) (by simp [hol]) ?_
    rw [val_snoc, hol, Nat.pow_succ]
    rw [val_drop' a i, val_drop' b i] at hR
    have e1 : ((rd a i - c - rd b i) % 65536).toNat + c.toNat + (rd b i).toNat = (rd a i).toNat + 65536 * (if rd a i - c - rd b i < 0 then (1 : Int) else 0).toNat := by split <;> omega
    revert hR e1
    generalize (rd a (i : Int)).toNat = ra
    generalize (rd b (i : Int)).toNat = rb
    generalize (if rd a (i : Int) - c - rd b i < 0 then (1 : Int) else 0).toNat = c2
    generalize ((rd a (i : Int) - c - rd b i) % 65536).toNat = y
    generalize c.toNat = c1
    generalize val (a.drop (i + 1)) = A
    generalize val (b.drop (i + 1)) = B
    generalize 65536 ^ i = P
    intro hR e1
    have e2 := congrArg (P * ·) e1
    simp only [Nat.mul_add, ← Nat.mul_assoc] at hR e2 ⊢
    omega
theorem minus_ev (m n : Nat) (hm : (dg m).length ≤ 1073741824) (h : n ≤ m) : Ev (fun k => pointillistref01_minus.f k (dg m) (dg n)) (dg (m - n)) :=
  minus_loop (dg m) (dg n) (dg_ok m) (dg_ok n) hm (m - n) (dg m).length 0 [] 0 (by omega) (by decide) (by decide) Okd.nil rfl (by
    show 0 + 65536 ^ 0 * val (dg m) = m - n + 65536 ^ 0 * (0 + val (dg n))
    rw [val_dg, val_dg]; omega)
theorem dg_len_mul {m n a b : Nat} (hm : (dg m).length ≤ a) (hn : (dg n).length ≤ b) : (dg (m * n)).length ≤ a + b := by
  refine dg_len ?_
  have h1 := val_lt _ (dg_ok m)
  have h2 := val_lt _ (dg_ok n)
  rw [val_dg] at h1 h2
  have h3 : 65536 ^ (dg m).length ≤ 65536 ^ a := Nat.pow_le_pow_right (by decide) hm
  have h4 : 65536 ^ (dg n).length ≤ 65536 ^ b := Nat.pow_le_pow_right (by decide) hn
  rw [Nat.pow_add]
  rcases Nat.eq_zero_or_pos n with h0 | h0
  · rw [h0, Nat.mul_zero]; exact Nat.mul_pos (by omega) (by omega)
  · calc m * n < 65536 ^ a * n := Nat.mul_lt_mul_of_pos_right (by omega) h0
      _ ≤ 65536 ^ a * 65536 ^ b := Nat.mul_le_mul_left _ (by omega)
theorem dg_len_add {m n a : Nat} (hm : (dg m).length ≤ a) (hn : (dg n).length ≤ a) : (dg (m + n)).length ≤ a + 1 := by
  refine dg_len ?_
  have h1 := val_lt _ (dg_ok m)
  have h2 := val_lt _ (dg_ok n)
  rw [val_dg] at h1 h2
  have h3 : 65536 ^ (dg m).length ≤ 65536 ^ a := Nat.pow_le_pow_right (by decide) hm
  have h4 : 65536 ^ (dg n).length ≤ 65536 ^ a := Nat.pow_le_pow_right (by decide) hn
  rw [Nat.pow_succ]
  omega
def addFlag (g h : Bool) (m n : Nat) : Bool := if g = h then g else if m < n then h else g
def addSize (g h : Bool) (m n : Nat) : Nat := if g = h then m + n else if m < n then n - m else m - n
theorem add_ev (g h : Bool) (m n : Nat) (hm : (dg m).length ≤ 1073741824) (hn : (dg n).length ≤ 1073741824) :
    Ev (fun k => pointillistref01_Add.f k g (dg m) h (dg n)) (addFlag g h m n, dg (addSize g h m n)) := by
  unfold addFlag addSize
  by_cases hg : g = h
  · subst hg
    rw [if_pos rfl, if_pos rfl]
    refine Ev.congr (fun k => ?_) (Ev.bind (plus_ev m n hm hn) (f := fun _ t => some (g, t)) (Ev.now _))
    rw [pointillistref01_Add.f, if_pos (by simp)]
  · rw [if_neg hg, if_neg hg]
    by_cases hl : m < n
    · rw [if_pos hl, if_pos hl]
      have h1 := less_ev m n hm hn
      rw [decide_eq_true hl] at h1
      refine Ev.congr (fun k => ?_) (Ev.bind h1 (f := fun k t => if t = true then ((pointillistref01_minus.f k (dg n) (dg m)).bind fun t => some (h, t)) else ((pointillistref01_minus.f k (dg m) (dg n)).bind fun t => some (g, t)))
        (Ev.congr (fun k => if_pos rfl) (Ev.bind (minus_ev n m hn (by omega)) (f := fun _ t => some (h, t)) (Ev.now _))))
      rw [pointillistref01_Add.f, if_neg (by simp [hg])]
    · rw [if_neg hl, if_neg hl]
      have h1 := less_ev m n hm hn
      rw [decide_eq_false hl] at h1
      refine Ev.congr (fun k => ?_) (Ev.bind h1 (f := fun k t => if t = true then ((pointillistref01_minus.f k (dg n) (dg m)).bind fun t => some (h, t)) else ((pointillistref01_minus.f k (dg m) (dg n)).bind fun t => some (g, t)))
        (Ev.congr (fun k => if_neg (by decide)) (Ev.bind (minus_ev m n hm (by omega)) (f := fun _ t => some (g, t)) (Ev.now _))))
      rw [pointillistref01_Add.f, if_neg (by simp [hg])]
def sgn (g : Bool) (m : Nat) : Int := if g then -(m : Int) else (m : Int)
theorem add_sgn (g h : Bool) (m n : Nat) : sgn (addFlag g h m n) (addSize g h m n) = sgn g m + sgn h n := by
  unfold sgn addFlag addSize
  by_cases hl : m < n
  · rw [if_pos hl, if_pos hl]
    cases g <;> cases h <;> simp <;> omega
  · rw [if_neg hl, if_neg hl]
    cases g <;> cases h <;> simp <;> omega
theorem addSize_le (g h : Bool) (m n : Nat) : addSize g h m n ≤ m + n := by
  unfold addSize; split
  · omega
  · split <;> omega
theorem set_at (j : Nat) (q : List Int) (y : Int) : (List.replicate (j + 1) 0 ++ q).set j y = List.replicate j 0 ++ (y :: q) := by
  rw [List.replicate_succ', List.append_assoc, List.set_append_right _ _ (by simp)]
  simp
theorem half_loop (a : List Int) (ha : Okd a) (hla : a.length ≤ 1073741824) (R : Nat) (r : Int) :
    ∀ (j : Nat) (q : List Int) (c : Int), j ≤ a.length → 0 ≤ c → c ≤ 1 → Okd q → j + q.length = a.length →
      2 * val q + c.toNat = val (a.drop j) → val a / 2 = R → ((val a % 2 : Nat) : Int) = r → Ev (fun k => pointillistref01_half.l0 k a (List.replicate j 0 ++ q) c ((j : Int) - 1)) (dg R, r) := by
  intro j
  induction j with
  | zero =>
    intro q c _ hc hc1 hq hl hv hR hr
    rw [List.drop_zero] at hv
    have e1 : c = r := by omega
    refine Ev.step (f := fun k => (pointillistref01_trim.f k q).bind fun t => some (t, c)) (fun k => ?_) ?_
    · rw [pointillistref01_half.l0, if_neg (by decide)]; rfl
    · rw [e1]
      exact Ev.bind (trim_eq (by omega) (by omega) hq) (f := fun _ t => some (t, r)) (Ev.now _)
  | succ j ih =>
    intro q c hj hc hc1 hq hl hv hR hr
    have h1 := rd_ok' ha j
    have e0 : ((j + 1 : Nat) : Int) - 1 = (j : Int) := by omega
    rw [e0]
    refine Ev.step (f := fun k => pointillistref01_half.l0 k a (List.replicate j 0 ++ (((c * 65536 + rd a j) / 2) :: q)) ((c * 65536 + rd a j) % 2) ((j : Int) - 1)) (fun k => ?_) ?_
    · rw [pointillistref01_half.l0, if_pos (by omega), if_pos (by omega), if_pos (by omega), if_pos (by simp; omega), Int.toNat_natCast, set_at]
      rw [w64' (c * 65536) (by omega) (by omega), w64' (c * 65536 + rd a j) (by omega) (by omega), Int.tdiv_eq_ediv_of_nonneg (by omega), Int.tmod_eq_emod_of_nonneg (by omega), w64' ((c * 65536 + rd a j) / 2) (by omega) (by omega), w64' ((j : Int) - 1) (by omega) (by omega)]
    · refine ih _ _ (by omega) (by omega) (by omega) (Okd.cons (by omega) (by omega) hq) (by simp; omega) ?_ hR hr
      rw [val_drop' a j, ← hv]
      show 2 * (((c * 65536 + rd a j) / 2).toNat + 65536 * val q) + ((c * 65536 + rd a j) % 2).toNat = _
      omega
theorem half_ev (m : Nat) (hm : (dg m).length ≤ 1073741824) : Ev (fun k => pointillistref01_half.f k (dg m)) (dg (m / 2), ((m % 2 : Nat) : Int)) := by
  have := half_loop (dg m) (dg_ok m) hm (m / 2) _ (dg m).length [] 0 (Nat.le_refl _) (by decide) (by decide) Okd.nil rfl (by rw [val_drop_len _ _ (Nat.le_refl _)]; rfl) (by rw [val_dg]) rfl
  rw [val_dg, List.append_nil] at this
  refine Ev.congr (fun k => ?_) this
  rw [pointillistref01_half.f, if_pos (by omega), if_pos (by omega), Int.toNat_natCast, w64' _ (by omega) (by omega)]
def bv : List Int → Nat
  | [] => 0
  | a :: l => a.toNat + 2 * bv l
def Okb (l : List Int) : Prop := ∀ a ∈ l, 0 ≤ a ∧ a < 2
theorem bv_app (l r : List Int) : bv (l ++ r) = bv l + 2 ^ l.length * bv r := by
  induction l with
  | nil => simp [bv]
  | cons a l ih =>
    show a.toNat + 2 * bv (l ++ r) = a.toNat + 2 * bv l + 2 ^ (l.length + 1) * bv r
    rw [ih, Nat.pow_succ, Nat.mul_add, Nat.add_assoc]
    congr 2
    rw [← Nat.mul_assoc]
    congr 1
    rw [Nat.mul_comm]
theorem dg1 : ([1] : List Int) = dg 1 := by rw [dg_pos (by decide)]; show _ = _ :: dg 0; rw [dg_0]; rfl
theorem floor_top (A C : Nat) (g : Bool) (hA : (dg A).length ≤ 1073741800) (hC0 : 0 < C) (hC : (dg C).length ≤ 1073741800) (bits : List Int) (hb : Okb bits) (hbl : bits.length < 4611686018427387904) (hv : bv bits = A) (L : List Int) :
    ∀ (j Q R : Nat), j ≤ bits.length → Q * C + R = bv (bits.drop j) → R < C →
      Ev (fun k => pointillistref01_Floor.l1 k (dg C) bits (dg Q) (dg R) ((j : Int) - 1) g L) (if g = true ∧ A % C ≠ 0 then (decide (0 < A / C + 1), dg (A / C + 1)) else (decide (g = true ∧ 0 < A / C), dg (A / C))) := by
  intro j
  induction j with
  | zero =>
    intro Q R _ hqr hr
    rw [List.drop_zero, hv] at hqr
    have e1 : A / C = Q := by rw [← hqr, Nat.add_comm, Nat.add_mul_div_right _ _ hC0, Nat.div_eq_of_lt hr, Nat.zero_add]
    have e2 : A % C = R := by rw [← hqr, Nat.add_comm, Nat.add_mul_mod_self_right, Nat.mod_eq_of_lt hr]
    rw [e1, e2]
    have hQ : (dg Q).length ≤ 1073741800 := Nat.le_trans (dg_len_mono (by rw [← e1]; exact Nat.div_le_self _ _)) hA
    cases g with
    | false =>
      refine Ev.step (f := fun k => some (false, dg Q)) (fun k => ?_) ?_
      · rw [pointillistref01_Floor.l1, if_neg (by decide), if_neg (by decide)]
      · rw [if_neg (by simp), decide_eq_false (by simp)]; exact Ev.now _
    | true =>
      by_cases h0 : R = 0
      · subst h0
        refine Ev.step (f := fun k => some (decide (0 < (dg Q).length), dg Q)) (fun k => ?_) ?_
        · rw [pointillistref01_Floor.l1, if_neg (by decide), if_pos rfl, dg_0, if_neg (by decide)]
        · rw [if_neg (by simp)]
          have : decide (true = true ∧ 0 < Q) = decide (0 < (dg Q).length) := by rw [Bool.eq_iff_iff, decide_eq_true_eq, decide_eq_true_eq, dg_len_pos]; simp
          rw [this]; exact Ev.now _
      · refine Ev.step (f := fun k => (pointillistref01_plus.f k (dg Q) (dg 1)).bind fun t => some (decide (0 < t.length), t)) (fun k => ?_) ?_
        · have := (dg_len_pos R).mpr (by omega)
          rw [pointillistref01_Floor.l1, if_neg (by decide), if_pos rfl, if_pos (by omega), dg1]
        · rw [if_pos ⟨rfl, h0⟩]
          have : decide (0 < Q + 1) = decide (0 < (dg (Q + 1)).length) := by rw [Bool.eq_iff_iff, decide_eq_true_eq, decide_eq_true_eq, dg_len_pos]
          rw [this]
          exact Ev.bind (plus_ev Q 1 (by omega) (by rw [← dg1]; decide)) (f := fun _ t => some (decide (0 < t.length), t)) (Ev.now _)
  | succ j ih =>
    intro Q R hj hqr hr
    have e0 : ((j + 1 : Nat) : Int) - 1 = (j : Int) := by omega
    rw [e0]
    have hx : bits.drop j = rd bits (j : Int) :: bits.drop (j + 1) := rd_drop bits j (by omega)
    have hbj : 0 ≤ rd bits (j : Int) ∧ rd bits (j : Int) < 2 := hb _ (List.mem_of_mem_drop (by rw [hx]; exact List.mem_cons_self ..))
    have hbv : bv (bits.drop j) = (rd bits (j : Int)).toNat + 2 * (Q * C + R) := by rw [hx, hqr]; rfl
    have hle : bv (bits.drop j) ≤ A := by
      have := bv_app (bits.take j) (bits.drop j)
      rw [List.take_append_drop, hv] at this
      have h2 := Nat.le_mul_of_pos_left (bv (bits.drop j)) (Nat.pow_pos (n := (bits.take j).length) (show 0 < 2 by decide))
      omega
    have hQA : Q ≤ A := by
      have h1 : Q * 1 ≤ Q * C := Nat.mul_le_mul_left Q hC0
      omega
    have hlQ : (dg Q).length ≤ 1073741800 := Nat.le_trans (dg_len_mono hQA) hA
    have hlR : (dg R).length ≤ 1073741800 := Nat.le_trans (dg_len_mono (show R ≤ C by omega)) hC
    have hlQ2 := dg_len_add hlQ hlQ
    have hlR2 := dg_len_add hlR hlR

    have hj2 : ∀ R2 : Nat, R2 = 2 * R + (rd bits (j : Int)).toNat → Ev (fun k => pointillistref01_Floor.j2 k (dg C) bits (dg (Q + Q)) (dg R2) (j : Int) g L)
        (if g = true ∧ A % C ≠ 0 then (decide (0 < A / C + 1), dg (A / C + 1)) else (decide (g = true ∧ 0 < A / C), dg (A / C))) := by
      intro R2 hR2
      have hlR2' : (dg R2).length ≤ 1073741810 := by
        have h1 : (dg 1).length ≤ 1 := by rw [← dg1]; decide
        have h2 := dg_len_add hlR2 (Nat.le_trans h1 (by decide))
        have h3 := dg_len_mono (show R2 ≤ R + R + 1 by omega)
        omega
      have hls := less_ev R2 C (by omega) (by omega)
      have hw : wrap64 ((j : Int) - 1) = (j : Int) - 1 := w64' _ (by omega) (by omega)
      refine Ev.step (f := fun k => (pointillistref01_less.f k (dg R2) (dg C)).bind fun t285 => (if t285 = true then (pointillistref01_Floor.l1 k (dg C) bits (dg (Q + Q)) (dg R2) ((j : Int) - 1) g L) else ((pointillistref01_minus.f k (dg R2) (dg C)).bind fun t286 => ((pointillistref01_plus.f k (dg (Q + Q)) (dg 1)).bind fun t292 => (pointillistref01_Floor.l1 k (dg C) bits t292 t286 ((j : Int) - 1) g L))))) (fun k => ?_) ?_
      · rw [pointillistref01_Floor.j2, hw, dg1]
      · refine Ev.bind hls ?_
        by_cases hl : R2 < C
        · refine Ev.congr (fun k => if_pos (decide_eq_true hl)) ?_
          refine ih (Q + Q) R2 (by omega) ?_ hl
          rw [hbv, hR2, Nat.add_mul]; omega
        · refine Ev.congr (fun k => if_neg (by rw [decide_eq_false hl]; decide)) ?_
          refine Ev.bind (minus_ev R2 C (by omega) (by omega)) ?_
          refine Ev.bind (plus_ev (Q + Q) 1 (by omega) (by rw [← dg1]; decide)) ?_
          refine ih (Q + Q + 1) (R2 - C) (by omega) ?_ (by omega)
          rw [hbv, hR2, Nat.add_mul, Nat.add_mul]; omega
    refine Ev.step (f := fun k => (pointillistref01_plus.f k (dg Q) (dg Q)).bind fun t272 => ((pointillistref01_plus.f k (dg R) (dg R)).bind fun t275 => (if (rd bits (j : Int)) = 1 then ((pointillistref01_plus.f k t275 (dg 1)).bind fun t282 => (pointillistref01_Floor.j2 k (dg C) bits t272 t282 (j : Int) g L)) else (pointillistref01_Floor.j2 k (dg C) bits t272 t275 (j : Int) g L)))) (fun k => ?_) ?_
    · rw [pointillistref01_Floor.l1, if_pos (by omega)]
      simp only [if_pos (show (0 : Int) ≤ (j : Int) by omega), if_pos (show (j : Int) < (bits.length : Int) by omega), dg1]
    · refine Ev.bind (plus_ev Q Q (by omega) (by omega)) ?_
      refine Ev.bind (plus_ev R R (by omega) (by omega)) ?_
      by_cases h1 : rd bits (j : Int) = 1
      · refine Ev.congr (fun k => if_pos h1) ?_
        refine Ev.bind (plus_ev (R + R) 1 (by omega) (by rw [← dg1]; decide)) ?_
        exact hj2 _ (by rw [h1]; show R + R + 1 = 2 * R + 1; omega)
      · refine Ev.congr (fun k => if_neg h1) ?_
        have : rd bits (j : Int) = 0 := by omega
        exact hj2 _ (by rw [this]; show R + R = 2 * R + 0; omega)
def floorP (g : Bool) (A C : Nat) : Bool × List Int := if g = true ∧ A % C ≠ 0 then (decide (0 < A / C + 1), dg (A / C + 1)) else (decide (g = true ∧ 0 < A / C), dg (A / C))
theorem floor_bits (A C : Nat) (g : Bool) (hA : (dg A).length ≤ 1073741800) (hC0 : 0 < C) (hC : (dg C).length ≤ 1073741800) (L : List Int) :
    ∀ (d m : Nat) (bits : List Int), m < 2 ^ d → bits.length + d ≤ 17592186044416 → Okb bits → bv bits + 2 ^ bits.length * m = A → (dg m).length ≤ 1073741800 →
      Ev (fun k => pointillistref01_Floor.l0 k (dg C) bits (dg m) g L) (floorP g A C) := by
  intro d
  induction d with
  | zero =>
    intro m bits hm hl hb hv _
    have hm0 : m = 0 := by simpa using hm
    subst hm0
    rw [Nat.mul_zero, Nat.add_zero] at hv
    have h := floor_top A C g hA hC0 hC bits hb (by omega) hv L bits.length 0 0 (Nat.le_refl _) (by rw [List.drop_length]; simp [bv]) hC0
    rw [dg_0] at h
    refine Ev.step (fun k => ?_) h
    rw [pointillistref01_Floor.l0, dg_0, if_neg (by decide), w64' _ (by omega) (by omega)]
  | succ d ih =>
    intro m bits hm hl hb hv hml
    rcases Nat.eq_zero_or_pos m with hm0 | hm0
    · subst hm0
      rw [Nat.mul_zero, Nat.add_zero] at hv
      have h := floor_top A C g hA hC0 hC bits hb (by omega) hv L bits.length 0 0 (Nat.le_refl _) (by rw [List.drop_length]; simp [bv]) hC0
      rw [dg_0] at h
      refine Ev.step (fun k => ?_) h
      rw [pointillistref01_Floor.l0, dg_0, if_neg (by decide), w64' _ (by omega) (by omega)]
    · refine Ev.step (f := fun k => (pointillistref01_half.f k (dg m)).bind fun bt => pointillistref01_Floor.l0 k (dg C) (bits ++ [bt.2]) bt.1 g L) (fun k => ?_) ?_
      · have := (dg_len_pos m).mpr hm0
        rw [pointillistref01_Floor.l0, if_pos (by omega)]
        simp only [if_pos (show bits.length < 17592186044416 by omega)]
      · refine Ev.bind (half_ev m (by omega)) ?_
        rw [Nat.pow_succ] at hm
        refine ih (m / 2) (bits ++ [((m % 2 : Nat) : Int)]) (by omega) (by simp; omega) ?_ ?_ (Nat.le_trans (dg_len_mono (Nat.div_le_self _ _)) hml)
        · intro b hbm
          rcases List.mem_append.mp hbm with h | h
          · exact hb b h
          · rw [List.mem_singleton.mp h]; omega
        · rw [bv_app, List.length_append, List.length_singleton, Nat.pow_succ, ← hv]
          show bv bits + 2 ^ bits.length * ((m % 2 : Nat) + 2 * 0) + 2 ^ bits.length * 2 * (m / 2) = _
          rw [Nat.mul_assoc, Nat.add_assoc, ← Nat.mul_add]
          congr 2
          omega
theorem floor_ev (A C : Nat) (g : Bool) (d : Nat) (hd : A < 2 ^ d) (hdl : d ≤ 17592186044416) (hA : (dg A).length ≤ 1073741800) (hC0 : 0 < C) (hC : (dg C).length ≤ 1073741800) :
    Ev (fun k => pointillistref01_Floor.f k g (dg A) (dg C)) (floorP g A C) :=
  floor_bits A C g hA hC0 hC (dg A) d A [] hd (by simpa using hdl) (fun _ h => by cases h) (by simp [bv]) hA
def floorFlag (g : Bool) (A C : Nat) : Bool := if g = true ∧ A % C ≠ 0 then decide (0 < A / C + 1) else decide (g = true ∧ 0 < A / C)
def floorSize (g : Bool) (A C : Nat) : Nat := if g = true ∧ A % C ≠ 0 then A / C + 1 else A / C
theorem floorP_eq (g : Bool) (A C : Nat) : floorP g A C = (floorFlag g A C, dg (floorSize g A C)) := by
  unfold floorP floorFlag floorSize; split <;> rfl
theorem neg_floor (C q r : Nat) (hr : r < C) : -((C * q + r : Nat) : Int) / (C : Int) = if r = 0 then -(q : Int) else -(q : Int) - 1 := by
  by_cases h : r = 0
  · rw [if_pos h, h, Nat.add_zero, Int.natCast_mul, ← Int.mul_neg, Int.mul_ediv_cancel_left _ (by omega)]
  · rw [if_neg h, Int.natCast_add, Int.natCast_mul]
    have : -((C : Int) * (q : Int) + (r : Int)) = ((C : Int) - (r : Int)) + C * (-(q : Int) - 1) := by rw [Int.mul_sub, Int.mul_neg]; omega
    rw [this, Int.add_mul_ediv_left _ _ (by omega), Int.ediv_eq_zero_of_lt (by omega) (by omega)]
    omega
theorem floor_sgn (g : Bool) (A C : Nat) (hC : 0 < C) : sgn (floorFlag g A C) (floorSize g A C) = sgn g A / (C : Int) := by
  have h1 := Nat.div_add_mod A C
  have h2 := Nat.mod_lt A hC
  unfold floorFlag floorSize
  cases g with
  | false =>
    rw [if_neg (by simp), if_neg (by simp), decide_eq_false (by simp)]
    show ((A / C : Nat) : Int) = ((A : Nat) : Int) / (C : Int)
    exact Int.natCast_ediv A C
  | true =>
    have hk := neg_floor C (A / C) (A % C) h2
    rw [h1] at hk
    show _ = -(A : Int) / (C : Int)
    rw [hk]
    generalize A / C = q
    by_cases h : A % C = 0
    · rw [if_neg (by simp [h]), if_neg (by simp [h]), if_pos h]
      by_cases hq : 0 < q
      · rw [decide_eq_true ⟨rfl, hq⟩]; rfl
      · have : q = 0 := by omega
        subst this; rfl
    · rw [if_pos ⟨rfl, h⟩, if_pos ⟨rfl, h⟩, if_neg h, decide_eq_true (by omega)]
      show -((q + 1 : Nat) : Int) = _
      omega
theorem floorSize_le (g : Bool) (A C : Nat) : floorSize g A C ≤ A + 1 := by
  have := Nat.div_le_self A C
  unfold floorSize; split <;> omega
theorem lt_two_pow_dg (m : Nat) : m < 2 ^ (16 * (dg m).length) := by
  have h := val_lt _ (dg_ok m)
  rw [val_dg] at h
  rw [Nat.pow_mul]
  exact h
theorem near_ev (g : Bool) (m : Nat) (h : Bool) (C : Nat) (hm : (dg m).length ≤ 1073741000) (hC : (dg C).length ≤ 1073741000) (hC0 : 0 < C) :
    ∃ (f : Bool) (q : Nat), Ev (fun k => pointillistref01_Near.f k g (dg m) h (dg C)) (f, dg q) ∧ sgn f q = (2 * sgn (g != h) m + C) / (2 * (C : Int)) ∧ q ≤ 2 * m + C + 1 := by
  have body : ∀ e : Bool, ∃ (f : Bool) (q : Nat), Ev (fun k => pointillistref01_Near.j0 k e (dg m) false (dg C)) (f, dg q) ∧ sgn f q = (2 * sgn e m + C) / (2 * (C : Int)) ∧ q ≤ 2 * m + C + 1 := by
    intro e
    have l1 := dg_len_add hm hm
    have l2 := dg_len_add hC hC
    have s1 := addSize_le e e m m
    have l3 : (dg (addSize e e m m)).length ≤ 1073741001 := Nat.le_trans (dg_len_mono s1) l1
    have s2 := addSize_le (addFlag e e m m) false (addSize e e m m) C
    have l4 : (dg (addSize (addFlag e e m m) false (addSize e e m m) C)).length ≤ 1073741002 := Nat.le_trans (dg_len_mono s2) (dg_len_add l3 (by omega))
    refine ⟨floorFlag (addFlag (addFlag e e m m) false (addSize e e m m) C) (addSize (addFlag e e m m) false (addSize e e m m) C) (C + C), floorSize (addFlag (addFlag e e m m) false (addSize e e m m) C) (addSize (addFlag e e m m) false (addSize e e m m) C) (C + C), ?_, ?_, ?_⟩
    · rw [← floorP_eq]
      refine Ev.step (f := fun k => (pointillistref01_Add.f k e (dg m) e (dg m)).bind fun bt298 => ((pointillistref01_Add.f k bt298.1 bt298.2 false (dg C)).bind fun bt302 => ((pointillistref01_plus.f k (dg C) (dg C)).bind fun t306 => ((pointillistref01_Floor.f k bt302.1 bt302.2 t306).bind fun bt309 => (some (bt309.1, bt309.2)))))) (fun k => rfl) ?_
      refine Ev.bind (add_ev e e m m (by omega) (by omega)) ?_
      refine Ev.bind (add_ev _ false _ C (by omega) (by omega)) ?_
      refine Ev.bind (plus_ev C C (by omega) (by omega)) ?_
      have l5 : (dg (C + C)).length ≤ 1073741800 := by omega
      have l6 : 16 * (dg (addSize (addFlag e e m m) false (addSize e e m m) C)).length ≤ 17592186044416 := by omega
      have l7 : (dg (addSize (addFlag e e m m) false (addSize e e m m) C)).length ≤ 1073741800 := by omega
      refine Ev.bind (floor_ev _ (C + C) _ _ (lt_two_pow_dg _) l6 l7 (by omega) l5) ?_
      exact Ev.now _
    · rw [floor_sgn _ _ _ (by omega), add_sgn, add_sgn]
      have e1 : sgn false C = (C : Int) := rfl
      have e2 : ((C + C : Nat) : Int) = 2 * (C : Int) := by omega
      rw [e1, e2]
      congr 1
      omega
    · have := floorSize_le (addFlag (addFlag e e m m) false (addSize e e m m) C) (addSize (addFlag e e m m) false (addSize e e m m) C) (C + C)
      omega
  cases h with
  | true =>
    obtain ⟨f, q, h1, h2⟩ := body (!g)
    refine ⟨f, q, Ev.congr (fun k => ?_) h1, ?_⟩
    · rw [pointillistref01_Near.f, if_pos rfl]
    · have : (g != true) = !g := by cases g <;> rfl
      rw [this]; exact h2
  | false =>
    obtain ⟨f, q, h1, h2⟩ := body g
    refine ⟨f, q, Ev.congr (fun k => ?_) h1, ?_⟩
    · rw [pointillistref01_Near.f, if_neg (by decide)]
    · have : (g != false) = g := by cases g <;> rfl
      rw [this]; exact h2
theorem digit_mul {a b : Int} (ha : 0 ≤ a) (ha1 : a < 65536) (hb : 0 ≤ b) (hb1 : b < 65536) : 0 ≤ a * b ∧ a * b ≤ 4294836225 :=
  ⟨Int.mul_nonneg ha hb, Int.mul_le_mul (c := 65535) (d := 65535) (by omega) (by omega) hb (by omega)⟩
theorem mul_step (a b o : List Int) (g h : Bool) (c : Int) (i j P : Nat) (ha : Okd a) (hb : Okd b) (hi : i < a.length) (hc : 0 ≤ c) (hc1 : c ≤ 65535) (hj : j < 4611686018427387904) (ho : o.length < 17592186044416)
    (hgo : (j : Int) < (b.length : Int) ∨ 0 < c) (k : Nat) :
    pointillistref01_Mul.l1 (k + 1 + 1) (dg P) (i : Int) o c (j : Int) g a h b = pointillistref01_Mul.l1 k (dg P) (i : Int) (o ++ [(c + rd a (i : Int) * rd b (j : Int)) % 65536]) ((c + rd a (i : Int) * rd b (j : Int)) / 65536) ((j + 1 : Nat) : Int) g a h b := by
  have h1 := rd_ok' ha i
  have h2 := rd_ok' hb j
  have hm := digit_mul h1.1 h1.2 h2.1 h2.2
  have e0 : wrap64 ((j : Int) + 1) = ((j + 1 : Nat) : Int) := by rw [w64' _ (by omega) (by omega)]; omega
  have m1 : ∀ x : Int, 0 ≤ x → Int.tmod x 65536 = x % 65536 := fun x hx => Int.tmod_eq_emod_of_nonneg hx
  have m2 : ∀ x : Int, 0 ≤ x → x < 4611686018427387904 → wrap64 (Int.tdiv x 65536) = x / 65536 := fun x hx h => by rw [Int.tdiv_eq_ediv_of_nonneg hx, w64' _ (by omega) (by omega)]
  have hj2 : pointillistref01_Mul.l1 (k + 1 + 1) (dg P) (i : Int) o c (j : Int) g a h b = pointillistref01_Mul.j2 (k + 1) (dg P) (i : Int) o c (j : Int) true g a h b := by
    rw [pointillistref01_Mul.l1]
    by_cases g1 : (j : Int) < (b.length : Int)
    · rw [if_pos g1]
    · rw [if_neg g1, decide_eq_true (by omega)]
  have hi' : (i : Int) < (a.length : Int) := by omega
  have hi0 : (0 : Int) ≤ (i : Int) := by omega
  have hj0 : (0 : Int) ≤ (j : Int) := by omega
  rw [hj2, pointillistref01_Mul.j2, if_pos rfl, e0]
  generalize hx : rd a (i : Int) * rd b (j : Int) = x at hm
  by_cases g1 : (j : Int) < (b.length : Int)
  · have hw1 : wrap64 x = x := w64' x (by omega) (by omega)
    have hw2 : wrap64 (c + x) = c + x := w64' _ (by omega) (by omega)
    rw [if_pos g1, if_pos hi0, if_pos hi', if_pos hj0, if_pos ho, hw1, hw2, m1 _ (by omega), m2 _ (by omega) (by omega)]
  · have hx0 : x = 0 := by rw [← hx, rd_end b j (by omega), Int.mul_zero]
    rw [if_neg g1, if_pos ho, hx0, Int.add_zero, m1 _ (by omega), m2 _ (by omega) (by omega)]
structure Hid (p : Prop) : Prop where
  is : p
theorem mul_row (a b : List Int) (g h : Bool) (ha : Okd a) (hb : Okd b) (hla : a.length ≤ 1073741000) (hlb : b.length ≤ 1073741000) (i : Nat) (hi : i < a.length) (P Rr : Nat) (res : Bool × List Int)
    (hPR : Hid ((dg P).length ≤ 1073741824 ∧ (dg Rr).length ≤ 1073741824))
    (hcont : Ev (fun k => pointillistref01_Mul.l0 k (dg (P + Rr)) ((i + 1 : Nat) : Int) g a h b) res) :
    ∀ (d j : Nat) (o : List Int) (c : Int), j + d = b.length + 1 → 0 ≤ c → c ≤ 65535 → (d = 0 → c = 0) → Okd o → o.length = i + j →
      Hid (val o + 65536 ^ (i + j) * (c.toNat + (rd a (i : Int)).toNat * val (b.drop j)) = Rr) → Ev (fun k => pointillistref01_Mul.l1 k (dg P) (i : Int) o c (j : Int) g a h b) res := by
  have fin : ∀ (j : Nat) (o : List Int), Okd o → o.length = i + j → j ≤ b.length + 1 → b.length ≤ j → val o = Rr → Ev (fun k => pointillistref01_Mul.l1 k (dg P) (i : Int) o 0 (j : Int) g a h b) res := by
    intro j o ho hol hj1 hj hv
    have hw : wrap64 ((i : Int) + 1) = ((i + 1 : Nat) : Int) := by rw [w64' _ (by omega) (by omega)]; omega
    refine ev_step2 (f := fun k => (pointillistref01_trim.f k o).bind fun t327 => ((pointillistref01_plus.f k (dg P) t327).bind fun t330 => (pointillistref01_Mul.l0 k t330 ((i + 1 : Nat) : Int) g a h b))) (fun k => ?_) ?_
    · rw [pointillistref01_Mul.l1, if_neg (by omega), decide_eq_false (by decide), pointillistref01_Mul.j2, if_neg (by decide), hw]
    · refine Ev.bind (trim_eq hv (by omega) ho) ?_
      exact Ev.bind (plus_ev P Rr hPR.is.1 hPR.is.2) hcont
  intro d
  induction d with
  | zero =>
    intro j o c hj hc hc1 hd ho hol hv
    have h0 := hd rfl
    subst h0
    refine fin j o ho hol (by omega) (by omega) ?_
    have hv := hv.is
    rw [val_drop_len b j (by omega)] at hv
    simpa using hv
  | succ d ih =>
    intro j o c hj hc hc1 hd ho hol hv
    have h1 := rd_ok' ha i
    have h2 := rd_ok' hb j
    have hm := digit_mul h1.1 h1.2 h2.1 h2.2
    by_cases hgo : (j : Int) < (b.length : Int) ∨ 0 < c
    · refine ev_step2 (fun k => mul_step a b o g h c i j P ha hb hi hc hc1 (by omega) (by omega) hgo k) ?_
      refine ih (j + 1) _ _ (by omega) (by omega) (by omega) ?_ (ho.snoc (by omega) (by omega)) (by simp [hol]; omega) ?_
      · intro hd0
        rw [rd_end b j (by omega), Int.mul_zero]
        omega
      · refine ⟨?_⟩
        rw [val_snoc, hol, ← Nat.add_assoc i j 1, Nat.pow_succ, ← hv.is, val_drop' b j]
        clear hv hgo ih hcont fin
        refine pow_up _ _ _ _ _ ?_
        have e3 : (rd a (i : Int)).toNat * (rd b (j : Int)).toNat = (rd a (i : Int) * rd b (j : Int)).toNat := by
          have : (((rd a (i : Int)).toNat * (rd b (j : Int)).toNat : Nat) : Int) = rd a (i : Int) * rd b (j : Int) := by
            rw [Int.natCast_mul, Int.toNat_of_nonneg h1.1, Int.toNat_of_nonneg h2.1]
          omega
        rw [Nat.mul_add, Nat.mul_add, e3]
        have e4 : (rd a (i : Int)).toNat * (65536 * val (b.drop (j + 1))) = 65536 * ((rd a (i : Int)).toNat * val (b.drop (j + 1))) := by rw [← Nat.mul_assoc, ← Nat.mul_assoc, Nat.mul_comm _ 65536]
        rw [e4]
        omega
    · have h0 : c = 0 := by omega
      subst h0
      refine fin j o ho hol (by omega) (by omega) ?_
      have hv := hv.is
      rw [val_drop_len b j (by omega)] at hv
      simpa using hv
theorem mul_loop (a b : List Int) (g h : Bool) (ha : Okd a) (hb : Okd b) (hla : a.length ≤ 1073741000) (hlb : b.length ≤ 1073741000) (R : Nat) (hR : (dg R).length ≤ 1073741824) :
    ∀ (d i P : Nat), i + d = a.length → P + 65536 ^ i * (val (a.drop i) * val b) = R → Ev (fun k => pointillistref01_Mul.l0 k (dg P) (i : Int) g a h b) ((g != h), dg R) := by
  intro d
  induction d with
  | zero =>
    intro i P hi hv
    rw [val_drop_len a i (by omega), Nat.zero_mul, Nat.mul_zero, Nat.add_zero] at hv
    refine Ev.step (f := fun _ => some ((g != h), dg P)) (fun k => ?_) ?_
    · rw [pointillistref01_Mul.l0, if_neg (by omega)]
    · rw [hv]; exact Ev.now _
  | succ d ih =>
    intro i P hi hv
    have hrow : P + 65536 ^ i * ((rd a (i : Int)).toNat * val b) + 65536 ^ (i + 1) * (val (a.drop (i + 1)) * val b) = R := by
      rw [← hv, val_drop' a i, Nat.pow_succ]
      refine pow_up _ _ _ _ _ ?_
      rw [Nat.add_mul, Nat.mul_assoc]
    have hP : (dg P).length ≤ 1073741824 := Nat.le_trans (dg_len_mono (by omega)) hR
    have hRr : (dg (65536 ^ i * ((rd a (i : Int)).toNat * val b))).length ≤ 1073741824 := Nat.le_trans (dg_len_mono (by omega)) hR
    have hin := mul_row a b g h ha hb hla hlb i (by omega) P (65536 ^ i * ((rd a (i : Int)).toNat * val b)) ((g != h), dg R) ⟨⟨hP, hRr⟩⟩ (ih (i + 1) _ (by omega) hrow) (b.length + 1) 0 (List.replicate i 0) 0 (by omega) (by decide) (by decide) (by omega) (Okd.zeros i) (by simp)
      ⟨by rw [val_zeros]; simp⟩
    refine Ev.step (fun k => ?_) hin
    rw [pointillistref01_Mul.l0, if_pos (by omega), if_pos (by omega), if_pos (by omega), Int.toNat_natCast]
    rfl
theorem mul_ev (g h : Bool) (m n : Nat) (hm : (dg m).length ≤ 536870000) (hn : (dg n).length ≤ 536870000) : Ev (fun k => pointillistref01_Mul.f k g (dg m) h (dg n)) ((g != h), dg (m * n)) := by
  have := mul_loop (dg m) (dg n) g h (dg_ok m) (dg_ok n) (by omega) (by omega) (m * n) (Nat.le_trans (dg_len_mul hm hn) (by decide)) (dg m).length 0 0 (by omega) (by rw [List.drop_zero, val_dg, val_dg]; simp)
  rw [dg_0] at this
  exact this
theorem of_loop (n : Bool) (R : Nat) (hR : R < 18446744073709551616) :
    ∀ (d i : Nat) (o : List Int) (x : Int), i + d = 4 → x.natAbs ≤ 9223372036854775808 → Okd o → o.length = i → val o + 65536 ^ i * x.natAbs = R →
      Ev (fun k => pointillistref01_Of.l0 k x n o (i : Int)) (n, dg R) := by
  intro d
  induction d with
  | zero =>
    intro i o x hi hx ho hol hv
    have hi4 : i = 4 := by omega
    subst hi4
    have hv2 : val o = R := by
      have : (65536 : Nat) ^ 4 = 18446744073709551616 := by decide
      rw [this] at hv
      have := val_lt o ho
      omega
    refine Ev.step (f := fun k => (pointillistref01_trim.f k o).bind fun t => some (n, t)) (fun k => ?_) (Ev.bind (trim_eq hv2 (by omega) ho) (f := fun _ t => some (n, t)) (Ev.now _))
    rw [pointillistref01_Of.l0, if_neg (by decide)]
  | succ d ih =>
    intro i o x hi hx ho hol hv
    have e0 : wrap64 ((i : Int) + 1) = ((i + 1 : Nat) : Int) := by rw [w64' _ (by omega) (by omega)]; omega
    have hstep : ∃ (dgt y : Int), 0 ≤ dgt ∧ dgt < 65536 ∧ dgt.toNat + 65536 * y.natAbs = x.natAbs ∧ (∀ k, pointillistref01_Of.l0 (k + 1) x n o (i : Int) = pointillistref01_Of.l0 k y n (o ++ [dgt]) ((i + 1 : Nat) : Int)) := by
      by_cases hneg : x < 0
      · refine ⟨(-x) % 65536, -((-x) / 65536), by omega, by omega, by omega, fun k => ?_⟩
        have m1 : Int.tmod x 65536 = -((-x) % 65536) := by
          have := Int.neg_tmod (-x) 65536
          rw [Int.neg_neg] at this
          rw [this, Int.tmod_eq_emod_of_nonneg (by omega)]
        have m2 : Int.tdiv x 65536 = -((-x) / 65536) := by
          have := Int.neg_tdiv (-x) 65536
          rw [Int.neg_neg] at this
          rw [this, Int.tdiv_eq_ediv_of_nonneg (by omega)]
        have hol2 : o.length < 17592186044416 := by omega
        rw [pointillistref01_Of.l0, if_pos (by omega), m1, m2, e0, w64' (-((-x) / 65536)) (by omega) (by omega), Int.neg_neg, w64' ((-x) % 65536) (by omega) (by omega)]
        by_cases hz : -(-x % 65536) < 0
        · rw [if_pos hz, if_pos hol2]
        · rw [if_neg hz, if_pos hol2]
          have : -x % 65536 = 0 := by omega
          rw [this]; rfl
      · refine ⟨x % 65536, x / 65536, by omega, by omega, by omega, fun k => ?_⟩
        rw [pointillistref01_Of.l0, if_pos (by omega), Int.tmod_eq_emod_of_nonneg (by omega), Int.tdiv_eq_ediv_of_nonneg (by omega), e0, w64' (x / 65536) (by omega) (by omega), if_neg (by omega), if_pos (by omega)]
    obtain ⟨dgt, y, h0, h1, h2, h3⟩ := hstep
    refine Ev.step h3 (ih (i + 1) _ y (by omega) (by omega) (ho.snoc h0 h1) (by simp [hol]) ?_)
    rw [val_snoc, hol, Nat.pow_succ, ← hv]
    exact pow_up _ _ _ _ _ h2
theorem of_ev (x : Int) (h : -9223372036854775808 ≤ x ∧ x < 9223372036854775808) : Ev (fun k => pointillistref01_Of.f k x) (decide (x < 0), dg x.natAbs) :=
  of_loop (decide (x < 0)) x.natAbs (by omega) 4 0 [] x rfl (by omega) Okd.nil rfl (by simp [val])
theorem len4 {m : Nat} (h : m < 18446744073709551616) : (dg m).length ≤ 4 := by
  have h4 : (65536 : Nat) ^ 4 = 18446744073709551616 := by decide
  exact dg_len (by omega)
def fitR (v : Int) : Int × Bool := if -9223372036854775808 ≤ v ∧ v < 9223372036854775808 then (v, true) else (0, false)
theorem plain_loop (g : Bool) (a : List Int) (ha : Okd a) (hl : a.length ≤ 4) :
    ∀ (j V : Nat), j ≤ a.length → V = val (a.drop j) → V ≤ 9223372036854775808 → Ev (fun k => pointillistref01_Plain.l0 k (-(V : Int)) ((j : Int) - 1) g a) (fitR (sgn g (val a))) := by
  intro j
  induction j with
  | zero =>
    intro V _ hV hle
    rw [List.drop_zero] at hV
    rw [← hV]
    have hstep : ∀ k, pointillistref01_Plain.l0 (k + 1) (-(V : Int)) ((0 : Nat) - 1) g a = some (fitR (sgn g V)) := by
      intro k
      rw [pointillistref01_Plain.l0, if_neg (by decide)]
      unfold fitR sgn
      cases g with
      | true => rw [if_pos rfl, if_pos rfl, if_pos (by omega)]
      | false =>
        simp only [Bool.false_eq_true, if_false]
        by_cases h : -(V : Int) = -9223372036854775808
        · rw [if_pos h, if_neg (by omega)]
        · rw [if_neg h, if_pos (by omega), Int.neg_neg, w64' _ (by omega) (by omega)]
    exact Ev.step hstep (Ev.now _)
  | succ j ih =>
    intro V hj hV hle
    have e0 : ((j + 1 : Nat) : Int) - 1 = (j : Int) := by omega
    have h1 := rd_ok ha (show j < a.length by omega)
    have hd := val_drop a j (by omega)
    rw [← hV] at hd
    have hA : val (a.drop j) ≤ val a := by
      have h2 := val_take a j
      have h3 := Nat.le_mul_of_pos_left (val (a.drop j)) (Nat.pow_pos (n := (a.take j).length) (show 0 < 65536 by decide))
      omega
    have bad : 9223372036854775808 < val a → fitR (sgn g (val a)) = (0, false) := by
      intro h
      unfold fitR sgn
      cases g with
      | true => rw [if_neg (by rw [if_pos rfl]; omega)]
      | false => rw [if_neg (by rw [if_neg (by decide)]; omega)]
    rw [e0]
    by_cases g1 : (-(V : Int)) < -140737488355328
    · rw [bad (by omega)]
      refine Ev.step (f := fun _ => some (0, false)) (fun k => ?_) (Ev.now _)
      rw [pointillistref01_Plain.l0, if_pos (by omega), if_pos g1]
    · have e1 : wrap64 (-(V : Int) * 65536) = -(V : Int) * 65536 := w64' _ (by omega) (by omega)
      have e2 : wrap64 (-9223372036854775808 + rd a (j : Int)) = -9223372036854775808 + rd a (j : Int) := w64' _ (by omega) (by omega)
      by_cases g2 : -(V : Int) * 65536 < -9223372036854775808 + rd a (j : Int)
      · rw [bad (by omega)]
        refine Ev.step (f := fun _ => some (0, false)) (fun k => ?_) (Ev.now _)
        rw [pointillistref01_Plain.l0, if_pos (by omega), if_neg g1, if_pos (by omega), if_pos (by omega), e1, e2, if_pos g2]
      · have e3 : -(V : Int) * 65536 - rd a (j : Int) = -((val (a.drop j) : Nat) : Int) := by omega
        refine Ev.step (f := fun k => pointillistref01_Plain.l0 k (-((val (a.drop j) : Nat) : Int)) ((j : Int) - 1) g a) (fun k => ?_) (ih _ (by omega) rfl (by omega))
        rw [pointillistref01_Plain.l0, if_pos (by omega), if_neg g1, if_pos (by omega), if_pos (by omega), e1, e2, if_neg g2, w64' (-(V : Int) * 65536 - rd a (j : Int)) (by omega) (by omega), w64' ((j : Int) - 1) (by omega) (by omega), e3]
theorem plain_ev (g : Bool) (m : Nat) (hm : (dg m).length ≤ 1073741824) : Ev (fun k => pointillistref01_Plain.f k g (dg m)) (fitR (sgn g m)) := by
  by_cases h : (dg m).length ≤ 4
  · have := plain_loop g (dg m) (dg_ok m) h (dg m).length 0 (Nat.le_refl _) (by rw [val_drop_len _ _ (Nat.le_refl _)]) (by decide)
    rw [val_dg] at this
    refine Ev.congr (fun k => ?_) this
    rw [pointillistref01_Plain.f, if_neg (by omega), w64' _ (by omega) (by omega)]
    rfl
  · have hbig : 18446744073709551616 ≤ m := by
      refine Nat.le_of_not_lt fun h2 => h (len4 h2)
    have bad : fitR (sgn g m) = (0, false) := by
      unfold fitR sgn
      cases g with
      | true => rw [if_neg (by rw [if_pos rfl]; omega)]
      | false => rw [if_neg (by rw [if_neg (by decide)]; omega)]
    rw [bad]
    refine Ev.congr (fun k => ?_) (Ev.now _)
    rw [pointillistref01_Plain.f, if_pos (by omega)]
end Go.Proofs.YtfpnglgipchjhaaDoor.PR
namespace Go.Proofs.YtfpnglgipchjhaaDoor.DecV
def nearQ (n d : Int) : Int := (2 * n + d) / (2 * d)
theorem nearQ_mul (n d c : Int) (hc : 0 < c) : nearQ (n * c) (d * c) = nearQ n d := by
  unfold nearQ
  have e1 : 2 * (n * c) + d * c = (2 * n + d) * c := by rw [Int.add_mul, Int.mul_assoc]
  have e2 : 2 * (d * c) = (2 * d) * c := by rw [Int.mul_assoc]
  rw [e1, e2]
  exact Int.mul_ediv_mul_of_pos_left _ _ hc
def sg (g : Bool) (m : Nat) : Int := if g then -(m : Int) else (m : Int)
theorem sg_mul (g : Bool) (m n : Nat) : sg g (m * n) = sg g m * (n : Int) := by unfold sg; cases g <;> simp [Int.neg_mul]
theorem ten_pos (n : Nat) : 0 < 10 ^ n := Nat.pow_pos (by decide)
def specN (g : Bool) (D : Nat) (pw : Int) : Int := nearQ (sg g (D * 65536 * 10 ^ pw.toNat)) ((10 ^ (-pw).toNat : Nat) : Int)
theorem specN_eq (g : Bool) (D : Nat) (pw : Int) (a b : Nat) (h : pw = (a : Int) - b) : specN g D pw = nearQ (sg g (D * 65536 * 10 ^ a)) ((10 ^ b : Nat) : Int) := by
  unfold specN
  obtain ⟨c, ha, hb⟩ : ∃ c : Nat, a = pw.toNat + c ∧ b = (-pw).toNat + c := by
    by_cases hp : 0 ≤ pw
    · exact ⟨b, by omega, by omega⟩
    · exact ⟨a, by omega, by omega⟩
  rw [ha, hb, Nat.pow_add, Nat.pow_add, ← Nat.mul_assoc, sg_mul _ _ (10 ^ c), Int.natCast_mul, nearQ_mul _ _ _ (by have := ten_pos c; omega)]
theorem specN_shift (g : Bool) (D : Nat) (pw : Int) (t : Nat) : specN g (D * 10 ^ t) (pw - t) = specN g D pw := by
  rw [specN_eq g D pw pw.toNat (-pw).toNat (by omega), specN_eq g (D * 10 ^ t) (pw - t) pw.toNat ((-pw).toNat + t) (by omega)]
  have e : D * 10 ^ t * 65536 * 10 ^ pw.toNat = D * 65536 * 10 ^ pw.toNat * 10 ^ t := by
    rw [Nat.mul_right_comm D (10 ^ t) 65536, Nat.mul_right_comm (D * 65536) (10 ^ t)]
  rw [e, sg_mul _ _ (10 ^ t), Nat.pow_add, Int.natCast_mul, nearQ_mul _ _ _ (by have := ten_pos t; omega)]
theorem specN_zero (g : Bool) (pw : Int) : specN g 0 pw = 0 := by
  unfold specN
  have h := ten_pos (-pw).toNat
  simp only [Nat.zero_mul]
  generalize (10 ^ (-pw).toNat : Nat) = T at *
  have : sg g 0 = 0 := by cases g <;> rfl
  rw [this]
  unfold nearQ
  rw [Int.mul_zero, Int.zero_add]
  exact Int.ediv_eq_zero_of_lt (by omega) (by omega)
def inb (n : Int) : Prop := -4294967296 < n ∧ n < 4294967296
instance (n : Int) : Decidable (inb n) := inferInstanceAs (Decidable (_ ∧ _))
def specR (g : Bool) (D : Nat) (pw : Int) : Int × Int := if inb (specN g D pw) then (specN g D pw, 0) else (0, 2)
def dv : List Int → Nat := fun l => l.foldl (fun a d => 10 * a + d.toNat) 0
theorem dv_snoc (l : List Int) (d : Int) : dv (l ++ [d]) = 10 * dv l + d.toNat := by unfold dv; rw [List.foldl_append]; rfl
theorem dv_nil : dv [] = 0 := rfl
def Dg (l : List Int) : Prop := ∀ a ∈ l, 0 ≤ a ∧ a ≤ 9
theorem foldl_dv (l : List Int) (a : Nat) : l.foldl (fun a d => 10 * a + d.toNat) a = a * 10 ^ l.length + dv l := by
  unfold dv
  induction l generalizing a with
  | nil => simp
  | cons d l ih =>
    simp only [List.foldl_cons, List.length_cons]
    rw [show 10 * 0 + d.toNat = d.toNat by omega, ih (10 * a + d.toNat), ih d.toNat, Nat.pow_succ, Nat.add_mul]
    have : 10 * a * 10 ^ l.length = a * (10 ^ l.length * 10) := by rw [Nat.mul_comm 10 a, Nat.mul_assoc, Nat.mul_comm 10]
    omega
theorem dv_app (l r : List Int) : dv (l ++ r) = dv l * 10 ^ r.length + dv r := by
  rw [← foldl_dv r (dv l)]
  show List.foldl _ _ (l ++ r) = _
  rw [List.foldl_append]
  rfl
theorem dv_lt {l : List Int} (h : Dg l) : dv l < 10 ^ l.length := by
  have key : ∀ (n : Nat) (l : List Int), l.length = n → Dg l → dv l < 10 ^ n := by
    intro n
    induction n with
    | zero => intro l hl _; obtain rfl := List.length_eq_zero_iff.mp hl; exact Nat.one_pos
    | succ n ih =>
      intro l hl h
      rcases List.eq_nil_or_concat l with rfl | ⟨l', a, rfl⟩
      · cases hl
      · rw [List.concat_eq_append] at *
        have h1 := ih l' (by simpa using hl) (fun x hx => h x (List.mem_append_left _ hx))
        have h2 := h a (by simp)
        rw [dv_snoc, Nat.pow_succ]
        omega
  exact key _ l rfl h
def F (l : List Int) (k : Int) : Nat := if k ≤ l.length then dv (l.take k.toNat) else dv l * 10 ^ (k - l.length).toNat
def at_ (l : List Int) (k : Int) : Int := if k < 0 then 0 else if k ≥ l.length then 0 else l.getD k.toNat 0
theorem at_ok {l : List Int} (h : Dg l) (k : Int) : 0 ≤ at_ l k ∧ at_ l k ≤ 9 := by
  unfold at_
  split
  · decide
  · split
    · decide
    · rename_i h1 h2
      have hlt : k.toNat < l.length := by omega
      rw [List.getD_eq_getElem?_getD, List.getElem?_eq_getElem hlt]
      exact h _ (List.getElem_mem hlt)
theorem F_low (l : List Int) (k : Int) (h : k ≤ 0) : F l k = 0 := by
  unfold F
  rw [if_pos (by omega), show k.toNat = 0 by omega]
  rfl
theorem F_succ (l : List Int) (k : Int) : F l (k + 1) = 10 * F l k + (at_ l k).toNat := by
  by_cases h0 : k < 0
  · rw [F_low l (k + 1) (by omega), F_low l k (by omega)]
    unfold at_
    rw [if_pos h0]
    rfl
  · by_cases h1 : k < l.length
    · have hlt : k.toNat < l.length := by omega
      unfold F at_
      rw [if_pos (by omega), if_pos (by omega), if_neg h0, if_neg (by omega), show (k + 1).toNat = k.toNat + 1 by omega, List.take_succ_eq_append_getElem hlt, dv_snoc, List.getD_eq_getElem?_getD, List.getElem?_eq_getElem hlt]
      rfl
    · have e : F l k = dv l * 10 ^ (k - l.length).toNat := by
        unfold F
        by_cases h2 : k ≤ l.length
        · rw [if_pos h2, show (k - (l.length : Int)).toNat = 0 by omega, List.take_of_length_le (by omega)]
          simp
        · rw [if_neg h2]
      have e2 : at_ l k = 0 := by unfold at_; rw [if_neg h0, if_pos (by omega)]
      rw [e, e2]
      unfold F
      rw [if_neg (by omega), show (k + 1 - (l.length : Int)).toNat = (k - l.length).toNat + 1 by omega, Nat.pow_succ]
      have : dv l * (10 ^ (k - ↑l.length).toNat * 10) = 10 * (dv l * 10 ^ (k - ↑l.length).toNat) := by rw [← Nat.mul_assoc, Nat.mul_comm]
      rw [this]
      rfl
theorem F_split {l : List Int} (hd : Dg l) (hl : ∀ a, l.getLast? = some a → a ≠ 0) (hne : l ≠ []) (k : Int) (hk : k < l.length) :
    ∃ R : Nat, dv l = F l k * 10 ^ ((l.length : Int) - k).toNat + R ∧ 0 < R ∧ R < 10 ^ ((l.length : Int) - k).toNat := by
  have hpos : ∀ r : List Int, (∃ q, l = q ++ r) → r ≠ [] → 0 < dv r := by
    rintro r ⟨q, rfl⟩ hr
    rcases List.eq_nil_or_concat r with rfl | ⟨r', a, rfl⟩
    · exact absurd rfl hr
    · rw [List.concat_eq_append] at *
      have h1 := hl a (by rw [← List.append_assoc]; simp)
      have h2 := hd a (by simp)
      rw [dv_snoc]
      omega
  unfold F
  rw [if_pos (by omega)]
  refine ⟨dv (l.drop k.toNat), ?_, hpos _ ⟨l.take k.toNat, (List.take_append_drop _ _).symm⟩ ?_, ?_⟩
  · by_cases h0 : k ≤ 0
    · rw [show k.toNat = 0 by omega]; simp [dv_nil]
    · have := dv_app (l.take k.toNat) (l.drop k.toNat)
      rw [List.take_append_drop, List.length_drop] at this
      rw [show ((l.length : Int) - k).toNat = l.length - k.toNat by omega]
      exact this
  · intro h
    have := congrArg List.length h
    rw [List.length_drop, List.length_nil] at this
    have : 0 < l.length := List.length_pos_iff.mpr hne
    omega
  · have h := dv_lt (l := l.drop k.toNat) (fun a ha => hd a (List.mem_of_mem_drop ha))
    rw [List.length_drop] at h
    exact Nat.lt_of_lt_of_le h (Nat.pow_le_pow_right (by decide) (by omega))
theorem div_is {a b q : Int} (h : 0 < b) (h1 : q * b ≤ a) (h2 : a < q * b + b) : a / b = q := by
  refine Int.le_antisymm (Int.lt_add_one_iff.1 (Int.ediv_lt_of_lt_mul h ?_)) (Int.le_ediv_of_mul_le h h1)
  rw [Int.add_mul, Int.one_mul]
  exact h2
theorem split_N (N R T : Nat) : (N * T + R) * 65536 = N * 65536 / 100000000000000000 * T * 100000000000000000 + N * 65536 % 100000000000000000 * T + R * 65536 := by
  have hN : N * 65536 = N * 65536 / 100000000000000000 * 100000000000000000 + N * 65536 % 100000000000000000 := by omega
  rw [Nat.add_mul, Nat.mul_right_comm]
  generalize N * 65536 / 100000000000000000 = v at *
  generalize N * 65536 % 100000000000000000 = r at *
  rw [hN, Nat.add_mul, Nat.mul_right_comm v]
theorem mulB (v T : Nat) : (v : Int) * (2 * ((100000000000000000 * T : Nat) : Int)) = 200000000000000000 * ((v * T : Nat) : Int) := by
  have e : (2 * ((100000000000000000 * T : Nat) : Int)) = 200000000000000000 * (T : Int) := by omega
  rw [e, Int.mul_left_comm, Int.natCast_mul]
def upB (g : Bool) (r R : Nat) : Bool := decide (50000000000000000 < r) || (r == 50000000000000000 && (decide (0 < R) || !g))
theorem near_17 (g : Bool) (N R T : Nat) (hR : R < T) : nearQ (sg g ((N * T + R) * 65536)) ((100000000000000000 * T : Nat) : Int) = sg g (N * 65536 / 100000000000000000 + if upB g (N * 65536 % 100000000000000000) R then 1 else 0) := by
  have hr2 : N * 65536 % 100000000000000000 % 65536 = 0 := by omega
  have hr1 : N * 65536 % 100000000000000000 < 100000000000000000 := Nat.mod_lt _ (by decide)
  rw [split_N]
  generalize N * 65536 / 100000000000000000 = v
  generalize N * 65536 % 100000000000000000 = r at *
  have hB : (0 : Int) < 2 * ((100000000000000000 * T : Nat) : Int) := by omega
  have hv := mulB v T
  have lo : r ≤ 49999999999934464 ∨ r = 50000000000000000 ∨ 50000000000065536 ≤ r := by omega
  unfold nearQ
  rcases lo with lo | lo | lo
  · have h2 : r * T ≤ 49999999999934464 * T := Nat.mul_le_mul_right T lo
    have hu : upB g r R = false := by unfold upB; simp; omega
    rw [hu]
    generalize r * T = rT at *
    generalize v * T = vT at *
    cases g with
    | false => exact div_is hB (by simp only [sg, Bool.false_eq_true, if_false, Nat.add_zero]; omega) (by simp only [sg, Bool.false_eq_true, if_false, Nat.add_zero]; omega)
    | true => exact div_is hB (by simp only [sg, Bool.false_eq_true, if_true, if_false, Nat.add_zero, Int.neg_mul]; omega) (by simp only [sg, Bool.false_eq_true, if_true, if_false, Nat.add_zero, Int.neg_mul]; omega)
  · subst lo
    generalize v * T = vT at *
    by_cases hR0 : 0 < R
    · have hu : upB g 50000000000000000 R = true := by unfold upB; simp [hR0]
      rw [hu]
      cases g with
      | false => exact div_is hB (by simp only [sg, Bool.false_eq_true, if_true, if_false, Int.natCast_add, Int.add_mul]; omega) (by simp only [sg, Bool.false_eq_true, if_true, if_false, Int.natCast_add, Int.add_mul]; omega)
      | true => exact div_is hB (by simp only [sg, if_true, Int.natCast_add, Int.add_mul, Int.neg_mul]; omega) (by simp only [sg, if_true, Int.natCast_add, Int.add_mul, Int.neg_mul]; omega)
    · obtain rfl : R = 0 := by omega
      cases g with
      | false =>
        have hu : upB false 50000000000000000 0 = true := by decide
        rw [hu]
        exact div_is hB (by simp only [sg, Bool.false_eq_true, if_true, if_false, Int.natCast_add, Int.add_mul]; omega) (by simp only [sg, Bool.false_eq_true, if_true, if_false, Int.natCast_add, Int.add_mul]; omega)
      | true =>
        have hu : upB true 50000000000000000 0 = false := by decide
        rw [hu]
        exact div_is hB (by simp only [sg, Bool.false_eq_true, if_true, if_false, Nat.add_zero, Int.neg_mul]; omega) (by simp only [sg, Bool.false_eq_true, if_true, if_false, Nat.add_zero, Int.neg_mul]; omega)
  · have h1 : 50000000000065536 * T ≤ r * T := Nat.mul_le_mul_right T lo
    have h2 : r * T ≤ 99999999999934464 * T := Nat.mul_le_mul_right T (by omega)
    have hu : upB g r R = true := by unfold upB; simp; omega
    rw [hu]
    generalize r * T = rT at *
    generalize v * T = vT at *
    cases g with
    | false => exact div_is hB (by simp only [sg, Bool.false_eq_true, if_true, if_false, Int.natCast_add, Int.add_mul]; omega) (by simp only [sg, Bool.false_eq_true, if_true, if_false, Int.natCast_add, Int.add_mul]; omega)
    | true => exact div_is hB (by simp only [sg, if_true, Int.natCast_add, Int.add_mul, Int.neg_mul]; omega) (by simp only [sg, if_true, Int.natCast_add, Int.add_mul, Int.neg_mul]; omega)
theorem spec_17 (g : Bool) {l : List Int} (hd : Dg l) (hl : ∀ a, l.getLast? = some a → a ≠ 0) (p : Int) :
    specN g (dv l) (p - l.length) = sg g (F l (p + 17) * 65536 / 100000000000000000 + if upB g (F l (p + 17) * 65536 % 100000000000000000) (if l ≠ [] ∧ p + 17 < l.length then 1 else 0) then 1 else 0) := by
  by_cases hne : l = []
  · subst hne
    have hF : F [] (p + 17) = 0 := by unfold F; split <;> simp [dv_nil]
    rw [dv_nil, specN_zero, hF]
    cases g <;> rfl
  by_cases hk : p + 17 < l.length
  · have hc : (if l ≠ [] ∧ p + 17 < l.length then 1 else 0 : Nat) = 1 := if_pos ⟨hne, hk⟩
    rw [hc]
    obtain ⟨R, h1, h2, h3⟩ := F_split hd hl hne (p + 17) hk
    rw [specN_eq g (dv l) (p - l.length) 0 (17 + ((l.length : Int) - (p + 17)).toNat) (by omega), Nat.pow_zero, Nat.mul_one, Nat.pow_add, h1]
    have e17 : (10 : Nat) ^ 17 = 100000000000000000 := by decide
    rw [e17, near_17 g _ R _ h3]
    have hu : ∀ r, upB g r R = upB g r 1 := by intro r; unfold upB; rw [show decide (0 < R) = decide (0 < 1) by simp [h2]]
    rw [hu]
  · have hc : (if l ≠ [] ∧ p + 17 < l.length then 1 else 0 : Nat) = 0 := if_neg (fun h => hk h.2)
    rw [hc]
    have hF : F l (p + 17) = dv l * 10 ^ (p + 17 - l.length).toNat := by
      unfold F
      by_cases h2 : p + 17 ≤ l.length
      · rw [if_pos h2, show (p + 17 - (l.length : Int)).toNat = 0 by omega, List.take_of_length_le (by omega)]
        simp
      · rw [if_neg h2]
    have h := specN_shift g (dv l) (p - l.length) (p + 17 - l.length).toNat
    rw [← h, ← hF, specN_eq g _ _ 0 17 (by omega), Nat.pow_zero, Nat.mul_one]
    have e17 : (10 : Nat) ^ 17 = 100000000000000000 * 1 := by decide
    have := near_17 g (F l (p + 17)) 0 1 (by decide)
    rw [Nat.mul_one, Nat.add_zero] at this
    rw [e17]
    exact this
theorem spec_great (g : Bool) {l : List Int} (hl : ∀ a, l.head? = some a → 1 ≤ a) (hne : l ≠ []) (p : Int) (hp : 5 < p) : ¬ inb (specN g (dv l) (p - l.length)) := by
  have hlow : 10 ^ (l.length - 1) ≤ dv l := by
    cases l with
    | nil => exact absurd rfl hne
    | cons a l =>
      have ha := hl a rfl
      have h := foldl_dv l (10 * 0 + a.toNat)
      show _ ≤ List.foldl _ _ l
      rw [h]
      have : 1 * 10 ^ l.length ≤ (10 * 0 + a.toNat) * 10 ^ l.length := Nat.mul_le_mul_right _ (by omega)
      simp only [List.length_cons, Nat.add_sub_cancel]
      omega
  have hlen : 0 < l.length := List.length_pos_iff.mpr hne

  obtain ⟨a, b, hab⟩ : ∃ a b : Nat, p - l.length = (a : Int) - b := ⟨p.toNat, l.length, by omega⟩
  rw [specN_eq g (dv l) (p - l.length) p.toNat l.length (by omega)]
  have h1 : 10 ^ l.length * 100000 ≤ dv l * 10 ^ p.toNat := by
    have e1 : p.toNat = 6 + (p.toNat - 6) := by omega
    have e2 : l.length = (l.length - 1) + 1 := by omega
    have := Nat.mul_le_mul hlow (Nat.le_refl (10 ^ 6 * 10 ^ (p.toNat - 6)))
    have one := ten_pos (p.toNat - 6)
    rw [e1, Nat.pow_add]
    have e3 : 10 ^ l.length = 10 ^ (l.length - 1) * 10 := by
      obtain ⟨q, hq⟩ : ∃ q, l.length = q + 1 := ⟨l.length - 1, by omega⟩
      rw [hq, Nat.add_sub_cancel, Nat.pow_succ]
    rw [e3]
    refine Nat.le_trans ?_ this
    have e6 : (10 : Nat) ^ 6 = 1000000 := by decide
    rw [e6, ← Nat.mul_assoc]
    have : 10 ^ (l.length - 1) * 1000000 * 1 ≤ 10 ^ (l.length - 1) * 1000000 * 10 ^ (p.toNat - 6) := Nat.mul_le_mul_left _ one
    omega
  have hT := ten_pos l.length
  rw [show dv l * 65536 * 10 ^ p.toNat = dv l * 10 ^ p.toNat * 65536 from Nat.mul_right_comm _ _ _]
  generalize dv l * 10 ^ p.toNat = X at *
  generalize (10 ^ l.length : Nat) = T at *
  unfold inb nearQ
  intro hc
  cases g with
  | false =>
    simp only [sg, Bool.false_eq_true, if_false] at hc
    have := Int.lt_mul_of_ediv_lt (show (0 : Int) < 2 * (T : Int) by omega) hc.2
    omega
  | true =>
    simp only [sg, if_true] at hc
    have := Int.le_ediv_iff_mul_le (a := -4294967295) (b := 2 * -((X * 65536 : Nat) : Int) + (T : Int)) (show (0 : Int) < 2 * (T : Int) by omega)
    have := this.1 (by omega)
    omega
end Go.Proofs.YtfpnglgipchjhaaDoor.DecV
namespace Go.Proofs.YtfpnglgipchjhaaDoor.DecV
def isD (c : Int) : Bool := decide (48 ≤ c ∧ c ≤ 57)
def isS (c : Int) : Bool := decide (c = 43 ∨ c = 45)
def isE (c : Int) : Bool := decide (c = 101 ∨ c = 69)
def lk (L : List Int) (i : Nat) : Int := L.getD i 0
theorem lk_end (L : List Int) (i : Nat) (h : L.length ≤ i) : lk L i = 0 := by unfold lk; rw [List.getD_eq_getElem?_getD, List.getElem?_eq_none h]; rfl
theorem lk_lt {L : List Int} {i : Nat} (h : lk L i ≠ 0) : i < L.length := Nat.lt_of_not_le fun h2 => h (lk_end L i h2)
theorem isD_lt {L : List Int} {i : Nat} (h : isD (lk L i) = true) : i < L.length := lk_lt fun h2 => by rw [h2] at h; exact absurd h (by decide)
theorem isS_lt {L : List Int} {i : Nat} (h : isS (lk L i) = true) : i < L.length := lk_lt fun h2 => by rw [h2] at h; exact absurd h (by decide)
theorem isE_lt {L : List Int} {i : Nat} (h : isE (lk L i) = true) : i < L.length := lk_lt fun h2 => by rw [h2] at h; exact absurd h (by decide)
def rn (L : List Int) (i : Nat) : Nat := i + ((L.drop i).takeWhile isD).length
theorem rn_ge (L : List Int) (i : Nat) : i ≤ rn L i := Nat.le_add_right _ _
theorem drop_lk {L : List Int} {i : Nat} (h : i < L.length) : L.drop i = lk L i :: L.drop (i + 1) := by
  rw [List.drop_eq_getElem_cons h]
  congr 1
  unfold lk
  rw [List.getD_eq_getElem?_getD, List.getElem?_eq_getElem h]
  rfl
theorem rn_step {L : List Int} {i : Nat} (h : isD (lk L i) = true) : rn L i = rn L (i + 1) := by
  unfold rn
  rw [drop_lk (isD_lt h), List.takeWhile_cons_of_pos h]
  simp only [List.length_cons]
  omega
theorem rn_stop {L : List Int} {i : Nat} (h : isD (lk L i) = false) : rn L i = i := by
  unfold rn
  by_cases hi : i < L.length
  · rw [drop_lk hi, List.takeWhile_cons_of_neg (by simp [h])]
    rfl
  · rw [List.drop_eq_nil_of_le (by omega)]
    rfl
theorem rn_le {L : List Int} {i : Nat} (h : i ≤ L.length) : rn L i ≤ L.length := by
  unfold rn
  have := (List.takeWhile_sublist isD (l := L.drop i)).length_le
  rw [List.length_drop] at this
  omega
theorem rn_ind {L : List Int} (P : Nat → Prop) (step : ∀ i, isD (lk L i) = true → P (i + 1) → P i) (stop : ∀ i, isD (lk L i) = false → P i) (i : Nat) : P i := by
  have key : ∀ d i, L.length ≤ i + d → P i := by
    intro d
    induction d with
    | zero =>
      intro i hi
      refine stop i ?_
      rw [lk_end L i (by omega)]
      decide
    | succ d ih =>
      intro i hi
      cases h : isD (lk L i) with
      | true => exact step i h (ih (i + 1) (by omega))
      | false => exact stop i h
  exact key L.length i (by omega)
def scanB (L : List Int) (i : Nat) : Nat := if lk L (rn L i) = 46 then rn L (rn L i + 1) else rn L i
def someB (L : List Int) (i : Nat) : Bool := decide (i < rn L i) || (decide (lk L (rn L i) = 46) && decide (rn L i + 1 < rn L (rn L i + 1)))
def expJ (L : List Int) (b : Nat) : Nat := if isS (lk L (b + 1)) = true then b + 2 else b + 1
def scanU (L : List Int) (i : Nat) : Nat × Bool :=
  if someB L i = true then
    if isE (lk L (scanB L i)) = true then (rn L (expJ L (scanB L i)), decide (expJ L (scanB L i) < rn L (expJ L (scanB L i)))) else (scanB L i, true)
  else (scanB L i, false)
def scanS (L : List Int) (i : Nat) (sg : Bool) : Nat × Bool := scanU L (if sg = true ∧ isS (lk L i) = true then i + 1 else i)
end Go.Proofs.YtfpnglgipchjhaaDoor.DecV
namespace Go.Proofs.YtfpnglgipchjhaaDoor.PR
open Go.RowKit Go.Proofs.YtfpnglgipchjhaaDoorW.PrintWords Go.Proofs.YtfpnglgipchjhaaDoorW.PrintLast Go.Proofs.YtfpnglgipchjhaaDoorW.PrintMore
attribute [local go_sem] max2_int min2_int max_two min_two max_three min_three max_four min_four
set_option linter.unusedVariables false
set_option linter.unusedSimpArgs false
mutual
def dec_kind.j0 : Nat → Int → Bool → Option (Int)
 | 0, _, _ => none
 | k + 1, x0, x3 => if x3 = true then (some 0) else (if x0 = 46 then (some 1) else (if x0 = 101 then (dec_kind.j1 k x0 true) else (dec_kind.j1 k x0 (x0 == 69))))
def dec_kind.j1 : Nat → Int → Bool → Option (Int)
 | 0, _, _ => none
 | k + 1, x0, x13 => if x13 = true then (some 2) else (if x0 = 43 then (some 3) else (if x0 = 45 then (some 3) else (some (-1))))
end
def dec_kind.f (k : Nat) (a0 : Int) : Option (Int) := if a0 ≥ 48 then (dec_kind.j0 k a0 (decide (a0 ≤ 57))) else (dec_kind.j0 k a0 false)
theorem dec_kind.mono_l : ∀ k, (∀ y0 y1, LeO (dec_kind.j0 k y0 y1) (dec_kind.j0 (k + 1) y0 y1)) ∧ (∀ y0 y1, LeO (dec_kind.j1 k y0 y1) (dec_kind.j1 (k + 1) y0 y1))
 | 0 => ⟨fun _ _ r h => by simp [dec_kind.j0] at h, fun _ _ r h => by simp [dec_kind.j1] at h⟩
 | k + 1 => by
  obtain ⟨ih0, ih1⟩ := dec_kind.mono_l k
  refine ⟨?_, ?_⟩
  ·
   intro y0 y1
   unfold dec_kind.j0
   repeat' first
   | (with_reducible exact ih0 _ _)
   | (with_reducible exact ih1 _ _)
   | (with_reducible exact LeO.refl _)
   | (with_reducible exact LeO.none _)
   | (with_reducible refine LeO.ite ?_ ?_)
   | (with_reducible refine LeO.bind ?_ (fun _ => ?_))
   | exact ih0 _ _
   | exact ih1 _ _
   | exact LeO.none _
   | refine LeO.ite ?_ ?_
   | refine LeO.bind ?_ (fun _ => ?_)
  ·
   intro y0 y1
   unfold dec_kind.j1
   repeat' first
   | (with_reducible exact ih0 _ _)
   | (with_reducible exact ih1 _ _)
   | (with_reducible exact LeO.refl _)
   | (with_reducible exact LeO.none _)
   | (with_reducible refine LeO.ite ?_ ?_)
   | (with_reducible refine LeO.bind ?_ (fun _ => ?_))
   | exact ih0 _ _
   | exact ih1 _ _
   | exact LeO.none _
   | refine LeO.ite ?_ ?_
   | refine LeO.bind ?_ (fun _ => ?_)
theorem dec_kind.mono : ∀ a0 k, LeO (dec_kind.f k a0) (dec_kind.f (k + 1) a0) := by
 intro a0 k
 obtain ⟨ih0, ih1⟩ := dec_kind.mono_l k
 unfold dec_kind.f
 repeat' first
   | (with_reducible exact ih0 _ _)
   | (with_reducible exact ih1 _ _)
   | (with_reducible exact LeO.refl _)
   | (with_reducible exact LeO.none _)
   | (with_reducible refine LeO.ite ?_ ?_)
   | (with_reducible refine LeO.bind ?_ (fun _ => ?_))
   | exact ih0 _ _
   | exact ih1 _ _
   | exact LeO.none _
   | refine LeO.ite ?_ ?_
   | refine LeO.bind ?_ (fun _ => ?_)
set_option maxHeartbeats 8000000 in
set_option maxRecDepth 100000 in
theorem dec_kind.calls (k : Nat) (a0 : Int) (r : Int) (w : World) (h : dec_kind.f k a0 = some r) :
  Calls Tryd.prog 46 #[.int .u8 a0] w fun e w' => e = .returned (.int .i64 r) ∧ Drawn0 w w' := by
 have H : (if a0 ≥ 48 then (dec_kind.j0 k a0 (decide (a0 ≤ 57))) else (dec_kind.j0 k a0 false)) = some r := h
 clear h
 have HC2 := Aside0.mk H
 clear H
 go_enter Tryd.func46, Tryd.ntmps46
 go_upto_region 1 with (fail)
 go_cut [3] (fun v3 wc => ∃ (kq : Nat) (x3_1 : Bool), v3 = .bool x3_1 ∧ Aside0 (dec_kind.j0 kq a0 x3_1 = some r) ∧ Aside0 (kq ≤ k) ∧ Drawn0 w wc)
 case first =>
  have H := HC2.out
  clear HC2
  by_cases c3 : a0 ≥ 48
  ·
   rw [if_pos c3] at H
   have c3b0 : decide (48 ≤ a0) = true := decide_eq_true c3
   clear c3
   (first | rw [c3b0] | (simp only [i64_w, i32_w]; rw [c3b0]) | skip)
   have H' := Aside0.mk H
   clear H
   go_wp2
   go_meet
   case rel => exact ⟨_, (decide (a0 ≤ 57)), (by first | rfl | (simp; done) | (simp [*]; done)), H', ⟨by first | omega | exact Nat.le_refl _⟩, by repeat (first | exact Drawn0.refl _ | apply Drawn0.step)⟩
  ·
   rw [if_neg c3] at H
   have c3b0 : decide (48 ≤ a0) = false := decide_eq_false c3
   clear c3
   (first | rw [c3b0] | (simp only [i64_w, i32_w]; rw [c3b0]) | skip)
   have H' := Aside0.mk H
   clear H
   go_wp2
   go_meet
   case rel => exact ⟨_, (false), (by first | rfl | (simp; done) | (simp [*]; done)), H', ⟨by first | omega | exact Nat.le_refl _⟩, by repeat (first | exact Drawn0.refl _ | apply Drawn0.step)⟩
 case rest =>
  clear HC2
  try clear p2
  try clear c3
  try clear c3b0
  obtain ⟨kq, x3_1, rfl, HA, HJ1, ⟨mc1, rfl⟩⟩ := hcut
  cases kq with
  | zero => exact absurd HA.out (by simp [dec_kind.j0])
  | succ kj1 =>
   have H := HA.out
   clear HA
   simp only [dec_kind.j0] at H
   by_cases c4 : x3_1 = true
   ·
    subst c4
    have H1 : (some 0) = some r := by rw [if_pos rfl] at H; exact H
    clear H
    have H := H1
    clear H1
    obtain rfl := Option.some.inj H
    go_wp2
    go_ret
    exact ⟨by first | rfl | (simp; done) | (simp [*]; done), by repeat (first | exact Drawn0.refl _ | apply Drawn0.step)⟩
   ·
    replace c4 := Bool.eq_false_iff.mpr c4
    subst c4
    have H1 : (if a0 = 46 then (some 1) else (if a0 = 101 then (dec_kind.j1 kj1 a0 true) else (dec_kind.j1 kj1 a0 (a0 == 69)))) = some r := by rw [if_neg (show ¬ (false = true) by decide)] at H; exact H
    clear H
    have H := H1
    clear H1
    by_cases c5 : a0 = 46
    ·
     rw [if_pos c5] at H
     have c5b0 : (a0 == 46) = true := beq_iff_eq.mpr c5
     have c5b1 : (a0 != 46) = false := bne_eq_false_iff_eq.mpr c5
     clear c5
     obtain rfl := Option.some.inj H
     go_wp2
     go_ret
     exact ⟨by first | rfl | (simp; done) | (simp [*]; done), by repeat (first | exact Drawn0.refl _ | apply Drawn0.step)⟩
    ·
     rw [if_neg c5] at H
     have c5b0 : (a0 == 46) = false := beq_eq_false_iff_ne.mpr c5
     have c5b1 : (a0 != 46) = true := bne_iff_ne.mpr c5
     have HC6 := Aside0.mk H
     clear H
     go_upto_region 5 with (fail)
     go_cut [13] (fun v13 wc => ∃ (kq : Nat) (x13_5 : Bool), v13 = .bool x13_5 ∧ Aside0 (dec_kind.j1 kq a0 x13_5 = some r) ∧ Aside0 (kq ≤ kj1) ∧ Drawn0 w wc)
     case first =>
      have H := HC6.out
      clear HC6
      by_cases c7 : a0 = 101
      ·
       rw [if_pos c7] at H
       have c7b0 : (a0 == 101) = true := beq_iff_eq.mpr c7
       have c7b1 : (a0 != 101) = false := bne_eq_false_iff_eq.mpr c7
       clear c7
       (first | rw [c7b0] | (simp only [i64_w, i32_w]; rw [c7b0]) | skip)
       have H' := Aside0.mk H
       clear H
       go_wp2
       go_meet
       case rel => exact ⟨_, (true), (by first | rfl | (simp; done) | (simp [*]; done)), H', ⟨by have := HJ1.out; first | omega | exact Nat.le_refl _⟩, by repeat (first | exact Drawn0.refl _ | apply Drawn0.step)⟩
      ·
       rw [if_neg c7] at H
       have c7b0 : (a0 == 101) = false := beq_eq_false_iff_ne.mpr c7
       have c7b1 : (a0 != 101) = true := bne_iff_ne.mpr c7
       (first | rw [c7b0] | (simp only [i64_w, i32_w]; rw [c7b0]) | skip)
       have H' := Aside0.mk H
       clear H
       go_wp2
       go_meet
       case rel => exact ⟨_, ((a0 == 69)), (by first | rfl | (simp; done) | (simp [*]; done)), H', ⟨by have := HJ1.out; first | omega | exact Nat.le_refl _⟩, by repeat (first | exact Drawn0.refl _ | apply Drawn0.step)⟩
     case rest =>
      clear HC6
      try clear c1
      try clear p2
      try clear c3
      try clear c3b0
      try clear c4
      try clear c5
      try clear c5b0
      try clear c5b1
      try clear c7
      try clear c7b0
      try clear c7b1
      try clear p2
      obtain ⟨kq, x13_5, rfl, HA, HJ5, ⟨mc5, rfl⟩⟩ := hcut
      cases kq with
      | zero => exact absurd HA.out (by simp [dec_kind.j1])
      | succ kj5 =>
       have H := HA.out
       clear HA
       simp only [dec_kind.j1] at H
       by_cases c8 : x13_5 = true
       ·
        subst c8
        have H1 : (some 2) = some r := by rw [if_pos rfl] at H; exact H
        clear H
        have H := H1
        clear H1
        obtain rfl := Option.some.inj H
        go_wp2
        go_ret
        exact ⟨by first | rfl | (simp; done) | (simp [*]; done), by repeat (first | exact Drawn0.refl _ | apply Drawn0.step)⟩
       ·
        replace c8 := Bool.eq_false_iff.mpr c8
        subst c8
        have H1 : (if a0 = 43 then (some 3) else (if a0 = 45 then (some 3) else (some (-1)))) = some r := by rw [if_neg (show ¬ (false = true) by decide)] at H; exact H
        clear H
        have H := H1
        clear H1
        by_cases c9 : a0 = 43
        ·
         rw [if_pos c9] at H
         have c9b0 : (a0 == 43) = true := beq_iff_eq.mpr c9
         have c9b1 : (a0 != 43) = false := bne_eq_false_iff_eq.mpr c9
         clear c9
         obtain rfl := Option.some.inj H
         go_wp2
         go_ret
         exact ⟨by first | rfl | (simp; done) | (simp [*]; done), by repeat (first | exact Drawn0.refl _ | apply Drawn0.step)⟩
        ·
         rw [if_neg c9] at H
         have c9b0 : (a0 == 43) = false := beq_eq_false_iff_ne.mpr c9
         have c9b1 : (a0 != 43) = true := bne_iff_ne.mpr c9
         by_cases c10 : a0 = 45
         ·
          rw [if_pos c10] at H
          have c10b0 : (a0 == 45) = true := beq_iff_eq.mpr c10
          have c10b1 : (a0 != 45) = false := bne_eq_false_iff_eq.mpr c10
          clear c10
          obtain rfl := Option.some.inj H
          go_wp2
          go_ret
          exact ⟨by first | rfl | (simp; done) | (simp [*]; done), by repeat (first | exact Drawn0.refl _ | apply Drawn0.step)⟩
         ·
          rw [if_neg c10] at H
          have c10b0 : (a0 == 45) = false := beq_eq_false_iff_ne.mpr c10
          have c10b1 : (a0 != 45) = true := bne_iff_ne.mpr c10
          obtain rfl := Option.some.inj H
          go_wp2
          go_ret
          exact ⟨by first | rfl | (simp; done) | (simp [*]; done), by repeat (first | exact Drawn0.refl _ | apply Drawn0.step)⟩
def nextT (st c : Int) : Int := nextL.getD (st.toNat * 4 + c.toNat) 0
def endsT (st : Int) : Int := endsL.getD st.toNat 0
def stepT (sg : Bool) (st c : Int) : Int := if c < 0 then 0 else if c = 3 ∧ st = 0 ∧ sg = false then 0 else nextT st c
def dec_Scan.l : Nat → ByteArray → Bool → Int → Int → Option (Int × Bool)
 | 0, _, _, _, _ => none
 | k + 1, s, sg, st, i => if i < (s.size : Int) then (dec_kind.f k (bt s i)).bind fun c => (if stepT sg st c = 0 then some (i, endsT st == 1) else dec_Scan.l k s sg (stepT sg st c) (i + 1)) else some (i, endsT st == 1)
def dec_Scan.f (k : Nat) (s : ByteArray) (i : Int) (sg : Bool) : Option (Int × Bool) := if i < 0 then some (0, false) else if i > (s.size : Int) then some (0, false) else if s.size < 4611686018427387904 then dec_Scan.l k s sg 0 i else none
theorem dec_Scan.mono_l : ∀ (k : Nat) (s : ByteArray) (sg : Bool) (st i : Int), LeO (dec_Scan.l k s sg st i) (dec_Scan.l (k + 1) s sg st i)
 | 0 => fun _ _ _ _ => LeO.none _
 | k + 1 => fun s sg st i => LeO.ite (LeO.bind (dec_kind.mono _ _) (fun c => LeO.ite (LeO.refl _) (dec_Scan.mono_l k s sg _ _))) (LeO.refl _)
theorem dec_Scan.mono (s : ByteArray) (i : Int) (sg : Bool) (k : Nat) : LeO (dec_Scan.f k s i sg) (dec_Scan.f (k + 1) s i sg) :=
 LeO.ite (LeO.refl _) (LeO.ite (LeO.refl _) (LeO.ite (dec_Scan.mono_l k s sg 0 i) (LeO.refl _)))
theorem kind_range {k : Nat} {a c : Int} (h : dec_kind.f k a = some c) : c = -1 ∨ c = 0 ∨ c = 1 ∨ c = 2 ∨ c = 3 := by
 have e1 : ∀ (k : Nat) (a : Int) (b : Bool) (c : Int), dec_kind.j1 k a b = some c → c = -1 ∨ c = 0 ∨ c = 1 ∨ c = 2 ∨ c = 3 := by
  intro k a b c h
  cases k with
  | zero => simp [dec_kind.j1] at h
  | succ k =>
   rw [dec_kind.j1] at h
   split at h
   ·
    have := Option.some.inj h; omega
   ·
    split at h
    ·
     have := Option.some.inj h; omega
    ·
     split at h <;> (have := Option.some.inj h; omega)
 have e0 : ∀ (k : Nat) (a : Int) (b : Bool) (c : Int), dec_kind.j0 k a b = some c → c = -1 ∨ c = 0 ∨ c = 1 ∨ c = 2 ∨ c = 3 := by
  intro k a b c h
  cases k with
  | zero => simp [dec_kind.j0] at h
  | succ k =>
   rw [dec_kind.j0] at h
   split at h
   ·
    have := Option.some.inj h; omega
   ·
    split at h
    ·
     have := Option.some.inj h; omega
    ·
     split at h <;> exact e1 _ _ _ _ h
 unfold dec_kind.f at h
 split at h <;> exact e0 _ _ _ _ h
theorem nextT_range {st c : Int} (h0 : 0 ≤ st) (h1 : st < 9) (c0 : 0 ≤ c) (c1 : c ≤ 3) : 0 ≤ nextT st c ∧ nextT st c < 9 := by
 have hst : st = 0 ∨ st = 1 ∨ st = 2 ∨ st = 3 ∨ st = 4 ∨ st = 5 ∨ st = 6 ∨ st = 7 ∨ st = 8 := by omega
 have hc : c = 0 ∨ c = 1 ∨ c = 2 ∨ c = 3 := by omega
 rcases hst with rfl | rfl | rfl | rfl | rfl | rfl | rfl | rfl | rfl <;> rcases hc with rfl | rfl | rfl | rfl <;> decide
set_option maxHeartbeats 4000000 in
theorem dec_Scan.calls (k : Nat) (s : ByteArray) (i : Int) (sg : Bool) (r1 : Int) (r2 : Bool) (w : World) (hG : Gl w) (h : dec_Scan.f k s i sg = some (r1, r2)) :
  Calls Tryd.prog 31 #[.string s, .int .i64 i, .bool sg] w fun e w' => e = .returned (.tuple #[.int .i64 r1, .bool r2]) ∧ Drawn0 w w' := by
 unfold dec_Scan.f at h
 have HG := Aside0.mk hG
 clear hG
 by_cases h0 : i < 0
 ·
  rw [if_pos h0] at h
  simp only [Option.some.injEq, Prod.mk.injEq] at h
  obtain ⟨rfl, rfl⟩ := h
  have t0 : decide (i < 0) = true := decide_eq_true h0
  clear h0
  go_enter Tryd.func31, Tryd.ntmps31
  go_wp2
  go_step3
  go_wp2
  rw [Exit.noGoto_ret]
  go_ret2
  exact ⟨rfl, Drawn0.refl _⟩
 rw [if_neg h0] at h
 by_cases h1 : i > (s.size : Int)
 ·
  rw [if_pos h1] at h
  simp only [Option.some.injEq, Prod.mk.injEq] at h
  obtain ⟨rfl, rfl⟩ := h
  have t0 : decide (i < 0) = false := decide_eq_false h0
  have t1 : decide (i > (s.size : Int)) = true := decide_eq_true h1
  clear h0 h1
  go_enter Tryd.func31, Tryd.ntmps31
  go_wp2
  go_step3
  go_wp2
  rw [Exit.noGoto_ret]
  go_ret2
  exact ⟨rfl, Drawn0.refl _⟩
 rw [if_neg h1] at h
 by_cases hs : s.size < 4611686018427387904
 case neg => rw [if_neg hs] at h; cases h
 rw [if_pos hs] at h
 have H := Aside0.mk h
 have HS := Aside0.mk hs
 have HI := Aside0.mk (show 0 ≤ i ∧ i ≤ (s.size : Int) by omega)
 have t0 : decide (i < 0) = false := decide_eq_false h0
 have t1 : decide (i > (s.size : Int)) = false := decide_eq_false h1
 clear h0 h1 h hs
 go_enter Tryd.func31, Tryd.ntmps31
 go_wp2
 go_step3
 go_wp2
 go_step3
 go_wp2
 go_loopg [1, 8] k (fun kq v1 v8 w' => ∃ (j st : Int), v1 = .int .i64 j ∧ v8 = .int .i64 st ∧ Aside0 (0 ≤ st ∧ st < 9) ∧ Aside0 (0 ≤ j ∧ j ≤ (s.size : Int)) ∧ Aside0 (dec_Scan.l kq s sg st j = some (r1, r2)) ∧ Aside0 (kq ≤ k) ∧ Drawn0 w w')
 case atStart => exact ⟨i, 0, rfl, rfl, ⟨by decide⟩, HI, H, ⟨Nat.le_refl _⟩, Drawn0.refl _⟩
 case round =>
  clear H HI t0 t1
  obtain ⟨j, st, rfl, rfl, HT, HJ, HA, HK, ⟨m, rfl⟩⟩ := hrel
  cases gk with
  | zero => exact absurd HA.out (by simp [dec_Scan.l])
  | succ k1 =>
   have H := HA.out
   clear HA
   rw [dec_Scan.l] at H
   by_cases hlt : j < (s.size : Int)
   ·
    rw [if_pos hlt] at H
    replace H := Option.bind_eq_some_iff.mp H
    obtain ⟨c, hc, H⟩ := H
    have hr := kind_range hc
    have HC := Aside0.mk hc
    have H' := Aside0.mk H
    clear H hc
    have hlt2 : decide (j < (s.size : Int)) = true := decide_eq_true hlt
    have p6 := eq_true HJ.out.1
    have q6 := eq_true hlt
    have hx6 := bt_at s j
    have HQ := Aside0.mk hlt
    have hw1 : Aside0 (wrap64 (j + 1) = j + 1) := ⟨by have := HJ.out; have := HS.out; unfold wrap64; omega⟩
    clear hlt
    rcases hr with rfl | rfl | rfl | rfl | rfl
    ·
     have H := H'.out
     rw [show stepT sg st (-1) = 0 from if_pos (by decide), if_pos rfl] at H
     simp only [Option.some.injEq, Prod.mk.injEq] at H
     obtain ⟨rfl, rfl⟩ := H
     clear H'
     go_wp2_with (first | ((with_reducible refine gate_callee (f := 46) rfl ?_); refine goesL_ (some 25) rfl rfl Tryd.func46 (by kernel_rfl) rfl #[.int .u8 (bt s j)] rfl (by (try simp only [List.map_toArray, List.map_cons, List.map_nil]); first | done | rfl) ?_; (with_reducible refine (dec_kind.calls k1 (bt s j) _ _ HC.out).mono ?_); rintro e w' ⟨rfl, ⟨nd, rfl⟩⟩; refine ⟨_, rfl, ?_⟩))
     have he : w.cell? ⟨2, st.toNat, none⟩ = some (.int .i64 (endsT st)) := HG.out.ends st.toNat (by have := HT.out; omega)
     have s0 := eq_true HT.out.1
     have s1 := eq_true HT.out.2
     go_quiet (fail)
     go_wp2
     rw [Exit.noGoto_ret]
     go_ret2
     exact ⟨rfl, by repeat (first | exact Drawn0.refl _ | apply Drawn0.step)⟩
    ·
     have hn : w.cell? ⟨1, st.toNat * 4, none⟩ = some (.int .i64 (nextT st 0)) := HG.out.next (st.toNat * 4 + 0) (by have := HT.out; omega)
     have s0 := eq_true HT.out.1
     have s1 := eq_true HT.out.2
     have hst : stepT sg st 0 = nextT st 0 := by unfold stepT; rw [if_neg (by decide), if_neg (by intro h; exact absurd h.1 (by decide))]
     by_cases hz : nextT st 0 = 0
     ·
      have z0 : (nextT st 0 == 0) = true := beq_iff_eq.mpr hz
      rw [hz] at hst
      clear hz
      have H := H'.out
      rw [hst, if_pos rfl] at H
      simp only [Option.some.injEq, Prod.mk.injEq] at H
      obtain ⟨rfl, rfl⟩ := H
      clear H' hst
      go_wp2_with (first | ((with_reducible refine gate_callee (f := 46) rfl ?_); refine goesL_ (some 25) rfl rfl Tryd.func46 (by kernel_rfl) rfl #[.int .u8 (bt s j)] rfl (by (try simp only [List.map_toArray, List.map_cons, List.map_nil]); first | done | rfl) ?_; (with_reducible refine (dec_kind.calls k1 (bt s j) _ _ HC.out).mono ?_); rintro e w' ⟨rfl, ⟨nd, rfl⟩⟩; refine ⟨_, rfl, ?_⟩))
      have he : w.cell? ⟨2, st.toNat, none⟩ = some (.int .i64 (endsT st)) := HG.out.ends st.toNat (by have := HT.out; omega)
      have s0 := eq_true HT.out.1
      have s1 := eq_true HT.out.2
      go_quiet (fail)
      go_wp2
      rw [Exit.noGoto_ret]
      go_ret2
      exact ⟨rfl, by repeat (first | exact Drawn0.refl _ | apply Drawn0.step)⟩
     ·
      have z0 : (nextT st 0 == 0) = false := beq_eq_false_iff_ne.mpr hz
      have H := H'.out
      rw [hst, if_neg hz] at H
      have H' := Aside0.mk H
      have nr := Aside0.mk (nextT_range HT.out.1 HT.out.2 (show (0 : Int) ≤ 0 by decide) (show (0 : Int) ≤ 3 by decide))
      clear H hst hz
      go_wp2_with (first | ((with_reducible refine gate_callee (f := 46) rfl ?_); refine goesL_ (some 25) rfl rfl Tryd.func46 (by kernel_rfl) rfl #[.int .u8 (bt s j)] rfl (by (try simp only [List.map_toArray, List.map_cons, List.map_nil]); first | done | rfl) ?_; (with_reducible refine (dec_kind.calls k1 (bt s j) _ _ HC.out).mono ?_); rintro e w' ⟨rfl, ⟨nd, rfl⟩⟩; refine ⟨_, rfl, ?_⟩))
      go_roundg k1
      case measure => have := HK.out; omega
      case rel => exact ⟨j + 1, nextT st 0, by first | rfl | (rw [hw1.out]; done) | (simp [hw1.out]; done), rfl, nr, ⟨by have := HJ.out; have := HQ.out; omega⟩, H', ⟨by have := HK.out; omega⟩, by repeat (first | exact Drawn0.refl _ | apply Drawn0.step)⟩
    ·
     have hn : w.cell? ⟨1, st.toNat * 4 + 1, none⟩ = some (.int .i64 (nextT st 1)) := HG.out.next (st.toNat * 4 + 1) (by have := HT.out; omega)
     have s0 := eq_true HT.out.1
     have s1 := eq_true HT.out.2
     have hst : stepT sg st 1 = nextT st 1 := by unfold stepT; rw [if_neg (by decide), if_neg (by intro h; exact absurd h.1 (by decide))]
     by_cases hz : nextT st 1 = 0
     ·
      have z0 : (nextT st 1 == 0) = true := beq_iff_eq.mpr hz
      rw [hz] at hst
      clear hz
      have H := H'.out
      rw [hst, if_pos rfl] at H
      simp only [Option.some.injEq, Prod.mk.injEq] at H
      obtain ⟨rfl, rfl⟩ := H
      clear H' hst
      go_wp2_with (first | ((with_reducible refine gate_callee (f := 46) rfl ?_); refine goesL_ (some 25) rfl rfl Tryd.func46 (by kernel_rfl) rfl #[.int .u8 (bt s j)] rfl (by (try simp only [List.map_toArray, List.map_cons, List.map_nil]); first | done | rfl) ?_; (with_reducible refine (dec_kind.calls k1 (bt s j) _ _ HC.out).mono ?_); rintro e w' ⟨rfl, ⟨nd, rfl⟩⟩; refine ⟨_, rfl, ?_⟩))
      have he : w.cell? ⟨2, st.toNat, none⟩ = some (.int .i64 (endsT st)) := HG.out.ends st.toNat (by have := HT.out; omega)
      have s0 := eq_true HT.out.1
      have s1 := eq_true HT.out.2
      go_quiet (fail)
      go_wp2
      rw [Exit.noGoto_ret]
      go_ret2
      exact ⟨rfl, by repeat (first | exact Drawn0.refl _ | apply Drawn0.step)⟩
     ·
      have z0 : (nextT st 1 == 0) = false := beq_eq_false_iff_ne.mpr hz
      have H := H'.out
      rw [hst, if_neg hz] at H
      have H' := Aside0.mk H
      have nr := Aside0.mk (nextT_range HT.out.1 HT.out.2 (show (0 : Int) ≤ 1 by decide) (show (1 : Int) ≤ 3 by decide))
      clear H hst hz
      go_wp2_with (first | ((with_reducible refine gate_callee (f := 46) rfl ?_); refine goesL_ (some 25) rfl rfl Tryd.func46 (by kernel_rfl) rfl #[.int .u8 (bt s j)] rfl (by (try simp only [List.map_toArray, List.map_cons, List.map_nil]); first | done | rfl) ?_; (with_reducible refine (dec_kind.calls k1 (bt s j) _ _ HC.out).mono ?_); rintro e w' ⟨rfl, ⟨nd, rfl⟩⟩; refine ⟨_, rfl, ?_⟩))
      go_roundg k1
      case measure => have := HK.out; omega
      case rel => exact ⟨j + 1, nextT st 1, by first | rfl | (rw [hw1.out]; done) | (simp [hw1.out]; done), rfl, nr, ⟨by have := HJ.out; have := HQ.out; omega⟩, H', ⟨by have := HK.out; omega⟩, by repeat (first | exact Drawn0.refl _ | apply Drawn0.step)⟩
    ·
     have hn : w.cell? ⟨1, st.toNat * 4 + 2, none⟩ = some (.int .i64 (nextT st 2)) := HG.out.next (st.toNat * 4 + 2) (by have := HT.out; omega)
     have s0 := eq_true HT.out.1
     have s1 := eq_true HT.out.2
     have hst : stepT sg st 2 = nextT st 2 := by unfold stepT; rw [if_neg (by decide), if_neg (by intro h; exact absurd h.1 (by decide))]
     by_cases hz : nextT st 2 = 0
     ·
      have z0 : (nextT st 2 == 0) = true := beq_iff_eq.mpr hz
      rw [hz] at hst
      clear hz
      have H := H'.out
      rw [hst, if_pos rfl] at H
      simp only [Option.some.injEq, Prod.mk.injEq] at H
      obtain ⟨rfl, rfl⟩ := H
      clear H' hst
      go_wp2_with (first | ((with_reducible refine gate_callee (f := 46) rfl ?_); refine goesL_ (some 25) rfl rfl Tryd.func46 (by kernel_rfl) rfl #[.int .u8 (bt s j)] rfl (by (try simp only [List.map_toArray, List.map_cons, List.map_nil]); first | done | rfl) ?_; (with_reducible refine (dec_kind.calls k1 (bt s j) _ _ HC.out).mono ?_); rintro e w' ⟨rfl, ⟨nd, rfl⟩⟩; refine ⟨_, rfl, ?_⟩))
      have he : w.cell? ⟨2, st.toNat, none⟩ = some (.int .i64 (endsT st)) := HG.out.ends st.toNat (by have := HT.out; omega)
      have s0 := eq_true HT.out.1
      have s1 := eq_true HT.out.2
      go_quiet (fail)
      go_wp2
      rw [Exit.noGoto_ret]
      go_ret2
      exact ⟨rfl, by repeat (first | exact Drawn0.refl _ | apply Drawn0.step)⟩
     ·
      have z0 : (nextT st 2 == 0) = false := beq_eq_false_iff_ne.mpr hz
      have H := H'.out
      rw [hst, if_neg hz] at H
      have H' := Aside0.mk H
      have nr := Aside0.mk (nextT_range HT.out.1 HT.out.2 (show (0 : Int) ≤ 2 by decide) (show (2 : Int) ≤ 3 by decide))
      clear H hst hz
      go_wp2_with (first | ((with_reducible refine gate_callee (f := 46) rfl ?_); refine goesL_ (some 25) rfl rfl Tryd.func46 (by kernel_rfl) rfl #[.int .u8 (bt s j)] rfl (by (try simp only [List.map_toArray, List.map_cons, List.map_nil]); first | done | rfl) ?_; (with_reducible refine (dec_kind.calls k1 (bt s j) _ _ HC.out).mono ?_); rintro e w' ⟨rfl, ⟨nd, rfl⟩⟩; refine ⟨_, rfl, ?_⟩))
      go_roundg k1
      case measure => have := HK.out; omega
      case rel => exact ⟨j + 1, nextT st 2, by first | rfl | (rw [hw1.out]; done) | (simp [hw1.out]; done), rfl, nr, ⟨by have := HJ.out; have := HQ.out; omega⟩, H', ⟨by have := HK.out; omega⟩, by repeat (first | exact Drawn0.refl _ | apply Drawn0.step)⟩
    ·
     by_cases hb : st = 0
     ·
      subst hb
      cases sg with
      | false =>
       have hst : stepT false 0 3 = 0 := by decide
       have H := H'.out
       rw [hst, if_pos rfl] at H
       simp only [Option.some.injEq, Prod.mk.injEq] at H
       obtain ⟨rfl, rfl⟩ := H
       clear H' hst
       go_wp2_with (first | ((with_reducible refine gate_callee (f := 46) rfl ?_); refine goesL_ (some 25) rfl rfl Tryd.func46 (by kernel_rfl) rfl #[.int .u8 (bt s j)] rfl (by (try simp only [List.map_toArray, List.map_cons, List.map_nil]); first | done | rfl) ?_; (with_reducible refine (dec_kind.calls k1 (bt s j) _ _ HC.out).mono ?_); rintro e w' ⟨rfl, ⟨nd, rfl⟩⟩; refine ⟨_, rfl, ?_⟩))
       have he : w.cell? ⟨2, 0, none⟩ = some (.int .i64 (endsT 0)) := HG.out.ends 0 (by decide)
       skip
       skip
       go_quiet (fail)
       go_wp2
       rw [Exit.noGoto_ret]
       go_ret2
       exact ⟨rfl, by repeat (first | exact Drawn0.refl _ | apply Drawn0.step)⟩
      | true =>
       have hn : w.cell? ⟨1, 3, none⟩ = some (.int .i64 1) := HG.out.next 3 (by decide)
       have hst : stepT true 0 3 = 1 := by decide
       have H := H'.out
       rw [hst, if_neg (by decide)] at H
       have H' := Aside0.mk H
       clear H hst
       go_wp2_with (first | ((with_reducible refine gate_callee (f := 46) rfl ?_); refine goesL_ (some 25) rfl rfl Tryd.func46 (by kernel_rfl) rfl #[.int .u8 (bt s j)] rfl (by (try simp only [List.map_toArray, List.map_cons, List.map_nil]); first | done | rfl) ?_; (with_reducible refine (dec_kind.calls k1 (bt s j) _ _ HC.out).mono ?_); rintro e w' ⟨rfl, ⟨nd, rfl⟩⟩; refine ⟨_, rfl, ?_⟩))
       go_roundg k1
       case measure => have := HK.out; omega
       case rel => exact ⟨j + 1, 1, by first | rfl | (rw [hw1.out]; done) | (simp [hw1.out]; done), rfl, ⟨by decide⟩, ⟨by have := HJ.out; have := HQ.out; omega⟩, H', ⟨by have := HK.out; omega⟩, by repeat (first | exact Drawn0.refl _ | apply Drawn0.step)⟩
     ·
      have b0 : (st == 0) = false := beq_eq_false_iff_ne.mpr hb
      have hn : w.cell? ⟨1, st.toNat * 4 + 3, none⟩ = some (.int .i64 (nextT st 3)) := HG.out.next (st.toNat * 4 + 3) (by have := HT.out; omega)
      have s0 := eq_true HT.out.1
      have s1 := eq_true HT.out.2
      have hst : stepT sg st 3 = nextT st 3 := by unfold stepT; rw [if_neg (by decide), if_neg (by intro h; exact hb h.2.1)]
      clear hb
      by_cases hz : nextT st 3 = 0
      ·
       have z0 : (nextT st 3 == 0) = true := beq_iff_eq.mpr hz
       rw [hz] at hst
       clear hz
       have H := H'.out
       rw [hst, if_pos rfl] at H
       simp only [Option.some.injEq, Prod.mk.injEq] at H
       obtain ⟨rfl, rfl⟩ := H
       clear H' hst
       go_wp2_with (first | ((with_reducible refine gate_callee (f := 46) rfl ?_); refine goesL_ (some 25) rfl rfl Tryd.func46 (by kernel_rfl) rfl #[.int .u8 (bt s j)] rfl (by (try simp only [List.map_toArray, List.map_cons, List.map_nil]); first | done | rfl) ?_; (with_reducible refine (dec_kind.calls k1 (bt s j) _ _ HC.out).mono ?_); rintro e w' ⟨rfl, ⟨nd, rfl⟩⟩; refine ⟨_, rfl, ?_⟩))
       have he : w.cell? ⟨2, st.toNat, none⟩ = some (.int .i64 (endsT st)) := HG.out.ends st.toNat (by have := HT.out; omega)
       have s0 := eq_true HT.out.1
       have s1 := eq_true HT.out.2
       go_quiet (fail)
       go_wp2
       rw [Exit.noGoto_ret]
       go_ret2
       exact ⟨rfl, by repeat (first | exact Drawn0.refl _ | apply Drawn0.step)⟩
      ·
       have z0 : (nextT st 3 == 0) = false := beq_eq_false_iff_ne.mpr hz
       have H := H'.out
       rw [hst, if_neg hz] at H
       have H' := Aside0.mk H
       have nr := Aside0.mk (nextT_range HT.out.1 HT.out.2 (show (0 : Int) ≤ 3 by decide) (show (3 : Int) ≤ 3 by decide))
       clear H hst hz
       go_wp2_with (first | ((with_reducible refine gate_callee (f := 46) rfl ?_); refine goesL_ (some 25) rfl rfl Tryd.func46 (by kernel_rfl) rfl #[.int .u8 (bt s j)] rfl (by (try simp only [List.map_toArray, List.map_cons, List.map_nil]); first | done | rfl) ?_; (with_reducible refine (dec_kind.calls k1 (bt s j) _ _ HC.out).mono ?_); rintro e w' ⟨rfl, ⟨nd, rfl⟩⟩; refine ⟨_, rfl, ?_⟩))
       go_roundg k1
       case measure => have := HK.out; omega
       case rel => exact ⟨j + 1, nextT st 3, by first | rfl | (rw [hw1.out]; done) | (simp [hw1.out]; done), rfl, nr, ⟨by have := HJ.out; have := HQ.out; omega⟩, H', ⟨by have := HK.out; omega⟩, by repeat (first | exact Drawn0.refl _ | apply Drawn0.step)⟩
   ·
    rw [if_neg hlt] at H
    simp only [Option.some.injEq, Prod.mk.injEq] at H
    obtain ⟨rfl, rfl⟩ := H
    have hlt2 : decide (j < (s.size : Int)) = false := decide_eq_false hlt
    clear hlt
    go_wp2
    have he : w.cell? ⟨2, st.toNat, none⟩ = some (.int .i64 (endsT st)) := HG.out.ends st.toNat (by have := HT.out; omega)
    have s0 := eq_true HT.out.1
    have s1 := eq_true HT.out.2
    go_quiet (fail)
    go_wp2
    rw [Exit.noGoto_ret]
    go_ret2
    exact ⟨rfl, by repeat (first | exact Drawn0.refl _ | apply Drawn0.step)⟩
end Go.Proofs.YtfpnglgipchjhaaDoor.PR
namespace Go.Proofs.YtfpnglgipchjhaaDoor.PR
open Go.RowKit Go.Proofs.YtfpnglgipchjhaaDoorW.PrintWords Go.Proofs.YtfpnglgipchjhaaDoorW.PrintLast Go.Proofs.YtfpnglgipchjhaaDoorW.PrintMore
attribute [local go_sem] max2_int min2_int max_two min_two max_three min_three max_four min_four
set_option linter.unusedVariables false
set_option linter.unusedSimpArgs false
mutual
def dec_read.l0 : Nat → ByteArray → Bool → Bool → Int → Int → Bool → List Int → Int → Option (Bool × List Int × Int)
 | 0, _, _, _, _, _, _, _, _ => none
 | k + 1, x0, x4, x5, x6, x7, x103000, x103001, x103002 => if x7 < (x0.size : Int) then (if 0 ≤ x7 then ((dec_kind.f k (bt x0 x7)).bind fun t103 => (if t103 = 0 then (if (bt x0 x7) = 48 then (dec_read.j1 k x0 x4 x5 x6 x7 (bt x0 x7) (decide (0 < x103001.length)) x103000 x103001 x103002) else (dec_read.j1 k x0 x4 x5 x6 x7 (bt x0 x7) true x103000 x103001 x103002)) else (if t103 = 1 then (dec_read.l0 k x0 true x5 x6 (wrap64 (x7 + 1)) x103000 x103001 x103002) else (if t103 = 3 then (dec_read.l0 k x0 x4 x5 x6 (wrap64 (x7 + 1)) ((bt x0 x7) == 45) x103001 x103002) else (if t103 = 2 then (if 0 ≤ (wrap64 (x7 + 1)) then (if (wrap64 (x7 + 1)) < (x0.size : Int) then ((dec_kind.f k (bt x0 (wrap64 (x7 + 1)))).bind fun t107 => (if t107 = 3 then (dec_read.j3 k x0 x4 ((bt x0 (wrap64 (x7 + 1))) == 45) x6 (wrap64 ((wrap64 (x7 + 1)) + 1)) x103000 x103001 x103002) else (dec_read.j3 k x0 x4 x5 x6 (wrap64 (x7 + 1)) x103000 x103001 x103002))) else (none)) else (none)) else (dec_read.l0 k x0 x4 x5 x6 (wrap64 (x7 + 1)) x103000 x103001 x103002)))))) else (none)) else (dec_read.l2 k x5 x6 x103000 x103001 x103002)
def dec_read.j1 : Nat → ByteArray → Bool → Bool → Int → Int → Int → Bool → Bool → List Int → Int → Option (Bool × List Int × Int)
 | 0, _, _, _, _, _, _, _, _, _, _ => none
 | k + 1, x0, x4, x5, x6, x7, x8, x29, x103000, x103001, x103002 => if x29 = true then (if x103001.length < 140737488355328 then (dec_read.j2 k x0 x4 x5 x6 x7 x103000 (x103001 ++ [(x8 - 48) % 256]) x103002) else (none)) else (dec_read.j2 k x0 x4 x5 x6 x7 x103000 x103001 x103002)
def dec_read.j2 : Nat → ByteArray → Bool → Bool → Int → Int → Bool → List Int → Int → Option (Bool × List Int × Int)
 | 0, _, _, _, _, _, _, _, _ => none
 | k + 1, x0, x4, x5, x6, x7, x103000, x103001, x103002 => if x4 = true then (if (x103001.length : Int) = 0 then (dec_read.l0 k x0 x4 x5 x6 (wrap64 (x7 + 1)) x103000 x103001 (wrap64 (x103002 - 1))) else (dec_read.l0 k x0 x4 x5 x6 (wrap64 (x7 + 1)) x103000 x103001 x103002)) else (if (x103001.length : Int) > 0 then (dec_read.l0 k x0 x4 x5 x6 (wrap64 (x7 + 1)) x103000 x103001 (wrap64 (x103002 + 1))) else (dec_read.l0 k x0 x4 x5 x6 (wrap64 (x7 + 1)) x103000 x103001 x103002))
def dec_read.j3 : Nat → ByteArray → Bool → Bool → Int → Int → Bool → List Int → Int → Option (Bool × List Int × Int)
 | 0, _, _, _, _, _, _, _, _ => none
 | k + 1, x0, x4, x5, x6, x7, x103000, x103001, x103002 => dec_read.l1 k x0 x4 x5 x6 x7 x103000 x103001 x103002
def dec_read.l1 : Nat → ByteArray → Bool → Bool → Int → Int → Bool → List Int → Int → Option (Bool × List Int × Int)
 | 0, _, _, _, _, _, _, _, _ => none
 | k + 1, x0, x4, x5, x6, x7, x103000, x103001, x103002 => if x7 < (x0.size : Int) then (if 0 ≤ x7 then (dec_read.l1 k x0 x4 x5 (mn (wrap64 ((wrap64 (10 * x6)) + (((bt x0 x7) - 48) % 256))) 1099511627776) (wrap64 (x7 + 1)) x103000 x103001 x103002) else (none)) else (dec_read.l0 k x0 x4 x5 x6 (wrap64 (x7 + 1)) x103000 x103001 x103002)
def dec_read.l2 : Nat → Bool → Int → Bool → List Int → Int → Option (Bool × List Int × Int)
 | 0, _, _, _, _, _ => none
 | k + 1, x5, x6, x103000, x103001, x103002 => if (x103001.length : Int) > 0 then (if 0 ≤ (wrap64 ((x103001.length : Int) - 1)) then (if (wrap64 ((x103001.length : Int) - 1)) < (x103001.length : Int) then (if (rd x103001 (wrap64 ((x103001.length : Int) - 1))) = 0 then (if (wrap64 ((x103001.length : Int) - 1)) ≤ (x103001.length : Int) then (dec_read.l2 k x5 x6 x103000 (x103001.take ((wrap64 ((x103001.length : Int) - 1)) : Int).toNat) x103002) else (none)) else (if x5 = true then (some (x103000, x103001, wrap64 (x103002 + (wrap64 (-x6))))) else (some (x103000, x103001, wrap64 (x103002 + x6))))) else (none)) else (none)) else (if x5 = true then (some (x103000, x103001, wrap64 (x103002 + (wrap64 (-x6))))) else (some (x103000, x103001, wrap64 (x103002 + x6))))
end
def dec_read.f (k : Nat) (a0 : ByteArray) : Option (Bool × List Int × Int) := dec_read.l0 k a0 false false 0 0 false ([] : List Int) 0
theorem dec_read.mono_l : ∀ k, (∀ y0 y1 y2 y3 y4 y5 y6 y7, LeO (dec_read.l0 k y0 y1 y2 y3 y4 y5 y6 y7) (dec_read.l0 (k + 1) y0 y1 y2 y3 y4 y5 y6 y7)) ∧ (∀ y0 y1 y2 y3 y4 y5 y6 y7 y8 y9, LeO (dec_read.j1 k y0 y1 y2 y3 y4 y5 y6 y7 y8 y9) (dec_read.j1 (k + 1) y0 y1 y2 y3 y4 y5 y6 y7 y8 y9)) ∧ (∀ y0 y1 y2 y3 y4 y5 y6 y7, LeO (dec_read.j2 k y0 y1 y2 y3 y4 y5 y6 y7) (dec_read.j2 (k + 1) y0 y1 y2 y3 y4 y5 y6 y7)) ∧ (∀ y0 y1 y2 y3 y4 y5 y6 y7, LeO (dec_read.j3 k y0 y1 y2 y3 y4 y5 y6 y7) (dec_read.j3 (k + 1) y0 y1 y2 y3 y4 y5 y6 y7)) ∧ (∀ y0 y1 y2 y3 y4 y5 y6 y7, LeO (dec_read.l1 k y0 y1 y2 y3 y4 y5 y6 y7) (dec_read.l1 (k + 1) y0 y1 y2 y3 y4 y5 y6 y7)) ∧ (∀ y0 y1 y2 y3 y4, LeO (dec_read.l2 k y0 y1 y2 y3 y4) (dec_read.l2 (k + 1) y0 y1 y2 y3 y4))
 | 0 => ⟨fun _ _ _ _ _ _ _ _ r h => by simp [dec_read.l0] at h, fun _ _ _ _ _ _ _ _ _ _ r h => by simp [dec_read.j1] at h, fun _ _ _ _ _ _ _ _ r h => by simp [dec_read.j2] at h, fun _ _ _ _ _ _ _ _ r h => by simp [dec_read.j3] at h, fun _ _ _ _ _ _ _ _ r h => by simp [dec_read.l1] at h, fun _ _ _ _ _ r h => by simp [dec_read.l2] at h⟩
 | k + 1 => by
  obtain ⟨ih0, ih1, ih2, ih3, ih4, ih5⟩ := dec_read.mono_l k
  refine ⟨?_, ?_, ?_, ?_, ?_, ?_⟩
  ·
   intro y0 y1 y2 y3 y4 y5 y6 y7
   unfold dec_read.l0
   repeat' first
   | (with_reducible exact ih0 _ _ _ _ _ _ _ _)
   | (with_reducible exact ih1 _ _ _ _ _ _ _ _ _ _)
   | (with_reducible exact ih2 _ _ _ _ _ _ _ _)
   | (with_reducible exact ih3 _ _ _ _ _ _ _ _)
   | (with_reducible exact ih4 _ _ _ _ _ _ _ _)
   | (with_reducible exact ih5 _ _ _ _ _)
   | (with_reducible exact dec_kind.mono _ _)
   | (with_reducible exact LeO.refl _)
   | (with_reducible exact LeO.none _)
   | (with_reducible refine LeO.ite ?_ ?_)
   | (with_reducible refine LeO.bind ?_ (fun _ => ?_))
   | exact ih0 _ _ _ _ _ _ _ _
   | exact ih1 _ _ _ _ _ _ _ _ _ _
   | exact ih2 _ _ _ _ _ _ _ _
   | exact ih3 _ _ _ _ _ _ _ _
   | exact ih4 _ _ _ _ _ _ _ _
   | exact ih5 _ _ _ _ _
   | exact dec_kind.mono _ _
   | exact LeO.none _
   | refine LeO.ite ?_ ?_
   | refine LeO.bind ?_ (fun _ => ?_)
  ·
   intro y0 y1 y2 y3 y4 y5 y6 y7 y8 y9
   unfold dec_read.j1
   repeat' first
   | (with_reducible exact ih0 _ _ _ _ _ _ _ _)
   | (with_reducible exact ih1 _ _ _ _ _ _ _ _ _ _)
   | (with_reducible exact ih2 _ _ _ _ _ _ _ _)
   | (with_reducible exact ih3 _ _ _ _ _ _ _ _)
   | (with_reducible exact ih4 _ _ _ _ _ _ _ _)
   | (with_reducible exact ih5 _ _ _ _ _)
   | (with_reducible exact dec_kind.mono _ _)
   | (with_reducible exact LeO.refl _)
   | (with_reducible exact LeO.none _)
   | (with_reducible refine LeO.ite ?_ ?_)
   | (with_reducible refine LeO.bind ?_ (fun _ => ?_))
   | exact ih0 _ _ _ _ _ _ _ _
   | exact ih1 _ _ _ _ _ _ _ _ _ _
   | exact ih2 _ _ _ _ _ _ _ _
   | exact ih3 _ _ _ _ _ _ _ _
   | exact ih4 _ _ _ _ _ _ _ _
   | exact ih5 _ _ _ _ _
   | exact dec_kind.mono _ _
   | exact LeO.none _
   | refine LeO.ite ?_ ?_
   | refine LeO.bind ?_ (fun _ => ?_)
  ·
   intro y0 y1 y2 y3 y4 y5 y6 y7
   unfold dec_read.j2
   repeat' first
   | (with_reducible exact ih0 _ _ _ _ _ _ _ _)
   | (with_reducible exact ih1 _ _ _ _ _ _ _ _ _ _)
   | (with_reducible exact ih2 _ _ _ _ _ _ _ _)
   | (with_reducible exact ih3 _ _ _ _ _ _ _ _)
   | (with_reducible exact ih4 _ _ _ _ _ _ _ _)
   | (with_reducible exact ih5 _ _ _ _ _)
   | (with_reducible exact dec_kind.mono _ _)
   | (with_reducible exact LeO.refl _)
   | (with_reducible exact LeO.none _)
   | (with_reducible refine LeO.ite ?_ ?_)
   | (with_reducible refine LeO.bind ?_ (fun _ => ?_))
   | exact ih0 _ _ _ _ _ _ _ _
   | exact ih1 _ _ _ _ _ _ _ _ _ _
   | exact ih2 _ _ _ _ _ _ _ _
   | exact ih3 _ _ _ _ _ _ _ _
   | exact ih4 _ _ _ _ _ _ _ _
   | exact ih5 _ _ _ _ _
   | exact dec_kind.mono _ _
   | exact LeO.none _
   | refine LeO.ite ?_ ?_
   | refine LeO.bind ?_ (fun _ => ?_)
  ·
   intro y0 y1 y2 y3 y4 y5 y6 y7
   unfold dec_read.j3
   repeat' first
   | (with_reducible exact ih0 _ _ _ _ _ _ _ _)
   | (with_reducible exact ih1 _ _ _ _ _ _ _ _ _ _)
   | (with_reducible exact ih2 _ _ _ _ _ _ _ _)
   | (with_reducible exact ih3 _ _ _ _ _ _ _ _)
   | (with_reducible exact ih4 _ _ _ _ _ _ _ _)
   | (with_reducible exact ih5 _ _ _ _ _)
   | (with_reducible exact dec_kind.mono _ _)
   | (with_reducible exact LeO.refl _)
   | (with_reducible exact LeO.none _)
   | (with_reducible refine LeO.ite ?_ ?_)
   | (with_reducible refine LeO.bind ?_ (fun _ => ?_))
   | exact ih0 _ _ _ _ _ _ _ _
   | exact ih1 _ _ _ _ _ _ _ _ _ _
   | exact ih2 _ _ _ _ _ _ _ _
   | exact ih3 _ _ _ _ _ _ _ _
   | exact ih4 _ _ _ _ _ _ _ _
   | exact ih5 _ _ _ _ _
   | exact dec_kind.mono _ _
   | exact LeO.none _
   | refine LeO.ite ?_ ?_
   | refine LeO.bind ?_ (fun _ => ?_)
  ·
   intro y0 y1 y2 y3 y4 y5 y6 y7
   unfold dec_read.l1
   repeat' first
   | (with_reducible exact ih0 _ _ _ _ _ _ _ _)
   | (with_reducible exact ih1 _ _ _ _ _ _ _ _ _ _)
   | (with_reducible exact ih2 _ _ _ _ _ _ _ _)
   | (with_reducible exact ih3 _ _ _ _ _ _ _ _)
   | (with_reducible exact ih4 _ _ _ _ _ _ _ _)
   | (with_reducible exact ih5 _ _ _ _ _)
   | (with_reducible exact dec_kind.mono _ _)
   | (with_reducible exact LeO.refl _)
   | (with_reducible exact LeO.none _)
   | (with_reducible refine LeO.ite ?_ ?_)
   | (with_reducible refine LeO.bind ?_ (fun _ => ?_))
   | exact ih0 _ _ _ _ _ _ _ _
   | exact ih1 _ _ _ _ _ _ _ _ _ _
   | exact ih2 _ _ _ _ _ _ _ _
   | exact ih3 _ _ _ _ _ _ _ _
   | exact ih4 _ _ _ _ _ _ _ _
   | exact ih5 _ _ _ _ _
   | exact dec_kind.mono _ _
   | exact LeO.none _
   | refine LeO.ite ?_ ?_
   | refine LeO.bind ?_ (fun _ => ?_)
  ·
   intro y0 y1 y2 y3 y4
   unfold dec_read.l2
   repeat' first
   | (with_reducible exact ih0 _ _ _ _ _ _ _ _)
   | (with_reducible exact ih1 _ _ _ _ _ _ _ _ _ _)
   | (with_reducible exact ih2 _ _ _ _ _ _ _ _)
   | (with_reducible exact ih3 _ _ _ _ _ _ _ _)
   | (with_reducible exact ih4 _ _ _ _ _ _ _ _)
   | (with_reducible exact ih5 _ _ _ _ _)
   | (with_reducible exact dec_kind.mono _ _)
   | (with_reducible exact LeO.refl _)
   | (with_reducible exact LeO.none _)
   | (with_reducible refine LeO.ite ?_ ?_)
   | (with_reducible refine LeO.bind ?_ (fun _ => ?_))
   | exact ih0 _ _ _ _ _ _ _ _
   | exact ih1 _ _ _ _ _ _ _ _ _ _
   | exact ih2 _ _ _ _ _ _ _ _
   | exact ih3 _ _ _ _ _ _ _ _
   | exact ih4 _ _ _ _ _ _ _ _
   | exact ih5 _ _ _ _ _
   | exact dec_kind.mono _ _
   | exact LeO.none _
   | refine LeO.ite ?_ ?_
   | refine LeO.bind ?_ (fun _ => ?_)
theorem dec_read.mono : ∀ a0 k, LeO (dec_read.f k a0) (dec_read.f (k + 1) a0) := by
 intro a0 k
 obtain ⟨ih0, ih1, ih2, ih3, ih4, ih5⟩ := dec_read.mono_l k
 unfold dec_read.f
 repeat' first
   | (with_reducible exact ih0 _ _ _ _ _ _ _ _)
   | (with_reducible exact ih1 _ _ _ _ _ _ _ _ _ _)
   | (with_reducible exact ih2 _ _ _ _ _ _ _ _)
   | (with_reducible exact ih3 _ _ _ _ _ _ _ _)
   | (with_reducible exact ih4 _ _ _ _ _ _ _ _)
   | (with_reducible exact ih5 _ _ _ _ _)
   | (with_reducible exact dec_kind.mono _ _)
   | (with_reducible exact LeO.refl _)
   | (with_reducible exact LeO.none _)
   | (with_reducible refine LeO.ite ?_ ?_)
   | (with_reducible refine LeO.bind ?_ (fun _ => ?_))
   | exact ih0 _ _ _ _ _ _ _ _
   | exact ih1 _ _ _ _ _ _ _ _ _ _
   | exact ih2 _ _ _ _ _ _ _ _
   | exact ih3 _ _ _ _ _ _ _ _
   | exact ih4 _ _ _ _ _ _ _ _
   | exact ih5 _ _ _ _ _
   | exact dec_kind.mono _ _
   | exact LeO.none _
   | refine LeO.ite ?_ ?_
   | refine LeO.bind ?_ (fun _ => ?_)
set_option maxHeartbeats 8000000 in
set_option maxRecDepth 100000 in
theorem dec_read.calls (k : Nat) (a0 : ByteArray) (r1 : Bool) (r2 : List Int) (r3 : Int) (w : World) (h : dec_read.f k a0 = some (r1, r2, r3)) :
  Calls Tryd.prog 32 #[.string a0] w fun e w' => ∃ v1_ : Value, e = .returned (.agg #[.bool r1, v1_, .int .i64 r3]) ∧ Kd.R (Kd.int .u8) 5 w' w.heap.size (fun _ => True) v1_ r2 ∧ Below w.heap.size w w' := by
 have hu59 := Tryd.underlying59
 have HB := Aside0.mk (Below.refl w.heap.size w)
 have H : (dec_read.l0 k a0 false false 0 0 false ([] : List Int) 0) = some (r1, r2, r3) := h
 clear h
 have H' := Aside0.mk H
 clear H
 go_enter Tryd.func32, Tryd.ntmps32
 go_wp2_with (first | ((with_reducible refine gate_dst (N := 2) rfl ?_); (try (refine gate_guard (by rfl) ?_; dsimp only)); refine box_event ?hg (N := 2) ?hd (cs := #[.bool false, .slice none 0 0, .int .i64 0]) (t := 59) ?hr ?_; (case hd => rfl); (case hg => rfl); (case hr => first | (go_simp; done) | (go_simp; rfl)); intro gb101 hg w2 hbox hb; have n0_ := Aside0.mk (below_step (wq HB.out) hb); have n1_ := Aside0.mk (hbox); have n2_ := Aside0.mk ((by rw [hg]; exact (below_size (wq HB.out)) : w.heap.size ≤ gb101)); have n3_ := n2_; clear HB; have HB := n0_; have BK101 := n1_; have GW101 := n2_; have GE101 := n3_; clear n0_ n1_ n2_ n3_ hb hbox hg) | ((with_reducible refine gate_dst (N := 3) rfl ?_); (try (refine gate_guard (by rfl) ?_; dsimp only)); refine box_event ?hg (N := 3) ?hd (cs := #[.bool false, .slice none 0 0, .int .i64 0]) (t := 59) ?hr ?_; (case hd => rfl); (case hg => rfl); (case hr => first | (go_simp; done) | (go_simp; rfl)); intro gb102 hg w3 hbox hb; have n0_ := Aside0.mk (blk_below (bq BK101.out) hb); have n1_ := Aside0.mk (below_step (wq HB.out) hb); have n2_ := Aside0.mk (hbox); have n3_ := Aside0.mk ((by rw [hg]; exact (below_size (wq HB.out)) : w.heap.size ≤ gb102)); have n4_ := n3_; have n5_ := Aside0.mk ((by rw [hg]; exact Nat.ne_of_lt (blk_lt (bq BK101.out)) : gb101 ≠ gb102)); have n6_ := Aside0.mk ((by rw [hg]; exact Nat.ne_of_gt (blk_lt (bq BK101.out)) : gb102 ≠ gb101)); clear BK101 HB; have BK101 := n0_; have HB := n1_; have BK102 := n2_; have GW102 := n3_; have GE102 := n4_; have NB101_102 := n5_; have NB102_101 := n6_; clear n0_ n1_ n2_ n3_ n4_ n5_ n6_ hb hbox hg))
 go_loopg [4, 5, 6, 7] k (fun kq v4 v5 v6 v7 w' => ∃ (x4_1 : Bool) (x5_1 : Bool) (x6_1 : Int) (x7_1 : Int) (x103000_1 : Bool) (x103001_1 : List Int) (x103002_1 : Int) (u103001 : Value), v4 = .bool x4_1 ∧ v5 = .bool x5_1 ∧ v6 = .int .i64 x6_1 ∧ v7 = .int .i64 x7_1 ∧ Aside0 (dec_read.l0 kq a0 x4_1 x5_1 x6_1 x7_1 x103000_1 x103001_1 x103002_1 = some (r1, r2, r3)) ∧ Aside0 (kq ≤ k) ∧ Aside0 (Kd.R (Kd.int .u8) 5 w' w.heap.size (fun _ => True) u103001 x103001_1) ∧ Aside0 (w'.heap[gb101]? = some (.cells #[.bool false, (.slice none 0 0), .int .i64 0] 59 (0, 0))) ∧ Aside0 (w'.heap[gb102]? = some (.cells #[.bool x103000_1, u103001, .int .i64 x103002_1] 59 (0, 0))) ∧ Aside0 (Below w.heap.size w w'))
 case atStart => exact ⟨(false), (false), (0), (0), (false), (([] : List Int)), (0), (.slice none 0 0), (by first | rfl | (simp; done) | (simp [*]; done)), (by first | rfl | (simp; done) | (simp [*]; done)), (by first | rfl | (simp; done) | (simp [*]; done)), (by first | rfl | (simp; done) | (simp [*]; done)), H', ⟨Nat.le_refl _⟩, ⟨by first | exact Kd.R_nil _ _ _ _ _ | exact Kd.N_nil _ _ _ _ _ | exact Kd.V_nil _ _ _ _ _ | exact Kd.Q_nil _ _ _ _ _ | exact Kd.S_nil _ _ _ _ _⟩, ⟨by refine bq ?_; exact BK101.out⟩, ⟨by refine bq ?_; exact BK102.out⟩, ⟨by exact wq HB.out⟩⟩
 case round =>
  clear H'
  try clear p2
  try clear c3
  obtain ⟨x4_1, x5_1, x6_1, x7_1, x103000_1, x103001_1, x103002_1, u103001, rfl, rfl, rfl, rfl, HA, HK1, HO_103001, BK101, BK102, HB⟩ := hrel
  cases gk with
  | zero => exact absurd HA.out (by simp [dec_read.l0])
  | succ k1 =>
   have H := HA.out
   clear HA
   simp only [dec_read.l0] at H
   by_cases c4 : x7_1 < (a0.size : Int)
   ·
    rw [if_pos c4] at H
    have c4b0 : decide (x7_1 < (a0.size : Int)) = true := decide_eq_true c4
    clear c4
    by_cases c5 : 0 ≤ x7_1
    ·
     rw [if_pos c5] at H
     have c5b0 : decide (0 ≤ x7_1) = true := decide_eq_true c5
     clear c5
     replace H := Option.bind_eq_some_iff.mp H
     obtain ⟨t103, A70, H⟩ := H
     replace H : (if t103 = 0 then (if (bt a0 x7_1) = 48 then (dec_read.j1 k1 a0 x4_1 x5_1 x6_1 x7_1 (bt a0 x7_1) (decide (0 < x103001_1.length)) x103000_1 x103001_1 x103002_1) else (dec_read.j1 k1 a0 x4_1 x5_1 x6_1 x7_1 (bt a0 x7_1) true x103000_1 x103001_1 x103002_1)) else (if t103 = 1 then (dec_read.l0 k1 a0 true x5_1 x6_1 (wrap64 (x7_1 + 1)) x103000_1 x103001_1 x103002_1) else (if t103 = 3 then (dec_read.l0 k1 a0 x4_1 x5_1 x6_1 (wrap64 (x7_1 + 1)) ((bt a0 x7_1) == 45) x103001_1 x103002_1) else (if t103 = 2 then (if 0 ≤ (wrap64 (x7_1 + 1)) then (if (wrap64 (x7_1 + 1)) < (a0.size : Int) then ((dec_kind.f k1 (bt a0 (wrap64 (x7_1 + 1)))).bind fun t107 => (if t107 = 3 then (dec_read.j3 k1 a0 x4_1 ((bt a0 (wrap64 (x7_1 + 1))) == 45) x6_1 (wrap64 ((wrap64 (x7_1 + 1)) + 1)) x103000_1 x103001_1 x103002_1) else (dec_read.j3 k1 a0 x4_1 x5_1 x6_1 (wrap64 (x7_1 + 1)) x103000_1 x103001_1 x103002_1))) else (none)) else (none)) else (dec_read.l0 k1 a0 x4_1 x5_1 x6_1 (wrap64 (x7_1 + 1)) x103000_1 x103001_1 x103002_1))))) = some (r1, r2, r3) := H
     have A7 := Aside0.mk A70
     clear A70
     by_cases c8 : t103 = 0
     ·
      rw [if_pos c8] at H
      have c8b0 : (t103 == 0) = true := beq_iff_eq.mpr c8
      have c8b1 : (t103 != 0) = false := bne_eq_false_iff_eq.mpr c8
      clear c8
      have HC9 := Aside0.mk H
      clear H
      have p6 : 0 ≤ (x7_1 : Int) := of_decide_eq_true (by first | (with_reducible assumption) | assumption)
      have q6 : x7_1 < (a0.size : Int) := of_decide_eq_true (by first | (with_reducible assumption) | assumption)
      have hx6 := bt_at a0 x7_1
      replace p6 := eq_true p6
      replace q6 := eq_true q6
      go_upto_region 10 with (first | ((with_reducible refine gate_callee (f := 46) rfl ?_); refine goesL_ (some 19) rfl rfl Tryd.func46 (by kernel_rfl) rfl #[.int .u8 (bt a0 x7_1)] rfl (by (try simp only [List.map_toArray, List.map_cons, List.map_nil]); first | done | rfl | (simp only [List.length_drop, List.length_take]; rfl)) ?_; (with_reducible refine (dec_kind.calls k1 (bt a0 x7_1) t103 _ A7.out).mono ?_); rintro e w' ⟨rfl, ⟨nd, rfl⟩⟩; refine ⟨_, rfl, ?_⟩))
      (try simp only [apz])
      go_cut [29] (fun v29 wc => ∃ (kq : Nat) (x29_8 : Bool), v29 = .bool x29_8 ∧ Aside0 (dec_read.j1 kq a0 x4_1 x5_1 x6_1 x7_1 (bt a0 x7_1) x29_8 x103000_1 x103001_1 x103002_1 = some (r1, r2, r3)) ∧ Aside0 (kq ≤ k1) ∧ Aside0 (Kd.R (Kd.int .u8) 5 wc w.heap.size (fun _ => True) u103001 x103001_1) ∧ Aside0 (wc.heap[gb101]? = some (.cells #[.bool false, (.slice none 0 0), .int .i64 0] 59 (0, 0))) ∧ Aside0 (wc.heap[gb102]? = some (.cells #[.bool x103000_1, u103001, .int .i64 x103002_1] 59 (0, 0))) ∧ Aside0 (Below w.heap.size w wc))
      case first =>
       have H := HC9.out
       clear HC9
       by_cases c10 : (bt a0 x7_1) = 48
       ·
        rw [if_pos c10] at H
        have c10b0 : ((bt a0 x7_1) == 48) = true := beq_iff_eq.mpr c10
        have c10b1 : ((bt a0 x7_1) != 48) = false := bne_eq_false_iff_eq.mpr c10
        clear c10
        (first | rw [c10b0] | (simp only [i64_w, i32_w]; rw [c10b0]) | skip)
        have H' := Aside0.mk H
        clear H
        have hnb11 := NB102_101.out
        have hnc11 := NB101_102.out
        have hcz12_0 : wr.cell? ⟨gb102, 0, none⟩ = some (.bool x103000_1) := (blk_cell BK102.out 0).trans rfl
        have hcz12_1 : wr.cell? ⟨gb102, 1, none⟩ = some (u103001) := (blk_cell BK102.out 1).trans rfl
        have hcz12_2 : wr.cell? ⟨gb102, 2, none⟩ = some (.int .i64 x103002_1) := (blk_cell BK102.out 2).trans rfl
        have hfz12_0 := blk_frozen BK102.out 0
        have hfz12_1 := blk_frozen BK102.out 1
        have hfz12_2 := blk_frozen BK102.out 2
        obtain ⟨Ao13, co13, eo13⟩ := Kd.R_slice HO_103001.out
        subst eo13
        go_wp2
        go_meet
        case rel => exact ⟨_, (decide (0 < x103001_1.length)), (by first | rfl | (simp; done) | (simp [*]; done)), H', ⟨by have := HK1.out; first | omega | exact Nat.le_refl _⟩, ⟨by apply rq; exact HO_103001.out⟩, ⟨by refine bq ?_; exact BK101.out⟩, ⟨by refine bq ?_; exact BK102.out⟩, ⟨by exact wq HB.out⟩⟩
       ·
        rw [if_neg c10] at H
        have c10b0 : ((bt a0 x7_1) == 48) = false := beq_eq_false_iff_ne.mpr c10
        have c10b1 : ((bt a0 x7_1) != 48) = true := bne_iff_ne.mpr c10
        (first | rw [c10b0] | (simp only [i64_w, i32_w]; rw [c10b0]) | skip)
        have H' := Aside0.mk H
        clear H
        go_wp2
        go_meet
        case rel => exact ⟨_, (true), (by first | rfl | (simp; done) | (simp [*]; done)), H', ⟨by have := HK1.out; first | omega | exact Nat.le_refl _⟩, ⟨by apply rq; exact HO_103001.out⟩, ⟨by refine bq ?_; exact BK101.out⟩, ⟨by refine bq ?_; exact BK102.out⟩, ⟨by exact wq HB.out⟩⟩
      case rest =>
       clear HC9
       try clear c1
       try clear p2
       try clear c3
       try clear c4
       try clear c4b0
       try clear c5
       try clear c5b0
       try clear p6
       try clear q6
       try clear hx6
       try clear c8
       try clear c8b0
       try clear c8b1
       try clear c10
       try clear c10b0
       try clear c10b1
       try clear c11
       try clear hcz12_0
       try clear hcz12_1
       try clear hcz12_2
       try clear hfz12_0
       try clear hfz12_1
       try clear hfz12_2
       try clear p2
       try clear p6
       try clear q6
       obtain ⟨kq, x29_8, rfl, HA, HJ8, HO_103001, BK101, BK102, HB⟩ := hcut
       cases kq with
       | zero => exact absurd HA.out (by simp [dec_read.j1])
       | succ kj8 =>
        have H := HA.out
        clear HA
        simp only [dec_read.j1] at H
        have HC14 := Aside0.mk H
        clear H
        go_upto_if 29 with (fail)
        go_cut [] (fun wc => ∃ (kq : Nat) (x103001_13 : List Int) (u103001 : Value), Aside0 (dec_read.j2 kq a0 x4_1 x5_1 x6_1 x7_1 x103000_1 x103001_13 x103002_1 = some (r1, r2, r3)) ∧ Aside0 (kq ≤ kj8) ∧ Aside0 (Kd.R (Kd.int .u8) 5 wc w.heap.size (fun _ => True) u103001 x103001_13) ∧ Aside0 (wc.heap[gb101]? = some (.cells #[.bool false, (.slice none 0 0), .int .i64 0] 59 (0, 0))) ∧ Aside0 (wc.heap[gb102]? = some (.cells #[.bool x103000_1, u103001, .int .i64 x103002_1] 59 (0, 0))) ∧ Aside0 (Below w.heap.size w wc))
        case first =>
         have H := HC14.out
         clear HC14
         by_cases c15 : x29_8 = true
         ·
          subst c15
          have H1 : (if x103001_1.length < 140737488355328 then (dec_read.j2 kj8 a0 x4_1 x5_1 x6_1 x7_1 x103000_1 (x103001_1 ++ [((bt a0 x7_1) - 48) % 256]) x103002_1) else (none)) = some (r1, r2, r3) := by rw [if_pos rfl] at H; exact H
          clear H
          have H := H1
          clear H1
          by_cases c16 : x103001_1.length < 140737488355328
          ·
           rw [if_pos c16] at H
           have LMc16 := Aside0.mk c16
           clear c16
           obtain ⟨y104, hy104⟩ : ∃ y_ : List Int, y_ = (x103001_1 ++ [((bt a0 x7_1) - 48) % 256]) := ⟨_, rfl⟩
           replace H : (dec_read.j2 kj8 a0 x4_1 x5_1 x6_1 x7_1 x103000_1 y104 x103002_1) = some (r1, r2, r3) := by first | (rw [hy104]; with_reducible exact H) | (have H2_ := (Option.bind_some _ _).symm.trans H; rw [hy104]; with_reducible exact H2_) | (have H2_ := (Option.bind_some _ _).symm.trans H; with_reducible exact H2_) | with_reducible exact H | (rw [hy104]; exact H) | exact H
           have Ny104 := Aside0.mk hy104
           clear hy104
           have H' := Aside0.mk H
           clear H
           have hnb17 := NB102_101.out
           have hnc17 := NB101_102.out
           have hcz18_0 : wc.cell? ⟨gb102, 0, none⟩ = some (.bool x103000_1) := (blk_cell BK102.out 0).trans rfl
           have hcz18_1 : wc.cell? ⟨gb102, 1, none⟩ = some (u103001) := (blk_cell BK102.out 1).trans rfl
           have hcz18_2 : wc.cell? ⟨gb102, 2, none⟩ = some (.int .i64 x103002_1) := (blk_cell BK102.out 2).trans rfl
           have hfz18_0 := blk_frozen BK102.out 0
           have hfz18_1 := blk_frozen BK102.out 1
           have hfz18_2 := blk_frozen BK102.out 2
           go_wp2_with (first | ((with_reducible refine gate_builtin (b := .append) (xs := #[.tmp 31, .tmp 34]) rfl ?_); (try (refine gate_guard (by rfl) ?_; dsimp only)); at_builtin; refine Kd.R_append (Kd.int .u8) (w0 := w) w.heap.size rfl (.tmp 31) (.tmp 34) 36 5 (.int .u8 0) 1 rfl Tryd.underlying36 info5 rfl (by decide) (by omega) u103001 x103001_1 (((bt a0 x7_1) - 48) % 256) [.int .u8 (((bt a0 x7_1) - 48) % 256)] (fun _ => True) (fun _ => False) rfl rfl ?aP (fun _ hk => hk.elim) ?aF ?aO ?aB ?aS ?aL ?_; (case aP => exact rfl); (case aB => exact (wq HB.out)); (case aF => exact (fun _ _ => trivial)); (case aO => exact (rq HO_103001.out)); (case aS => exact (below_size (wq HB.out))); (case aL => have := LMc16.out; omega); intro v105 w19 ho hb hg hat; rw [← Ny104.out] at ho; have n0_ := Aside0.mk (blk_grown (g := gb101) (o := .cells #[.bool false, .slice none 0 0, .int .i64 0] 59 (0, 0)) (bq BK101.out) hg (Kd.R_ne HO_103001.out BK101.out (by decide))); have n1_ := Aside0.mk (blk_grown (g := gb102) (o := .cells #[.bool x103000_1, u103001, .int .i64 x103002_1] 59 (0, 0)) (bq BK102.out) hg (Kd.R_ne HO_103001.out BK102.out (by decide))); have n2_ := Aside0.mk (hb); have n3_ := Aside0.mk (ho); clear BK101 BK102 HB HO_103001; have BK101 := n0_; have BK102 := n1_; have HB := n2_; have HO106 := n3_; clear n0_ n1_ n2_ n3_ ho hb hg hat; obtain ⟨Ao20, co20, eo20⟩ := Kd.R_slice HO106.out; subst eo20; have hcz21_0 : w19.cell? ⟨gb102, 0, none⟩ = some (.bool x103000_1) := (blk_cell BK102.out 0).trans rfl; have hcz21_1 : w19.cell? ⟨gb102, 1, none⟩ = some (u103001) := (blk_cell BK102.out 1).trans rfl; have hcz21_2 : w19.cell? ⟨gb102, 2, none⟩ = some (.int .i64 x103002_1) := (blk_cell BK102.out 2).trans rfl; have hfz21_0 := blk_frozen BK102.out 0; have hfz21_1 := blk_frozen BK102.out 1; have hfz21_2 := blk_frozen BK102.out 2))
           go_meet
           case rel => exact ⟨_, (y104), (.slice Ao20 y104.length co20), H', ⟨by have := HK1.out; have := HJ8.out; first | omega | exact Nat.le_refl _⟩, ⟨by apply rq; exact Kd.R_mono (Kd.R_far (p := ⟨gb102, 1, none⟩) (Kd.R_types HO106.out BK102.out (by decide)) (fun _ hk => hk.2) (.slice Ao20 y104.length co20)) (fun _ hk => trivial)⟩, ⟨by refine bq ?_; refine blk_far ?_ NB101_102.out _; refine bq ?_; exact BK101.out⟩, ⟨by refine bq ?_; refine blk_put (cs := #[.bool x103000_1, u103001, .int .i64 x103002_1]) ?_ 1 _ rfl; refine bq ?_; exact BK102.out⟩, ⟨by exact wq HB.out⟩⟩
          ·
           rw [if_neg c16] at H
           exact absurd H (by simp)
         ·
          replace c15 := Bool.eq_false_iff.mpr c15
          subst c15
          have H1 : (dec_read.j2 kj8 a0 x4_1 x5_1 x6_1 x7_1 x103000_1 x103001_1 x103002_1) = some (r1, r2, r3) := by rw [if_neg (show ¬ (false = true) by decide)] at H; exact H
          clear H
          have H := H1
          clear H1
          have H' := Aside0.mk H
          clear H
          go_wp2
          go_meet
          case rel => exact ⟨_, (x103001_1), (u103001), H', ⟨by have := HK1.out; have := HJ8.out; first | omega | exact Nat.le_refl _⟩, ⟨by apply rq; exact HO_103001.out⟩, ⟨by refine bq ?_; exact BK101.out⟩, ⟨by refine bq ?_; exact BK102.out⟩, ⟨by exact wq HB.out⟩⟩
        case rest =>
         clear HC14
         try clear c1
         try clear p2
         try clear c3
         try clear c4
         try clear c4b0
         try clear c5
         try clear c5b0
         try clear p6
         try clear q6
         try clear hx6
         try clear c8
         try clear c8b0
         try clear c8b1
         try clear c10
         try clear c10b0
         try clear c10b1
         try clear c11
         try clear c15
         try clear c16
         try clear c17
         try clear hcz12_0
         try clear hcz12_1
         try clear hcz12_2
         try clear hcz18_0
         try clear hcz18_1
         try clear hcz18_2
         try clear hcz21_0
         try clear hcz21_1
         try clear hcz21_2
         try clear hfz12_0
         try clear hfz12_1
         try clear hfz12_2
         try clear hfz18_0
         try clear hfz18_1
         try clear hfz18_2
         try clear hfz21_0
         try clear hfz21_1
         try clear hfz21_2
         try clear p2
         try clear p6
         try clear q6
         obtain ⟨kq, x103001_13, u103001, HA, HJ13, HO_103001, BK101, BK102, HB⟩ := hcut
         cases kq with
         | zero => exact absurd HA.out (by simp [dec_read.j2])
         | succ kj13 =>
          have H := HA.out
          clear HA
          simp only [dec_read.j2] at H
          by_cases c22 : x4_1 = true
          ·
           subst c22
           have H1 : (if (x103001_13.length : Int) = 0 then (dec_read.l0 kj13 a0 true x5_1 x6_1 (wrap64 (x7_1 + 1)) x103000_1 x103001_13 (wrap64 (x103002_1 - 1))) else (dec_read.l0 kj13 a0 true x5_1 x6_1 (wrap64 (x7_1 + 1)) x103000_1 x103001_13 x103002_1)) = some (r1, r2, r3) := by rw [if_pos rfl] at H; exact H
           clear H
           have H := H1
           clear H1
           by_cases c23 : (x103001_13.length : Int) = 0
           ·
            rw [if_pos c23] at H
            have c23b0 : ((x103001_13.length : Int) == 0) = true := beq_iff_eq.mpr c23
            have c23b1 : ((x103001_13.length : Int) != 0) = false := bne_eq_false_iff_eq.mpr c23
            clear c23
            have H' := Aside0.mk H
            clear H
            have hnb24 := NB102_101.out
            have hnc24 := NB101_102.out
            have hcz25_0 : wc.cell? ⟨gb102, 0, none⟩ = some (.bool x103000_1) := (blk_cell BK102.out 0).trans rfl
            have hcz25_1 : wc.cell? ⟨gb102, 1, none⟩ = some (u103001) := (blk_cell BK102.out 1).trans rfl
            have hcz25_2 : wc.cell? ⟨gb102, 2, none⟩ = some (.int .i64 x103002_1) := (blk_cell BK102.out 2).trans rfl
            have hfz25_0 := blk_frozen BK102.out 0
            have hfz25_1 := blk_frozen BK102.out 1
            have hfz25_2 := blk_frozen BK102.out 2
            obtain ⟨Ao26, co26, eo26⟩ := Kd.R_slice HO_103001.out
            subst eo26
            go_wp2
            go_roundg kj13
            case measure => have := HK1.out; have := HJ8.out; have := HJ13.out; omega
            case rel => exact ⟨(true), (x5_1), (x6_1), (wrap64 (x7_1 + 1)), (x103000_1), (x103001_13), (wrap64 (x103002_1 - 1)), (.slice Ao26 x103001_13.length co26), (by first | rfl | (simp; done) | (simp [*]; done)), (by first | rfl | (simp; done) | (simp [*]; done)), (by first | rfl | (simp; done) | (simp [*]; done)), (by first | rfl | (simp; done) | (simp [*]; done)), H', ⟨by have := HK1.out; have := HJ8.out; have := HJ13.out; omega⟩, ⟨by apply rq; exact Kd.R_mono (Kd.R_far (p := ⟨gb102, 2, none⟩) (Kd.R_types HO_103001.out BK102.out (by decide)) (fun _ hk => hk.2) (.int .i64 (wrap64 (x103002_1 - 1)))) (fun _ hk => trivial)⟩, ⟨by refine bq ?_; refine blk_far ?_ NB101_102.out _; refine bq ?_; exact BK101.out⟩, ⟨by refine bq ?_; refine blk_put (cs := #[.bool x103000_1, .slice Ao26 x103001_13.length co26, .int .i64 x103002_1]) ?_ 2 _ rfl; refine bq ?_; exact BK102.out⟩, ⟨by exact wq HB.out⟩⟩
           ·
            rw [if_neg c23] at H
            have c23b0 : ((x103001_13.length : Int) == 0) = false := beq_eq_false_iff_ne.mpr c23
            have c23b1 : ((x103001_13.length : Int) != 0) = true := bne_iff_ne.mpr c23
            have c23b2 : ¬ (x103001_13 = []) := fun h_ => c23 (by rw [h_]; rfl)
            have H' := Aside0.mk H
            clear H
            have hnb27 := NB102_101.out
            have hnc27 := NB101_102.out
            have hcz28_0 : wc.cell? ⟨gb102, 0, none⟩ = some (.bool x103000_1) := (blk_cell BK102.out 0).trans rfl
            have hcz28_1 : wc.cell? ⟨gb102, 1, none⟩ = some (u103001) := (blk_cell BK102.out 1).trans rfl
            have hcz28_2 : wc.cell? ⟨gb102, 2, none⟩ = some (.int .i64 x103002_1) := (blk_cell BK102.out 2).trans rfl
            have hfz28_0 := blk_frozen BK102.out 0
            have hfz28_1 := blk_frozen BK102.out 1
            have hfz28_2 := blk_frozen BK102.out 2
            obtain ⟨Ao29, co29, eo29⟩ := Kd.R_slice HO_103001.out
            subst eo29
            go_wp2
            go_roundg kj13
            case measure => have := HK1.out; have := HJ8.out; have := HJ13.out; omega
            case rel => exact ⟨(true), (x5_1), (x6_1), (wrap64 (x7_1 + 1)), (x103000_1), (x103001_13), (x103002_1), (.slice Ao29 x103001_13.length co29), (by first | rfl | (simp; done) | (simp [*]; done)), (by first | rfl | (simp; done) | (simp [*]; done)), (by first | rfl | (simp; done) | (simp [*]; done)), (by first | rfl | (simp; done) | (simp [*]; done)), H', ⟨by have := HK1.out; have := HJ8.out; have := HJ13.out; omega⟩, ⟨by apply rq; exact HO_103001.out⟩, ⟨by refine bq ?_; exact BK101.out⟩, ⟨by refine bq ?_; exact BK102.out⟩, ⟨by exact wq HB.out⟩⟩
          ·
           replace c22 := Bool.eq_false_iff.mpr c22
           subst c22
           have H1 : (if (x103001_13.length : Int) > 0 then (dec_read.l0 kj13 a0 false x5_1 x6_1 (wrap64 (x7_1 + 1)) x103000_1 x103001_13 (wrap64 (x103002_1 + 1))) else (dec_read.l0 kj13 a0 false x5_1 x6_1 (wrap64 (x7_1 + 1)) x103000_1 x103001_13 x103002_1)) = some (r1, r2, r3) := by rw [if_neg (show ¬ (false = true) by decide)] at H; exact H
           clear H
           have H := H1
           clear H1
           by_cases c30 : (x103001_13.length : Int) > 0
           ·
            rw [if_pos c30] at H
            have c30b0 : decide (0 < (x103001_13.length : Int)) = true := decide_eq_true c30
            have c30b1 : decide (0 < x103001_13.length) = true := decide_eq_true (by omega)
            clear c30
            have H' := Aside0.mk H
            clear H
            have hnb31 := NB102_101.out
            have hnc31 := NB101_102.out
            have hcz32_0 : wc.cell? ⟨gb102, 0, none⟩ = some (.bool x103000_1) := (blk_cell BK102.out 0).trans rfl
            have hcz32_1 : wc.cell? ⟨gb102, 1, none⟩ = some (u103001) := (blk_cell BK102.out 1).trans rfl
            have hcz32_2 : wc.cell? ⟨gb102, 2, none⟩ = some (.int .i64 x103002_1) := (blk_cell BK102.out 2).trans rfl
            have hfz32_0 := blk_frozen BK102.out 0
            have hfz32_1 := blk_frozen BK102.out 1
            have hfz32_2 := blk_frozen BK102.out 2
            obtain ⟨Ao33, co33, eo33⟩ := Kd.R_slice HO_103001.out
            subst eo33
            go_wp2
            go_roundg kj13
            case measure => have := HK1.out; have := HJ8.out; have := HJ13.out; omega
            case rel => exact ⟨(false), (x5_1), (x6_1), (wrap64 (x7_1 + 1)), (x103000_1), (x103001_13), (wrap64 (x103002_1 + 1)), (.slice Ao33 x103001_13.length co33), (by first | rfl | (simp; done) | (simp [*]; done)), (by first | rfl | (simp; done) | (simp [*]; done)), (by first | rfl | (simp; done) | (simp [*]; done)), (by first | rfl | (simp; done) | (simp [*]; done)), H', ⟨by have := HK1.out; have := HJ8.out; have := HJ13.out; omega⟩, ⟨by apply rq; exact Kd.R_mono (Kd.R_far (p := ⟨gb102, 2, none⟩) (Kd.R_types HO_103001.out BK102.out (by decide)) (fun _ hk => hk.2) (.int .i64 (wrap64 (x103002_1 + 1)))) (fun _ hk => trivial)⟩, ⟨by refine bq ?_; refine blk_far ?_ NB101_102.out _; refine bq ?_; exact BK101.out⟩, ⟨by refine bq ?_; refine blk_put (cs := #[.bool x103000_1, .slice Ao33 x103001_13.length co33, .int .i64 x103002_1]) ?_ 2 _ rfl; refine bq ?_; exact BK102.out⟩, ⟨by exact wq HB.out⟩⟩
           ·
            rw [if_neg c30] at H
            have c30b0 : decide (0 < (x103001_13.length : Int)) = false := decide_eq_false c30
            have c30b1 : decide (0 < x103001_13.length) = false := decide_eq_false (by omega)
            clear c30
            have H' := Aside0.mk H
            clear H
            have hnb34 := NB102_101.out
            have hnc34 := NB101_102.out
            have hcz35_0 : wc.cell? ⟨gb102, 0, none⟩ = some (.bool x103000_1) := (blk_cell BK102.out 0).trans rfl
            have hcz35_1 : wc.cell? ⟨gb102, 1, none⟩ = some (u103001) := (blk_cell BK102.out 1).trans rfl
            have hcz35_2 : wc.cell? ⟨gb102, 2, none⟩ = some (.int .i64 x103002_1) := (blk_cell BK102.out 2).trans rfl
            have hfz35_0 := blk_frozen BK102.out 0
            have hfz35_1 := blk_frozen BK102.out 1
            have hfz35_2 := blk_frozen BK102.out 2
            obtain ⟨Ao36, co36, eo36⟩ := Kd.R_slice HO_103001.out
            subst eo36
            go_wp2
            go_roundg kj13
            case measure => have := HK1.out; have := HJ8.out; have := HJ13.out; omega
            case rel => exact ⟨(false), (x5_1), (x6_1), (wrap64 (x7_1 + 1)), (x103000_1), (x103001_13), (x103002_1), (.slice Ao36 x103001_13.length co36), (by first | rfl | (simp; done) | (simp [*]; done)), (by first | rfl | (simp; done) | (simp [*]; done)), (by first | rfl | (simp; done) | (simp [*]; done)), (by first | rfl | (simp; done) | (simp [*]; done)), H', ⟨by have := HK1.out; have := HJ8.out; have := HJ13.out; omega⟩, ⟨by apply rq; exact HO_103001.out⟩, ⟨by refine bq ?_; exact BK101.out⟩, ⟨by refine bq ?_; exact BK102.out⟩, ⟨by exact wq HB.out⟩⟩
     ·
      rw [if_neg c8] at H
      have c8b0 : (t103 == 0) = false := beq_eq_false_iff_ne.mpr c8
      have c8b1 : (t103 != 0) = true := bne_iff_ne.mpr c8
      by_cases c37 : t103 = 1
      ·
       rw [if_pos c37] at H
       have c37b0 : (t103 == 1) = true := beq_iff_eq.mpr c37
       have c37b1 : (t103 != 1) = false := bne_eq_false_iff_eq.mpr c37
       clear c37
       have H' := Aside0.mk H
       clear H
       have p6 : 0 ≤ (x7_1 : Int) := of_decide_eq_true (by first | (with_reducible assumption) | assumption)
       have q6 : x7_1 < (a0.size : Int) := of_decide_eq_true (by first | (with_reducible assumption) | assumption)
       have hx6 := bt_at a0 x7_1
       replace p6 := eq_true p6
       replace q6 := eq_true q6
       go_wp2_with (first | ((with_reducible refine gate_callee (f := 46) rfl ?_); refine goesL_ (some 19) rfl rfl Tryd.func46 (by kernel_rfl) rfl #[.int .u8 (bt a0 x7_1)] rfl (by (try simp only [List.map_toArray, List.map_cons, List.map_nil]); first | done | rfl | (simp only [List.length_drop, List.length_take]; rfl)) ?_; (with_reducible refine (dec_kind.calls k1 (bt a0 x7_1) t103 _ A7.out).mono ?_); rintro e w' ⟨rfl, ⟨nd, rfl⟩⟩; refine ⟨_, rfl, ?_⟩))
       go_roundg k1
       case measure => have := HK1.out; omega
       case rel => exact ⟨(true), (x5_1), (x6_1), (wrap64 (x7_1 + 1)), (x103000_1), (x103001_1), (x103002_1), (u103001), (by first | rfl | (simp; done) | (simp [*]; done)), (by first | rfl | (simp; done) | (simp [*]; done)), (by first | rfl | (simp; done) | (simp [*]; done)), (by first | rfl | (simp; done) | (simp [*]; done)), H', ⟨by have := HK1.out; omega⟩, ⟨by apply rq; exact HO_103001.out⟩, ⟨by refine bq ?_; exact BK101.out⟩, ⟨by refine bq ?_; exact BK102.out⟩, ⟨by exact wq HB.out⟩⟩
      ·
       rw [if_neg c37] at H
       have c37b0 : (t103 == 1) = false := beq_eq_false_iff_ne.mpr c37
       have c37b1 : (t103 != 1) = true := bne_iff_ne.mpr c37
       by_cases c38 : t103 = 3
       ·
        rw [if_pos c38] at H
        have c38b0 : (t103 == 3) = true := beq_iff_eq.mpr c38
        have c38b1 : (t103 != 3) = false := bne_eq_false_iff_eq.mpr c38
        clear c38
        have H' := Aside0.mk H
        clear H
        have p6 : 0 ≤ (x7_1 : Int) := of_decide_eq_true (by first | (with_reducible assumption) | assumption)
        have q6 : x7_1 < (a0.size : Int) := of_decide_eq_true (by first | (with_reducible assumption) | assumption)
        have hx6 := bt_at a0 x7_1
        replace p6 := eq_true p6
        replace q6 := eq_true q6
        go_wp2_with (first | ((with_reducible refine gate_callee (f := 46) rfl ?_); refine goesL_ (some 19) rfl rfl Tryd.func46 (by kernel_rfl) rfl #[.int .u8 (bt a0 x7_1)] rfl (by (try simp only [List.map_toArray, List.map_cons, List.map_nil]); first | done | rfl | (simp only [List.length_drop, List.length_take]; rfl)) ?_; (with_reducible refine (dec_kind.calls k1 (bt a0 x7_1) t103 _ A7.out).mono ?_); rintro e w' ⟨rfl, ⟨nd, rfl⟩⟩; refine ⟨_, rfl, ?_⟩; (try (rw [drewN_self wr]; generalize hq_ : World.drewN wr _ = wr; have n0_ : Aside0 (Kd.R (Kd.int .u8) 5 wr w.heap.size (fun _ => True) u103001 x103001_1) := ⟨by rw [← hq_]; exact (rq HO_103001.out)⟩; have n1_ : Aside0 (wr.heap[gb101]? = some (.cells #[.bool false, .slice none 0 0, .int .i64 0] 59 (0, 0))) := ⟨by rw [← hq_]; exact (bq BK101.out)⟩; have n2_ : Aside0 (wr.heap[gb102]? = some (.cells #[.bool x103000_1, u103001, .int .i64 x103002_1] 59 (0, 0))) := ⟨by rw [← hq_]; exact (bq BK102.out)⟩; have n3_ : Aside0 (Below w.heap.size w wr) := ⟨by rw [← hq_]; exact (wq HB.out)⟩; clear HO_103001 BK101 BK102 HB hq_; have HO_103001 := n0_; have BK101 := n1_; have BK102 := n2_; have HB := n3_; clear n0_ n1_ n2_ n3_)); have hnb39 := NB102_101.out; have hnc39 := NB101_102.out; have hcz40_0 : wr.cell? ⟨gb102, 0, none⟩ = some (.bool x103000_1) := (blk_cell BK102.out 0).trans rfl; have hcz40_1 : wr.cell? ⟨gb102, 1, none⟩ = some (u103001) := (blk_cell BK102.out 1).trans rfl; have hcz40_2 : wr.cell? ⟨gb102, 2, none⟩ = some (.int .i64 x103002_1) := (blk_cell BK102.out 2).trans rfl; have hfz40_0 := blk_frozen BK102.out 0; have hfz40_1 := blk_frozen BK102.out 1; have hfz40_2 := blk_frozen BK102.out 2))
        go_roundg k1
        case measure => have := HK1.out; omega
        case rel => exact ⟨(x4_1), (x5_1), (x6_1), (wrap64 (x7_1 + 1)), (((bt a0 x7_1) == 45)), (x103001_1), (x103002_1), (u103001), (by first | rfl | (simp; done) | (simp [*]; done)), (by first | rfl | (simp; done) | (simp [*]; done)), (by first | rfl | (simp; done) | (simp [*]; done)), (by first | rfl | (simp; done) | (simp [*]; done)), H', ⟨by have := HK1.out; omega⟩, ⟨by apply rq; exact Kd.R_mono (Kd.R_far (p := ⟨gb102, 0, none⟩) (Kd.R_types HO_103001.out BK102.out (by decide)) (fun _ hk => hk.2) (.bool ((bt a0 x7_1) == 45))) (fun _ hk => trivial)⟩, ⟨by refine bq ?_; refine blk_far ?_ NB101_102.out _; refine bq ?_; exact BK101.out⟩, ⟨by refine bq ?_; refine blk_put (cs := #[.bool x103000_1, u103001, .int .i64 x103002_1]) ?_ 0 _ rfl; refine bq ?_; exact BK102.out⟩, ⟨by exact wq HB.out⟩⟩
       ·
        rw [if_neg c38] at H
        have c38b0 : (t103 == 3) = false := beq_eq_false_iff_ne.mpr c38
        have c38b1 : (t103 != 3) = true := bne_iff_ne.mpr c38
        by_cases c41 : t103 = 2
        ·
         rw [if_pos c41] at H
         have c41b0 : (t103 == 2) = true := beq_iff_eq.mpr c41
         have c41b1 : (t103 != 2) = false := bne_eq_false_iff_eq.mpr c41
         clear c41
         obtain ⟨ji42, hji42⟩ : ∃ j_ : Int, (wrap64 (x7_1 + 1)) = j_ := ⟨_, rfl⟩
         replace H : (if 0 ≤ (ji42) then (if (ji42) < (a0.size : Int) then ((dec_kind.f k1 (bt a0 (ji42))).bind fun t107 => (if t107 = 3 then (dec_read.j3 k1 a0 x4_1 ((bt a0 (ji42)) == 45) x6_1 (wrap64 ((ji42) + 1)) x103000_1 x103001_1 x103002_1) else (dec_read.j3 k1 a0 x4_1 x5_1 x6_1 ji42 x103000_1 x103001_1 x103002_1))) else (none)) else (none)) = some (r1, r2, r3) := by first | (rw [hji42] at H; exact H) | (simp only [hji42] at H ⊢; exact H)
         (try rw [hji42] at A7)
         have hji42w : (IntKind.i64.wrap (x7_1 + 1)) = ji42 := (i64_w _).trans hji42
         by_cases c43 : 0 ≤ (ji42)
         ·
          rw [if_pos c43] at H
          have c43b0 : decide (0 ≤ (ji42)) = true := decide_eq_true c43
          clear c43
          by_cases c44 : (ji42) < (a0.size : Int)
          ·
           rw [if_pos c44] at H
           have c44b0 : decide ((ji42) < (a0.size : Int)) = true := decide_eq_true c44
           clear c44
           replace H := Option.bind_eq_some_iff.mp H
           obtain ⟨t107, A460, H⟩ := H
           replace H : (if t107 = 3 then (dec_read.j3 k1 a0 x4_1 ((bt a0 (ji42)) == 45) x6_1 (wrap64 ((ji42) + 1)) x103000_1 x103001_1 x103002_1) else (dec_read.j3 k1 a0 x4_1 x5_1 x6_1 ji42 x103000_1 x103001_1 x103002_1)) = some (r1, r2, r3) := H
           have A46 := Aside0.mk A460
           clear A460
           have HC47 := Aside0.mk H
           clear H
           have p6 : 0 ≤ (x7_1 : Int) := of_decide_eq_true (by first | (with_reducible assumption) | assumption)
           have q6 : x7_1 < (a0.size : Int) := of_decide_eq_true (by first | (with_reducible assumption) | assumption)
           have hx6 := bt_at a0 x7_1
           replace p6 := eq_true p6
           replace q6 := eq_true q6
           go_upto_if 70 with (first | ((with_reducible refine gate_callee (f := 46) rfl ?_); refine goesL_ (some 19) rfl rfl Tryd.func46 (by kernel_rfl) rfl #[.int .u8 (bt a0 x7_1)] rfl (by (try simp only [List.map_toArray, List.map_cons, List.map_nil]); first | done | rfl | (simp only [List.length_drop, List.length_take]; rfl)) ?_; (with_reducible refine (dec_kind.calls k1 (bt a0 x7_1) t103 _ A7.out).mono ?_); rintro e w' ⟨rfl, ⟨nd, rfl⟩⟩; refine ⟨_, rfl, ?_⟩; have p45 : 0 ≤ ((ji42) : Int) := of_decide_eq_true (by first | (with_reducible assumption) | assumption); have q45 : (ji42) < (a0.size : Int) := of_decide_eq_true (by first | (with_reducible assumption) | assumption); have hx45 := bt_at a0 (ji42); replace p45 := eq_true p45; replace q45 := eq_true q45) | ((with_reducible refine gate_callee (f := 46) rfl ?_); refine goesL_ (some 69) rfl rfl Tryd.func46 (by kernel_rfl) rfl #[.int .u8 (bt a0 (ji42))] rfl (by (try simp only [List.map_toArray, List.map_cons, List.map_nil]); first | done | (simp only [hji42]; rfl) | rfl | (simp only [List.length_drop, List.length_take]; rfl)) ?_; (with_reducible refine (dec_kind.calls k1 (bt a0 (ji42)) t107 _ A46.out).mono ?_); rintro e w' ⟨rfl, ⟨nd, rfl⟩⟩; refine ⟨_, rfl, ?_⟩))
           (try simp only [apz])
           go_cut [5, 7] (fun v5 v7 wc => ∃ (kq : Nat) (x5_46 : Bool) (x7_46 : Int), v5 = .bool x5_46 ∧ v7 = .int .i64 x7_46 ∧ Aside0 (dec_read.j3 kq a0 x4_1 x5_46 x6_1 x7_46 x103000_1 x103001_1 x103002_1 = some (r1, r2, r3)) ∧ Aside0 (kq ≤ k1) ∧ Aside0 (Kd.R (Kd.int .u8) 5 wc w.heap.size (fun _ => True) u103001 x103001_1) ∧ Aside0 (wc.heap[gb101]? = some (.cells #[.bool false, (.slice none 0 0), .int .i64 0] 59 (0, 0))) ∧ Aside0 (wc.heap[gb102]? = some (.cells #[.bool x103000_1, u103001, .int .i64 x103002_1] 59 (0, 0))) ∧ Aside0 (Below w.heap.size w wc))
           case first =>
            have H := HC47.out
            clear HC47
            by_cases c48 : t107 = 3
            ·
             rw [if_pos c48] at H
             have c48b0 : (t107 == 3) = true := beq_iff_eq.mpr c48
             have c48b1 : (t107 != 3) = false := bne_eq_false_iff_eq.mpr c48
             clear c48
             (first | rw [c48b0] | (simp only [i64_w, i32_w]; rw [c48b0]) | skip)
             have H' := Aside0.mk H
             clear H
             have p49 : 0 ≤ ((ji42) : Int) := of_decide_eq_true (by first | (with_reducible assumption) | assumption)
             have q49 : (ji42) < (a0.size : Int) := of_decide_eq_true (by first | (with_reducible assumption) | assumption)
             have hx49 := bt_at a0 (ji42)
             replace p49 := eq_true p49
             replace q49 := eq_true q49
             go_wp2
             go_meet
             case rel => exact ⟨_, (((bt a0 (ji42)) == 45)), (wrap64 ((ji42) + 1)), (by first | rfl | (simp; done) | (simp only [← hji42] <;> (first | rfl | simp)) | (simp [*]; done)), (by first | rfl | (simp; done) | (simp only [← hji42] <;> (first | rfl | simp)) | (simp [*]; done)), H', ⟨by have := HK1.out; first | omega | exact Nat.le_refl _⟩, ⟨by apply rq; exact HO_103001.out⟩, ⟨by refine bq ?_; exact BK101.out⟩, ⟨by refine bq ?_; exact BK102.out⟩, ⟨by exact wq HB.out⟩⟩
            ·
             rw [if_neg c48] at H
             have c48b0 : (t107 == 3) = false := beq_eq_false_iff_ne.mpr c48
             have c48b1 : (t107 != 3) = true := bne_iff_ne.mpr c48
             (first | rw [c48b0] | (simp only [i64_w, i32_w]; rw [c48b0]) | skip)
             have H' := Aside0.mk H
             clear H
             go_wp2
             go_meet
             case rel => exact ⟨_, (x5_1), (ji42), (by first | rfl | (simp; done) | (simp [*]; done)), (by first | rfl | (simp; done) | (simp only [← hji42] <;> (first | rfl | simp)) | (simp [*]; done)), H', ⟨by have := HK1.out; first | omega | exact Nat.le_refl _⟩, ⟨by apply rq; exact HO_103001.out⟩, ⟨by refine bq ?_; exact BK101.out⟩, ⟨by refine bq ?_; exact BK102.out⟩, ⟨by exact wq HB.out⟩⟩
           case rest =>
            clear HC47
            try clear c1
            try clear c2
            try clear p2
            try clear c3
            try clear c4
            try clear c4b0
            try clear p4
            try clear q4
            try clear hx4
            try clear c5
            try clear c5b0
            try clear p6
            try clear q6
            try clear hx6
            try clear c8
            try clear c8b0
            try clear c8b1
            try clear c10
            try clear c10b0
            try clear c10b1
            try clear c11
            try clear c15
            try clear c16
            try clear c17
            try clear c22
            try clear c23
            try clear c23b0
            try clear c23b1
            try clear c23b2
            try clear c24
            try clear c27
            try clear c30
            try clear c30b0
            try clear c30b1
            try clear c31
            try clear c32
            try clear c34
            try clear c37
            try clear c37b0
            try clear c37b1
            try clear c38
            try clear c38b0
            try clear c38b1
            try clear c39
            try clear c41
            try clear c41b0
            try clear c41b1
            try clear c43
            try clear c43b0
            try clear c44
            try clear c44b0
            try clear p45
            try clear q45
            try clear hx45
            try clear c46
            try clear c48
            try clear c48b0
            try clear c48b1
            try clear p49
            try clear q49
            try clear hx49
            try clear hcz12_0
            try clear hcz12_1
            try clear hcz12_2
            try clear hcz18_0
            try clear hcz18_1
            try clear hcz18_2
            try clear hcz21_0
            try clear hcz21_1
            try clear hcz21_2
            try clear hcz25_0
            try clear hcz25_1
            try clear hcz25_2
            try clear hcz28_0
            try clear hcz28_1
            try clear hcz28_2
            try clear hcz32_0
            try clear hcz32_1
            try clear hcz32_2
            try clear hcz35_0
            try clear hcz35_1
            try clear hcz35_2
            try clear hcz40_0
            try clear hcz40_1
            try clear hcz40_2
            try clear hfz12_0
            try clear hfz12_1
            try clear hfz12_2
            try clear hfz18_0
            try clear hfz18_1
            try clear hfz18_2
            try clear hfz21_0
            try clear hfz21_1
            try clear hfz21_2
            try clear hfz25_0
            try clear hfz25_1
            try clear hfz25_2
            try clear hfz28_0
            try clear hfz28_1
            try clear hfz28_2
            try clear hfz32_0
            try clear hfz32_1
            try clear hfz32_2
            try clear hfz35_0
            try clear hfz35_1
            try clear hfz35_2
            try clear hfz40_0
            try clear hfz40_1
            try clear hfz40_2
            try clear p2
            try clear p45
            try clear p49
            try clear p6
            try clear q45
            try clear q49
            try clear q6
            obtain ⟨kq, x5_46, x7_46, rfl, rfl, HA, HJ46, HO_103001, BK101, BK102, HB⟩ := hcut
            cases kq with
            | zero => exact absurd HA.out (by simp [dec_read.j3])
            | succ kj46 =>
             have H := HA.out
             clear HA
             simp only [dec_read.j3] at H
             have H' := Aside0.mk H
             clear H
             go_wp2
             go_loopg [6, 7] kj46 (fun kq v6 v7 w' => ∃ (x6_3 : Int) (x7_3 : Int), v6 = .int .i64 x6_3 ∧ v7 = .int .i64 x7_3 ∧ Aside0 (dec_read.l1 kq a0 x4_1 x5_46 x6_3 x7_3 x103000_1 x103001_1 x103002_1 = some (r1, r2, r3)) ∧ Aside0 (kq ≤ kj46) ∧ Aside0 (Kd.R (Kd.int .u8) 5 w' w.heap.size (fun _ => True) u103001 x103001_1) ∧ Aside0 (w'.heap[gb101]? = some (.cells #[.bool false, (.slice none 0 0), .int .i64 0] 59 (0, 0))) ∧ Aside0 (w'.heap[gb102]? = some (.cells #[.bool x103000_1, u103001, .int .i64 x103002_1] 59 (0, 0))) ∧ Aside0 (Below w.heap.size w w'))
             case atStart => exact ⟨(x6_1), (x7_46), (by first | rfl | (simp; done) | (simp [*]; done)), (by first | rfl | (simp; done) | (simp [*]; done)), H', ⟨Nat.le_refl _⟩, ⟨by apply rq; exact HO_103001.out⟩, ⟨by refine bq ?_; exact BK101.out⟩, ⟨by refine bq ?_; exact BK102.out⟩, ⟨by exact wq HB.out⟩⟩
             case round =>
              clear H'
              try clear c1
              try clear c2
              try clear p2
              try clear c3
              try clear c4
              try clear c4b0
              try clear p4
              try clear q4
              try clear hx4
              try clear c5
              try clear c5b0
              try clear p6
              try clear q6
              try clear hx6
              try clear c8
              try clear c8b0
              try clear c8b1
              try clear c10
              try clear c10b0
              try clear c10b1
              try clear c11
              try clear c15
              try clear c16
              try clear c17
              try clear c22
              try clear c23
              try clear c23b0
              try clear c23b1
              try clear c23b2
              try clear c24
              try clear c27
              try clear c30
              try clear c30b0
              try clear c30b1
              try clear c31
              try clear c32
              try clear c34
              try clear c37
              try clear c37b0
              try clear c37b1
              try clear c38
              try clear c38b0
              try clear c38b1
              try clear c39
              try clear c41
              try clear c41b0
              try clear c41b1
              try clear c43
              try clear c43b0
              try clear c44
              try clear c44b0
              try clear p45
              try clear q45
              try clear hx45
              try clear c46
              try clear c48
              try clear c48b0
              try clear c48b1
              try clear p49
              try clear q49
              try clear hx49
              try clear hcz12_0
              try clear hcz12_1
              try clear hcz12_2
              try clear hcz18_0
              try clear hcz18_1
              try clear hcz18_2
              try clear hcz21_0
              try clear hcz21_1
              try clear hcz21_2
              try clear hcz25_0
              try clear hcz25_1
              try clear hcz25_2
              try clear hcz28_0
              try clear hcz28_1
              try clear hcz28_2
              try clear hcz32_0
              try clear hcz32_1
              try clear hcz32_2
              try clear hcz35_0
              try clear hcz35_1
              try clear hcz35_2
              try clear hcz40_0
              try clear hcz40_1
              try clear hcz40_2
              try clear hfz12_0
              try clear hfz12_1
              try clear hfz12_2
              try clear hfz18_0
              try clear hfz18_1
              try clear hfz18_2
              try clear hfz21_0
              try clear hfz21_1
              try clear hfz21_2
              try clear hfz25_0
              try clear hfz25_1
              try clear hfz25_2
              try clear hfz28_0
              try clear hfz28_1
              try clear hfz28_2
              try clear hfz32_0
              try clear hfz32_1
              try clear hfz32_2
              try clear hfz35_0
              try clear hfz35_1
              try clear hfz35_2
              try clear hfz40_0
              try clear hfz40_1
              try clear hfz40_2
              try clear p2
              try clear p4
              try clear p45
              try clear p49
              try clear p6
              try clear q4
              try clear q45
              try clear q49
              try clear q6
              obtain ⟨x6_3, x7_3, rfl, rfl, HA, HK3, HO_103001, BK101, BK102, HB⟩ := hrel
              cases gk with
              | zero => exact absurd HA.out (by simp [dec_read.l1])
              | succ k3 =>
               have H := HA.out
               clear HA
               simp only [dec_read.l1] at H
               by_cases c50 : x7_3 < (a0.size : Int)
               ·
                rw [if_pos c50] at H
                have c50b0 : decide (x7_3 < (a0.size : Int)) = true := decide_eq_true c50
                clear c50
                by_cases c51 : 0 ≤ x7_3
                ·
                 rw [if_pos c51] at H
                 have c51b0 : decide (0 ≤ x7_3) = true := decide_eq_true c51
                 clear c51
                 obtain ⟨ji53, hji53⟩ : ∃ j_ : Int, (mn (wrap64 ((wrap64 (10 * x6_3)) + (((bt a0 x7_3) - 48) % 256))) 1099511627776) = j_ := ⟨_, rfl⟩
                 replace H : (dec_read.l1 k3 a0 x4_1 x5_46 ji53 (wrap64 (x7_3 + 1)) x103000_1 x103001_1 x103002_1) = some (r1, r2, r3) := by first | (rw [hji53] at H; exact H) | (simp only [hji53] at H ⊢; exact H)
                 have hji53_ : (if 1099511627776 < (wrap64 ((wrap64 (10 * x6_3)) + (((bt a0 x7_3) - 48) % 256))) then 1099511627776 else (wrap64 ((wrap64 (10 * x6_3)) + (((bt a0 x7_3) - 48) % 256)))) = ji53 := hji53
                 have H' := Aside0.mk H
                 clear H
                 have p52 : 0 ≤ (x7_3 : Int) := of_decide_eq_true (by first | (with_reducible assumption) | assumption)
                 have q52 : x7_3 < (a0.size : Int) := of_decide_eq_true (by first | (with_reducible assumption) | assumption)
                 have hx52 := bt_at a0 x7_3
                 replace p52 := eq_true p52
                 replace q52 := eq_true q52
                 go_wp2
                 go_roundg k3
                 case measure => have := HK1.out; have := HJ46.out; have := HK3.out; omega
                 case rel => exact ⟨(ji53), (wrap64 (x7_3 + 1)), (by first | rfl | (simp; done) | (simp only [← hji53] <;> (first | rfl | simp)) | (simp [*]; done)), (by first | rfl | (simp; done) | (simp [*]; done)), H', ⟨by have := HK1.out; have := HJ46.out; have := HK3.out; omega⟩, ⟨by apply rq; exact HO_103001.out⟩, ⟨by refine bq ?_; exact BK101.out⟩, ⟨by refine bq ?_; exact BK102.out⟩, ⟨by exact wq HB.out⟩⟩
                ·
                 rw [if_neg c51] at H
                 exact absurd H (by simp)
               ·
                rw [if_neg c50] at H
                have c50b0 : decide (x7_3 < (a0.size : Int)) = false := decide_eq_false c50
                clear c50
                have H' := Aside0.mk H
                clear H
                go_wp2
                go_roundg k3
                case measure => have := HK1.out; have := HJ46.out; have := HK3.out; omega
                case rel => exact ⟨(x4_1), (x5_46), (x6_3), (wrap64 (x7_3 + 1)), (x103000_1), (x103001_1), (x103002_1), (u103001), (by first | rfl | (simp; done) | (simp [*]; done)), (by first | rfl | (simp; done) | (simp [*]; done)), (by first | rfl | (simp; done) | (simp [*]; done)), (by first | rfl | (simp; done) | (simp [*]; done)), H', ⟨by have := HK1.out; have := HJ46.out; have := HK3.out; omega⟩, ⟨by apply rq; exact HO_103001.out⟩, ⟨by refine bq ?_; exact BK101.out⟩, ⟨by refine bq ?_; exact BK102.out⟩, ⟨by exact wq HB.out⟩⟩
          ·
           rw [if_neg c44] at H
           exact absurd H (by simp)
         ·
          rw [if_neg c43] at H
          exact absurd H (by simp)
        ·
         rw [if_neg c41] at H
         have c41b0 : (t103 == 2) = false := beq_eq_false_iff_ne.mpr c41
         have c41b1 : (t103 != 2) = true := bne_iff_ne.mpr c41
         have H' := Aside0.mk H
         clear H
         have p6 : 0 ≤ (x7_1 : Int) := of_decide_eq_true (by first | (with_reducible assumption) | assumption)
         have q6 : x7_1 < (a0.size : Int) := of_decide_eq_true (by first | (with_reducible assumption) | assumption)
         have hx6 := bt_at a0 x7_1
         replace p6 := eq_true p6
         replace q6 := eq_true q6
         go_wp2_with (first | ((with_reducible refine gate_callee (f := 46) rfl ?_); refine goesL_ (some 19) rfl rfl Tryd.func46 (by kernel_rfl) rfl #[.int .u8 (bt a0 x7_1)] rfl (by (try simp only [List.map_toArray, List.map_cons, List.map_nil]); first | done | rfl | (simp only [List.length_drop, List.length_take]; rfl)) ?_; (with_reducible refine (dec_kind.calls k1 (bt a0 x7_1) t103 _ A7.out).mono ?_); rintro e w' ⟨rfl, ⟨nd, rfl⟩⟩; refine ⟨_, rfl, ?_⟩))
         go_roundg k1
         case measure => have := HK1.out; omega
         case rel => exact ⟨(x4_1), (x5_1), (x6_1), (wrap64 (x7_1 + 1)), (x103000_1), (x103001_1), (x103002_1), (u103001), (by first | rfl | (simp; done) | (simp [*]; done)), (by first | rfl | (simp; done) | (simp [*]; done)), (by first | rfl | (simp; done) | (simp [*]; done)), (by first | rfl | (simp; done) | (simp [*]; done)), H', ⟨by have := HK1.out; omega⟩, ⟨by apply rq; exact HO_103001.out⟩, ⟨by refine bq ?_; exact BK101.out⟩, ⟨by refine bq ?_; exact BK102.out⟩, ⟨by exact wq HB.out⟩⟩
    ·
     rw [if_neg c5] at H
     exact absurd H (by simp)
   ·
    rw [if_neg c4] at H
    have c4b0 : decide (x7_1 < (a0.size : Int)) = false := decide_eq_false c4
    clear c4
    have H' := Aside0.mk H
    clear H
    go_wp2
    go_loopg [] k1 (fun kq w' => ∃ (x103001_2 : List Int) (u103001 : Value), Aside0 (dec_read.l2 kq x5_1 x6_1 x103000_1 x103001_2 x103002_1 = some (r1, r2, r3)) ∧ Aside0 (kq ≤ k1) ∧ Aside0 (Kd.R (Kd.int .u8) 5 w' w.heap.size (fun _ => True) u103001 x103001_2) ∧ Aside0 (w'.heap[gb101]? = some (.cells #[.bool false, (.slice none 0 0), .int .i64 0] 59 (0, 0))) ∧ Aside0 (w'.heap[gb102]? = some (.cells #[.bool x103000_1, u103001, .int .i64 x103002_1] 59 (0, 0))) ∧ Aside0 (Below w.heap.size w w'))
    case atStart => exact ⟨(x103001_1), (u103001), H', ⟨Nat.le_refl _⟩, ⟨by apply rq; exact HO_103001.out⟩, ⟨by refine bq ?_; exact BK101.out⟩, ⟨by refine bq ?_; exact BK102.out⟩, ⟨by exact wq HB.out⟩⟩
    case round =>
     clear H'
     try clear c1
     try clear c2
     try clear p2
     try clear c3
     try clear c4
     try clear c4b0
     try clear p4
     try clear q4
     try clear hx4
     try clear c5
     try clear c5b0
     try clear p5
     try clear q5
     try clear hx5
     try clear p6
     try clear q6
     try clear hx6
     try clear c8
     try clear c8b0
     try clear c8b1
     try clear c10
     try clear c10b0
     try clear c10b1
     try clear c11
     try clear c15
     try clear c16
     try clear c17
     try clear c22
     try clear c23
     try clear c23b0
     try clear c23b1
     try clear c23b2
     try clear c24
     try clear c27
     try clear c30
     try clear c30b0
     try clear c30b1
     try clear c31
     try clear c32
     try clear c34
     try clear c37
     try clear c37b0
     try clear c37b1
     try clear c38
     try clear c38b0
     try clear c38b1
     try clear c39
     try clear c41
     try clear c41b0
     try clear c41b1
     try clear c43
     try clear c43b0
     try clear c44
     try clear c44b0
     try clear p45
     try clear q45
     try clear hx45
     try clear c46
     try clear c48
     try clear c48b0
     try clear c48b1
     try clear p49
     try clear q49
     try clear hx49
     try clear c50
     try clear c50b0
     try clear c51
     try clear c51b0
     try clear p52
     try clear q52
     try clear hx52
     try clear hcz12_0
     try clear hcz12_1
     try clear hcz12_2
     try clear hcz18_0
     try clear hcz18_1
     try clear hcz18_2
     try clear hcz21_0
     try clear hcz21_1
     try clear hcz21_2
     try clear hcz25_0
     try clear hcz25_1
     try clear hcz25_2
     try clear hcz28_0
     try clear hcz28_1
     try clear hcz28_2
     try clear hcz32_0
     try clear hcz32_1
     try clear hcz32_2
     try clear hcz35_0
     try clear hcz35_1
     try clear hcz35_2
     try clear hcz40_0
     try clear hcz40_1
     try clear hcz40_2
     try clear hfz12_0
     try clear hfz12_1
     try clear hfz12_2
     try clear hfz18_0
     try clear hfz18_1
     try clear hfz18_2
     try clear hfz21_0
     try clear hfz21_1
     try clear hfz21_2
     try clear hfz25_0
     try clear hfz25_1
     try clear hfz25_2
     try clear hfz28_0
     try clear hfz28_1
     try clear hfz28_2
     try clear hfz32_0
     try clear hfz32_1
     try clear hfz32_2
     try clear hfz35_0
     try clear hfz35_1
     try clear hfz35_2
     try clear hfz40_0
     try clear hfz40_1
     try clear hfz40_2
     try clear p2
     try clear p4
     try clear p45
     try clear p49
     try clear p52
     try clear p6
     try clear q4
     try clear q45
     try clear q49
     try clear q52
     try clear q6
     obtain ⟨x103001_2, u103001, HA, HK2, HO_103001, BK101, BK102, HB⟩ := hrel
     cases gk with
     | zero => exact absurd HA.out (by simp [dec_read.l2])
     | succ k2 =>
      have H := HA.out
      clear HA
      simp only [dec_read.l2] at H
      by_cases c54 : (x103001_2.length : Int) > 0
      ·
       rw [if_pos c54] at H
       have c54b0 : decide (0 < (x103001_2.length : Int)) = true := decide_eq_true c54
       have c54b1 : decide (0 < x103001_2.length) = true := decide_eq_true (by omega)
       clear c54
       obtain ⟨ji55, hji55⟩ : ∃ j_ : Int, (wrap64 ((x103001_2.length : Int) - 1)) = j_ := ⟨_, rfl⟩
       replace H : (if 0 ≤ (ji55) then (if (ji55) < (x103001_2.length : Int) then (if (rd x103001_2 (ji55)) = 0 then (if (ji55) ≤ (x103001_2.length : Int) then (dec_read.l2 k2 x5_1 x6_1 x103000_1 (x103001_2.take ((ji55) : Int).toNat) x103002_1) else (none)) else (if x5_1 = true then (some (x103000_1, x103001_2, wrap64 (x103002_1 + (wrap64 (-x6_1))))) else (some (x103000_1, x103001_2, wrap64 (x103002_1 + x6_1))))) else (none)) else (none)) = some (r1, r2, r3) := by first | (rw [hji55] at H; exact H) | (simp only [hji55] at H ⊢; exact H)
       have hji55w : (IntKind.i64.wrap ((x103001_2.length : Int) - 1)) = ji55 := (i64_w _).trans hji55
       by_cases c56 : 0 ≤ (ji55)
       ·
        rw [if_pos c56] at H
        have c56b0 : decide (0 ≤ (ji55)) = true := decide_eq_true c56
        clear c56
        by_cases c57 : (ji55) < (x103001_2.length : Int)
        ·
         rw [if_pos c57] at H
         have c57b0 : decide ((ji55) < (x103001_2.length : Int)) = true := decide_eq_true c57
         clear c57
         by_cases c58 : (rd x103001_2 (ji55)) = 0
         ·
          rw [if_pos c58] at H
          have c58b0 : ((rd x103001_2 (ji55)) == 0) = true := beq_iff_eq.mpr c58
          have c58b1 : ((rd x103001_2 (ji55)) != 0) = false := bne_eq_false_iff_eq.mpr c58
          clear c58
          by_cases c59 : (ji55) ≤ (x103001_2.length : Int)
          ·
           rw [if_pos c59] at H
           have c59b0 := eq_true c59
           have c59b1 : decide ((ji55) ≤ (x103001_2.length : Int)) = true := decide_eq_true c59
           clear c59
           obtain ⟨y109, hy109⟩ : ∃ y_ : List Int, y_ = (x103001_2.take ((ji55) : Int).toNat) := ⟨_, rfl⟩
           replace H : (dec_read.l2 k2 x5_1 x6_1 x103000_1 y109 x103002_1) = some (r1, r2, r3) := by first | (rw [hy109]; with_reducible exact H) | (have H2_ := (Option.bind_some _ _).symm.trans H; rw [hy109]; with_reducible exact H2_) | (have H2_ := (Option.bind_some _ _).symm.trans H; with_reducible exact H2_) | with_reducible exact H | (rw [hy109]; exact H) | exact H
           have Ny109 := Aside0.mk hy109
           clear hy109
           have H' := Aside0.mk H
           clear H
           have hnb60 := NB102_101.out
           have hnc60 := NB101_102.out
           have hcz61_0 : wr.cell? ⟨gb102, 0, none⟩ = some (.bool x103000_1) := (blk_cell BK102.out 0).trans rfl
           have hcz61_1 : wr.cell? ⟨gb102, 1, none⟩ = some (u103001) := (blk_cell BK102.out 1).trans rfl
           have hcz61_2 : wr.cell? ⟨gb102, 2, none⟩ = some (.int .i64 x103002_1) := (blk_cell BK102.out 2).trans rfl
           have hfz61_0 := blk_frozen BK102.out 0
           have hfz61_1 := blk_frozen BK102.out 1
           have hfz61_2 := blk_frozen BK102.out 2
           obtain ⟨Ao62, co62, eo62⟩ := Kd.R_slice HO_103001.out
           subst eo62
           have p108 : 0 ≤ ((ji55) : Int) := of_decide_eq_true (by first | (with_reducible assumption) | assumption)
           have q108 : (ji55) < (x103001_2.length : Int) := of_decide_eq_true (by first | (with_reducible assumption) | assumption)
           obtain ⟨ad108, e108, hx108_0⟩ := Kd.at_int (Kd.R_reads' HO_103001.out).2.2 (ji55) p108 q108
           cases e108
           replace p108 := eq_true p108
           replace q108 := eq_true q108
           have q63 : ((ji55) : Int) ≤ ((x103001_2.length : Int) : Int) := of_decide_eq_true (by first | (with_reducible assumption) | assumption)
           obtain ⟨i063, hi063, _, hsz63, _⟩ := info_parts info5
           have hcut63 := cut_to (P := Tryd.prog) 36 5 .i64 Tryd.underlying36 hi063 (some ad108) x103001_2.length co62 (ji55) (of_decide_eq_true (by first | (with_reducible assumption) | assumption)) q63 (Kd.R_reads' HO_103001.out).2.1
           have hr63 := Kd.R_take (m := ((ji55) : Int).toNat) HO_103001.out (by omega)
           have hy63 : y109.length = ((ji55) : Int).toNat := (by rw [Ny109.out, List.length_take]; omega)
           rw [← Ny109.out] at hr63
           rw [← hy63] at hr63 hcut63
           clear hy63 hi063 hsz63 HO_103001
           have HO111 := Aside0.mk hr63
           clear hr63
           replace q63 := eq_true q63
           go_wp2
           go_roundg k2
           case measure => have := HK1.out; have := HK2.out; omega
           case rel => exact ⟨(y109), (.slice (some ad108) y109.length co62), H', ⟨by have := HK1.out; have := HK2.out; omega⟩, ⟨by apply rq; exact Kd.R_mono (Kd.R_far (p := ⟨gb102, 1, none⟩) (Kd.R_types HO111.out BK102.out (by decide)) (fun _ hk => hk.2) (.slice (some ad108) y109.length co62)) (fun _ hk => trivial)⟩, ⟨by refine bq ?_; refine blk_far ?_ NB101_102.out _; refine bq ?_; exact BK101.out⟩, ⟨by refine bq ?_; refine blk_put (cs := #[.bool x103000_1, .slice (some ad108) x103001_2.length co62, .int .i64 x103002_1]) ?_ 1 _ rfl; refine bq ?_; exact BK102.out⟩, ⟨by exact wq HB.out⟩⟩
          ·
           rw [if_neg c59] at H
           exact absurd H (by simp)
         ·
          rw [if_neg c58] at H
          have c58b0 : ((rd x103001_2 (ji55)) == 0) = false := beq_eq_false_iff_ne.mpr c58
          have c58b1 : ((rd x103001_2 (ji55)) != 0) = true := bne_iff_ne.mpr c58
          by_cases c64 : x5_1 = true
          ·
           subst c64
           have H1 : (some (x103000_1, x103001_2, wrap64 (x103002_1 + (wrap64 (-x6_1))))) = some (r1, r2, r3) := by rw [if_pos rfl] at H; exact H
           clear H
           have H := H1
           clear H1
           simp only [Option.some.injEq, Prod.mk.injEq] at H
           obtain ⟨rfl, rfl, rfl⟩ := H
           have hnb65 := NB102_101.out
           have hnc65 := NB101_102.out
           have hcz66_0 : wr.cell? ⟨gb102, 0, none⟩ = some (.bool x103000_1) := (blk_cell BK102.out 0).trans rfl
           have hcz66_1 : wr.cell? ⟨gb102, 1, none⟩ = some (u103001) := (blk_cell BK102.out 1).trans rfl
           have hcz66_2 : wr.cell? ⟨gb102, 2, none⟩ = some (.int .i64 x103002_1) := (blk_cell BK102.out 2).trans rfl
           have hfz66_0 := blk_frozen BK102.out 0
           have hfz66_1 := blk_frozen BK102.out 1
           have hfz66_2 := blk_frozen BK102.out 2
           obtain ⟨Ao67, co67, eo67⟩ := Kd.R_slice HO_103001.out
           subst eo67
           have p108 : 0 ≤ ((ji55) : Int) := of_decide_eq_true (by first | (with_reducible assumption) | assumption)
           have q108 : (ji55) < (x103001_2.length : Int) := of_decide_eq_true (by first | (with_reducible assumption) | assumption)
           obtain ⟨ad108, e108, hx108_0⟩ := Kd.at_int (Kd.R_reads' HO_103001.out).2.2 (ji55) p108 q108
           cases e108
           replace p108 := eq_true p108
           replace q108 := eq_true q108
           have hcz68_0 : wr.cell? ⟨gb101, 0, none⟩ = some (.bool false) := (blk_cell BK101.out 0).trans rfl
           have hcz68_1 : wr.cell? ⟨gb101, 1, none⟩ = some (.slice none 0 0) := (blk_cell BK101.out 1).trans rfl
           have hcz68_2 : wr.cell? ⟨gb101, 2, none⟩ = some (.int .i64 0) := (blk_cell BK101.out 2).trans rfl
           have hfz68_0 := blk_frozen BK101.out 0
           have hfz68_1 := blk_frozen BK101.out 1
           have hfz68_2 := blk_frozen BK101.out 2
           go_wp2
           refine bodyPost_ret (results_cell_row rfl _ _ gb101 59 #[.bool x103000_1, .slice (some ad108) x103001_2.length co67, .int .i64 (wrap64 (x103002_1 + (wrap64 (-x6_1))))] (0, 0) _ rfl (by refine bq ?_; refine blk_put (cs := #[.bool x103000_1, .slice (some ad108) x103001_2.length co67, .int .i64 0]) ?_ 2 _ rfl; refine bq ?_; refine blk_put (cs := #[.bool x103000_1, .slice none 0 0, .int .i64 0]) ?_ 1 _ rfl; refine bq ?_; refine blk_put (cs := #[.bool false, .slice none 0 0, .int .i64 0]) ?_ 0 _ rfl; refine bq ?_; refine blk_far ?_ NB101_102.out _; refine bq ?_; exact BK101.out) Tryd.underlying59 rfl (by kernel_rfl)) rfl ?_
           exact ⟨_, by first | rfl | (simp [errW_none, errW_some] <;> rfl) | (simp only [← hji55]; first | rfl | (simp [errW_none, errW_some] <;> rfl)) | (simp [*, errW_none, errW_some] <;> rfl), by apply rq; exact Kd.R_mono (Kd.R_far (p := ⟨gb101, 2, none⟩) (Kd.R_far (p := ⟨gb101, 1, none⟩) (Kd.R_far (p := ⟨gb101, 0, none⟩) (Kd.R_far (p := ⟨gb102, 2, none⟩) (Kd.R_types (Kd.R_types HO_103001.out BK102.out (by decide)) BK101.out (by decide)) (fun _ hk => hk.1.2) (.int .i64 (wrap64 (x103002_1 + (wrap64 (-x6_1)))))) (fun _ hk => hk.2) (.bool x103000_1)) (fun _ hk => hk.2) (.slice (some ad108) x103001_2.length co67)) (fun _ hk => hk.2) (.int .i64 (wrap64 (x103002_1 + (wrap64 (-x6_1)))))) (fun _ hk => trivial), by exact wq HB.out⟩
          ·
           replace c64 := Bool.eq_false_iff.mpr c64
           subst c64
           have H1 : (some (x103000_1, x103001_2, wrap64 (x103002_1 + x6_1))) = some (r1, r2, r3) := by rw [if_neg (show ¬ (false = true) by decide)] at H; exact H
           clear H
           have H := H1
           clear H1
           simp only [Option.some.injEq, Prod.mk.injEq] at H
           obtain ⟨rfl, rfl, rfl⟩ := H
           have hnb69 := NB102_101.out
           have hnc69 := NB101_102.out
           have hcz70_0 : wr.cell? ⟨gb102, 0, none⟩ = some (.bool x103000_1) := (blk_cell BK102.out 0).trans rfl
           have hcz70_1 : wr.cell? ⟨gb102, 1, none⟩ = some (u103001) := (blk_cell BK102.out 1).trans rfl
           have hcz70_2 : wr.cell? ⟨gb102, 2, none⟩ = some (.int .i64 x103002_1) := (blk_cell BK102.out 2).trans rfl
           have hfz70_0 := blk_frozen BK102.out 0
           have hfz70_1 := blk_frozen BK102.out 1
           have hfz70_2 := blk_frozen BK102.out 2
           obtain ⟨Ao71, co71, eo71⟩ := Kd.R_slice HO_103001.out
           subst eo71
           have p108 : 0 ≤ ((ji55) : Int) := of_decide_eq_true (by first | (with_reducible assumption) | assumption)
           have q108 : (ji55) < (x103001_2.length : Int) := of_decide_eq_true (by first | (with_reducible assumption) | assumption)
           obtain ⟨ad108, e108, hx108_0⟩ := Kd.at_int (Kd.R_reads' HO_103001.out).2.2 (ji55) p108 q108
           cases e108
           replace p108 := eq_true p108
           replace q108 := eq_true q108
           have hcz72_0 : wr.cell? ⟨gb101, 0, none⟩ = some (.bool false) := (blk_cell BK101.out 0).trans rfl
           have hcz72_1 : wr.cell? ⟨gb101, 1, none⟩ = some (.slice none 0 0) := (blk_cell BK101.out 1).trans rfl
           have hcz72_2 : wr.cell? ⟨gb101, 2, none⟩ = some (.int .i64 0) := (blk_cell BK101.out 2).trans rfl
           have hfz72_0 := blk_frozen BK101.out 0
           have hfz72_1 := blk_frozen BK101.out 1
           have hfz72_2 := blk_frozen BK101.out 2
           go_wp2
           refine bodyPost_ret (results_cell_row rfl _ _ gb101 59 #[.bool x103000_1, .slice (some ad108) x103001_2.length co71, .int .i64 (wrap64 (x103002_1 + x6_1))] (0, 0) _ rfl (by refine bq ?_; refine blk_put (cs := #[.bool x103000_1, .slice (some ad108) x103001_2.length co71, .int .i64 0]) ?_ 2 _ rfl; refine bq ?_; refine blk_put (cs := #[.bool x103000_1, .slice none 0 0, .int .i64 0]) ?_ 1 _ rfl; refine bq ?_; refine blk_put (cs := #[.bool false, .slice none 0 0, .int .i64 0]) ?_ 0 _ rfl; refine bq ?_; refine blk_far ?_ NB101_102.out _; refine bq ?_; exact BK101.out) Tryd.underlying59 rfl (by kernel_rfl)) rfl ?_
           exact ⟨_, by first | rfl | (simp [errW_none, errW_some] <;> rfl) | (simp only [← hji55]; first | rfl | (simp [errW_none, errW_some] <;> rfl)) | (simp [*, errW_none, errW_some] <;> rfl), by apply rq; exact Kd.R_mono (Kd.R_far (p := ⟨gb101, 2, none⟩) (Kd.R_far (p := ⟨gb101, 1, none⟩) (Kd.R_far (p := ⟨gb101, 0, none⟩) (Kd.R_far (p := ⟨gb102, 2, none⟩) (Kd.R_types (Kd.R_types HO_103001.out BK102.out (by decide)) BK101.out (by decide)) (fun _ hk => hk.1.2) (.int .i64 (wrap64 (x103002_1 + x6_1)))) (fun _ hk => hk.2) (.bool x103000_1)) (fun _ hk => hk.2) (.slice (some ad108) x103001_2.length co71)) (fun _ hk => hk.2) (.int .i64 (wrap64 (x103002_1 + x6_1)))) (fun _ hk => trivial), by exact wq HB.out⟩
        ·
         rw [if_neg c57] at H
         exact absurd H (by simp)
       ·
        rw [if_neg c56] at H
        exact absurd H (by simp)
      ·
       rw [if_neg c54] at H
       have c54b0 : decide (0 < (x103001_2.length : Int)) = false := decide_eq_false c54
       have c54b1 : decide (0 < x103001_2.length) = false := decide_eq_false (by omega)
       clear c54
       by_cases c73 : x5_1 = true
       ·
        subst c73
        have H1 : (some (x103000_1, x103001_2, wrap64 (x103002_1 + (wrap64 (-x6_1))))) = some (r1, r2, r3) := by rw [if_pos rfl] at H; exact H
        clear H
        have H := H1
        clear H1
        simp only [Option.some.injEq, Prod.mk.injEq] at H
        obtain ⟨rfl, rfl, rfl⟩ := H
        have hnb74 := NB102_101.out
        have hnc74 := NB101_102.out
        have hcz75_0 : wr.cell? ⟨gb102, 0, none⟩ = some (.bool x103000_1) := (blk_cell BK102.out 0).trans rfl
        have hcz75_1 : wr.cell? ⟨gb102, 1, none⟩ = some (u103001) := (blk_cell BK102.out 1).trans rfl
        have hcz75_2 : wr.cell? ⟨gb102, 2, none⟩ = some (.int .i64 x103002_1) := (blk_cell BK102.out 2).trans rfl
        have hfz75_0 := blk_frozen BK102.out 0
        have hfz75_1 := blk_frozen BK102.out 1
        have hfz75_2 := blk_frozen BK102.out 2
        obtain ⟨Ao76, co76, eo76⟩ := Kd.R_slice HO_103001.out
        subst eo76
        have hcz77_0 : wr.cell? ⟨gb101, 0, none⟩ = some (.bool false) := (blk_cell BK101.out 0).trans rfl
        have hcz77_1 : wr.cell? ⟨gb101, 1, none⟩ = some (.slice none 0 0) := (blk_cell BK101.out 1).trans rfl
        have hcz77_2 : wr.cell? ⟨gb101, 2, none⟩ = some (.int .i64 0) := (blk_cell BK101.out 2).trans rfl
        have hfz77_0 := blk_frozen BK101.out 0
        have hfz77_1 := blk_frozen BK101.out 1
        have hfz77_2 := blk_frozen BK101.out 2
        go_wp2
        refine bodyPost_ret (results_cell_row rfl _ _ gb101 59 #[.bool x103000_1, .slice Ao76 x103001_2.length co76, .int .i64 (wrap64 (x103002_1 + (wrap64 (-x6_1))))] (0, 0) _ rfl (by refine bq ?_; refine blk_put (cs := #[.bool x103000_1, .slice Ao76 x103001_2.length co76, .int .i64 0]) ?_ 2 _ rfl; refine bq ?_; refine blk_put (cs := #[.bool x103000_1, .slice none 0 0, .int .i64 0]) ?_ 1 _ rfl; refine bq ?_; refine blk_put (cs := #[.bool false, .slice none 0 0, .int .i64 0]) ?_ 0 _ rfl; refine bq ?_; refine blk_far ?_ NB101_102.out _; refine bq ?_; exact BK101.out) Tryd.underlying59 rfl (by kernel_rfl)) rfl ?_
        exact ⟨_, by first | rfl | (simp [errW_none, errW_some] <;> rfl) | (simp [*, errW_none, errW_some] <;> rfl), by apply rq; exact Kd.R_mono (Kd.R_far (p := ⟨gb101, 2, none⟩) (Kd.R_far (p := ⟨gb101, 1, none⟩) (Kd.R_far (p := ⟨gb101, 0, none⟩) (Kd.R_far (p := ⟨gb102, 2, none⟩) (Kd.R_types (Kd.R_types HO_103001.out BK102.out (by decide)) BK101.out (by decide)) (fun _ hk => hk.1.2) (.int .i64 (wrap64 (x103002_1 + (wrap64 (-x6_1)))))) (fun _ hk => hk.2) (.bool x103000_1)) (fun _ hk => hk.2) (.slice Ao76 x103001_2.length co76)) (fun _ hk => hk.2) (.int .i64 (wrap64 (x103002_1 + (wrap64 (-x6_1)))))) (fun _ hk => trivial), by exact wq HB.out⟩
       ·
        replace c73 := Bool.eq_false_iff.mpr c73
        subst c73
        have H1 : (some (x103000_1, x103001_2, wrap64 (x103002_1 + x6_1))) = some (r1, r2, r3) := by rw [if_neg (show ¬ (false = true) by decide)] at H; exact H
        clear H
        have H := H1
        clear H1
        simp only [Option.some.injEq, Prod.mk.injEq] at H
        obtain ⟨rfl, rfl, rfl⟩ := H
        have hnb78 := NB102_101.out
        have hnc78 := NB101_102.out
        have hcz79_0 : wr.cell? ⟨gb102, 0, none⟩ = some (.bool x103000_1) := (blk_cell BK102.out 0).trans rfl
        have hcz79_1 : wr.cell? ⟨gb102, 1, none⟩ = some (u103001) := (blk_cell BK102.out 1).trans rfl
        have hcz79_2 : wr.cell? ⟨gb102, 2, none⟩ = some (.int .i64 x103002_1) := (blk_cell BK102.out 2).trans rfl
        have hfz79_0 := blk_frozen BK102.out 0
        have hfz79_1 := blk_frozen BK102.out 1
        have hfz79_2 := blk_frozen BK102.out 2
        obtain ⟨Ao80, co80, eo80⟩ := Kd.R_slice HO_103001.out
        subst eo80
        have hcz81_0 : wr.cell? ⟨gb101, 0, none⟩ = some (.bool false) := (blk_cell BK101.out 0).trans rfl
        have hcz81_1 : wr.cell? ⟨gb101, 1, none⟩ = some (.slice none 0 0) := (blk_cell BK101.out 1).trans rfl
        have hcz81_2 : wr.cell? ⟨gb101, 2, none⟩ = some (.int .i64 0) := (blk_cell BK101.out 2).trans rfl
        have hfz81_0 := blk_frozen BK101.out 0
        have hfz81_1 := blk_frozen BK101.out 1
        have hfz81_2 := blk_frozen BK101.out 2
        go_wp2
        refine bodyPost_ret (results_cell_row rfl _ _ gb101 59 #[.bool x103000_1, .slice Ao80 x103001_2.length co80, .int .i64 (wrap64 (x103002_1 + x6_1))] (0, 0) _ rfl (by refine bq ?_; refine blk_put (cs := #[.bool x103000_1, .slice Ao80 x103001_2.length co80, .int .i64 0]) ?_ 2 _ rfl; refine bq ?_; refine blk_put (cs := #[.bool x103000_1, .slice none 0 0, .int .i64 0]) ?_ 1 _ rfl; refine bq ?_; refine blk_put (cs := #[.bool false, .slice none 0 0, .int .i64 0]) ?_ 0 _ rfl; refine bq ?_; refine blk_far ?_ NB101_102.out _; refine bq ?_; exact BK101.out) Tryd.underlying59 rfl (by kernel_rfl)) rfl ?_
        exact ⟨_, by first | rfl | (simp [errW_none, errW_some] <;> rfl) | (simp [*, errW_none, errW_some] <;> rfl), by apply rq; exact Kd.R_mono (Kd.R_far (p := ⟨gb101, 2, none⟩) (Kd.R_far (p := ⟨gb101, 1, none⟩) (Kd.R_far (p := ⟨gb101, 0, none⟩) (Kd.R_far (p := ⟨gb102, 2, none⟩) (Kd.R_types (Kd.R_types HO_103001.out BK102.out (by decide)) BK101.out (by decide)) (fun _ hk => hk.1.2) (.int .i64 (wrap64 (x103002_1 + x6_1)))) (fun _ hk => hk.2) (.bool x103000_1)) (fun _ hk => hk.2) (.slice Ao80 x103001_2.length co80)) (fun _ hk => hk.2) (.int .i64 (wrap64 (x103002_1 + x6_1)))) (fun _ hk => trivial), by exact wq HB.out⟩
end Go.Proofs.YtfpnglgipchjhaaDoor.PR
namespace Go.Proofs.YtfpnglgipchjhaaDoor.PR
open Go.RowKit Go.Proofs.YtfpnglgipchjhaaDoorW.PrintWords Go.Proofs.YtfpnglgipchjhaaDoorW.PrintLast Go.Proofs.YtfpnglgipchjhaaDoorW.PrintMore
attribute [local go_sem] max2_int min2_int max_two min_two max_three min_three max_four min_four
set_option linter.unusedVariables false
set_option linter.unusedSimpArgs false
def dec_number_digit.f (a0_0 : Bool) (l0_1 : List Int) (a0_2 : Int) (a1 : Int) : Option (Int) := if (wrap64 ((wrap64 (a0_2 + a1)) - 1)) < 0 then (some 0) else (if (wrap64 ((wrap64 (a0_2 + a1)) - 1)) ≥ (l0_1.length : Int) then (some 0) else (if 0 ≤ (wrap64 ((wrap64 (a0_2 + a1)) - 1)) then (if (wrap64 ((wrap64 (a0_2 + a1)) - 1)) < (l0_1.length : Int) then (some (IntKind.u64.wrap (rd l0_1 (wrap64 ((wrap64 (a0_2 + a1)) - 1))))) else (none)) else (none)))
set_option maxHeartbeats 8000000 in
set_option maxRecDepth 100000 in
theorem dec_number_digit.calls (a0_0 : Bool) (A0_1 : Option Addr) (c0_1 : Nat) (l0_1 : List Int) (a0_2 : Int) (a1 : Int) (r : Int) (w : World) (hr0_1 : Kd.C (Kd.int .u8) w A0_1 l0_1.length l0_1) (hc0_1 : l0_1.length ≤ c0_1) (h : dec_number_digit.f a0_0 l0_1 a0_2 a1 = some r) :
  Calls Tryd.prog 33 #[.agg #[.bool a0_0, .slice A0_1 l0_1.length c0_1, .int .i64 a0_2], .int .i64 a1] w fun e w' => e = .returned (.int .u64 r) ∧ Below w.heap.size w w' := by
 have hu59 := Tryd.underlying59
 have HR0_1 := Aside0.mk hr0_1
 have HC0_1 := Aside0.mk hc0_1
 clear hr0_1 hc0_1
 have HB := Aside0.mk (Below.refl w.heap.size w)
 have H : (if (wrap64 ((wrap64 (a0_2 + a1)) - 1)) < 0 then (some 0) else (if (wrap64 ((wrap64 (a0_2 + a1)) - 1)) ≥ (l0_1.length : Int) then (some 0) else (if 0 ≤ (wrap64 ((wrap64 (a0_2 + a1)) - 1)) then (if (wrap64 ((wrap64 (a0_2 + a1)) - 1)) < (l0_1.length : Int) then (some (IntKind.u64.wrap (rd l0_1 (wrap64 ((wrap64 (a0_2 + a1)) - 1))))) else (none)) else (none)))) = some r := h
 clear h
 by_cases c3 : (wrap64 ((wrap64 (a0_2 + a1)) - 1)) < 0
 ·
  rw [if_pos c3] at H
  have c3b0 : decide ((wrap64 ((wrap64 (a0_2 + a1)) - 1)) < 0) = true := decide_eq_true c3
  clear c3
  obtain rfl := Option.some.inj H
  go_enter Tryd.func33, Tryd.ntmps33
  go_wp2_with (first | ((with_reducible refine gate_dst (N := 2) rfl ?_); (try (refine gate_guard (by rfl) ?_; dsimp only)); refine box_event ?hg (N := 2) ?hd (cs := #[.bool a0_0, .slice A0_1 l0_1.length c0_1, .int .i64 a0_2]) (t := 59) ?hr ?_; (case hd => rfl); (case hg => rfl); (case hr => first | (go_simp; done) | (go_simp; rfl)); intro gb112 hg w4 hbox hb; have n0_ := Aside0.mk (below_step (wq HB.out) hb); have n1_ := Aside0.mk (hbox); have n2_ := Aside0.mk ((by rw [hg]; exact (below_size (wq HB.out)) : w.heap.size ≤ gb112)); have n3_ := n2_; clear HB; have HB := n0_; have BK112 := n1_; have GW112 := n2_; have GE112 := n3_; clear n0_ n1_ n2_ n3_ hb hbox hg; have hcz5_0 : w4.cell? ⟨gb112, 0, none⟩ = some (.bool a0_0) := (blk_cell BK112.out 0).trans rfl; have hcz5_1 : w4.cell? ⟨gb112, 1, none⟩ = some (.slice A0_1 l0_1.length c0_1) := (blk_cell BK112.out 1).trans rfl; have hcz5_2 : w4.cell? ⟨gb112, 2, none⟩ = some (.int .i64 a0_2) := (blk_cell BK112.out 2).trans rfl; have hfz5_0 := blk_frozen BK112.out 0; have hfz5_1 := blk_frozen BK112.out 1; have hfz5_2 := blk_frozen BK112.out 2))
  go_ret
  exact ⟨by first | rfl | (simp [errW_none, errW_some] <;> rfl) | (simp [*, errW_none, errW_some] <;> rfl), by exact wq HB.out⟩
 ·
  rw [if_neg c3] at H
  have c3b0 : decide ((wrap64 ((wrap64 (a0_2 + a1)) - 1)) < 0) = false := decide_eq_false c3
  clear c3
  by_cases c6 : (wrap64 ((wrap64 (a0_2 + a1)) - 1)) ≥ (l0_1.length : Int)
  ·
   rw [if_pos c6] at H
   have c6b0 : decide ((l0_1.length : Int) ≤ (wrap64 ((wrap64 (a0_2 + a1)) - 1))) = true := decide_eq_true c6
   clear c6
   obtain rfl := Option.some.inj H
   go_enter Tryd.func33, Tryd.ntmps33
   go_wp2_with (first | ((with_reducible refine gate_dst (N := 2) rfl ?_); (try (refine gate_guard (by rfl) ?_; dsimp only)); refine box_event ?hg (N := 2) ?hd (cs := #[.bool a0_0, .slice A0_1 l0_1.length c0_1, .int .i64 a0_2]) (t := 59) ?hr ?_; (case hd => rfl); (case hg => rfl); (case hr => first | (go_simp; done) | (go_simp; rfl)); intro gb112 hg w7 hbox hb; have n0_ := Aside0.mk (below_step (wq HB.out) hb); have n1_ := Aside0.mk (hbox); have n2_ := Aside0.mk ((by rw [hg]; exact (below_size (wq HB.out)) : w.heap.size ≤ gb112)); have n3_ := n2_; clear HB; have HB := n0_; have BK112 := n1_; have GW112 := n2_; have GE112 := n3_; clear n0_ n1_ n2_ n3_ hb hbox hg; have hcz8_0 : w7.cell? ⟨gb112, 0, none⟩ = some (.bool a0_0) := (blk_cell BK112.out 0).trans rfl; have hcz8_1 : w7.cell? ⟨gb112, 1, none⟩ = some (.slice A0_1 l0_1.length c0_1) := (blk_cell BK112.out 1).trans rfl; have hcz8_2 : w7.cell? ⟨gb112, 2, none⟩ = some (.int .i64 a0_2) := (blk_cell BK112.out 2).trans rfl; have hfz8_0 := blk_frozen BK112.out 0; have hfz8_1 := blk_frozen BK112.out 1; have hfz8_2 := blk_frozen BK112.out 2))
   go_ret
   exact ⟨by first | rfl | (simp [errW_none, errW_some] <;> rfl) | (simp [*, errW_none, errW_some] <;> rfl), by exact wq HB.out⟩
  ·
   rw [if_neg c6] at H
   have c6b0 : decide ((l0_1.length : Int) ≤ (wrap64 ((wrap64 (a0_2 + a1)) - 1))) = false := decide_eq_false c6
   clear c6
   obtain ⟨ji9, hji9⟩ : ∃ j_ : Int, (wrap64 ((wrap64 (a0_2 + a1)) - 1)) = j_ := ⟨_, rfl⟩
   replace H : (if 0 ≤ (ji9) then (if (ji9) < (l0_1.length : Int) then (some (IntKind.u64.wrap (rd l0_1 (ji9)))) else (none)) else (none)) = some r := by first | (rw [hji9] at H; exact H) | (simp only [hji9] at H ⊢; exact H)
   (try rw [hji9] at c3b0)
   (try rw [hji9] at c6b0)
   have hji9w : (IntKind.i64.wrap ((wrap64 (a0_2 + a1)) - 1)) = ji9 := (i64_w _).trans hji9
   by_cases c10 : 0 ≤ (ji9)
   ·
    rw [if_pos c10] at H
    have c10b0 : decide (0 ≤ (ji9)) = true := decide_eq_true c10
    clear c10
    by_cases c11 : (ji9) < (l0_1.length : Int)
    ·
     rw [if_pos c11] at H
     have c11b0 : decide ((ji9) < (l0_1.length : Int)) = true := decide_eq_true c11
     clear c11
     obtain rfl := Option.some.inj H
     go_enter Tryd.func33, Tryd.ntmps33
     go_wp2_with (first | ((with_reducible refine gate_dst (N := 2) rfl ?_); (try (refine gate_guard (by rfl) ?_; dsimp only)); refine box_event ?hg (N := 2) ?hd (cs := #[.bool a0_0, .slice A0_1 l0_1.length c0_1, .int .i64 a0_2]) (t := 59) ?hr ?_; (case hd => rfl); (case hg => rfl); (case hr => first | (go_simp; done) | (go_simp; rfl)); intro gb112 hg w12 hbox hb; have n0_ := Aside0.mk (below_step (wq HB.out) hb); have n1_ := Aside0.mk (hbox); have n2_ := Aside0.mk ((by rw [hg]; exact (below_size (wq HB.out)) : w.heap.size ≤ gb112)); have n3_ := n2_; clear HB; have HB := n0_; have BK112 := n1_; have GW112 := n2_; have GE112 := n3_; clear n0_ n1_ n2_ n3_ hb hbox hg; have hcz13_0 : w12.cell? ⟨gb112, 0, none⟩ = some (.bool a0_0) := (blk_cell BK112.out 0).trans rfl; have hcz13_1 : w12.cell? ⟨gb112, 1, none⟩ = some (.slice A0_1 l0_1.length c0_1) := (blk_cell BK112.out 1).trans rfl; have hcz13_2 : w12.cell? ⟨gb112, 2, none⟩ = some (.int .i64 a0_2) := (blk_cell BK112.out 2).trans rfl; have hfz13_0 := blk_frozen BK112.out 0; have hfz13_1 := blk_frozen BK112.out 1; have hfz13_2 := blk_frozen BK112.out 2; have p113 : 0 ≤ ((ji9) : Int) := of_decide_eq_true (by first | (with_reducible assumption) | assumption); have q113 : (ji9) < (l0_1.length : Int) := of_decide_eq_true (by first | (with_reducible assumption) | assumption); obtain ⟨ad113, e113, hx113_0⟩ := Kd.at_int HR0_1.out (ji9) p113 q113; cases e113; replace hx113_0 := (HB.out.cell (World.block_lt_of_cell? w _ hx113_0)).trans hx113_0; replace p113 := eq_true p113; replace q113 := eq_true q113))
     go_ret
     exact ⟨by first | rfl | (simp [errW_none, errW_some] <;> rfl) | (simp only [← hji9]; first | rfl | (simp [errW_none, errW_some] <;> rfl)) | (simp [*, errW_none, errW_some] <;> rfl), by exact wq HB.out⟩
    ·
     rw [if_neg c11] at H
     exact absurd H (by simp)
   ·
    rw [if_neg c10] at H
    exact absurd H (by simp)
def bits_Mul64.f (a0 : Int) (a1 : Int) : Option (Int × Int) := some (IntKind.u64.wrap ((IntKind.u64.wrap ((IntKind.u64.wrap ((a0 / 4294967296) * (a1 / 4294967296))) + ((IntKind.u64.wrap ((IntKind.u64.wrap ((a0 / 4294967296) * (Go.bits .and .u64 a1 4294967295))) + ((IntKind.u64.wrap ((Go.bits .and .u64 a0 4294967295) * (Go.bits .and .u64 a1 4294967295))) / 4294967296))) / 4294967296))) + ((IntKind.u64.wrap ((Go.bits .and .u64 (IntKind.u64.wrap ((IntKind.u64.wrap ((a0 / 4294967296) * (Go.bits .and .u64 a1 4294967295))) + ((IntKind.u64.wrap ((Go.bits .and .u64 a0 4294967295) * (Go.bits .and .u64 a1 4294967295))) / 4294967296))) 4294967295) + (IntKind.u64.wrap ((Go.bits .and .u64 a0 4294967295) * (a1 / 4294967296))))) / 4294967296)), IntKind.u64.wrap (a0 * a1))
set_option maxHeartbeats 8000000 in
set_option maxRecDepth 100000 in
theorem bits_Mul64.calls (a0 : Int) (a1 : Int) (r1 : Int) (r2 : Int) (w : World) (h : bits_Mul64.f a0 a1 = some (r1, r2)) :
  Calls Tryd.prog 34 #[.int .u64 a0, .int .u64 a1] w fun e w' => e = .returned (.tuple #[.int .u64 r1, .int .u64 r2]) ∧ Drawn0 w w' := by
 have H : (some (IntKind.u64.wrap ((IntKind.u64.wrap ((IntKind.u64.wrap ((a0 / 4294967296) * (a1 / 4294967296))) + ((IntKind.u64.wrap ((IntKind.u64.wrap ((a0 / 4294967296) * (Go.bits .and .u64 a1 4294967295))) + ((IntKind.u64.wrap ((Go.bits .and .u64 a0 4294967295) * (Go.bits .and .u64 a1 4294967295))) / 4294967296))) / 4294967296))) + ((IntKind.u64.wrap ((Go.bits .and .u64 (IntKind.u64.wrap ((IntKind.u64.wrap ((a0 / 4294967296) * (Go.bits .and .u64 a1 4294967295))) + ((IntKind.u64.wrap ((Go.bits .and .u64 a0 4294967295) * (Go.bits .and .u64 a1 4294967295))) / 4294967296))) 4294967295) + (IntKind.u64.wrap ((Go.bits .and .u64 a0 4294967295) * (a1 / 4294967296))))) / 4294967296)), IntKind.u64.wrap (a0 * a1))) = some (r1, r2) := h
 clear h
 simp only [Option.some.injEq, Prod.mk.injEq] at H
 obtain ⟨rfl, rfl⟩ := H
 go_enter Tryd.func34, Tryd.ntmps34
 go_wp2
 go_ret2
 exact ⟨by first | rfl | (simp; done) | (simp [*]; done), by repeat (first | exact Drawn0.refl _ | apply Drawn0.step)⟩
def bits_Len64.f (a0 : Int) : Option Int := if 0 ≤ a0 then if a0 ≤ 18446744073709551615 then some (Lib.bitLen a0.toNat : Int) else none else none
theorem bits_Len64.calls (a0 r : Int) (w : World) (h : bits_Len64.f a0 = some r) : Calls Tryd.prog 55 #[.int .u64 a0] w fun e w' => e = .returned (.int .i64 r) ∧ Drawn0 w w' := by
 unfold bits_Len64.f at h
 by_cases h0 : 0 ≤ a0
 ·
  rw [if_pos h0] at h
  by_cases h1 : a0 ≤ 18446744073709551615
  ·
   rw [if_pos h1] at h
   obtain rfl := Option.some.inj h
   refine (len64_walk a0 w h0 h1).mono ?_
   rintro e w' ⟨rfl, rfl⟩
   exact ⟨rfl, Drawn0.refl _⟩
  ·
   rw [if_neg h1] at h; cases h
 ·
  rw [if_neg h0] at h; cases h
def bits_LeadingZeros64.f (a0 : Int) : Option (Int) := (bits_Len64.f a0).bind fun t114 => (some (wrap64 (64 - t114)))
set_option maxHeartbeats 8000000 in
set_option maxRecDepth 100000 in
theorem bits_LeadingZeros64.calls (a0 : Int) (r : Int) (w : World) (h : bits_LeadingZeros64.f a0 = some r) :
  Calls Tryd.prog 47 #[.int .u64 a0] w fun e w' => e = .returned (.int .i64 r) ∧ Drawn0 w w' := by
 have H : ((bits_Len64.f a0).bind fun t114 => (some (wrap64 (64 - t114)))) = some r := h
 clear h
 replace H := Option.bind_eq_some_iff.mp H
 obtain ⟨t114, A20, H⟩ := H
 replace H : (some (wrap64 (64 - t114))) = some r := H
 have A2 := Aside0.mk A20
 clear A20
 obtain rfl := Option.some.inj H
 go_enter Tryd.func47, Tryd.ntmps47
 go_wp2_with (first | ((with_reducible refine gate_callee (f := 55) rfl ?_); refine goesL_ (some 4) rfl rfl Tryd.func55 (by kernel_rfl) rfl #[.int .u64 a0] rfl (by (try simp only [List.map_toArray, List.map_cons, List.map_nil]); first | done | rfl | (simp only [List.length_drop, List.length_take]; rfl)) ?_; (with_reducible refine (bits_Len64.calls a0 t114 _ A2.out).mono ?_); rintro e w' ⟨rfl, ⟨nd, rfl⟩⟩; refine ⟨_, rfl, ?_⟩))
 go_ret
 exact ⟨by first | rfl | (simp; done) | (simp [*]; done), by repeat (first | exact Drawn0.refl _ | apply Drawn0.step)⟩
end Go.Proofs.YtfpnglgipchjhaaDoor.PR
namespace Go.Proofs.YtfpnglgipchjhaaDoor.PR
open Go.RowKit Go.Proofs.YtfpnglgipchjhaaDoorW.PrintWords Go.Proofs.YtfpnglgipchjhaaDoorW.PrintLast Go.Proofs.YtfpnglgipchjhaaDoorW.PrintMore
attribute [local go_sem] max2_int min2_int max_two min_two max_three min_three max_four min_four
set_option linter.unusedVariables false
set_option linter.unusedSimpArgs false
mutual
def bits_Div64.j2 : Nat → Int → Int → Int → Int → Int → Int → Int → Int → Option (Int × Int)
 | 0, _, _, _, _, _, _, _, _ => none
 | k + 1, x2, x8, x9, x10, x11, x13, x14, x15 => if x9 = 0 then (none) else (bits_Div64.l1 k x2 x8 x9 x10 x14 x15 (IntKind.u64.wrap ((IntKind.u64.wrap ((IntKind.u64.wrap ((IntKind.u64.wrap (x11 * 4294967296)) + x13)) - (IntKind.u64.wrap (x15 * x2)))) - (IntKind.u64.wrap ((IntKind.u64.wrap (Int.tdiv (IntKind.u64.wrap ((IntKind.u64.wrap ((IntKind.u64.wrap (x11 * 4294967296)) + x13)) - (IntKind.u64.wrap (x15 * x2)))) x9)) * x9)))) (IntKind.u64.wrap ((IntKind.u64.wrap ((IntKind.u64.wrap (x11 * 4294967296)) + x13)) - (IntKind.u64.wrap (x15 * x2)))) (IntKind.u64.wrap (Int.tdiv (IntKind.u64.wrap ((IntKind.u64.wrap ((IntKind.u64.wrap (x11 * 4294967296)) + x13)) - (IntKind.u64.wrap (x15 * x2)))) x9)))
def bits_Div64.l1 : Nat → Int → Int → Int → Int → Int → Int → Int → Int → Int → Option (Int × Int)
 | 0, _, _, _, _, _, _, _, _, _ => none
 | k + 1, x2, x8, x9, x10, x14, x15, x16, x17, x18 => if x18 ≥ 4294967296 then (bits_Div64.j4 k x2 x8 x9 x10 x14 x15 x16 x17 x18 true) else (bits_Div64.j4 k x2 x8 x9 x10 x14 x15 x16 x17 x18 (decide ((IntKind.u64.wrap (x18 * x10)) > (IntKind.u64.wrap ((IntKind.u64.wrap (4294967296 * x16)) + x14)))))
def bits_Div64.j4 : Nat → Int → Int → Int → Int → Int → Int → Int → Int → Int → Bool → Option (Int × Int)
 | 0, _, _, _, _, _, _, _, _, _, _ => none
 | k + 1, x2, x8, x9, x10, x14, x15, x16, x17, x18, x113 => if x113 = true then (if (IntKind.u64.wrap (x16 + x9)) ≥ 4294967296 then (if 0 ≤ x8 then (some (IntKind.u64.wrap ((IntKind.u64.wrap (x15 * 4294967296)) + (IntKind.u64.wrap (x18 - 1))), shr .u64 (IntKind.u64.wrap ((IntKind.u64.wrap ((IntKind.u64.wrap (x17 * 4294967296)) + x14)) - (IntKind.u64.wrap ((IntKind.u64.wrap (x18 - 1)) * x2)))) x8)) else (none)) else (bits_Div64.l1 k x2 x8 x9 x10 x14 x15 (IntKind.u64.wrap (x16 + x9)) x17 (IntKind.u64.wrap (x18 - 1)))) else (if 0 ≤ x8 then (some (IntKind.u64.wrap ((IntKind.u64.wrap (x15 * 4294967296)) + x18), shr .u64 (IntKind.u64.wrap ((IntKind.u64.wrap ((IntKind.u64.wrap (x17 * 4294967296)) + x14)) - (IntKind.u64.wrap (x18 * x2)))) x8)) else (none))
def bits_Div64.l0 : Nat → Int → Int → Int → Int → Int → Int → Int → Int → Int → Option (Int × Int)
 | 0, _, _, _, _, _, _, _, _, _ => none
 | k + 1, x2, x8, x9, x10, x11, x13, x14, x15, x16 => if x15 ≥ 4294967296 then (bits_Div64.j1 k x2 x8 x9 x10 x11 x13 x14 x15 x16 true) else (bits_Div64.j1 k x2 x8 x9 x10 x11 x13 x14 x15 x16 (decide ((IntKind.u64.wrap (x15 * x10)) > (IntKind.u64.wrap ((IntKind.u64.wrap (4294967296 * x16)) + x13)))))
def bits_Div64.j1 : Nat → Int → Int → Int → Int → Int → Int → Int → Int → Int → Bool → Option (Int × Int)
 | 0, _, _, _, _, _, _, _, _, _, _ => none
 | k + 1, x2, x8, x9, x10, x11, x13, x14, x15, x16, x78 => if x78 = true then (if (IntKind.u64.wrap (x16 + x9)) ≥ 4294967296 then (bits_Div64.j2 k x2 x8 x9 x10 x11 x13 x14 (IntKind.u64.wrap (x15 - 1))) else (bits_Div64.l0 k x2 x8 x9 x10 x11 x13 x14 (IntKind.u64.wrap (x15 - 1)) (IntKind.u64.wrap (x16 + x9)))) else (bits_Div64.j2 k x2 x8 x9 x10 x11 x13 x14 x15)
end
def bits_Div64.f (k : Nat) (a0 : Int) (a1 : Int) (a2 : Int) : Option (Int × Int) := if a2 = 0 then (none) else (if a2 ≤ a0 then (none) else (if a0 = 0 then (some (IntKind.u64.wrap (Int.tdiv a1 a2), Int.tmod a1 a2)) else ((bits_LeadingZeros64.f a2).bind fun t115 => (if 0 ≤ (IntKind.u64.wrap (t115)) then (if 0 ≤ (IntKind.u64.wrap (64 - (IntKind.u64.wrap (t115)))) then (if ((shl .u64 a2 (IntKind.u64.wrap (t115))) / 4294967296) = 0 then (none) else (bits_Div64.l0 k (shl .u64 a2 (IntKind.u64.wrap (t115))) (IntKind.u64.wrap (t115)) ((shl .u64 a2 (IntKind.u64.wrap (t115))) / 4294967296) (Go.bits .and .u64 (shl .u64 a2 (IntKind.u64.wrap (t115))) 4294967295) (Go.bits .or .u64 (shl .u64 a0 (IntKind.u64.wrap (t115))) (shr .u64 a1 (IntKind.u64.wrap (64 - (IntKind.u64.wrap (t115)))))) ((shl .u64 a1 (IntKind.u64.wrap (t115))) / 4294967296) (Go.bits .and .u64 (shl .u64 a1 (IntKind.u64.wrap (t115))) 4294967295) (IntKind.u64.wrap (Int.tdiv (Go.bits .or .u64 (shl .u64 a0 (IntKind.u64.wrap (t115))) (shr .u64 a1 (IntKind.u64.wrap (64 - (IntKind.u64.wrap (t115)))))) ((shl .u64 a2 (IntKind.u64.wrap (t115))) / 4294967296))) (IntKind.u64.wrap ((Go.bits .or .u64 (shl .u64 a0 (IntKind.u64.wrap (t115))) (shr .u64 a1 (IntKind.u64.wrap (64 - (IntKind.u64.wrap (t115)))))) - (IntKind.u64.wrap ((IntKind.u64.wrap (Int.tdiv (Go.bits .or .u64 (shl .u64 a0 (IntKind.u64.wrap (t115))) (shr .u64 a1 (IntKind.u64.wrap (64 - (IntKind.u64.wrap (t115)))))) ((shl .u64 a2 (IntKind.u64.wrap (t115))) / 4294967296))) * ((shl .u64 a2 (IntKind.u64.wrap (t115))) / 4294967296))))))) else (none)) else (none)))))
end Go.Proofs.YtfpnglgipchjhaaDoor.PR
