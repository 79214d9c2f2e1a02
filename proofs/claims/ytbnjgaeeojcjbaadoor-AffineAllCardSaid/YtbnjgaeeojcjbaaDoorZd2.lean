import Derived.ArgAppend
import Derived.Below
import Derived.BigQuiet
import Derived.Deep.AppendLies
import Derived.Deep.CutBlock
import Derived.Deep.DeepCutAuto
import Derived.Deep.Draws
import Derived.Deep.LoopGhost
import Derived.Deep.OwnRows
import Derived.Deep.QuietTactic
import Derived.Deep.RegionHeld3
import Derived.KernelRfl
import Derived.Laws.Bits64
import Derived.Laws.BitsAllLaws
import Derived.Laws.BitsLemmas
import Derived.Laws.BytesArg
import Derived.Laws.Externs
import Derived.Laws.IdiomCopy
import Derived.Laws.MakeOwn
import Derived.Laws.OwnMore
import Derived.Laws.Rows
import Derived.Laws.Slices
import Derived.Laws.StructEq
import Derived.Laws.World
import Derived.Lib.AppendStr
import Derived.Lib.ConvBytes
import Derived.Lib.Mul64
import Derived.Maps.AppendAt
import Derived.OrdersHeld
import Derived.OwnWalk
import Derived.RowKit
import Derived.RowKit3
import Derived.Tactics
import Derived.WalkKit
import Derived.WalkLawsBesides
import Derived.WideLaws
import Derived.Test.YtbnjgaeeojcjbaaDoorProg
import Derived.Test.YtbnjgaeeojcjbaaDoorZd1
-- What this claim needs of the words, the printed walks and this session's texts (merged and cut by wip/prune.py).
namespace Go.Proofs.YtbnjgaeeojcjbaaDoor.PR
open Go.RowKit Go.Proofs.YtbnjgaeeojcjbaaDoorW.PrintWords Go.Proofs.YtbnjgaeeojcjbaaDoorW.PrintLast Go.Proofs.YtbnjgaeeojcjbaaDoorW.PrintMore
attribute [local go_sem] max2_int min2_int max_two min_two max_three min_three max_four min_four
set_option linter.unusedVariables false
set_option linter.unusedSimpArgs false
attribute [local go_sem high] eqA25
set_option maxHeartbeats 8000000 in
set_option maxRecDepth 100000 in
theorem pointillistref08_Right.calls (a0_0 : Int) (a0_1 : Int) (a0_2 : Int) (a0_3 : Int) (a0_4 : Int) (a0_5 : Int) (r : Bool) (w : World) (h : pointillistref08_Right.f a0_0 a0_1 a0_2 a0_3 a0_4 a0_5 = some r) :
  Calls Tryd.prog 13 #[.agg #[.int .i64 a0_0, .int .i64 a0_1, .int .i64 a0_2, .int .i64 a0_3, .int .i64 a0_4, .int .i64 a0_5]] w fun e w' => e = .returned (.bool r) ∧ Below w.heap.size w w' := by
 have hu23 := Tryd.underlying23
 have HB := Aside0.mk (Below.refl w.heap.size w)
 have H : ((pointillistref08_In.f a0_0).bind fun t182 => (if t182 = true then ((pointillistref08_In.f a0_1).bind fun t183 => (if t183 = true then ((pointillistref08_In.f a0_2).bind fun t184 => (if t184 = true then ((pointillistref08_In.f a0_3).bind fun t185 => (if t185 = true then ((pointillistref08_In.f a0_4).bind fun t186 => (if t186 = true then ((pointillistref08_In.f a0_5).bind fun t187 => (some t187)) else (some false))) else (some false))) else (some false))) else (some false))) else (some false))) = some r := h
 clear h
 replace H := Option.bind_eq_some_iff.mp H
 obtain ⟨t182, A20, H⟩ := H
 replace H : (if t182 = true then ((pointillistref08_In.f a0_1).bind fun t183 => (if t183 = true then ((pointillistref08_In.f a0_2).bind fun t184 => (if t184 = true then ((pointillistref08_In.f a0_3).bind fun t185 => (if t185 = true then ((pointillistref08_In.f a0_4).bind fun t186 => (if t186 = true then ((pointillistref08_In.f a0_5).bind fun t187 => (some t187)) else (some false))) else (some false))) else (some false))) else (some false))) else (some false)) = some r := H
 have A2 := Aside0.mk A20
 clear A20
 by_cases c3 : t182 = true
 ·
  subst c3
  have H1 : ((pointillistref08_In.f a0_1).bind fun t183 => (if t183 = true then ((pointillistref08_In.f a0_2).bind fun t184 => (if t184 = true then ((pointillistref08_In.f a0_3).bind fun t185 => (if t185 = true then ((pointillistref08_In.f a0_4).bind fun t186 => (if t186 = true then ((pointillistref08_In.f a0_5).bind fun t187 => (some t187)) else (some false))) else (some false))) else (some false))) else (some false))) = some r := by rw [if_pos rfl] at H; exact H
  clear H
  have H := H1
  clear H1
  replace H := Option.bind_eq_some_iff.mp H
  obtain ⟨t183, A40, H⟩ := H
  replace H : (if t183 = true then ((pointillistref08_In.f a0_2).bind fun t184 => (if t184 = true then ((pointillistref08_In.f a0_3).bind fun t185 => (if t185 = true then ((pointillistref08_In.f a0_4).bind fun t186 => (if t186 = true then ((pointillistref08_In.f a0_5).bind fun t187 => (some t187)) else (some false))) else (some false))) else (some false))) else (some false)) = some r := H
  have A4 := Aside0.mk A40
  clear A40
  by_cases c5 : t183 = true
  ·
   subst c5
   have H1 : ((pointillistref08_In.f a0_2).bind fun t184 => (if t184 = true then ((pointillistref08_In.f a0_3).bind fun t185 => (if t185 = true then ((pointillistref08_In.f a0_4).bind fun t186 => (if t186 = true then ((pointillistref08_In.f a0_5).bind fun t187 => (some t187)) else (some false))) else (some false))) else (some false))) = some r := by rw [if_pos rfl] at H; exact H
   clear H
   have H := H1
   clear H1
   replace H := Option.bind_eq_some_iff.mp H
   obtain ⟨t184, A60, H⟩ := H
   replace H : (if t184 = true then ((pointillistref08_In.f a0_3).bind fun t185 => (if t185 = true then ((pointillistref08_In.f a0_4).bind fun t186 => (if t186 = true then ((pointillistref08_In.f a0_5).bind fun t187 => (some t187)) else (some false))) else (some false))) else (some false)) = some r := H
   have A6 := Aside0.mk A60
   clear A60
   by_cases c7 : t184 = true
   ·
    subst c7
    have H1 : ((pointillistref08_In.f a0_3).bind fun t185 => (if t185 = true then ((pointillistref08_In.f a0_4).bind fun t186 => (if t186 = true then ((pointillistref08_In.f a0_5).bind fun t187 => (some t187)) else (some false))) else (some false))) = some r := by rw [if_pos rfl] at H; exact H
    clear H
    have H := H1
    clear H1
    replace H := Option.bind_eq_some_iff.mp H
    obtain ⟨t185, A80, H⟩ := H
    replace H : (if t185 = true then ((pointillistref08_In.f a0_4).bind fun t186 => (if t186 = true then ((pointillistref08_In.f a0_5).bind fun t187 => (some t187)) else (some false))) else (some false)) = some r := H
    have A8 := Aside0.mk A80
    clear A80
    by_cases c9 : t185 = true
    ·
     subst c9
     have H1 : ((pointillistref08_In.f a0_4).bind fun t186 => (if t186 = true then ((pointillistref08_In.f a0_5).bind fun t187 => (some t187)) else (some false))) = some r := by rw [if_pos rfl] at H; exact H
     clear H
     have H := H1
     clear H1
     replace H := Option.bind_eq_some_iff.mp H
     obtain ⟨t186, A100, H⟩ := H
     replace H : (if t186 = true then ((pointillistref08_In.f a0_5).bind fun t187 => (some t187)) else (some false)) = some r := H
     have A10 := Aside0.mk A100
     clear A100
     by_cases c11 : t186 = true
     ·
      subst c11
      have H1 : ((pointillistref08_In.f a0_5).bind fun t187 => (some t187)) = some r := by rw [if_pos rfl] at H; exact H
      clear H
      have H := H1
      clear H1
      replace H := Option.bind_eq_some_iff.mp H
      obtain ⟨t187, A120, H⟩ := H
      replace H : (some t187) = some r := H
      have A12 := Aside0.mk A120
      clear A120
      obtain rfl := Option.some.inj H
      go_enter Tryd.func13, Tryd.ntmps13
      go_wp2_with (first | ((with_reducible refine gate_dst (N := 1) rfl ?_); refine box_event ?hg (N := 1) ?hd (cs := #[.int .i64 a0_0, .int .i64 a0_1, .int .i64 a0_2, .int .i64 a0_3, .int .i64 a0_4, .int .i64 a0_5]) (t := 23) ?hr ?_; (case hd => rfl); (case hg => rfl); (case hr => first | (go_simp; done) | (go_simp; rfl)); intro gb181 hg w13 hbox hb; have n0_ := Aside0.mk (below_step (wq HB.out) hb); have n1_ := Aside0.mk (hbox); have n2_ := Aside0.mk ((by rw [hg]; exact (below_size (wq HB.out)) : w.heap.size ≤ gb181)); have n3_ := n2_; clear HB; have HB := n0_; have BK181 := n1_; have GW181 := n2_; have GE181 := n3_; clear n0_ n1_ n2_ n3_ hb hbox hg; have hcz14_0 : w13.cell? ⟨gb181, 0, none⟩ = some (.int .i64 a0_0) := (blk_cell BK181.out 0).trans rfl; have hcz14_1 : w13.cell? ⟨gb181, 1, none⟩ = some (.int .i64 a0_1) := (blk_cell BK181.out 1).trans rfl; have hcz14_2 : w13.cell? ⟨gb181, 2, none⟩ = some (.int .i64 a0_2) := (blk_cell BK181.out 2).trans rfl; have hcz14_3 : w13.cell? ⟨gb181, 3, none⟩ = some (.int .i64 a0_3) := (blk_cell BK181.out 3).trans rfl; have hcz14_4 : w13.cell? ⟨gb181, 4, none⟩ = some (.int .i64 a0_4) := (blk_cell BK181.out 4).trans rfl; have hcz14_5 : w13.cell? ⟨gb181, 5, none⟩ = some (.int .i64 a0_5) := (blk_cell BK181.out 5).trans rfl; have hfz14_0 := blk_frozen BK181.out 0; have hfz14_1 := blk_frozen BK181.out 1; have hfz14_2 := blk_frozen BK181.out 2; have hfz14_3 := blk_frozen BK181.out 3; have hfz14_4 := blk_frozen BK181.out 4; have hfz14_5 := blk_frozen BK181.out 5) | ((with_reducible refine gate_callee (f := 14) rfl ?_); refine goesL_ (some 5) rfl rfl Tryd.func14 (by kernel_rfl) rfl #[.int .i64 a0_0] rfl (by (try simp only [List.map_toArray, List.map_cons, List.map_nil]); first | done | rfl | (simp only [List.length_drop, List.length_take]; rfl)) ?_; (with_reducible refine (pointillistref08_In.calls a0_0 true _ A2.out).mono ?_); rintro e w' ⟨rfl, ⟨nd, rfl⟩⟩; refine ⟨_, rfl, ?_⟩) | (go_at_call 14; (with_reducible refine (pointillistref08_In.calls a0_1 true _ A4.out).mono ?_); rintro e w' ⟨rfl, ⟨nd, rfl⟩⟩) | (go_at_call 14; (with_reducible refine (pointillistref08_In.calls a0_2 true _ A6.out).mono ?_); rintro e w' ⟨rfl, ⟨nd, rfl⟩⟩) | (go_at_call 14; (with_reducible refine (pointillistref08_In.calls a0_3 true _ A8.out).mono ?_); rintro e w' ⟨rfl, ⟨nd, rfl⟩⟩) | (go_at_call 14; (with_reducible refine (pointillistref08_In.calls a0_4 true _ A10.out).mono ?_); rintro e w' ⟨rfl, ⟨nd, rfl⟩⟩) | (go_at_call 14; (with_reducible refine (pointillistref08_In.calls a0_5 t187 _ A12.out).mono ?_); rintro e w' ⟨rfl, ⟨nd, rfl⟩⟩))
      go_ret
      exact ⟨by first | rfl | (simp [errW_none, errW_some] <;> rfl) | (simp [*, errW_none, errW_some] <;> rfl), by exact wq HB.out⟩
     ·
      replace c11 := Bool.eq_false_iff.mpr c11
      subst c11
      have H1 : (some false) = some r := by rw [if_neg (show ¬ (false = true) by decide)] at H; exact H
      clear H
      have H := H1
      clear H1
      obtain rfl := Option.some.inj H
      go_enter Tryd.func13, Tryd.ntmps13
      go_wp2_with (first | ((with_reducible refine gate_dst (N := 1) rfl ?_); refine box_event ?hg (N := 1) ?hd (cs := #[.int .i64 a0_0, .int .i64 a0_1, .int .i64 a0_2, .int .i64 a0_3, .int .i64 a0_4, .int .i64 a0_5]) (t := 23) ?hr ?_; (case hd => rfl); (case hg => rfl); (case hr => first | (go_simp; done) | (go_simp; rfl)); intro gb181 hg w15 hbox hb; have n0_ := Aside0.mk (below_step (wq HB.out) hb); have n1_ := Aside0.mk (hbox); have n2_ := Aside0.mk ((by rw [hg]; exact (below_size (wq HB.out)) : w.heap.size ≤ gb181)); have n3_ := n2_; clear HB; have HB := n0_; have BK181 := n1_; have GW181 := n2_; have GE181 := n3_; clear n0_ n1_ n2_ n3_ hb hbox hg; have hcz16_0 : w15.cell? ⟨gb181, 0, none⟩ = some (.int .i64 a0_0) := (blk_cell BK181.out 0).trans rfl; have hcz16_1 : w15.cell? ⟨gb181, 1, none⟩ = some (.int .i64 a0_1) := (blk_cell BK181.out 1).trans rfl; have hcz16_2 : w15.cell? ⟨gb181, 2, none⟩ = some (.int .i64 a0_2) := (blk_cell BK181.out 2).trans rfl; have hcz16_3 : w15.cell? ⟨gb181, 3, none⟩ = some (.int .i64 a0_3) := (blk_cell BK181.out 3).trans rfl; have hcz16_4 : w15.cell? ⟨gb181, 4, none⟩ = some (.int .i64 a0_4) := (blk_cell BK181.out 4).trans rfl; have hcz16_5 : w15.cell? ⟨gb181, 5, none⟩ = some (.int .i64 a0_5) := (blk_cell BK181.out 5).trans rfl; have hfz16_0 := blk_frozen BK181.out 0; have hfz16_1 := blk_frozen BK181.out 1; have hfz16_2 := blk_frozen BK181.out 2; have hfz16_3 := blk_frozen BK181.out 3; have hfz16_4 := blk_frozen BK181.out 4; have hfz16_5 := blk_frozen BK181.out 5) | ((with_reducible refine gate_callee (f := 14) rfl ?_); refine goesL_ (some 5) rfl rfl Tryd.func14 (by kernel_rfl) rfl #[.int .i64 a0_0] rfl (by (try simp only [List.map_toArray, List.map_cons, List.map_nil]); first | done | rfl | (simp only [List.length_drop, List.length_take]; rfl)) ?_; (with_reducible refine (pointillistref08_In.calls a0_0 true _ A2.out).mono ?_); rintro e w' ⟨rfl, ⟨nd, rfl⟩⟩; refine ⟨_, rfl, ?_⟩) | (go_at_call 14; (with_reducible refine (pointillistref08_In.calls a0_1 true _ A4.out).mono ?_); rintro e w' ⟨rfl, ⟨nd, rfl⟩⟩) | (go_at_call 14; (with_reducible refine (pointillistref08_In.calls a0_2 true _ A6.out).mono ?_); rintro e w' ⟨rfl, ⟨nd, rfl⟩⟩) | (go_at_call 14; (with_reducible refine (pointillistref08_In.calls a0_3 true _ A8.out).mono ?_); rintro e w' ⟨rfl, ⟨nd, rfl⟩⟩) | (go_at_call 14; (with_reducible refine (pointillistref08_In.calls a0_4 false _ A10.out).mono ?_); rintro e w' ⟨rfl, ⟨nd, rfl⟩⟩))
      go_ret
      exact ⟨by first | rfl | (simp [errW_none, errW_some] <;> rfl) | (simp [*, errW_none, errW_some] <;> rfl), by exact wq HB.out⟩
    ·
     replace c9 := Bool.eq_false_iff.mpr c9
     subst c9
     have H1 : (some false) = some r := by rw [if_neg (show ¬ (false = true) by decide)] at H; exact H
     clear H
     have H := H1
     clear H1
     obtain rfl := Option.some.inj H
     go_enter Tryd.func13, Tryd.ntmps13
     go_wp2_with (first | ((with_reducible refine gate_dst (N := 1) rfl ?_); refine box_event ?hg (N := 1) ?hd (cs := #[.int .i64 a0_0, .int .i64 a0_1, .int .i64 a0_2, .int .i64 a0_3, .int .i64 a0_4, .int .i64 a0_5]) (t := 23) ?hr ?_; (case hd => rfl); (case hg => rfl); (case hr => first | (go_simp; done) | (go_simp; rfl)); intro gb181 hg w17 hbox hb; have n0_ := Aside0.mk (below_step (wq HB.out) hb); have n1_ := Aside0.mk (hbox); have n2_ := Aside0.mk ((by rw [hg]; exact (below_size (wq HB.out)) : w.heap.size ≤ gb181)); have n3_ := n2_; clear HB; have HB := n0_; have BK181 := n1_; have GW181 := n2_; have GE181 := n3_; clear n0_ n1_ n2_ n3_ hb hbox hg; have hcz18_0 : w17.cell? ⟨gb181, 0, none⟩ = some (.int .i64 a0_0) := (blk_cell BK181.out 0).trans rfl; have hcz18_1 : w17.cell? ⟨gb181, 1, none⟩ = some (.int .i64 a0_1) := (blk_cell BK181.out 1).trans rfl; have hcz18_2 : w17.cell? ⟨gb181, 2, none⟩ = some (.int .i64 a0_2) := (blk_cell BK181.out 2).trans rfl; have hcz18_3 : w17.cell? ⟨gb181, 3, none⟩ = some (.int .i64 a0_3) := (blk_cell BK181.out 3).trans rfl; have hcz18_4 : w17.cell? ⟨gb181, 4, none⟩ = some (.int .i64 a0_4) := (blk_cell BK181.out 4).trans rfl; have hcz18_5 : w17.cell? ⟨gb181, 5, none⟩ = some (.int .i64 a0_5) := (blk_cell BK181.out 5).trans rfl; have hfz18_0 := blk_frozen BK181.out 0; have hfz18_1 := blk_frozen BK181.out 1; have hfz18_2 := blk_frozen BK181.out 2; have hfz18_3 := blk_frozen BK181.out 3; have hfz18_4 := blk_frozen BK181.out 4; have hfz18_5 := blk_frozen BK181.out 5) | ((with_reducible refine gate_callee (f := 14) rfl ?_); refine goesL_ (some 5) rfl rfl Tryd.func14 (by kernel_rfl) rfl #[.int .i64 a0_0] rfl (by (try simp only [List.map_toArray, List.map_cons, List.map_nil]); first | done | rfl | (simp only [List.length_drop, List.length_take]; rfl)) ?_; (with_reducible refine (pointillistref08_In.calls a0_0 true _ A2.out).mono ?_); rintro e w' ⟨rfl, ⟨nd, rfl⟩⟩; refine ⟨_, rfl, ?_⟩) | (go_at_call 14; (with_reducible refine (pointillistref08_In.calls a0_1 true _ A4.out).mono ?_); rintro e w' ⟨rfl, ⟨nd, rfl⟩⟩) | (go_at_call 14; (with_reducible refine (pointillistref08_In.calls a0_2 true _ A6.out).mono ?_); rintro e w' ⟨rfl, ⟨nd, rfl⟩⟩) | (go_at_call 14; (with_reducible refine (pointillistref08_In.calls a0_3 false _ A8.out).mono ?_); rintro e w' ⟨rfl, ⟨nd, rfl⟩⟩))
     go_ret
     exact ⟨by first | rfl | (simp [errW_none, errW_some] <;> rfl) | (simp [*, errW_none, errW_some] <;> rfl), by exact wq HB.out⟩
   ·
    replace c7 := Bool.eq_false_iff.mpr c7
    subst c7
    have H1 : (some false) = some r := by rw [if_neg (show ¬ (false = true) by decide)] at H; exact H
    clear H
    have H := H1
    clear H1
    obtain rfl := Option.some.inj H
    go_enter Tryd.func13, Tryd.ntmps13
    go_wp2_with (first | ((with_reducible refine gate_dst (N := 1) rfl ?_); refine box_event ?hg (N := 1) ?hd (cs := #[.int .i64 a0_0, .int .i64 a0_1, .int .i64 a0_2, .int .i64 a0_3, .int .i64 a0_4, .int .i64 a0_5]) (t := 23) ?hr ?_; (case hd => rfl); (case hg => rfl); (case hr => first | (go_simp; done) | (go_simp; rfl)); intro gb181 hg w19 hbox hb; have n0_ := Aside0.mk (below_step (wq HB.out) hb); have n1_ := Aside0.mk (hbox); have n2_ := Aside0.mk ((by rw [hg]; exact (below_size (wq HB.out)) : w.heap.size ≤ gb181)); have n3_ := n2_; clear HB; have HB := n0_; have BK181 := n1_; have GW181 := n2_; have GE181 := n3_; clear n0_ n1_ n2_ n3_ hb hbox hg; have hcz20_0 : w19.cell? ⟨gb181, 0, none⟩ = some (.int .i64 a0_0) := (blk_cell BK181.out 0).trans rfl; have hcz20_1 : w19.cell? ⟨gb181, 1, none⟩ = some (.int .i64 a0_1) := (blk_cell BK181.out 1).trans rfl; have hcz20_2 : w19.cell? ⟨gb181, 2, none⟩ = some (.int .i64 a0_2) := (blk_cell BK181.out 2).trans rfl; have hcz20_3 : w19.cell? ⟨gb181, 3, none⟩ = some (.int .i64 a0_3) := (blk_cell BK181.out 3).trans rfl; have hcz20_4 : w19.cell? ⟨gb181, 4, none⟩ = some (.int .i64 a0_4) := (blk_cell BK181.out 4).trans rfl; have hcz20_5 : w19.cell? ⟨gb181, 5, none⟩ = some (.int .i64 a0_5) := (blk_cell BK181.out 5).trans rfl; have hfz20_0 := blk_frozen BK181.out 0; have hfz20_1 := blk_frozen BK181.out 1; have hfz20_2 := blk_frozen BK181.out 2; have hfz20_3 := blk_frozen BK181.out 3; have hfz20_4 := blk_frozen BK181.out 4; have hfz20_5 := blk_frozen BK181.out 5) | ((with_reducible refine gate_callee (f := 14) rfl ?_); refine goesL_ (some 5) rfl rfl Tryd.func14 (by kernel_rfl) rfl #[.int .i64 a0_0] rfl (by (try simp only [List.map_toArray, List.map_cons, List.map_nil]); first | done | rfl | (simp only [List.length_drop, List.length_take]; rfl)) ?_; (with_reducible refine (pointillistref08_In.calls a0_0 true _ A2.out).mono ?_); rintro e w' ⟨rfl, ⟨nd, rfl⟩⟩; refine ⟨_, rfl, ?_⟩) | (go_at_call 14; (with_reducible refine (pointillistref08_In.calls a0_1 true _ A4.out).mono ?_); rintro e w' ⟨rfl, ⟨nd, rfl⟩⟩) | (go_at_call 14; (with_reducible refine (pointillistref08_In.calls a0_2 false _ A6.out).mono ?_); rintro e w' ⟨rfl, ⟨nd, rfl⟩⟩))
    go_ret
    exact ⟨by first | rfl | (simp [errW_none, errW_some] <;> rfl) | (simp [*, errW_none, errW_some] <;> rfl), by exact wq HB.out⟩
  ·
   replace c5 := Bool.eq_false_iff.mpr c5
   subst c5
   have H1 : (some false) = some r := by rw [if_neg (show ¬ (false = true) by decide)] at H; exact H
   clear H
   have H := H1
   clear H1
   obtain rfl := Option.some.inj H
   go_enter Tryd.func13, Tryd.ntmps13
   go_wp2_with (first | ((with_reducible refine gate_dst (N := 1) rfl ?_); refine box_event ?hg (N := 1) ?hd (cs := #[.int .i64 a0_0, .int .i64 a0_1, .int .i64 a0_2, .int .i64 a0_3, .int .i64 a0_4, .int .i64 a0_5]) (t := 23) ?hr ?_; (case hd => rfl); (case hg => rfl); (case hr => first | (go_simp; done) | (go_simp; rfl)); intro gb181 hg w21 hbox hb; have n0_ := Aside0.mk (below_step (wq HB.out) hb); have n1_ := Aside0.mk (hbox); have n2_ := Aside0.mk ((by rw [hg]; exact (below_size (wq HB.out)) : w.heap.size ≤ gb181)); have n3_ := n2_; clear HB; have HB := n0_; have BK181 := n1_; have GW181 := n2_; have GE181 := n3_; clear n0_ n1_ n2_ n3_ hb hbox hg; have hcz22_0 : w21.cell? ⟨gb181, 0, none⟩ = some (.int .i64 a0_0) := (blk_cell BK181.out 0).trans rfl; have hcz22_1 : w21.cell? ⟨gb181, 1, none⟩ = some (.int .i64 a0_1) := (blk_cell BK181.out 1).trans rfl; have hcz22_2 : w21.cell? ⟨gb181, 2, none⟩ = some (.int .i64 a0_2) := (blk_cell BK181.out 2).trans rfl; have hcz22_3 : w21.cell? ⟨gb181, 3, none⟩ = some (.int .i64 a0_3) := (blk_cell BK181.out 3).trans rfl; have hcz22_4 : w21.cell? ⟨gb181, 4, none⟩ = some (.int .i64 a0_4) := (blk_cell BK181.out 4).trans rfl; have hcz22_5 : w21.cell? ⟨gb181, 5, none⟩ = some (.int .i64 a0_5) := (blk_cell BK181.out 5).trans rfl; have hfz22_0 := blk_frozen BK181.out 0; have hfz22_1 := blk_frozen BK181.out 1; have hfz22_2 := blk_frozen BK181.out 2; have hfz22_3 := blk_frozen BK181.out 3; have hfz22_4 := blk_frozen BK181.out 4; have hfz22_5 := blk_frozen BK181.out 5) | ((with_reducible refine gate_callee (f := 14) rfl ?_); refine goesL_ (some 5) rfl rfl Tryd.func14 (by kernel_rfl) rfl #[.int .i64 a0_0] rfl (by (try simp only [List.map_toArray, List.map_cons, List.map_nil]); first | done | rfl | (simp only [List.length_drop, List.length_take]; rfl)) ?_; (with_reducible refine (pointillistref08_In.calls a0_0 true _ A2.out).mono ?_); rintro e w' ⟨rfl, ⟨nd, rfl⟩⟩; refine ⟨_, rfl, ?_⟩) | (go_at_call 14; (with_reducible refine (pointillistref08_In.calls a0_1 false _ A4.out).mono ?_); rintro e w' ⟨rfl, ⟨nd, rfl⟩⟩))
   go_ret
   exact ⟨by first | rfl | (simp [errW_none, errW_some] <;> rfl) | (simp [*, errW_none, errW_some] <;> rfl), by exact wq HB.out⟩
 ·
  replace c3 := Bool.eq_false_iff.mpr c3
  subst c3
  have H1 : (some false) = some r := by rw [if_neg (show ¬ (false = true) by decide)] at H; exact H
  clear H
  have H := H1
  clear H1
  obtain rfl := Option.some.inj H
  go_enter Tryd.func13, Tryd.ntmps13
  go_wp2_with (first | ((with_reducible refine gate_dst (N := 1) rfl ?_); refine box_event ?hg (N := 1) ?hd (cs := #[.int .i64 a0_0, .int .i64 a0_1, .int .i64 a0_2, .int .i64 a0_3, .int .i64 a0_4, .int .i64 a0_5]) (t := 23) ?hr ?_; (case hd => rfl); (case hg => rfl); (case hr => first | (go_simp; done) | (go_simp; rfl)); intro gb181 hg w23 hbox hb; have n0_ := Aside0.mk (below_step (wq HB.out) hb); have n1_ := Aside0.mk (hbox); have n2_ := Aside0.mk ((by rw [hg]; exact (below_size (wq HB.out)) : w.heap.size ≤ gb181)); have n3_ := n2_; clear HB; have HB := n0_; have BK181 := n1_; have GW181 := n2_; have GE181 := n3_; clear n0_ n1_ n2_ n3_ hb hbox hg; have hcz24_0 : w23.cell? ⟨gb181, 0, none⟩ = some (.int .i64 a0_0) := (blk_cell BK181.out 0).trans rfl; have hcz24_1 : w23.cell? ⟨gb181, 1, none⟩ = some (.int .i64 a0_1) := (blk_cell BK181.out 1).trans rfl; have hcz24_2 : w23.cell? ⟨gb181, 2, none⟩ = some (.int .i64 a0_2) := (blk_cell BK181.out 2).trans rfl; have hcz24_3 : w23.cell? ⟨gb181, 3, none⟩ = some (.int .i64 a0_3) := (blk_cell BK181.out 3).trans rfl; have hcz24_4 : w23.cell? ⟨gb181, 4, none⟩ = some (.int .i64 a0_4) := (blk_cell BK181.out 4).trans rfl; have hcz24_5 : w23.cell? ⟨gb181, 5, none⟩ = some (.int .i64 a0_5) := (blk_cell BK181.out 5).trans rfl; have hfz24_0 := blk_frozen BK181.out 0; have hfz24_1 := blk_frozen BK181.out 1; have hfz24_2 := blk_frozen BK181.out 2; have hfz24_3 := blk_frozen BK181.out 3; have hfz24_4 := blk_frozen BK181.out 4; have hfz24_5 := blk_frozen BK181.out 5) | ((with_reducible refine gate_callee (f := 14) rfl ?_); refine goesL_ (some 5) rfl rfl Tryd.func14 (by kernel_rfl) rfl #[.int .i64 a0_0] rfl (by (try simp only [List.map_toArray, List.map_cons, List.map_nil]); first | done | rfl | (simp only [List.length_drop, List.length_take]; rfl)) ?_; (with_reducible refine (pointillistref08_In.calls a0_0 false _ A2.out).mono ?_); rintro e w' ⟨rfl, ⟨nd, rfl⟩⟩; refine ⟨_, rfl, ?_⟩))
  go_ret
  exact ⟨by first | rfl | (simp [errW_none, errW_some] <;> rfl) | (simp [*, errW_none, errW_some] <;> rfl), by exact wq HB.out⟩
end Go.Proofs.YtbnjgaeeojcjbaaDoor.PR
namespace Go.Proofs.YtbnjgaeeojcjbaaDoor.PR
open Go.RowKit Go.Proofs.YtbnjgaeeojcjbaaDoorW.PrintWords Go.Proofs.YtbnjgaeeojcjbaaDoorW.PrintLast Go.Proofs.YtbnjgaeeojcjbaaDoorW.PrintMore
attribute [local go_sem] max2_int min2_int max_two min_two max_three min_three max_four min_four
set_option linter.unusedVariables false
set_option linter.unusedSimpArgs false
end Go.Proofs.YtbnjgaeeojcjbaaDoor.PR
namespace Go.Proofs.YtbnjgaeeojcjbaaDoor.PR
open Go.RowKit Go.Proofs.YtbnjgaeeojcjbaaDoorW.PrintWords Go.Proofs.YtbnjgaeeojcjbaaDoorW.PrintLast Go.Proofs.YtbnjgaeeojcjbaaDoorW.PrintMore
def lin (a x b y c : Int) : Int := near (a * x + b * y) 16 + c
def inZ (a : Int) : Prop := -4294967296 < a ∧ a < 4294967296
instance (a : Int) : Decidable (inZ a) := inferInstanceAs (Decidable (_ ∧ _))
theorem inB_eq (a : Int) : inB a = decide (inZ a) := by unfold inB; rw [Bool.eq_iff_iff, Bool.and_eq_true, decide_eq_true_eq, decide_eq_true_eq]; exact ⟨fun h => decide_eq_true (p := inZ a) h, fun h => of_decide_eq_true (p := inZ a) h⟩
theorem inZ_i64 {a : Int} (h : inZ a) : I64 a := by unfold inZ I64 at *; omega
theorem mul_le_64 {a x : Int} (ha : inZ a) (hx : inZ x) : -18446744073709551616 ≤ a * x ∧ a * x ≤ 18446744073709551616 := by
  unfold inZ at *
  by_cases h1 : 0 ≤ a <;> by_cases h2 : 0 ≤ x
  · have := Int.mul_le_mul (show a ≤ 4294967296 by omega) (show x ≤ 4294967296 by omega) h2 (by omega)
    have := Int.mul_nonneg h1 h2
    omega
  · have h3 : a * (-x) ≤ 4294967296 * 4294967296 := Int.mul_le_mul (by omega) (by omega) (by omega) (by omega)
    have h4 : 0 ≤ a * (-x) := Int.mul_nonneg h1 (by omega)
    rw [Int.mul_neg] at h3 h4
    omega
  · have h3 : (-a) * x ≤ 4294967296 * 4294967296 := Int.mul_le_mul (by omega) (by omega) (by omega) (by omega)
    have h4 : 0 ≤ (-a) * x := Int.mul_nonneg (by omega) h2
    rw [Int.neg_mul] at h3 h4
    omega
  · have h3 : (-a) * (-x) ≤ 4294967296 * 4294967296 := Int.mul_le_mul (by omega) (by omega) (by omega) (by omega)
    have h4 : 0 ≤ (-a) * (-x) := Int.mul_nonneg (by omega) (by omega)
    rw [Int.neg_mul_neg] at h3 h4
    omega
theorem near16 (x : Int) : near x 16 = (x + 32768) / 65536 := rfl
theorem lin_le {a x b y c : Int} (ha : inZ a) (hx : inZ x) (hb : inZ b) (hy : inZ y) (hc : inZ c) : I64 (near (a * x + b * y) 16) ∧ I64 (lin a x b y c) := by
  have h1 := mul_le_64 ha hx
  have h2 := mul_le_64 hb hy
  unfold lin
  rw [near16]
  unfold I64 inZ at *
  omega
theorem number_eq (k : Nat) {a x b y c : Int} (ha : inZ a) (hx : inZ x) (hb : inZ b) (hy : inZ y) (hc : inZ c) :
    affine_number.r (k + 3) a x b y c = some (if inZ (lin a x b y c) then .ok (lin a x b y c) else .error 2) := by
  unfold affine_number.r
  obtain ⟨h1, h2⟩ := lin_le ha hx hb hy hc
  have hd := dot_eq (k + 1) a x b y 16 (by decide) (inZ_i64 ha) (inZ_i64 hx) (inZ_i64 hb) (inZ_i64 hy)
  have f1 : fit (near (a * x + b * y) 16) = (near (a * x + b * y) 16, true) := if_pos h1
  have f2 : fit (lin a x b y c) = (lin a x b y c, true) := if_pos h2
  have e16 : ((16 : Nat) : Int) = 16 := rfl
  rw [f1, e16] at hd
  rw [hd]
  simp only [Option.bind_some, if_true]
  rw [add2_eq k _ _ h1 (inZ_i64 hc)]
  change (some (fit (lin a x b y c))).bind _ = _
  rw [f2]
  simp only [Option.bind_some, if_true]
  rw [within_eq [lin a x b y c] (by simp) (k + 3) (by simp)]
  simp only [Option.bind_some, List.all_cons, List.all_nil, Bool.and_true]
  rw [inB_eq]
  by_cases h : inZ (lin a x b y c)
  · simp [h]
  · simp [h]
def rightM (a0 a1 a2 a3 a4 a5 : Int) : Prop := inZ a0 ∧ inZ a1 ∧ inZ a2 ∧ inZ a3 ∧ inZ a4 ∧ inZ a5
instance (a0 a1 a2 a3 a4 a5 : Int) : Decidable (rightM a0 a1 a2 a3 a4 a5) := inferInstanceAs (Decidable (_ ∧ _))
theorem right_eq (k : Nat) (a0 a1 a2 a3 a4 a5 : Int) : affine_Right.f (k + 7) a0 a1 a2 a3 a4 a5 = some (decide (rightM a0 a1 a2 a3 a4 a5)) := by
  unfold affine_Right.f
  rw [within_eq _ (by simp) (k + 7) (by simp)]
  simp only [Option.bind_some, List.all_cons, List.all_nil, Bool.and_true, inB_eq]
  congr 1
  rw [Bool.eq_iff_iff]
  simp only [Bool.and_eq_true, decide_eq_true_eq]
  exact Iff.rfl
def apply (a0 a1 a2 a3 a4 a5 x y : Int) : Int × Int × Int :=
  if rightM a0 a1 a2 a3 a4 a5 ∧ inZ x ∧ inZ y then
    if inZ (lin a0 x a2 y a4) ∧ inZ (lin a1 x a3 y a5) then (lin a0 x a2 y a4, lin a1 x a3 y a5, 0) else (0, 0, 2)
  else (0, 0, 1)
theorem apply_eq (k : Nat) (a0 a1 a2 a3 a4 a5 x y : Int) : affine_Apply.f (k + 7) a0 a1 a2 a3 a4 a5 x y = some (apply a0 a1 a2 a3 a4 a5 x y) := by
  unfold affine_Apply.f affine_moved.r apply
  rw [right_eq]
  simp only [Option.bind_some]
  by_cases hr : rightM a0 a1 a2 a3 a4 a5
  · rw [if_pos (decide_eq_true hr), within_eq _ (by simp) (k + 7) (by simp)]
    simp only [Option.bind_some, List.all_cons, List.all_nil, Bool.and_true, inB_eq]
    by_cases hp : inZ x ∧ inZ y
    · obtain ⟨hx, hy⟩ := hp
      have hr' := hr
      obtain ⟨r0, r1, r2, r3, r4, r5⟩ := hr'
      rw [if_pos (by simp [hx, hy]), if_pos ⟨hr, hx, hy⟩, number_eq (k + 4) r0 hx r2 hy r4]
      simp only [Option.bind_some]
      by_cases h1 : inZ (lin a0 x a2 y a4)
      · rw [if_pos h1]
        simp only
        rw [number_eq (k + 4) r1 hx r3 hy r5]
        simp only [Option.bind_some]
        by_cases h2 : inZ (lin a1 x a3 y a5)
        · rw [if_pos h2, if_pos ⟨h1, h2⟩]
          rfl
        · rw [if_neg h2, if_neg (fun h => h2 h.2)]
          rfl
      · rw [if_neg h1, if_neg (fun h => h1 h.1)]
        rfl
    · rw [if_neg (by simpa using hp), if_neg (fun h => hp h.2)]
      rfl
  · rw [if_neg (by simpa using hr), if_neg (fun h => hr h.1)]
    rfl
end Go.Proofs.YtbnjgaeeojcjbaaDoor.PR
namespace Go.Proofs.YtbnjgaeeojcjbaaDoor.PR
open Go.RowKit Go.Proofs.YtbnjgaeeojcjbaaDoorW.PrintWords
def dg (n : Nat) : List Int := if n = 0 then [] else ((n % 65536 : Nat) : Int) :: dg (n / 65536)
termination_by n
decreasing_by omega
def val : List Int → Nat
  | [] => 0
  | a :: l => a.toNat + 65536 * val l
def Okd (l : List Int) : Prop := ∀ a ∈ l, 0 ≤ a ∧ a < 65536
theorem dg_0 : dg 0 = [] := by rw [dg]; rfl
theorem dg_pos {n : Nat} (h : 0 < n) : dg n = ((n % 65536 : Nat) : Int) :: dg (n / 65536) := by rw [dg, if_neg (by omega)]
theorem Okd.nil : Okd [] := fun _ h => by cases h
theorem Okd.cons {a : Int} {l : List Int} (h0 : 0 ≤ a) (h1 : a < 65536) (h : Okd l) : Okd (a :: l) := by
  intro b hb
  rcases List.mem_cons.mp hb with rfl | hb
  · exact ⟨h0, h1⟩
  · exact h b hb
theorem Okd.head {a : Int} {l : List Int} (h : Okd (a :: l)) : 0 ≤ a ∧ a < 65536 := h a (List.mem_cons_self ..)
theorem Okd.tail {a : Int} {l : List Int} (h : Okd (a :: l)) : Okd l := fun b hb => h b (List.mem_cons_of_mem _ hb)
theorem Okd.app {l r : List Int} (h : Okd l) (h2 : Okd r) : Okd (l ++ r) := by
  intro b hb
  rcases List.mem_append.mp hb with hb | hb
  · exact h b hb
  · exact h2 b hb
theorem Okd.snoc {l : List Int} (h : Okd l) {a : Int} (h0 : 0 ≤ a) (h1 : a < 65536) : Okd (l ++ [a]) := h.app (Okd.cons h0 h1 Okd.nil)
theorem Okd.left {l r : List Int} (h : Okd (l ++ r)) : Okd l := fun b hb => h b (List.mem_append_left _ hb)
theorem Okd.zeros (n : Nat) : Okd (List.replicate n 0) := by
  intro b hb
  rw [List.eq_of_mem_replicate hb]
  decide
theorem Okd.drop {l : List Int} (h : Okd l) (n : Nat) : Okd (l.drop n) := fun b hb => h b (List.mem_of_mem_drop hb)
theorem dg_ok (n : Nat) : Okd (dg n) := by
  induction n using Nat.strongRecOn with
  | _ n ih =>
    rcases Nat.eq_zero_or_pos n with h | h
    · rw [h, dg_0]; exact Okd.nil
    · rw [dg_pos h]; exact Okd.cons (by omega) (by omega) (ih _ (by omega))
theorem val_dg (n : Nat) : val (dg n) = n := by
  induction n using Nat.strongRecOn with
  | _ n ih =>
    rcases Nat.eq_zero_or_pos n with h | h
    · rw [h, dg_0]; rfl
    · rw [dg_pos h]
      show (((n % 65536 : Nat) : Int)).toNat + 65536 * val (dg (n / 65536)) = n
      rw [ih _ (by omega)]
      omega
theorem val_app (l r : List Int) : val (l ++ r) = val l + 65536 ^ l.length * val r := by
  induction l with
  | nil => simp [val]
  | cons a l ih =>
    show a.toNat + 65536 * val (l ++ r) = a.toNat + 65536 * val l + 65536 ^ (l.length + 1) * val r
    rw [ih, Nat.pow_succ, Nat.mul_add, Nat.add_assoc]
    congr 2
    rw [← Nat.mul_assoc]
    congr 1
    rw [Nat.mul_comm]
theorem val_zeros (n : Nat) : val (List.replicate n 0) = 0 := by
  induction n with
  | zero => rfl
  | succ n ih => rw [List.replicate_succ]; show (0 : Int).toNat + 65536 * val _ = 0; rw [ih]; rfl
theorem val_lt (l : List Int) (h : Okd l) : val l < 65536 ^ l.length := by
  induction l with
  | nil => decide
  | cons a l ih =>
    have h1 := ih h.tail
    have h2 := h.head
    show a.toNat + 65536 * val l < 65536 ^ (l.length + 1)
    rw [Nat.pow_succ]
    omega
theorem dg_len {n k : Nat} (h : n < 65536 ^ k) : (dg n).length ≤ k := by
  induction k generalizing n with
  | zero => have : n = 0 := by simpa using h
            rw [this, dg_0]; exact Nat.le_refl _
  | succ k ih =>
    rcases Nat.eq_zero_or_pos n with h0 | h0
    · rw [h0, dg_0]; exact Nat.zero_le _
    · rw [dg_pos h0, List.length_cons]
      rw [Nat.pow_succ] at h
      exact Nat.succ_le_succ (ih (by omega))
theorem dg_len_pos (n : Nat) : 0 < (dg n).length ↔ 0 < n := by
  rcases Nat.eq_zero_or_pos n with h | h
  · rw [h, dg_0]; simp
  · rw [dg_pos h]; simp [h]
theorem dg_val (l : List Int) (h : Okd l) (hl : ∀ a, l.getLast? = some a → a ≠ 0) : dg (val l) = l := by
  induction l with
  | nil => exact dg_0
  | cons a l ih =>
    have h2 := h.head
    have hp : 0 < a.toNat + 65536 * val l := by
      cases l with
      | nil => have := hl a rfl; omega
      | cons b l =>
        have := ih h.tail (fun c hc => hl c (by rw [List.getLast?_cons_cons]; exact hc))
        have h3 : val (b :: l) ≠ 0 := by intro h4; rw [h4, dg_0] at this; cases this
        omega
    show dg (a.toNat + 65536 * val l) = a :: l
    rw [dg_pos hp]
    have e1 : (a.toNat + 65536 * val l) % 65536 = a.toNat := by omega
    have e2 : (a.toNat + 65536 * val l) / 65536 = val l := by omega
    have e3 : ((a.toNat : Nat) : Int) = a := Int.toNat_of_nonneg h2.1
    rw [e1, e2, e3]
    congr 1
    cases l with
    | nil => exact dg_0
    | cons b l => exact ih h.tail (fun c hc => hl c (by rw [List.getLast?_cons_cons]; exact hc))
theorem rd_drop (l : List Int) (i : Nat) (h : i < l.length) : l.drop i = rd l (i : Int) :: l.drop (i + 1) := by
  rw [List.drop_eq_getElem_cons h]
  congr 1
  unfold rd
  rw [Int.toNat_natCast, List.getD_eq_getElem?_getD, List.getElem?_eq_getElem h]
  rfl
theorem rd_ok {l : List Int} (h : Okd l) {i : Nat} (hi : i < l.length) : 0 ≤ rd l (i : Int) ∧ rd l (i : Int) < 65536 := by
  have := h.drop i
  rw [rd_drop l i hi] at this
  exact this.head
theorem val_drop (l : List Int) (i : Nat) (h : i < l.length) : val (l.drop i) = (rd l (i : Int)).toNat + 65536 * val (l.drop (i + 1)) := by
  rw [rd_drop l i h]; rfl
theorem val_drop_len (l : List Int) (i : Nat) (h : l.length ≤ i) : val (l.drop i) = 0 := by rw [List.drop_eq_nil_of_le h]; rfl
theorem val_snoc (l : List Int) (a : Int) : val (l ++ [a]) = val l + 65536 ^ l.length * a.toNat := by
  rw [val_app]
  show _ + _ * (a.toNat + 65536 * 0) = _
  rw [Nat.mul_zero, Nat.add_zero]
theorem val_take (l : List Int) (i : Nat) : val l = val (l.take i) + 65536 ^ (l.take i).length * val (l.drop i) := by
  rw [← val_app, List.take_append_drop]
end Go.Proofs.YtbnjgaeeojcjbaaDoor.PR
namespace Go.Proofs.YtbnjgaeeojcjbaaDoor.PR
open Go.RowKit Go.Proofs.YtbnjgaeeojcjbaaDoorW.PrintWords Go.Proofs.YtbnjgaeeojcjbaaDoorW.PrintLast Go.Proofs.YtbnjgaeeojcjbaaDoorW.PrintMore
attribute [local go_sem] max2_int min2_int max_two min_two max_three min_three max_four min_four
set_option linter.unusedVariables false
set_option linter.unusedSimpArgs false
def pointillistref01_Plain.l0 : Nat → Int → Int → Bool → List Int → Option (Int × Bool)
 | 0, _, _, _, _ => none
 | k + 1, x4, x5, x189000, x189001 => if x5 ≥ 0 then (if x4 < (-140737488355328) then (some (0, false)) else (if 0 ≤ x5 then (if x5 < (x189001.length : Int) then (if (wrap64 (x4 * 65536)) < (wrap64 ((-9223372036854775808) + (rd x189001 x5))) then (some (0, false)) else (pointillistref01_Plain.l0 k (wrap64 ((wrap64 (x4 * 65536)) - (rd x189001 x5))) (wrap64 (x5 - 1)) x189000 x189001)) else (none)) else (none))) else (if x189000 = true then (some (x4, true)) else (if x4 = (-9223372036854775808) then (some (0, false)) else (some (wrap64 (-x4), true))))
def pointillistref01_Plain.f (k : Nat) (a0_0 : Bool) (l0_1 : List Int) : Option (Int × Bool) := if (l0_1.length : Int) > 4 then (some (0, false)) else (pointillistref01_Plain.l0 k 0 (wrap64 ((l0_1.length : Int) - 1)) a0_0 l0_1)
theorem pointillistref01_Plain.mono_l : ∀ k, (∀ y0 y1 y2 y3, LeO (pointillistref01_Plain.l0 k y0 y1 y2 y3) (pointillistref01_Plain.l0 (k + 1) y0 y1 y2 y3))
 | 0 => fun _ _ _ _ r h => by simp [pointillistref01_Plain.l0] at h
 | k + 1 => by
  have ih0 := pointillistref01_Plain.mono_l k
  ·
   intro y0 y1 y2 y3
   unfold pointillistref01_Plain.l0
   repeat' first
   | (with_reducible exact ih0 _ _ _ _)
   | (with_reducible exact LeO.refl _)
   | (with_reducible exact LeO.none _)
   | (with_reducible refine LeO.ite ?_ ?_)
   | (with_reducible refine LeO.bind ?_ (fun _ => ?_))
   | exact ih0 _ _ _ _
   | exact LeO.none _
   | refine LeO.ite ?_ ?_
   | refine LeO.bind ?_ (fun _ => ?_)
theorem pointillistref01_Plain.mono : ∀ a0 a1 k, LeO (pointillistref01_Plain.f k a0 a1) (pointillistref01_Plain.f (k + 1) a0 a1) := by
 intro a0 a1 k
 have ih0 := pointillistref01_Plain.mono_l k
 unfold pointillistref01_Plain.f
 repeat' first
   | (with_reducible exact ih0 _ _ _ _)
   | (with_reducible exact LeO.refl _)
   | (with_reducible exact LeO.none _)
   | (with_reducible refine LeO.ite ?_ ?_)
   | (with_reducible refine LeO.bind ?_ (fun _ => ?_))
   | exact ih0 _ _ _ _
   | exact LeO.none _
   | refine LeO.ite ?_ ?_
   | refine LeO.bind ?_ (fun _ => ?_)
set_option maxHeartbeats 8000000 in
set_option maxRecDepth 100000 in
theorem pointillistref01_Plain.calls (k : Nat) (a0_0 : Bool) (A0_1 : Option Addr) (c0_1 : Nat) (l0_1 : List Int) (r1 : Int) (r2 : Bool) (w : World) (hr0_1 : Kd.C (Kd.int .i64) w A0_1 l0_1.length l0_1) (hc0_1 : l0_1.length ≤ c0_1) (h : pointillistref01_Plain.f k a0_0 l0_1 = some (r1, r2)) :
  Calls Tryd.prog 31 #[.agg #[.bool a0_0, .slice A0_1 l0_1.length c0_1]] w fun e w' => e = .returned (.tuple #[.int .i64 r1, .bool r2]) ∧ Below w.heap.size w w' := by
 have hu63 := Tryd.underlying63
 have HR0_1 := Aside0.mk hr0_1
 have HC0_1 := Aside0.mk hc0_1
 clear hr0_1 hc0_1
 have HB := Aside0.mk (Below.refl w.heap.size w)
 have H : (if (l0_1.length : Int) > 4 then (some (0, false)) else (pointillistref01_Plain.l0 k 0 (wrap64 ((l0_1.length : Int) - 1)) a0_0 l0_1)) = some (r1, r2) := h
 clear h
 by_cases c2 : (l0_1.length : Int) > 4
 ·
  rw [if_pos c2] at H
  have c2b0 : decide (4 < (l0_1.length : Int)) = true := decide_eq_true c2
  have c2b1 : decide (4 < l0_1.length) = true := decide_eq_true (by omega)
  clear c2
  simp only [Option.some.injEq, Prod.mk.injEq] at H
  obtain ⟨rfl, rfl⟩ := H
  go_enter Tryd.func31, Tryd.ntmps31
  go_wp2_with (first | ((with_reducible refine gate_dst (N := 1) rfl ?_); refine box_event ?hg (N := 1) ?hd (cs := #[.bool a0_0, .slice A0_1 l0_1.length c0_1]) (t := 63) ?hr ?_; (case hd => rfl); (case hg => rfl); (case hr => first | (go_simp; done) | (go_simp; rfl)); intro gb188 hg w3 hbox hb; have n0_ := Aside0.mk (below_step (wq HB.out) hb); have n1_ := Aside0.mk (hbox); have n2_ := Aside0.mk ((by rw [hg]; exact (below_size (wq HB.out)) : w.heap.size ≤ gb188)); have n3_ := n2_; clear HB; have HB := n0_; have BK188 := n1_; have GW188 := n2_; have GE188 := n3_; clear n0_ n1_ n2_ n3_ hb hbox hg; have hcz4_0 : w3.cell? ⟨gb188, 0, none⟩ = some (.bool a0_0) := (blk_cell BK188.out 0).trans rfl; have hcz4_1 : w3.cell? ⟨gb188, 1, none⟩ = some (.slice A0_1 l0_1.length c0_1) := (blk_cell BK188.out 1).trans rfl; have hfz4_0 := blk_frozen BK188.out 0; have hfz4_1 := blk_frozen BK188.out 1))
  go_ret2
  exact ⟨by first | rfl | (simp [errW_none, errW_some] <;> rfl) | (simp [*, errW_none, errW_some] <;> rfl), by exact wq HB.out⟩
 ·
  rw [if_neg c2] at H
  have c2b0 : decide (4 < (l0_1.length : Int)) = false := decide_eq_false c2
  have c2b1 : decide (4 < l0_1.length) = false := decide_eq_false (by omega)
  clear c2
  have H' := Aside0.mk H
  clear H
  go_enter Tryd.func31, Tryd.ntmps31
  go_wp2_with (first | ((with_reducible refine gate_dst (N := 1) rfl ?_); refine box_event ?hg (N := 1) ?hd (cs := #[.bool a0_0, .slice A0_1 l0_1.length c0_1]) (t := 63) ?hr ?_; (case hd => rfl); (case hg => rfl); (case hr => first | (go_simp; done) | (go_simp; rfl)); intro gb188 hg w5 hbox hb; have n0_ := Aside0.mk (below_step (wq HB.out) hb); have n1_ := Aside0.mk (hbox); have n2_ := Aside0.mk ((by rw [hg]; exact (below_size (wq HB.out)) : w.heap.size ≤ gb188)); have n3_ := n2_; clear HB; have HB := n0_; have BK188 := n1_; have GW188 := n2_; have GE188 := n3_; clear n0_ n1_ n2_ n3_ hb hbox hg; have hcz6_0 : w5.cell? ⟨gb188, 0, none⟩ = some (.bool a0_0) := (blk_cell BK188.out 0).trans rfl; have hcz6_1 : w5.cell? ⟨gb188, 1, none⟩ = some (.slice A0_1 l0_1.length c0_1) := (blk_cell BK188.out 1).trans rfl; have hfz6_0 := blk_frozen BK188.out 0; have hfz6_1 := blk_frozen BK188.out 1))
  go_loopg [4, 5] k (fun kq v4 v5 w' => ∃ (x4_1 : Int) (x5_1 : Int), v4 = .int .i64 x4_1 ∧ v5 = .int .i64 x5_1 ∧ Aside0 (pointillistref01_Plain.l0 kq x4_1 x5_1 a0_0 l0_1 = some (r1, r2)) ∧ Aside0 (kq ≤ k) ∧ Aside0 (w'.heap[gb188]? = some (.cells #[.bool a0_0, (.slice A0_1 l0_1.length c0_1)] 63 (0, 0))) ∧ Aside0 (Below w.heap.size w w'))
  case atStart => exact ⟨(0), (wrap64 ((l0_1.length : Int) - 1)), (by first | rfl | (simp; done) | (simp [*]; done)), (by first | rfl | (simp; done) | (simp [*]; done)), H', ⟨Nat.le_refl _⟩, ⟨by refine bq ?_; exact BK188.out⟩, ⟨by exact wq HB.out⟩⟩
  case round =>
   clear H'
   try clear c2
   try clear c2b0
   try clear c2b1
   try clear p2
   try clear c3
   try clear p6
   try clear hcz4_0
   try clear hcz4_1
   try clear hcz6_0
   try clear hcz6_1
   try clear hfz4_0
   try clear hfz4_1
   try clear hfz6_0
   try clear hfz6_1
   obtain ⟨x4_1, x5_1, rfl, rfl, HA, HK1, BK188, HB⟩ := hrel
   cases gk with
   | zero => exact absurd HA.out (by simp [pointillistref01_Plain.l0])
   | succ k1 =>
    have H := HA.out
    clear HA
    simp only [pointillistref01_Plain.l0] at H
    by_cases c7 : x5_1 ≥ 0
    ·
     rw [if_pos c7] at H
     have c7b0 : decide (0 ≤ x5_1) = true := decide_eq_true c7
     clear c7
     by_cases c8 : x4_1 < (-140737488355328)
     ·
      rw [if_pos c8] at H
      have c8b0 : decide (x4_1 < (-140737488355328)) = true := decide_eq_true c8
      clear c8
      simp only [Option.some.injEq, Prod.mk.injEq] at H
      obtain ⟨rfl, rfl⟩ := H
      go_wp2
      go_ret2
      exact ⟨by first | rfl | (simp [errW_none, errW_some] <;> rfl) | (simp [*, errW_none, errW_some] <;> rfl), by exact wq HB.out⟩
     ·
      rw [if_neg c8] at H
      have c8b0 : decide (x4_1 < (-140737488355328)) = false := decide_eq_false c8
      clear c8
      by_cases c9 : 0 ≤ x5_1
      ·
       rw [if_pos c9] at H
       have c9b0 : decide (0 ≤ x5_1) = true := decide_eq_true c9
       clear c9
       by_cases c10 : x5_1 < (l0_1.length : Int)
       ·
        rw [if_pos c10] at H
        have c10b0 : decide (x5_1 < (l0_1.length : Int)) = true := decide_eq_true c10
        clear c10
        by_cases c11 : (wrap64 (x4_1 * 65536)) < (wrap64 ((-9223372036854775808) + (rd l0_1 x5_1)))
        ·
         rw [if_pos c11] at H
         have c11b0 : decide ((wrap64 (x4_1 * 65536)) < (wrap64 ((-9223372036854775808) + (rd l0_1 x5_1)))) = true := decide_eq_true c11
         clear c11
         simp only [Option.some.injEq, Prod.mk.injEq] at H
         obtain ⟨rfl, rfl⟩ := H
         have hcz12_0 : wr.cell? ⟨gb188, 0, none⟩ = some (.bool a0_0) := (blk_cell BK188.out 0).trans rfl
         have hcz12_1 : wr.cell? ⟨gb188, 1, none⟩ = some (.slice A0_1 l0_1.length c0_1) := (blk_cell BK188.out 1).trans rfl
         have hfz12_0 := blk_frozen BK188.out 0
         have hfz12_1 := blk_frozen BK188.out 1
         have p189 : 0 ≤ (x5_1 : Int) := of_decide_eq_true (by first | (with_reducible assumption) | assumption)
         have q189 : x5_1 < (l0_1.length : Int) := of_decide_eq_true (by first | (with_reducible assumption) | assumption)
         obtain ⟨ad189, e189, hx189_0⟩ := Kd.at_int HR0_1.out x5_1 p189 q189
         cases e189
         replace hx189_0 := (HB.out.cell (World.block_lt_of_cell? w _ hx189_0)).trans hx189_0
         replace p189 := eq_true p189
         replace q189 := eq_true q189
         go_wp2
         go_ret2
         exact ⟨by first | rfl | (simp [errW_none, errW_some] <;> rfl) | (simp [*, errW_none, errW_some] <;> rfl), by exact wq HB.out⟩
        ·
         rw [if_neg c11] at H
         have c11b0 : decide ((wrap64 (x4_1 * 65536)) < (wrap64 ((-9223372036854775808) + (rd l0_1 x5_1)))) = false := decide_eq_false c11
         clear c11
         have H' := Aside0.mk H
         clear H
         have hcz13_0 : wr.cell? ⟨gb188, 0, none⟩ = some (.bool a0_0) := (blk_cell BK188.out 0).trans rfl
         have hcz13_1 : wr.cell? ⟨gb188, 1, none⟩ = some (.slice A0_1 l0_1.length c0_1) := (blk_cell BK188.out 1).trans rfl
         have hfz13_0 := blk_frozen BK188.out 0
         have hfz13_1 := blk_frozen BK188.out 1
         have p189 : 0 ≤ (x5_1 : Int) := of_decide_eq_true (by first | (with_reducible assumption) | assumption)
         have q189 : x5_1 < (l0_1.length : Int) := of_decide_eq_true (by first | (with_reducible assumption) | assumption)
         obtain ⟨ad189, e189, hx189_0⟩ := Kd.at_int HR0_1.out x5_1 p189 q189
         cases e189
         replace hx189_0 := (HB.out.cell (World.block_lt_of_cell? w _ hx189_0)).trans hx189_0
         replace p189 := eq_true p189
         replace q189 := eq_true q189
         have p190 : 0 ≤ (x5_1 : Int) := of_decide_eq_true (by first | (with_reducible assumption) | assumption)
         have q190 : x5_1 < (l0_1.length : Int) := of_decide_eq_true (by first | (with_reducible assumption) | assumption)
         obtain ⟨ad190, e190, hx190_0⟩ := Kd.at_int HR0_1.out x5_1 p190 q190
         obtain rfl : ad189 = ad190 := (by injection e190)
         replace hx190_0 := (HB.out.cell (World.block_lt_of_cell? w _ hx190_0)).trans hx190_0
         replace p190 := eq_true p190
         replace q190 := eq_true q190
         go_wp2
         go_roundg k1
         case measure => have := HK1.out; omega
         case rel => exact ⟨(wrap64 ((wrap64 (x4_1 * 65536)) - (rd l0_1 x5_1))), (wrap64 (x5_1 - 1)), (by first | rfl | (simp; done) | (simp [*]; done)), (by first | rfl | (simp; done) | (simp [*]; done)), H', ⟨by have := HK1.out; omega⟩, ⟨by refine bq ?_; exact BK188.out⟩, ⟨by exact wq HB.out⟩⟩
       ·
        rw [if_neg c10] at H
        exact absurd H (by simp)
      ·
       rw [if_neg c9] at H
       exact absurd H (by simp)
    ·
     rw [if_neg c7] at H
     have c7b0 : decide (0 ≤ x5_1) = false := decide_eq_false c7
     clear c7
     by_cases c14 : a0_0 = true
     ·
      subst c14
      have H1 : (some (x4_1, true)) = some (r1, r2) := by rw [if_pos rfl] at H; exact H
      clear H
      have H := H1
      clear H1
      simp only [Option.some.injEq, Prod.mk.injEq] at H
      obtain ⟨rfl, rfl⟩ := H
      have hcz15_0 : wr.cell? ⟨gb188, 0, none⟩ = some (.bool true) := (blk_cell BK188.out 0).trans rfl
      have hcz15_1 : wr.cell? ⟨gb188, 1, none⟩ = some (.slice A0_1 l0_1.length c0_1) := (blk_cell BK188.out 1).trans rfl
      have hfz15_0 := blk_frozen BK188.out 0
      have hfz15_1 := blk_frozen BK188.out 1
      go_wp2
      go_ret2
      exact ⟨by first | rfl | (simp [errW_none, errW_some] <;> rfl) | (simp [*, errW_none, errW_some] <;> rfl), by exact wq HB.out⟩
     ·
      replace c14 := Bool.eq_false_iff.mpr c14
      subst c14
      have H1 : (if x4_1 = (-9223372036854775808) then (some (0, false)) else (some (wrap64 (-x4_1), true))) = some (r1, r2) := by rw [if_neg (show ¬ (false = true) by decide)] at H; exact H
      clear H
      have H := H1
      clear H1
      by_cases c16 : x4_1 = (-9223372036854775808)
      ·
       rw [if_pos c16] at H
       have c16b0 : (x4_1 == (-9223372036854775808)) = true := beq_iff_eq.mpr c16
       have c16b1 : (x4_1 != (-9223372036854775808)) = false := bne_eq_false_iff_eq.mpr c16
       clear c16
       simp only [Option.some.injEq, Prod.mk.injEq] at H
       obtain ⟨rfl, rfl⟩ := H
       have hcz17_0 : wr.cell? ⟨gb188, 0, none⟩ = some (.bool false) := (blk_cell BK188.out 0).trans rfl
       have hcz17_1 : wr.cell? ⟨gb188, 1, none⟩ = some (.slice A0_1 l0_1.length c0_1) := (blk_cell BK188.out 1).trans rfl
       have hfz17_0 := blk_frozen BK188.out 0
       have hfz17_1 := blk_frozen BK188.out 1
       go_wp2
       go_ret2
       exact ⟨by first | rfl | (simp [errW_none, errW_some] <;> rfl) | (simp [*, errW_none, errW_some] <;> rfl), by exact wq HB.out⟩
      ·
       rw [if_neg c16] at H
       have c16b0 : (x4_1 == (-9223372036854775808)) = false := beq_eq_false_iff_ne.mpr c16
       have c16b1 : (x4_1 != (-9223372036854775808)) = true := bne_iff_ne.mpr c16
       simp only [Option.some.injEq, Prod.mk.injEq] at H
       obtain ⟨rfl, rfl⟩ := H
       have hcz18_0 : wr.cell? ⟨gb188, 0, none⟩ = some (.bool false) := (blk_cell BK188.out 0).trans rfl
       have hcz18_1 : wr.cell? ⟨gb188, 1, none⟩ = some (.slice A0_1 l0_1.length c0_1) := (blk_cell BK188.out 1).trans rfl
       have hfz18_0 := blk_frozen BK188.out 0
       have hfz18_1 := blk_frozen BK188.out 1
       go_wp2
       go_ret2
       exact ⟨by first | rfl | (simp [errW_none, errW_some] <;> rfl) | (simp [*, errW_none, errW_some] <;> rfl), by exact wq HB.out⟩
def pointillistref01_trim.l0 : Nat → List Int → Option (List Int)
 | 0, _ => none
 | k + 1, x0 => if (x0.length : Int) > 0 then (if 0 ≤ (wrap64 ((x0.length : Int) - 1)) then (if (wrap64 ((x0.length : Int) - 1)) < (x0.length : Int) then (if (rd x0 (wrap64 ((x0.length : Int) - 1))) = 0 then (if (wrap64 ((x0.length : Int) - 1)) ≤ (x0.length : Int) then (pointillistref01_trim.l0 k (x0.take ((wrap64 ((x0.length : Int) - 1)) : Int).toNat)) else (none)) else (some x0)) else (none)) else (none)) else (some x0)
def pointillistref01_trim.f (k : Nat) (l0 : List Int) : Option (List Int) := pointillistref01_trim.l0 k l0
theorem pointillistref01_trim.mono_l : ∀ k, (∀ y0, LeO (pointillistref01_trim.l0 k y0) (pointillistref01_trim.l0 (k + 1) y0))
 | 0 => fun _ r h => by simp [pointillistref01_trim.l0] at h
 | k + 1 => by
  have ih0 := pointillistref01_trim.mono_l k
  ·
   intro y0
   unfold pointillistref01_trim.l0
   repeat' first
   | (with_reducible exact ih0 _)
   | (with_reducible exact LeO.refl _)
   | (with_reducible exact LeO.none _)
   | (with_reducible refine LeO.ite ?_ ?_)
   | (with_reducible refine LeO.bind ?_ (fun _ => ?_))
   | exact ih0 _
   | exact LeO.none _
   | refine LeO.ite ?_ ?_
   | refine LeO.bind ?_ (fun _ => ?_)
theorem pointillistref01_trim.mono : ∀ a0 k, LeO (pointillistref01_trim.f k a0) (pointillistref01_trim.f (k + 1) a0) := by
 intro a0 k
 have ih0 := pointillistref01_trim.mono_l k
 unfold pointillistref01_trim.f
 repeat' first
   | (with_reducible exact ih0 _)
   | (with_reducible exact LeO.refl _)
   | (with_reducible exact LeO.none _)
   | (with_reducible refine LeO.ite ?_ ?_)
   | (with_reducible refine LeO.bind ?_ (fun _ => ?_))
   | exact ih0 _
   | exact LeO.none _
   | refine LeO.ite ?_ ?_
   | refine LeO.bind ?_ (fun _ => ?_)
set_option maxHeartbeats 8000000 in
set_option maxRecDepth 100000 in
theorem pointillistref01_trim.calls (k : Nat) (P0_ : Nat → Prop) (A0 : Option Addr) (c0 : Nat) (l0 : List Int) (r : List Int) (w : World) (hs0 : Kd.V (Kd.int .i64) 3 w w.heap.size (fun k_ => P0_ k_) (.slice A0 l0.length c0) l0) (h : pointillistref01_trim.f k l0 = some r) :
  Calls Tryd.prog 46 #[.slice A0 l0.length c0] w fun e w' => ∃ v0_ : Value, e = .returned (v0_) ∧ Kd.V (Kd.int .i64) 3 w' w.heap.size (fun k_ => (P0_ k_ ∨ w.heap.size ≤ k_)) v0_ r ∧ Below w.heap.size w w' := by
 have HO0 := Aside0.mk (show Kd.V (Kd.int .i64) 3 w w.heap.size (fun k_ => (P0_ k_ ∨ w.heap.size ≤ k_)) (.slice A0 l0.length c0) l0 from Kd.V_mono hs0 (fun k_ hk => .inl hk))
 have HB := Aside0.mk (Below.refl w.heap.size w)
 have H : (pointillistref01_trim.l0 k l0) = some r := h
 clear h
 have H' := Aside0.mk H
 clear H
 go_enter Tryd.func46, Tryd.ntmps46
 go_wp2
 go_loopg [0] k (fun kq v0 w' => ∃ (x0_1 : List Int), Aside0 (pointillistref01_trim.l0 kq x0_1 = some r) ∧ Aside0 (kq ≤ k) ∧ Aside0 (Kd.V (Kd.int .i64) 3 w' w.heap.size (fun k_ => (P0_ k_ ∨ w.heap.size ≤ k_)) v0 x0_1) ∧ Aside0 (Below w.heap.size w w'))
 case atStart => exact ⟨(l0), H', ⟨Nat.le_refl _⟩, ⟨by apply vq; exact HO0.out⟩, ⟨by exact wq HB.out⟩⟩
 case round =>
  clear H'
  obtain ⟨x0_1, HA, HK1, HO_0, HB⟩ := hrel
  cases gk with
  | zero => exact absurd HA.out (by simp [pointillistref01_trim.l0])
  | succ k1 =>
   have H := HA.out
   clear HA
   simp only [pointillistref01_trim.l0] at H
   by_cases c2 : (x0_1.length : Int) > 0
   ·
    rw [if_pos c2] at H
    have c2b0 : decide (0 < (x0_1.length : Int)) = true := decide_eq_true c2
    have c2b1 : decide (0 < x0_1.length) = true := decide_eq_true (by omega)
    clear c2
    obtain ⟨ji3, hji3⟩ : ∃ j_ : Int, (wrap64 ((x0_1.length : Int) - 1)) = j_ := ⟨_, rfl⟩
    replace H : (if 0 ≤ (ji3) then (if (ji3) < (x0_1.length : Int) then (if (rd x0_1 (ji3)) = 0 then (if (ji3) ≤ (x0_1.length : Int) then (pointillistref01_trim.l0 k1 (x0_1.take ((ji3) : Int).toNat)) else (none)) else (some x0_1)) else (none)) else (none)) = some r := by first | (rw [hji3] at H; exact H) | (simp only [hji3] at H ⊢; exact H)
    have hji3w : (IntKind.i64.wrap ((x0_1.length : Int) - 1)) = ji3 := (i64_w _).trans hji3
    by_cases c4 : 0 ≤ (ji3)
    ·
     rw [if_pos c4] at H
     have c4b0 : decide (0 ≤ (ji3)) = true := decide_eq_true c4
     clear c4
     by_cases c5 : (ji3) < (x0_1.length : Int)
     ·
      rw [if_pos c5] at H
      have c5b0 : decide ((ji3) < (x0_1.length : Int)) = true := decide_eq_true c5
      clear c5
      by_cases c6 : (rd x0_1 (ji3)) = 0
      ·
       rw [if_pos c6] at H
       have c6b0 : ((rd x0_1 (ji3)) == 0) = true := beq_iff_eq.mpr c6
       have c6b1 : ((rd x0_1 (ji3)) != 0) = false := bne_eq_false_iff_eq.mpr c6
       clear c6
       have c7b0 := eq_true (of_decide_eq_true (by first | (with_reducible assumption) | assumption) : 0 ≤ (ji3))
       by_cases c8 : (ji3) ≤ (x0_1.length : Int)
       ·
        rw [if_pos c8] at H
        have c8b0 := eq_true c8
        have c8b1 : decide ((ji3) ≤ (x0_1.length : Int)) = true := decide_eq_true c8
        clear c8
        obtain ⟨y192, hy192⟩ : ∃ y_ : List Int, y_ = (x0_1.take ((ji3) : Int).toNat) := ⟨_, rfl⟩
        replace H : (pointillistref01_trim.l0 k1 y192) = some r := by first | (rw [hy192]; with_reducible exact H) | (have H2_ := (Option.bind_some _ _).symm.trans H; rw [hy192]; with_reducible exact H2_) | (have H2_ := (Option.bind_some _ _).symm.trans H; with_reducible exact H2_) | with_reducible exact H | (rw [hy192]; exact H) | exact H
        have Ny192 := Aside0.mk hy192
        clear hy192
        have H' := Aside0.mk H
        clear H
        obtain ⟨Ao9, co9, eo9⟩ := Kd.V_slice HO_0.out
        subst eo9
        have p191 : 0 ≤ ((ji3) : Int) := of_decide_eq_true (by first | (with_reducible assumption) | assumption)
        have q191 : (ji3) < (x0_1.length : Int) := of_decide_eq_true (by first | (with_reducible assumption) | assumption)
        obtain ⟨ad191, e191, hx191_0⟩ := Kd.at_int (Kd.V_reads' HO_0.out).2.2 (ji3) p191 q191
        cases e191
        replace p191 := eq_true p191
        replace q191 := eq_true q191
        have q10 : ((ji3) : Int) ≤ ((x0_1.length : Int) : Int) := of_decide_eq_true (by first | (with_reducible assumption) | assumption)
        obtain ⟨i010, hi010, _, hsz10, _⟩ := info_parts info3
        have hroom10 : x0_1.length ≤ co9 := (Kd.V_reads' HO_0.out).2.1
        have hC10 : Kd.F (Kd.int .i64) _ _ (some ad191) x0_1.length x0_1 := (Kd.V_at (base := w.heap.size) HO_0.out).2.2
        have hcut10 := cut_to (P := Tryd.prog) 61 3 .i64 Tryd.underlying61 hi010 (some ad191) x0_1.length co9 (ji3) (of_decide_eq_true (by first | (with_reducible assumption) | assumption)) q10 hroom10
        have hr10 := Kd.F_take (m := ((ji3) : Int).toNat) hC10 (by omega)
        have hy10 : y192.length = ((ji3) : Int).toNat := (by rw [Ny192.out, List.length_take]; omega)
        rw [← Ny192.out] at hr10
        rw [← hy10] at hcut10
        have HO196 := Aside0.mk (show Kd.V (Kd.int .i64) 3 _ w.heap.size _ (.slice (some ad191) y192.length co9) y192 from Kd.V_mk (by omega) hr10)
        have HC196 := Aside0.mk (show y192.length ≤ co9 from by omega)
        clear hr10 hC10 hroom10 hi010 hsz10
        have KY10 := Aside0.mk hy10
        clear hy10
        replace q10 := eq_true q10
        go_wp2
        go_roundg k1
        case measure => have := HK1.out; omega
        case rel => exact ⟨(y192), H', ⟨by have := HK1.out; omega⟩, ⟨by apply vq; exact HO196.out⟩, ⟨by exact wq HB.out⟩⟩
       ·
        rw [if_neg c8] at H
        exact absurd H (by simp)
      ·
       rw [if_neg c6] at H
       have c6b0 : ((rd x0_1 (ji3)) == 0) = false := beq_eq_false_iff_ne.mpr c6
       have c6b1 : ((rd x0_1 (ji3)) != 0) = true := bne_iff_ne.mpr c6
       obtain rfl := Option.some.inj H
       obtain ⟨Ao11, co11, eo11⟩ := Kd.V_slice HO_0.out
       subst eo11
       have p191 : 0 ≤ ((ji3) : Int) := of_decide_eq_true (by first | (with_reducible assumption) | assumption)
       have q191 : (ji3) < (x0_1.length : Int) := of_decide_eq_true (by first | (with_reducible assumption) | assumption)
       obtain ⟨ad191, e191, hx191_0⟩ := Kd.at_int (Kd.V_reads' HO_0.out).2.2 (ji3) p191 q191
       cases e191
       replace p191 := eq_true p191
       replace q191 := eq_true q191
       go_wp2
       go_ret
       exact ⟨_, by first | rfl | (simp [errW_none, errW_some] <;> rfl) | (simp only [← hji3]; first | rfl | (simp [errW_none, errW_some] <;> rfl)) | (simp [*, errW_none, errW_some] <;> rfl), by apply vq; exact HO_0.out, by exact wq HB.out⟩
     ·
      rw [if_neg c5] at H
      exact absurd H (by simp)
    ·
     rw [if_neg c4] at H
     exact absurd H (by simp)
   ·
    rw [if_neg c2] at H
    have c2b0 : decide (0 < (x0_1.length : Int)) = false := decide_eq_false c2
    have c2b1 : decide (0 < x0_1.length) = false := decide_eq_false (by omega)
    clear c2
    obtain rfl := Option.some.inj H
    obtain ⟨Ao12, co12, eo12⟩ := Kd.V_slice HO_0.out
    subst eo12
    go_wp2
    go_ret
    exact ⟨_, by first | rfl | (simp [errW_none, errW_some] <;> rfl) | (simp [*, errW_none, errW_some] <;> rfl), by apply vq; exact HO_0.out, by exact wq HB.out⟩
mutual
def pointillistref01_plus.l0 : Nat → List Int → List Int → List Int → Int → Int → Option (List Int)
 | 0, _, _, _, _, _ => none
 | k + 1, x0, x1, x5, x6, x7 => if x7 < (x0.length : Int) then (pointillistref01_plus.j1 k x0 x1 x5 x6 x7 true) else (if x7 < (x1.length : Int) then (pointillistref01_plus.j1 k x0 x1 x5 x6 x7 true) else (pointillistref01_plus.j1 k x0 x1 x5 x6 x7 (decide (x6 > 0))))
def pointillistref01_plus.j1 : Nat → List Int → List Int → List Int → Int → Int → Bool → Option (List Int)
 | 0, _, _, _, _, _, _ => none
 | k + 1, x0, x1, x5, x6, x7, x22 => if x22 = true then (if x7 < (x0.length : Int) then (if 0 ≤ x7 then (if x7 < (x1.length : Int) then (if x5.length < 17592186044416 then (pointillistref01_plus.l0 k x0 x1 (x5 ++ [Int.tmod (wrap64 ((wrap64 (x6 + (rd x0 x7))) + (rd x1 x7))) 65536]) (wrap64 (Int.tdiv (wrap64 ((wrap64 (x6 + (rd x0 x7))) + (rd x1 x7))) 65536)) (wrap64 (x7 + 1))) else (none)) else (if x5.length < 17592186044416 then (pointillistref01_plus.l0 k x0 x1 (x5 ++ [Int.tmod (wrap64 (x6 + (rd x0 x7))) 65536]) (wrap64 (Int.tdiv (wrap64 (x6 + (rd x0 x7))) 65536)) (wrap64 (x7 + 1))) else (none))) else (none)) else (if x7 < (x1.length : Int) then (if 0 ≤ x7 then (if x5.length < 17592186044416 then (pointillistref01_plus.l0 k x0 x1 (x5 ++ [Int.tmod (wrap64 (x6 + (rd x1 x7))) 65536]) (wrap64 (Int.tdiv (wrap64 (x6 + (rd x1 x7))) 65536)) (wrap64 (x7 + 1))) else (none)) else (none)) else (if x5.length < 17592186044416 then (pointillistref01_plus.l0 k x0 x1 (x5 ++ [Int.tmod x6 65536]) (wrap64 (Int.tdiv x6 65536)) (wrap64 (x7 + 1))) else (none)))) else ((pointillistref01_trim.f k x5).bind fun t197 => (some t197))
end
def pointillistref01_plus.f (k : Nat) (l0 : List Int) (l1 : List Int) : Option (List Int) := pointillistref01_plus.l0 k l0 l1 ([] : List Int) 0 0
theorem pointillistref01_plus.mono_l : ∀ k, (∀ y0 y1 y2 y3 y4, LeO (pointillistref01_plus.l0 k y0 y1 y2 y3 y4) (pointillistref01_plus.l0 (k + 1) y0 y1 y2 y3 y4)) ∧ (∀ y0 y1 y2 y3 y4 y5, LeO (pointillistref01_plus.j1 k y0 y1 y2 y3 y4 y5) (pointillistref01_plus.j1 (k + 1) y0 y1 y2 y3 y4 y5))
 | 0 => ⟨fun _ _ _ _ _ r h => by simp [pointillistref01_plus.l0] at h, fun _ _ _ _ _ _ r h => by simp [pointillistref01_plus.j1] at h⟩
 | k + 1 => by
  obtain ⟨ih0, ih1⟩ := pointillistref01_plus.mono_l k
  refine ⟨?_, ?_⟩
  ·
   intro y0 y1 y2 y3 y4
   unfold pointillistref01_plus.l0
   repeat' first
   | (with_reducible exact ih0 _ _ _ _ _)
   | (with_reducible exact ih1 _ _ _ _ _ _)
   | (with_reducible exact pointillistref01_trim.mono _ _)
   | (with_reducible exact LeO.refl _)
   | (with_reducible exact LeO.none _)
   | (with_reducible refine LeO.ite ?_ ?_)
   | (with_reducible refine LeO.bind ?_ (fun _ => ?_))
   | exact ih0 _ _ _ _ _
   | exact ih1 _ _ _ _ _ _
   | exact pointillistref01_trim.mono _ _
   | exact LeO.none _
   | refine LeO.ite ?_ ?_
   | refine LeO.bind ?_ (fun _ => ?_)
  ·
   intro y0 y1 y2 y3 y4 y5
   unfold pointillistref01_plus.j1
   repeat' first
   | (with_reducible exact ih0 _ _ _ _ _)
   | (with_reducible exact ih1 _ _ _ _ _ _)
   | (with_reducible exact pointillistref01_trim.mono _ _)
   | (with_reducible exact LeO.refl _)
   | (with_reducible exact LeO.none _)
   | (with_reducible refine LeO.ite ?_ ?_)
   | (with_reducible refine LeO.bind ?_ (fun _ => ?_))
   | exact ih0 _ _ _ _ _
   | exact ih1 _ _ _ _ _ _
   | exact pointillistref01_trim.mono _ _
   | exact LeO.none _
   | refine LeO.ite ?_ ?_
   | refine LeO.bind ?_ (fun _ => ?_)
theorem pointillistref01_plus.mono : ∀ a0 a1 k, LeO (pointillistref01_plus.f k a0 a1) (pointillistref01_plus.f (k + 1) a0 a1) := by
 intro a0 a1 k
 obtain ⟨ih0, ih1⟩ := pointillistref01_plus.mono_l k
 unfold pointillistref01_plus.f
 repeat' first
   | (with_reducible exact ih0 _ _ _ _ _)
   | (with_reducible exact ih1 _ _ _ _ _ _)
   | (with_reducible exact pointillistref01_trim.mono _ _)
   | (with_reducible exact LeO.refl _)
   | (with_reducible exact LeO.none _)
   | (with_reducible refine LeO.ite ?_ ?_)
   | (with_reducible refine LeO.bind ?_ (fun _ => ?_))
   | exact ih0 _ _ _ _ _
   | exact ih1 _ _ _ _ _ _
   | exact pointillistref01_trim.mono _ _
   | exact LeO.none _
   | refine LeO.ite ?_ ?_
   | refine LeO.bind ?_ (fun _ => ?_)
set_option maxHeartbeats 8000000 in
set_option maxRecDepth 100000 in
theorem pointillistref01_plus.calls (k : Nat) (A0 : Option Addr) (c0 : Nat) (l0 : List Int) (A1 : Option Addr) (c1 : Nat) (l1 : List Int) (r : List Int) (w : World) (hr0 : Kd.C (Kd.int .i64) w A0 l0.length l0) (hc0 : l0.length ≤ c0) (hr1 : Kd.C (Kd.int .i64) w A1 l1.length l1) (hc1 : l1.length ≤ c1) (h : pointillistref01_plus.f k l0 l1 = some r) :
  Calls Tryd.prog 43 #[.slice A0 l0.length c0, .slice A1 l1.length c1] w fun e w' => ∃ v0_ : Value, e = .returned (v0_) ∧ Kd.V (Kd.int .i64) 3 w' w.heap.size (fun k_ => (w.heap.size ≤ k_)) v0_ r ∧ Below w.heap.size w w' := by
 have HR0 := Aside0.mk hr0
 have HC0 := Aside0.mk hc0
 clear hr0 hc0
 have HR1 := Aside0.mk hr1
 have HC1 := Aside0.mk hc1
 clear hr1 hc1
 have HB := Aside0.mk (Below.refl w.heap.size w)
 have H : (pointillistref01_plus.l0 k l0 l1 ([] : List Int) 0 0) = some r := h
 clear h
 have H' := Aside0.mk H
 clear H
 go_enter Tryd.func43, Tryd.ntmps43
 go_wp2
 go_loopg [5, 6, 7] k (fun kq v5 v6 v7 w' => ∃ (x5_1 : List Int) (x6_1 : Int) (x7_1 : Int), v6 = .int .i64 x6_1 ∧ v7 = .int .i64 x7_1 ∧ Aside0 (pointillistref01_plus.l0 kq l0 l1 x5_1 x6_1 x7_1 = some r) ∧ Aside0 (kq ≤ k) ∧ Aside0 (Kd.R (Kd.int .i64) 3 w' w.heap.size (fun k_ => (w.heap.size ≤ k_)) v5 x5_1) ∧ Aside0 (Below w.heap.size w w'))
 case atStart => exact ⟨(([] : List Int)), (0), (0), (by first | rfl | (simp; done) | (simp [*]; done)), (by first | rfl | (simp; done) | (simp [*]; done)), H', ⟨Nat.le_refl _⟩, ⟨by first | exact Kd.R_nil _ _ _ _ _ | exact Kd.N_nil _ _ _ _ _ | exact Kd.V_nil _ _ _ _ _ | exact Kd.Q_nil _ _ _ _ _ | exact Kd.S_nil _ _ _ _ _⟩, ⟨by exact wq HB.out⟩⟩
 case round =>
  clear H'
  try clear c1
  try clear p2
  obtain ⟨x5_1, x6_1, x7_1, rfl, rfl, HA, HK1, HO_5, HB⟩ := hrel
  cases gk with
  | zero => exact absurd HA.out (by simp [pointillistref01_plus.l0])
  | succ k1 =>
   have H := HA.out
   clear HA
   simp only [pointillistref01_plus.l0] at H
   have HC3 := Aside0.mk H
   clear H
   go_upto_region 4 with (fail)
   go_cut [22] (fun v22 wc => ∃ (kq : Nat) (x22_2 : Bool), v22 = .bool x22_2 ∧ Aside0 (pointillistref01_plus.j1 kq l0 l1 x5_1 x6_1 x7_1 x22_2 = some r) ∧ Aside0 (kq ≤ k1) ∧ Aside0 (Kd.R (Kd.int .i64) 3 wc w.heap.size (fun k_ => (w.heap.size ≤ k_)) u5 x5_1) ∧ Aside0 (Below w.heap.size w wc))
   case first =>
    have H := HC3.out
    clear HC3
    by_cases c4 : x7_1 < (l0.length : Int)
    ·
     rw [if_pos c4] at H
     have c4b0 : decide (x7_1 < (l0.length : Int)) = true := decide_eq_true c4
     clear c4
     (first | rw [c4b0] | (simp only [i64_w, i32_w]; rw [c4b0]) | skip)
     have H' := Aside0.mk H
     clear H
     go_wp2
     go_meet
     case rel => exact ⟨_, (true), (by first | rfl | (simp; done) | (simp [*]; done)), H', ⟨by have := HK1.out; first | omega | exact Nat.le_refl _⟩, ⟨by apply rq; exact HO_5.out⟩, ⟨by exact wq HB.out⟩⟩
    ·
     rw [if_neg c4] at H
     have c4b0 : decide (x7_1 < (l0.length : Int)) = false := decide_eq_false c4
     clear c4
     (first | rw [c4b0] | (simp only [i64_w, i32_w]; rw [c4b0]) | skip)
     by_cases c5 : x7_1 < (l1.length : Int)
     ·
      rw [if_pos c5] at H
      have c5b0 : decide (x7_1 < (l1.length : Int)) = true := decide_eq_true c5
      clear c5
      have H' := Aside0.mk H
      clear H
      go_wp2
      go_meet
      case rel => exact ⟨_, (true), (by first | rfl | (simp; done) | (simp [*]; done)), H', ⟨by have := HK1.out; first | omega | exact Nat.le_refl _⟩, ⟨by apply rq; exact HO_5.out⟩, ⟨by exact wq HB.out⟩⟩
     ·
      rw [if_neg c5] at H
      have c5b0 : decide (x7_1 < (l1.length : Int)) = false := decide_eq_false c5
      clear c5
      have H' := Aside0.mk H
      clear H
      go_wp2
      go_meet
      case rel => exact ⟨_, (decide (x6_1 > 0)), (by first | rfl | (simp; done) | (simp [*]; done)), H', ⟨by have := HK1.out; first | omega | exact Nat.le_refl _⟩, ⟨by apply rq; exact HO_5.out⟩, ⟨by exact wq HB.out⟩⟩
   case rest =>
    clear HC3
    try clear c1
    try clear p2
    try clear c4
    try clear c4b0
    try clear c5
    try clear c5b0
    try clear p2
    obtain ⟨kq, x22_2, rfl, HA, HJ2, HO_5, HB⟩ := hcut
    cases kq with
    | zero => exact absurd HA.out (by simp [pointillistref01_plus.j1])
    | succ kj2 =>
     have H := HA.out
     clear HA
     simp only [pointillistref01_plus.j1] at H
     by_cases c6 : x22_2 = true
     ·
      subst c6
      have H1 : (if x7_1 < (l0.length : Int) then (if 0 ≤ x7_1 then (if x7_1 < (l1.length : Int) then (if x5_1.length < 17592186044416 then (pointillistref01_plus.l0 kj2 l0 l1 (x5_1 ++ [Int.tmod (wrap64 ((wrap64 (x6_1 + (rd l0 x7_1))) + (rd l1 x7_1))) 65536]) (wrap64 (Int.tdiv (wrap64 ((wrap64 (x6_1 + (rd l0 x7_1))) + (rd l1 x7_1))) 65536)) (wrap64 (x7_1 + 1))) else (none)) else (if x5_1.length < 17592186044416 then (pointillistref01_plus.l0 kj2 l0 l1 (x5_1 ++ [Int.tmod (wrap64 (x6_1 + (rd l0 x7_1))) 65536]) (wrap64 (Int.tdiv (wrap64 (x6_1 + (rd l0 x7_1))) 65536)) (wrap64 (x7_1 + 1))) else (none))) else (none)) else (if x7_1 < (l1.length : Int) then (if 0 ≤ x7_1 then (if x5_1.length < 17592186044416 then (pointillistref01_plus.l0 kj2 l0 l1 (x5_1 ++ [Int.tmod (wrap64 (x6_1 + (rd l1 x7_1))) 65536]) (wrap64 (Int.tdiv (wrap64 (x6_1 + (rd l1 x7_1))) 65536)) (wrap64 (x7_1 + 1))) else (none)) else (none)) else (if x5_1.length < 17592186044416 then (pointillistref01_plus.l0 kj2 l0 l1 (x5_1 ++ [Int.tmod x6_1 65536]) (wrap64 (Int.tdiv x6_1 65536)) (wrap64 (x7_1 + 1))) else (none)))) = some r := by rw [if_pos rfl] at H; exact H
      clear H
      have H := H1
      clear H1
      by_cases c7 : x7_1 < (l0.length : Int)
      ·
       rw [if_pos c7] at H
       have c7b0 : decide (x7_1 < (l0.length : Int)) = true := decide_eq_true c7
       clear c7
       by_cases c8 : 0 ≤ x7_1
       ·
        rw [if_pos c8] at H
        have c8b0 : decide (0 ≤ x7_1) = true := decide_eq_true c8
        clear c8
        by_cases c9 : x7_1 < (l1.length : Int)
        ·
         rw [if_pos c9] at H
         have c9b0 : decide (x7_1 < (l1.length : Int)) = true := decide_eq_true c9
         clear c9
         by_cases c10 : x5_1.length < 17592186044416
         ·
          rw [if_pos c10] at H
          have LMc10 := Aside0.mk c10
          clear c10
          obtain ⟨y202, hy202⟩ : ∃ y_ : List Int, y_ = (x5_1 ++ [Int.tmod (wrap64 ((wrap64 (x6_1 + (rd l0 x7_1))) + (rd l1 x7_1))) 65536]) := ⟨_, rfl⟩
          replace H : (pointillistref01_plus.l0 kj2 l0 l1 y202 (wrap64 (Int.tdiv (wrap64 ((wrap64 (x6_1 + (rd l0 x7_1))) + (rd l1 x7_1))) 65536)) (wrap64 (x7_1 + 1))) = some r := by first | (rw [hy202]; with_reducible exact H) | (have H2_ := (Option.bind_some _ _).symm.trans H; rw [hy202]; with_reducible exact H2_) | (have H2_ := (Option.bind_some _ _).symm.trans H; with_reducible exact H2_) | with_reducible exact H | (rw [hy202]; exact H) | exact H
          have Ny202 := Aside0.mk hy202
          clear hy202
          have H' := Aside0.mk H
          clear H
          have p200 : 0 ≤ (x7_1 : Int) := of_decide_eq_true (by first | (with_reducible assumption) | assumption)
          have q200 : x7_1 < (l0.length : Int) := of_decide_eq_true (by first | (with_reducible assumption) | assumption)
          obtain ⟨ad200, e200, hx200_0⟩ := Kd.at_int HR0.out x7_1 p200 q200
          cases e200
          replace hx200_0 := (HB.out.cell (World.block_lt_of_cell? w _ hx200_0)).trans hx200_0
          replace p200 := eq_true p200
          replace q200 := eq_true q200
          have p201 : 0 ≤ (x7_1 : Int) := of_decide_eq_true (by first | (with_reducible assumption) | assumption)
          have q201 : x7_1 < (l1.length : Int) := of_decide_eq_true (by first | (with_reducible assumption) | assumption)
          obtain ⟨ad201, e201, hx201_0⟩ := Kd.at_int HR1.out x7_1 p201 q201
          cases e201
          replace hx201_0 := (HB.out.cell (World.block_lt_of_cell? w _ hx201_0)).trans hx201_0
          replace p201 := eq_true p201
          replace q201 := eq_true q201
          go_wp2_with (first | ((with_reducible refine gate_builtin (b := .append) (xs := #[.tmp 46, .tmp 49]) rfl ?_); (try (refine gate_guard (by rfl) ?_; dsimp only)); at_builtin; refine Kd.R_append (Kd.int .i64) (w0 := w) w.heap.size rfl (.tmp 46) (.tmp 49) 61 3 (.int .i64 0) 8 rfl Tryd.underlying61 info3 rfl (by decide) (by omega) u5 x5_1 (Int.tmod (wrap64 ((wrap64 (x6_1 + (rd l0 x7_1))) + (rd l1 x7_1))) 65536) [.int .i64 (Int.tmod (wrap64 ((wrap64 (x6_1 + (rd l0 x7_1))) + (rd l1 x7_1))) 65536)] (fun k_ => (w.heap.size ≤ k_)) (fun _ => False) rfl rfl ?aP (fun _ hk => hk.elim) ?aF ?aO ?aB ?aS ?aL ?_; (case aP => exact rfl); (case aB => exact (wq HB.out)); (case aF => exact (fun k_ hk => (Nat.le_trans (below_size (wq HB.out)) hk))); (case aO => exact (rq HO_5.out)); (case aS => exact (below_size (wq HB.out))); (case aL => have := LMc10.out; omega); intro v203 w11 ho hb hg hat; rw [← Ny202.out] at ho; have n0_ := Aside0.mk (hb); have n1_ := Aside0.mk (ho); clear HB HO_5; have HB := n0_; have HO204 := n1_; clear n0_ n1_ ho hb hg hat))
          go_roundg kj2
          case measure => have := HK1.out; have := HJ2.out; omega
          case rel => exact ⟨(y202), (wrap64 (Int.tdiv (wrap64 ((wrap64 (x6_1 + (rd l0 x7_1))) + (rd l1 x7_1))) 65536)), (wrap64 (x7_1 + 1)), (by first | rfl | (simp; done) | (simp [*]; done)), (by first | rfl | (simp; done) | (simp [*]; done)), H', ⟨by have := HK1.out; have := HJ2.out; omega⟩, ⟨by apply rq; exact HO204.out⟩, ⟨by exact wq HB.out⟩⟩
         ·
          rw [if_neg c10] at H
          exact absurd H (by simp)
        ·
         rw [if_neg c9] at H
         have c9b0 : decide (x7_1 < (l1.length : Int)) = false := decide_eq_false c9
         clear c9
         by_cases c12 : x5_1.length < 17592186044416
         ·
          rw [if_pos c12] at H
          have LMc12 := Aside0.mk c12
          clear c12
          obtain ⟨y205, hy205⟩ : ∃ y_ : List Int, y_ = (x5_1 ++ [Int.tmod (wrap64 (x6_1 + (rd l0 x7_1))) 65536]) := ⟨_, rfl⟩
          replace H : (pointillistref01_plus.l0 kj2 l0 l1 y205 (wrap64 (Int.tdiv (wrap64 (x6_1 + (rd l0 x7_1))) 65536)) (wrap64 (x7_1 + 1))) = some r := by first | (rw [hy205]; with_reducible exact H) | (have H2_ := (Option.bind_some _ _).symm.trans H; rw [hy205]; with_reducible exact H2_) | (have H2_ := (Option.bind_some _ _).symm.trans H; with_reducible exact H2_) | with_reducible exact H | (rw [hy205]; exact H) | exact H
          have Ny205 := Aside0.mk hy205
          clear hy205
          have H' := Aside0.mk H
          clear H
          have p200 : 0 ≤ (x7_1 : Int) := of_decide_eq_true (by first | (with_reducible assumption) | assumption)
          have q200 : x7_1 < (l0.length : Int) := of_decide_eq_true (by first | (with_reducible assumption) | assumption)
          obtain ⟨ad200, e200, hx200_0⟩ := Kd.at_int HR0.out x7_1 p200 q200
          cases e200
          replace hx200_0 := (HB.out.cell (World.block_lt_of_cell? w _ hx200_0)).trans hx200_0
          replace p200 := eq_true p200
          replace q200 := eq_true q200
          go_wp2_with (first | ((with_reducible refine gate_builtin (b := .append) (xs := #[.tmp 46, .tmp 49]) rfl ?_); (try (refine gate_guard (by rfl) ?_; dsimp only)); at_builtin; refine Kd.R_append (Kd.int .i64) (w0 := w) w.heap.size rfl (.tmp 46) (.tmp 49) 61 3 (.int .i64 0) 8 rfl Tryd.underlying61 info3 rfl (by decide) (by omega) u5 x5_1 (Int.tmod (wrap64 (x6_1 + (rd l0 x7_1))) 65536) [.int .i64 (Int.tmod (wrap64 (x6_1 + (rd l0 x7_1))) 65536)] (fun k_ => (w.heap.size ≤ k_)) (fun _ => False) rfl rfl ?aP (fun _ hk => hk.elim) ?aF ?aO ?aB ?aS ?aL ?_; (case aP => exact rfl); (case aB => exact (wq HB.out)); (case aF => exact (fun k_ hk => (Nat.le_trans (below_size (wq HB.out)) hk))); (case aO => exact (rq HO_5.out)); (case aS => exact (below_size (wq HB.out))); (case aL => have := LMc12.out; omega); intro v206 w13 ho hb hg hat; rw [← Ny205.out] at ho; have n0_ := Aside0.mk (hb); have n1_ := Aside0.mk (ho); clear HB HO_5; have HB := n0_; have HO207 := n1_; clear n0_ n1_ ho hb hg hat))
          go_roundg kj2
          case measure => have := HK1.out; have := HJ2.out; omega
          case rel => exact ⟨(y205), (wrap64 (Int.tdiv (wrap64 (x6_1 + (rd l0 x7_1))) 65536)), (wrap64 (x7_1 + 1)), (by first | rfl | (simp; done) | (simp [*]; done)), (by first | rfl | (simp; done) | (simp [*]; done)), H', ⟨by have := HK1.out; have := HJ2.out; omega⟩, ⟨by apply rq; exact HO207.out⟩, ⟨by exact wq HB.out⟩⟩
         ·
          rw [if_neg c12] at H
          exact absurd H (by simp)
       ·
        rw [if_neg c8] at H
        exact absurd H (by simp)
      ·
       rw [if_neg c7] at H
       have c7b0 : decide (x7_1 < (l0.length : Int)) = false := decide_eq_false c7
       clear c7
       by_cases c14 : x7_1 < (l1.length : Int)
       ·
        rw [if_pos c14] at H
        have c14b0 : decide (x7_1 < (l1.length : Int)) = true := decide_eq_true c14
        clear c14
        by_cases c15 : 0 ≤ x7_1
        ·
         rw [if_pos c15] at H
         have c15b0 : decide (0 ≤ x7_1) = true := decide_eq_true c15
         clear c15
         by_cases c16 : x5_1.length < 17592186044416
         ·
          rw [if_pos c16] at H
          have LMc16 := Aside0.mk c16
          clear c16
          obtain ⟨y209, hy209⟩ : ∃ y_ : List Int, y_ = (x5_1 ++ [Int.tmod (wrap64 (x6_1 + (rd l1 x7_1))) 65536]) := ⟨_, rfl⟩
          replace H : (pointillistref01_plus.l0 kj2 l0 l1 y209 (wrap64 (Int.tdiv (wrap64 (x6_1 + (rd l1 x7_1))) 65536)) (wrap64 (x7_1 + 1))) = some r := by first | (rw [hy209]; with_reducible exact H) | (have H2_ := (Option.bind_some _ _).symm.trans H; rw [hy209]; with_reducible exact H2_) | (have H2_ := (Option.bind_some _ _).symm.trans H; with_reducible exact H2_) | with_reducible exact H | (rw [hy209]; exact H) | exact H
          have Ny209 := Aside0.mk hy209
          clear hy209
          have H' := Aside0.mk H
          clear H
          have p208 : 0 ≤ (x7_1 : Int) := of_decide_eq_true (by first | (with_reducible assumption) | assumption)
          have q208 : x7_1 < (l1.length : Int) := of_decide_eq_true (by first | (with_reducible assumption) | assumption)
          obtain ⟨ad208, e208, hx208_0⟩ := Kd.at_int HR1.out x7_1 p208 q208
          cases e208
          replace hx208_0 := (HB.out.cell (World.block_lt_of_cell? w _ hx208_0)).trans hx208_0
          replace p208 := eq_true p208
          replace q208 := eq_true q208
          go_wp2_with (first | ((with_reducible refine gate_builtin (b := .append) (xs := #[.tmp 46, .tmp 49]) rfl ?_); (try (refine gate_guard (by rfl) ?_; dsimp only)); at_builtin; refine Kd.R_append (Kd.int .i64) (w0 := w) w.heap.size rfl (.tmp 46) (.tmp 49) 61 3 (.int .i64 0) 8 rfl Tryd.underlying61 info3 rfl (by decide) (by omega) u5 x5_1 (Int.tmod (wrap64 (x6_1 + (rd l1 x7_1))) 65536) [.int .i64 (Int.tmod (wrap64 (x6_1 + (rd l1 x7_1))) 65536)] (fun k_ => (w.heap.size ≤ k_)) (fun _ => False) rfl rfl ?aP (fun _ hk => hk.elim) ?aF ?aO ?aB ?aS ?aL ?_; (case aP => exact rfl); (case aB => exact (wq HB.out)); (case aF => exact (fun k_ hk => (Nat.le_trans (below_size (wq HB.out)) hk))); (case aO => exact (rq HO_5.out)); (case aS => exact (below_size (wq HB.out))); (case aL => have := LMc16.out; omega); intro v210 w17 ho hb hg hat; rw [← Ny209.out] at ho; have n0_ := Aside0.mk (hb); have n1_ := Aside0.mk (ho); clear HB HO_5; have HB := n0_; have HO211 := n1_; clear n0_ n1_ ho hb hg hat))
          go_roundg kj2
          case measure => have := HK1.out; have := HJ2.out; omega
          case rel => exact ⟨(y209), (wrap64 (Int.tdiv (wrap64 (x6_1 + (rd l1 x7_1))) 65536)), (wrap64 (x7_1 + 1)), (by first | rfl | (simp; done) | (simp [*]; done)), (by first | rfl | (simp; done) | (simp [*]; done)), H', ⟨by have := HK1.out; have := HJ2.out; omega⟩, ⟨by apply rq; exact HO211.out⟩, ⟨by exact wq HB.out⟩⟩
         ·
          rw [if_neg c16] at H
          exact absurd H (by simp)
        ·
         rw [if_neg c15] at H
         exact absurd H (by simp)
       ·
        rw [if_neg c14] at H
        have c14b0 : decide (x7_1 < (l1.length : Int)) = false := decide_eq_false c14
        clear c14
        by_cases c18 : x5_1.length < 17592186044416
        ·
         rw [if_pos c18] at H
         have LMc18 := Aside0.mk c18
         clear c18
         obtain ⟨y212, hy212⟩ : ∃ y_ : List Int, y_ = (x5_1 ++ [Int.tmod x6_1 65536]) := ⟨_, rfl⟩
         replace H : (pointillistref01_plus.l0 kj2 l0 l1 y212 (wrap64 (Int.tdiv x6_1 65536)) (wrap64 (x7_1 + 1))) = some r := by first | (rw [hy212]; with_reducible exact H) | (have H2_ := (Option.bind_some _ _).symm.trans H; rw [hy212]; with_reducible exact H2_) | (have H2_ := (Option.bind_some _ _).symm.trans H; with_reducible exact H2_) | with_reducible exact H | (rw [hy212]; exact H) | exact H
         have Ny212 := Aside0.mk hy212
         clear hy212
         have H' := Aside0.mk H
         clear H
         go_wp2_with (first | ((with_reducible refine gate_builtin (b := .append) (xs := #[.tmp 46, .tmp 49]) rfl ?_); (try (refine gate_guard (by rfl) ?_; dsimp only)); at_builtin; refine Kd.R_append (Kd.int .i64) (w0 := w) w.heap.size rfl (.tmp 46) (.tmp 49) 61 3 (.int .i64 0) 8 rfl Tryd.underlying61 info3 rfl (by decide) (by omega) u5 x5_1 (Int.tmod x6_1 65536) [.int .i64 (Int.tmod x6_1 65536)] (fun k_ => (w.heap.size ≤ k_)) (fun _ => False) rfl rfl ?aP (fun _ hk => hk.elim) ?aF ?aO ?aB ?aS ?aL ?_; (case aP => exact rfl); (case aB => exact (wq HB.out)); (case aF => exact (fun k_ hk => (Nat.le_trans (below_size (wq HB.out)) hk))); (case aO => exact (rq HO_5.out)); (case aS => exact (below_size (wq HB.out))); (case aL => have := LMc18.out; omega); intro v213 w19 ho hb hg hat; rw [← Ny212.out] at ho; have n0_ := Aside0.mk (hb); have n1_ := Aside0.mk (ho); clear HB HO_5; have HB := n0_; have HO214 := n1_; clear n0_ n1_ ho hb hg hat))
         go_roundg kj2
         case measure => have := HK1.out; have := HJ2.out; omega
         case rel => exact ⟨(y212), (wrap64 (Int.tdiv x6_1 65536)), (wrap64 (x7_1 + 1)), (by first | rfl | (simp; done) | (simp [*]; done)), (by first | rfl | (simp; done) | (simp [*]; done)), H', ⟨by have := HK1.out; have := HJ2.out; omega⟩, ⟨by apply rq; exact HO214.out⟩, ⟨by exact wq HB.out⟩⟩
        ·
         rw [if_neg c18] at H
         exact absurd H (by simp)
     ·
      replace c6 := Bool.eq_false_iff.mpr c6
      subst c6
      have H1 : ((pointillistref01_trim.f kj2 x5_1).bind fun t197 => (some t197)) = some r := by rw [if_neg (show ¬ (false = true) by decide)] at H; exact H
      clear H
      have H := H1
      clear H1
      replace H := Option.bind_eq_some_iff.mp H
      obtain ⟨t197, A200, H⟩ := H
      replace H : (some t197) = some r := H
      have A20 := Aside0.mk A200
      clear A200
      obtain rfl := Option.some.inj H
      obtain ⟨Ao21, co21, eo21⟩ := Kd.R_slice HO_5.out
      subst eo21
      go_wp2_with (first | ((with_reducible refine gate_callee (f := 46) rfl ?_); refine goesL_ (some 54) rfl rfl Tryd.func46 (by kernel_rfl) rfl #[.slice Ao21 x5_1.length co21] rfl (by (try simp only [List.map_toArray, List.map_cons, List.map_nil]); first | done | rfl | (simp only [List.length_drop, List.length_take]; rfl)) ?_; (with_reducible refine (pointillistref01_trim.calls kj2 (fun k_ => some k_ = (.slice Ao21 x5_1.length co21 : Value).ownBlock) _ _ x5_1 t197 _ ?side1 A20.out).mono ?_); (case side1 => exact Kd.R_V (Kd.R_tight rfl (HO_5.out))); rintro e w22 ⟨v198, rfl, ho0, hb⟩; refine ⟨_, rfl, ?_⟩; have n0_ := Aside0.mk (Kd.R_below (rq HO_5.out) hb); have n1_ := Aside0.mk (Kd.V_lower (Kd.V_mono (ok' := fun k_ => (w.heap.size ≤ k_)) ho0 (fun k_ hk_ => Or.elim hk_ (fun hs_ => ((HO_5.out).1 k_ hs_.symm)) (fun hn_ => (Nat.le_trans (below_size (wq HB.out)) hn_)))) (below_size (wq HB.out))); have n2_ := Aside0.mk (below_step (wq HB.out) hb); clear HO_5 HB; have HO_5 := n0_; have HO199 := n1_; have HB := n2_; clear n0_ n1_ n2_; (try clear hb); (try clear hb2); (try clear hk); (try clear hi); (try clear ho0)))
      go_ret
      exact ⟨_, by first | rfl | (simp [errW_none, errW_some] <;> rfl) | (simp [*, errW_none, errW_some] <;> rfl), by apply vq; exact HO199.out, by exact wq HB.out⟩
def pointillistref01_less.l0 : Nat → List Int → List Int → Int → Option (Bool)
 | 0, _, _, _ => none
 | k + 1, x0, x1, x5 => if x5 ≥ 0 then (if 0 ≤ x5 then (if x5 < (x0.length : Int) then (if x5 < (x1.length : Int) then (if (rd x0 x5) = (rd x1 x5) then (pointillistref01_less.l0 k x0 x1 (wrap64 (x5 - 1))) else (some (decide ((rd x0 x5) < (rd x1 x5))))) else (none)) else (none)) else (none)) else (some false)
def pointillistref01_less.f (k : Nat) (l0 : List Int) (l1 : List Int) : Option (Bool) := if (l0.length : Int) = (l1.length : Int) then (pointillistref01_less.l0 k l0 l1 (wrap64 ((l0.length : Int) - 1))) else (some (decide ((l0.length : Int) < (l1.length : Int))))
theorem pointillistref01_less.mono_l : ∀ k, (∀ y0 y1 y2, LeO (pointillistref01_less.l0 k y0 y1 y2) (pointillistref01_less.l0 (k + 1) y0 y1 y2))
 | 0 => fun _ _ _ r h => by simp [pointillistref01_less.l0] at h
 | k + 1 => by
  have ih0 := pointillistref01_less.mono_l k
  ·
   intro y0 y1 y2
   unfold pointillistref01_less.l0
   repeat' first
   | (with_reducible exact ih0 _ _ _)
   | (with_reducible exact LeO.refl _)
   | (with_reducible exact LeO.none _)
   | (with_reducible refine LeO.ite ?_ ?_)
   | (with_reducible refine LeO.bind ?_ (fun _ => ?_))
   | exact ih0 _ _ _
   | exact LeO.none _
   | refine LeO.ite ?_ ?_
   | refine LeO.bind ?_ (fun _ => ?_)
theorem pointillistref01_less.mono : ∀ a0 a1 k, LeO (pointillistref01_less.f k a0 a1) (pointillistref01_less.f (k + 1) a0 a1) := by
 intro a0 a1 k
 have ih0 := pointillistref01_less.mono_l k
 unfold pointillistref01_less.f
 repeat' first
   | (with_reducible exact ih0 _ _ _)
   | (with_reducible exact LeO.refl _)
   | (with_reducible exact LeO.none _)
   | (with_reducible refine LeO.ite ?_ ?_)
   | (with_reducible refine LeO.bind ?_ (fun _ => ?_))
   | exact ih0 _ _ _
   | exact LeO.none _
   | refine LeO.ite ?_ ?_
   | refine LeO.bind ?_ (fun _ => ?_)
set_option maxHeartbeats 8000000 in
set_option maxRecDepth 100000 in
theorem pointillistref01_less.calls (k : Nat) (A0 : Option Addr) (c0 : Nat) (l0 : List Int) (A1 : Option Addr) (c1 : Nat) (l1 : List Int) (r : Bool) (w : World) (hr0 : Kd.C (Kd.int .i64) w A0 l0.length l0) (hc0 : l0.length ≤ c0) (hr1 : Kd.C (Kd.int .i64) w A1 l1.length l1) (hc1 : l1.length ≤ c1) (h : pointillistref01_less.f k l0 l1 = some r) :
  Calls Tryd.prog 44 #[.slice A0 l0.length c0, .slice A1 l1.length c1] w fun e w' => e = .returned (.bool r) ∧ Drawn0 w w' := by
 have HR0 := Aside0.mk hr0
 have HC0 := Aside0.mk hc0
 clear hr0 hc0
 have HR1 := Aside0.mk hr1
 have HC1 := Aside0.mk hc1
 clear hr1 hc1
 have H : (if (l0.length : Int) = (l1.length : Int) then (pointillistref01_less.l0 k l0 l1 (wrap64 ((l0.length : Int) - 1))) else (some (decide ((l0.length : Int) < (l1.length : Int))))) = some r := h
 clear h
 by_cases c3 : (l0.length : Int) = (l1.length : Int)
 ·
  rw [if_pos c3] at H
  have c3b0 : ((l0.length : Int) == (l1.length : Int)) = true := beq_iff_eq.mpr c3
  have c3b1 : ((l0.length : Int) != (l1.length : Int)) = false := bne_eq_false_iff_eq.mpr c3
  have c3b2 : (l0.length == l1.length) = true := by first | simpa using c3 | (simp at c3 ⊢; omega)
  clear c3
  have H' := Aside0.mk H
  clear H
  go_enter Tryd.func44, Tryd.ntmps44
  go_wp2
  repeat (go_quiet (fail); try go_wp2)
  go_loopg [5] k (fun kq v5 w' => ∃ (x5_1 : Int), v5 = .int .i64 x5_1 ∧ Aside0 (pointillistref01_less.l0 kq l0 l1 x5_1 = some r) ∧ Aside0 (kq ≤ k) ∧ Drawn0 w w')
  case atStart => exact ⟨(wrap64 ((l0.length : Int) - 1)), (by first | rfl | (simp; done) | (simp [*]; done)), H', ⟨Nat.le_refl _⟩, by repeat (first | exact Drawn0.refl _ | apply Drawn0.step)⟩
  case round =>
   clear H'
   try clear c1
   try clear p2
   try clear c3
   try clear c3b0
   try clear c3b1
   try clear c3b2
   obtain ⟨x5_1, rfl, HA, HK1, ⟨m1, rfl⟩⟩ := hrel
   cases gk with
   | zero => exact absurd HA.out (by simp [pointillistref01_less.l0])
   | succ k1 =>
    have H := HA.out
    clear HA
    simp only [pointillistref01_less.l0] at H
    by_cases c4 : x5_1 ≥ 0
    ·
     rw [if_pos c4] at H
     have c4b0 : decide (0 ≤ x5_1) = true := decide_eq_true c4
     clear c4
     by_cases c5 : 0 ≤ x5_1
     ·
      rw [if_pos c5] at H
      have c5b0 : decide (0 ≤ x5_1) = true := decide_eq_true c5
      clear c5
      by_cases c6 : x5_1 < (l0.length : Int)
      ·
       rw [if_pos c6] at H
       have c6b0 : decide (x5_1 < (l0.length : Int)) = true := decide_eq_true c6
       clear c6
       by_cases c7 : x5_1 < (l1.length : Int)
       ·
        rw [if_pos c7] at H
        have c7b0 : decide (x5_1 < (l1.length : Int)) = true := decide_eq_true c7
        clear c7
        by_cases c8 : (rd l0 x5_1) = (rd l1 x5_1)
        ·
         rw [if_pos c8] at H
         have c8b0 : ((rd l0 x5_1) == (rd l1 x5_1)) = true := beq_iff_eq.mpr c8
         have c8b1 : ((rd l0 x5_1) != (rd l1 x5_1)) = false := bne_eq_false_iff_eq.mpr c8
         clear c8
         have H' := Aside0.mk H
         clear H
         have p215 : 0 ≤ (x5_1 : Int) := of_decide_eq_true (by first | (with_reducible assumption) | assumption)
         have q215 : x5_1 < (l0.length : Int) := of_decide_eq_true (by first | (with_reducible assumption) | assumption)
         obtain ⟨ad215, e215, hx215_0⟩ := Kd.at_int HR0.out x5_1 p215 q215
         cases e215
         replace p215 := eq_true p215
         replace q215 := eq_true q215
         have p216 : 0 ≤ (x5_1 : Int) := of_decide_eq_true (by first | (with_reducible assumption) | assumption)
         have q216 : x5_1 < (l1.length : Int) := of_decide_eq_true (by first | (with_reducible assumption) | assumption)
         obtain ⟨ad216, e216, hx216_0⟩ := Kd.at_int HR1.out x5_1 p216 q216
         cases e216
         replace p216 := eq_true p216
         replace q216 := eq_true q216
         go_wp2
         repeat (go_quiet (fail); try go_wp2)
         go_roundg k1
         case measure => have := HK1.out; omega
         case rel => exact ⟨(wrap64 (x5_1 - 1)), (by first | rfl | (simp; done) | (simp [*]; done)), H', ⟨by have := HK1.out; omega⟩, by repeat (first | exact Drawn0.refl _ | apply Drawn0.step)⟩
        ·
         rw [if_neg c8] at H
         have c8b0 : ((rd l0 x5_1) == (rd l1 x5_1)) = false := beq_eq_false_iff_ne.mpr c8
         have c8b1 : ((rd l0 x5_1) != (rd l1 x5_1)) = true := bne_iff_ne.mpr c8
         obtain rfl := Option.some.inj H
         have p215 : 0 ≤ (x5_1 : Int) := of_decide_eq_true (by first | (with_reducible assumption) | assumption)
         have q215 : x5_1 < (l0.length : Int) := of_decide_eq_true (by first | (with_reducible assumption) | assumption)
         obtain ⟨ad215, e215, hx215_0⟩ := Kd.at_int HR0.out x5_1 p215 q215
         cases e215
         replace p215 := eq_true p215
         replace q215 := eq_true q215
         have p216 : 0 ≤ (x5_1 : Int) := of_decide_eq_true (by first | (with_reducible assumption) | assumption)
         have q216 : x5_1 < (l1.length : Int) := of_decide_eq_true (by first | (with_reducible assumption) | assumption)
         obtain ⟨ad216, e216, hx216_0⟩ := Kd.at_int HR1.out x5_1 p216 q216
         cases e216
         replace p216 := eq_true p216
         replace q216 := eq_true q216
         have p217 : 0 ≤ (x5_1 : Int) := of_decide_eq_true (by first | (with_reducible assumption) | assumption)
         have q217 : x5_1 < (l0.length : Int) := of_decide_eq_true (by first | (with_reducible assumption) | assumption)
         obtain ⟨ad217, e217, hx217_0⟩ := Kd.at_int HR0.out x5_1 p217 q217
         obtain rfl : ad215 = ad217 := (by injection e217)
         replace p217 := eq_true p217
         replace q217 := eq_true q217
         have p218 : 0 ≤ (x5_1 : Int) := of_decide_eq_true (by first | (with_reducible assumption) | assumption)
         have q218 : x5_1 < (l1.length : Int) := of_decide_eq_true (by first | (with_reducible assumption) | assumption)
         obtain ⟨ad218, e218, hx218_0⟩ := Kd.at_int HR1.out x5_1 p218 q218
         obtain rfl : ad216 = ad218 := (by injection e218)
         replace p218 := eq_true p218
         replace q218 := eq_true q218
         go_wp2
         repeat (go_quiet (fail); try go_wp2)
         go_ret
         exact ⟨by first | rfl | (simp; done) | (simp [*]; done), by repeat (first | exact Drawn0.refl _ | apply Drawn0.step)⟩
       ·
        rw [if_neg c7] at H
        exact absurd H (by simp)
      ·
       rw [if_neg c6] at H
       exact absurd H (by simp)
     ·
      rw [if_neg c5] at H
      exact absurd H (by simp)
    ·
     rw [if_neg c4] at H
     have c4b0 : decide (0 ≤ x5_1) = false := decide_eq_false c4
     clear c4
     obtain rfl := Option.some.inj H
     go_wp2
     repeat (go_quiet (fail); try go_wp2)
     go_ret
     exact ⟨by first | rfl | (simp; done) | (simp [*]; done), by repeat (first | exact Drawn0.refl _ | apply Drawn0.step)⟩
 ·
  rw [if_neg c3] at H
  have c3b0 : ((l0.length : Int) == (l1.length : Int)) = false := beq_eq_false_iff_ne.mpr c3
  have c3b1 : ((l0.length : Int) != (l1.length : Int)) = true := bne_iff_ne.mpr c3
  have c3b2 : (l0.length == l1.length) = false := by first | simpa using c3 | (simp at c3 ⊢; omega)
  obtain rfl := Option.some.inj H
  go_enter Tryd.func44, Tryd.ntmps44
  go_wp2
  repeat (go_quiet (fail); try go_wp2)
  go_ret
  exact ⟨by first | rfl | (simp; done) | (simp [*]; done), by repeat (first | exact Drawn0.refl _ | apply Drawn0.step)⟩
end Go.Proofs.YtbnjgaeeojcjbaaDoor.PR
namespace Go.Proofs.YtbnjgaeeojcjbaaDoor.PR
open Go.RowKit Go.Proofs.YtbnjgaeeojcjbaaDoorW.PrintWords Go.Proofs.YtbnjgaeeojcjbaaDoorW.PrintLast Go.Proofs.YtbnjgaeeojcjbaaDoorW.PrintMore
attribute [local go_sem] max2_int min2_int max_two min_two max_three min_three max_four min_four
set_option linter.unusedVariables false
set_option linter.unusedSimpArgs false
def pointillistref01_minus.l0 : Nat → List Int → List Int → List Int → Int → Int → Option (List Int)
 | 0, _, _, _, _, _ => none
 | k + 1, x0, x1, x5, x6, x7 => if x7 < (x0.length : Int) then (if 0 ≤ x7 then (if x7 < (x1.length : Int) then (if (wrap64 ((wrap64 ((rd x0 x7) - x6)) - (rd x1 x7))) < 0 then (if x5.length < 17592186044416 then (pointillistref01_minus.l0 k x0 x1 (x5 ++ [wrap64 ((wrap64 ((wrap64 ((rd x0 x7) - x6)) - (rd x1 x7))) + 65536)]) 1 (wrap64 (x7 + 1))) else (none)) else (if x5.length < 17592186044416 then (pointillistref01_minus.l0 k x0 x1 (x5 ++ [wrap64 ((wrap64 ((rd x0 x7) - x6)) - (rd x1 x7))]) 0 (wrap64 (x7 + 1))) else (none))) else (if (wrap64 ((rd x0 x7) - x6)) < 0 then (if x5.length < 17592186044416 then (pointillistref01_minus.l0 k x0 x1 (x5 ++ [wrap64 ((wrap64 ((rd x0 x7) - x6)) + 65536)]) 1 (wrap64 (x7 + 1))) else (none)) else (if x5.length < 17592186044416 then (pointillistref01_minus.l0 k x0 x1 (x5 ++ [wrap64 ((rd x0 x7) - x6)]) 0 (wrap64 (x7 + 1))) else (none)))) else (none)) else ((pointillistref01_trim.f k x5).bind fun t219 => (some t219))
def pointillistref01_minus.f (k : Nat) (l0 : List Int) (l1 : List Int) : Option (List Int) := pointillistref01_minus.l0 k l0 l1 ([] : List Int) 0 0
theorem pointillistref01_minus.mono_l : ∀ k, (∀ y0 y1 y2 y3 y4, LeO (pointillistref01_minus.l0 k y0 y1 y2 y3 y4) (pointillistref01_minus.l0 (k + 1) y0 y1 y2 y3 y4))
 | 0 => fun _ _ _ _ _ r h => by simp [pointillistref01_minus.l0] at h
 | k + 1 => by
  have ih0 := pointillistref01_minus.mono_l k
  ·
   intro y0 y1 y2 y3 y4
   unfold pointillistref01_minus.l0
   repeat' first
   | (with_reducible exact ih0 _ _ _ _ _)
   | (with_reducible exact pointillistref01_trim.mono _ _)
   | (with_reducible exact LeO.refl _)
   | (with_reducible exact LeO.none _)
   | (with_reducible refine LeO.ite ?_ ?_)
   | (with_reducible refine LeO.bind ?_ (fun _ => ?_))
   | exact ih0 _ _ _ _ _
   | exact pointillistref01_trim.mono _ _
   | exact LeO.none _
   | refine LeO.ite ?_ ?_
   | refine LeO.bind ?_ (fun _ => ?_)
theorem pointillistref01_minus.mono : ∀ a0 a1 k, LeO (pointillistref01_minus.f k a0 a1) (pointillistref01_minus.f (k + 1) a0 a1) := by
 intro a0 a1 k
 have ih0 := pointillistref01_minus.mono_l k
 unfold pointillistref01_minus.f
 repeat' first
   | (with_reducible exact ih0 _ _ _ _ _)
   | (with_reducible exact pointillistref01_trim.mono _ _)
   | (with_reducible exact LeO.refl _)
   | (with_reducible exact LeO.none _)
   | (with_reducible refine LeO.ite ?_ ?_)
   | (with_reducible refine LeO.bind ?_ (fun _ => ?_))
   | exact ih0 _ _ _ _ _
   | exact pointillistref01_trim.mono _ _
   | exact LeO.none _
   | refine LeO.ite ?_ ?_
   | refine LeO.bind ?_ (fun _ => ?_)
set_option maxHeartbeats 8000000 in
set_option maxRecDepth 100000 in
theorem pointillistref01_minus.calls (k : Nat) (A0 : Option Addr) (c0 : Nat) (l0 : List Int) (A1 : Option Addr) (c1 : Nat) (l1 : List Int) (r : List Int) (w : World) (hr0 : Kd.C (Kd.int .i64) w A0 l0.length l0) (hc0 : l0.length ≤ c0) (hr1 : Kd.C (Kd.int .i64) w A1 l1.length l1) (hc1 : l1.length ≤ c1) (h : pointillistref01_minus.f k l0 l1 = some r) :
  Calls Tryd.prog 45 #[.slice A0 l0.length c0, .slice A1 l1.length c1] w fun e w' => ∃ v0_ : Value, e = .returned (v0_) ∧ Kd.V (Kd.int .i64) 3 w' w.heap.size (fun k_ => (w.heap.size ≤ k_)) v0_ r ∧ Below w.heap.size w w' := by
 have HR0 := Aside0.mk hr0
 have HC0 := Aside0.mk hc0
 clear hr0 hc0
 have HR1 := Aside0.mk hr1
 have HC1 := Aside0.mk hc1
 clear hr1 hc1
 have HB := Aside0.mk (Below.refl w.heap.size w)
 have H : (pointillistref01_minus.l0 k l0 l1 ([] : List Int) 0 0) = some r := h
 clear h
 have H' := Aside0.mk H
 clear H
 go_enter Tryd.func45, Tryd.ntmps45
 go_wp2
 go_loopg [5, 6, 7] k (fun kq v5 v6 v7 w' => ∃ (x5_1 : List Int) (x6_1 : Int) (x7_1 : Int), v6 = .int .i64 x6_1 ∧ v7 = .int .i64 x7_1 ∧ Aside0 (pointillistref01_minus.l0 kq l0 l1 x5_1 x6_1 x7_1 = some r) ∧ Aside0 (kq ≤ k) ∧ Aside0 (Kd.R (Kd.int .i64) 3 w' w.heap.size (fun k_ => (w.heap.size ≤ k_)) v5 x5_1) ∧ Aside0 (Below w.heap.size w w'))
 case atStart => exact ⟨(([] : List Int)), (0), (0), (by first | rfl | (simp; done) | (simp [*]; done)), (by first | rfl | (simp; done) | (simp [*]; done)), H', ⟨Nat.le_refl _⟩, ⟨by first | exact Kd.R_nil _ _ _ _ _ | exact Kd.N_nil _ _ _ _ _ | exact Kd.V_nil _ _ _ _ _ | exact Kd.Q_nil _ _ _ _ _ | exact Kd.S_nil _ _ _ _ _⟩, ⟨by exact wq HB.out⟩⟩
 case round =>
  clear H'
  try clear c1
  try clear p2
  obtain ⟨x5_1, x6_1, x7_1, rfl, rfl, HA, HK1, HO_5, HB⟩ := hrel
  cases gk with
  | zero => exact absurd HA.out (by simp [pointillistref01_minus.l0])
  | succ k1 =>
   have H := HA.out
   clear HA
   simp only [pointillistref01_minus.l0] at H
   by_cases c3 : x7_1 < (l0.length : Int)
   ·
    rw [if_pos c3] at H
    have c3b0 : decide (x7_1 < (l0.length : Int)) = true := decide_eq_true c3
    clear c3
    by_cases c4 : 0 ≤ x7_1
    ·
     rw [if_pos c4] at H
     have c4b0 : decide (0 ≤ x7_1) = true := decide_eq_true c4
     clear c4
     by_cases c5 : x7_1 < (l1.length : Int)
     ·
      rw [if_pos c5] at H
      have c5b0 : decide (x7_1 < (l1.length : Int)) = true := decide_eq_true c5
      clear c5
      by_cases c6 : (wrap64 ((wrap64 ((rd l0 x7_1) - x6_1)) - (rd l1 x7_1))) < 0
      ·
       rw [if_pos c6] at H
       have c6b0 : decide ((wrap64 ((wrap64 ((rd l0 x7_1) - x6_1)) - (rd l1 x7_1))) < 0) = true := decide_eq_true c6
       clear c6
       by_cases c7 : x5_1.length < 17592186044416
       ·
        rw [if_pos c7] at H
        have LMc7 := Aside0.mk c7
        clear c7
        obtain ⟨y224, hy224⟩ : ∃ y_ : List Int, y_ = (x5_1 ++ [wrap64 ((wrap64 ((wrap64 ((rd l0 x7_1) - x6_1)) - (rd l1 x7_1))) + 65536)]) := ⟨_, rfl⟩
        replace H : (pointillistref01_minus.l0 k1 l0 l1 y224 1 (wrap64 (x7_1 + 1))) = some r := by first | (rw [hy224]; with_reducible exact H) | (have H2_ := (Option.bind_some _ _).symm.trans H; rw [hy224]; with_reducible exact H2_) | (have H2_ := (Option.bind_some _ _).symm.trans H; with_reducible exact H2_) | with_reducible exact H | (rw [hy224]; exact H) | exact H
        have Ny224 := Aside0.mk hy224
        clear hy224
        have H' := Aside0.mk H
        clear H
        have p222 : 0 ≤ (x7_1 : Int) := of_decide_eq_true (by first | (with_reducible assumption) | assumption)
        have q222 : x7_1 < (l0.length : Int) := of_decide_eq_true (by first | (with_reducible assumption) | assumption)
        obtain ⟨ad222, e222, hx222_0⟩ := Kd.at_int HR0.out x7_1 p222 q222
        cases e222
        replace hx222_0 := (HB.out.cell (World.block_lt_of_cell? w _ hx222_0)).trans hx222_0
        replace p222 := eq_true p222
        replace q222 := eq_true q222
        have p223 : 0 ≤ (x7_1 : Int) := of_decide_eq_true (by first | (with_reducible assumption) | assumption)
        have q223 : x7_1 < (l1.length : Int) := of_decide_eq_true (by first | (with_reducible assumption) | assumption)
        obtain ⟨ad223, e223, hx223_0⟩ := Kd.at_int HR1.out x7_1 p223 q223
        cases e223
        replace hx223_0 := (HB.out.cell (World.block_lt_of_cell? w _ hx223_0)).trans hx223_0
        replace p223 := eq_true p223
        replace q223 := eq_true q223
        go_wp2_with (first | ((with_reducible refine gate_builtin (b := .append) (xs := #[.tmp 35, .tmp 37]) rfl ?_); at_builtin; refine Kd.R_append (Kd.int .i64) (w0 := w) w.heap.size rfl (.tmp 35) (.tmp 37) 61 3 (.int .i64 0) 8 rfl Tryd.underlying61 info3 rfl (by decide) (by omega) u5 x5_1 (wrap64 ((wrap64 ((wrap64 ((rd l0 x7_1) - x6_1)) - (rd l1 x7_1))) + 65536)) [.int .i64 (wrap64 ((wrap64 ((wrap64 ((rd l0 x7_1) - x6_1)) - (rd l1 x7_1))) + 65536))] (fun k_ => (w.heap.size ≤ k_)) (fun _ => False) rfl rfl ?aP (fun _ hk => hk.elim) ?aF ?aO ?aB ?aS ?aL ?_; (case aP => exact rfl); (case aB => exact (wq HB.out)); (case aF => exact (fun k_ hk => (Nat.le_trans (below_size (wq HB.out)) hk))); (case aO => exact (rq HO_5.out)); (case aS => exact (below_size (wq HB.out))); (case aL => have := LMc7.out; omega); intro v225 w8 ho hb hg hat; rw [← Ny224.out] at ho; have n0_ := Aside0.mk (hb); have n1_ := Aside0.mk (ho); clear HB HO_5; have HB := n0_; have HO226 := n1_; clear n0_ n1_ ho hb hg hat))
        go_roundg k1
        case measure => have := HK1.out; omega
        case rel => exact ⟨(y224), (1), (wrap64 (x7_1 + 1)), (by first | rfl | (simp; done) | (simp [*]; done)), (by first | rfl | (simp; done) | (simp [*]; done)), H', ⟨by have := HK1.out; omega⟩, ⟨by apply rq; exact HO226.out⟩, ⟨by exact wq HB.out⟩⟩
       ·
        rw [if_neg c7] at H
        exact absurd H (by simp)
      ·
       rw [if_neg c6] at H
       have c6b0 : decide ((wrap64 ((wrap64 ((rd l0 x7_1) - x6_1)) - (rd l1 x7_1))) < 0) = false := decide_eq_false c6
       clear c6
       by_cases c9 : x5_1.length < 17592186044416
       ·
        rw [if_pos c9] at H
        have LMc9 := Aside0.mk c9
        clear c9
        obtain ⟨y227, hy227⟩ : ∃ y_ : List Int, y_ = (x5_1 ++ [wrap64 ((wrap64 ((rd l0 x7_1) - x6_1)) - (rd l1 x7_1))]) := ⟨_, rfl⟩
        replace H : (pointillistref01_minus.l0 k1 l0 l1 y227 0 (wrap64 (x7_1 + 1))) = some r := by first | (rw [hy227]; with_reducible exact H) | (have H2_ := (Option.bind_some _ _).symm.trans H; rw [hy227]; with_reducible exact H2_) | (have H2_ := (Option.bind_some _ _).symm.trans H; with_reducible exact H2_) | with_reducible exact H | (rw [hy227]; exact H) | exact H
        have Ny227 := Aside0.mk hy227
        clear hy227
        have H' := Aside0.mk H
        clear H
        have p222 : 0 ≤ (x7_1 : Int) := of_decide_eq_true (by first | (with_reducible assumption) | assumption)
        have q222 : x7_1 < (l0.length : Int) := of_decide_eq_true (by first | (with_reducible assumption) | assumption)
        obtain ⟨ad222, e222, hx222_0⟩ := Kd.at_int HR0.out x7_1 p222 q222
        cases e222
        replace hx222_0 := (HB.out.cell (World.block_lt_of_cell? w _ hx222_0)).trans hx222_0
        replace p222 := eq_true p222
        replace q222 := eq_true q222
        have p223 : 0 ≤ (x7_1 : Int) := of_decide_eq_true (by first | (with_reducible assumption) | assumption)
        have q223 : x7_1 < (l1.length : Int) := of_decide_eq_true (by first | (with_reducible assumption) | assumption)
        obtain ⟨ad223, e223, hx223_0⟩ := Kd.at_int HR1.out x7_1 p223 q223
        cases e223
        replace hx223_0 := (HB.out.cell (World.block_lt_of_cell? w _ hx223_0)).trans hx223_0
        replace p223 := eq_true p223
        replace q223 := eq_true q223
        go_wp2_with (first | ((with_reducible refine gate_builtin (b := .append) (xs := #[.tmp 35, .tmp 37]) rfl ?_); at_builtin; refine Kd.R_append (Kd.int .i64) (w0 := w) w.heap.size rfl (.tmp 35) (.tmp 37) 61 3 (.int .i64 0) 8 rfl Tryd.underlying61 info3 rfl (by decide) (by omega) u5 x5_1 (wrap64 ((wrap64 ((rd l0 x7_1) - x6_1)) - (rd l1 x7_1))) [.int .i64 (wrap64 ((wrap64 ((rd l0 x7_1) - x6_1)) - (rd l1 x7_1)))] (fun k_ => (w.heap.size ≤ k_)) (fun _ => False) rfl rfl ?aP (fun _ hk => hk.elim) ?aF ?aO ?aB ?aS ?aL ?_; (case aP => exact rfl); (case aB => exact (wq HB.out)); (case aF => exact (fun k_ hk => (Nat.le_trans (below_size (wq HB.out)) hk))); (case aO => exact (rq HO_5.out)); (case aS => exact (below_size (wq HB.out))); (case aL => have := LMc9.out; omega); intro v228 w10 ho hb hg hat; rw [← Ny227.out] at ho; have n0_ := Aside0.mk (hb); have n1_ := Aside0.mk (ho); clear HB HO_5; have HB := n0_; have HO229 := n1_; clear n0_ n1_ ho hb hg hat))
        go_roundg k1
        case measure => have := HK1.out; omega
        case rel => exact ⟨(y227), (0), (wrap64 (x7_1 + 1)), (by first | rfl | (simp; done) | (simp [*]; done)), (by first | rfl | (simp; done) | (simp [*]; done)), H', ⟨by have := HK1.out; omega⟩, ⟨by apply rq; exact HO229.out⟩, ⟨by exact wq HB.out⟩⟩
       ·
        rw [if_neg c9] at H
        exact absurd H (by simp)
     ·
      rw [if_neg c5] at H
      have c5b0 : decide (x7_1 < (l1.length : Int)) = false := decide_eq_false c5
      clear c5
      by_cases c11 : (wrap64 ((rd l0 x7_1) - x6_1)) < 0
      ·
       rw [if_pos c11] at H
       have c11b0 : decide ((wrap64 ((rd l0 x7_1) - x6_1)) < 0) = true := decide_eq_true c11
       clear c11
       by_cases c12 : x5_1.length < 17592186044416
       ·
        rw [if_pos c12] at H
        have LMc12 := Aside0.mk c12
        clear c12
        obtain ⟨y230, hy230⟩ : ∃ y_ : List Int, y_ = (x5_1 ++ [wrap64 ((wrap64 ((rd l0 x7_1) - x6_1)) + 65536)]) := ⟨_, rfl⟩
        replace H : (pointillistref01_minus.l0 k1 l0 l1 y230 1 (wrap64 (x7_1 + 1))) = some r := by first | (rw [hy230]; with_reducible exact H) | (have H2_ := (Option.bind_some _ _).symm.trans H; rw [hy230]; with_reducible exact H2_) | (have H2_ := (Option.bind_some _ _).symm.trans H; with_reducible exact H2_) | with_reducible exact H | (rw [hy230]; exact H) | exact H
        have Ny230 := Aside0.mk hy230
        clear hy230
        have H' := Aside0.mk H
        clear H
        have p222 : 0 ≤ (x7_1 : Int) := of_decide_eq_true (by first | (with_reducible assumption) | assumption)
        have q222 : x7_1 < (l0.length : Int) := of_decide_eq_true (by first | (with_reducible assumption) | assumption)
        obtain ⟨ad222, e222, hx222_0⟩ := Kd.at_int HR0.out x7_1 p222 q222
        cases e222
        replace hx222_0 := (HB.out.cell (World.block_lt_of_cell? w _ hx222_0)).trans hx222_0
        replace p222 := eq_true p222
        replace q222 := eq_true q222
        go_wp2_with (first | ((with_reducible refine gate_builtin (b := .append) (xs := #[.tmp 35, .tmp 37]) rfl ?_); at_builtin; refine Kd.R_append (Kd.int .i64) (w0 := w) w.heap.size rfl (.tmp 35) (.tmp 37) 61 3 (.int .i64 0) 8 rfl Tryd.underlying61 info3 rfl (by decide) (by omega) u5 x5_1 (wrap64 ((wrap64 ((rd l0 x7_1) - x6_1)) + 65536)) [.int .i64 (wrap64 ((wrap64 ((rd l0 x7_1) - x6_1)) + 65536))] (fun k_ => (w.heap.size ≤ k_)) (fun _ => False) rfl rfl ?aP (fun _ hk => hk.elim) ?aF ?aO ?aB ?aS ?aL ?_; (case aP => exact rfl); (case aB => exact (wq HB.out)); (case aF => exact (fun k_ hk => (Nat.le_trans (below_size (wq HB.out)) hk))); (case aO => exact (rq HO_5.out)); (case aS => exact (below_size (wq HB.out))); (case aL => have := LMc12.out; omega); intro v231 w13 ho hb hg hat; rw [← Ny230.out] at ho; have n0_ := Aside0.mk (hb); have n1_ := Aside0.mk (ho); clear HB HO_5; have HB := n0_; have HO232 := n1_; clear n0_ n1_ ho hb hg hat))
        go_roundg k1
        case measure => have := HK1.out; omega
        case rel => exact ⟨(y230), (1), (wrap64 (x7_1 + 1)), (by first | rfl | (simp; done) | (simp [*]; done)), (by first | rfl | (simp; done) | (simp [*]; done)), H', ⟨by have := HK1.out; omega⟩, ⟨by apply rq; exact HO232.out⟩, ⟨by exact wq HB.out⟩⟩
       ·
        rw [if_neg c12] at H
        exact absurd H (by simp)
      ·
       rw [if_neg c11] at H
       have c11b0 : decide ((wrap64 ((rd l0 x7_1) - x6_1)) < 0) = false := decide_eq_false c11
       clear c11
       by_cases c14 : x5_1.length < 17592186044416
       ·
        rw [if_pos c14] at H
        have LMc14 := Aside0.mk c14
        clear c14
        obtain ⟨y233, hy233⟩ : ∃ y_ : List Int, y_ = (x5_1 ++ [wrap64 ((rd l0 x7_1) - x6_1)]) := ⟨_, rfl⟩
        replace H : (pointillistref01_minus.l0 k1 l0 l1 y233 0 (wrap64 (x7_1 + 1))) = some r := by first | (rw [hy233]; with_reducible exact H) | (have H2_ := (Option.bind_some _ _).symm.trans H; rw [hy233]; with_reducible exact H2_) | (have H2_ := (Option.bind_some _ _).symm.trans H; with_reducible exact H2_) | with_reducible exact H | (rw [hy233]; exact H) | exact H
        have Ny233 := Aside0.mk hy233
        clear hy233
        have H' := Aside0.mk H
        clear H
        have p222 : 0 ≤ (x7_1 : Int) := of_decide_eq_true (by first | (with_reducible assumption) | assumption)
        have q222 : x7_1 < (l0.length : Int) := of_decide_eq_true (by first | (with_reducible assumption) | assumption)
        obtain ⟨ad222, e222, hx222_0⟩ := Kd.at_int HR0.out x7_1 p222 q222
        cases e222
        replace hx222_0 := (HB.out.cell (World.block_lt_of_cell? w _ hx222_0)).trans hx222_0
        replace p222 := eq_true p222
        replace q222 := eq_true q222
        go_wp2_with (first | ((with_reducible refine gate_builtin (b := .append) (xs := #[.tmp 35, .tmp 37]) rfl ?_); at_builtin; refine Kd.R_append (Kd.int .i64) (w0 := w) w.heap.size rfl (.tmp 35) (.tmp 37) 61 3 (.int .i64 0) 8 rfl Tryd.underlying61 info3 rfl (by decide) (by omega) u5 x5_1 (wrap64 ((rd l0 x7_1) - x6_1)) [.int .i64 (wrap64 ((rd l0 x7_1) - x6_1))] (fun k_ => (w.heap.size ≤ k_)) (fun _ => False) rfl rfl ?aP (fun _ hk => hk.elim) ?aF ?aO ?aB ?aS ?aL ?_; (case aP => exact rfl); (case aB => exact (wq HB.out)); (case aF => exact (fun k_ hk => (Nat.le_trans (below_size (wq HB.out)) hk))); (case aO => exact (rq HO_5.out)); (case aS => exact (below_size (wq HB.out))); (case aL => have := LMc14.out; omega); intro v234 w15 ho hb hg hat; rw [← Ny233.out] at ho; have n0_ := Aside0.mk (hb); have n1_ := Aside0.mk (ho); clear HB HO_5; have HB := n0_; have HO235 := n1_; clear n0_ n1_ ho hb hg hat))
        go_roundg k1
        case measure => have := HK1.out; omega
        case rel => exact ⟨(y233), (0), (wrap64 (x7_1 + 1)), (by first | rfl | (simp; done) | (simp [*]; done)), (by first | rfl | (simp; done) | (simp [*]; done)), H', ⟨by have := HK1.out; omega⟩, ⟨by apply rq; exact HO235.out⟩, ⟨by exact wq HB.out⟩⟩
       ·
        rw [if_neg c14] at H
        exact absurd H (by simp)
    ·
     rw [if_neg c4] at H
     exact absurd H (by simp)
   ·
    rw [if_neg c3] at H
    have c3b0 : decide (x7_1 < (l0.length : Int)) = false := decide_eq_false c3
    clear c3
    replace H := Option.bind_eq_some_iff.mp H
    obtain ⟨t219, A160, H⟩ := H
    replace H : (some t219) = some r := H
    have A16 := Aside0.mk A160
    clear A160
    obtain rfl := Option.some.inj H
    obtain ⟨Ao17, co17, eo17⟩ := Kd.R_slice HO_5.out
    subst eo17
    go_wp2_with (first | ((with_reducible refine gate_callee (f := 46) rfl ?_); refine goesL_ (some 40) rfl rfl Tryd.func46 (by kernel_rfl) rfl #[.slice Ao17 x5_1.length co17] rfl (by (try simp only [List.map_toArray, List.map_cons, List.map_nil]); first | done | rfl | (simp only [List.length_drop, List.length_take]; rfl)) ?_; (with_reducible refine (pointillistref01_trim.calls k1 (fun k_ => some k_ = (.slice Ao17 x5_1.length co17 : Value).ownBlock) _ _ x5_1 t219 _ ?side1 A16.out).mono ?_); (case side1 => exact Kd.R_V (Kd.R_tight rfl (HO_5.out))); rintro e w18 ⟨v220, rfl, ho0, hb⟩; refine ⟨_, rfl, ?_⟩; have n0_ := Aside0.mk (Kd.R_below (rq HO_5.out) hb); have n1_ := Aside0.mk (Kd.V_lower (Kd.V_mono (ok' := fun k_ => (w.heap.size ≤ k_)) ho0 (fun k_ hk_ => Or.elim hk_ (fun hs_ => ((HO_5.out).1 k_ hs_.symm)) (fun hn_ => (Nat.le_trans (below_size (wq HB.out)) hn_)))) (below_size (wq HB.out))); have n2_ := Aside0.mk (below_step (wq HB.out) hb); clear HO_5 HB; have HO_5 := n0_; have HO221 := n1_; have HB := n2_; clear n0_ n1_ n2_; (try clear hb); (try clear hb2); (try clear hk); (try clear hi); (try clear ho0)))
    go_ret
    exact ⟨_, by first | rfl | (simp [errW_none, errW_some] <;> rfl) | (simp [*, errW_none, errW_some] <;> rfl), by apply vq; exact HO221.out, by exact wq HB.out⟩
def pointillistref01_Add.f (k : Nat) (a0_0 : Bool) (l0_1 : List Int) (a1_0 : Bool) (l1_1 : List Int) : Option (Bool × List Int) := if (a0_0 == a1_0) = true then ((pointillistref01_plus.f k l0_1 l1_1).bind fun t239 => (some (a0_0, t239))) else ((pointillistref01_less.f k l0_1 l1_1).bind fun t242 => (if t242 = true then ((pointillistref01_minus.f k l1_1 l0_1).bind fun t243 => (some (a1_0, t243))) else ((pointillistref01_minus.f k l0_1 l1_1).bind fun t246 => (some (a0_0, t246)))))
theorem pointillistref01_Add.mono : ∀ a0 a1 a2 a3 k, LeO (pointillistref01_Add.f k a0 a1 a2 a3) (pointillistref01_Add.f (k + 1) a0 a1 a2 a3) := by
 intro a0 a1 a2 a3 k
 unfold pointillistref01_Add.f
 repeat' first
   | (with_reducible exact pointillistref01_less.mono _ _ _)
   | (with_reducible exact pointillistref01_minus.mono _ _ _)
   | (with_reducible exact pointillistref01_plus.mono _ _ _)
   | (with_reducible exact LeO.refl _)
   | (with_reducible exact LeO.none _)
   | (with_reducible refine LeO.ite ?_ ?_)
   | (with_reducible refine LeO.bind ?_ (fun _ => ?_))
   | exact pointillistref01_less.mono _ _ _
   | exact pointillistref01_minus.mono _ _ _
   | exact pointillistref01_plus.mono _ _ _
   | exact LeO.none _
   | refine LeO.ite ?_ ?_
   | refine LeO.bind ?_ (fun _ => ?_)
def pointillistref01_Add.T2 : Bool × List (List Nat × List Nat) := (true, [([], []), ([0], [0]), ([], []), ([2], [2]), ([], []), ([4], [4]), ([3, 5], [3, 5]), ([1, 6], [1, 6]), ([7, 6, 0, 1, 2, 3, 4, 5, 6, 7], [7])])
def pointillistref01_Add.B2 : List Nat := [0, 1, 0, 4, 0, 16, 60, 127, 255]
theorem pointillistref01_Add.tab2 : rtab .any (opsOf Tryd.f33 2) = pointillistref01_Add.T2 := by kernel_rfl
theorem pointillistref01_Add.bits2 : waitsOk pointillistref01_Add.T2.2 pointillistref01_Add.B2 = true := by kernel_rfl
def pointillistref01_Add.T4 : Bool × List (List Nat × List Nat) := (true, [([], []), ([0], [0]), ([], []), ([2], [2]), ([], []), ([4], [4]), ([3, 5], [3, 5]), ([1, 6], [1, 6]), ([7, 6, 0, 1, 2, 3, 4, 5, 6, 7], [7])])
def pointillistref01_Add.B4 : List Nat := [0, 1, 0, 4, 0, 16, 60, 127, 255]
theorem pointillistref01_Add.tab4 : rtab .any (opsOf Tryd.f33 4) = pointillistref01_Add.T4 := by kernel_rfl
theorem pointillistref01_Add.bits4 : waitsOk pointillistref01_Add.T4.2 pointillistref01_Add.B4 = true := by kernel_rfl
def pointillistref01_Add.T5 : Bool × List (List Nat × List Nat) := (true, [([], []), ([0], [0]), ([], []), ([2], [2]), ([], []), ([4], [4]), ([3, 5], [3, 5]), ([1, 6], [1, 6]), ([7, 6, 0, 1, 2, 3, 4, 5, 6, 7], [7])])
def pointillistref01_Add.B5 : List Nat := [0, 1, 0, 4, 0, 16, 60, 127, 255]
theorem pointillistref01_Add.tab5 : rtab .any (opsOf Tryd.f33 5) = pointillistref01_Add.T5 := by kernel_rfl
theorem pointillistref01_Add.bits5 : waitsOk pointillistref01_Add.T5.2 pointillistref01_Add.B5 = true := by kernel_rfl
set_option maxHeartbeats 8000000 in
set_option maxRecDepth 100000 in
theorem pointillistref01_Add.calls (k : Nat) (a0_0 : Bool) (A0_1 : Option Addr) (c0_1 : Nat) (l0_1 : List Int) (a1_0 : Bool) (A1_1 : Option Addr) (c1_1 : Nat) (l1_1 : List Int) (r1 : Bool) (r2 : List Int) (w : World) (hr0_1 : Kd.C (Kd.int .i64) w A0_1 l0_1.length l0_1) (hc0_1 : l0_1.length ≤ c0_1) (hr1_1 : Kd.C (Kd.int .i64) w A1_1 l1_1.length l1_1) (hc1_1 : l1_1.length ≤ c1_1) (h : pointillistref01_Add.f k a0_0 l0_1 a1_0 l1_1 = some (r1, r2)) :
  Calls Tryd.prog 33 #[.agg #[.bool a0_0, .slice A0_1 l0_1.length c0_1], .agg #[.bool a1_0, .slice A1_1 l1_1.length c1_1]] w fun e w' => ∃ v1_ : Value, e = .returned (.agg #[.bool r1, v1_]) ∧ Kd.V (Kd.int .i64) 3 w' w.heap.size (fun k_ => (w.heap.size ≤ k_)) v1_ r2 ∧ Below w.heap.size w w' := by
 have hu63 := Tryd.underlying63
 have HR0_1 := Aside0.mk hr0_1
 have HC0_1 := Aside0.mk hc0_1
 clear hr0_1 hc0_1
 have HR1_1 := Aside0.mk hr1_1
 have HC1_1 := Aside0.mk hc1_1
 clear hr1_1 hc1_1
 have HB := Aside0.mk (Below.refl w.heap.size w)
 have H : (if (a0_0 == a1_0) = true then ((pointillistref01_plus.f k l0_1 l1_1).bind fun t239 => (some (a0_0, t239))) else ((pointillistref01_less.f k l0_1 l1_1).bind fun t242 => (if t242 = true then ((pointillistref01_minus.f k l1_1 l0_1).bind fun t243 => (some (a1_0, t243))) else ((pointillistref01_minus.f k l0_1 l1_1).bind fun t246 => (some (a0_0, t246)))))) = some (r1, r2) := h
 clear h
 by_cases c3 : (a0_0 == a1_0) = true
 ·
  rw [if_pos c3] at H
  have c3b0 : (a0_0 == a1_0) = true := c3
  (try (have c3b1 : decide (a0_0 = a1_0) = true := by simpa using c3))
  (try (have c3b2 : (a0_0 == a1_0) = true := by simpa using c3))
  clear c3
  replace H := Option.bind_eq_some_iff.mp H
  obtain ⟨t239, A40, H⟩ := H
  replace H : (some (a0_0, t239)) = some (r1, r2) := H
  have A4 := Aside0.mk A40
  clear A40
  simp only [Option.some.injEq, Prod.mk.injEq] at H
  obtain ⟨rfl, rfl⟩ := H
  go_enter Tryd.func33, Tryd.ntmps33
  try go_wp2_with (first | ((with_reducible refine gate_dst (N := 2) rfl ?_); refine box_event ?hg (N := 2) ?hd (cs := #[.bool a0_0, .slice A0_1 l0_1.length c0_1]) (t := 63) ?hr ?_; (case hd => rfl); (case hg => rfl); (case hr => first | (go_simp; done) | (go_simp; rfl)); intro gb236 hg w5 hbox hb; have n0_ := Aside0.mk (below_step (wq HB.out) hb); have n1_ := Aside0.mk (hbox); have n2_ := Aside0.mk ((by rw [hg]; exact (below_size (wq HB.out)) : w.heap.size ≤ gb236)); have n3_ := n2_; clear HB; have HB := n0_; have BK236 := n1_; have GW236 := n2_; have GE236 := n3_; clear n0_ n1_ n2_ n3_ hb hbox hg) | ((with_reducible refine gate_dst (N := 3) rfl ?_); refine box_event ?hg (N := 3) ?hd (cs := #[.bool a1_0, .slice A1_1 l1_1.length c1_1]) (t := 63) ?hr ?_; (case hd => rfl); (case hg => rfl); (case hr => first | (go_simp; done) | (go_simp; rfl)); intro gb237 hg w6 hbox hb; have n0_ := Aside0.mk (blk_below (bq BK236.out) hb); have n1_ := Aside0.mk (below_step (wq HB.out) hb); have n2_ := Aside0.mk (hbox); have n3_ := Aside0.mk ((by rw [hg]; exact (below_size (wq HB.out)) : w.heap.size ≤ gb237)); have n4_ := n3_; have n5_ := Aside0.mk ((by rw [hg]; exact Nat.ne_of_lt (blk_lt (bq BK236.out)) : gb236 ≠ gb237)); have n6_ := Aside0.mk ((by rw [hg]; exact Nat.ne_of_gt (blk_lt (bq BK236.out)) : gb237 ≠ gb236)); clear BK236 HB; have BK236 := n0_; have HB := n1_; have BK237 := n2_; have GW237 := n3_; have GE237 := n4_; have NB236_237 := n5_; have NB237_236 := n6_; clear n0_ n1_ n2_ n3_ n4_ n5_ n6_ hb hbox hg) | ((with_reducible refine gate_dst (N := 4) rfl ?_); refine box_event ?hg (N := 4) ?hd (cs := #[.bool false, .slice none 0 0]) (t := 63) ?hr ?_; (case hd => rfl); (case hg => rfl); (case hr => first | (go_simp; done) | (go_simp; rfl)); intro gb238 hg w7 hbox hb; have n0_ := Aside0.mk (blk_below (bq BK236.out) hb); have n1_ := Aside0.mk (blk_below (bq BK237.out) hb); have n2_ := Aside0.mk (below_step (wq HB.out) hb); have n3_ := Aside0.mk (hbox); have n4_ := Aside0.mk ((by rw [hg]; exact (below_size (wq HB.out)) : w.heap.size ≤ gb238)); have n5_ := n4_; have n6_ := Aside0.mk ((by rw [hg]; exact Nat.ne_of_lt (blk_lt (bq BK236.out)) : gb236 ≠ gb238)); have n7_ := Aside0.mk ((by rw [hg]; exact Nat.ne_of_gt (blk_lt (bq BK236.out)) : gb238 ≠ gb236)); have n8_ := Aside0.mk ((by rw [hg]; exact Nat.ne_of_lt (blk_lt (bq BK237.out)) : gb237 ≠ gb238)); have n9_ := Aside0.mk ((by rw [hg]; exact Nat.ne_of_gt (blk_lt (bq BK237.out)) : gb238 ≠ gb237)); clear BK236 BK237 HB; have BK236 := n0_; have BK237 := n1_; have HB := n2_; have BK238 := n3_; have GW238 := n4_; have GE238 := n5_; have NB236_238 := n6_; have NB238_236 := n7_; have NB237_238 := n8_; have NB238_237 := n9_; clear n0_ n1_ n2_ n3_ n4_ n5_ n6_ n7_ n8_ n9_ hb hbox hg; have hnb8 := NB236_237.out; have hnc8 := NB237_236.out; have hnb9 := NB236_238.out; have hnc9 := NB238_236.out; have hcz10_0 : w7.cell? ⟨gb236, 0, none⟩ = some (.bool a0_0) := (blk_cell BK236.out 0).trans rfl; have hcz10_1 : w7.cell? ⟨gb236, 1, none⟩ = some (.slice A0_1 l0_1.length c0_1) := (blk_cell BK236.out 1).trans rfl; have hfz10_0 := blk_frozen BK236.out 0; have hfz10_1 := blk_frozen BK236.out 1; have hnb11 := NB237_238.out; have hnc11 := NB238_237.out; have hcz12_0 : w7.cell? ⟨gb237, 0, none⟩ = some (.bool a1_0) := (blk_cell BK237.out 0).trans rfl; have hcz12_1 : w7.cell? ⟨gb237, 1, none⟩ = some (.slice A1_1 l1_1.length c1_1) := (blk_cell BK237.out 1).trans rfl; have hfz12_0 := blk_frozen BK237.out 0; have hfz12_1 := blk_frozen BK237.out 1))
  have n0_ := Aside0.mk (blk_drew BK236.out)
  have n1_ := Aside0.mk (blk_drew BK237.out)
  have n2_ := Aside0.mk (blk_drew BK238.out)
  have n3_ := Aside0.mk (below_drew1 HB.out)
  clear BK236 BK237 BK238 HB; have BK236 := n0_; have BK237 := n1_; have BK238 := n2_; have HB := n3_; clear n0_ n1_ n2_ n3_
  refine start_ (n := 9) (S := fun w' => w'.cell? ⟨gb236, 0, none⟩ = some (.bool a0_0) ∧ w'.cell? ⟨gb236, 1, none⟩ = some (.slice A0_1 l0_1.length c0_1) ∧ w'.cell? ⟨gb237, 0, none⟩ = some (.bool a1_0) ∧ w'.cell? ⟨gb237, 1, none⟩ = some (.slice A1_1 l1_1.length c1_1)) (ds := []) (bt 0 9) (by kernel_rfl) rfl rfl ⟨(blk_cell BK236.out 0).trans rfl, (blk_cell BK236.out 1).trans rfl, (blk_cell BK237.out 0).trans rfl, (blk_cell BK237.out 1).trans rfl⟩ (fun hHeld => ?_); refine with_tabW pointillistref01_Add.tab2 pointillistref01_Add.bits2 (fun HT_ HW_ => ?_)
  generalize w7.drew = w13 at BK236 BK237 BK238 HB hHeld ⊢
  refine pure_ (i := 0) (N := some 10) (v := ?_) (a' := ?_) (bt 1 8) rfl rfl (any_of HT_.out (by kernel_rfl)) (fun _ _ _ h => h) (Or.inl ⟨by rfl, ?_⟩) ?_ ?_
  rotate_left; focus (intro w'; go_simp; with_reducible rfl)
  rotate_left; focus (simp only [apz, i64_w, i32_w]; rfl)
  refine pure_ (i := 2) (N := some 12) (v := ?_) (a' := ?_) (bm 9 5) rfl rfl (any_of HT_.out (by kernel_rfl)) (fun _ _ _ h => h) (Or.inl ⟨by rfl, ?_⟩) ?_ ?_
  rotate_left; focus (intro w'; go_simp; with_reducible rfl)
  rotate_left; focus (simp only [apz, i64_w, i32_w]; rfl)
  refine pure_ (i := 4) (N := some 14) (v := ?_) (a' := ?_) (bm 9 21) rfl rfl (any_of HT_.out (by kernel_rfl)) (fun _ _ _ h => h) (Or.inl ⟨by rfl, ?_⟩) ?_ ?_
  rotate_left; focus (intro w'; go_simp; with_reducible rfl)
  rotate_left; focus (simp only [apz, i64_w, i32_w]; rfl)
  refine take_ (i := 1) (N := some 11) (v := ?_) (a' := ?_) (bm 9 23) rfl rfl (take_ofW HT_.out HW_.out (by kernel_rfl)) (fun _ _ _ h => h) (Or.inl ⟨by rfl, ?_⟩) hHeld ?_ ?_
  rotate_left
  ·
   rintro w' ⟨s0, s1, s2, s3⟩
   go_simp
   with_reducible rfl
  rotate_left; focus (simp only [apz, i64_w, i32_w]; rfl)
  refine take_ (i := 3) (N := some 13) (v := ?_) (a' := ?_) (bt 5 4) rfl rfl (take_ofW HT_.out HW_.out (by kernel_rfl)) (fun _ _ _ h => h) (Or.inl ⟨by rfl, ?_⟩) hHeld ?_ ?_
  rotate_left
  ·
   rintro w' ⟨s0, s1, s2, s3⟩
   go_simp
   with_reducible rfl
  rotate_left; focus (simp only [apz, i64_w, i32_w]; rfl)
  refine take_ (i := 5) (N := some 15) (v := ?_) (a' := ?_) (bt 6 3) rfl rfl (take_ofW HT_.out HW_.out (by kernel_rfl)) (fun _ _ _ h => h) (Or.inl ⟨by rfl, ?_⟩) hHeld ?_ ?_
  rotate_left
  ·
   rintro w' ⟨s0, s1, s2, s3⟩
   go_simp
   with_reducible rfl
  rotate_left; focus (simp only [apz, i64_w, i32_w]; rfl)
  refine one_ (i := 6) (N := some 16) (bt 7 2) rfl rfl (one_of HT_.out (by kernel_rfl)) (by decide) (fun K hK => ?_)
  refine goes_ Tryd.func43 (by kernel_rfl) rfl #[.slice A0_1 l0_1.length c0_1, .slice A1_1 l1_1.length c1_1] (by rfl) rfl rfl (by (try simp only [List.map_toArray, List.map_cons, List.map_nil]); first | done | rfl | (simp only [List.length_drop, List.length_take]; rfl)) ?_
  with_reducible refine (pointillistref01_plus.calls k _ _ l0_1 _ _ l1_1 t239 _ ?side1 ?side2 ?side3 ?side4 A4.out).mono ?_
  (case side1 => exact cq (Kd.C_below HR0_1.out HB.out))
  (case side2 => exact HC0_1.out)
  (case side3 => exact cq (Kd.C_below HR1_1.out HB.out))
  (case side4 => exact HC1_1.out)
  rintro e w14 ⟨v240, rfl, ho0, hb⟩
  refine ⟨_, rfl, ?_⟩
  have n0_ := Aside0.mk (Kd.V_lower (Kd.V_mono (ok' := fun k_ => (w.heap.size ≤ k_) ∧ k_ ≠ gb236 ∧ k_ ≠ gb237 ∧ k_ ≠ gb238) ho0 (fun k_ hk_ => ⟨(Nat.le_trans (below_size (wq HB.out)) hk_), (Kd.freshB (bq BK236.out) k_ hk_), (Kd.freshB (bq BK237.out) k_ hk_), (Kd.freshB (bq BK238.out) k_ hk_)⟩)) (below_size (wq HB.out)))
  have n1_ := Aside0.mk (blk_below (bq BK236.out) hb)
  have n2_ := Aside0.mk (blk_below (bq BK237.out) hb)
  have n3_ := Aside0.mk (blk_below (bq BK238.out) hb)
  have n4_ := Aside0.mk (below_step (wq HB.out) hb)
  clear BK236 BK237 BK238 HB; have HO241 := n0_; have BK236 := n1_; have BK237 := n2_; have BK238 := n3_; have HB := n4_; clear n0_ n1_ n2_ n3_ n4_
  (try clear hb)
  (try clear hb2)
  (try clear hk)
  (try clear hi)
  (try clear ho0)
  obtain ⟨Ao15, co15, eo15⟩ := Kd.V_slice HO241.out
  (first | subst eo15 | (injection eo15 with f1_ f2_ f3_; have f4_ := f1_.symm; have f5_ := f3_.symm; clear f1_ f2_ f3_; subst f4_; subst f5_))
  refine hK.out _ _ ⟨(blk_cell BK236.out 0).trans rfl, (blk_cell BK236.out 1).trans rfl, (blk_cell BK237.out 0).trans rfl, (blk_cell BK237.out 1).trans rfl⟩ (fun hHeld => ?_)
  clear hK K
  refine norm_ (a' := ?_) ?_ ?_
  rotate_left
  ·
   show Act.put _ (some 16) _ = _
   simp only [apz, i64_w, i32_w]
   rfl
  refine pure_ (i := 7) (N := some 17) (v := ?_) (a' := ?_) (bt 8 1) rfl rfl (any_of HT_.out (by kernel_rfl)) (fun _ _ _ h => h) (Or.inl ⟨by rfl, ?_⟩) ?_ ?_
  rotate_left; focus (intro w'; go_simp; with_reducible rfl)
  rotate_left; focus (simp only [apz, i64_w, i32_w]; rfl)
  refine one_ (i := 8) (N := none) (bt 9 0) rfl rfl (one_of HT_.out (by kernel_rfl)) (by decide) (fun K hK => ?_)
  have hs16 : w14.cell? ⟨gb238, 0, none⟩ = some (.bool false) := (blk_cell BK238.out 0).trans rfl
  have hfs16 := blk_frozen BK238.out 0
  have hns16_0 := NB236_238.out
  have hns16_1 := NB237_238.out
  have hms16_0 := NB238_236.out
  have hms16_1 := NB238_237.out
  have hs17 : w14.cell? ⟨gb238, 1, none⟩ = some (.slice none 0 0) := (blk_cell BK238.out 1).trans rfl
  have hfs17 := blk_frozen BK238.out 1
  have hns17_0 := NB236_238.out
  have hns17_1 := NB237_238.out
  have hms17_0 := NB238_236.out
  have hms17_1 := NB238_237.out
  refine skip_ (w1 := ?_) (by rfl) rfl ?_ ?_
  rotate_left
  ·
   go_simp
   rfl
  refine hK.out _ _ ⟨(cf NB236_238.out ((cf NB236_238.out (hHeld.1)))), (cf NB236_238.out ((cf NB236_238.out (hHeld.2.1)))), (cf NB237_238.out ((cf NB237_238.out (hHeld.2.2.1)))), (cf NB237_238.out ((cf NB237_238.out (hHeld.2.2.2))))⟩ (fun hHeld => ?_)
  clear hK K
  refine done_ (done_of HT_.out (by kernel_rfl)) ?_
  try go_wp2
  refine bodyPost_ret (results_cell_row rfl _ _ gb238 63 #[.bool a0_0, .slice Ao15 t239.length co15] (0, 0) _ rfl (by refine bq ?_; refine blk_put (cs := #[.bool a0_0, .slice none 0 0]) ?_ 1 _ rfl; refine bq ?_; refine blk_put (cs := #[.bool false, .slice none 0 0]) ?_ 0 _ rfl; refine bq ?_; exact BK238.out) Tryd.underlying63 rfl (by kernel_rfl)) rfl ?_
  exact ⟨_, by first | rfl | (simp [errW_none, errW_some] <;> rfl) | (simp [*, errW_none, errW_some] <;> rfl), by apply vq; exact Kd.V_mono (Kd.V_far (p := ⟨gb238, 1, none⟩) (Kd.V_far (p := ⟨gb238, 0, none⟩) (Kd.V_mono HO241.out (fun k_ hk => (⟨hk, hk.2.2.2⟩ : _ ∧ k_ ≠ gb238))) (fun _ hk => hk.2) (.bool a0_0)) (fun _ hk => hk.2) (.slice Ao15 t239.length co15)) (fun _ hk => hk.1.1), by exact wq HB.out⟩
 ·
  rw [if_neg c3] at H
  have c3b0 : (a0_0 == a1_0) = false := by simpa using c3
  (try (have c3b1 : decide (a0_0 = a1_0) = false := by simpa using c3))
  (try (have c3b2 : (a0_0 == a1_0) = false := by simpa using c3))
  (try (have c3b3 : ¬ (a0_0 = a1_0) := by simpa using c3))
  clear c3
  replace H := Option.bind_eq_some_iff.mp H
  obtain ⟨t242, A180, H⟩ := H
  replace H : (if t242 = true then ((pointillistref01_minus.f k l1_1 l0_1).bind fun t243 => (some (a1_0, t243))) else ((pointillistref01_minus.f k l0_1 l1_1).bind fun t246 => (some (a0_0, t246)))) = some (r1, r2) := H
  have A18 := Aside0.mk A180
  clear A180
  by_cases c19 : t242 = true
  ·
   subst c19
   have H1 : ((pointillistref01_minus.f k l1_1 l0_1).bind fun t243 => (some (a1_0, t243))) = some (r1, r2) := by rw [if_pos rfl] at H; exact H
   clear H
   have H := H1
   clear H1
   replace H := Option.bind_eq_some_iff.mp H
   obtain ⟨t243, A200, H⟩ := H
   replace H : (some (a1_0, t243)) = some (r1, r2) := H
   have A20 := Aside0.mk A200
   clear A200
   simp only [Option.some.injEq, Prod.mk.injEq] at H
   obtain ⟨rfl, rfl⟩ := H
   go_enter Tryd.func33, Tryd.ntmps33
   try go_wp2_with (first | ((with_reducible refine gate_dst (N := 2) rfl ?_); refine box_event ?hg (N := 2) ?hd (cs := #[.bool a0_0, .slice A0_1 l0_1.length c0_1]) (t := 63) ?hr ?_; (case hd => rfl); (case hg => rfl); (case hr => first | (go_simp; done) | (go_simp; rfl)); intro gb236 hg w21 hbox hb; have n0_ := Aside0.mk (below_step (wq HB.out) hb); have n1_ := Aside0.mk (hbox); have n2_ := Aside0.mk ((by rw [hg]; exact (below_size (wq HB.out)) : w.heap.size ≤ gb236)); have n3_ := n2_; clear HB; have HB := n0_; have BK236 := n1_; have GW236 := n2_; have GE236 := n3_; clear n0_ n1_ n2_ n3_ hb hbox hg) | ((with_reducible refine gate_dst (N := 3) rfl ?_); refine box_event ?hg (N := 3) ?hd (cs := #[.bool a1_0, .slice A1_1 l1_1.length c1_1]) (t := 63) ?hr ?_; (case hd => rfl); (case hg => rfl); (case hr => first | (go_simp; done) | (go_simp; rfl)); intro gb237 hg w22 hbox hb; have n0_ := Aside0.mk (blk_below (bq BK236.out) hb); have n1_ := Aside0.mk (below_step (wq HB.out) hb); have n2_ := Aside0.mk (hbox); have n3_ := Aside0.mk ((by rw [hg]; exact (below_size (wq HB.out)) : w.heap.size ≤ gb237)); have n4_ := n3_; have n5_ := Aside0.mk ((by rw [hg]; exact Nat.ne_of_lt (blk_lt (bq BK236.out)) : gb236 ≠ gb237)); have n6_ := Aside0.mk ((by rw [hg]; exact Nat.ne_of_gt (blk_lt (bq BK236.out)) : gb237 ≠ gb236)); clear BK236 HB; have BK236 := n0_; have HB := n1_; have BK237 := n2_; have GW237 := n3_; have GE237 := n4_; have NB236_237 := n5_; have NB237_236 := n6_; clear n0_ n1_ n2_ n3_ n4_ n5_ n6_ hb hbox hg) | ((with_reducible refine gate_dst (N := 4) rfl ?_); refine box_event ?hg (N := 4) ?hd (cs := #[.bool false, .slice none 0 0]) (t := 63) ?hr ?_; (case hd => rfl); (case hg => rfl); (case hr => first | (go_simp; done) | (go_simp; rfl)); intro gb238 hg w23 hbox hb; have n0_ := Aside0.mk (blk_below (bq BK236.out) hb); have n1_ := Aside0.mk (blk_below (bq BK237.out) hb); have n2_ := Aside0.mk (below_step (wq HB.out) hb); have n3_ := Aside0.mk (hbox); have n4_ := Aside0.mk ((by rw [hg]; exact (below_size (wq HB.out)) : w.heap.size ≤ gb238)); have n5_ := n4_; have n6_ := Aside0.mk ((by rw [hg]; exact Nat.ne_of_lt (blk_lt (bq BK236.out)) : gb236 ≠ gb238)); have n7_ := Aside0.mk ((by rw [hg]; exact Nat.ne_of_gt (blk_lt (bq BK236.out)) : gb238 ≠ gb236)); have n8_ := Aside0.mk ((by rw [hg]; exact Nat.ne_of_lt (blk_lt (bq BK237.out)) : gb237 ≠ gb238)); have n9_ := Aside0.mk ((by rw [hg]; exact Nat.ne_of_gt (blk_lt (bq BK237.out)) : gb238 ≠ gb237)); clear BK236 BK237 HB; have BK236 := n0_; have BK237 := n1_; have HB := n2_; have BK238 := n3_; have GW238 := n4_; have GE238 := n5_; have NB236_238 := n6_; have NB238_236 := n7_; have NB237_238 := n8_; have NB238_237 := n9_; clear n0_ n1_ n2_ n3_ n4_ n5_ n6_ n7_ n8_ n9_ hb hbox hg; have hnb24 := NB236_237.out; have hnc24 := NB237_236.out; have hnb25 := NB236_238.out; have hnc25 := NB238_236.out; have hcz26_0 : w23.cell? ⟨gb236, 0, none⟩ = some (.bool a0_0) := (blk_cell BK236.out 0).trans rfl; have hcz26_1 : w23.cell? ⟨gb236, 1, none⟩ = some (.slice A0_1 l0_1.length c0_1) := (blk_cell BK236.out 1).trans rfl; have hfz26_0 := blk_frozen BK236.out 0; have hfz26_1 := blk_frozen BK236.out 1; have hnb27 := NB237_238.out; have hnc27 := NB238_237.out; have hcz28_0 : w23.cell? ⟨gb237, 0, none⟩ = some (.bool a1_0) := (blk_cell BK237.out 0).trans rfl; have hcz28_1 : w23.cell? ⟨gb237, 1, none⟩ = some (.slice A1_1 l1_1.length c1_1) := (blk_cell BK237.out 1).trans rfl; have hfz28_0 := blk_frozen BK237.out 0; have hfz28_1 := blk_frozen BK237.out 1) | ((with_reducible refine gate_callee (f := 44) rfl ?_); refine goesL_ (some 22) rfl rfl Tryd.func44 (by kernel_rfl) rfl #[.slice A0_1 l0_1.length c0_1, .slice A1_1 l1_1.length c1_1] rfl (by (try simp only [List.map_toArray, List.map_cons, List.map_nil]); first | done | rfl | (simp only [List.length_drop, List.length_take]; rfl)) ?_; (with_reducible refine (pointillistref01_less.calls k _ _ l0_1 _ _ l1_1 true _ ?side1 ?side2 ?side3 ?side4 A18.out).mono ?_); (case side1 => exact cq (Kd.C_below HR0_1.out HB.out)); (case side2 => exact HC0_1.out); (case side3 => exact cq (Kd.C_below HR1_1.out HB.out)); (case side4 => exact HC1_1.out); rintro e w' ⟨rfl, ⟨nd, rfl⟩⟩; refine ⟨_, rfl, ?_⟩; (try (rw [drewN_self w23]; generalize hq_ : World.drewN w23 _ = w23; have n0_ : Aside0 (w23.heap[gb236]? = some (.cells #[.bool a0_0, .slice A0_1 l0_1.length c0_1] 63 (0, 0))) := ⟨by rw [← hq_]; exact (bq BK236.out)⟩; have n1_ : Aside0 (w23.heap[gb237]? = some (.cells #[.bool a1_0, .slice A1_1 l1_1.length c1_1] 63 (0, 0))) := ⟨by rw [← hq_]; exact (bq BK237.out)⟩; have n2_ : Aside0 (w23.heap[gb238]? = some (.cells #[.bool false, .slice none 0 0] 63 (0, 0))) := ⟨by rw [← hq_]; exact (bq BK238.out)⟩; have n3_ : Aside0 (Below w.heap.size w w23) := ⟨by rw [← hq_]; exact (wq HB.out)⟩; clear BK236 BK237 BK238 HB hq_; have BK236 := n0_; have BK237 := n1_; have BK238 := n2_; have HB := n3_; clear n0_ n1_ n2_ n3_))))
   have n0_ := Aside0.mk (blk_drew BK236.out)
   have n1_ := Aside0.mk (blk_drew BK237.out)
   have n2_ := Aside0.mk (blk_drew BK238.out)
   have n3_ := Aside0.mk (below_drew1 HB.out)
   clear BK236 BK237 BK238 HB; have BK236 := n0_; have BK237 := n1_; have BK238 := n2_; have HB := n3_; clear n0_ n1_ n2_ n3_
   refine start_ (n := 9) (S := fun w' => w'.cell? ⟨gb237, 0, none⟩ = some (.bool a1_0) ∧ w'.cell? ⟨gb237, 1, none⟩ = some (.slice A1_1 l1_1.length c1_1) ∧ w'.cell? ⟨gb236, 0, none⟩ = some (.bool a0_0) ∧ w'.cell? ⟨gb236, 1, none⟩ = some (.slice A0_1 l0_1.length c0_1)) (ds := []) (bt 0 9) (by kernel_rfl) rfl rfl ⟨(blk_cell BK237.out 0).trans rfl, (blk_cell BK237.out 1).trans rfl, (blk_cell BK236.out 0).trans rfl, (blk_cell BK236.out 1).trans rfl⟩ (fun hHeld => ?_); refine with_tabW pointillistref01_Add.tab4 pointillistref01_Add.bits4 (fun HT_ HW_ => ?_)
   generalize w23.drew = w29 at BK236 BK237 BK238 HB hHeld ⊢
   refine pure_ (i := 0) (N := some 23) (v := ?_) (a' := ?_) (bt 1 8) rfl rfl (any_of HT_.out (by kernel_rfl)) (fun _ _ _ h => h) (Or.inl ⟨by rfl, ?_⟩) ?_ ?_
   rotate_left; focus (intro w'; go_simp; with_reducible rfl)
   rotate_left; focus (simp only [apz, i64_w, i32_w]; rfl)
   refine pure_ (i := 2) (N := some 25) (v := ?_) (a' := ?_) (bm 9 5) rfl rfl (any_of HT_.out (by kernel_rfl)) (fun _ _ _ h => h) (Or.inl ⟨by rfl, ?_⟩) ?_ ?_
   rotate_left; focus (intro w'; go_simp; with_reducible rfl)
   rotate_left; focus (simp only [apz, i64_w, i32_w]; rfl)
   refine pure_ (i := 4) (N := some 27) (v := ?_) (a' := ?_) (bm 9 21) rfl rfl (any_of HT_.out (by kernel_rfl)) (fun _ _ _ h => h) (Or.inl ⟨by rfl, ?_⟩) ?_ ?_
   rotate_left; focus (intro w'; go_simp; with_reducible rfl)
   rotate_left; focus (simp only [apz, i64_w, i32_w]; rfl)
   refine take_ (i := 1) (N := some 24) (v := ?_) (a' := ?_) (bm 9 23) rfl rfl (take_ofW HT_.out HW_.out (by kernel_rfl)) (fun _ _ _ h => h) (Or.inl ⟨by rfl, ?_⟩) hHeld ?_ ?_
   rotate_left
   ·
    rintro w' ⟨s0, s1, s2, s3⟩
    go_simp
    with_reducible rfl
   rotate_left; focus (simp only [apz, i64_w, i32_w]; rfl)
   refine take_ (i := 3) (N := some 26) (v := ?_) (a' := ?_) (bt 5 4) rfl rfl (take_ofW HT_.out HW_.out (by kernel_rfl)) (fun _ _ _ h => h) (Or.inl ⟨by rfl, ?_⟩) hHeld ?_ ?_
   rotate_left
   ·
    rintro w' ⟨s0, s1, s2, s3⟩
    go_simp
    with_reducible rfl
   rotate_left; focus (simp only [apz, i64_w, i32_w]; rfl)
   refine take_ (i := 5) (N := some 28) (v := ?_) (a' := ?_) (bt 6 3) rfl rfl (take_ofW HT_.out HW_.out (by kernel_rfl)) (fun _ _ _ h => h) (Or.inl ⟨by rfl, ?_⟩) hHeld ?_ ?_
   rotate_left
   ·
    rintro w' ⟨s0, s1, s2, s3⟩
    go_simp
    with_reducible rfl
   rotate_left; focus (simp only [apz, i64_w, i32_w]; rfl)
   refine one_ (i := 6) (N := some 29) (bt 7 2) rfl rfl (one_of HT_.out (by kernel_rfl)) (by decide) (fun K hK => ?_)
   refine goes_ Tryd.func45 (by kernel_rfl) rfl #[.slice A1_1 l1_1.length c1_1, .slice A0_1 l0_1.length c0_1] (by rfl) rfl rfl (by (try simp only [List.map_toArray, List.map_cons, List.map_nil]); first | done | rfl | (simp only [List.length_drop, List.length_take]; rfl)) ?_
   with_reducible refine (pointillistref01_minus.calls k _ _ l1_1 _ _ l0_1 t243 _ ?side1 ?side2 ?side3 ?side4 A20.out).mono ?_
   (case side1 => exact cq (Kd.C_below HR1_1.out HB.out))
   (case side2 => exact HC1_1.out)
   (case side3 => exact cq (Kd.C_below HR0_1.out HB.out))
   (case side4 => exact HC0_1.out)
   rintro e w30 ⟨v244, rfl, ho0, hb⟩
   refine ⟨_, rfl, ?_⟩
   have n0_ := Aside0.mk (Kd.V_lower (Kd.V_mono (ok' := fun k_ => (w.heap.size ≤ k_) ∧ k_ ≠ gb236 ∧ k_ ≠ gb237 ∧ k_ ≠ gb238) ho0 (fun k_ hk_ => ⟨(Nat.le_trans (below_size (wq HB.out)) hk_), (Kd.freshB (bq BK236.out) k_ hk_), (Kd.freshB (bq BK237.out) k_ hk_), (Kd.freshB (bq BK238.out) k_ hk_)⟩)) (below_size (wq HB.out)))
   have n1_ := Aside0.mk (blk_below (bq BK236.out) hb)
   have n2_ := Aside0.mk (blk_below (bq BK237.out) hb)
   have n3_ := Aside0.mk (blk_below (bq BK238.out) hb)
   have n4_ := Aside0.mk (below_step (wq HB.out) hb)
   clear BK236 BK237 BK238 HB; have HO245 := n0_; have BK236 := n1_; have BK237 := n2_; have BK238 := n3_; have HB := n4_; clear n0_ n1_ n2_ n3_ n4_
   (try clear hb)
   (try clear hb2)
   (try clear hk)
   (try clear hi)
   (try clear ho0)
   obtain ⟨Ao31, co31, eo31⟩ := Kd.V_slice HO245.out
   (first | subst eo31 | (injection eo31 with f1_ f2_ f3_; have f4_ := f1_.symm; have f5_ := f3_.symm; clear f1_ f2_ f3_; subst f4_; subst f5_))
   refine hK.out _ _ ⟨(blk_cell BK237.out 0).trans rfl, (blk_cell BK237.out 1).trans rfl, (blk_cell BK236.out 0).trans rfl, (blk_cell BK236.out 1).trans rfl⟩ (fun hHeld => ?_)
   clear hK K
   refine norm_ (a' := ?_) ?_ ?_
   rotate_left
   ·
    show Act.put _ (some 29) _ = _
    simp only [apz, i64_w, i32_w]
    rfl
   refine pure_ (i := 7) (N := some 30) (v := ?_) (a' := ?_) (bt 8 1) rfl rfl (any_of HT_.out (by kernel_rfl)) (fun _ _ _ h => h) (Or.inl ⟨by rfl, ?_⟩) ?_ ?_
   rotate_left; focus (intro w'; go_simp; with_reducible rfl)
   rotate_left; focus (simp only [apz, i64_w, i32_w]; rfl)
   refine one_ (i := 8) (N := none) (bt 9 0) rfl rfl (one_of HT_.out (by kernel_rfl)) (by decide) (fun K hK => ?_)
   have hs32 : w30.cell? ⟨gb238, 0, none⟩ = some (.bool false) := (blk_cell BK238.out 0).trans rfl
   have hfs32 := blk_frozen BK238.out 0
   have hns32_0 := NB236_238.out
   have hns32_1 := NB237_238.out
   have hms32_0 := NB238_236.out
   have hms32_1 := NB238_237.out
   have hs33 : w30.cell? ⟨gb238, 1, none⟩ = some (.slice none 0 0) := (blk_cell BK238.out 1).trans rfl
   have hfs33 := blk_frozen BK238.out 1
   have hns33_0 := NB236_238.out
   have hns33_1 := NB237_238.out
   have hms33_0 := NB238_236.out
   have hms33_1 := NB238_237.out
   refine skip_ (w1 := ?_) (by rfl) rfl ?_ ?_
   rotate_left
   ·
    go_simp
    rfl
   refine hK.out _ _ ⟨(cf NB237_238.out ((cf NB237_238.out (hHeld.1)))), (cf NB237_238.out ((cf NB237_238.out (hHeld.2.1)))), (cf NB236_238.out ((cf NB236_238.out (hHeld.2.2.1)))), (cf NB236_238.out ((cf NB236_238.out (hHeld.2.2.2))))⟩ (fun hHeld => ?_)
   clear hK K
   refine done_ (done_of HT_.out (by kernel_rfl)) ?_
   try go_wp2
   refine bodyPost_ret (results_cell_row rfl _ _ gb238 63 #[.bool a1_0, .slice Ao31 t243.length co31] (0, 0) _ rfl (by refine bq ?_; refine blk_put (cs := #[.bool a1_0, .slice none 0 0]) ?_ 1 _ rfl; refine bq ?_; refine blk_put (cs := #[.bool false, .slice none 0 0]) ?_ 0 _ rfl; refine bq ?_; exact BK238.out) Tryd.underlying63 rfl (by kernel_rfl)) rfl ?_
   exact ⟨_, by first | rfl | (simp [errW_none, errW_some] <;> rfl) | (simp [*, errW_none, errW_some] <;> rfl), by apply vq; exact Kd.V_mono (Kd.V_far (p := ⟨gb238, 1, none⟩) (Kd.V_far (p := ⟨gb238, 0, none⟩) (Kd.V_mono HO245.out (fun k_ hk => (⟨hk, hk.2.2.2⟩ : _ ∧ k_ ≠ gb238))) (fun _ hk => hk.2) (.bool a1_0)) (fun _ hk => hk.2) (.slice Ao31 t243.length co31)) (fun _ hk => hk.1.1), by exact wq HB.out⟩
  ·
   replace c19 := Bool.eq_false_iff.mpr c19
   subst c19
   have H1 : ((pointillistref01_minus.f k l0_1 l1_1).bind fun t246 => (some (a0_0, t246))) = some (r1, r2) := by rw [if_neg (show ¬ (false = true) by decide)] at H; exact H
   clear H
   have H := H1
   clear H1
   replace H := Option.bind_eq_some_iff.mp H
   obtain ⟨t246, A340, H⟩ := H
   replace H : (some (a0_0, t246)) = some (r1, r2) := H
   have A34 := Aside0.mk A340
   clear A340
   simp only [Option.some.injEq, Prod.mk.injEq] at H
   obtain ⟨rfl, rfl⟩ := H
   go_enter Tryd.func33, Tryd.ntmps33
   try go_wp2_with (first | ((with_reducible refine gate_dst (N := 2) rfl ?_); refine box_event ?hg (N := 2) ?hd (cs := #[.bool a0_0, .slice A0_1 l0_1.length c0_1]) (t := 63) ?hr ?_; (case hd => rfl); (case hg => rfl); (case hr => first | (go_simp; done) | (go_simp; rfl)); intro gb236 hg w35 hbox hb; have n0_ := Aside0.mk (below_step (wq HB.out) hb); have n1_ := Aside0.mk (hbox); have n2_ := Aside0.mk ((by rw [hg]; exact (below_size (wq HB.out)) : w.heap.size ≤ gb236)); have n3_ := n2_; clear HB; have HB := n0_; have BK236 := n1_; have GW236 := n2_; have GE236 := n3_; clear n0_ n1_ n2_ n3_ hb hbox hg) | ((with_reducible refine gate_dst (N := 3) rfl ?_); refine box_event ?hg (N := 3) ?hd (cs := #[.bool a1_0, .slice A1_1 l1_1.length c1_1]) (t := 63) ?hr ?_; (case hd => rfl); (case hg => rfl); (case hr => first | (go_simp; done) | (go_simp; rfl)); intro gb237 hg w36 hbox hb; have n0_ := Aside0.mk (blk_below (bq BK236.out) hb); have n1_ := Aside0.mk (below_step (wq HB.out) hb); have n2_ := Aside0.mk (hbox); have n3_ := Aside0.mk ((by rw [hg]; exact (below_size (wq HB.out)) : w.heap.size ≤ gb237)); have n4_ := n3_; have n5_ := Aside0.mk ((by rw [hg]; exact Nat.ne_of_lt (blk_lt (bq BK236.out)) : gb236 ≠ gb237)); have n6_ := Aside0.mk ((by rw [hg]; exact Nat.ne_of_gt (blk_lt (bq BK236.out)) : gb237 ≠ gb236)); clear BK236 HB; have BK236 := n0_; have HB := n1_; have BK237 := n2_; have GW237 := n3_; have GE237 := n4_; have NB236_237 := n5_; have NB237_236 := n6_; clear n0_ n1_ n2_ n3_ n4_ n5_ n6_ hb hbox hg) | ((with_reducible refine gate_dst (N := 4) rfl ?_); refine box_event ?hg (N := 4) ?hd (cs := #[.bool false, .slice none 0 0]) (t := 63) ?hr ?_; (case hd => rfl); (case hg => rfl); (case hr => first | (go_simp; done) | (go_simp; rfl)); intro gb238 hg w37 hbox hb; have n0_ := Aside0.mk (blk_below (bq BK236.out) hb); have n1_ := Aside0.mk (blk_below (bq BK237.out) hb); have n2_ := Aside0.mk (below_step (wq HB.out) hb); have n3_ := Aside0.mk (hbox); have n4_ := Aside0.mk ((by rw [hg]; exact (below_size (wq HB.out)) : w.heap.size ≤ gb238)); have n5_ := n4_; have n6_ := Aside0.mk ((by rw [hg]; exact Nat.ne_of_lt (blk_lt (bq BK236.out)) : gb236 ≠ gb238)); have n7_ := Aside0.mk ((by rw [hg]; exact Nat.ne_of_gt (blk_lt (bq BK236.out)) : gb238 ≠ gb236)); have n8_ := Aside0.mk ((by rw [hg]; exact Nat.ne_of_lt (blk_lt (bq BK237.out)) : gb237 ≠ gb238)); have n9_ := Aside0.mk ((by rw [hg]; exact Nat.ne_of_gt (blk_lt (bq BK237.out)) : gb238 ≠ gb237)); clear BK236 BK237 HB; have BK236 := n0_; have BK237 := n1_; have HB := n2_; have BK238 := n3_; have GW238 := n4_; have GE238 := n5_; have NB236_238 := n6_; have NB238_236 := n7_; have NB237_238 := n8_; have NB238_237 := n9_; clear n0_ n1_ n2_ n3_ n4_ n5_ n6_ n7_ n8_ n9_ hb hbox hg; have hnb38 := NB236_237.out; have hnc38 := NB237_236.out; have hnb39 := NB236_238.out; have hnc39 := NB238_236.out; have hcz40_0 : w37.cell? ⟨gb236, 0, none⟩ = some (.bool a0_0) := (blk_cell BK236.out 0).trans rfl; have hcz40_1 : w37.cell? ⟨gb236, 1, none⟩ = some (.slice A0_1 l0_1.length c0_1) := (blk_cell BK236.out 1).trans rfl; have hfz40_0 := blk_frozen BK236.out 0; have hfz40_1 := blk_frozen BK236.out 1; have hnb41 := NB237_238.out; have hnc41 := NB238_237.out; have hcz42_0 : w37.cell? ⟨gb237, 0, none⟩ = some (.bool a1_0) := (blk_cell BK237.out 0).trans rfl; have hcz42_1 : w37.cell? ⟨gb237, 1, none⟩ = some (.slice A1_1 l1_1.length c1_1) := (blk_cell BK237.out 1).trans rfl; have hfz42_0 := blk_frozen BK237.out 0; have hfz42_1 := blk_frozen BK237.out 1) | ((with_reducible refine gate_callee (f := 44) rfl ?_); refine goesL_ (some 22) rfl rfl Tryd.func44 (by kernel_rfl) rfl #[.slice A0_1 l0_1.length c0_1, .slice A1_1 l1_1.length c1_1] rfl (by (try simp only [List.map_toArray, List.map_cons, List.map_nil]); first | done | rfl | (simp only [List.length_drop, List.length_take]; rfl)) ?_; (with_reducible refine (pointillistref01_less.calls k _ _ l0_1 _ _ l1_1 false _ ?side1 ?side2 ?side3 ?side4 A18.out).mono ?_); (case side1 => exact cq (Kd.C_below HR0_1.out HB.out)); (case side2 => exact HC0_1.out); (case side3 => exact cq (Kd.C_below HR1_1.out HB.out)); (case side4 => exact HC1_1.out); rintro e w' ⟨rfl, ⟨nd, rfl⟩⟩; refine ⟨_, rfl, ?_⟩; (try (rw [drewN_self w37]; generalize hq_ : World.drewN w37 _ = w37; have n0_ : Aside0 (w37.heap[gb236]? = some (.cells #[.bool a0_0, .slice A0_1 l0_1.length c0_1] 63 (0, 0))) := ⟨by rw [← hq_]; exact (bq BK236.out)⟩; have n1_ : Aside0 (w37.heap[gb237]? = some (.cells #[.bool a1_0, .slice A1_1 l1_1.length c1_1] 63 (0, 0))) := ⟨by rw [← hq_]; exact (bq BK237.out)⟩; have n2_ : Aside0 (w37.heap[gb238]? = some (.cells #[.bool false, .slice none 0 0] 63 (0, 0))) := ⟨by rw [← hq_]; exact (bq BK238.out)⟩; have n3_ : Aside0 (Below w.heap.size w w37) := ⟨by rw [← hq_]; exact (wq HB.out)⟩; clear BK236 BK237 BK238 HB hq_; have BK236 := n0_; have BK237 := n1_; have BK238 := n2_; have HB := n3_; clear n0_ n1_ n2_ n3_))))
   have n0_ := Aside0.mk (blk_drew BK236.out)
   have n1_ := Aside0.mk (blk_drew BK237.out)
   have n2_ := Aside0.mk (blk_drew BK238.out)
   have n3_ := Aside0.mk (below_drew1 HB.out)
   clear BK236 BK237 BK238 HB; have BK236 := n0_; have BK237 := n1_; have BK238 := n2_; have HB := n3_; clear n0_ n1_ n2_ n3_
   refine start_ (n := 9) (S := fun w' => w'.cell? ⟨gb236, 0, none⟩ = some (.bool a0_0) ∧ w'.cell? ⟨gb236, 1, none⟩ = some (.slice A0_1 l0_1.length c0_1) ∧ w'.cell? ⟨gb237, 0, none⟩ = some (.bool a1_0) ∧ w'.cell? ⟨gb237, 1, none⟩ = some (.slice A1_1 l1_1.length c1_1)) (ds := []) (bt 0 9) (by kernel_rfl) rfl rfl ⟨(blk_cell BK236.out 0).trans rfl, (blk_cell BK236.out 1).trans rfl, (blk_cell BK237.out 0).trans rfl, (blk_cell BK237.out 1).trans rfl⟩ (fun hHeld => ?_); refine with_tabW pointillistref01_Add.tab5 pointillistref01_Add.bits5 (fun HT_ HW_ => ?_)
   generalize w37.drew = w43 at BK236 BK237 BK238 HB hHeld ⊢
   refine pure_ (i := 0) (N := some 31) (v := ?_) (a' := ?_) (bt 1 8) rfl rfl (any_of HT_.out (by kernel_rfl)) (fun _ _ _ h => h) (Or.inl ⟨by rfl, ?_⟩) ?_ ?_
   rotate_left; focus (intro w'; go_simp; with_reducible rfl)
   rotate_left; focus (simp only [apz, i64_w, i32_w]; rfl)
   refine pure_ (i := 2) (N := some 33) (v := ?_) (a' := ?_) (bm 9 5) rfl rfl (any_of HT_.out (by kernel_rfl)) (fun _ _ _ h => h) (Or.inl ⟨by rfl, ?_⟩) ?_ ?_
   rotate_left; focus (intro w'; go_simp; with_reducible rfl)
   rotate_left; focus (simp only [apz, i64_w, i32_w]; rfl)
   refine pure_ (i := 4) (N := some 35) (v := ?_) (a' := ?_) (bm 9 21) rfl rfl (any_of HT_.out (by kernel_rfl)) (fun _ _ _ h => h) (Or.inl ⟨by rfl, ?_⟩) ?_ ?_
   rotate_left; focus (intro w'; go_simp; with_reducible rfl)
   rotate_left; focus (simp only [apz, i64_w, i32_w]; rfl)
   refine take_ (i := 1) (N := some 32) (v := ?_) (a' := ?_) (bm 9 23) rfl rfl (take_ofW HT_.out HW_.out (by kernel_rfl)) (fun _ _ _ h => h) (Or.inl ⟨by rfl, ?_⟩) hHeld ?_ ?_
   rotate_left
   ·
    rintro w' ⟨s0, s1, s2, s3⟩
    go_simp
    with_reducible rfl
   rotate_left; focus (simp only [apz, i64_w, i32_w]; rfl)
   refine take_ (i := 3) (N := some 34) (v := ?_) (a' := ?_) (bt 5 4) rfl rfl (take_ofW HT_.out HW_.out (by kernel_rfl)) (fun _ _ _ h => h) (Or.inl ⟨by rfl, ?_⟩) hHeld ?_ ?_
   rotate_left
   ·
    rintro w' ⟨s0, s1, s2, s3⟩
    go_simp
    with_reducible rfl
   rotate_left; focus (simp only [apz, i64_w, i32_w]; rfl)
   refine take_ (i := 5) (N := some 36) (v := ?_) (a' := ?_) (bt 6 3) rfl rfl (take_ofW HT_.out HW_.out (by kernel_rfl)) (fun _ _ _ h => h) (Or.inl ⟨by rfl, ?_⟩) hHeld ?_ ?_
   rotate_left
   ·
    rintro w' ⟨s0, s1, s2, s3⟩
    go_simp
    with_reducible rfl
   rotate_left; focus (simp only [apz, i64_w, i32_w]; rfl)
   refine one_ (i := 6) (N := some 37) (bt 7 2) rfl rfl (one_of HT_.out (by kernel_rfl)) (by decide) (fun K hK => ?_)
   refine goes_ Tryd.func45 (by kernel_rfl) rfl #[.slice A0_1 l0_1.length c0_1, .slice A1_1 l1_1.length c1_1] (by rfl) rfl rfl (by (try simp only [List.map_toArray, List.map_cons, List.map_nil]); first | done | rfl | (simp only [List.length_drop, List.length_take]; rfl)) ?_
   with_reducible refine (pointillistref01_minus.calls k _ _ l0_1 _ _ l1_1 t246 _ ?side1 ?side2 ?side3 ?side4 A34.out).mono ?_
   (case side1 => exact cq (Kd.C_below HR0_1.out HB.out))
   (case side2 => exact HC0_1.out)
   (case side3 => exact cq (Kd.C_below HR1_1.out HB.out))
   (case side4 => exact HC1_1.out)
   rintro e w44 ⟨v247, rfl, ho0, hb⟩
   refine ⟨_, rfl, ?_⟩
   have n0_ := Aside0.mk (Kd.V_lower (Kd.V_mono (ok' := fun k_ => (w.heap.size ≤ k_) ∧ k_ ≠ gb236 ∧ k_ ≠ gb237 ∧ k_ ≠ gb238) ho0 (fun k_ hk_ => ⟨(Nat.le_trans (below_size (wq HB.out)) hk_), (Kd.freshB (bq BK236.out) k_ hk_), (Kd.freshB (bq BK237.out) k_ hk_), (Kd.freshB (bq BK238.out) k_ hk_)⟩)) (below_size (wq HB.out)))
   have n1_ := Aside0.mk (blk_below (bq BK236.out) hb)
   have n2_ := Aside0.mk (blk_below (bq BK237.out) hb)
   have n3_ := Aside0.mk (blk_below (bq BK238.out) hb)
   have n4_ := Aside0.mk (below_step (wq HB.out) hb)
   clear BK236 BK237 BK238 HB; have HO248 := n0_; have BK236 := n1_; have BK237 := n2_; have BK238 := n3_; have HB := n4_; clear n0_ n1_ n2_ n3_ n4_
   (try clear hb)
   (try clear hb2)
   (try clear hk)
   (try clear hi)
   (try clear ho0)
   obtain ⟨Ao45, co45, eo45⟩ := Kd.V_slice HO248.out
   (first | subst eo45 | (injection eo45 with f1_ f2_ f3_; have f4_ := f1_.symm; have f5_ := f3_.symm; clear f1_ f2_ f3_; subst f4_; subst f5_))
   refine hK.out _ _ ⟨(blk_cell BK236.out 0).trans rfl, (blk_cell BK236.out 1).trans rfl, (blk_cell BK237.out 0).trans rfl, (blk_cell BK237.out 1).trans rfl⟩ (fun hHeld => ?_)
   clear hK K
   refine norm_ (a' := ?_) ?_ ?_
   rotate_left
   ·
    show Act.put _ (some 37) _ = _
    simp only [apz, i64_w, i32_w]
    rfl
   refine pure_ (i := 7) (N := some 38) (v := ?_) (a' := ?_) (bt 8 1) rfl rfl (any_of HT_.out (by kernel_rfl)) (fun _ _ _ h => h) (Or.inl ⟨by rfl, ?_⟩) ?_ ?_
   rotate_left; focus (intro w'; go_simp; with_reducible rfl)
   rotate_left; focus (simp only [apz, i64_w, i32_w]; rfl)
   refine one_ (i := 8) (N := none) (bt 9 0) rfl rfl (one_of HT_.out (by kernel_rfl)) (by decide) (fun K hK => ?_)
   have hs46 : w44.cell? ⟨gb238, 0, none⟩ = some (.bool false) := (blk_cell BK238.out 0).trans rfl
   have hfs46 := blk_frozen BK238.out 0
   have hns46_0 := NB236_238.out
   have hns46_1 := NB237_238.out
   have hms46_0 := NB238_236.out
   have hms46_1 := NB238_237.out
   have hs47 : w44.cell? ⟨gb238, 1, none⟩ = some (.slice none 0 0) := (blk_cell BK238.out 1).trans rfl
   have hfs47 := blk_frozen BK238.out 1
   have hns47_0 := NB236_238.out
   have hns47_1 := NB237_238.out
   have hms47_0 := NB238_236.out
   have hms47_1 := NB238_237.out
   refine skip_ (w1 := ?_) (by rfl) rfl ?_ ?_
   rotate_left
   ·
    go_simp
    rfl
   refine hK.out _ _ ⟨(cf NB236_238.out ((cf NB236_238.out (hHeld.1)))), (cf NB236_238.out ((cf NB236_238.out (hHeld.2.1)))), (cf NB237_238.out ((cf NB237_238.out (hHeld.2.2.1)))), (cf NB237_238.out ((cf NB237_238.out (hHeld.2.2.2))))⟩ (fun hHeld => ?_)
   clear hK K
   refine done_ (done_of HT_.out (by kernel_rfl)) ?_
   try go_wp2
   refine bodyPost_ret (results_cell_row rfl _ _ gb238 63 #[.bool a0_0, .slice Ao45 t246.length co45] (0, 0) _ rfl (by refine bq ?_; refine blk_put (cs := #[.bool a0_0, .slice none 0 0]) ?_ 1 _ rfl; refine bq ?_; refine blk_put (cs := #[.bool false, .slice none 0 0]) ?_ 0 _ rfl; refine bq ?_; exact BK238.out) Tryd.underlying63 rfl (by kernel_rfl)) rfl ?_
   exact ⟨_, by first | rfl | (simp [errW_none, errW_some] <;> rfl) | (simp [*, errW_none, errW_some] <;> rfl), by apply vq; exact Kd.V_mono (Kd.V_far (p := ⟨gb238, 1, none⟩) (Kd.V_far (p := ⟨gb238, 0, none⟩) (Kd.V_mono HO248.out (fun k_ hk => (⟨hk, hk.2.2.2⟩ : _ ∧ k_ ≠ gb238))) (fun _ hk => hk.2) (.bool a0_0)) (fun _ hk => hk.2) (.slice Ao45 t246.length co45)) (fun _ hk => hk.1.1), by exact wq HB.out⟩
def pointillistref01_half.l0 : Nat → List Int → List Int → Int → Int → Option (List Int × Int)
 | 0, _, _, _, _ => none
 | k + 1, x0, x4, x5, x6 => if x6 ≥ 0 then (if 0 ≤ x6 then (if x6 < (x0.length : Int) then (if x6 < (x4.length : Int) then (pointillistref01_half.l0 k x0 (x4.set (x6 : Int).toNat (wrap64 (Int.tdiv (wrap64 ((wrap64 (x5 * 65536)) + (rd x0 x6))) 2))) (Int.tmod (wrap64 ((wrap64 (x5 * 65536)) + (rd x0 x6))) 2) (wrap64 (x6 - 1))) else (none)) else (none)) else (none)) else ((pointillistref01_trim.f k x4).bind fun t254 => (some (t254, x5)))
def pointillistref01_half.f (k : Nat) (l0 : List Int) : Option (List Int × Int) := if 0 ≤ (l0.length : Int) then (if ((l0.length : Int) : Int).toNat ≤ 35184372088832 then (pointillistref01_half.l0 k l0 (List.replicate ((l0.length : Int) : Int).toNat 0) 0 (wrap64 ((l0.length : Int) - 1))) else (none)) else (none)
theorem pointillistref01_half.mono_l : ∀ k, (∀ y0 y1 y2 y3, LeO (pointillistref01_half.l0 k y0 y1 y2 y3) (pointillistref01_half.l0 (k + 1) y0 y1 y2 y3))
 | 0 => fun _ _ _ _ r h => by simp [pointillistref01_half.l0] at h
 | k + 1 => by
  have ih0 := pointillistref01_half.mono_l k
  ·
   intro y0 y1 y2 y3
   unfold pointillistref01_half.l0
   repeat' first
   | (with_reducible exact ih0 _ _ _ _)
   | (with_reducible exact pointillistref01_trim.mono _ _)
   | (with_reducible exact LeO.refl _)
   | (with_reducible exact LeO.none _)
   | (with_reducible refine LeO.ite ?_ ?_)
   | (with_reducible refine LeO.bind ?_ (fun _ => ?_))
   | exact ih0 _ _ _ _
   | exact pointillistref01_trim.mono _ _
   | exact LeO.none _
   | refine LeO.ite ?_ ?_
   | refine LeO.bind ?_ (fun _ => ?_)
theorem pointillistref01_half.mono : ∀ a0 k, LeO (pointillistref01_half.f k a0) (pointillistref01_half.f (k + 1) a0) := by
 intro a0 k
 have ih0 := pointillistref01_half.mono_l k
 unfold pointillistref01_half.f
 repeat' first
   | (with_reducible exact ih0 _ _ _ _)
   | (with_reducible exact pointillistref01_trim.mono _ _)
   | (with_reducible exact LeO.refl _)
   | (with_reducible exact LeO.none _)
   | (with_reducible refine LeO.ite ?_ ?_)
   | (with_reducible refine LeO.bind ?_ (fun _ => ?_))
   | exact ih0 _ _ _ _
   | exact pointillistref01_trim.mono _ _
   | exact LeO.none _
   | refine LeO.ite ?_ ?_
   | refine LeO.bind ?_ (fun _ => ?_)
set_option maxHeartbeats 8000000 in
set_option maxRecDepth 100000 in
theorem pointillistref01_half.calls (k : Nat) (A0 : Option Addr) (c0 : Nat) (l0 : List Int) (r1 : List Int) (r2 : Int) (w : World) (hr0 : Kd.C (Kd.int .i64) w A0 l0.length l0) (hc0 : l0.length ≤ c0) (h : pointillistref01_half.f k l0 = some (r1, r2)) :
  Calls Tryd.prog 51 #[.slice A0 l0.length c0] w fun e w' => ∃ v0_ : Value, e = .returned (.tuple #[v0_, .int .i64 r2]) ∧ Kd.V (Kd.int .i64) 3 w' w.heap.size (fun k_ => (w.heap.size ≤ k_)) v0_ r1 ∧ Below w.heap.size w w' := by
 have HR0 := Aside0.mk hr0
 have HC0 := Aside0.mk hc0
 clear hr0 hc0
 have HB := Aside0.mk (Below.refl w.heap.size w)
 have H : (if 0 ≤ (l0.length : Int) then (if ((l0.length : Int) : Int).toNat ≤ 35184372088832 then (pointillistref01_half.l0 k l0 (List.replicate ((l0.length : Int) : Int).toNat 0) 0 (wrap64 ((l0.length : Int) - 1))) else (none)) else (none)) = some (r1, r2) := h
 clear h
 by_cases c2 : 0 ≤ (l0.length : Int)
 ·
  rw [if_pos c2] at H
  have c2b0 := eq_true c2
  have c2b1 : decide (0 ≤ (l0.length : Int)) = true := decide_eq_true c2
  clear c2
  by_cases c3 : ((l0.length : Int) : Int).toNat ≤ 35184372088832
  ·
   rw [if_pos c3] at H
   have c3b0 := eq_true c3
   have c3b1 : decide (((l0.length : Int) : Int).toNat ≤ 35184372088832) = true := decide_eq_true c3
   clear c3
   obtain ⟨y249, hy249⟩ : ∃ y_ : List Int, y_ = (List.replicate ((l0.length : Int) : Int).toNat 0) := ⟨_, rfl⟩
   replace H : (pointillistref01_half.l0 k l0 y249 0 (wrap64 ((l0.length : Int) - 1))) = some (r1, r2) := by first | (rw [hy249]; with_reducible exact H) | (have H2_ := (Option.bind_some _ _).symm.trans H; rw [hy249]; with_reducible exact H2_) | (have H2_ := (Option.bind_some _ _).symm.trans H; with_reducible exact H2_) | with_reducible exact H | (rw [hy249]; exact H) | exact H
   have Ny249 := Aside0.mk hy249
   clear hy249
   have H' := Aside0.mk H
   clear H
   go_enter Tryd.func51, Tryd.ntmps51
   go_wp2_with (first | ((with_reducible refine gate_dst (N := 10) rfl ?_); refine Kd.R_make (Kd.int .i64) _ 3 rfl (N := 10) rfl 61 _ _ rfl (l0.length : Int) rfl rfl Tryd.underlying61 (.int .i64 0) 8 info3 rfl (by decide) (by omega) 0 (ok := fun _ => True) (okp := fun _ => True) rfl (fun _ hk => hk) trivial (of_decide_eq_true (by first | (with_reducible assumption) | assumption)) (Nat.le_trans (Nat.mul_le_mul_right _ (of_decide_eq_true (by first | (with_reducible assumption) | assumption) : (l0.length : Int).toNat ≤ 35184372088832)) (by omega)) (Below.refl _ _) (Nat.le_refl _) ?_; intro v250 w4 ho5 hb hg_ hnew_; clear hg_ hnew_; (first | rw [← Ny249.out] at ho5 | (simp only [Int.reduceToNat] at ho5; rw [← Ny249.out] at ho5)); have n0_ := Aside0.mk (Kd.R_lower (Kd.R_newM (M := fun k_ => (w.heap.size ≤ k_)) ho5 (below_size (wq HB.out)) (fun k_ h_ => h_)) (below_size (wq HB.out))); have n1_ := Aside0.mk (below_step (wq HB.out) hb); clear HB; have HO251 := n0_; have HB := n1_; clear n0_ n1_ hb ho5))
   go_loopg [5, 6] k (fun kq v5 v6 w' => ∃ (x4_1 : List Int) (x5_1 : Int) (x6_1 : Int), v5 = .int .i64 x5_1 ∧ v6 = .int .i64 x6_1 ∧ Aside0 (pointillistref01_half.l0 kq l0 x4_1 x5_1 x6_1 = some (r1, r2)) ∧ Aside0 (kq ≤ k) ∧ Aside0 (Kd.R (Kd.int .i64) 3 w' w.heap.size (fun k_ => (w.heap.size ≤ k_)) v250 x4_1) ∧ Aside0 (Below w.heap.size w w'))
   case atStart => exact ⟨(y249), (0), (wrap64 ((l0.length : Int) - 1)), (by first | rfl | (simp; done) | (simp [*]; done)), (by first | rfl | (simp; done) | (simp [*]; done)), H', ⟨Nat.le_refl _⟩, ⟨by apply rq; exact Kd.R_mono HO251.out (fun _ hk => hk.1)⟩, ⟨by exact wq HB.out⟩⟩
   case round =>
    clear H'
    try clear c2
    try clear c2b0
    try clear c2b1
    try clear p2
    try clear c3
    try clear c3b0
    try clear c3b1
    try clear c5
    obtain ⟨x4_1, x5_1, x6_1, rfl, rfl, HA, HK1, HO_4, HB⟩ := hrel
    cases gk with
    | zero => exact absurd HA.out (by simp [pointillistref01_half.l0])
    | succ k1 =>
     have H := HA.out
     clear HA
     simp only [pointillistref01_half.l0] at H
     by_cases c6 : x6_1 ≥ 0
     ·
      rw [if_pos c6] at H
      have c6b0 : decide (0 ≤ x6_1) = true := decide_eq_true c6
      clear c6
      by_cases c7 : 0 ≤ x6_1
      ·
       rw [if_pos c7] at H
       have c7b0 : decide (0 ≤ x6_1) = true := decide_eq_true c7
       clear c7
       by_cases c8 : x6_1 < (l0.length : Int)
       ·
        rw [if_pos c8] at H
        have c8b0 : decide (x6_1 < (l0.length : Int)) = true := decide_eq_true c8
        clear c8
        by_cases c9 : x6_1 < (x4_1.length : Int)
        ·
         rw [if_pos c9] at H
         have c9b0 : decide (x6_1 < (x4_1.length : Int)) = true := decide_eq_true c9
         clear c9
         obtain ⟨y253, hy253⟩ : ∃ y_ : List Int, y_ = (x4_1.set (x6_1 : Int).toNat (wrap64 (Int.tdiv (wrap64 ((wrap64 (x5_1 * 65536)) + (rd l0 x6_1))) 2))) := ⟨_, rfl⟩
         replace H : (pointillistref01_half.l0 k1 l0 y253 (Int.tmod (wrap64 ((wrap64 (x5_1 * 65536)) + (rd l0 x6_1))) 2) (wrap64 (x6_1 - 1))) = some (r1, r2) := by first | (rw [hy253]; with_reducible exact H) | (have H2_ := (Option.bind_some _ _).symm.trans H; rw [hy253]; with_reducible exact H2_) | (have H2_ := (Option.bind_some _ _).symm.trans H; with_reducible exact H2_) | with_reducible exact H | (rw [hy253]; exact H) | exact H
         have Ny253 := Aside0.mk hy253
         clear hy253
         have H' := Aside0.mk H
         clear H
         have p252 : 0 ≤ (x6_1 : Int) := of_decide_eq_true (by first | (with_reducible assumption) | assumption)
         have q252 : x6_1 < (l0.length : Int) := of_decide_eq_true (by first | (with_reducible assumption) | assumption)
         obtain ⟨ad252, e252, hx252_0⟩ := Kd.at_int HR0.out x6_1 p252 q252
         cases e252
         replace hx252_0 := (HB.out.cell (World.block_lt_of_cell? w _ hx252_0)).trans hx252_0
         replace p252 := eq_true p252
         replace q252 := eq_true q252
         have p10 : 0 ≤ (x6_1 : Int) := of_decide_eq_true (by first | (with_reducible assumption) | assumption)
         have q10 : (x6_1 : Int) < ((x4_1.length : Int) : Int) := of_decide_eq_true (by first | (with_reducible assumption) | assumption)
         obtain ⟨go10, co10, eo10, gb10, gl10, cl10, HG10⟩ := Kd.R_form HO_4.out (by omega)
         (first | cases eo10 | (injection eo10 with ea_ en_ ec_; (first | subst ea_ | (injection ea_ with ea_; subst ea_)); subst ec_; clear en_))
         have GB10 := Aside0.mk gb10
         have GG10 := Aside0.mk HG10
         clear gb10 gl10 HG10
         obtain ⟨hx10_0, hf10_0⟩ := Kd.R_celln 0 HO_4.out (x6_1 : Int) p10 q10
         replace p10 := eq_true p10
         replace q10 := eq_true q10
         have HP11 := Kd.R_putg HO_4.out (x6_1 : Int) (wrap64 (Int.tdiv (wrap64 ((wrap64 (x5_1 * 65536)) + (rd l0 x6_1))) 2))
         go_wp2_with (first | ((with_reducible refine gate_store (t := 3) (p := 29) rfl ?_); refine store_event (t := 3) (p := 29) (v := ?vo_w12) (w1 := (wr.setCell ⟨go10, (x6_1 : Int).toNat, none⟩ (.int .i64 (wrap64 (Int.tdiv (wrap64 ((wrap64 (x5_1 * 65536)) + (rd l0 x6_1))) 2))))) ?hg ?ho ?hn ?hr ?_; (case ho => rfl); (case hg => rfl); (case hn => rfl); (case hr => first | (go_simp; done) | (go_simp; rfl)); intro w12 hw; have hg : wr.grownBy w12 (some go10) := (by rw [hw]; exact HP11.2); have hp_ : Kd.R (Kd.int .i64) 3 w12 w.heap.size (fun k_ => (w.heap.size ≤ k_)) (.slice (some ⟨go10, 0, none⟩) x4_1.length co10) y253 := (by rw [hw, Ny253.out]; exact HP11.1); clear HP11; have n0_ := Aside0.mk (hp_); have n1_ := Aside0.mk ((by rw [hw]; exact below_set (HB.out) GB10.out : Below w.heap.size w w12)); clear HO_4 HB; have HO_4 := n0_; have HB := n1_; clear n0_ n1_ hg hw hp_))
         go_roundg k1
         case measure => have := HK1.out; omega
         case rel => exact ⟨(y253), (Int.tmod (wrap64 ((wrap64 (x5_1 * 65536)) + (rd l0 x6_1))) 2), (wrap64 (x6_1 - 1)), (by first | rfl | (simp; done) | (simp [*]; done)), (by first | rfl | (simp; done) | (simp [*]; done)), H', ⟨by have := HK1.out; omega⟩, ⟨by apply rq; exact HO_4.out⟩, ⟨by exact wq HB.out⟩⟩
        ·
         rw [if_neg c9] at H
         exact absurd H (by simp)
       ·
        rw [if_neg c8] at H
        exact absurd H (by simp)
      ·
       rw [if_neg c7] at H
       exact absurd H (by simp)
     ·
      rw [if_neg c6] at H
      have c6b0 : decide (0 ≤ x6_1) = false := decide_eq_false c6
      clear c6
      replace H := Option.bind_eq_some_iff.mp H
      obtain ⟨t254, A130, H⟩ := H
      replace H : (some (t254, x5_1)) = some (r1, r2) := H
      have A13 := Aside0.mk A130
      clear A130
      simp only [Option.some.injEq, Prod.mk.injEq] at H
      obtain ⟨rfl, rfl⟩ := H
      obtain ⟨Ao14, co14, eo14⟩ := Kd.R_slice HO_4.out
      subst eo14
      go_wp2_with (first | ((with_reducible refine gate_callee (f := 46) rfl ?_); refine goesL_ (some 33) rfl rfl Tryd.func46 (by kernel_rfl) rfl #[.slice Ao14 x4_1.length co14] rfl (by (try simp only [List.map_toArray, List.map_cons, List.map_nil]); first | done | rfl | (simp only [List.length_drop, List.length_take]; rfl)) ?_; (with_reducible refine (pointillistref01_trim.calls k1 (fun k_ => some k_ = (.slice Ao14 x4_1.length co14 : Value).ownBlock) _ _ x4_1 t254 _ ?side1 A13.out).mono ?_); (case side1 => exact Kd.R_V (Kd.R_tight rfl (HO_4.out))); rintro e w15 ⟨v255, rfl, ho0, hb⟩; refine ⟨_, rfl, ?_⟩; have n0_ := Aside0.mk (Kd.R_below (rq HO_4.out) hb); have n1_ := Aside0.mk (Kd.V_lower (Kd.V_mono (ok' := fun k_ => (w.heap.size ≤ k_)) ho0 (fun k_ hk_ => Or.elim hk_ (fun hs_ => ((HO_4.out).1 k_ hs_.symm)) (fun hn_ => (Nat.le_trans (below_size (wq HB.out)) hn_)))) (below_size (wq HB.out))); have n2_ := Aside0.mk (below_step (wq HB.out) hb); clear HO_4 HB; have HO_4 := n0_; have HO256 := n1_; have HB := n2_; clear n0_ n1_ n2_; (try clear hb); (try clear hb2); (try clear hk); (try clear hi); (try clear ho0)))
      go_ret2
      exact ⟨_, by first | rfl | (simp [errW_none, errW_some] <;> rfl) | (simp [*, errW_none, errW_some] <;> rfl), by apply vq; exact HO256.out, by exact wq HB.out⟩
  ·
   rw [if_neg c3] at H
   exact absurd H (by simp)
 ·
  rw [if_neg c2] at H
  exact absurd H (by simp)
end Go.Proofs.YtbnjgaeeojcjbaaDoor.PR
namespace Go.Proofs.YtbnjgaeeojcjbaaDoor.PR
open Go.RowKit Go.Proofs.YtbnjgaeeojcjbaaDoorW.PrintWords Go.Proofs.YtbnjgaeeojcjbaaDoorW.PrintLast Go.Proofs.YtbnjgaeeojcjbaaDoorW.PrintMore
attribute [local go_sem] max2_int min2_int max_two min_two max_three min_three max_four min_four
set_option linter.unusedVariables false
set_option linter.unusedSimpArgs false
mutual
def pointillistref01_Floor.l0 : Nat → List Int → List Int → List Int → Bool → List Int → Option (Bool × List Int)
 | 0, _, _, _, _, _ => none
 | k + 1, x1, x5, x6, x258000, x258001 => if (x6.length : Int) > 0 then ((pointillistref01_half.f k x6).bind fun bt259 => (if x5.length < 17592186044416 then (pointillistref01_Floor.l0 k x1 (x5 ++ [bt259.2]) bt259.1 x258000 x258001) else (none))) else (pointillistref01_Floor.l1 k x1 x5 ([] : List Int) ([] : List Int) (wrap64 ((x5.length : Int) - 1)) x258000 x258001)
def pointillistref01_Floor.l1 : Nat → List Int → List Int → List Int → List Int → Int → Bool → List Int → Option (Bool × List Int)
 | 0, _, _, _, _, _, _, _ => none
 | k + 1, x1, x5, x9, x10, x11, x258000, x258001 => if x11 ≥ 0 then ((pointillistref01_plus.f k x9 x9).bind fun t272 => ((pointillistref01_plus.f k x10 x10).bind fun t275 => (if 0 ≤ x11 then (if x11 < (x5.length : Int) then (if (rd x5 x11) = 1 then ((pointillistref01_plus.f k t275 (([1] : List Int))).bind fun t282 => (pointillistref01_Floor.j2 k x1 x5 t272 t282 x11 x258000 x258001)) else (pointillistref01_Floor.j2 k x1 x5 t272 t275 x11 x258000 x258001)) else (none)) else (none)))) else (if x258000 = true then (if (x10.length : Int) > 0 then ((pointillistref01_plus.f k x9 (([1] : List Int))).bind fun t269 => (some (decide (0 < t269.length), t269))) else (some (decide (0 < x9.length), x9))) else (some (false, x9)))
def pointillistref01_Floor.j2 : Nat → List Int → List Int → List Int → List Int → Int → Bool → List Int → Option (Bool × List Int)
 | 0, _, _, _, _, _, _, _ => none
 | k + 1, x1, x5, x9, x10, x11, x258000, x258001 => (pointillistref01_less.f k x10 x1).bind fun t285 => (if t285 = true then (pointillistref01_Floor.l1 k x1 x5 x9 x10 (wrap64 (x11 - 1)) x258000 x258001) else ((pointillistref01_minus.f k x10 x1).bind fun t286 => ((pointillistref01_plus.f k x9 (([1] : List Int))).bind fun t292 => (pointillistref01_Floor.l1 k x1 x5 t292 t286 (wrap64 (x11 - 1)) x258000 x258001))))
end
def pointillistref01_Floor.f (k : Nat) (a0_0 : Bool) (l0_1 : List Int) (l1 : List Int) : Option (Bool × List Int) := pointillistref01_Floor.l0 k l1 ([] : List Int) l0_1 a0_0 l0_1
theorem pointillistref01_Floor.mono_l : ∀ k, (∀ y0 y1 y2 y3 y4, LeO (pointillistref01_Floor.l0 k y0 y1 y2 y3 y4) (pointillistref01_Floor.l0 (k + 1) y0 y1 y2 y3 y4)) ∧ (∀ y0 y1 y2 y3 y4 y5 y6, LeO (pointillistref01_Floor.l1 k y0 y1 y2 y3 y4 y5 y6) (pointillistref01_Floor.l1 (k + 1) y0 y1 y2 y3 y4 y5 y6)) ∧ (∀ y0 y1 y2 y3 y4 y5 y6, LeO (pointillistref01_Floor.j2 k y0 y1 y2 y3 y4 y5 y6) (pointillistref01_Floor.j2 (k + 1) y0 y1 y2 y3 y4 y5 y6))
 | 0 => ⟨fun _ _ _ _ _ r h => by simp [pointillistref01_Floor.l0] at h, fun _ _ _ _ _ _ _ r h => by simp [pointillistref01_Floor.l1] at h, fun _ _ _ _ _ _ _ r h => by simp [pointillistref01_Floor.j2] at h⟩
 | k + 1 => by
  obtain ⟨ih0, ih1, ih2⟩ := pointillistref01_Floor.mono_l k
  refine ⟨?_, ?_, ?_⟩
  ·
   intro y0 y1 y2 y3 y4
   unfold pointillistref01_Floor.l0
   repeat' first
   | (with_reducible exact ih0 _ _ _ _ _)
   | (with_reducible exact ih1 _ _ _ _ _ _ _)
   | (with_reducible exact ih2 _ _ _ _ _ _ _)
   | (with_reducible exact pointillistref01_half.mono _ _)
   | (with_reducible exact pointillistref01_less.mono _ _ _)
   | (with_reducible exact pointillistref01_minus.mono _ _ _)
   | (with_reducible exact pointillistref01_plus.mono _ _ _)
   | (with_reducible exact LeO.refl _)
   | (with_reducible exact LeO.none _)
   | (with_reducible refine LeO.ite ?_ ?_)
   | (with_reducible refine LeO.bind ?_ (fun _ => ?_))
   | exact ih0 _ _ _ _ _
   | exact ih1 _ _ _ _ _ _ _
   | exact ih2 _ _ _ _ _ _ _
   | exact pointillistref01_half.mono _ _
   | exact pointillistref01_less.mono _ _ _
   | exact pointillistref01_minus.mono _ _ _
   | exact pointillistref01_plus.mono _ _ _
   | exact LeO.none _
   | refine LeO.ite ?_ ?_
   | refine LeO.bind ?_ (fun _ => ?_)
  ·
   intro y0 y1 y2 y3 y4 y5 y6
   unfold pointillistref01_Floor.l1
   repeat' first
   | (with_reducible exact ih0 _ _ _ _ _)
   | (with_reducible exact ih1 _ _ _ _ _ _ _)
   | (with_reducible exact ih2 _ _ _ _ _ _ _)
   | (with_reducible exact pointillistref01_half.mono _ _)
   | (with_reducible exact pointillistref01_less.mono _ _ _)
   | (with_reducible exact pointillistref01_minus.mono _ _ _)
   | (with_reducible exact pointillistref01_plus.mono _ _ _)
   | (with_reducible exact LeO.refl _)
   | (with_reducible exact LeO.none _)
   | (with_reducible refine LeO.ite ?_ ?_)
   | (with_reducible refine LeO.bind ?_ (fun _ => ?_))
   | exact ih0 _ _ _ _ _
   | exact ih1 _ _ _ _ _ _ _
   | exact ih2 _ _ _ _ _ _ _
   | exact pointillistref01_half.mono _ _
   | exact pointillistref01_less.mono _ _ _
   | exact pointillistref01_minus.mono _ _ _
   | exact pointillistref01_plus.mono _ _ _
   | exact LeO.none _
   | refine LeO.ite ?_ ?_
   | refine LeO.bind ?_ (fun _ => ?_)
  ·
   intro y0 y1 y2 y3 y4 y5 y6
   unfold pointillistref01_Floor.j2
   repeat' first
   | (with_reducible exact ih0 _ _ _ _ _)
   | (with_reducible exact ih1 _ _ _ _ _ _ _)
   | (with_reducible exact ih2 _ _ _ _ _ _ _)
   | (with_reducible exact pointillistref01_half.mono _ _)
   | (with_reducible exact pointillistref01_less.mono _ _ _)
   | (with_reducible exact pointillistref01_minus.mono _ _ _)
   | (with_reducible exact pointillistref01_plus.mono _ _ _)
   | (with_reducible exact LeO.refl _)
   | (with_reducible exact LeO.none _)
   | (with_reducible refine LeO.ite ?_ ?_)
   | (with_reducible refine LeO.bind ?_ (fun _ => ?_))
   | exact ih0 _ _ _ _ _
   | exact ih1 _ _ _ _ _ _ _
   | exact ih2 _ _ _ _ _ _ _
   | exact pointillistref01_half.mono _ _
   | exact pointillistref01_less.mono _ _ _
   | exact pointillistref01_minus.mono _ _ _
   | exact pointillistref01_plus.mono _ _ _
   | exact LeO.none _
   | refine LeO.ite ?_ ?_
   | refine LeO.bind ?_ (fun _ => ?_)
theorem pointillistref01_Floor.mono : ∀ a0 a1 a2 k, LeO (pointillistref01_Floor.f k a0 a1 a2) (pointillistref01_Floor.f (k + 1) a0 a1 a2) := by
 intro a0 a1 a2 k
 obtain ⟨ih0, ih1, ih2⟩ := pointillistref01_Floor.mono_l k
 unfold pointillistref01_Floor.f
 repeat' first
   | (with_reducible exact ih0 _ _ _ _ _)
   | (with_reducible exact ih1 _ _ _ _ _ _ _)
   | (with_reducible exact ih2 _ _ _ _ _ _ _)
   | (with_reducible exact pointillistref01_half.mono _ _)
   | (with_reducible exact pointillistref01_less.mono _ _ _)
   | (with_reducible exact pointillistref01_minus.mono _ _ _)
   | (with_reducible exact pointillistref01_plus.mono _ _ _)
   | (with_reducible exact LeO.refl _)
   | (with_reducible exact LeO.none _)
   | (with_reducible refine LeO.ite ?_ ?_)
   | (with_reducible refine LeO.bind ?_ (fun _ => ?_))
   | exact ih0 _ _ _ _ _
   | exact ih1 _ _ _ _ _ _ _
   | exact ih2 _ _ _ _ _ _ _
   | exact pointillistref01_half.mono _ _
   | exact pointillistref01_less.mono _ _ _
   | exact pointillistref01_minus.mono _ _ _
   | exact pointillistref01_plus.mono _ _ _
   | exact LeO.none _
   | refine LeO.ite ?_ ?_
   | refine LeO.bind ?_ (fun _ => ?_)
set_option maxHeartbeats 8000000 in
set_option maxRecDepth 100000 in
theorem pointillistref01_Floor.calls (k : Nat) (a0_0 : Bool) (P0_1_ : Nat → Prop) (A0_1 : Option Addr) (c0_1 : Nat) (l0_1 : List Int) (A1 : Option Addr) (c1 : Nat) (l1 : List Int) (r1 : Bool) (r2 : List Int) (w : World) (hs0_1 : Kd.V (Kd.int .i64) 3 w w.heap.size (fun k_ => P0_1_ k_) (.slice A0_1 l0_1.length c0_1) l0_1) (hr1 : Kd.C (Kd.int .i64) w A1 l1.length l1) (hc1 : l1.length ≤ c1) (h : pointillistref01_Floor.f k a0_0 l0_1 l1 = some (r1, r2)) :
  Calls Tryd.prog 42 #[.agg #[.bool a0_0, .slice A0_1 l0_1.length c0_1], .slice A1 l1.length c1] w fun e w' => ∃ v1_ : Value, e = .returned (.agg #[.bool r1, v1_]) ∧ Kd.V (Kd.int .i64) 3 w' w.heap.size (fun k_ => (P0_1_ k_ ∨ w.heap.size ≤ k_)) v1_ r2 ∧ Below w.heap.size w w' := by
 have hu63 := Tryd.underlying63
 have HO0_1 := Aside0.mk (show Kd.V (Kd.int .i64) 3 w w.heap.size (fun k_ => (P0_1_ k_ ∨ w.heap.size ≤ k_)) (.slice A0_1 l0_1.length c0_1) l0_1 from Kd.V_mono hs0_1 (fun k_ hk => .inl hk))
 have HR1 := Aside0.mk hr1
 have HC1 := Aside0.mk hc1
 clear hr1 hc1
 have HB := Aside0.mk (Below.refl w.heap.size w)
 have H : (pointillistref01_Floor.l0 k l1 ([] : List Int) l0_1 a0_0 l0_1) = some (r1, r2) := h
 clear h
 have H' := Aside0.mk H
 clear H
 go_enter Tryd.func42, Tryd.ntmps42
 go_wp2_with (first | ((with_reducible refine gate_dst (N := 2) rfl ?_); (try (refine gate_guard (by rfl) ?_; dsimp only)); refine box_event ?hg (N := 2) ?hd (cs := #[.bool a0_0, .slice A0_1 l0_1.length c0_1]) (t := 63) ?hr ?_; (case hd => rfl); (case hg => rfl); (case hr => first | (go_simp; done) | (go_simp; rfl)); intro gb257 hg w3 hbox hb; have n0_ := Aside0.mk (Kd.V_below (Kd.V_elderB (vq HO0_1.out) gb257 (Nat.le_of_eq hg.symm)) hb); have n1_ := Aside0.mk (below_step (wq HB.out) hb); have n2_ := Aside0.mk (hbox); have n3_ := Aside0.mk ((by rw [hg]; exact (below_size (wq HB.out)) : w.heap.size ≤ gb257)); have n4_ := n3_; clear HO0_1 HB; have HO0_1 := n0_; have HB := n1_; have BK257 := n2_; have GW257 := n3_; have GE257 := n4_; clear n0_ n1_ n2_ n3_ n4_ hb hbox hg) | ((with_reducible refine gate_dst (N := 4) rfl ?_); (try (refine gate_guard (by rfl) ?_; dsimp only)); refine box_event ?hg (N := 4) ?hd (cs := #[.bool false, .slice none 0 0]) (t := 63) ?hr ?_; (case hd => rfl); (case hg => rfl); (case hr => first | (go_simp; done) | (go_simp; rfl)); intro gb258 hg w4 hbox hb; have n0_ := Aside0.mk (Kd.V_below (Kd.V_elderB (vq HO0_1.out) gb258 (Nat.le_of_eq hg.symm)) hb); have n1_ := Aside0.mk (blk_below (bq BK257.out) hb); have n2_ := Aside0.mk (below_step (wq HB.out) hb); have n3_ := Aside0.mk (hbox); have n4_ := Aside0.mk ((by rw [hg]; exact (below_size (wq HB.out)) : w.heap.size ≤ gb258)); have n5_ := n4_; have n6_ := Aside0.mk ((by rw [hg]; exact Nat.ne_of_lt (blk_lt (bq BK257.out)) : gb257 ≠ gb258)); have n7_ := Aside0.mk ((by rw [hg]; exact Nat.ne_of_gt (blk_lt (bq BK257.out)) : gb258 ≠ gb257)); clear HO0_1 BK257 HB; have HO0_1 := n0_; have BK257 := n1_; have HB := n2_; have BK258 := n3_; have GW258 := n4_; have GE258 := n5_; have NB257_258 := n6_; have NB258_257 := n7_; clear n0_ n1_ n2_ n3_ n4_ n5_ n6_ n7_ hb hbox hg; have hnb5 := NB257_258.out; have hnc5 := NB258_257.out; have hcz6_0 : w4.cell? ⟨gb257, 0, none⟩ = some (.bool a0_0) := (blk_cell BK257.out 0).trans rfl; have hcz6_1 : w4.cell? ⟨gb257, 1, none⟩ = some (.slice A0_1 l0_1.length c0_1) := (blk_cell BK257.out 1).trans rfl; have hfz6_0 := blk_frozen BK257.out 0; have hfz6_1 := blk_frozen BK257.out 1))
 go_loopg [5, 6] k (fun kq v5 v6 w' => ∃ (x5_1 : List Int) (x6_1 : List Int), Aside0 (pointillistref01_Floor.l0 kq l1 x5_1 x6_1 a0_0 l0_1 = some (r1, r2)) ∧ Aside0 (kq ≤ k) ∧ Aside0 (Kd.R (Kd.int .i64) 3 w' w.heap.size (fun k_ => (w.heap.size ≤ k_)) v5 x5_1) ∧ Aside0 (Kd.V (Kd.int .i64) 3 w' w.heap.size (fun k_ => (P0_1_ k_ ∨ w.heap.size ≤ k_) ∧ some k_ ≠ (v5 : Value).ownBlock ∧ k_ ≠ gb257 ∧ k_ ≠ gb258) v6 x6_1) ∧ Aside0 (Kd.V (Kd.int .i64) 3 w' w.heap.size (fun k_ => (P0_1_ k_ ∨ w.heap.size ≤ k_) ∧ some k_ ≠ (v5 : Value).ownBlock ∧ k_ ≠ gb257 ∧ k_ ≠ gb258) (.slice A0_1 l0_1.length c0_1) l0_1) ∧ Aside0 (w'.heap[gb257]? = some (.cells #[.bool a0_0, (.slice A0_1 l0_1.length c0_1)] 63 (0, 0))) ∧ Aside0 (w'.heap[gb258]? = some (.cells #[.bool false, (.slice none 0 0)] 63 (0, 0))) ∧ Aside0 (Below w.heap.size w w'))
 case atStart => exact ⟨(([] : List Int)), (l0_1), H', ⟨Nat.le_refl _⟩, ⟨by first | exact Kd.R_nil _ _ _ _ _ | exact Kd.N_nil _ _ _ _ _ | exact Kd.V_nil _ _ _ _ _ | exact Kd.Q_nil _ _ _ _ _ | exact Kd.S_nil _ _ _ _ _⟩, ⟨by apply vq; exact Kd.V_mono HO0_1.out (fun _ hk => ⟨hk.1.1, ⟨(by simp [Value.ownBlock]), ⟨hk.1.2, hk.2⟩⟩⟩)⟩, ⟨by apply vq; exact Kd.V_mono HO0_1.out (fun _ hk => ⟨hk.1.1, ⟨(by simp [Value.ownBlock]), ⟨hk.1.2, hk.2⟩⟩⟩)⟩, ⟨by refine bq ?_; exact BK257.out⟩, ⟨by refine bq ?_; exact BK258.out⟩, ⟨by exact wq HB.out⟩⟩
 case round =>
  clear H'
  try clear c1
  try clear p2
  try clear c4
  try clear c5
  try clear hcz6_0
  try clear hcz6_1
  try clear hfz6_0
  try clear hfz6_1
  obtain ⟨x5_1, x6_1, HA, HK1, HO_5, HO_6, HO_258001, BK257, BK258, HB⟩ := hrel
  cases gk with
  | zero => exact absurd HA.out (by simp [pointillistref01_Floor.l0])
  | succ k1 =>
   have H := HA.out
   clear HA
   simp only [pointillistref01_Floor.l0] at H
   by_cases c7 : (x6_1.length : Int) > 0
   ·
    rw [if_pos c7] at H
    have c7b0 : decide (0 < (x6_1.length : Int)) = true := decide_eq_true c7
    have c7b1 : decide (0 < x6_1.length) = true := decide_eq_true (by omega)
    clear c7
    replace H := Option.bind_eq_some_iff.mp H
    obtain ⟨⟨t259, t262⟩, A80, H⟩ := H
    replace H : (if x5_1.length < 17592186044416 then (pointillistref01_Floor.l0 k1 l1 (x5_1 ++ [t262]) t259 a0_0 l0_1) else (none)) = some (r1, r2) := H
    have A8 := Aside0.mk A80
    clear A80
    by_cases c9 : x5_1.length < 17592186044416
    ·
     rw [if_pos c9] at H
     have LMc9 := Aside0.mk c9
     clear c9
     obtain ⟨y263, hy263⟩ : ∃ y_ : List Int, y_ = (x5_1 ++ [t262]) := ⟨_, rfl⟩
     replace H : (pointillistref01_Floor.l0 k1 l1 y263 t259 a0_0 l0_1) = some (r1, r2) := by first | (rw [hy263]; with_reducible exact H) | (have H2_ := (Option.bind_some _ _).symm.trans H; rw [hy263]; with_reducible exact H2_) | (have H2_ := (Option.bind_some _ _).symm.trans H; with_reducible exact H2_) | with_reducible exact H | (rw [hy263]; exact H) | exact H
     have Ny263 := Aside0.mk hy263
     clear hy263
     have H' := Aside0.mk H
     clear H
     obtain ⟨Ao10, co10, eo10⟩ := Kd.V_slice HO_6.out
     subst eo10
     go_wp2_with (first | ((with_reducible refine gate_callee (f := 51) rfl ?_); refine goesL_ (some 19) rfl rfl Tryd.func51 (by kernel_rfl) rfl #[.slice Ao10 x6_1.length co10] rfl (by (try simp only [List.map_toArray, List.map_cons, List.map_nil]); first | done | rfl | (simp only [List.length_drop, List.length_take]; rfl)) ?_; (with_reducible refine (pointillistref01_half.calls k1 _ _ x6_1 t259 t262 _ ?side1 ?side2 A8.out).mono ?_); (case side1 => exact cq (Kd.V_reads' HO_6.out).2.2); (case side2 => exact (Kd.V_reads' HO_6.out).2.1); rintro e w11 ⟨v260, rfl, ho0, hb⟩; refine ⟨_, rfl, ?_⟩; have n0_ := Aside0.mk (Kd.R_below (rq HO_5.out) hb); have n1_ := Aside0.mk (Kd.V_below (vq HO_6.out) hb); have n2_ := Aside0.mk (Kd.V_below (vq HO_258001.out) hb); have n3_ := Aside0.mk (Kd.V_lower (Kd.V_mono (ok' := fun k_ => (P0_1_ k_ ∨ w.heap.size ≤ k_) ∧ some k_ ≠ (u5 : Value).ownBlock ∧ k_ ≠ gb257 ∧ k_ ≠ gb258) ho0 (fun k_ hk_ => ⟨(.inr (Nat.le_trans (below_size (wq HB.out)) hk_)), (Kd.fresh' (Kd.R_lt (rq HO_5.out)) k_ hk_), (Kd.freshB (bq BK257.out) k_ hk_), (Kd.freshB (bq BK258.out) k_ hk_)⟩)) (below_size (wq HB.out))); have n4_ := Aside0.mk (blk_below (bq BK257.out) hb); have n5_ := Aside0.mk (blk_below (bq BK258.out) hb); have n6_ := Aside0.mk (below_step (wq HB.out) hb); clear HO_5 HO_6 HO_258001 BK257; clear BK258 HB; have HO_5 := n0_; have HO_6 := n1_; have HO_258001 := n2_; have HO261 := n3_; have BK257 := n4_; have BK258 := n5_; have HB := n6_; clear n0_ n1_ n2_ n3_ n4_ n5_ n6_; (try clear hb); (try clear hb2); (try clear hk); (try clear hi); (try clear ho0)) | ((with_reducible refine gate_builtin (b := .append) (xs := #[.tmp 22, .tmp 24]) rfl ?_); (try (refine gate_guard (by rfl) ?_; dsimp only)); at_builtin; refine Kd.R_append (Kd.int .i64) (w0 := w) w.heap.size rfl (.tmp 22) (.tmp 24) 61 3 (.int .i64 0) 8 rfl Tryd.underlying61 info3 rfl (by decide) (by omega) u5 x5_1 t262 [.int .i64 t262] (fun k_ => (w.heap.size ≤ k_)) (fun _ => False) rfl rfl ?aP (fun _ hk => hk.elim) ?aF ?aO ?aB ?aS ?aL ?_; (case aP => exact rfl); (case aB => exact (wq HB.out)); (case aF => exact (fun k_ hk => (Nat.le_trans (below_size (wq HB.out)) hk))); (case aO => exact (rq HO_5.out)); (case aS => exact (below_size (wq HB.out))); (case aL => have := LMc9.out; omega); intro v264 w12 ho hb hg hat; rw [← Ny263.out] at ho; have n0_ := Aside0.mk (Kd.V_afterv (ok := (fun k_ => (P0_1_ k_ ∨ w.heap.size ≤ k_) ∧ k_ ≠ gb257 ∧ k_ ≠ gb258)) (by apply vq; exact Kd.V_mono HO_6.out (fun _ hk => ⟨⟨hk.1, ⟨hk.2.2.1, hk.2.2.2⟩⟩, hk.2.1⟩)) hg hat); have n1_ := Aside0.mk (Kd.V_afterv (ok := (fun k_ => (P0_1_ k_ ∨ w.heap.size ≤ k_) ∧ k_ ≠ gb257 ∧ k_ ≠ gb258)) (by apply vq; exact Kd.V_mono HO_258001.out (fun _ hk => ⟨⟨hk.1, ⟨hk.2.2.1, hk.2.2.2⟩⟩, hk.2.1⟩)) hg hat); have n2_ := Aside0.mk (blk_grown (g := gb257) (o := .cells #[.bool a0_0, .slice A0_1 l0_1.length c0_1] 63 (0, 0)) (bq BK257.out) hg (Kd.R_ne HO_5.out BK257.out (by decide))); have n3_ := Aside0.mk (blk_grown (g := gb258) (o := .cells #[.bool false, .slice none 0 0] 63 (0, 0)) (bq BK258.out) hg (Kd.R_ne HO_5.out BK258.out (by decide))); have n4_ := Aside0.mk (Kd.V_afterv (ok := (fun k_ => (P0_1_ k_ ∨ w.heap.size ≤ k_) ∧ k_ ≠ gb257 ∧ k_ ≠ gb258)) (by apply vq; exact Kd.V_mono HO261.out (fun _ hk => ⟨⟨hk.1, ⟨hk.2.2.1, hk.2.2.2⟩⟩, hk.2.1⟩)) hg hat); have n5_ := Aside0.mk (hb); have n6_ := Aside0.mk (ho); clear HO_6 HO_258001 BK257 BK258; clear HO261 HB HO_5; have HO_6 := n0_; have HO_258001 := n1_; have BK257 := n2_; have BK258 := n3_; have HO261 := n4_; have HB := n5_; have HO265 := n6_; clear n0_ n1_ n2_ n3_ n4_ n5_ n6_ ho hb hg hat))
     go_roundg k1
     case measure => have := HK1.out; omega
     case rel => exact ⟨(y263), (t259), H', ⟨by have := HK1.out; omega⟩, ⟨by apply rq; exact HO265.out⟩, ⟨by apply vq; exact Kd.V_mono HO261.out (fun _ hk => ⟨hk.1.1, ⟨hk.2, ⟨hk.1.2.1, hk.1.2.2⟩⟩⟩)⟩, ⟨by apply vq; exact Kd.V_mono HO_258001.out (fun _ hk => ⟨hk.1.1, ⟨hk.2, ⟨hk.1.2.1, hk.1.2.2⟩⟩⟩)⟩, ⟨by refine bq ?_; exact BK257.out⟩, ⟨by refine bq ?_; exact BK258.out⟩, ⟨by exact wq HB.out⟩⟩
    ·
     rw [if_neg c9] at H
     exact absurd H (by simp)
   ·
    rw [if_neg c7] at H
    have c7b0 : decide (0 < (x6_1.length : Int)) = false := decide_eq_false c7
    have c7b1 : decide (0 < x6_1.length) = false := decide_eq_false (by omega)
    clear c7
    have H' := Aside0.mk H
    clear H
    obtain ⟨Ao13, co13, eo13⟩ := Kd.V_slice HO_6.out
    subst eo13
    obtain ⟨Ao14, co14, eo14⟩ := Kd.R_slice HO_5.out
    subst eo14
    go_wp2
    go_loopg [9, 10, 11] k1 (fun kq v9 v10 v11 w' => ∃ (x9_2 : List Int) (x10_2 : List Int) (x11_2 : Int), v11 = .int .i64 x11_2 ∧ Aside0 (pointillistref01_Floor.l1 kq l1 x5_1 x9_2 x10_2 x11_2 a0_0 l0_1 = some (r1, r2)) ∧ Aside0 (kq ≤ k1) ∧ Aside0 (Kd.R (Kd.int .i64) 3 w' w.heap.size (fun k_ => (w.heap.size ≤ k_)) (.slice Ao14 x5_1.length co14) x5_1) ∧ Aside0 (Kd.V (Kd.int .i64) 3 w' w.heap.size (fun k_ => (P0_1_ k_ ∨ w.heap.size ≤ k_) ∧ some k_ ≠ ((.slice Ao14 x5_1.length co14) : Value).ownBlock ∧ k_ ≠ gb257 ∧ k_ ≠ gb258) v9 x9_2) ∧ Aside0 (Kd.V (Kd.int .i64) 3 w' w.heap.size (fun k_ => (P0_1_ k_ ∨ w.heap.size ≤ k_) ∧ some k_ ≠ ((.slice Ao14 x5_1.length co14) : Value).ownBlock ∧ k_ ≠ gb257 ∧ k_ ≠ gb258) v10 x10_2) ∧ Aside0 (Kd.V (Kd.int .i64) 3 w' w.heap.size (fun k_ => (P0_1_ k_ ∨ w.heap.size ≤ k_) ∧ some k_ ≠ ((.slice Ao14 x5_1.length co14) : Value).ownBlock ∧ k_ ≠ gb257 ∧ k_ ≠ gb258) (.slice A0_1 l0_1.length c0_1) l0_1) ∧ Aside0 (w'.heap[gb257]? = some (.cells #[.bool a0_0, (.slice A0_1 l0_1.length c0_1)] 63 (0, 0))) ∧ Aside0 (w'.heap[gb258]? = some (.cells #[.bool false, (.slice none 0 0)] 63 (0, 0))) ∧ Aside0 (Below w.heap.size w w'))
    case atStart => exact ⟨(([] : List Int)), (([] : List Int)), (wrap64 ((x5_1.length : Int) - 1)), (by first | rfl | (simp; done) | (simp [*]; done)), H', ⟨Nat.le_refl _⟩, ⟨by apply rq; exact HO_5.out⟩, ⟨Kd.V_nil _ _ _ _ _⟩, ⟨Kd.V_nil _ _ _ _ _⟩, ⟨by apply vq; exact HO_258001.out⟩, ⟨by refine bq ?_; exact BK257.out⟩, ⟨by refine bq ?_; exact BK258.out⟩, ⟨by exact wq HB.out⟩⟩
    case round =>
     clear H'
     try clear c1
     try clear p2
     try clear c4
     try clear c5
     try clear p6
     try clear c7
     try clear c7b0
     try clear c7b1
     try clear c9
     try clear hcz6_0
     try clear hcz6_1
     try clear hfz6_0
     try clear hfz6_1
     try clear p2
     obtain ⟨x9_2, x10_2, x11_2, rfl, HA, HK2, HO_5, HO_9, HO_10, HO_258001, BK257, BK258, HB⟩ := hrel
     cases gk with
     | zero => exact absurd HA.out (by simp [pointillistref01_Floor.l1])
     | succ k2 =>
      have H := HA.out
      clear HA
      simp only [pointillistref01_Floor.l1] at H
      by_cases c15 : x11_2 ≥ 0
      ·
       rw [if_pos c15] at H
       have c15b0 : decide (0 ≤ x11_2) = true := decide_eq_true c15
       clear c15
       replace H := Option.bind_eq_some_iff.mp H
       obtain ⟨t272, A160, H⟩ := H
       replace H : ((pointillistref01_plus.f k2 x10_2 x10_2).bind fun t275 => (if 0 ≤ x11_2 then (if x11_2 < (x5_1.length : Int) then (if (rd x5_1 x11_2) = 1 then ((pointillistref01_plus.f k2 t275 (([1] : List Int))).bind fun t282 => (pointillistref01_Floor.j2 k2 l1 x5_1 t272 t282 x11_2 a0_0 l0_1)) else (pointillistref01_Floor.j2 k2 l1 x5_1 t272 t275 x11_2 a0_0 l0_1)) else (none)) else (none))) = some (r1, r2) := H
       have A16 := Aside0.mk A160
       clear A160
       replace H := Option.bind_eq_some_iff.mp H
       obtain ⟨t275, A170, H⟩ := H
       replace H : (if 0 ≤ x11_2 then (if x11_2 < (x5_1.length : Int) then (if (rd x5_1 x11_2) = 1 then ((pointillistref01_plus.f k2 t275 (([1] : List Int))).bind fun t282 => (pointillistref01_Floor.j2 k2 l1 x5_1 t272 t282 x11_2 a0_0 l0_1)) else (pointillistref01_Floor.j2 k2 l1 x5_1 t272 t275 x11_2 a0_0 l0_1)) else (none)) else (none)) = some (r1, r2) := H
       have A17 := Aside0.mk A170
       clear A170
       by_cases c18 : 0 ≤ x11_2
       ·
        rw [if_pos c18] at H
        have c18b0 : decide (0 ≤ x11_2) = true := decide_eq_true c18
        clear c18
        by_cases c19 : x11_2 < (x5_1.length : Int)
        ·
         rw [if_pos c19] at H
         have c19b0 : decide (x11_2 < (x5_1.length : Int)) = true := decide_eq_true c19
         clear c19
         have HC20 := Aside0.mk H
         clear H
         obtain ⟨Ao21, co21, eo21⟩ := Kd.V_slice HO_9.out
         subst eo21
         go_upto_if 44 with (first | ((with_reducible refine gate_callee (f := 43) rfl ?_); refine goesL_ (some 36) rfl rfl Tryd.func43 (by kernel_rfl) rfl #[.slice Ao21 x9_2.length co21, .slice Ao21 x9_2.length co21] rfl (by (try simp only [List.map_toArray, List.map_cons, List.map_nil]); first | done | rfl | (simp only [List.length_drop, List.length_take]; rfl)) ?_; (with_reducible refine (pointillistref01_plus.calls k2 _ _ x9_2 _ _ x9_2 t272 _ ?side1 ?side2 ?side3 ?side4 A16.out).mono ?_); (case side1 => exact cq (Kd.V_reads' HO_9.out).2.2); (case side2 => exact (Kd.V_reads' HO_9.out).2.1); (case side3 => exact cq (Kd.V_reads' HO_9.out).2.2); (case side4 => exact (Kd.V_reads' HO_9.out).2.1); rintro e w22 ⟨v273, rfl, ho0, hb⟩; refine ⟨_, rfl, ?_⟩; have n0_ := Aside0.mk (Kd.R_below (rq HO_5.out) hb); have n1_ := Aside0.mk (Kd.V_below (vq HO_9.out) hb); have n2_ := Aside0.mk (Kd.V_below (vq HO_10.out) hb); have n3_ := Aside0.mk (Kd.V_below (vq HO_258001.out) hb); have n4_ := Aside0.mk (Kd.V_lower (Kd.V_mono (ok' := fun k_ => (P0_1_ k_ ∨ w.heap.size ≤ k_) ∧ some k_ ≠ (.slice Ao14 x5_1.length co14 : Value).ownBlock ∧ k_ ≠ gb257 ∧ k_ ≠ gb258) ho0 (fun k_ hk_ => ⟨(.inr (Nat.le_trans (below_size (wq HB.out)) hk_)), (Kd.fresh' (Kd.R_lt (rq HO_5.out)) k_ hk_), (Kd.freshB (bq BK257.out) k_ hk_), (Kd.freshB (bq BK258.out) k_ hk_)⟩)) (below_size (wq HB.out))); have n5_ := Aside0.mk (blk_below (bq BK257.out) hb); have n6_ := Aside0.mk (blk_below (bq BK258.out) hb); have n7_ := Aside0.mk (below_step (wq HB.out) hb); clear HO_5 HO_9 HO_10 HO_258001; clear BK257 BK258 HB; have HO_5 := n0_; have HO_9 := n1_; have HO_10 := n2_; have HO_258001 := n3_; have HO274 := n4_; have BK257 := n5_; have BK258 := n6_; have HB := n7_; clear n0_ n1_ n2_ n3_ n4_ n5_ n6_ n7_; (try clear hb); (try clear hb2); (try clear hk); (try clear hi); (try clear ho0); obtain ⟨Ao23, co23, eo23⟩ := Kd.V_slice HO_10.out; subst eo23) | ((with_reducible refine gate_callee (f := 43) rfl ?_); refine goesL_ (some 39) rfl rfl Tryd.func43 (by kernel_rfl) rfl #[.slice Ao23 x10_2.length co23, .slice Ao23 x10_2.length co23] rfl (by (try simp only [List.map_toArray, List.map_cons, List.map_nil]); first | done | rfl | (simp only [List.length_drop, List.length_take]; rfl)) ?_; (with_reducible refine (pointillistref01_plus.calls k2 _ _ x10_2 _ _ x10_2 t275 _ ?side1 ?side2 ?side3 ?side4 A17.out).mono ?_); (case side1 => exact cq (Kd.V_reads' HO_10.out).2.2); (case side2 => exact (Kd.V_reads' HO_10.out).2.1); (case side3 => exact cq (Kd.V_reads' HO_10.out).2.2); (case side4 => exact (Kd.V_reads' HO_10.out).2.1); rintro e w24 ⟨v276, rfl, ho0, hb⟩; refine ⟨_, rfl, ?_⟩; have n0_ := Aside0.mk (Kd.R_below (rq HO_5.out) hb); have n1_ := Aside0.mk (Kd.V_below (vq HO_9.out) hb); have n2_ := Aside0.mk (Kd.V_below (vq HO_10.out) hb); have n3_ := Aside0.mk (Kd.V_below (vq HO_258001.out) hb); have n4_ := Aside0.mk (Kd.V_below (vq HO274.out) hb); have n5_ := Aside0.mk (Kd.V_lower (Kd.V_mono (ok' := fun k_ => (P0_1_ k_ ∨ w.heap.size ≤ k_) ∧ some k_ ≠ (.slice Ao14 x5_1.length co14 : Value).ownBlock ∧ k_ ≠ gb257 ∧ k_ ≠ gb258) ho0 (fun k_ hk_ => ⟨(.inr (Nat.le_trans (below_size (wq HB.out)) hk_)), (Kd.fresh' (Kd.R_lt (rq HO_5.out)) k_ hk_), (Kd.freshB (bq BK257.out) k_ hk_), (Kd.freshB (bq BK258.out) k_ hk_)⟩)) (below_size (wq HB.out))); have n6_ := Aside0.mk (blk_below (bq BK257.out) hb); have n7_ := Aside0.mk (blk_below (bq BK258.out) hb); have n8_ := Aside0.mk (below_step (wq HB.out) hb); clear HO_5 HO_9 HO_10 HO_258001; clear HO274 BK257 BK258 HB; have HO_5 := n0_; have HO_9 := n1_; have HO_10 := n2_; have HO_258001 := n3_; have HO274 := n4_; have HO277 := n5_; have BK257 := n6_; have BK258 := n7_; have HB := n8_; clear n0_ n1_ n2_ n3_ n4_ n5_ n6_ n7_ n8_; (try clear hb); (try clear hb2); (try clear hk); (try clear hi); (try clear ho0); have p278 : 0 ≤ (x11_2 : Int) := of_decide_eq_true (by first | (with_reducible assumption) | assumption); have q278 : x11_2 < (x5_1.length : Int) := of_decide_eq_true (by first | (with_reducible assumption) | assumption); obtain ⟨ad278, e278, hx278_0⟩ := Kd.at_int (Kd.R_reads' HO_5.out).2.2 x11_2 p278 q278; cases e278; replace p278 := eq_true p278; replace q278 := eq_true q278))
         (try simp only [apz])
         go_cut [10] (fun v10 wc => ∃ (kq : Nat) (x10_19 : List Int), Aside0 (pointillistref01_Floor.j2 kq l1 x5_1 t272 x10_19 x11_2 a0_0 l0_1 = some (r1, r2)) ∧ Aside0 (kq ≤ k2) ∧ Aside0 (Kd.R (Kd.int .i64) 3 wc w.heap.size (fun k_ => (w.heap.size ≤ k_)) (.slice (some ad278) x5_1.length co14) x5_1) ∧ Aside0 (Kd.V (Kd.int .i64) 3 wc w.heap.size (fun k_ => (P0_1_ k_ ∨ w.heap.size ≤ k_) ∧ some k_ ≠ ((.slice (some ad278) x5_1.length co14) : Value).ownBlock ∧ k_ ≠ gb257 ∧ k_ ≠ gb258) v273 t272) ∧ Aside0 (Kd.V (Kd.int .i64) 3 wc w.heap.size (fun k_ => (P0_1_ k_ ∨ w.heap.size ≤ k_) ∧ some k_ ≠ ((.slice (some ad278) x5_1.length co14) : Value).ownBlock ∧ k_ ≠ gb257 ∧ k_ ≠ gb258) v10 x10_19) ∧ Aside0 (Kd.V (Kd.int .i64) 3 wc w.heap.size (fun k_ => (P0_1_ k_ ∨ w.heap.size ≤ k_) ∧ some k_ ≠ ((.slice (some ad278) x5_1.length co14) : Value).ownBlock ∧ k_ ≠ gb257 ∧ k_ ≠ gb258) (.slice A0_1 l0_1.length c0_1) l0_1) ∧ Aside0 (wc.heap[gb257]? = some (.cells #[.bool a0_0, (.slice A0_1 l0_1.length c0_1)] 63 (0, 0))) ∧ Aside0 (wc.heap[gb258]? = some (.cells #[.bool false, (.slice none 0 0)] 63 (0, 0))) ∧ Aside0 (Below w.heap.size w wc))
         case first =>
          have H := HC20.out
          clear HC20
          by_cases c25 : (rd x5_1 x11_2) = 1
          ·
           rw [if_pos c25] at H
           have c25b0 : ((rd x5_1 x11_2) == 1) = true := beq_iff_eq.mpr c25
           have c25b1 : ((rd x5_1 x11_2) != 1) = false := bne_eq_false_iff_eq.mpr c25
           clear c25
           (first | rw [c25b0] | (simp only [i64_w, i32_w]; rw [c25b0]) | skip)
           obtain ⟨y279, hy279⟩ : ∃ y_ : List Int, y_ = (([1] : List Int)) := ⟨_, rfl⟩
           replace H : ((pointillistref01_plus.f k2 t275 y279).bind fun t282 => (pointillistref01_Floor.j2 k2 l1 x5_1 t272 t282 x11_2 a0_0 l0_1)) = some (r1, r2) := by first | (rw [hy279]; with_reducible exact H) | (have H2_ := (Option.bind_some _ _).symm.trans H; rw [hy279]; with_reducible exact H2_) | (have H2_ := (Option.bind_some _ _).symm.trans H; with_reducible exact H2_) | with_reducible exact H | (rw [hy279]; exact H) | exact H
           have Ny279 := Aside0.mk hy279
           clear hy279
           replace H := Option.bind_eq_some_iff.mp H
           obtain ⟨t282, A260, H⟩ := H
           replace H : (pointillistref01_Floor.j2 k2 l1 x5_1 t272 t282 x11_2 a0_0 l0_1) = some (r1, r2) := H
           have A26 := Aside0.mk A260
           clear A260
           have H' := Aside0.mk H
           clear H
           go_wp2_with (first | ((with_reducible refine gate_dst (N := 46) rfl ?_); (try (refine gate_guard (by rfl) ?_; dsimp only)); refine Kd.R_lit (Kd.int .i64) _ 3 ?hg (N := 46) ?hd (xs := ([1] : List Int)) (inner := [.int .i64 1]) (ok := fun _ => True) (okp := fun _ => True) ?hr ?hp (fun _ hk => hk) trivial (Below.refl _ _) (Nat.le_refl _) (by simp) ?_; (case hd => rfl); (case hg => rfl); (case hr => first | (go_simp; done) | (go_simp; rfl)); (case hp => exact (Reps.one (show Kd.M (Kd.int .i64) _ _ _ 1 [.int .i64 1] from rfl) (Reps.none _ _))); intro v280 w27 ho28 hb hg_ hnew_; clear hg_ hnew_; (first | rw [← Ny279.out] at ho28 | (simp only [Int.reduceToNat] at ho28; rw [← Ny279.out] at ho28)); have n0_ := Aside0.mk (Kd.R_elder' (rq HO_5.out) (Kd.R_base ho28) hb); have n1_ := Aside0.mk (Kd.V_elder' (vq HO_9.out) (Kd.R_base ho28) hb); have n2_ := Aside0.mk (Kd.V_elder' (vq HO_10.out) (Kd.R_base ho28) hb); have n3_ := Aside0.mk (Kd.V_elder' (vq HO_258001.out) (Kd.R_base ho28) hb); have n4_ := Aside0.mk (Kd.V_elder' (vq HO274.out) (Kd.R_base ho28) hb); have n5_ := Aside0.mk (Kd.V_elder' (vq HO277.out) (Kd.R_base ho28) hb); have n6_ := Aside0.mk (Kd.R_lower (Kd.R_new' (Kd.R_newM (M := fun k_ => (w.heap.size ≤ k_)) ho28 (below_size (wq HB.out)) (fun k_ h_ => h_)) (Kd.R_lt (rq HO_5.out))) (below_size (wq HB.out))); have n7_ := Aside0.mk (blk_below (bq BK257.out) hb); have n8_ := Aside0.mk (blk_below (bq BK258.out) hb); have n9_ := Aside0.mk (below_step (wq HB.out) hb); clear HO_5 HO_9 HO_10 HO_258001; clear HO274 HO277 BK257 BK258; clear HB; have HO_5 := n0_; have HO_9 := n1_; have HO_10 := n2_; have HO_258001 := n3_; have HO274 := n4_; have HO277 := n5_; have HO281 := n6_; have BK257 := n7_; have BK258 := n8_; have HB := n9_; clear n0_ n1_ n2_ n3_ n4_ n5_ n6_ n7_ n8_ n9_ hb ho28; obtain ⟨Ao29, co29, eo29⟩ := Kd.V_slice HO277.out; subst eo29; obtain ⟨Ao30, co30, eo30⟩ := Kd.R_slice HO281.out; subst eo30) | ((with_reducible refine gate_callee (f := 43) rfl ?_); refine goesL_ (some 47) rfl rfl Tryd.func43 (by kernel_rfl) rfl #[.slice Ao29 t275.length co29, .slice Ao30 y279.length co30] rfl (by (try simp only [List.map_toArray, List.map_cons, List.map_nil]); first | done | rfl | (simp only [List.length_drop, List.length_take]; rfl)) ?_; (with_reducible refine (pointillistref01_plus.calls k2 _ _ t275 _ _ y279 t282 _ ?side1 ?side2 ?side3 ?side4 A26.out).mono ?_); (case side1 => exact cq (Kd.V_reads' HO277.out).2.2); (case side2 => exact (Kd.V_reads' HO277.out).2.1); (case side3 => exact cq (Kd.R_reads' HO281.out).2.2); (case side4 => exact (Kd.R_reads' HO281.out).2.1); rintro e w31 ⟨v283, rfl, ho0, hb⟩; refine ⟨_, rfl, ?_⟩; have n0_ := Aside0.mk (Kd.R_below (rq HO_5.out) hb); have n1_ := Aside0.mk (Kd.V_below (vq HO_9.out) hb); have n2_ := Aside0.mk (Kd.V_below (vq HO_10.out) hb); have n3_ := Aside0.mk (Kd.V_below (vq HO_258001.out) hb); have n4_ := Aside0.mk (Kd.V_below (vq HO274.out) hb); have n5_ := Aside0.mk (Kd.V_below (vq HO277.out) hb); have n6_ := Aside0.mk (Kd.R_below (rq HO281.out) hb); have n7_ := Aside0.mk (Kd.V_lower (Kd.V_mono (ok' := fun k_ => (P0_1_ k_ ∨ w.heap.size ≤ k_) ∧ some k_ ≠ (.slice (some ad278) x5_1.length co14 : Value).ownBlock ∧ some k_ ≠ (.slice Ao30 y279.length co30 : Value).ownBlock ∧ k_ ≠ gb257 ∧ k_ ≠ gb258) ho0 (fun k_ hk_ => ⟨(.inr (Nat.le_trans (below_size (wq HB.out)) hk_)), (Kd.fresh' (Kd.R_lt (rq HO_5.out)) k_ hk_), (Kd.fresh' (Kd.R_lt (rq HO281.out)) k_ hk_), (Kd.freshB (bq BK257.out) k_ hk_), (Kd.freshB (bq BK258.out) k_ hk_)⟩)) (below_size (wq HB.out))); have n8_ := Aside0.mk (blk_below (bq BK257.out) hb); have n9_ := Aside0.mk (blk_below (bq BK258.out) hb); have n10_ := Aside0.mk (below_step (wq HB.out) hb); clear HO_5 HO_9 HO_10 HO_258001; clear HO274 HO277 HO281 BK257; clear BK258 HB; have HO_5 := n0_; have HO_9 := n1_; have HO_10 := n2_; have HO_258001 := n3_; have HO274 := n4_; have HO277 := n5_; have HO281 := n6_; have HO284 := n7_; have BK257 := n8_; have BK258 := n9_; have HB := n10_; clear n0_ n1_ n2_ n3_ n4_ n5_ n6_ n7_ n8_ n9_ n10_; (try clear hb); (try clear hb2); (try clear hk); (try clear hi); (try clear ho0)))
           go_meet
           case rel => exact ⟨_, (t282), H', ⟨by have := HK1.out; have := HK2.out; first | omega | exact Nat.le_refl _⟩, ⟨by apply rq; exact Kd.R_mono HO_5.out (fun _ hk => hk.1)⟩, ⟨by apply vq; exact Kd.V_mono HO274.out (fun _ hk => ⟨hk.1.1, ⟨hk.1.2.1, ⟨hk.1.2.2.1, hk.1.2.2.2⟩⟩⟩)⟩, ⟨by apply vq; exact Kd.V_mono HO284.out (fun _ hk => ⟨hk.1, ⟨hk.2.1, ⟨hk.2.2.2.1, hk.2.2.2.2⟩⟩⟩)⟩, ⟨by apply vq; exact Kd.V_mono HO_258001.out (fun _ hk => ⟨hk.1.1, ⟨hk.1.2.1, ⟨hk.1.2.2.1, hk.1.2.2.2⟩⟩⟩)⟩, ⟨by refine bq ?_; exact BK257.out⟩, ⟨by refine bq ?_; exact BK258.out⟩, ⟨by exact wq HB.out⟩⟩
          ·
           rw [if_neg c25] at H
           have c25b0 : ((rd x5_1 x11_2) == 1) = false := beq_eq_false_iff_ne.mpr c25
           have c25b1 : ((rd x5_1 x11_2) != 1) = true := bne_iff_ne.mpr c25
           (first | rw [c25b0] | (simp only [i64_w, i32_w]; rw [c25b0]) | skip)
           have H' := Aside0.mk H
           clear H
           go_wp2
           go_meet
           case rel => exact ⟨_, (t275), H', ⟨by have := HK1.out; have := HK2.out; first | omega | exact Nat.le_refl _⟩, ⟨by apply rq; exact HO_5.out⟩, ⟨by apply vq; exact HO274.out⟩, ⟨by apply vq; exact HO277.out⟩, ⟨by apply vq; exact HO_258001.out⟩, ⟨by refine bq ?_; exact BK257.out⟩, ⟨by refine bq ?_; exact BK258.out⟩, ⟨by exact wq HB.out⟩⟩
         case rest =>
          clear HC20
          try clear c1
          try clear c2
          try clear p2
          try clear q2
          try clear hx2
          try clear c4
          try clear c5
          try clear p6
          try clear c7
          try clear c7b0
          try clear c7b1
          try clear c9
          try clear c15
          try clear c15b0
          try clear c18
          try clear c18b0
          try clear c19
          try clear c19b0
          try clear c25
          try clear c25b0
          try clear c25b1
          try clear p27
          try clear q27
          try clear hx27
          try clear hcz6_0
          try clear hcz6_1
          try clear hfz6_0
          try clear hfz6_1
          try clear hx278_0
          try clear p2
          try clear p278
          try clear p6
          try clear q278
          obtain ⟨kq, x10_19, HA, HJ19, HO_5, HO_9, HO_10, HO_258001, BK257, BK258, HB⟩ := hcut
          cases kq with
          | zero => exact absurd HA.out (by simp [pointillistref01_Floor.j2])
          | succ kj19 =>
           have H := HA.out
           clear HA
           simp only [pointillistref01_Floor.j2] at H
           replace H := Option.bind_eq_some_iff.mp H
           obtain ⟨t285, A320, H⟩ := H
           replace H : (if t285 = true then (pointillistref01_Floor.l1 kj19 l1 x5_1 t272 x10_19 (wrap64 (x11_2 - 1)) a0_0 l0_1) else ((pointillistref01_minus.f kj19 x10_19 l1).bind fun t286 => ((pointillistref01_plus.f kj19 t272 (([1] : List Int))).bind fun t292 => (pointillistref01_Floor.l1 kj19 l1 x5_1 t292 t286 (wrap64 (x11_2 - 1)) a0_0 l0_1)))) = some (r1, r2) := H
           have A32 := Aside0.mk A320
           clear A320
           by_cases c33 : t285 = true
           ·
            subst c33
            have H1 : (pointillistref01_Floor.l1 kj19 l1 x5_1 t272 x10_19 (wrap64 (x11_2 - 1)) a0_0 l0_1) = some (r1, r2) := by rw [if_pos rfl] at H; exact H
            clear H
            have H := H1
            clear H1
            have H' := Aside0.mk H
            clear H
            obtain ⟨Ao34, co34, eo34⟩ := Kd.V_slice HO_10.out
            subst eo34
            go_wp2_with (first | ((with_reducible refine gate_callee (f := 44) rfl ?_); refine goesL_ (some 50) rfl rfl Tryd.func44 (by kernel_rfl) rfl #[.slice Ao34 x10_19.length co34, .slice A1 l1.length c1] rfl (by (try simp only [List.map_toArray, List.map_cons, List.map_nil]); first | done | rfl | (simp only [List.length_drop, List.length_take]; rfl)) ?_; (with_reducible refine (pointillistref01_less.calls kj19 _ _ x10_19 _ _ l1 true _ ?side1 ?side2 ?side3 ?side4 A32.out).mono ?_); (case side1 => exact cq (Kd.V_reads' HO_10.out).2.2); (case side2 => exact (Kd.V_reads' HO_10.out).2.1); (case side3 => exact cq (Kd.C_below HR1.out HB.out)); (case side4 => exact HC1.out); rintro e w' ⟨rfl, ⟨nd, rfl⟩⟩; refine ⟨_, rfl, ?_⟩))
            go_roundg kj19
            case measure => have := HK1.out; have := HK2.out; have := HJ19.out; omega
            case rel => exact ⟨(t272), (x10_19), (wrap64 (x11_2 - 1)), (by first | rfl | (simp; done) | (simp [*]; done)), H', ⟨by have := HK1.out; have := HK2.out; have := HJ19.out; omega⟩, ⟨by apply rq; exact HO_5.out⟩, ⟨by apply vq; exact HO_9.out⟩, ⟨by apply vq; exact HO_10.out⟩, ⟨by apply vq; exact HO_258001.out⟩, ⟨by refine bq ?_; exact BK257.out⟩, ⟨by refine bq ?_; exact BK258.out⟩, ⟨by exact wq HB.out⟩⟩
           ·
            replace c33 := Bool.eq_false_iff.mpr c33
            subst c33
            have H1 : ((pointillistref01_minus.f kj19 x10_19 l1).bind fun t286 => ((pointillistref01_plus.f kj19 t272 (([1] : List Int))).bind fun t292 => (pointillistref01_Floor.l1 kj19 l1 x5_1 t292 t286 (wrap64 (x11_2 - 1)) a0_0 l0_1))) = some (r1, r2) := by rw [if_neg (show ¬ (false = true) by decide)] at H; exact H
            clear H
            have H := H1
            clear H1
            replace H := Option.bind_eq_some_iff.mp H
            obtain ⟨t286, A350, H⟩ := H
            replace H : ((pointillistref01_plus.f kj19 t272 (([1] : List Int))).bind fun t292 => (pointillistref01_Floor.l1 kj19 l1 x5_1 t292 t286 (wrap64 (x11_2 - 1)) a0_0 l0_1)) = some (r1, r2) := H
            have A35 := Aside0.mk A350
            clear A350
            obtain ⟨y289, hy289⟩ : ∃ y_ : List Int, y_ = (([1] : List Int)) := ⟨_, rfl⟩
            replace H : ((pointillistref01_plus.f kj19 t272 y289).bind fun t292 => (pointillistref01_Floor.l1 kj19 l1 x5_1 t292 t286 (wrap64 (x11_2 - 1)) a0_0 l0_1)) = some (r1, r2) := by first | (rw [hy289]; with_reducible exact H) | (have H2_ := (Option.bind_some _ _).symm.trans H; rw [hy289]; with_reducible exact H2_) | (have H2_ := (Option.bind_some _ _).symm.trans H; with_reducible exact H2_) | with_reducible exact H | (rw [hy289]; exact H) | exact H
            have Ny289 := Aside0.mk hy289
            clear hy289
            replace H := Option.bind_eq_some_iff.mp H
            obtain ⟨t292, A360, H⟩ := H
            replace H : (pointillistref01_Floor.l1 kj19 l1 x5_1 t292 t286 (wrap64 (x11_2 - 1)) a0_0 l0_1) = some (r1, r2) := H
            have A36 := Aside0.mk A360
            clear A360
            have H' := Aside0.mk H
            clear H
            obtain ⟨Ao37, co37, eo37⟩ := Kd.V_slice HO_10.out
            subst eo37
            go_wp2_with (first | ((with_reducible refine gate_callee (f := 44) rfl ?_); refine goesL_ (some 50) rfl rfl Tryd.func44 (by kernel_rfl) rfl #[.slice Ao37 x10_19.length co37, .slice A1 l1.length c1] rfl (by (try simp only [List.map_toArray, List.map_cons, List.map_nil]); first | done | rfl | (simp only [List.length_drop, List.length_take]; rfl)) ?_; (with_reducible refine (pointillistref01_less.calls kj19 _ _ x10_19 _ _ l1 false _ ?side1 ?side2 ?side3 ?side4 A32.out).mono ?_); (case side1 => exact cq (Kd.V_reads' HO_10.out).2.2); (case side2 => exact (Kd.V_reads' HO_10.out).2.1); (case side3 => exact cq (Kd.C_below HR1.out HB.out)); (case side4 => exact HC1.out); rintro e w' ⟨rfl, ⟨nd, rfl⟩⟩; refine ⟨_, rfl, ?_⟩) | ((with_reducible refine gate_callee (f := 45) rfl ?_); refine goesL_ (some 54) rfl rfl Tryd.func45 (by kernel_rfl) rfl #[.slice Ao37 x10_19.length co37, .slice A1 l1.length c1] rfl (by (try simp only [List.map_toArray, List.map_cons, List.map_nil]); first | done | rfl | (simp only [List.length_drop, List.length_take]; rfl)) ?_; (with_reducible refine (pointillistref01_minus.calls kj19 _ _ x10_19 _ _ l1 t286 _ ?side1 ?side2 ?side3 ?side4 A35.out).mono ?_); (case side1 => exact cq (Kd.V_reads' HO_10.out).2.2); (case side2 => exact (Kd.V_reads' HO_10.out).2.1); (case side3 => repeat (first | exact (Kd.C_below HR1.out (wq HB.out)) | (with_reducible refine Kd.C_alloc ?_ _) | (with_reducible refine Kd.C_drewN ?_ _) | (with_reducible refine Kd.C_drew ?_))); (case side4 => exact HC1.out); rintro e w38 ⟨v287, rfl, ho0, hb⟩; refine ⟨_, rfl, ?_⟩; have n0_ := Aside0.mk (Kd.R_below (rq HO_5.out) hb); have n1_ := Aside0.mk (Kd.V_below (vq HO_9.out) hb); have n2_ := Aside0.mk (Kd.V_below (vq HO_10.out) hb); have n3_ := Aside0.mk (Kd.V_below (vq HO_258001.out) hb); have n4_ := Aside0.mk (Kd.V_lower (Kd.V_mono (ok' := fun k_ => (P0_1_ k_ ∨ w.heap.size ≤ k_) ∧ some k_ ≠ (.slice (some ad278) x5_1.length co14 : Value).ownBlock ∧ k_ ≠ gb257 ∧ k_ ≠ gb258) ho0 (fun k_ hk_ => ⟨(.inr (Nat.le_trans (below_size (wq HB.out)) hk_)), (Kd.fresh' (Kd.R_lt (rq HO_5.out)) k_ hk_), (Kd.freshB (bq BK257.out) k_ hk_), (Kd.freshB (bq BK258.out) k_ hk_)⟩)) (below_size (wq HB.out))); have n5_ := Aside0.mk (blk_below (bq BK257.out) hb); have n6_ := Aside0.mk (blk_below (bq BK258.out) hb); have n7_ := Aside0.mk (below_step (wq HB.out) hb); clear HO_5 HO_9 HO_10 HO_258001; clear BK257 BK258 HB; have HO_5 := n0_; have HO_9 := n1_; have HO_10 := n2_; have HO_258001 := n3_; have HO288 := n4_; have BK257 := n5_; have BK258 := n6_; have HB := n7_; clear n0_ n1_ n2_ n3_ n4_ n5_ n6_ n7_; (try clear hb); (try clear hb2); (try clear hk); (try clear hi); (try clear ho0)) | ((with_reducible refine gate_dst (N := 56) rfl ?_); (try (refine gate_guard (by rfl) ?_; dsimp only)); refine Kd.R_lit (Kd.int .i64) _ 3 ?hg (N := 56) ?hd (xs := ([1] : List Int)) (inner := [.int .i64 1]) (ok := fun _ => True) (okp := fun _ => True) ?hr ?hp (fun _ hk => hk) trivial (Below.refl _ _) (Nat.le_refl _) (by simp) ?_; (case hd => rfl); (case hg => rfl); (case hr => first | (go_simp; done) | (go_simp; rfl)); (case hp => exact (Reps.one (show Kd.M (Kd.int .i64) _ _ _ 1 [.int .i64 1] from rfl) (Reps.none _ _))); intro v290 w39 ho40 hb hg_ hnew_; clear hg_ hnew_; (first | rw [← Ny289.out] at ho40 | (simp only [Int.reduceToNat] at ho40; rw [← Ny289.out] at ho40)); have n0_ := Aside0.mk (Kd.R_elder' (rq HO_5.out) (Kd.R_base ho40) hb); have n1_ := Aside0.mk (Kd.V_elder' (vq HO_9.out) (Kd.R_base ho40) hb); have n2_ := Aside0.mk (Kd.V_elder' (vq HO_10.out) (Kd.R_base ho40) hb); have n3_ := Aside0.mk (Kd.V_elder' (vq HO_258001.out) (Kd.R_base ho40) hb); have n4_ := Aside0.mk (Kd.V_elder' (vq HO288.out) (Kd.R_base ho40) hb); have n5_ := Aside0.mk (Kd.R_lower (Kd.R_new' (Kd.R_newM (M := fun k_ => (w.heap.size ≤ k_)) ho40 (below_size (wq HB.out)) (fun k_ h_ => h_)) (Kd.R_lt (rq HO_5.out))) (below_size (wq HB.out))); have n6_ := Aside0.mk (blk_below (bq BK257.out) hb); have n7_ := Aside0.mk (blk_below (bq BK258.out) hb); have n8_ := Aside0.mk (below_step (wq HB.out) hb); clear HO_5 HO_9 HO_10 HO_258001; clear HO288 BK257 BK258 HB; have HO_5 := n0_; have HO_9 := n1_; have HO_10 := n2_; have HO_258001 := n3_; have HO288 := n4_; have HO291 := n5_; have BK257 := n6_; have BK258 := n7_; have HB := n8_; clear n0_ n1_ n2_ n3_ n4_ n5_ n6_ n7_ n8_ hb ho40; obtain ⟨Ao41, co41, eo41⟩ := Kd.V_slice HO_9.out; subst eo41; obtain ⟨Ao42, co42, eo42⟩ := Kd.R_slice HO291.out; subst eo42) | ((with_reducible refine gate_callee (f := 43) rfl ?_); refine goesL_ (some 57) rfl rfl Tryd.func43 (by kernel_rfl) rfl #[.slice Ao41 t272.length co41, .slice Ao42 y289.length co42] rfl (by (try simp only [List.map_toArray, List.map_cons, List.map_nil]); first | done | rfl | (simp only [List.length_drop, List.length_take]; rfl)) ?_; (with_reducible refine (pointillistref01_plus.calls kj19 _ _ t272 _ _ y289 t292 _ ?side1 ?side2 ?side3 ?side4 A36.out).mono ?_); (case side1 => exact cq (Kd.V_reads' HO_9.out).2.2); (case side2 => exact (Kd.V_reads' HO_9.out).2.1); (case side3 => exact cq (Kd.R_reads' HO291.out).2.2); (case side4 => exact (Kd.R_reads' HO291.out).2.1); rintro e w43 ⟨v293, rfl, ho0, hb⟩; refine ⟨_, rfl, ?_⟩; have n0_ := Aside0.mk (Kd.R_below (rq HO_5.out) hb); have n1_ := Aside0.mk (Kd.V_below (vq HO_9.out) hb); have n2_ := Aside0.mk (Kd.V_below (vq HO_10.out) hb); have n3_ := Aside0.mk (Kd.V_below (vq HO_258001.out) hb); have n4_ := Aside0.mk (Kd.V_below (vq HO288.out) hb); have n5_ := Aside0.mk (Kd.R_below (rq HO291.out) hb); have n6_ := Aside0.mk (Kd.V_lower (Kd.V_mono (ok' := fun k_ => (P0_1_ k_ ∨ w.heap.size ≤ k_) ∧ some k_ ≠ (.slice (some ad278) x5_1.length co14 : Value).ownBlock ∧ some k_ ≠ (.slice Ao42 y289.length co42 : Value).ownBlock ∧ k_ ≠ gb257 ∧ k_ ≠ gb258) ho0 (fun k_ hk_ => ⟨(.inr (Nat.le_trans (below_size (wq HB.out)) hk_)), (Kd.fresh' (Kd.R_lt (rq HO_5.out)) k_ hk_), (Kd.fresh' (Kd.R_lt (rq HO291.out)) k_ hk_), (Kd.freshB (bq BK257.out) k_ hk_), (Kd.freshB (bq BK258.out) k_ hk_)⟩)) (below_size (wq HB.out))); have n7_ := Aside0.mk (blk_below (bq BK257.out) hb); have n8_ := Aside0.mk (blk_below (bq BK258.out) hb); have n9_ := Aside0.mk (below_step (wq HB.out) hb); clear HO_5 HO_9 HO_10 HO_258001; clear HO288 HO291 BK257 BK258; clear HB; have HO_5 := n0_; have HO_9 := n1_; have HO_10 := n2_; have HO_258001 := n3_; have HO288 := n4_; have HO291 := n5_; have HO294 := n6_; have BK257 := n7_; have BK258 := n8_; have HB := n9_; clear n0_ n1_ n2_ n3_ n4_ n5_ n6_ n7_ n8_ n9_; (try clear hb); (try clear hb2); (try clear hk); (try clear hi); (try clear ho0)))
            go_roundg kj19
            case measure => have := HK1.out; have := HK2.out; have := HJ19.out; omega
            case rel => exact ⟨(t292), (t286), (wrap64 (x11_2 - 1)), (by first | rfl | (simp; done) | (simp [*]; done)), H', ⟨by have := HK1.out; have := HK2.out; have := HJ19.out; omega⟩, ⟨by apply rq; exact Kd.R_mono HO_5.out (fun _ hk => hk.1)⟩, ⟨by apply vq; exact Kd.V_mono HO294.out (fun _ hk => ⟨hk.1, ⟨hk.2.1, ⟨hk.2.2.2.1, hk.2.2.2.2⟩⟩⟩)⟩, ⟨by apply vq; exact Kd.V_mono HO288.out (fun _ hk => ⟨hk.1.1, ⟨hk.1.2.1, ⟨hk.1.2.2.1, hk.1.2.2.2⟩⟩⟩)⟩, ⟨by apply vq; exact Kd.V_mono HO_258001.out (fun _ hk => ⟨hk.1.1, ⟨hk.1.2.1, ⟨hk.1.2.2.1, hk.1.2.2.2⟩⟩⟩)⟩, ⟨by refine bq ?_; exact BK257.out⟩, ⟨by refine bq ?_; exact BK258.out⟩, ⟨by exact wq HB.out⟩⟩
        ·
         rw [if_neg c19] at H
         exact absurd H (by simp)
       ·
        rw [if_neg c18] at H
        exact absurd H (by simp)
      ·
       rw [if_neg c15] at H
       have c15b0 : decide (0 ≤ x11_2) = false := decide_eq_false c15
       clear c15
       by_cases c44 : a0_0 = true
       ·
        subst c44
        have H1 : (if (x10_2.length : Int) > 0 then ((pointillistref01_plus.f k2 x9_2 (([1] : List Int))).bind fun t269 => (some (decide (0 < t269.length), t269))) else (some (decide (0 < x9_2.length), x9_2))) = some (r1, r2) := by rw [if_pos rfl] at H; exact H
        clear H
        have H := H1
        clear H1
        by_cases c45 : (x10_2.length : Int) > 0
        ·
         rw [if_pos c45] at H
         have c45b0 : decide (0 < (x10_2.length : Int)) = true := decide_eq_true c45
         have c45b1 : decide (0 < x10_2.length) = true := decide_eq_true (by omega)
         clear c45
         obtain ⟨y266, hy266⟩ : ∃ y_ : List Int, y_ = (([1] : List Int)) := ⟨_, rfl⟩
         replace H : ((pointillistref01_plus.f k2 x9_2 y266).bind fun t269 => (some (decide (0 < t269.length), t269))) = some (r1, r2) := by first | (rw [hy266]; with_reducible exact H) | (have H2_ := (Option.bind_some _ _).symm.trans H; rw [hy266]; with_reducible exact H2_) | (have H2_ := (Option.bind_some _ _).symm.trans H; with_reducible exact H2_) | with_reducible exact H | (rw [hy266]; exact H) | exact H
         have Ny266 := Aside0.mk hy266
         clear hy266
         replace H := Option.bind_eq_some_iff.mp H
         obtain ⟨t269, A460, H⟩ := H
         replace H : (some (decide (0 < t269.length), t269)) = some (r1, r2) := H
         have A46 := Aside0.mk A460
         clear A460
         simp only [Option.some.injEq, Prod.mk.injEq] at H
         obtain ⟨rfl, rfl⟩ := H
         have hnb47 := NB257_258.out
         have hnc47 := NB258_257.out
         have hcz48_0 : wr.cell? ⟨gb257, 0, none⟩ = some (.bool true) := (blk_cell BK257.out 0).trans rfl
         have hcz48_1 : wr.cell? ⟨gb257, 1, none⟩ = some (.slice A0_1 l0_1.length c0_1) := (blk_cell BK257.out 1).trans rfl
         have hfz48_0 := blk_frozen BK257.out 0
         have hfz48_1 := blk_frozen BK257.out 1
         obtain ⟨Ao49, co49, eo49⟩ := Kd.V_slice HO_10.out
         subst eo49
         go_wp2_with (first | ((with_reducible refine gate_dst (N := 66) rfl ?_); (try (refine gate_guard (by rfl) ?_; dsimp only)); refine Kd.R_lit (Kd.int .i64) _ 3 ?hg (N := 66) ?hd (xs := ([1] : List Int)) (inner := [.int .i64 1]) (ok := fun _ => True) (okp := fun _ => True) ?hr ?hp (fun _ hk => hk) trivial (Below.refl _ _) (Nat.le_refl _) (by simp) ?_; (case hd => rfl); (case hg => rfl); (case hr => first | (go_simp; done) | (go_simp; rfl)); (case hp => exact (Reps.one (show Kd.M (Kd.int .i64) _ _ _ 1 [.int .i64 1] from rfl) (Reps.none _ _))); intro v267 w50 ho51 hb hg_ hnew_; clear hg_ hnew_; (first | rw [← Ny266.out] at ho51 | (simp only [Int.reduceToNat] at ho51; rw [← Ny266.out] at ho51)); have n0_ := Aside0.mk (Kd.R_elder' (rq HO_5.out) (Kd.R_base ho51) hb); have n1_ := Aside0.mk (Kd.V_elder' (vq HO_9.out) (Kd.R_base ho51) hb); have n2_ := Aside0.mk (Kd.V_elder' (vq HO_10.out) (Kd.R_base ho51) hb); have n3_ := Aside0.mk (Kd.V_elder' (vq HO_258001.out) (Kd.R_base ho51) hb); have n4_ := Aside0.mk (Kd.R_lower (Kd.R_new' (Kd.R_newM (M := fun k_ => (w.heap.size ≤ k_)) ho51 (below_size (wq HB.out)) (fun k_ h_ => h_)) (Kd.R_lt (rq HO_5.out))) (below_size (wq HB.out))); have n5_ := Aside0.mk (blk_below (bq BK257.out) hb); have n6_ := Aside0.mk (blk_below (bq BK258.out) hb); have n7_ := Aside0.mk (below_step (wq HB.out) hb); clear HO_5 HO_9 HO_10 HO_258001; clear BK257 BK258 HB; have HO_5 := n0_; have HO_9 := n1_; have HO_10 := n2_; have HO_258001 := n3_; have HO268 := n4_; have BK257 := n5_; have BK258 := n6_; have HB := n7_; clear n0_ n1_ n2_ n3_ n4_ n5_ n6_ n7_ hb ho51; obtain ⟨Ao52, co52, eo52⟩ := Kd.V_slice HO_9.out; subst eo52; obtain ⟨Ao53, co53, eo53⟩ := Kd.R_slice HO268.out; subst eo53) | ((with_reducible refine gate_callee (f := 43) rfl ?_); refine goesL_ (some 67) rfl rfl Tryd.func43 (by kernel_rfl) rfl #[.slice Ao52 x9_2.length co52, .slice Ao53 y266.length co53] rfl (by (try simp only [List.map_toArray, List.map_cons, List.map_nil]); first | done | rfl | (simp only [List.length_drop, List.length_take]; rfl)) ?_; (with_reducible refine (pointillistref01_plus.calls k2 _ _ x9_2 _ _ y266 t269 _ ?side1 ?side2 ?side3 ?side4 A46.out).mono ?_); (case side1 => exact cq (Kd.V_reads' HO_9.out).2.2); (case side2 => exact (Kd.V_reads' HO_9.out).2.1); (case side3 => exact cq (Kd.R_reads' HO268.out).2.2); (case side4 => exact (Kd.R_reads' HO268.out).2.1); rintro e w54 ⟨v270, rfl, ho0, hb⟩; refine ⟨_, rfl, ?_⟩; have n0_ := Aside0.mk (Kd.R_below (rq HO_5.out) hb); have n1_ := Aside0.mk (Kd.V_below (vq HO_9.out) hb); have n2_ := Aside0.mk (Kd.V_below (vq HO_10.out) hb); have n3_ := Aside0.mk (Kd.V_below (vq HO_258001.out) hb); have n4_ := Aside0.mk (Kd.R_below (rq HO268.out) hb); have n5_ := Aside0.mk (Kd.V_lower (Kd.V_mono (ok' := fun k_ => (P0_1_ k_ ∨ w.heap.size ≤ k_) ∧ some k_ ≠ (.slice Ao14 x5_1.length co14 : Value).ownBlock ∧ some k_ ≠ (.slice Ao53 y266.length co53 : Value).ownBlock ∧ k_ ≠ gb257 ∧ k_ ≠ gb258) ho0 (fun k_ hk_ => ⟨(.inr (Nat.le_trans (below_size (wq HB.out)) hk_)), (Kd.fresh' (Kd.R_lt (rq HO_5.out)) k_ hk_), (Kd.fresh' (Kd.R_lt (rq HO268.out)) k_ hk_), (Kd.freshB (bq BK257.out) k_ hk_), (Kd.freshB (bq BK258.out) k_ hk_)⟩)) (below_size (wq HB.out))); have n6_ := Aside0.mk (blk_below (bq BK257.out) hb); have n7_ := Aside0.mk (blk_below (bq BK258.out) hb); have n8_ := Aside0.mk (below_step (wq HB.out) hb); clear HO_5 HO_9 HO_10 HO_258001; clear HO268 BK257 BK258 HB; have HO_5 := n0_; have HO_9 := n1_; have HO_10 := n2_; have HO_258001 := n3_; have HO268 := n4_; have HO271 := n5_; have BK257 := n6_; have BK258 := n7_; have HB := n8_; clear n0_ n1_ n2_ n3_ n4_ n5_ n6_ n7_ n8_; (try clear hb); (try clear hb2); (try clear hk); (try clear hi); (try clear ho0); have hcz55_0 : w54.cell? ⟨gb257, 0, none⟩ = some (.bool true) := (blk_cell BK257.out 0).trans rfl; have hcz55_1 : w54.cell? ⟨gb257, 1, none⟩ = some (.slice A0_1 l0_1.length c0_1) := (blk_cell BK257.out 1).trans rfl; have hfz55_0 := blk_frozen BK257.out 0; have hfz55_1 := blk_frozen BK257.out 1; obtain ⟨Ao56, co56, eo56⟩ := Kd.V_slice HO271.out; subst eo56; have hcz57_0 : w54.cell? ⟨gb258, 0, none⟩ = some (.bool false) := (blk_cell BK258.out 0).trans rfl; have hcz57_1 : w54.cell? ⟨gb258, 1, none⟩ = some (.slice none 0 0) := (blk_cell BK258.out 1).trans rfl; have hfz57_0 := blk_frozen BK258.out 0; have hfz57_1 := blk_frozen BK258.out 1))
         refine bodyPost_ret (results_cell_row rfl _ _ gb258 63 #[.bool (decide (0 < t269.length)), .slice Ao56 t269.length co56] (0, 0) _ rfl (by refine bq ?_; refine blk_put (cs := #[.bool (decide (0 < t269.length)), .slice none 0 0]) ?_ 1 _ rfl; refine bq ?_; refine blk_put (cs := #[.bool false, .slice none 0 0]) ?_ 0 _ rfl; refine bq ?_; exact BK258.out) Tryd.underlying63 rfl (by kernel_rfl)) rfl ?_
         exact ⟨_, by first | rfl | (simp [errW_none, errW_some] <;> rfl) | (simp [*, errW_none, errW_some] <;> rfl), by apply vq; exact Kd.V_mono (Kd.V_far (p := ⟨gb258, 1, none⟩) (Kd.V_far (p := ⟨gb258, 0, none⟩) (Kd.V_mono HO271.out (fun k_ hk => (⟨hk, hk.2.2.2.2⟩ : _ ∧ k_ ≠ gb258))) (fun _ hk => hk.2) (.bool (decide (0 < t269.length)))) (fun _ hk => hk.2) (.slice Ao56 t269.length co56)) (fun _ hk => hk.1.1), by exact wq HB.out⟩
        ·
         rw [if_neg c45] at H
         have c45b0 : decide (0 < (x10_2.length : Int)) = false := decide_eq_false c45
         have c45b1 : decide (0 < x10_2.length) = false := decide_eq_false (by omega)
         clear c45
         simp only [Option.some.injEq, Prod.mk.injEq] at H
         obtain ⟨rfl, rfl⟩ := H
         have hnb58 := NB257_258.out
         have hnc58 := NB258_257.out
         have hcz59_0 : wr.cell? ⟨gb257, 0, none⟩ = some (.bool true) := (blk_cell BK257.out 0).trans rfl
         have hcz59_1 : wr.cell? ⟨gb257, 1, none⟩ = some (.slice A0_1 l0_1.length c0_1) := (blk_cell BK257.out 1).trans rfl
         have hfz59_0 := blk_frozen BK257.out 0
         have hfz59_1 := blk_frozen BK257.out 1
         obtain ⟨Ao60, co60, eo60⟩ := Kd.V_slice HO_10.out
         subst eo60
         obtain ⟨Ao61, co61, eo61⟩ := Kd.V_slice HO_9.out
         subst eo61
         have hcz62_0 : wr.cell? ⟨gb258, 0, none⟩ = some (.bool false) := (blk_cell BK258.out 0).trans rfl
         have hcz62_1 : wr.cell? ⟨gb258, 1, none⟩ = some (.slice none 0 0) := (blk_cell BK258.out 1).trans rfl
         have hfz62_0 := blk_frozen BK258.out 0
         have hfz62_1 := blk_frozen BK258.out 1
         go_wp2
         refine bodyPost_ret (results_cell_row rfl _ _ gb258 63 #[.bool (decide (0 < x9_2.length)), .slice Ao61 x9_2.length co61] (0, 0) _ rfl (by refine bq ?_; refine blk_put (cs := #[.bool (decide (0 < x9_2.length)), .slice none 0 0]) ?_ 1 _ rfl; refine bq ?_; refine blk_put (cs := #[.bool false, .slice none 0 0]) ?_ 0 _ rfl; refine bq ?_; exact BK258.out) Tryd.underlying63 rfl (by kernel_rfl)) rfl ?_
         exact ⟨_, by first | rfl | (simp [errW_none, errW_some] <;> rfl) | (simp [*, errW_none, errW_some] <;> rfl), by apply vq; exact Kd.V_mono (Kd.V_far (p := ⟨gb258, 1, none⟩) (Kd.V_far (p := ⟨gb258, 0, none⟩) (Kd.V_mono HO_9.out (fun k_ hk => (⟨hk, hk.2.2.2⟩ : _ ∧ k_ ≠ gb258))) (fun _ hk => hk.2) (.bool (decide (0 < x9_2.length)))) (fun _ hk => hk.2) (.slice Ao61 x9_2.length co61)) (fun _ hk => hk.1.1), by exact wq HB.out⟩
       ·
        replace c44 := Bool.eq_false_iff.mpr c44
        subst c44
        have H1 : (some (false, x9_2)) = some (r1, r2) := by rw [if_neg (show ¬ (false = true) by decide)] at H; exact H
        clear H
        have H := H1
        clear H1
        simp only [Option.some.injEq, Prod.mk.injEq] at H
        obtain ⟨rfl, rfl⟩ := H
        have hnb63 := NB257_258.out
        have hnc63 := NB258_257.out
        have hcz64_0 : wr.cell? ⟨gb257, 0, none⟩ = some (.bool false) := (blk_cell BK257.out 0).trans rfl
        have hcz64_1 : wr.cell? ⟨gb257, 1, none⟩ = some (.slice A0_1 l0_1.length c0_1) := (blk_cell BK257.out 1).trans rfl
        have hfz64_0 := blk_frozen BK257.out 0
        have hfz64_1 := blk_frozen BK257.out 1
        obtain ⟨Ao65, co65, eo65⟩ := Kd.V_slice HO_9.out
        subst eo65
        have hcz66_0 : wr.cell? ⟨gb258, 0, none⟩ = some (.bool false) := (blk_cell BK258.out 0).trans rfl
        have hcz66_1 : wr.cell? ⟨gb258, 1, none⟩ = some (.slice none 0 0) := (blk_cell BK258.out 1).trans rfl
        have hfz66_0 := blk_frozen BK258.out 0
        have hfz66_1 := blk_frozen BK258.out 1
        go_wp2
        refine bodyPost_ret (results_cell_row rfl _ _ gb258 63 #[.bool false, .slice Ao65 x9_2.length co65] (0, 0) _ rfl (by refine bq ?_; refine blk_put (cs := #[.bool false, .slice none 0 0]) ?_ 1 _ rfl; refine bq ?_; refine blk_put (cs := #[.bool false, .slice none 0 0]) ?_ 0 _ rfl; refine bq ?_; exact BK258.out) Tryd.underlying63 rfl (by kernel_rfl)) rfl ?_
        exact ⟨_, by first | rfl | (simp [errW_none, errW_some] <;> rfl) | (simp [*, errW_none, errW_some] <;> rfl), by apply vq; exact Kd.V_mono (Kd.V_far (p := ⟨gb258, 1, none⟩) (Kd.V_far (p := ⟨gb258, 0, none⟩) (Kd.V_mono HO_9.out (fun k_ hk => (⟨hk, hk.2.2.2⟩ : _ ∧ k_ ≠ gb258))) (fun _ hk => hk.2) (.bool false)) (fun _ hk => hk.2) (.slice Ao65 x9_2.length co65)) (fun _ hk => hk.1.1), by exact wq HB.out⟩
def pointillistref01_Near.j0 : Nat → Bool → List Int → Bool → List Int → Option (Bool × List Int)
 | 0, _, _, _, _ => none
 | k + 1, x296000, x296001, x297000, x297001 => (pointillistref01_Add.f k x296000 x296001 x296000 x296001).bind fun bt298 => ((pointillistref01_Add.f k bt298.1 bt298.2 x297000 x297001).bind fun bt302 => ((pointillistref01_plus.f k x297001 x297001).bind fun t306 => ((pointillistref01_Floor.f k bt302.1 bt302.2 t306).bind fun bt309 => (some (bt309.1, bt309.2)))))
def pointillistref01_Near.f (k : Nat) (a0_0 : Bool) (l0_1 : List Int) (a1_0 : Bool) (l1_1 : List Int) : Option (Bool × List Int) := if a1_0 = true then (pointillistref01_Near.j0 k (!a0_0) l0_1 false l1_1) else (pointillistref01_Near.j0 k a0_0 l0_1 a1_0 l1_1)
theorem pointillistref01_Near.mono_l : ∀ k, (∀ y0 y1 y2 y3, LeO (pointillistref01_Near.j0 k y0 y1 y2 y3) (pointillistref01_Near.j0 (k + 1) y0 y1 y2 y3))
 | 0 => fun _ _ _ _ r h => by simp [pointillistref01_Near.j0] at h
 | k + 1 => by
  have ih0 := pointillistref01_Near.mono_l k
  ·
   intro y0 y1 y2 y3
   unfold pointillistref01_Near.j0
   repeat' first
   | (with_reducible exact ih0 _ _ _ _)
   | (with_reducible exact pointillistref01_Add.mono _ _ _ _ _)
   | (with_reducible exact pointillistref01_Floor.mono _ _ _ _)
   | (with_reducible exact pointillistref01_plus.mono _ _ _)
   | (with_reducible exact LeO.refl _)
   | (with_reducible exact LeO.none _)
   | (with_reducible refine LeO.ite ?_ ?_)
   | (with_reducible refine LeO.bind ?_ (fun _ => ?_))
   | exact ih0 _ _ _ _
   | exact pointillistref01_Add.mono _ _ _ _ _
   | exact pointillistref01_Floor.mono _ _ _ _
   | exact pointillistref01_plus.mono _ _ _
   | exact LeO.none _
   | refine LeO.ite ?_ ?_
   | refine LeO.bind ?_ (fun _ => ?_)
theorem pointillistref01_Near.mono : ∀ a0 a1 a2 a3 k, LeO (pointillistref01_Near.f k a0 a1 a2 a3) (pointillistref01_Near.f (k + 1) a0 a1 a2 a3) := by
 intro a0 a1 a2 a3 k
 have ih0 := pointillistref01_Near.mono_l k
 unfold pointillistref01_Near.f
 repeat' first
   | (with_reducible exact ih0 _ _ _ _)
   | (with_reducible exact pointillistref01_Add.mono _ _ _ _ _)
   | (with_reducible exact pointillistref01_Floor.mono _ _ _ _)
   | (with_reducible exact pointillistref01_plus.mono _ _ _)
   | (with_reducible exact LeO.refl _)
   | (with_reducible exact LeO.none _)
   | (with_reducible refine LeO.ite ?_ ?_)
   | (with_reducible refine LeO.bind ?_ (fun _ => ?_))
   | exact ih0 _ _ _ _
   | exact pointillistref01_Add.mono _ _ _ _ _
   | exact pointillistref01_Floor.mono _ _ _ _
   | exact pointillistref01_plus.mono _ _ _
   | exact LeO.none _
   | refine LeO.ite ?_ ?_
   | refine LeO.bind ?_ (fun _ => ?_)
def pointillistref01_Near.T4 : Bool × List (List Nat × List Nat) := (true, [([], []), ([], []), ([0, 1], [0, 1]), ([], []), ([2, 3, 2], [2, 3]), ([], []), ([5], [5]), ([], []), ([7], [7]), ([6, 8, 4], [6, 8]), ([4, 9, 9], [4, 9]), ([10, 10, 0, 1, 2, 3, 4, 5, 6, 7, 8, 9, 10], [10])])
def pointillistref01_Near.B4 : List Nat := [0, 0, 3, 0, 15, 0, 32, 0, 128, 511, 1023, 2047]
theorem pointillistref01_Near.tab4 : rtab .any (opsOf Tryd.f32 4) = pointillistref01_Near.T4 := by kernel_rfl
theorem pointillistref01_Near.bits4 : waitsOk pointillistref01_Near.T4.2 pointillistref01_Near.B4 = true := by kernel_rfl
set_option maxHeartbeats 8000000 in
set_option maxRecDepth 100000 in
theorem pointillistref01_Near.calls (k : Nat) (a0_0 : Bool) (A0_1 : Option Addr) (c0_1 : Nat) (l0_1 : List Int) (a1_0 : Bool) (A1_1 : Option Addr) (c1_1 : Nat) (l1_1 : List Int) (r1 : Bool) (r2 : List Int) (w : World) (hr0_1 : Kd.C (Kd.int .i64) w A0_1 l0_1.length l0_1) (hc0_1 : l0_1.length ≤ c0_1) (hr1_1 : Kd.C (Kd.int .i64) w A1_1 l1_1.length l1_1) (hc1_1 : l1_1.length ≤ c1_1) (h : pointillistref01_Near.f k a0_0 l0_1 a1_0 l1_1 = some (r1, r2)) :
  Calls Tryd.prog 32 #[.agg #[.bool a0_0, .slice A0_1 l0_1.length c0_1], .agg #[.bool a1_0, .slice A1_1 l1_1.length c1_1]] w fun e w' => ∃ v1_ : Value, e = .returned (.agg #[.bool r1, v1_]) ∧ Kd.V (Kd.int .i64) 3 w' w.heap.size (fun k_ => (w.heap.size ≤ k_)) v1_ r2 ∧ Below w.heap.size w w' := by
 have hu63 := Tryd.underlying63
 have HR0_1 := Aside0.mk hr0_1
 have HC0_1 := Aside0.mk hc0_1
 clear hr0_1 hc0_1
 have HR1_1 := Aside0.mk hr1_1
 have HC1_1 := Aside0.mk hc1_1
 clear hr1_1 hc1_1
 have HB := Aside0.mk (Below.refl w.heap.size w)
 have H : (if a1_0 = true then (pointillistref01_Near.j0 k (!a0_0) l0_1 false l1_1) else (pointillistref01_Near.j0 k a0_0 l0_1 a1_0 l1_1)) = some (r1, r2) := h
 clear h
 have HC3 := Aside0.mk H
 clear H
 go_enter Tryd.func32, Tryd.ntmps32
 go_upto_if 6 with (first | ((with_reducible refine gate_dst (N := 2) rfl ?_); refine box_event ?hg (N := 2) ?hd (cs := #[.bool a0_0, .slice A0_1 l0_1.length c0_1]) (t := 63) ?hr ?_; (case hd => rfl); (case hg => rfl); (case hr => first | (go_simp; done) | (go_simp; rfl)); intro gb295 hg w4 hbox hb; have n0_ := Aside0.mk (below_step (wq HB.out) hb); have n1_ := Aside0.mk (hbox); have n2_ := Aside0.mk ((by rw [hg]; exact (below_size (wq HB.out)) : w.heap.size ≤ gb295)); have n3_ := n2_; clear HB; have HB := n0_; have BK295 := n1_; have GW295 := n2_; have GE295 := n3_; clear n0_ n1_ n2_ n3_ hb hbox hg) | ((with_reducible refine gate_dst (N := 3) rfl ?_); refine box_event ?hg (N := 3) ?hd (cs := #[.bool a1_0, .slice A1_1 l1_1.length c1_1]) (t := 63) ?hr ?_; (case hd => rfl); (case hg => rfl); (case hr => first | (go_simp; done) | (go_simp; rfl)); intro gb296 hg w5 hbox hb; have n0_ := Aside0.mk (blk_below (bq BK295.out) hb); have n1_ := Aside0.mk (below_step (wq HB.out) hb); have n2_ := Aside0.mk (hbox); have n3_ := Aside0.mk ((by rw [hg]; exact (below_size (wq HB.out)) : w.heap.size ≤ gb296)); have n4_ := n3_; have n5_ := Aside0.mk ((by rw [hg]; exact Nat.ne_of_lt (blk_lt (bq BK295.out)) : gb295 ≠ gb296)); have n6_ := Aside0.mk ((by rw [hg]; exact Nat.ne_of_gt (blk_lt (bq BK295.out)) : gb296 ≠ gb295)); clear BK295 HB; have BK295 := n0_; have HB := n1_; have BK296 := n2_; have GW296 := n3_; have GE296 := n4_; have NB295_296 := n5_; have NB296_295 := n6_; clear n0_ n1_ n2_ n3_ n4_ n5_ n6_ hb hbox hg) | ((with_reducible refine gate_dst (N := 4) rfl ?_); refine box_event ?hg (N := 4) ?hd (cs := #[.bool false, .slice none 0 0]) (t := 63) ?hr ?_; (case hd => rfl); (case hg => rfl); (case hr => first | (go_simp; done) | (go_simp; rfl)); intro gb297 hg w6 hbox hb; have n0_ := Aside0.mk (blk_below (bq BK295.out) hb); have n1_ := Aside0.mk (blk_below (bq BK296.out) hb); have n2_ := Aside0.mk (below_step (wq HB.out) hb); have n3_ := Aside0.mk (hbox); have n4_ := Aside0.mk ((by rw [hg]; exact (below_size (wq HB.out)) : w.heap.size ≤ gb297)); have n5_ := n4_; have n6_ := Aside0.mk ((by rw [hg]; exact Nat.ne_of_lt (blk_lt (bq BK295.out)) : gb295 ≠ gb297)); have n7_ := Aside0.mk ((by rw [hg]; exact Nat.ne_of_gt (blk_lt (bq BK295.out)) : gb297 ≠ gb295)); have n8_ := Aside0.mk ((by rw [hg]; exact Nat.ne_of_lt (blk_lt (bq BK296.out)) : gb296 ≠ gb297)); have n9_ := Aside0.mk ((by rw [hg]; exact Nat.ne_of_gt (blk_lt (bq BK296.out)) : gb297 ≠ gb296)); clear BK295 BK296 HB; have BK295 := n0_; have BK296 := n1_; have HB := n2_; have BK297 := n3_; have GW297 := n4_; have GE297 := n5_; have NB295_297 := n6_; have NB297_295 := n7_; have NB296_297 := n8_; have NB297_296 := n9_; clear n0_ n1_ n2_ n3_ n4_ n5_ n6_ n7_ n8_ n9_ hb hbox hg; have hnb7 := NB296_295.out; have hnc7 := NB295_296.out; have hnb8 := NB296_297.out; have hnc8 := NB297_296.out; have hcz9_0 : w6.cell? ⟨gb296, 0, none⟩ = some (.bool a1_0) := (blk_cell BK296.out 0).trans rfl; have hcz9_1 : w6.cell? ⟨gb296, 1, none⟩ = some (.slice A1_1 l1_1.length c1_1) := (blk_cell BK296.out 1).trans rfl; have hfz9_0 := blk_frozen BK296.out 0; have hfz9_1 := blk_frozen BK296.out 1))
 (try simp only [apz])
 go_cut [] (fun wc => ∃ (kq : Nat) (x296000_2 : Bool) (x297000_2 : Bool), Aside0 (pointillistref01_Near.j0 kq x296000_2 l0_1 x297000_2 l1_1 = some (r1, r2)) ∧ Aside0 (kq ≤ k) ∧ Aside0 (wc.heap[gb295]? = some (.cells #[.bool x296000_2, (.slice A0_1 l0_1.length c0_1)] 63 (0, 0))) ∧ Aside0 (wc.heap[gb296]? = some (.cells #[.bool x297000_2, (.slice A1_1 l1_1.length c1_1)] 63 (0, 0))) ∧ Aside0 (wc.heap[gb297]? = some (.cells #[.bool false, (.slice none 0 0)] 63 (0, 0))) ∧ Aside0 (Below w.heap.size w wc))
 case first =>
  have H := HC3.out
  clear HC3
  by_cases c10 : a1_0 = true
  ·
   subst c10
   have H1 : (pointillistref01_Near.j0 k (!a0_0) l0_1 false l1_1) = some (r1, r2) := by rw [if_pos rfl] at H; exact H
   clear H
   have H := H1
   clear H1
   have H' := Aside0.mk H
   clear H
   have hnb11 := NB295_296.out
   have hnc11 := NB296_295.out
   have hnb12 := NB295_297.out
   have hnc12 := NB297_295.out
   have hcz13_0 : w6.cell? ⟨gb295, 0, none⟩ = some (.bool a0_0) := (blk_cell BK295.out 0).trans rfl
   have hcz13_1 : w6.cell? ⟨gb295, 1, none⟩ = some (.slice A0_1 l0_1.length c0_1) := (blk_cell BK295.out 1).trans rfl
   have hfz13_0 := blk_frozen BK295.out 0
   have hfz13_1 := blk_frozen BK295.out 1
   have hnb14 := NB296_297.out
   have hnc14 := NB297_296.out
   have hcz15_0 : w6.cell? ⟨gb296, 0, none⟩ = some (.bool true) := (blk_cell BK296.out 0).trans rfl
   have hcz15_1 : w6.cell? ⟨gb296, 1, none⟩ = some (.slice A1_1 l1_1.length c1_1) := (blk_cell BK296.out 1).trans rfl
   have hfz15_0 := blk_frozen BK296.out 0
   have hfz15_1 := blk_frozen BK296.out 1
   go_wp2
   go_meet
   case rel => exact ⟨_, (!a0_0), (false), H', ⟨by first | omega | exact Nat.le_refl _⟩, ⟨by refine bq ?_; refine blk_far ?_ NB295_296.out _; refine bq ?_; refine blk_put (cs := #[.bool a0_0, .slice A0_1 l0_1.length c0_1]) ?_ 0 _ rfl; refine bq ?_; exact BK295.out⟩, ⟨by refine bq ?_; refine blk_put (cs := #[.bool true, .slice A1_1 l1_1.length c1_1]) ?_ 0 _ rfl; refine bq ?_; refine blk_far ?_ NB296_295.out _; refine bq ?_; exact BK296.out⟩, ⟨by refine bq ?_; refine blk_far ?_ NB297_296.out _; refine bq ?_; refine blk_far ?_ NB297_295.out _; refine bq ?_; exact BK297.out⟩, ⟨by exact wq HB.out⟩⟩
  ·
   replace c10 := Bool.eq_false_iff.mpr c10
   subst c10
   have H1 : (pointillistref01_Near.j0 k a0_0 l0_1 false l1_1) = some (r1, r2) := by rw [if_neg (show ¬ (false = true) by decide)] at H; exact H
   clear H
   have H := H1
   clear H1
   have H' := Aside0.mk H
   clear H
   go_wp2
   go_meet
   case rel => exact ⟨_, (a0_0), (false), H', ⟨by first | omega | exact Nat.le_refl _⟩, ⟨by refine bq ?_; exact BK295.out⟩, ⟨by refine bq ?_; exact BK296.out⟩, ⟨by refine bq ?_; exact BK297.out⟩, ⟨by exact wq HB.out⟩⟩
 case rest =>
  clear HC3
  try clear c1
  try clear p2
  try clear c3
  try clear c7
  try clear c8
  try clear c10
  try clear c11
  try clear c12
  try clear c14
  try clear hcz13_0
  try clear hcz13_1
  try clear hcz15_0
  try clear hcz15_1
  try clear hcz9_0
  try clear hcz9_1
  try clear hfz13_0
  try clear hfz13_1
  try clear hfz15_0
  try clear hfz15_1
  try clear hfz9_0
  try clear hfz9_1
  obtain ⟨kq, x296000_2, x297000_2, HA, HJ2, BK295, BK296, BK297, HB⟩ := hcut
  cases kq with
  | zero => exact absurd HA.out (by simp [pointillistref01_Near.j0])
  | succ kj2 =>
   have H := HA.out
   clear HA
   simp only [pointillistref01_Near.j0] at H
   replace H := Option.bind_eq_some_iff.mp H
   obtain ⟨⟨t298, t299⟩, A160, H⟩ := H
   replace H : ((pointillistref01_Add.f kj2 t298 t299 x297000_2 l1_1).bind fun bt302 => ((pointillistref01_plus.f kj2 l1_1 l1_1).bind fun t306 => ((pointillistref01_Floor.f kj2 bt302.1 bt302.2 t306).bind fun bt309 => (some (bt309.1, bt309.2))))) = some (r1, r2) := H
   have A16 := Aside0.mk A160
   clear A160
   replace H := Option.bind_eq_some_iff.mp H
   obtain ⟨⟨t302, t303⟩, A170, H⟩ := H
   replace H : ((pointillistref01_plus.f kj2 l1_1 l1_1).bind fun t306 => ((pointillistref01_Floor.f kj2 t302 t303 t306).bind fun bt309 => (some (bt309.1, bt309.2)))) = some (r1, r2) := H
   have A17 := Aside0.mk A170
   clear A170
   replace H := Option.bind_eq_some_iff.mp H
   obtain ⟨t306, A180, H⟩ := H
   replace H : ((pointillistref01_Floor.f kj2 t302 t303 t306).bind fun bt309 => (some (bt309.1, bt309.2))) = some (r1, r2) := H
   have A18 := Aside0.mk A180
   clear A180
   replace H := Option.bind_eq_some_iff.mp H
   obtain ⟨⟨t309, t310⟩, A190, H⟩ := H
   replace H : (some (t309, t310)) = some (r1, r2) := H
   have A19 := Aside0.mk A190
   clear A190
   simp only [Option.some.injEq, Prod.mk.injEq] at H
   obtain ⟨rfl, rfl⟩ := H
   try go_wp2
   have n0_ := Aside0.mk (blk_drew BK295.out)
   have n1_ := Aside0.mk (blk_drew BK296.out)
   have n2_ := Aside0.mk (blk_drew BK297.out)
   have n3_ := Aside0.mk (below_drew1 HB.out)
   clear BK295 BK296 BK297 HB; have BK295 := n0_; have BK296 := n1_; have BK297 := n2_; have HB := n3_; clear n0_ n1_ n2_ n3_
   refine start_ (n := 12) (S := fun w' => w'.cell? ⟨gb295, 0, none⟩ = some (.bool x296000_2) ∧ w'.cell? ⟨gb295, 1, none⟩ = some (.slice A0_1 l0_1.length c0_1) ∧ w'.cell? ⟨gb296, 0, none⟩ = some (.bool x297000_2) ∧ w'.cell? ⟨gb296, 1, none⟩ = some (.slice A1_1 l1_1.length c1_1)) (ds := []) (bt 0 12) (by kernel_rfl) rfl rfl ⟨(blk_cell BK295.out 0).trans rfl, (blk_cell BK295.out 1).trans rfl, (blk_cell BK296.out 0).trans rfl, (blk_cell BK296.out 1).trans rfl⟩ (fun hHeld => ?_); refine with_tabW pointillistref01_Near.tab4 pointillistref01_Near.bits4 (fun HT_ HW_ => ?_)
   generalize wc.drew = w20 at BK295 BK296 BK297 HB hHeld ⊢
   refine pure_ (i := 5) (N := some 17) (v := ?_) (a' := ?_) (bm 12 32) rfl rfl (any_of HT_.out (by kernel_rfl)) (fun _ _ _ h => h) (Or.inl ⟨by rfl, ?_⟩) ?_ ?_
   rotate_left; focus (intro w'; go_simp; with_reducible rfl)
   rotate_left; focus (simp only [apz, i64_w, i32_w]; rfl)
   refine pure_ (i := 7) (N := some 19) (v := ?_) (a' := ?_) (bm 12 160) rfl rfl (any_of HT_.out (by kernel_rfl)) (fun _ _ _ h => h) (Or.inl ⟨by rfl, ?_⟩) ?_ ?_
   rotate_left; focus (intro w'; go_simp; with_reducible rfl)
   rotate_left; focus (simp only [apz, i64_w, i32_w]; rfl)
   refine take_ (i := 0) (N := some 12) (v := ?_) (a' := ?_) (bm 12 161) rfl rfl (take_ofW HT_.out HW_.out (by kernel_rfl)) (fun _ _ _ h => h) (Or.inl ⟨by rfl, ?_⟩) hHeld ?_ ?_
   rotate_left
   ·
    rintro w' ⟨s0, s1, s2, s3⟩
    go_simp
    with_reducible rfl
   rotate_left; focus (simp only [apz, i64_w, i32_w]; rfl)
   refine take_ (i := 1) (N := some 13) (v := ?_) (a' := ?_) (bm 12 163) rfl rfl (take_ofW HT_.out HW_.out (by kernel_rfl)) (fun _ _ _ h => h) (Or.inl ⟨by rfl, ?_⟩) hHeld ?_ ?_
   rotate_left
   ·
    rintro w' ⟨s0, s1, s2, s3⟩
    go_simp
    with_reducible rfl
   rotate_left; focus (simp only [apz, i64_w, i32_w]; rfl)
   refine take_ (i := 3) (N := some 15) (v := ?_) (a' := ?_) (bm 12 171) rfl rfl (take_ofW HT_.out HW_.out (by kernel_rfl)) (fun _ _ _ h => h) (Or.inl ⟨by rfl, ?_⟩) hHeld ?_ ?_
   rotate_left
   ·
    rintro w' ⟨s0, s1, s2, s3⟩
    go_simp
    with_reducible rfl
   rotate_left; focus (simp only [apz, i64_w, i32_w]; rfl)
   refine take_ (i := 6) (N := some 18) (v := ?_) (a' := ?_) (bm 12 235) rfl rfl (take_ofW HT_.out HW_.out (by kernel_rfl)) (fun _ _ _ h => h) (Or.inl ⟨by rfl, ?_⟩) hHeld ?_ ?_
   rotate_left
   ·
    rintro w' ⟨s0, s1, s2, s3⟩
    go_simp
    with_reducible rfl
   rotate_left; focus (simp only [apz, i64_w, i32_w]; rfl)
   refine take_ (i := 8) (N := some 20) (v := ?_) (a' := ?_) (bm 12 491) rfl rfl (take_ofW HT_.out HW_.out (by kernel_rfl)) (fun _ _ _ h => h) (Or.inl ⟨by rfl, ?_⟩) hHeld ?_ ?_
   rotate_left
   ·
    rintro w' ⟨s0, s1, s2, s3⟩
    go_simp
    with_reducible rfl
   rotate_left; focus (simp only [apz, i64_w, i32_w]; rfl)
   refine one_ (i := 2) (N := some 14) (bm 12 495) rfl rfl (one_of HT_.out (by kernel_rfl)) (by decide) (fun K hK => ?_)
   refine goes_ Tryd.func33 (by kernel_rfl) rfl #[.agg #[.bool x296000_2, .slice A0_1 l0_1.length c0_1], .agg #[.bool x296000_2, .slice A0_1 l0_1.length c0_1]] (by rfl) rfl rfl (by (try simp only [List.map_toArray, List.map_cons, List.map_nil]); first | done | rfl | (simp only [List.length_drop, List.length_take]; rfl)) ?_
   with_reducible refine (pointillistref01_Add.calls kj2 x296000_2 _ _ l0_1 x296000_2 _ _ l0_1 t298 t299 _ ?side1 ?side2 ?side3 ?side4 A16.out).mono ?_
   (case side1 => exact cq (Kd.C_below HR0_1.out HB.out))
   (case side2 => exact HC0_1.out)
   (case side3 => exact cq (Kd.C_below HR0_1.out HB.out))
   (case side4 => exact HC0_1.out)
   rintro e w21 ⟨v300, rfl, ho0, hb⟩
   refine ⟨_, rfl, ?_⟩
   have n0_ := Aside0.mk (Kd.V_lower (Kd.V_mono (ok' := fun k_ => (w.heap.size ≤ k_) ∧ k_ ≠ gb295 ∧ k_ ≠ gb296 ∧ k_ ≠ gb297) ho0 (fun k_ hk_ => ⟨(Nat.le_trans (below_size (wq HB.out)) hk_), (Kd.freshB (bq BK295.out) k_ hk_), (Kd.freshB (bq BK296.out) k_ hk_), (Kd.freshB (bq BK297.out) k_ hk_)⟩)) (below_size (wq HB.out)))
   have n1_ := Aside0.mk (blk_below (bq BK295.out) hb)
   have n2_ := Aside0.mk (blk_below (bq BK296.out) hb)
   have n3_ := Aside0.mk (blk_below (bq BK297.out) hb)
   have n4_ := Aside0.mk (below_step (wq HB.out) hb)
   clear BK295 BK296 BK297 HB; have HO301 := n0_; have BK295 := n1_; have BK296 := n2_; have BK297 := n3_; have HB := n4_; clear n0_ n1_ n2_ n3_ n4_
   (try clear hb)
   (try clear hb2)
   (try clear hk)
   (try clear hi)
   (try clear ho0)
   obtain ⟨Ao22, co22, eo22⟩ := Kd.V_slice HO301.out
   (first | subst eo22 | (injection eo22 with f1_ f2_ f3_; have f4_ := f1_.symm; have f5_ := f3_.symm; clear f1_ f2_ f3_; subst f4_; subst f5_))
   refine hK.out _ _ ⟨(blk_cell BK295.out 0).trans rfl, (blk_cell BK295.out 1).trans rfl, (blk_cell BK296.out 0).trans rfl, (blk_cell BK296.out 1).trans rfl⟩ (fun hHeld => ?_)
   clear hK K
   refine norm_ (a' := ?_) ?_ ?_
   rotate_left
   ·
    show Act.put _ (some 14) _ = _
    simp only [apz, i64_w, i32_w]
    rfl
   refine one_ (i := 4) (N := some 16) (bt 9 3) rfl rfl (one_of HT_.out (by kernel_rfl)) (by decide) (fun K hK => ?_)
   refine goes_ Tryd.func33 (by kernel_rfl) rfl #[.agg #[.bool t298, .slice Ao22 t299.length co22], .agg #[.bool x297000_2, .slice A1_1 l1_1.length c1_1]] (by rfl) rfl rfl (by (try simp only [List.map_toArray, List.map_cons, List.map_nil]); first | done | rfl | (simp only [List.length_drop, List.length_take]; rfl)) ?_
   with_reducible refine (pointillistref01_Add.calls kj2 t298 _ _ t299 x297000_2 _ _ l1_1 t302 t303 _ ?side1 ?side2 ?side3 ?side4 A17.out).mono ?_
   (case side1 => exact cq (Kd.V_reads' HO301.out).2.2)
   (case side2 => exact (Kd.V_reads' HO301.out).2.1)
   (case side3 => exact cq (Kd.C_below HR1_1.out HB.out))
   (case side4 => exact HC1_1.out)
   rintro e w23 ⟨v304, rfl, ho0, hb⟩
   refine ⟨_, rfl, ?_⟩
   have n0_ := Aside0.mk (Kd.V_below (vq HO301.out) hb)
   have n1_ := Aside0.mk (Kd.V_lower (Kd.V_mono (ok' := fun k_ => (w.heap.size ≤ k_) ∧ k_ ≠ gb295 ∧ k_ ≠ gb296 ∧ k_ ≠ gb297) ho0 (fun k_ hk_ => ⟨(Nat.le_trans (below_size (wq HB.out)) hk_), (Kd.freshB (bq BK295.out) k_ hk_), (Kd.freshB (bq BK296.out) k_ hk_), (Kd.freshB (bq BK297.out) k_ hk_)⟩)) (below_size (wq HB.out)))
   have n2_ := Aside0.mk (blk_below (bq BK295.out) hb)
   have n3_ := Aside0.mk (blk_below (bq BK296.out) hb)
   have n4_ := Aside0.mk (blk_below (bq BK297.out) hb)
   have n5_ := Aside0.mk (below_step (wq HB.out) hb)
   clear HO301 BK295 BK296 BK297; clear HB; have HO301 := n0_; have HO305 := n1_; have BK295 := n2_; have BK296 := n3_; have BK297 := n4_; have HB := n5_; clear n0_ n1_ n2_ n3_ n4_ n5_
   (try clear hb)
   (try clear hb2)
   (try clear hk)
   (try clear hi)
   (try clear ho0)
   refine hK.out _ _ ⟨(blk_cell BK295.out 0).trans rfl, (blk_cell BK295.out 1).trans rfl, (blk_cell BK296.out 0).trans rfl, (blk_cell BK296.out 1).trans rfl⟩ (fun hHeld => ?_)
   clear hK K
   refine norm_ (a' := ?_) ?_ ?_
   rotate_left
   ·
    show Act.put _ (some 16) _ = _
    simp only [apz, i64_w, i32_w]
    rfl
   refine one_ (i := 9) (N := some 21) (bt 10 2) rfl rfl (one_of HT_.out (by kernel_rfl)) (by decide) (fun K hK => ?_)
   refine goes_ Tryd.func43 (by kernel_rfl) rfl #[.slice A1_1 l1_1.length c1_1, .slice A1_1 l1_1.length c1_1] (by rfl) rfl rfl (by (try simp only [List.map_toArray, List.map_cons, List.map_nil]); first | done | rfl | (simp only [List.length_drop, List.length_take]; rfl)) ?_
   with_reducible refine (pointillistref01_plus.calls kj2 _ _ l1_1 _ _ l1_1 t306 _ ?side1 ?side2 ?side3 ?side4 A18.out).mono ?_
   (case side1 => exact cq (Kd.C_below HR1_1.out HB.out))
   (case side2 => exact HC1_1.out)
   (case side3 => exact cq (Kd.C_below HR1_1.out HB.out))
   (case side4 => exact HC1_1.out)
   rintro e w24 ⟨v307, rfl, ho0, hb⟩
   refine ⟨_, rfl, ?_⟩
   have n0_ := Aside0.mk (Kd.V_below (vq HO301.out) hb)
   have n1_ := Aside0.mk (Kd.V_below (vq HO305.out) hb)
   have n2_ := Aside0.mk (Kd.V_lower (Kd.V_mono (ok' := fun k_ => (w.heap.size ≤ k_) ∧ k_ ≠ gb295 ∧ k_ ≠ gb296 ∧ k_ ≠ gb297) ho0 (fun k_ hk_ => ⟨(Nat.le_trans (below_size (wq HB.out)) hk_), (Kd.freshB (bq BK295.out) k_ hk_), (Kd.freshB (bq BK296.out) k_ hk_), (Kd.freshB (bq BK297.out) k_ hk_)⟩)) (below_size (wq HB.out)))
   have n3_ := Aside0.mk (blk_below (bq BK295.out) hb)
   have n4_ := Aside0.mk (blk_below (bq BK296.out) hb)
   have n5_ := Aside0.mk (blk_below (bq BK297.out) hb)
   have n6_ := Aside0.mk (below_step (wq HB.out) hb)
   clear HO301 HO305 BK295 BK296; clear BK297 HB; have HO301 := n0_; have HO305 := n1_; have HO308 := n2_; have BK295 := n3_; have BK296 := n4_; have BK297 := n5_; have HB := n6_; clear n0_ n1_ n2_ n3_ n4_ n5_ n6_
   (try clear hb)
   (try clear hb2)
   (try clear hk)
   (try clear hi)
   (try clear ho0)
   obtain ⟨Ao25, co25, eo25⟩ := Kd.V_slice HO305.out
   (first | subst eo25 | (injection eo25 with f1_ f2_ f3_; have f4_ := f1_.symm; have f5_ := f3_.symm; clear f1_ f2_ f3_; subst f4_; subst f5_))
   obtain ⟨Ao26, co26, eo26⟩ := Kd.V_slice HO308.out
   (first | subst eo26 | (injection eo26 with f1_ f2_ f3_; have f4_ := f1_.symm; have f5_ := f3_.symm; clear f1_ f2_ f3_; subst f4_; subst f5_))
   refine hK.out _ _ ⟨(blk_cell BK295.out 0).trans rfl, (blk_cell BK295.out 1).trans rfl, (blk_cell BK296.out 0).trans rfl, (blk_cell BK296.out 1).trans rfl⟩ (fun hHeld => ?_)
   clear hK K
   refine norm_ (a' := ?_) ?_ ?_
   rotate_left
   ·
    show Act.put _ (some 21) _ = _
    simp only [apz, i64_w, i32_w]
    rfl
   refine one_ (i := 10) (N := some 22) (bt 11 1) rfl rfl (one_of HT_.out (by kernel_rfl)) (by decide) (fun K hK => ?_)
   refine goes_ Tryd.func42 (by kernel_rfl) rfl #[.agg #[.bool t302, .slice Ao25 t303.length co25], .slice Ao26 t306.length co26] (by rfl) rfl rfl (by (try simp only [List.map_toArray, List.map_cons, List.map_nil]); first | done | rfl | (simp only [List.length_drop, List.length_take]; rfl)) ?_
   with_reducible refine (pointillistref01_Floor.calls kj2 t302 (fun k_ => ((w.heap.size ≤ k_) ∧ (k_ ≠ gb295 ∧ (k_ ≠ gb296 ∧ k_ ≠ gb297)))) _ _ t303 _ _ t306 t309 t310 _ ?side1 ?side2 ?side3 A19.out).mono ?_
   (case side1 => exact HO305.out)
   (case side2 => exact cq (Kd.V_reads' HO308.out).2.2)
   (case side3 => exact (Kd.V_reads' HO308.out).2.1)
   rintro e w27 ⟨v311, rfl, ho0, hb⟩
   refine ⟨_, rfl, ?_⟩
   have n0_ := Aside0.mk (Kd.V_below (vq HO301.out) hb)
   have n1_ := Aside0.mk (Kd.V_below (vq HO305.out) hb)
   have n2_ := Aside0.mk (Kd.V_below (vq HO308.out) hb)
   have n3_ := Aside0.mk (Kd.V_lower (Kd.V_mono (ok' := fun k_ => (w.heap.size ≤ k_) ∧ k_ ≠ gb295 ∧ k_ ≠ gb296 ∧ k_ ≠ gb297) ho0 (fun k_ hk_ => ⟨Or.elim hk_ (fun hs_ => hs_.1) (fun hn_ => (Nat.le_trans (below_size (wq HB.out)) hn_)), Or.elim hk_ (fun hs_ => hs_.2.1) (fun hn_ => (Kd.freshB (bq BK295.out) k_ hn_)), Or.elim hk_ (fun hs_ => hs_.2.2.1) (fun hn_ => (Kd.freshB (bq BK296.out) k_ hn_)), Or.elim hk_ (fun hs_ => hs_.2.2.2) (fun hn_ => (Kd.freshB (bq BK297.out) k_ hn_))⟩)) (below_size (wq HB.out)))
   have n4_ := Aside0.mk (blk_below (bq BK295.out) hb)
   have n5_ := Aside0.mk (blk_below (bq BK296.out) hb)
   have n6_ := Aside0.mk (blk_below (bq BK297.out) hb)
   have n7_ := Aside0.mk (below_step (wq HB.out) hb)
   clear HO301 HO305 HO308 BK295; clear BK296 BK297 HB; have HO301 := n0_; have HO305 := n1_; have HO308 := n2_; have HO312 := n3_; have BK295 := n4_; have BK296 := n5_; have BK297 := n6_; have HB := n7_; clear n0_ n1_ n2_ n3_ n4_ n5_ n6_ n7_
   (try clear hb)
   (try clear hb2)
   (try clear hk)
   (try clear hi)
   (try clear ho0)
   obtain ⟨Ao29, co29, eo29⟩ := Kd.V_slice HO312.out
   (first | subst eo29 | (injection eo29 with f1_ f2_ f3_; have f4_ := f1_.symm; have f5_ := f3_.symm; clear f1_ f2_ f3_; subst f4_; subst f5_))
   refine hK.out _ _ ⟨(blk_cell BK295.out 0).trans rfl, (blk_cell BK295.out 1).trans rfl, (blk_cell BK296.out 0).trans rfl, (blk_cell BK296.out 1).trans rfl⟩ (fun hHeld => ?_)
   clear hK K
   refine norm_ (a' := ?_) ?_ ?_
   rotate_left
   ·
    show Act.put _ (some 22) _ = _
    simp only [apz, i64_w, i32_w]
    rfl
   refine one_ (i := 11) (N := none) (bt 12 0) rfl rfl (one_of HT_.out (by kernel_rfl)) (by decide) (fun K hK => ?_)
   have hs28 : w27.cell? ⟨gb297, 0, none⟩ = some (.bool false) := (blk_cell BK297.out 0).trans rfl
   have hfs28 := blk_frozen BK297.out 0
   have hns28_0 := NB295_297.out
   have hns28_1 := NB296_297.out
   have hms28_0 := NB297_295.out
   have hms28_1 := NB297_296.out
   have hs30 : w27.cell? ⟨gb297, 1, none⟩ = some (.slice none 0 0) := (blk_cell BK297.out 1).trans rfl
   have hfs30 := blk_frozen BK297.out 1
   have hns30_0 := NB295_297.out
   have hns30_1 := NB296_297.out
   have hms30_0 := NB297_295.out
   have hms30_1 := NB297_296.out
   refine skip_ (w1 := ?_) (by rfl) rfl ?_ ?_
   rotate_left
   ·
    go_simp
    rfl
   refine hK.out _ _ ⟨(cf NB295_297.out ((cf NB295_297.out (hHeld.1)))), (cf NB295_297.out ((cf NB295_297.out (hHeld.2.1)))), (cf NB296_297.out ((cf NB296_297.out (hHeld.2.2.1)))), (cf NB296_297.out ((cf NB296_297.out (hHeld.2.2.2))))⟩ (fun hHeld => ?_)
   clear hK K
   refine done_ (done_of HT_.out (by kernel_rfl)) ?_
   try go_wp2
   refine bodyPost_ret (results_cell_row rfl _ _ gb297 63 #[.bool t309, .slice Ao29 t310.length co29] (0, 0) _ rfl (by refine bq ?_; refine blk_put (cs := #[.bool t309, .slice none 0 0]) ?_ 1 _ rfl; refine bq ?_; refine blk_put (cs := #[.bool false, .slice none 0 0]) ?_ 0 _ rfl; refine bq ?_; exact BK297.out) Tryd.underlying63 rfl (by kernel_rfl)) rfl ?_
   exact ⟨_, by first | rfl | (simp [errW_none, errW_some] <;> rfl) | (simp [*, errW_none, errW_some] <;> rfl), by apply vq; exact Kd.V_mono (Kd.V_far (p := ⟨gb297, 1, none⟩) (Kd.V_far (p := ⟨gb297, 0, none⟩) (Kd.V_mono HO312.out (fun k_ hk => (⟨hk, hk.2.2.2⟩ : _ ∧ k_ ≠ gb297))) (fun _ hk => hk.2) (.bool t309)) (fun _ hk => hk.2) (.slice Ao29 t310.length co29)) (fun _ hk => hk.1.1), by exact wq HB.out⟩
end Go.Proofs.YtbnjgaeeojcjbaaDoor.PR
namespace Go.Proofs.YtbnjgaeeojcjbaaDoor.PR
open Go.RowKit Go.Proofs.YtbnjgaeeojcjbaaDoorW.PrintWords Go.Proofs.YtbnjgaeeojcjbaaDoorW.PrintLast Go.Proofs.YtbnjgaeeojcjbaaDoorW.PrintMore
attribute [local go_sem] max2_int min2_int max_two min_two max_three min_three max_four min_four
set_option linter.unusedVariables false
set_option linter.unusedSimpArgs false
mutual
def pointillistref01_Mul.l0 : Nat → List Int → Int → Bool → List Int → Bool → List Int → Option (Bool × List Int)
 | 0, _, _, _, _, _, _ => none
 | k + 1, x5, x6, x314000, x314001, x315000, x315001 => if x6 < (x314001.length : Int) then (if 0 ≤ x6 then (if (x6 : Int).toNat ≤ 35184372088832 then (pointillistref01_Mul.l1 k x5 x6 (List.replicate (x6 : Int).toNat 0) 0 0 x314000 x314001 x315000 x315001) else (none)) else (none)) else (some ((x314000 != x315000), x5))
def pointillistref01_Mul.l1 : Nat → List Int → Int → List Int → Int → Int → Bool → List Int → Bool → List Int → Option (Bool × List Int)
 | 0, _, _, _, _, _, _, _, _, _ => none
 | k + 1, x5, x6, x7, x8, x9, x314000, x314001, x315000, x315001 => if x9 < (x315001.length : Int) then (pointillistref01_Mul.j2 k x5 x6 x7 x8 x9 true x314000 x314001 x315000 x315001) else (pointillistref01_Mul.j2 k x5 x6 x7 x8 x9 (decide (x8 > 0)) x314000 x314001 x315000 x315001)
def pointillistref01_Mul.j2 : Nat → List Int → Int → List Int → Int → Int → Bool → Bool → List Int → Bool → List Int → Option (Bool × List Int)
 | 0, _, _, _, _, _, _, _, _, _, _ => none
 | k + 1, x5, x6, x7, x8, x9, x28, x314000, x314001, x315000, x315001 => if x28 = true then (if x9 < (x315001.length : Int) then (if 0 ≤ x6 then (if x6 < (x314001.length : Int) then (if 0 ≤ x9 then (if x7.length < 17592186044416 then (pointillistref01_Mul.l1 k x5 x6 (x7 ++ [Int.tmod (wrap64 (x8 + (wrap64 ((rd x314001 x6) * (rd x315001 x9))))) 65536]) (wrap64 (Int.tdiv (wrap64 (x8 + (wrap64 ((rd x314001 x6) * (rd x315001 x9))))) 65536)) (wrap64 (x9 + 1)) x314000 x314001 x315000 x315001) else (none)) else (none)) else (none)) else (none)) else (if x7.length < 17592186044416 then (pointillistref01_Mul.l1 k x5 x6 (x7 ++ [Int.tmod x8 65536]) (wrap64 (Int.tdiv x8 65536)) (wrap64 (x9 + 1)) x314000 x314001 x315000 x315001) else (none))) else ((pointillistref01_trim.f k x7).bind fun t327 => ((pointillistref01_plus.f k x5 t327).bind fun t330 => (pointillistref01_Mul.l0 k t330 (wrap64 (x6 + 1)) x314000 x314001 x315000 x315001)))
end
def pointillistref01_Mul.f (k : Nat) (a0_0 : Bool) (l0_1 : List Int) (a1_0 : Bool) (l1_1 : List Int) : Option (Bool × List Int) := pointillistref01_Mul.l0 k ([] : List Int) 0 a0_0 l0_1 a1_0 l1_1
theorem pointillistref01_Mul.mono_l : ∀ k, (∀ y0 y1 y2 y3 y4 y5, LeO (pointillistref01_Mul.l0 k y0 y1 y2 y3 y4 y5) (pointillistref01_Mul.l0 (k + 1) y0 y1 y2 y3 y4 y5)) ∧ (∀ y0 y1 y2 y3 y4 y5 y6 y7 y8, LeO (pointillistref01_Mul.l1 k y0 y1 y2 y3 y4 y5 y6 y7 y8) (pointillistref01_Mul.l1 (k + 1) y0 y1 y2 y3 y4 y5 y6 y7 y8)) ∧ (∀ y0 y1 y2 y3 y4 y5 y6 y7 y8 y9, LeO (pointillistref01_Mul.j2 k y0 y1 y2 y3 y4 y5 y6 y7 y8 y9) (pointillistref01_Mul.j2 (k + 1) y0 y1 y2 y3 y4 y5 y6 y7 y8 y9))
 | 0 => ⟨fun _ _ _ _ _ _ r h => by simp [pointillistref01_Mul.l0] at h, fun _ _ _ _ _ _ _ _ _ r h => by simp [pointillistref01_Mul.l1] at h, fun _ _ _ _ _ _ _ _ _ _ r h => by simp [pointillistref01_Mul.j2] at h⟩
 | k + 1 => by
  obtain ⟨ih0, ih1, ih2⟩ := pointillistref01_Mul.mono_l k
  refine ⟨?_, ?_, ?_⟩
  ·
   intro y0 y1 y2 y3 y4 y5
   unfold pointillistref01_Mul.l0
   repeat' first
   | (with_reducible exact ih0 _ _ _ _ _ _)
   | (with_reducible exact ih1 _ _ _ _ _ _ _ _ _)
   | (with_reducible exact ih2 _ _ _ _ _ _ _ _ _ _)
   | (with_reducible exact pointillistref01_plus.mono _ _ _)
   | (with_reducible exact pointillistref01_trim.mono _ _)
   | (with_reducible exact LeO.refl _)
   | (with_reducible exact LeO.none _)
   | (with_reducible refine LeO.ite ?_ ?_)
   | (with_reducible refine LeO.bind ?_ (fun _ => ?_))
   | exact ih0 _ _ _ _ _ _
   | exact ih1 _ _ _ _ _ _ _ _ _
   | exact ih2 _ _ _ _ _ _ _ _ _ _
   | exact pointillistref01_plus.mono _ _ _
   | exact pointillistref01_trim.mono _ _
   | exact LeO.none _
   | refine LeO.ite ?_ ?_
   | refine LeO.bind ?_ (fun _ => ?_)
  ·
   intro y0 y1 y2 y3 y4 y5 y6 y7 y8
   unfold pointillistref01_Mul.l1
   repeat' first
   | (with_reducible exact ih0 _ _ _ _ _ _)
   | (with_reducible exact ih1 _ _ _ _ _ _ _ _ _)
   | (with_reducible exact ih2 _ _ _ _ _ _ _ _ _ _)
   | (with_reducible exact pointillistref01_plus.mono _ _ _)
   | (with_reducible exact pointillistref01_trim.mono _ _)
   | (with_reducible exact LeO.refl _)
   | (with_reducible exact LeO.none _)
   | (with_reducible refine LeO.ite ?_ ?_)
   | (with_reducible refine LeO.bind ?_ (fun _ => ?_))
   | exact ih0 _ _ _ _ _ _
   | exact ih1 _ _ _ _ _ _ _ _ _
   | exact ih2 _ _ _ _ _ _ _ _ _ _
   | exact pointillistref01_plus.mono _ _ _
   | exact pointillistref01_trim.mono _ _
   | exact LeO.none _
   | refine LeO.ite ?_ ?_
   | refine LeO.bind ?_ (fun _ => ?_)
  ·
   intro y0 y1 y2 y3 y4 y5 y6 y7 y8 y9
   unfold pointillistref01_Mul.j2
   repeat' first
   | (with_reducible exact ih0 _ _ _ _ _ _)
   | (with_reducible exact ih1 _ _ _ _ _ _ _ _ _)
   | (with_reducible exact ih2 _ _ _ _ _ _ _ _ _ _)
   | (with_reducible exact pointillistref01_plus.mono _ _ _)
   | (with_reducible exact pointillistref01_trim.mono _ _)
   | (with_reducible exact LeO.refl _)
   | (with_reducible exact LeO.none _)
   | (with_reducible refine LeO.ite ?_ ?_)
   | (with_reducible refine LeO.bind ?_ (fun _ => ?_))
   | exact ih0 _ _ _ _ _ _
   | exact ih1 _ _ _ _ _ _ _ _ _
   | exact ih2 _ _ _ _ _ _ _ _ _ _
   | exact pointillistref01_plus.mono _ _ _
   | exact pointillistref01_trim.mono _ _
   | exact LeO.none _
   | refine LeO.ite ?_ ?_
   | refine LeO.bind ?_ (fun _ => ?_)
theorem pointillistref01_Mul.mono : ∀ a0 a1 a2 a3 k, LeO (pointillistref01_Mul.f k a0 a1 a2 a3) (pointillistref01_Mul.f (k + 1) a0 a1 a2 a3) := by
 intro a0 a1 a2 a3 k
 obtain ⟨ih0, ih1, ih2⟩ := pointillistref01_Mul.mono_l k
 unfold pointillistref01_Mul.f
 repeat' first
   | (with_reducible exact ih0 _ _ _ _ _ _)
   | (with_reducible exact ih1 _ _ _ _ _ _ _ _ _)
   | (with_reducible exact ih2 _ _ _ _ _ _ _ _ _ _)
   | (with_reducible exact pointillistref01_plus.mono _ _ _)
   | (with_reducible exact pointillistref01_trim.mono _ _)
   | (with_reducible exact LeO.refl _)
   | (with_reducible exact LeO.none _)
   | (with_reducible refine LeO.ite ?_ ?_)
   | (with_reducible refine LeO.bind ?_ (fun _ => ?_))
   | exact ih0 _ _ _ _ _ _
   | exact ih1 _ _ _ _ _ _ _ _ _
   | exact ih2 _ _ _ _ _ _ _ _ _ _
   | exact pointillistref01_plus.mono _ _ _
   | exact pointillistref01_trim.mono _ _
   | exact LeO.none _
   | refine LeO.ite ?_ ?_
   | refine LeO.bind ?_ (fun _ => ?_)
end Go.Proofs.YtbnjgaeeojcjbaaDoor.PR
