/- The row and the card of the law DecParses: for every input it answers true, and each argument reads behind the call as before. The listed package-level variables read as the program's text lays them (tied by the given tie). -/
import Derived.ArgAppend
import Derived.Below
import Derived.BigQuiet
import Derived.ChangeOld
import Derived.Deep.AppendLies
import Derived.Deep.CutBlock
import Derived.Deep.DeepCutAuto
import Derived.Deep.Draws
import Derived.Deep.LoopGhost
import Derived.Deep.OwnRows
import Derived.Deep.QuietTactic
import Derived.Deep.RegionHeld3
import Derived.KernelRfl
import Derived.LaidMore
import Derived.Laws.Bits64
import Derived.Laws.BitsAllLaws
import Derived.Laws.BitsLemmas
import Derived.Laws.BytesArg
import Derived.Laws.Externs
import Derived.Laws.IdiomCopy
import Derived.Laws.MakeOwn
import Derived.Laws.OwnMore
import Derived.Laws.Rows
import Derived.Laws.Slices
import Derived.Laws.StructEq
import Derived.Laws.World
import Derived.Lib.AppendStr
import Derived.Lib.ConvBytes
import Derived.Lib.Mul64
import Derived.Maps.AppendAt
import Derived.OpenShut
import Derived.OrdersHeld
import Derived.OwnWalk
import Derived.ProofKit
import Derived.RowKit
import Derived.RowKit3
import Derived.SevenTiedAt
import Derived.ShutString
import Derived.SizedLaws
import Derived.Stop.Joined
import Derived.Tactics
import Derived.WalkKit
import Derived.WalkLawsBesides
import Derived.WideLaws
import Derived.Test.YtfpnglgipchjhaaDoorCards
import Derived.Test.YtfpnglgipchjhaaDoorLen64
import Derived.Test.YtfpnglgipchjhaaDoorProg
import Derived.Test.YtfpnglgipchjhaaDoorRows
import Derived.Test.YtfpnglgipchjhaaDoorTie
import Derived.Test.YtfpnglgipchjhaaDoorZa0
import Derived.Test.YtfpnglgipchjhaaDoorZa1
import Derived.Test.YtfpnglgipchjhaaDoorZa2
import Derived.Test.YtfpnglgipchjhaaDoorZa3
-- What this claim needs of the words, the printed walks and this session's texts (merged and cut by wip/prune.py).
namespace Go.Proofs.YtfpnglgipchjhaaDoor.PR
open Go.RowKit Go.Proofs.YtfpnglgipchjhaaDoorW.PrintWords Go.Proofs.YtfpnglgipchjhaaDoorW.PrintLast Go.Proofs.YtfpnglgipchjhaaDoorW.PrintMore
attribute [local go_sem] max2_int min2_int max_two min_two max_three min_three max_four min_four
set_option linter.unusedVariables false
set_option linter.unusedSimpArgs false
set_option maxHeartbeats 8000000 in
set_option maxRecDepth 100000 in
theorem pointillistref04_Read.calls (k : Nat) (a0 : ByteArray) (r1 : Bool) (r2 : Bool) (r3 : List Int) (r4 : Int) (w : World) (h : pointillistref04_Read.f k a0 = some (r1, r2, r3, r4)) :
  Calls Tryd.prog 37 #[.string a0] w fun e w' => ∃ v2_ : Value, e = .returned (.agg #[.bool r1, .bool r2, v2_, .int .i64 r4]) ∧ Kd.V (Kd.int .i64) 3 w' w.heap.size (fun k_ => (w.heap.size ≤ k_)) v2_ r3 ∧ Below w.heap.size w w' := by
 have hu71 := Tryd.underlying71
 have hu69 := Tryd.underlying69
 have HB := Aside0.mk (Below.refl w.heap.size w)
 have H : ((pointillistref04_sign.f a0 0).bind fun t240 => (if t240 = true then (if 0 < (a0.size : Int) then (pointillistref04_Read.j0 k a0 (0 + 1) ((bt a0 0) == 45) false 0) else (none)) else (pointillistref04_Read.j0 k a0 0 false false 0))) = some (r1, r2, r3, r4) := h
 clear h
 replace H := Option.bind_eq_some_iff.mp H
 obtain ⟨t240, A20, H⟩ := H
 replace H : (if t240 = true then (if 0 < (a0.size : Int) then (pointillistref04_Read.j0 k a0 (0 + 1) ((bt a0 0) == 45) false 0) else (none)) else (pointillistref04_Read.j0 k a0 0 false false 0)) = some (r1, r2, r3, r4) := H
 have A2 := Aside0.mk A20
 clear A20
 have HC3 := Aside0.mk H
 clear H
 go_enter Tryd.func37, Tryd.ntmps37
 go_upto_if 11 with (first | ((with_reducible refine gate_dst (N := 2) rfl ?_); refine box_event ?hg (N := 2) ?hd (cs := #[.bool false, .bool false, .slice none 0 0, .int .i64 0]) (t := 71) ?hr ?_; (case hd => rfl); (case hg => rfl); (case hr => first | (go_simp; done) | (go_simp; rfl)); intro gb238 hg w4 hbox hb; have n0_ := Aside0.mk (below_step (wq HB.out) hb); have n1_ := Aside0.mk (hbox); have n2_ := Aside0.mk ((by rw [hg]; exact (below_size (wq HB.out)) : w.heap.size ≤ gb238)); have n3_ := n2_; clear HB; have HB := n0_; have BK238 := n1_; have GW238 := n2_; have GE238 := n3_; clear n0_ n1_ n2_ n3_ hb hbox hg) | ((with_reducible refine gate_dst (N := 3) rfl ?_); refine box_event ?hg (N := 3) ?hd (cs := #[.bool false, .bool false, .slice none 0 0, .int .i64 0]) (t := 71) ?hr ?_; (case hd => rfl); (case hg => rfl); (case hr => first | (go_simp; done) | (go_simp; rfl)); intro gb239 hg w5 hbox hb; have n0_ := Aside0.mk (blk_below (bq BK238.out) hb); have n1_ := Aside0.mk (below_step (wq HB.out) hb); have n2_ := Aside0.mk (hbox); have n3_ := Aside0.mk ((by rw [hg]; exact (below_size (wq HB.out)) : w.heap.size ≤ gb239)); have n4_ := n3_; have n5_ := Aside0.mk ((by rw [hg]; exact Nat.ne_of_lt (blk_lt (bq BK238.out)) : gb238 ≠ gb239)); have n6_ := Aside0.mk ((by rw [hg]; exact Nat.ne_of_gt (blk_lt (bq BK238.out)) : gb239 ≠ gb238)); clear BK238 HB; have BK238 := n0_; have HB := n1_; have BK239 := n2_; have GW239 := n3_; have GE239 := n4_; have NB238_239 := n5_; have NB239_238 := n6_; clear n0_ n1_ n2_ n3_ n4_ n5_ n6_ hb hbox hg) | ((with_reducible refine gate_callee (f := 48) rfl ?_); refine goesL_ (some 11) rfl rfl Tryd.func48 (by kernel_rfl) rfl #[.string a0, .int .i64 0] rfl (by (try simp only [List.map_toArray, List.map_cons, List.map_nil]); first | done | rfl | (simp only [List.length_drop, List.length_take]; rfl)) ?_; (with_reducible refine (pointillistref04_sign.calls a0 0 t240 _ A2.out).mono ?_); rintro e w' ⟨rfl, ⟨nd, rfl⟩⟩; refine ⟨_, rfl, ?_⟩))
 (try simp only [apz])
 go_cut [4] (fun v4 wc => ∃ (kq : Nat) (x4_2 : Int) (x240000_2 : Bool), v4 = .int .i64 x4_2 ∧ Aside0 (pointillistref04_Read.j0 kq a0 x4_2 x240000_2 false 0 = some (r1, r2, r3, r4)) ∧ Aside0 (kq ≤ k) ∧ Aside0 (wc.heap[gb238]? = some (.cells #[.bool false, .bool false, (.slice none 0 0), .int .i64 0] 71 (0, 0))) ∧ Aside0 (wc.heap[gb239]? = some (.cells #[.bool x240000_2, .bool false, (.slice none 0 0), .int .i64 0] 71 (0, 0))) ∧ Aside0 (Below w.heap.size w wc))
 case first =>
  have H := HC3.out
  clear HC3
  by_cases c6 : t240 = true
  ·
   subst c6
   have H1 : (if 0 < (a0.size : Int) then (pointillistref04_Read.j0 k a0 (0 + 1) ((bt a0 0) == 45) false 0) else (none)) = some (r1, r2, r3, r4) := by rw [if_pos rfl] at H; exact H
   clear H
   have H := H1
   clear H1
   by_cases c7 : 0 < (a0.size : Int)
   ·
    rw [if_pos c7] at H
    have c7b0 : decide (0 < (a0.size : Int)) = true := decide_eq_true c7
    have c7b1 : decide (0 < a0.size) = true := decide_eq_true (by omega)
    clear c7
    (first | rw [c7b0] | (simp only [i64_w, i32_w]; rw [c7b0]) | skip)
    have H' := Aside0.mk H
    clear H
    have p8 : 0 ≤ (0 : Int) := (by omega)
    have q8 : 0 < a0.size := (by have : (0 : Int) < (a0.size : Int) := of_decide_eq_true (by first | (with_reducible assumption) | assumption); omega)
    have hx8 : ∀ h : 0 < a0.size, ((a0[0]'h).toNat : Int) = bt a0 0 := bt_at a0 0
    clear p8
    have qi8 : (0 < (a0.size : Int)) = True := eq_true (of_decide_eq_true (by first | (with_reducible assumption) | assumption))
    replace q8 := eq_true q8
    have hnb9 := NB239_238.out
    have hnc9 := NB238_239.out
    have hcz10_0 : w5.cell? ⟨gb239, 0, none⟩ = some (.bool false) := (blk_cell BK239.out 0).trans rfl
    have hcz10_1 : w5.cell? ⟨gb239, 1, none⟩ = some (.bool false) := (blk_cell BK239.out 1).trans rfl
    have hcz10_2 : w5.cell? ⟨gb239, 2, none⟩ = some (.slice none 0 0) := (blk_cell BK239.out 2).trans rfl
    have hcz10_3 : w5.cell? ⟨gb239, 3, none⟩ = some (.int .i64 0) := (blk_cell BK239.out 3).trans rfl
    have hfz10_0 := blk_frozen BK239.out 0
    have hfz10_1 := blk_frozen BK239.out 1
    have hfz10_2 := blk_frozen BK239.out 2
    have hfz10_3 := blk_frozen BK239.out 3
    go_wp2
    go_meet
    case rel => exact ⟨_, (0 + 1), (((bt a0 0) == 45)), (by first | rfl | (simp; done) | (simp [*]; done)), H', ⟨by first | omega | exact Nat.le_refl _⟩, ⟨by refine bq ?_; refine blk_far ?_ NB238_239.out _; refine bq ?_; exact BK238.out⟩, ⟨by refine bq ?_; refine blk_put (cs := #[.bool false, .bool false, .slice none 0 0, .int .i64 0]) ?_ 0 _ rfl; refine bq ?_; exact BK239.out⟩, ⟨by exact wq HB.out⟩⟩
   ·
    rw [if_neg c7] at H
    exact absurd H (by simp)
  ·
   replace c6 := Bool.eq_false_iff.mpr c6
   subst c6
   have H1 : (pointillistref04_Read.j0 k a0 0 false false 0) = some (r1, r2, r3, r4) := by rw [if_neg (show ¬ (false = true) by decide)] at H; exact H
   clear H
   have H := H1
   clear H1
   have H' := Aside0.mk H
   clear H
   go_wp2
   go_meet
   case rel => exact ⟨_, (0), (false), (by first | rfl | (simp; done) | (simp [*]; done)), H', ⟨by first | omega | exact Nat.le_refl _⟩, ⟨by refine bq ?_; exact BK238.out⟩, ⟨by refine bq ?_; exact BK239.out⟩, ⟨by exact wq HB.out⟩⟩
 case rest =>
  clear HC3
  try clear p2
  try clear c3
  try clear c4
  try clear c6
  try clear c7
  try clear c7b0
  try clear c7b1
  try clear p8
  try clear q8
  try clear hx8
  try clear qi8
  try clear c9
  try clear hcz10_0
  try clear hcz10_1
  try clear hcz10_2
  try clear hcz10_3
  try clear hfz10_0
  try clear hfz10_1
  try clear hfz10_2
  try clear hfz10_3
  try clear p8
  try clear q8
  obtain ⟨kq, x4_2, x240000_2, rfl, HA, HJ2, BK238, BK239, HB⟩ := hcut
  cases kq with
  | zero => exact absurd HA.out (by simp [pointillistref04_Read.j0])
  | succ kj2 =>
   have H := HA.out
   clear HA
   simp only [pointillistref04_Read.j0] at H
   have H' := Aside0.mk H
   clear H
   go_wp2
   go_loopg [4, 5, 6] kj2 (fun kq v4 v5 v6 w' => ∃ (x4_2 : Int) (x5_2 : Int) (x6_2 : Bool) (x240001_2 : Bool) (x240002_2 : List Int) (u240002 : Value), v4 = .int .i64 x4_2 ∧ v5 = .int .i64 x5_2 ∧ v6 = .bool x6_2 ∧ Aside0 (pointillistref04_Read.l0 kq a0 x4_2 x5_2 x6_2 x240000_2 x240001_2 x240002_2 0 = some (r1, r2, r3, r4)) ∧ Aside0 (kq ≤ kj2) ∧ Aside0 (Kd.V (Kd.int .i64) 3 w' w.heap.size (fun k_ => (w.heap.size ≤ k_) ∧ k_ ≠ gb238 ∧ k_ ≠ gb239) u240002 x240002_2) ∧ Aside0 (w'.heap[gb238]? = some (.cells #[.bool false, .bool false, (.slice none 0 0), .int .i64 0] 71 (0, 0))) ∧ Aside0 (w'.heap[gb239]? = some (.cells #[.bool x240000_2, .bool x240001_2, u240002, .int .i64 0] 71 (0, 0))) ∧ Aside0 (Below w.heap.size w w'))
   case atStart => exact ⟨(x4_2), (0), (false), (false), (([] : List Int)), (.slice none 0 0), (by first | rfl | (simp; done) | (simp [*]; done)), (by first | rfl | (simp; done) | (simp [*]; done)), (by first | rfl | (simp; done) | (simp [*]; done)), H', ⟨Nat.le_refl _⟩, ⟨Kd.V_nil _ _ _ _ _⟩, ⟨by refine bq ?_; exact BK238.out⟩, ⟨by refine bq ?_; exact BK239.out⟩, ⟨by exact wq HB.out⟩⟩
   case round =>
    clear H'
    try clear p2
    try clear c3
    try clear c4
    try clear c6
    try clear c7
    try clear c7b0
    try clear c7b1
    try clear p8
    try clear q8
    try clear hx8
    try clear qi8
    try clear c9
    try clear hcz10_0
    try clear hcz10_1
    try clear hcz10_2
    try clear hcz10_3
    try clear hfz10_0
    try clear hfz10_1
    try clear hfz10_2
    try clear hfz10_3
    try clear p2
    try clear p8
    try clear q8
    obtain ⟨x4_2, x5_2, x6_2, x240001_2, x240002_2, u240002, rfl, rfl, rfl, HA, HK2, HO_240002, BK238, BK239, HB⟩ := hrel
    cases gk with
    | zero => exact absurd HA.out (by simp [pointillistref04_Read.l0])
    | succ k2 =>
     have H := HA.out
     clear HA
     simp only [pointillistref04_Read.l0] at H
     have HC11 := Aside0.mk H
     clear H
     go_upto_region 8 with (fail)
     go_cut [34] (fun v34 wc => ∃ (kq : Nat) (x34_10 : Bool), v34 = .bool x34_10 ∧ Aside0 (pointillistref04_Read.j2 kq a0 x4_2 x5_2 x6_2 x34_10 x240000_2 x240001_2 x240002_2 0 = some (r1, r2, r3, r4)) ∧ Aside0 (kq ≤ k2) ∧ Aside0 (Kd.V (Kd.int .i64) 3 wc w.heap.size (fun k_ => (w.heap.size ≤ k_) ∧ k_ ≠ gb238 ∧ k_ ≠ gb239) u240002 x240002_2) ∧ Aside0 (wc.heap[gb238]? = some (.cells #[.bool false, .bool false, (.slice none 0 0), .int .i64 0] 71 (0, 0))) ∧ Aside0 (wc.heap[gb239]? = some (.cells #[.bool x240000_2, .bool x240001_2, u240002, .int .i64 0] 71 (0, 0))) ∧ Aside0 (Below w.heap.size w wc))
     case first =>
      have H := HC11.out
      clear HC11
      by_cases c12 : x4_2 < (a0.size : Int)
      ·
       rw [if_pos c12] at H
       have c12b0 : decide (x4_2 < (a0.size : Int)) = true := decide_eq_true c12
       clear c12
       (first | rw [c12b0] | (simp only [i64_w, i32_w]; rw [c12b0]) | skip)
       by_cases c13 : 0 ≤ x4_2
       ·
        rw [if_pos c13] at H
        have c13b0 : decide (0 ≤ x4_2) = true := decide_eq_true c13
        clear c13
        by_cases c15 : (bt a0 x4_2) = 101
        ·
         rw [if_pos c15] at H
         have c15b0 : ((bt a0 x4_2) == 101) = true := beq_iff_eq.mpr c15
         have c15b1 : ((bt a0 x4_2) != 101) = false := bne_eq_false_iff_eq.mpr c15
         clear c15
         have H' := Aside0.mk H
         clear H
         have p14 : 0 ≤ (x4_2 : Int) := of_decide_eq_true (by first | (with_reducible assumption) | assumption)
         have q14 : x4_2 < (a0.size : Int) := of_decide_eq_true (by first | (with_reducible assumption) | assumption)
         have hx14 := bt_at a0 x4_2
         replace p14 := eq_true p14
         replace q14 := eq_true q14
         go_wp2
         go_meet
         case rel => exact ⟨_, (false), (by first | rfl | (simp; done) | (simp [*]; done)), H', ⟨by have := HJ2.out; have := HK2.out; first | omega | exact Nat.le_refl _⟩, ⟨by apply vq; exact HO_240002.out⟩, ⟨by refine bq ?_; exact BK238.out⟩, ⟨by refine bq ?_; exact BK239.out⟩, ⟨by exact wq HB.out⟩⟩
        ·
         rw [if_neg c15] at H
         have c15b0 : ((bt a0 x4_2) == 101) = false := beq_eq_false_iff_ne.mpr c15
         have c15b1 : ((bt a0 x4_2) != 101) = true := bne_iff_ne.mpr c15
         have H' := Aside0.mk H
         clear H
         have p14 : 0 ≤ (x4_2 : Int) := of_decide_eq_true (by first | (with_reducible assumption) | assumption)
         have q14 : x4_2 < (a0.size : Int) := of_decide_eq_true (by first | (with_reducible assumption) | assumption)
         have hx14 := bt_at a0 x4_2
         replace p14 := eq_true p14
         replace q14 := eq_true q14
         have p16 : 0 ≤ (x4_2 : Int) := of_decide_eq_true (by first | (with_reducible assumption) | assumption)
         have q16 : x4_2 < (a0.size : Int) := of_decide_eq_true (by first | (with_reducible assumption) | assumption)
         have hx16 := bt_at a0 x4_2
         replace p16 := eq_true p16
         replace q16 := eq_true q16
         go_wp2
         go_meet
         case rel => exact ⟨_, (((bt a0 x4_2) != 69)), (by first | rfl | (simp; done) | (simp [*]; done)), H', ⟨by have := HJ2.out; have := HK2.out; first | omega | exact Nat.le_refl _⟩, ⟨by apply vq; exact HO_240002.out⟩, ⟨by refine bq ?_; exact BK238.out⟩, ⟨by refine bq ?_; exact BK239.out⟩, ⟨by exact wq HB.out⟩⟩
       ·
        rw [if_neg c13] at H
        exact absurd H (by simp)
      ·
       rw [if_neg c12] at H
       have c12b0 : decide (x4_2 < (a0.size : Int)) = false := decide_eq_false c12
       clear c12
       (first | rw [c12b0] | (simp only [i64_w, i32_w]; rw [c12b0]) | skip)
       have H' := Aside0.mk H
       clear H
       go_wp2
       go_meet
       case rel => exact ⟨_, (false), (by first | rfl | (simp; done) | (simp [*]; done)), H', ⟨by have := HJ2.out; have := HK2.out; first | omega | exact Nat.le_refl _⟩, ⟨by apply vq; exact HO_240002.out⟩, ⟨by refine bq ?_; exact BK238.out⟩, ⟨by refine bq ?_; exact BK239.out⟩, ⟨by exact wq HB.out⟩⟩
     case rest =>
      clear HC11
      try clear c1
      try clear p1
      try clear q1
      try clear hx1
      try clear p2
      try clear c3
      try clear c4
      try clear c6
      try clear c7
      try clear c7b0
      try clear c7b1
      try clear p8
      try clear q8
      try clear hx8
      try clear qi8
      try clear c9
      try clear c12
      try clear c12b0
      try clear c13
      try clear c13b0
      try clear p14
      try clear q14
      try clear hx14
      try clear c15
      try clear c15b0
      try clear c15b1
      try clear p16
      try clear q16
      try clear hx16
      try clear hcz10_0
      try clear hcz10_1
      try clear hcz10_2
      try clear hcz10_3
      try clear hfz10_0
      try clear hfz10_1
      try clear hfz10_2
      try clear hfz10_3
      try clear p14
      try clear p16
      try clear p2
      try clear p8
      try clear q14
      try clear q16
      try clear q8
      obtain ⟨kq, x34_10, rfl, HA, HJ10, HO_240002, BK238, BK239, HB⟩ := hcut
      cases kq with
      | zero => exact absurd HA.out (by simp [pointillistref04_Read.j2])
      | succ kj10 =>
       have H := HA.out
       clear HA
       simp only [pointillistref04_Read.j2] at H
       by_cases c17 : x34_10 = true
       ·
        subst c17
        have H1 : (if 0 ≤ x4_2 then (if x4_2 < (a0.size : Int) then (if (bt a0 x4_2) = 46 then (pointillistref04_Read.l0 kj10 a0 (wrap64 (x4_2 + 1)) x5_2 true x240000_2 x240001_2 x240002_2 0) else ((pointillistref04_small.f kj10 10).bind fun bt241 => ((pointillistref01_Mul.f kj10 x240001_2 x240002_2 bt241.1 bt241.2).bind fun bt245 => ((pointillistref04_small.f kj10 (((bt a0 x4_2) - 48) % 256)).bind fun bt249 => ((pointillistref01_Add.f kj10 bt245.1 bt245.2 bt249.1 bt249.2).bind fun bt253 => (if x6_2 = true then (pointillistref04_Read.l0 kj10 a0 (wrap64 (x4_2 + 1)) (wrap64 (x5_2 + 1)) x6_2 x240000_2 bt253.1 bt253.2 0) else (pointillistref04_Read.l0 kj10 a0 (wrap64 (x4_2 + 1)) x5_2 x6_2 x240000_2 bt253.1 bt253.2 0))))))) else (none)) else (none)) = some (r1, r2, r3, r4) := by rw [if_pos rfl] at H; exact H
        clear H
        have H := H1
        clear H1
        by_cases c18 : 0 ≤ x4_2
        ·
         rw [if_pos c18] at H
         have c18b0 : decide (0 ≤ x4_2) = true := decide_eq_true c18
         clear c18
         by_cases c19 : x4_2 < (a0.size : Int)
         ·
          rw [if_pos c19] at H
          have c19b0 : decide (x4_2 < (a0.size : Int)) = true := decide_eq_true c19
          clear c19
          by_cases c21 : (bt a0 x4_2) = 46
          ·
           rw [if_pos c21] at H
           have c21b0 : ((bt a0 x4_2) == 46) = true := beq_iff_eq.mpr c21
           have c21b1 : ((bt a0 x4_2) != 46) = false := bne_eq_false_iff_eq.mpr c21
           clear c21
           have H' := Aside0.mk H
           clear H
           have p20 : 0 ≤ (x4_2 : Int) := of_decide_eq_true (by first | (with_reducible assumption) | assumption)
           have q20 : x4_2 < (a0.size : Int) := of_decide_eq_true (by first | (with_reducible assumption) | assumption)
           have hx20 := bt_at a0 x4_2
           replace p20 := eq_true p20
           replace q20 := eq_true q20
           go_wp2
           go_roundg kj10
           case measure => have := HJ2.out; have := HK2.out; have := HJ10.out; omega
           case rel => exact ⟨(wrap64 (x4_2 + 1)), (x5_2), (true), (x240001_2), (x240002_2), (u240002), (by first | rfl | (simp; done) | (simp [*]; done)), (by first | rfl | (simp; done) | (simp [*]; done)), (by first | rfl | (simp; done) | (simp [*]; done)), H', ⟨by have := HJ2.out; have := HK2.out; have := HJ10.out; omega⟩, ⟨by apply vq; exact HO_240002.out⟩, ⟨by refine bq ?_; exact BK238.out⟩, ⟨by refine bq ?_; exact BK239.out⟩, ⟨by exact wq HB.out⟩⟩
          ·
           rw [if_neg c21] at H
           have c21b0 : ((bt a0 x4_2) == 46) = false := beq_eq_false_iff_ne.mpr c21
           have c21b1 : ((bt a0 x4_2) != 46) = true := bne_iff_ne.mpr c21
           replace H := Option.bind_eq_some_iff.mp H
           obtain ⟨⟨t241, t242⟩, A220, H⟩ := H
           replace H : ((pointillistref01_Mul.f kj10 x240001_2 x240002_2 t241 t242).bind fun bt245 => ((pointillistref04_small.f kj10 (((bt a0 x4_2) - 48) % 256)).bind fun bt249 => ((pointillistref01_Add.f kj10 bt245.1 bt245.2 bt249.1 bt249.2).bind fun bt253 => (if x6_2 = true then (pointillistref04_Read.l0 kj10 a0 (wrap64 (x4_2 + 1)) (wrap64 (x5_2 + 1)) x6_2 x240000_2 bt253.1 bt253.2 0) else (pointillistref04_Read.l0 kj10 a0 (wrap64 (x4_2 + 1)) x5_2 x6_2 x240000_2 bt253.1 bt253.2 0))))) = some (r1, r2, r3, r4) := H
           have A22 := Aside0.mk A220
           clear A220
           replace H := Option.bind_eq_some_iff.mp H
           obtain ⟨⟨t245, t246⟩, A230, H⟩ := H
           replace H : ((pointillistref04_small.f kj10 (((bt a0 x4_2) - 48) % 256)).bind fun bt249 => ((pointillistref01_Add.f kj10 t245 t246 bt249.1 bt249.2).bind fun bt253 => (if x6_2 = true then (pointillistref04_Read.l0 kj10 a0 (wrap64 (x4_2 + 1)) (wrap64 (x5_2 + 1)) x6_2 x240000_2 bt253.1 bt253.2 0) else (pointillistref04_Read.l0 kj10 a0 (wrap64 (x4_2 + 1)) x5_2 x6_2 x240000_2 bt253.1 bt253.2 0)))) = some (r1, r2, r3, r4) := H
           have A23 := Aside0.mk A230
           clear A230
           replace H := Option.bind_eq_some_iff.mp H
           obtain ⟨⟨t249, t250⟩, A250, H⟩ := H
           replace H : ((pointillistref01_Add.f kj10 t245 t246 t249 t250).bind fun bt253 => (if x6_2 = true then (pointillistref04_Read.l0 kj10 a0 (wrap64 (x4_2 + 1)) (wrap64 (x5_2 + 1)) x6_2 x240000_2 bt253.1 bt253.2 0) else (pointillistref04_Read.l0 kj10 a0 (wrap64 (x4_2 + 1)) x5_2 x6_2 x240000_2 bt253.1 bt253.2 0))) = some (r1, r2, r3, r4) := H
           have A25 := Aside0.mk A250
           clear A250
           replace H := Option.bind_eq_some_iff.mp H
           obtain ⟨⟨t253, t254⟩, A260, H⟩ := H
           replace H : (if x6_2 = true then (pointillistref04_Read.l0 kj10 a0 (wrap64 (x4_2 + 1)) (wrap64 (x5_2 + 1)) x6_2 x240000_2 t253 t254 0) else (pointillistref04_Read.l0 kj10 a0 (wrap64 (x4_2 + 1)) x5_2 x6_2 x240000_2 t253 t254 0)) = some (r1, r2, r3, r4) := H
           have A26 := Aside0.mk A260
           clear A260
           by_cases c27 : x6_2 = true
           ·
            subst c27
            have H1 : (pointillistref04_Read.l0 kj10 a0 (wrap64 (x4_2 + 1)) (wrap64 (x5_2 + 1)) true x240000_2 t253 t254 0) = some (r1, r2, r3, r4) := by rw [if_pos rfl] at H; exact H
            clear H
            have H := H1
            clear H1
            have H' := Aside0.mk H
            clear H
            have p20 : 0 ≤ (x4_2 : Int) := of_decide_eq_true (by first | (with_reducible assumption) | assumption)
            have q20 : x4_2 < (a0.size : Int) := of_decide_eq_true (by first | (with_reducible assumption) | assumption)
            have hx20 := bt_at a0 x4_2
            replace p20 := eq_true p20
            replace q20 := eq_true q20
            try go_wp2
            have n0_ := Aside0.mk (Kd.V_drew HO_240002.out)
            have n1_ := Aside0.mk (blk_drew BK238.out)
            have n2_ := Aside0.mk (blk_drew BK239.out)
            have n3_ := Aside0.mk (below_drew1 HB.out)
            clear HO_240002 BK238 BK239 HB; have HO_240002 := n0_; have BK238 := n1_; have BK239 := n2_; have HB := n3_; clear n0_ n1_ n2_ n3_
            have p24 : 0 ≤ (x4_2 : Int) := of_decide_eq_true (by first | (with_reducible assumption) | assumption)
            have q24 : x4_2 < (a0.size : Int) := of_decide_eq_true (by first | (with_reducible assumption) | assumption)
            have hx24 := bt_at a0 x4_2
            replace p24 := eq_true p24
            replace q24 := eq_true q24
            refine start_ (n := 13) (S := fun w' => w'.cell? ⟨gb239, 0, none⟩ = some (.bool x240000_2) ∧ w'.cell? ⟨gb239, 1, none⟩ = some (.bool x240001_2) ∧ w'.cell? ⟨gb239, 2, none⟩ = some (u240002) ∧ w'.cell? ⟨gb239, 3, none⟩ = some (.int .i64 0)) (ds := [12]) (bmk 0 13) (by kernel_rfl) rfl rfl ⟨(blk_cell BK239.out 0).trans rfl, (blk_cell BK239.out 1).trans rfl, (blk_cell BK239.out 2).trans rfl, (blk_cell BK239.out 3).trans rfl⟩ (fun hHeld => ?_); refine with_tabW pointillistref04_Read.tab12 pointillistref04_Read.bits12 (fun HT_ HW_ => ?_)
            generalize wc.drew = w28 at HO_240002 BK238 BK239 HB hHeld ⊢
            refine pure_ (i := 0) (N := some 41) (v := ?_) (a' := ?_) (bmk 1 12) rfl rfl (any_of HT_.out (by kernel_rfl)) (fun _ _ _ h => h) (Or.inl ⟨by rfl, ?_⟩) ?_ ?_
            rotate_left; focus (intro w'; go_simp; with_reducible rfl)
            rotate_left; focus (simp only [apz, i64_w, i32_w]; rfl)
            refine pure_ (i := 4) (N := some 45) (v := ?_) (a' := ?_) (bm 13 17) rfl rfl (any_of HT_.out (by kernel_rfl)) (fun _ _ _ h => h) (Or.inl ⟨by rfl, ?_⟩) ?_ ?_
            rotate_left; focus (intro w'; go_simp; with_reducible rfl)
            rotate_left; focus (simp only [apz, i64_w, i32_w]; rfl)
            refine pure_ (i := 5) (N := some 46) (v := ?_) (a' := ?_) (bm 13 49) rfl rfl (any_of HT_.out (by kernel_rfl)) (fun _ _ _ h => h) (Or.inl ⟨by rfl, ?_⟩) ?_ ?_
            rotate_left; focus (intro w'; go_simp; with_reducible rfl)
            rotate_left; focus (simp only [apz, i64_w, i32_w]; rfl)
            refine take_ (i := 1) (N := some 42) (v := ?_) (a' := ?_) (bm 13 51) rfl rfl (take_ofW HT_.out HW_.out (by kernel_rfl)) (fun _ _ _ h => h) (Or.inl ⟨by rfl, ?_⟩) hHeld ?_ ?_
            rotate_left
            ·
             rintro w' ⟨s0, s1, s2, s3⟩
             go_simp
             with_reducible rfl
            rotate_left; focus (simp only [apz, i64_w, i32_w]; rfl)
            refine take_ (i := 6) (N := some 47) (v := ?_) (a' := ?_) (bm 13 115) rfl rfl (take_ofW HT_.out HW_.out (by kernel_rfl)) (fun _ _ _ h => h) (Or.inl ⟨by rfl, ?_⟩) hHeld ?_ ?_
            rotate_left
            ·
             rintro w' ⟨s0, s1, s2, s3⟩
             go_simp
             with_reducible rfl
            rotate_left; focus (simp only [apz, i64_w, i32_w]; rfl)
            refine pure_ (i := 7) (N := some 48) (v := ?_) (a' := ?_) (bm 13 243) rfl rfl (any_of HT_.out (by kernel_rfl)) (fun _ _ _ h => h) (Or.inl ⟨by rfl, ?_⟩) ?_ ?_
            rotate_left; focus (intro w'; go_simp; with_reducible rfl)
            rotate_left; focus (simp only [apz, i64_w, i32_w]; rfl)
            refine pure_ (i := 8) (N := some 49) (v := ?_) (a' := ?_) (bm 13 499) rfl rfl (any_of HT_.out (by kernel_rfl)) (fun _ _ _ h => h) (Or.inl ⟨by rfl, ?_⟩) ?_ ?_
            rotate_left; focus (intro w'; go_simp; with_reducible rfl)
            rotate_left; focus (simp only [apz, i64_w, i32_w]; rfl)
            refine one_ (i := 2) (N := some 43) (bm 13 503) rfl rfl (one_of HT_.out (by kernel_rfl)) (by decide) (fun K hK => ?_)
            refine goes_ Tryd.func39 (by kernel_rfl) rfl #[.int .i64 10] (by rfl) rfl rfl (by (try simp only [List.map_toArray, List.map_cons, List.map_nil]); first | done | rfl | (simp only [List.length_drop, List.length_take]; rfl)) ?_
            with_reducible refine (pointillistref04_small.calls kj10 10 t241 t242 _ A22.out).mono ?_
            rintro e w29 ⟨v243, rfl, ho0, hb⟩
            refine ⟨_, rfl, ?_⟩
            have n0_ := Aside0.mk (Kd.V_below (vq HO_240002.out) hb)
            have n1_ := Aside0.mk (Kd.V_lower (Kd.V_mono (ok' := fun k_ => (w.heap.size ≤ k_) ∧ k_ ≠ gb238 ∧ k_ ≠ gb239) ho0 (fun k_ hk_ => ⟨(Nat.le_trans (below_size (wq HB.out)) hk_), (Kd.freshB (bq BK238.out) k_ hk_), (Kd.freshB (bq BK239.out) k_ hk_)⟩)) (below_size (wq HB.out)))
            have n2_ := Aside0.mk (blk_below (bq BK238.out) hb)
            have n3_ := Aside0.mk (blk_below (bq BK239.out) hb)
            have n4_ := Aside0.mk (below_step (wq HB.out) hb)
            clear HO_240002 BK238 BK239 HB; have HO_240002 := n0_; have HO244 := n1_; have BK238 := n2_; have BK239 := n3_; have HB := n4_; clear n0_ n1_ n2_ n3_ n4_
            (try clear hb)
            (try clear hb2)
            (try clear hk)
            (try clear hi)
            (try clear ho0)
            obtain ⟨Ao30, co30, eo30⟩ := Kd.V_slice HO_240002.out
            (first | subst eo30 | (injection eo30 with f1_ f2_ f3_; have f4_ := f1_.symm; have f5_ := f3_.symm; clear f1_ f2_ f3_; subst f4_; subst f5_))
            obtain ⟨Ao31, co31, eo31⟩ := Kd.V_slice HO244.out
            (first | subst eo31 | (injection eo31 with f1_ f2_ f3_; have f4_ := f1_.symm; have f5_ := f3_.symm; clear f1_ f2_ f3_; subst f4_; subst f5_))
            refine hK.out _ _ ⟨(blk_cell BK239.out 0).trans rfl, (blk_cell BK239.out 1).trans rfl, (blk_cell BK239.out 2).trans rfl, (blk_cell BK239.out 3).trans rfl⟩ (fun hHeld => ?_)
            clear hK K
            refine norm_ (a' := ?_) ?_ ?_
            rotate_left
            ·
             show Act.put _ (some 43) _ = _
             simp only [apz, i64_w, i32_w]
             rfl
            refine one_ (i := 3) (N := some 44) (bmk 9 4) rfl rfl (one_of HT_.out (by kernel_rfl)) (by decide) (fun K hK => ?_)
            refine goes_ Tryd.func38 (by kernel_rfl) rfl #[.agg #[.bool x240001_2, .slice Ao30 x240002_2.length co30], .agg #[.bool t241, .slice Ao31 t242.length co31]] (by rfl) rfl rfl (by (try simp only [List.map_toArray, List.map_cons, List.map_nil]); first | done | rfl | (simp only [List.length_drop, List.length_take]; rfl)) ?_
            with_reducible refine (pointillistref01_Mul.calls kj10 x240001_2 _ _ x240002_2 t241 _ _ t242 t245 t246 _ ?side1 ?side2 ?side3 ?side4 A23.out).mono ?_
            (case side1 => exact cq (Kd.V_reads' HO_240002.out).2.2)
            (case side2 => exact (Kd.V_reads' HO_240002.out).2.1)
            (case side3 => exact cq (Kd.V_reads' HO244.out).2.2)
            (case side4 => exact (Kd.V_reads' HO244.out).2.1)
            rintro e w32 ⟨v247, rfl, ho0, hb⟩
            refine ⟨_, rfl, ?_⟩
            have n0_ := Aside0.mk (Kd.V_below (vq HO_240002.out) hb)
            have n1_ := Aside0.mk (Kd.V_below (vq HO244.out) hb)
            have n2_ := Aside0.mk (Kd.V_lower (Kd.V_mono (ok' := fun k_ => (w.heap.size ≤ k_) ∧ k_ ≠ gb238 ∧ k_ ≠ gb239) ho0 (fun k_ hk_ => ⟨(Nat.le_trans (below_size (wq HB.out)) hk_), (Kd.freshB (bq BK238.out) k_ hk_), (Kd.freshB (bq BK239.out) k_ hk_)⟩)) (below_size (wq HB.out)))
            have n3_ := Aside0.mk (blk_below (bq BK238.out) hb)
            have n4_ := Aside0.mk (blk_below (bq BK239.out) hb)
            have n5_ := Aside0.mk (below_step (wq HB.out) hb)
            clear HO_240002 HO244 BK238 BK239; clear HB; have HO_240002 := n0_; have HO244 := n1_; have HO248 := n2_; have BK238 := n3_; have BK239 := n4_; have HB := n5_; clear n0_ n1_ n2_ n3_ n4_ n5_
            (try clear hb)
            (try clear hb2)
            (try clear hk)
            (try clear hi)
            (try clear ho0)
            refine hK.out _ _ ⟨(blk_cell BK239.out 0).trans rfl, (blk_cell BK239.out 1).trans rfl, (blk_cell BK239.out 2).trans rfl, (blk_cell BK239.out 3).trans rfl⟩ (fun hHeld => ?_)
            clear hK K
            refine norm_ (a' := ?_) ?_ ?_
            rotate_left
            ·
             show Act.put _ (some 44) _ = _
             simp only [apz, i64_w, i32_w]
             rfl
            refine one_ (i := 9) (N := some 50) (bmk 10 3) rfl rfl (one_of HT_.out (by kernel_rfl)) (by decide) (fun K hK => ?_)
            refine goes_ Tryd.func39 (by kernel_rfl) rfl #[.int .i64 (((bt a0 x4_2) - 48) % 256)] (by rfl) rfl rfl (by (try simp only [List.map_toArray, List.map_cons, List.map_nil]); first | done | rfl | (simp only [List.length_drop, List.length_take]; rfl) | (go_simp; simp only [w64u8])) ?_
            with_reducible refine (pointillistref04_small.calls kj10 (((bt a0 x4_2) - 48) % 256) t249 t250 _ A25.out).mono ?_
            rintro e w33 ⟨v251, rfl, ho0, hb⟩
            refine ⟨_, rfl, ?_⟩
            have n0_ := Aside0.mk (Kd.V_below (vq HO_240002.out) hb)
            have n1_ := Aside0.mk (Kd.V_below (vq HO244.out) hb)
            have n2_ := Aside0.mk (Kd.V_below (vq HO248.out) hb)
            have n3_ := Aside0.mk (Kd.V_lower (Kd.V_mono (ok' := fun k_ => (w.heap.size ≤ k_) ∧ k_ ≠ gb238 ∧ k_ ≠ gb239) ho0 (fun k_ hk_ => ⟨(Nat.le_trans (below_size (wq HB.out)) hk_), (Kd.freshB (bq BK238.out) k_ hk_), (Kd.freshB (bq BK239.out) k_ hk_)⟩)) (below_size (wq HB.out)))
            have n4_ := Aside0.mk (blk_below (bq BK238.out) hb)
            have n5_ := Aside0.mk (blk_below (bq BK239.out) hb)
            have n6_ := Aside0.mk (below_step (wq HB.out) hb)
            clear HO_240002 HO244 HO248 BK238; clear BK239 HB; have HO_240002 := n0_; have HO244 := n1_; have HO248 := n2_; have HO252 := n3_; have BK238 := n4_; have BK239 := n5_; have HB := n6_; clear n0_ n1_ n2_ n3_ n4_ n5_ n6_
            (try clear hb)
            (try clear hb2)
            (try clear hk)
            (try clear hi)
            (try clear ho0)
            obtain ⟨Ao34, co34, eo34⟩ := Kd.V_slice HO248.out
            (first | subst eo34 | (injection eo34 with f1_ f2_ f3_; have f4_ := f1_.symm; have f5_ := f3_.symm; clear f1_ f2_ f3_; subst f4_; subst f5_))
            obtain ⟨Ao35, co35, eo35⟩ := Kd.V_slice HO252.out
            (first | subst eo35 | (injection eo35 with f1_ f2_ f3_; have f4_ := f1_.symm; have f5_ := f3_.symm; clear f1_ f2_ f3_; subst f4_; subst f5_))
            refine hK.out _ _ ⟨(blk_cell BK239.out 0).trans rfl, (blk_cell BK239.out 1).trans rfl, (blk_cell BK239.out 2).trans rfl, (blk_cell BK239.out 3).trans rfl⟩ (fun hHeld => ?_)
            clear hK K
            refine norm_ (a' := ?_) ?_ ?_
            rotate_left
            ·
             show Act.put _ (some 50) _ = _
             simp only [apz, i64_w, i32_w]
             rfl
            refine one_ (i := 10) (N := some 51) (bmk 11 2) rfl rfl (one_of HT_.out (by kernel_rfl)) (by decide) (fun K hK => ?_)
            refine goes_ Tryd.func50 (by kernel_rfl) rfl #[.agg #[.bool t245, .slice Ao34 t246.length co34], .agg #[.bool t249, .slice Ao35 t250.length co35]] (by rfl) rfl rfl (by (try simp only [List.map_toArray, List.map_cons, List.map_nil]); first | done | rfl | (simp only [List.length_drop, List.length_take]; rfl)) ?_
            with_reducible refine (pointillistref01_Add.calls kj10 t245 _ _ t246 t249 _ _ t250 t253 t254 _ ?side1 ?side2 ?side3 ?side4 A26.out).mono ?_
            (case side1 => exact cq (Kd.V_reads' HO248.out).2.2)
            (case side2 => exact (Kd.V_reads' HO248.out).2.1)
            (case side3 => exact cq (Kd.V_reads' HO252.out).2.2)
            (case side4 => exact (Kd.V_reads' HO252.out).2.1)
            rintro e w36 ⟨v255, rfl, ho0, hb⟩
            refine ⟨_, rfl, ?_⟩
            have n0_ := Aside0.mk (Kd.V_below (vq HO_240002.out) hb)
            have n1_ := Aside0.mk (Kd.V_below (vq HO244.out) hb)
            have n2_ := Aside0.mk (Kd.V_below (vq HO248.out) hb)
            have n3_ := Aside0.mk (Kd.V_below (vq HO252.out) hb)
            have n4_ := Aside0.mk (Kd.V_lower (Kd.V_mono (ok' := fun k_ => (w.heap.size ≤ k_) ∧ k_ ≠ gb238 ∧ k_ ≠ gb239) ho0 (fun k_ hk_ => ⟨(Nat.le_trans (below_size (wq HB.out)) hk_), (Kd.freshB (bq BK238.out) k_ hk_), (Kd.freshB (bq BK239.out) k_ hk_)⟩)) (below_size (wq HB.out)))
            have n5_ := Aside0.mk (blk_below (bq BK238.out) hb)
            have n6_ := Aside0.mk (blk_below (bq BK239.out) hb)
            have n7_ := Aside0.mk (below_step (wq HB.out) hb)
            clear HO_240002 HO244 HO248 HO252; clear BK238 BK239 HB; have HO_240002 := n0_; have HO244 := n1_; have HO248 := n2_; have HO252 := n3_; have HO256 := n4_; have BK238 := n5_; have BK239 := n6_; have HB := n7_; clear n0_ n1_ n2_ n3_ n4_ n5_ n6_ n7_
            (try clear hb)
            (try clear hb2)
            (try clear hk)
            (try clear hi)
            (try clear ho0)
            obtain ⟨Ao38, co38, eo38⟩ := Kd.V_slice HO256.out
            (first | subst eo38 | (injection eo38 with f1_ f2_ f3_; have f4_ := f1_.symm; have f5_ := f3_.symm; clear f1_ f2_ f3_; subst f4_; subst f5_))
            refine hK.out _ _ ⟨(blk_cell BK239.out 0).trans rfl, (blk_cell BK239.out 1).trans rfl, (blk_cell BK239.out 2).trans rfl, (blk_cell BK239.out 3).trans rfl⟩ (fun hHeld => ?_)
            clear hK K
            refine norm_ (a' := ?_) ?_ ?_
            rotate_left
            ·
             show Act.put _ (some 51) _ = _
             simp only [apz, i64_w, i32_w]
             rfl
            refine pure_ (i := 11) (N := some 52) (v := ?_) (a' := ?_) (bmk 12 1) rfl rfl (any_of HT_.out (by kernel_rfl)) (fun _ _ _ h => h) (Or.inl ⟨by rfl, ?_⟩) ?_ ?_
            rotate_left; focus (intro w'; go_simp; with_reducible rfl)
            rotate_left; focus (simp only [apz, i64_w, i32_w]; rfl)
            refine last_ (i := 12) (N := none) (bmk 13 0) rfl rfl (one_of HT_.out (by kernel_rfl)) (by decide) (fun K hK => ?_)
            have hs37 : w36.cell? ⟨gb239, 1, none⟩ = some (.bool x240001_2) := (blk_cell BK239.out 1).trans rfl
            have hfs37 := blk_frozen BK239.out 1
            have hns37_0 := NB238_239.out
            have hms37_0 := NB239_238.out
            have hs39 : w36.cell? ⟨gb239, 2, none⟩ = some (.slice Ao30 x240002_2.length co30) := (blk_cell BK239.out 2).trans rfl
            have hfs39 := blk_frozen BK239.out 2
            have hns39_0 := NB238_239.out
            have hms39_0 := NB239_238.out
            refine skip_ (w1 := ?_) (by rfl) rfl ?_ ?_
            rotate_left
            ·
             go_simp
             rfl
            refine hK.out _ _ ?_
            clear hK K
            refine done_ (done_of HT_.out (by kernel_rfl)) ?_
            try go_wp2
            go_roundg kj10
            case measure => have := HJ2.out; have := HK2.out; have := HJ10.out; omega
            case rel => exact ⟨(wrap64 (x4_2 + 1)), (wrap64 (x5_2 + 1)), (true), (t253), (t254), (.slice Ao38 t254.length co38), (by first | rfl | (simp; done) | (simp [*]; done)), (by first | rfl | (simp; done) | (simp [*]; done)), (by first | rfl | (simp; done) | (simp [*]; done)), H', ⟨by have := HJ2.out; have := HK2.out; have := HJ10.out; omega⟩, ⟨by apply vq; exact Kd.V_mono (Kd.V_far (p := ⟨gb239, 2, none⟩) (Kd.V_far (p := ⟨gb239, 1, none⟩) (Kd.V_mono HO256.out (fun k_ hk => (⟨hk, hk.2.2⟩ : _ ∧ k_ ≠ gb239))) (fun _ hk => hk.2) (.bool t253)) (fun _ hk => hk.2) (.slice Ao38 t254.length co38)) (fun _ hk => ⟨hk.1.1, ⟨hk.1.2.1, hk.1.2.2⟩⟩)⟩, ⟨by refine bq ?_; refine blk_far ?_ NB238_239.out _; refine bq ?_; refine blk_far ?_ NB238_239.out _; refine bq ?_; exact BK238.out⟩, ⟨by refine bq ?_; refine blk_put (cs := #[.bool x240000_2, .bool t253, .slice Ao30 x240002_2.length co30, .int .i64 0]) ?_ 2 _ rfl; refine bq ?_; refine blk_put (cs := #[.bool x240000_2, .bool x240001_2, .slice Ao30 x240002_2.length co30, .int .i64 0]) ?_ 1 _ rfl; refine bq ?_; exact BK239.out⟩, ⟨by exact wq HB.out⟩⟩
           ·
            replace c27 := Bool.eq_false_iff.mpr c27
            subst c27
            have H1 : (pointillistref04_Read.l0 kj10 a0 (wrap64 (x4_2 + 1)) x5_2 false x240000_2 t253 t254 0) = some (r1, r2, r3, r4) := by rw [if_neg (show ¬ (false = true) by decide)] at H; exact H
            clear H
            have H := H1
            clear H1
            have H' := Aside0.mk H
            clear H
            have p20 : 0 ≤ (x4_2 : Int) := of_decide_eq_true (by first | (with_reducible assumption) | assumption)
            have q20 : x4_2 < (a0.size : Int) := of_decide_eq_true (by first | (with_reducible assumption) | assumption)
            have hx20 := bt_at a0 x4_2
            replace p20 := eq_true p20
            replace q20 := eq_true q20
            try go_wp2
            have n0_ := Aside0.mk (Kd.V_drew HO_240002.out)
            have n1_ := Aside0.mk (blk_drew BK238.out)
            have n2_ := Aside0.mk (blk_drew BK239.out)
            have n3_ := Aside0.mk (below_drew1 HB.out)
            clear HO_240002 BK238 BK239 HB; have HO_240002 := n0_; have BK238 := n1_; have BK239 := n2_; have HB := n3_; clear n0_ n1_ n2_ n3_
            have p24 : 0 ≤ (x4_2 : Int) := of_decide_eq_true (by first | (with_reducible assumption) | assumption)
            have q24 : x4_2 < (a0.size : Int) := of_decide_eq_true (by first | (with_reducible assumption) | assumption)
            have hx24 := bt_at a0 x4_2
            replace p24 := eq_true p24
            replace q24 := eq_true q24
            refine start_ (n := 13) (S := fun w' => w'.cell? ⟨gb239, 0, none⟩ = some (.bool x240000_2) ∧ w'.cell? ⟨gb239, 1, none⟩ = some (.bool x240001_2) ∧ w'.cell? ⟨gb239, 2, none⟩ = some (u240002) ∧ w'.cell? ⟨gb239, 3, none⟩ = some (.int .i64 0)) (ds := [12]) (bmk 0 13) (by kernel_rfl) rfl rfl ⟨(blk_cell BK239.out 0).trans rfl, (blk_cell BK239.out 1).trans rfl, (blk_cell BK239.out 2).trans rfl, (blk_cell BK239.out 3).trans rfl⟩ (fun hHeld => ?_); refine with_tabW pointillistref04_Read.tab12 pointillistref04_Read.bits12 (fun HT_ HW_ => ?_)
            generalize wc.drew = w40 at HO_240002 BK238 BK239 HB hHeld ⊢
            refine pure_ (i := 0) (N := some 41) (v := ?_) (a' := ?_) (bmk 1 12) rfl rfl (any_of HT_.out (by kernel_rfl)) (fun _ _ _ h => h) (Or.inl ⟨by rfl, ?_⟩) ?_ ?_
            rotate_left; focus (intro w'; go_simp; with_reducible rfl)
            rotate_left; focus (simp only [apz, i64_w, i32_w]; rfl)
            refine pure_ (i := 4) (N := some 45) (v := ?_) (a' := ?_) (bm 13 17) rfl rfl (any_of HT_.out (by kernel_rfl)) (fun _ _ _ h => h) (Or.inl ⟨by rfl, ?_⟩) ?_ ?_
            rotate_left; focus (intro w'; go_simp; with_reducible rfl)
            rotate_left; focus (simp only [apz, i64_w, i32_w]; rfl)
            refine pure_ (i := 5) (N := some 46) (v := ?_) (a' := ?_) (bm 13 49) rfl rfl (any_of HT_.out (by kernel_rfl)) (fun _ _ _ h => h) (Or.inl ⟨by rfl, ?_⟩) ?_ ?_
            rotate_left; focus (intro w'; go_simp; with_reducible rfl)
            rotate_left; focus (simp only [apz, i64_w, i32_w]; rfl)
            refine take_ (i := 1) (N := some 42) (v := ?_) (a' := ?_) (bm 13 51) rfl rfl (take_ofW HT_.out HW_.out (by kernel_rfl)) (fun _ _ _ h => h) (Or.inl ⟨by rfl, ?_⟩) hHeld ?_ ?_
            rotate_left
            ·
             rintro w' ⟨s0, s1, s2, s3⟩
             go_simp
             with_reducible rfl
            rotate_left; focus (simp only [apz, i64_w, i32_w]; rfl)
            refine take_ (i := 6) (N := some 47) (v := ?_) (a' := ?_) (bm 13 115) rfl rfl (take_ofW HT_.out HW_.out (by kernel_rfl)) (fun _ _ _ h => h) (Or.inl ⟨by rfl, ?_⟩) hHeld ?_ ?_
            rotate_left
            ·
             rintro w' ⟨s0, s1, s2, s3⟩
             go_simp
             with_reducible rfl
            rotate_left; focus (simp only [apz, i64_w, i32_w]; rfl)
            refine pure_ (i := 7) (N := some 48) (v := ?_) (a' := ?_) (bm 13 243) rfl rfl (any_of HT_.out (by kernel_rfl)) (fun _ _ _ h => h) (Or.inl ⟨by rfl, ?_⟩) ?_ ?_
            rotate_left; focus (intro w'; go_simp; with_reducible rfl)
            rotate_left; focus (simp only [apz, i64_w, i32_w]; rfl)
            refine pure_ (i := 8) (N := some 49) (v := ?_) (a' := ?_) (bm 13 499) rfl rfl (any_of HT_.out (by kernel_rfl)) (fun _ _ _ h => h) (Or.inl ⟨by rfl, ?_⟩) ?_ ?_
            rotate_left; focus (intro w'; go_simp; with_reducible rfl)
            rotate_left; focus (simp only [apz, i64_w, i32_w]; rfl)
            refine one_ (i := 2) (N := some 43) (bm 13 503) rfl rfl (one_of HT_.out (by kernel_rfl)) (by decide) (fun K hK => ?_)
            refine goes_ Tryd.func39 (by kernel_rfl) rfl #[.int .i64 10] (by rfl) rfl rfl (by (try simp only [List.map_toArray, List.map_cons, List.map_nil]); first | done | rfl | (simp only [List.length_drop, List.length_take]; rfl)) ?_
            with_reducible refine (pointillistref04_small.calls kj10 10 t241 t242 _ A22.out).mono ?_
            rintro e w41 ⟨v243, rfl, ho0, hb⟩
            refine ⟨_, rfl, ?_⟩
            have n0_ := Aside0.mk (Kd.V_below (vq HO_240002.out) hb)
            have n1_ := Aside0.mk (Kd.V_lower (Kd.V_mono (ok' := fun k_ => (w.heap.size ≤ k_) ∧ k_ ≠ gb238 ∧ k_ ≠ gb239) ho0 (fun k_ hk_ => ⟨(Nat.le_trans (below_size (wq HB.out)) hk_), (Kd.freshB (bq BK238.out) k_ hk_), (Kd.freshB (bq BK239.out) k_ hk_)⟩)) (below_size (wq HB.out)))
            have n2_ := Aside0.mk (blk_below (bq BK238.out) hb)
            have n3_ := Aside0.mk (blk_below (bq BK239.out) hb)
            have n4_ := Aside0.mk (below_step (wq HB.out) hb)
            clear HO_240002 BK238 BK239 HB; have HO_240002 := n0_; have HO244 := n1_; have BK238 := n2_; have BK239 := n3_; have HB := n4_; clear n0_ n1_ n2_ n3_ n4_
            (try clear hb)
            (try clear hb2)
            (try clear hk)
            (try clear hi)
            (try clear ho0)
            obtain ⟨Ao42, co42, eo42⟩ := Kd.V_slice HO_240002.out
            (first | subst eo42 | (injection eo42 with f1_ f2_ f3_; have f4_ := f1_.symm; have f5_ := f3_.symm; clear f1_ f2_ f3_; subst f4_; subst f5_))
            obtain ⟨Ao43, co43, eo43⟩ := Kd.V_slice HO244.out
            (first | subst eo43 | (injection eo43 with f1_ f2_ f3_; have f4_ := f1_.symm; have f5_ := f3_.symm; clear f1_ f2_ f3_; subst f4_; subst f5_))
            refine hK.out _ _ ⟨(blk_cell BK239.out 0).trans rfl, (blk_cell BK239.out 1).trans rfl, (blk_cell BK239.out 2).trans rfl, (blk_cell BK239.out 3).trans rfl⟩ (fun hHeld => ?_)
            clear hK K
            refine norm_ (a' := ?_) ?_ ?_
            rotate_left
            ·
             show Act.put _ (some 43) _ = _
             simp only [apz, i64_w, i32_w]
             rfl
            refine one_ (i := 3) (N := some 44) (bmk 9 4) rfl rfl (one_of HT_.out (by kernel_rfl)) (by decide) (fun K hK => ?_)
            refine goes_ Tryd.func38 (by kernel_rfl) rfl #[.agg #[.bool x240001_2, .slice Ao42 x240002_2.length co42], .agg #[.bool t241, .slice Ao43 t242.length co43]] (by rfl) rfl rfl (by (try simp only [List.map_toArray, List.map_cons, List.map_nil]); first | done | rfl | (simp only [List.length_drop, List.length_take]; rfl)) ?_
            with_reducible refine (pointillistref01_Mul.calls kj10 x240001_2 _ _ x240002_2 t241 _ _ t242 t245 t246 _ ?side1 ?side2 ?side3 ?side4 A23.out).mono ?_
            (case side1 => exact cq (Kd.V_reads' HO_240002.out).2.2)
            (case side2 => exact (Kd.V_reads' HO_240002.out).2.1)
            (case side3 => exact cq (Kd.V_reads' HO244.out).2.2)
            (case side4 => exact (Kd.V_reads' HO244.out).2.1)
            rintro e w44 ⟨v247, rfl, ho0, hb⟩
            refine ⟨_, rfl, ?_⟩
            have n0_ := Aside0.mk (Kd.V_below (vq HO_240002.out) hb)
            have n1_ := Aside0.mk (Kd.V_below (vq HO244.out) hb)
            have n2_ := Aside0.mk (Kd.V_lower (Kd.V_mono (ok' := fun k_ => (w.heap.size ≤ k_) ∧ k_ ≠ gb238 ∧ k_ ≠ gb239) ho0 (fun k_ hk_ => ⟨(Nat.le_trans (below_size (wq HB.out)) hk_), (Kd.freshB (bq BK238.out) k_ hk_), (Kd.freshB (bq BK239.out) k_ hk_)⟩)) (below_size (wq HB.out)))
            have n3_ := Aside0.mk (blk_below (bq BK238.out) hb)
            have n4_ := Aside0.mk (blk_below (bq BK239.out) hb)
            have n5_ := Aside0.mk (below_step (wq HB.out) hb)
            clear HO_240002 HO244 BK238 BK239; clear HB; have HO_240002 := n0_; have HO244 := n1_; have HO248 := n2_; have BK238 := n3_; have BK239 := n4_; have HB := n5_; clear n0_ n1_ n2_ n3_ n4_ n5_
            (try clear hb)
            (try clear hb2)
            (try clear hk)
            (try clear hi)
            (try clear ho0)
            refine hK.out _ _ ⟨(blk_cell BK239.out 0).trans rfl, (blk_cell BK239.out 1).trans rfl, (blk_cell BK239.out 2).trans rfl, (blk_cell BK239.out 3).trans rfl⟩ (fun hHeld => ?_)
            clear hK K
            refine norm_ (a' := ?_) ?_ ?_
            rotate_left
            ·
             show Act.put _ (some 44) _ = _
             simp only [apz, i64_w, i32_w]
             rfl
            refine one_ (i := 9) (N := some 50) (bmk 10 3) rfl rfl (one_of HT_.out (by kernel_rfl)) (by decide) (fun K hK => ?_)
            refine goes_ Tryd.func39 (by kernel_rfl) rfl #[.int .i64 (((bt a0 x4_2) - 48) % 256)] (by rfl) rfl rfl (by (try simp only [List.map_toArray, List.map_cons, List.map_nil]); first | done | rfl | (simp only [List.length_drop, List.length_take]; rfl) | (go_simp; simp only [w64u8])) ?_
            with_reducible refine (pointillistref04_small.calls kj10 (((bt a0 x4_2) - 48) % 256) t249 t250 _ A25.out).mono ?_
            rintro e w45 ⟨v251, rfl, ho0, hb⟩
            refine ⟨_, rfl, ?_⟩
            have n0_ := Aside0.mk (Kd.V_below (vq HO_240002.out) hb)
            have n1_ := Aside0.mk (Kd.V_below (vq HO244.out) hb)
            have n2_ := Aside0.mk (Kd.V_below (vq HO248.out) hb)
            have n3_ := Aside0.mk (Kd.V_lower (Kd.V_mono (ok' := fun k_ => (w.heap.size ≤ k_) ∧ k_ ≠ gb238 ∧ k_ ≠ gb239) ho0 (fun k_ hk_ => ⟨(Nat.le_trans (below_size (wq HB.out)) hk_), (Kd.freshB (bq BK238.out) k_ hk_), (Kd.freshB (bq BK239.out) k_ hk_)⟩)) (below_size (wq HB.out)))
            have n4_ := Aside0.mk (blk_below (bq BK238.out) hb)
            have n5_ := Aside0.mk (blk_below (bq BK239.out) hb)
            have n6_ := Aside0.mk (below_step (wq HB.out) hb)
            clear HO_240002 HO244 HO248 BK238; clear BK239 HB; have HO_240002 := n0_; have HO244 := n1_; have HO248 := n2_; have HO252 := n3_; have BK238 := n4_; have BK239 := n5_; have HB := n6_; clear n0_ n1_ n2_ n3_ n4_ n5_ n6_
            (try clear hb)
            (try clear hb2)
            (try clear hk)
            (try clear hi)
            (try clear ho0)
            obtain ⟨Ao46, co46, eo46⟩ := Kd.V_slice HO248.out
            (first | subst eo46 | (injection eo46 with f1_ f2_ f3_; have f4_ := f1_.symm; have f5_ := f3_.symm; clear f1_ f2_ f3_; subst f4_; subst f5_))
            obtain ⟨Ao47, co47, eo47⟩ := Kd.V_slice HO252.out
            (first | subst eo47 | (injection eo47 with f1_ f2_ f3_; have f4_ := f1_.symm; have f5_ := f3_.symm; clear f1_ f2_ f3_; subst f4_; subst f5_))
            refine hK.out _ _ ⟨(blk_cell BK239.out 0).trans rfl, (blk_cell BK239.out 1).trans rfl, (blk_cell BK239.out 2).trans rfl, (blk_cell BK239.out 3).trans rfl⟩ (fun hHeld => ?_)
            clear hK K
            refine norm_ (a' := ?_) ?_ ?_
            rotate_left
            ·
             show Act.put _ (some 50) _ = _
             simp only [apz, i64_w, i32_w]
             rfl
            refine one_ (i := 10) (N := some 51) (bmk 11 2) rfl rfl (one_of HT_.out (by kernel_rfl)) (by decide) (fun K hK => ?_)
            refine goes_ Tryd.func50 (by kernel_rfl) rfl #[.agg #[.bool t245, .slice Ao46 t246.length co46], .agg #[.bool t249, .slice Ao47 t250.length co47]] (by rfl) rfl rfl (by (try simp only [List.map_toArray, List.map_cons, List.map_nil]); first | done | rfl | (simp only [List.length_drop, List.length_take]; rfl)) ?_
            with_reducible refine (pointillistref01_Add.calls kj10 t245 _ _ t246 t249 _ _ t250 t253 t254 _ ?side1 ?side2 ?side3 ?side4 A26.out).mono ?_
            (case side1 => exact cq (Kd.V_reads' HO248.out).2.2)
            (case side2 => exact (Kd.V_reads' HO248.out).2.1)
            (case side3 => exact cq (Kd.V_reads' HO252.out).2.2)
            (case side4 => exact (Kd.V_reads' HO252.out).2.1)
            rintro e w48 ⟨v255, rfl, ho0, hb⟩
            refine ⟨_, rfl, ?_⟩
            have n0_ := Aside0.mk (Kd.V_below (vq HO_240002.out) hb)
            have n1_ := Aside0.mk (Kd.V_below (vq HO244.out) hb)
            have n2_ := Aside0.mk (Kd.V_below (vq HO248.out) hb)
            have n3_ := Aside0.mk (Kd.V_below (vq HO252.out) hb)
            have n4_ := Aside0.mk (Kd.V_lower (Kd.V_mono (ok' := fun k_ => (w.heap.size ≤ k_) ∧ k_ ≠ gb238 ∧ k_ ≠ gb239) ho0 (fun k_ hk_ => ⟨(Nat.le_trans (below_size (wq HB.out)) hk_), (Kd.freshB (bq BK238.out) k_ hk_), (Kd.freshB (bq BK239.out) k_ hk_)⟩)) (below_size (wq HB.out)))
            have n5_ := Aside0.mk (blk_below (bq BK238.out) hb)
            have n6_ := Aside0.mk (blk_below (bq BK239.out) hb)
            have n7_ := Aside0.mk (below_step (wq HB.out) hb)
            clear HO_240002 HO244 HO248 HO252; clear BK238 BK239 HB; have HO_240002 := n0_; have HO244 := n1_; have HO248 := n2_; have HO252 := n3_; have HO256 := n4_; have BK238 := n5_; have BK239 := n6_; have HB := n7_; clear n0_ n1_ n2_ n3_ n4_ n5_ n6_ n7_
            (try clear hb)
            (try clear hb2)
            (try clear hk)
            (try clear hi)
            (try clear ho0)
            obtain ⟨Ao50, co50, eo50⟩ := Kd.V_slice HO256.out
            (first | subst eo50 | (injection eo50 with f1_ f2_ f3_; have f4_ := f1_.symm; have f5_ := f3_.symm; clear f1_ f2_ f3_; subst f4_; subst f5_))
            refine hK.out _ _ ⟨(blk_cell BK239.out 0).trans rfl, (blk_cell BK239.out 1).trans rfl, (blk_cell BK239.out 2).trans rfl, (blk_cell BK239.out 3).trans rfl⟩ (fun hHeld => ?_)
            clear hK K
            refine norm_ (a' := ?_) ?_ ?_
            rotate_left
            ·
             show Act.put _ (some 51) _ = _
             simp only [apz, i64_w, i32_w]
             rfl
            refine pure_ (i := 11) (N := some 52) (v := ?_) (a' := ?_) (bmk 12 1) rfl rfl (any_of HT_.out (by kernel_rfl)) (fun _ _ _ h => h) (Or.inl ⟨by rfl, ?_⟩) ?_ ?_
            rotate_left; focus (intro w'; go_simp; with_reducible rfl)
            rotate_left; focus (simp only [apz, i64_w, i32_w]; rfl)
            refine last_ (i := 12) (N := none) (bmk 13 0) rfl rfl (one_of HT_.out (by kernel_rfl)) (by decide) (fun K hK => ?_)
            have hs49 : w48.cell? ⟨gb239, 1, none⟩ = some (.bool x240001_2) := (blk_cell BK239.out 1).trans rfl
            have hfs49 := blk_frozen BK239.out 1
            have hns49_0 := NB238_239.out
            have hms49_0 := NB239_238.out
            have hs51 : w48.cell? ⟨gb239, 2, none⟩ = some (.slice Ao42 x240002_2.length co42) := (blk_cell BK239.out 2).trans rfl
            have hfs51 := blk_frozen BK239.out 2
            have hns51_0 := NB238_239.out
            have hms51_0 := NB239_238.out
            refine skip_ (w1 := ?_) (by rfl) rfl ?_ ?_
            rotate_left
            ·
             go_simp
             rfl
            refine hK.out _ _ ?_
            clear hK K
            refine done_ (done_of HT_.out (by kernel_rfl)) ?_
            try go_wp2
            go_roundg kj10
            case measure => have := HJ2.out; have := HK2.out; have := HJ10.out; omega
            case rel => exact ⟨(wrap64 (x4_2 + 1)), (x5_2), (false), (t253), (t254), (.slice Ao50 t254.length co50), (by first | rfl | (simp; done) | (simp [*]; done)), (by first | rfl | (simp; done) | (simp [*]; done)), (by first | rfl | (simp; done) | (simp [*]; done)), H', ⟨by have := HJ2.out; have := HK2.out; have := HJ10.out; omega⟩, ⟨by apply vq; exact Kd.V_mono (Kd.V_far (p := ⟨gb239, 2, none⟩) (Kd.V_far (p := ⟨gb239, 1, none⟩) (Kd.V_mono HO256.out (fun k_ hk => (⟨hk, hk.2.2⟩ : _ ∧ k_ ≠ gb239))) (fun _ hk => hk.2) (.bool t253)) (fun _ hk => hk.2) (.slice Ao50 t254.length co50)) (fun _ hk => ⟨hk.1.1, ⟨hk.1.2.1, hk.1.2.2⟩⟩)⟩, ⟨by refine bq ?_; refine blk_far ?_ NB238_239.out _; refine bq ?_; refine blk_far ?_ NB238_239.out _; refine bq ?_; exact BK238.out⟩, ⟨by refine bq ?_; refine blk_put (cs := #[.bool x240000_2, .bool t253, .slice Ao42 x240002_2.length co42, .int .i64 0]) ?_ 2 _ rfl; refine bq ?_; refine blk_put (cs := #[.bool x240000_2, .bool x240001_2, .slice Ao42 x240002_2.length co42, .int .i64 0]) ?_ 1 _ rfl; refine bq ?_; exact BK239.out⟩, ⟨by exact wq HB.out⟩⟩
         ·
          rw [if_neg c19] at H
          exact absurd H (by simp)
        ·
         rw [if_neg c18] at H
         exact absurd H (by simp)
       ·
        replace c17 := Bool.eq_false_iff.mpr c17
        subst c17
        have H1 : (if x4_2 < (a0.size : Int) then ((pointillistref04_sign.f a0 (wrap64 (x4_2 + 1))).bind fun t257 => (if t257 = true then (if 0 ≤ (wrap64 (x4_2 + 1)) then (if (wrap64 (x4_2 + 1)) < (a0.size : Int) then (pointillistref04_Read.j3 kj10 a0 (wrap64 ((wrap64 (x4_2 + 1)) + 1)) x5_2 0 ((bt a0 (wrap64 (x4_2 + 1))) == 45) x240000_2 x240001_2 x240002_2 0) else (none)) else (none)) else (pointillistref04_Read.j3 kj10 a0 (wrap64 (x4_2 + 1)) x5_2 0 false x240000_2 x240001_2 x240002_2 0))) else (some (x240000_2, x240001_2, x240002_2, wrap64 (-x5_2)))) = some (r1, r2, r3, r4) := by rw [if_neg (show ¬ (false = true) by decide)] at H; exact H
        clear H
        have H := H1
        clear H1
        by_cases c52 : x4_2 < (a0.size : Int)
        ·
         rw [if_pos c52] at H
         have c52b0 : decide (x4_2 < (a0.size : Int)) = true := decide_eq_true c52
         clear c52
         replace H := Option.bind_eq_some_iff.mp H
         obtain ⟨t257, A530, H⟩ := H
         replace H : (if t257 = true then (if 0 ≤ (wrap64 (x4_2 + 1)) then (if (wrap64 (x4_2 + 1)) < (a0.size : Int) then (pointillistref04_Read.j3 kj10 a0 (wrap64 ((wrap64 (x4_2 + 1)) + 1)) x5_2 0 ((bt a0 (wrap64 (x4_2 + 1))) == 45) x240000_2 x240001_2 x240002_2 0) else (none)) else (none)) else (pointillistref04_Read.j3 kj10 a0 (wrap64 (x4_2 + 1)) x5_2 0 false x240000_2 x240001_2 x240002_2 0)) = some (r1, r2, r3, r4) := H
         have A53 := Aside0.mk A530
         clear A530
         have HC54 := Aside0.mk H
         clear H
         go_upto_if 64 with (first | ((with_reducible refine gate_callee (f := 48) rfl ?_); refine goesL_ (some 64) rfl rfl Tryd.func48 (by kernel_rfl) rfl #[.string a0, .int .i64 (wrap64 (x4_2 + 1))] rfl (by (try simp only [List.map_toArray, List.map_cons, List.map_nil]); first | done | rfl | (simp only [List.length_drop, List.length_take]; rfl)) ?_; (with_reducible refine (pointillistref04_sign.calls a0 (wrap64 (x4_2 + 1)) t257 _ A53.out).mono ?_); rintro e w' ⟨rfl, ⟨nd, rfl⟩⟩; refine ⟨_, rfl, ?_⟩))
         (try simp only [apz])
         go_cut [4, 8] (fun v4 v8 wc => ∃ (kq : Nat) (x4_53 : Int) (x8_53 : Bool), v4 = .int .i64 x4_53 ∧ v8 = .bool x8_53 ∧ Aside0 (pointillistref04_Read.j3 kq a0 x4_53 x5_2 0 x8_53 x240000_2 x240001_2 x240002_2 0 = some (r1, r2, r3, r4)) ∧ Aside0 (kq ≤ kj10) ∧ Aside0 (Kd.V (Kd.int .i64) 3 wc w.heap.size (fun k_ => (w.heap.size ≤ k_) ∧ k_ ≠ gb238 ∧ k_ ≠ gb239) u240002 x240002_2) ∧ Aside0 (wc.heap[gb238]? = some (.cells #[.bool false, .bool false, (.slice none 0 0), .int .i64 0] 71 (0, 0))) ∧ Aside0 (wc.heap[gb239]? = some (.cells #[.bool x240000_2, .bool x240001_2, u240002, .int .i64 0] 71 (0, 0))) ∧ Aside0 (Below w.heap.size w wc))
         case first =>
          have H := HC54.out
          clear HC54
          by_cases c55 : t257 = true
          ·
           subst c55
           have H1 : (if 0 ≤ (wrap64 (x4_2 + 1)) then (if (wrap64 (x4_2 + 1)) < (a0.size : Int) then (pointillistref04_Read.j3 kj10 a0 (wrap64 ((wrap64 (x4_2 + 1)) + 1)) x5_2 0 ((bt a0 (wrap64 (x4_2 + 1))) == 45) x240000_2 x240001_2 x240002_2 0) else (none)) else (none)) = some (r1, r2, r3, r4) := by rw [if_pos rfl] at H; exact H
           clear H
           have H := H1
           clear H1
           obtain ⟨ji56, hji56⟩ : ∃ j_ : Int, (wrap64 (x4_2 + 1)) = j_ := ⟨_, rfl⟩
           replace H : (if 0 ≤ (ji56) then (if (ji56) < (a0.size : Int) then (pointillistref04_Read.j3 kj10 a0 (wrap64 ((ji56) + 1)) x5_2 0 ((bt a0 (ji56)) == 45) x240000_2 x240001_2 x240002_2 0) else (none)) else (none)) = some (r1, r2, r3, r4) := by first | (rw [hji56] at H; exact H) | (simp only [hji56] at H ⊢; exact H)
           have hji56w : (IntKind.i64.wrap (x4_2 + 1)) = ji56 := (i64_w _).trans hji56
           by_cases c57 : 0 ≤ (ji56)
           ·
            rw [if_pos c57] at H
            have c57b0 : decide (0 ≤ (ji56)) = true := decide_eq_true c57
            clear c57
            (first | rw [c57b0] | (simp only [i64_w, i32_w]; rw [c57b0]) | skip)
            by_cases c58 : (ji56) < (a0.size : Int)
            ·
             rw [if_pos c58] at H
             have c58b0 : decide ((ji56) < (a0.size : Int)) = true := decide_eq_true c58
             clear c58
             have H' := Aside0.mk H
             clear H
             have p59 : 0 ≤ ((ji56) : Int) := of_decide_eq_true (by first | (with_reducible assumption) | assumption)
             have q59 : (ji56) < (a0.size : Int) := of_decide_eq_true (by first | (with_reducible assumption) | assumption)
             have hx59 := bt_at a0 (ji56)
             replace p59 := eq_true p59
             replace q59 := eq_true q59
             go_wp2
             go_meet
             case rel => exact ⟨_, (wrap64 ((ji56) + 1)), (((bt a0 (ji56)) == 45)), (by first | rfl | (simp; done) | (simp only [← hji56] <;> (first | rfl | simp)) | (simp [*]; done)), (by first | rfl | (simp; done) | (simp only [← hji56] <;> (first | rfl | simp)) | (simp [*]; done)), H', ⟨by have := HJ2.out; have := HK2.out; have := HJ10.out; first | omega | exact Nat.le_refl _⟩, ⟨by apply vq; exact HO_240002.out⟩, ⟨by refine bq ?_; exact BK238.out⟩, ⟨by refine bq ?_; exact BK239.out⟩, ⟨by exact wq HB.out⟩⟩
            ·
             rw [if_neg c58] at H
             exact absurd H (by simp)
           ·
            rw [if_neg c57] at H
            exact absurd H (by simp)
          ·
           replace c55 := Bool.eq_false_iff.mpr c55
           subst c55
           have H1 : (pointillistref04_Read.j3 kj10 a0 (wrap64 (x4_2 + 1)) x5_2 0 false x240000_2 x240001_2 x240002_2 0) = some (r1, r2, r3, r4) := by rw [if_neg (show ¬ (false = true) by decide)] at H; exact H
           clear H
           have H := H1
           clear H1
           have H' := Aside0.mk H
           clear H
           go_wp2
           go_meet
           case rel => exact ⟨_, (wrap64 (x4_2 + 1)), (false), (by first | rfl | (simp; done) | (simp [*]; done)), (by first | rfl | (simp; done) | (simp [*]; done)), H', ⟨by have := HJ2.out; have := HK2.out; have := HJ10.out; first | omega | exact Nat.le_refl _⟩, ⟨by apply vq; exact HO_240002.out⟩, ⟨by refine bq ?_; exact BK238.out⟩, ⟨by refine bq ?_; exact BK239.out⟩, ⟨by exact wq HB.out⟩⟩
         case rest =>
          clear HC54
          try clear c1
          try clear c2
          try clear p2
          try clear q2
          try clear hx2
          try clear c3
          try clear c4
          try clear c5
          try clear p5
          try clear q5
          try clear hx5
          try clear p6
          try clear c17
          try clear c18
          try clear c19
          try clear p20
          try clear q20
          try clear hx20
          try clear p24
          try clear q24
          try clear hx24
          try clear c27
          try clear c38
          try clear c39
          try clear c48
          try clear c50
          try clear c52
          try clear c52b0
          try clear c55
          try clear c57
          try clear c57b0
          try clear c58
          try clear c58b0
          try clear p59
          try clear q59
          try clear hx59
          try clear p20
          try clear p24
          try clear p59
          try clear q20
          try clear q24
          try clear q59
          obtain ⟨kq, x4_53, x8_53, rfl, rfl, HA, HJ53, HO_240002, BK238, BK239, HB⟩ := hcut
          cases kq with
          | zero => exact absurd HA.out (by simp [pointillistref04_Read.j3])
          | succ kj53 =>
           have H := HA.out
           clear HA
           simp only [pointillistref04_Read.j3] at H
           have H' := Aside0.mk H
           clear H
           go_wp2
           go_loopg [4, 7] kj53 (fun kq v4 v7 w' => ∃ (x4_5 : Int) (x7_5 : Int), v4 = .int .i64 x4_5 ∧ v7 = .int .i64 x7_5 ∧ Aside0 (pointillistref04_Read.l1 kq a0 x4_5 x5_2 x7_5 x8_53 x240000_2 x240001_2 x240002_2 0 = some (r1, r2, r3, r4)) ∧ Aside0 (kq ≤ kj53) ∧ Aside0 (Kd.V (Kd.int .i64) 3 w' w.heap.size (fun k_ => (w.heap.size ≤ k_) ∧ k_ ≠ gb238 ∧ k_ ≠ gb239) u240002 x240002_2) ∧ Aside0 (w'.heap[gb238]? = some (.cells #[.bool false, .bool false, (.slice none 0 0), .int .i64 0] 71 (0, 0))) ∧ Aside0 (w'.heap[gb239]? = some (.cells #[.bool x240000_2, .bool x240001_2, u240002, .int .i64 0] 71 (0, 0))) ∧ Aside0 (Below w.heap.size w w'))
           case atStart => exact ⟨(x4_53), (0), (by first | rfl | (simp; done) | (simp [*]; done)), (by first | rfl | (simp; done) | (simp [*]; done)), H', ⟨Nat.le_refl _⟩, ⟨by apply vq; exact HO_240002.out⟩, ⟨by refine bq ?_; exact BK238.out⟩, ⟨by refine bq ?_; exact BK239.out⟩, ⟨by exact wq HB.out⟩⟩
           case round =>
            clear H'
            try clear c1
            try clear c2
            try clear p2
            try clear q2
            try clear hx2
            try clear c3
            try clear c4
            try clear c5
            try clear p5
            try clear q5
            try clear hx5
            try clear p6
            try clear c17
            try clear c18
            try clear c19
            try clear p20
            try clear q20
            try clear hx20
            try clear p24
            try clear q24
            try clear hx24
            try clear c27
            try clear c38
            try clear c39
            try clear c48
            try clear c50
            try clear c52
            try clear c52b0
            try clear c55
            try clear c57
            try clear c57b0
            try clear c58
            try clear c58b0
            try clear p59
            try clear q59
            try clear hx59
            try clear p2
            try clear p20
            try clear p24
            try clear p5
            try clear p59
            try clear p6
            try clear q2
            try clear q20
            try clear q24
            try clear q5
            try clear q59
            obtain ⟨x4_5, x7_5, rfl, rfl, HA, HK5, HO_240002, BK238, BK239, HB⟩ := hrel
            cases gk with
            | zero => exact absurd HA.out (by simp [pointillistref04_Read.l1])
            | succ k5 =>
             have H := HA.out
             clear HA
             simp only [pointillistref04_Read.l1] at H
             by_cases c60 : x4_5 < (a0.size : Int)
             ·
              rw [if_pos c60] at H
              have c60b0 : decide (x4_5 < (a0.size : Int)) = true := decide_eq_true c60
              clear c60
              by_cases c61 : 0 ≤ x4_5
              ·
               rw [if_pos c61] at H
               have c61b0 : decide (0 ≤ x4_5) = true := decide_eq_true c61
               clear c61
               by_cases c63 : (wrap64 ((wrap64 (x7_5 * 10)) + (((bt a0 x4_5) - 48) % 256))) > 1000
               ·
                rw [if_pos c63] at H
                have c63b0 : decide (1000 < (wrap64 ((wrap64 (x7_5 * 10)) + (((bt a0 x4_5) - 48) % 256)))) = true := decide_eq_true c63
                clear c63
                have H' := Aside0.mk H
                clear H
                have p62 : 0 ≤ (x4_5 : Int) := of_decide_eq_true (by first | (with_reducible assumption) | assumption)
                have q62 : x4_5 < (a0.size : Int) := of_decide_eq_true (by first | (with_reducible assumption) | assumption)
                have hx62 := bt_at a0 x4_5
                replace p62 := eq_true p62
                replace q62 := eq_true q62
                go_wp2
                go_roundg k5
                case measure => have := HJ2.out; have := HK2.out; have := HJ10.out; have := HJ53.out; have := HK5.out; omega
                case rel => exact ⟨(wrap64 (x4_5 + 1)), (1000), (by first | rfl | (simp; done) | (simp [*]; done)), (by first | rfl | (simp; done) | (simp [*]; done)), H', ⟨by have := HJ2.out; have := HK2.out; have := HJ10.out; have := HJ53.out; have := HK5.out; omega⟩, ⟨by apply vq; exact HO_240002.out⟩, ⟨by refine bq ?_; exact BK238.out⟩, ⟨by refine bq ?_; exact BK239.out⟩, ⟨by exact wq HB.out⟩⟩
               ·
                rw [if_neg c63] at H
                have c63b0 : decide (1000 < (wrap64 ((wrap64 (x7_5 * 10)) + (((bt a0 x4_5) - 48) % 256)))) = false := decide_eq_false c63
                clear c63
                have H' := Aside0.mk H
                clear H
                have p62 : 0 ≤ (x4_5 : Int) := of_decide_eq_true (by first | (with_reducible assumption) | assumption)
                have q62 : x4_5 < (a0.size : Int) := of_decide_eq_true (by first | (with_reducible assumption) | assumption)
                have hx62 := bt_at a0 x4_5
                replace p62 := eq_true p62
                replace q62 := eq_true q62
                go_wp2
                go_roundg k5
                case measure => have := HJ2.out; have := HK2.out; have := HJ10.out; have := HJ53.out; have := HK5.out; omega
                case rel => exact ⟨(wrap64 (x4_5 + 1)), (wrap64 ((wrap64 (x7_5 * 10)) + (((bt a0 x4_5) - 48) % 256))), (by first | rfl | (simp; done) | (simp [*]; done)), (by first | rfl | (simp; done) | (simp [*]; done)), H', ⟨by have := HJ2.out; have := HK2.out; have := HJ10.out; have := HJ53.out; have := HK5.out; omega⟩, ⟨by apply vq; exact HO_240002.out⟩, ⟨by refine bq ?_; exact BK238.out⟩, ⟨by refine bq ?_; exact BK239.out⟩, ⟨by exact wq HB.out⟩⟩
              ·
               rw [if_neg c61] at H
               exact absurd H (by simp)
             ·
              rw [if_neg c60] at H
              have c60b0 : decide (x4_5 < (a0.size : Int)) = false := decide_eq_false c60
              clear c60
              by_cases c64 : x8_53 = true
              ·
               subst c64
               have H1 : (some (x240000_2, x240001_2, x240002_2, wrap64 ((wrap64 (-x7_5)) - x5_2))) = some (r1, r2, r3, r4) := by rw [if_pos rfl] at H; exact H
               clear H
               have H := H1
               clear H1
               simp only [Option.some.injEq, Prod.mk.injEq] at H
               obtain ⟨rfl, rfl, rfl, rfl⟩ := H
               have hnb65 := NB239_238.out
               have hnc65 := NB238_239.out
               have hcz66_0 : wr.cell? ⟨gb239, 0, none⟩ = some (.bool x240000_2) := (blk_cell BK239.out 0).trans rfl
               have hcz66_1 : wr.cell? ⟨gb239, 1, none⟩ = some (.bool x240001_2) := (blk_cell BK239.out 1).trans rfl
               have hcz66_2 : wr.cell? ⟨gb239, 2, none⟩ = some (u240002) := (blk_cell BK239.out 2).trans rfl
               have hcz66_3 : wr.cell? ⟨gb239, 3, none⟩ = some (.int .i64 0) := (blk_cell BK239.out 3).trans rfl
               have hfz66_0 := blk_frozen BK239.out 0
               have hfz66_1 := blk_frozen BK239.out 1
               have hfz66_2 := blk_frozen BK239.out 2
               have hfz66_3 := blk_frozen BK239.out 3
               have hcz67_0 : wr.cell? ⟨gb238, 0, none⟩ = some (.bool false) := (blk_cell BK238.out 0).trans rfl
               have hcz67_1 : wr.cell? ⟨gb238, 1, none⟩ = some (.bool false) := (blk_cell BK238.out 1).trans rfl
               have hcz67_2 : wr.cell? ⟨gb238, 2, none⟩ = some (.slice none 0 0) := (blk_cell BK238.out 2).trans rfl
               have hcz67_3 : wr.cell? ⟨gb238, 3, none⟩ = some (.int .i64 0) := (blk_cell BK238.out 3).trans rfl
               have hfz67_0 := blk_frozen BK238.out 0
               have hfz67_1 := blk_frozen BK238.out 1
               have hfz67_2 := blk_frozen BK238.out 2
               have hfz67_3 := blk_frozen BK238.out 3
               obtain ⟨Ao68, co68, eo68⟩ := Kd.V_slice HO_240002.out
               subst eo68
               go_wp2
               refine bodyPost_ret (results_cell_row rfl _ _ gb238 71 #[.bool x240000_2, .bool x240001_2, .slice Ao68 x240002_2.length co68, .int .i64 (wrap64 ((wrap64 (-x7_5)) - x5_2))] (0, 0) _ rfl (by refine bq ?_; refine blk_put (cs := #[.bool x240000_2, .bool x240001_2, .slice Ao68 x240002_2.length co68, .int .i64 0]) ?_ 3 _ rfl; refine bq ?_; refine blk_put (cs := #[.bool x240000_2, .bool x240001_2, .slice none 0 0, .int .i64 0]) ?_ 2 _ rfl; refine bq ?_; refine blk_put (cs := #[.bool x240000_2, .bool false, .slice none 0 0, .int .i64 0]) ?_ 1 _ rfl; refine bq ?_; refine blk_put (cs := #[.bool false, .bool false, .slice none 0 0, .int .i64 0]) ?_ 0 _ rfl; refine bq ?_; refine blk_far ?_ NB238_239.out _; refine bq ?_; exact BK238.out) Tryd.underlying71 rfl (by kernel_rfl)) rfl ?_
               exact ⟨_, by first | rfl | (simp [errW_none, errW_some] <;> rfl) | (simp [*, errW_none, errW_some] <;> rfl), by apply vq; exact Kd.V_mono (Kd.V_far (p := ⟨gb238, 3, none⟩) (Kd.V_far (p := ⟨gb238, 2, none⟩) (Kd.V_far (p := ⟨gb238, 1, none⟩) (Kd.V_far (p := ⟨gb238, 0, none⟩) (Kd.V_far (p := ⟨gb239, 3, none⟩) (Kd.V_mono (Kd.V_mono HO_240002.out (fun k_ hk => (⟨hk, hk.2.2⟩ : _ ∧ k_ ≠ gb239))) (fun k_ hk => (⟨hk, hk.1.2.1⟩ : _ ∧ k_ ≠ gb238))) (fun _ hk => hk.1.2) (.int .i64 (wrap64 ((wrap64 (-x7_5)) - x5_2)))) (fun _ hk => hk.2) (.bool x240000_2)) (fun _ hk => hk.2) (.bool x240001_2)) (fun _ hk => hk.2) (.slice Ao68 x240002_2.length co68)) (fun _ hk => hk.2) (.int .i64 (wrap64 ((wrap64 (-x7_5)) - x5_2)))) (fun _ hk => hk.1.1.1), by exact wq HB.out⟩
              ·
               replace c64 := Bool.eq_false_iff.mpr c64
               subst c64
               have H1 : (some (x240000_2, x240001_2, x240002_2, wrap64 (x7_5 - x5_2))) = some (r1, r2, r3, r4) := by rw [if_neg (show ¬ (false = true) by decide)] at H; exact H
               clear H
               have H := H1
               clear H1
               simp only [Option.some.injEq, Prod.mk.injEq] at H
               obtain ⟨rfl, rfl, rfl, rfl⟩ := H
               have hnb69 := NB239_238.out
               have hnc69 := NB238_239.out
               have hcz70_0 : wr.cell? ⟨gb239, 0, none⟩ = some (.bool x240000_2) := (blk_cell BK239.out 0).trans rfl
               have hcz70_1 : wr.cell? ⟨gb239, 1, none⟩ = some (.bool x240001_2) := (blk_cell BK239.out 1).trans rfl
               have hcz70_2 : wr.cell? ⟨gb239, 2, none⟩ = some (u240002) := (blk_cell BK239.out 2).trans rfl
               have hcz70_3 : wr.cell? ⟨gb239, 3, none⟩ = some (.int .i64 0) := (blk_cell BK239.out 3).trans rfl
               have hfz70_0 := blk_frozen BK239.out 0
               have hfz70_1 := blk_frozen BK239.out 1
               have hfz70_2 := blk_frozen BK239.out 2
               have hfz70_3 := blk_frozen BK239.out 3
               have hcz71_0 : wr.cell? ⟨gb238, 0, none⟩ = some (.bool false) := (blk_cell BK238.out 0).trans rfl
               have hcz71_1 : wr.cell? ⟨gb238, 1, none⟩ = some (.bool false) := (blk_cell BK238.out 1).trans rfl
               have hcz71_2 : wr.cell? ⟨gb238, 2, none⟩ = some (.slice none 0 0) := (blk_cell BK238.out 2).trans rfl
               have hcz71_3 : wr.cell? ⟨gb238, 3, none⟩ = some (.int .i64 0) := (blk_cell BK238.out 3).trans rfl
               have hfz71_0 := blk_frozen BK238.out 0
               have hfz71_1 := blk_frozen BK238.out 1
               have hfz71_2 := blk_frozen BK238.out 2
               have hfz71_3 := blk_frozen BK238.out 3
               obtain ⟨Ao72, co72, eo72⟩ := Kd.V_slice HO_240002.out
               subst eo72
               go_wp2
               refine bodyPost_ret (results_cell_row rfl _ _ gb238 71 #[.bool x240000_2, .bool x240001_2, .slice Ao72 x240002_2.length co72, .int .i64 (wrap64 (x7_5 - x5_2))] (0, 0) _ rfl (by refine bq ?_; refine blk_put (cs := #[.bool x240000_2, .bool x240001_2, .slice Ao72 x240002_2.length co72, .int .i64 0]) ?_ 3 _ rfl; refine bq ?_; refine blk_put (cs := #[.bool x240000_2, .bool x240001_2, .slice none 0 0, .int .i64 0]) ?_ 2 _ rfl; refine bq ?_; refine blk_put (cs := #[.bool x240000_2, .bool false, .slice none 0 0, .int .i64 0]) ?_ 1 _ rfl; refine bq ?_; refine blk_put (cs := #[.bool false, .bool false, .slice none 0 0, .int .i64 0]) ?_ 0 _ rfl; refine bq ?_; refine blk_far ?_ NB238_239.out _; refine bq ?_; exact BK238.out) Tryd.underlying71 rfl (by kernel_rfl)) rfl ?_
               exact ⟨_, by first | rfl | (simp [errW_none, errW_some] <;> rfl) | (simp [*, errW_none, errW_some] <;> rfl), by apply vq; exact Kd.V_mono (Kd.V_far (p := ⟨gb238, 3, none⟩) (Kd.V_far (p := ⟨gb238, 2, none⟩) (Kd.V_far (p := ⟨gb238, 1, none⟩) (Kd.V_far (p := ⟨gb238, 0, none⟩) (Kd.V_far (p := ⟨gb239, 3, none⟩) (Kd.V_mono (Kd.V_mono HO_240002.out (fun k_ hk => (⟨hk, hk.2.2⟩ : _ ∧ k_ ≠ gb239))) (fun k_ hk => (⟨hk, hk.1.2.1⟩ : _ ∧ k_ ≠ gb238))) (fun _ hk => hk.1.2) (.int .i64 (wrap64 (x7_5 - x5_2)))) (fun _ hk => hk.2) (.bool x240000_2)) (fun _ hk => hk.2) (.bool x240001_2)) (fun _ hk => hk.2) (.slice Ao72 x240002_2.length co72)) (fun _ hk => hk.2) (.int .i64 (wrap64 (x7_5 - x5_2)))) (fun _ hk => hk.1.1.1), by exact wq HB.out⟩
        ·
         rw [if_neg c52] at H
         have c52b0 : decide (x4_2 < (a0.size : Int)) = false := decide_eq_false c52
         clear c52
         simp only [Option.some.injEq, Prod.mk.injEq] at H
         obtain ⟨rfl, rfl, rfl, rfl⟩ := H
         have hnb73 := NB239_238.out
         have hnc73 := NB238_239.out
         have hcz74_0 : wc.cell? ⟨gb239, 0, none⟩ = some (.bool x240000_2) := (blk_cell BK239.out 0).trans rfl
         have hcz74_1 : wc.cell? ⟨gb239, 1, none⟩ = some (.bool x240001_2) := (blk_cell BK239.out 1).trans rfl
         have hcz74_2 : wc.cell? ⟨gb239, 2, none⟩ = some (u240002) := (blk_cell BK239.out 2).trans rfl
         have hcz74_3 : wc.cell? ⟨gb239, 3, none⟩ = some (.int .i64 0) := (blk_cell BK239.out 3).trans rfl
         have hfz74_0 := blk_frozen BK239.out 0
         have hfz74_1 := blk_frozen BK239.out 1
         have hfz74_2 := blk_frozen BK239.out 2
         have hfz74_3 := blk_frozen BK239.out 3
         have hcz75_0 : wc.cell? ⟨gb238, 0, none⟩ = some (.bool false) := (blk_cell BK238.out 0).trans rfl
         have hcz75_1 : wc.cell? ⟨gb238, 1, none⟩ = some (.bool false) := (blk_cell BK238.out 1).trans rfl
         have hcz75_2 : wc.cell? ⟨gb238, 2, none⟩ = some (.slice none 0 0) := (blk_cell BK238.out 2).trans rfl
         have hcz75_3 : wc.cell? ⟨gb238, 3, none⟩ = some (.int .i64 0) := (blk_cell BK238.out 3).trans rfl
         have hfz75_0 := blk_frozen BK238.out 0
         have hfz75_1 := blk_frozen BK238.out 1
         have hfz75_2 := blk_frozen BK238.out 2
         have hfz75_3 := blk_frozen BK238.out 3
         obtain ⟨Ao76, co76, eo76⟩ := Kd.V_slice HO_240002.out
         subst eo76
         go_wp2
         refine bodyPost_ret (results_cell_row rfl _ _ gb238 71 #[.bool x240000_2, .bool x240001_2, .slice Ao76 x240002_2.length co76, .int .i64 (wrap64 (-x5_2))] (0, 0) _ rfl (by refine bq ?_; refine blk_put (cs := #[.bool x240000_2, .bool x240001_2, .slice Ao76 x240002_2.length co76, .int .i64 0]) ?_ 3 _ rfl; refine bq ?_; refine blk_put (cs := #[.bool x240000_2, .bool x240001_2, .slice none 0 0, .int .i64 0]) ?_ 2 _ rfl; refine bq ?_; refine blk_put (cs := #[.bool x240000_2, .bool false, .slice none 0 0, .int .i64 0]) ?_ 1 _ rfl; refine bq ?_; refine blk_put (cs := #[.bool false, .bool false, .slice none 0 0, .int .i64 0]) ?_ 0 _ rfl; refine bq ?_; refine blk_far ?_ NB238_239.out _; refine bq ?_; exact BK238.out) Tryd.underlying71 rfl (by kernel_rfl)) rfl ?_
         exact ⟨_, by first | rfl | (simp [errW_none, errW_some] <;> rfl) | (simp [*, errW_none, errW_some] <;> rfl), by apply vq; exact Kd.V_mono (Kd.V_far (p := ⟨gb238, 3, none⟩) (Kd.V_far (p := ⟨gb238, 2, none⟩) (Kd.V_far (p := ⟨gb238, 1, none⟩) (Kd.V_far (p := ⟨gb238, 0, none⟩) (Kd.V_far (p := ⟨gb239, 3, none⟩) (Kd.V_mono (Kd.V_mono HO_240002.out (fun k_ hk => (⟨hk, hk.2.2⟩ : _ ∧ k_ ≠ gb239))) (fun k_ hk => (⟨hk, hk.1.2.1⟩ : _ ∧ k_ ≠ gb238))) (fun _ hk => hk.1.2) (.int .i64 (wrap64 (-x5_2)))) (fun _ hk => hk.2) (.bool x240000_2)) (fun _ hk => hk.2) (.bool x240001_2)) (fun _ hk => hk.2) (.slice Ao76 x240002_2.length co76)) (fun _ hk => hk.2) (.int .i64 (wrap64 (-x5_2)))) (fun _ hk => hk.1.1.1), by exact wq HB.out⟩
end Go.Proofs.YtfpnglgipchjhaaDoor.PR
namespace Go.Proofs.YtfpnglgipchjhaaDoor.PR
open Go.RowKit Go.Proofs.YtfpnglgipchjhaaDoorW.PrintWords Go.Proofs.YtfpnglgipchjhaaDoorW.PrintLast Go.Proofs.YtfpnglgipchjhaaDoorW.PrintMore
attribute [local go_sem] max2_int min2_int max_two min_two max_three min_three max_four min_four
set_option linter.unusedVariables false
set_option linter.unusedSimpArgs false
mutual
def pointillistref04_Parse.j0 : Nat → ByteArray → Bool → Option (Int × Int)
 | 0, _, _ => none
 | k + 1, x0, x25 => if x25 = true then (some (0, 3)) else ((pointillistref04_Read.f k x0).bind fun bt327 => ((pointillistref04_small.f k 65536).bind fun bt334 => ((pointillistref01_Mul.f k bt327.2.1 bt327.2.2.1 bt334.1 bt334.2).bind fun bt338 => ((pointillistref04_small.f k 1).bind fun bt343 => (pointillistref04_Parse.l0 k 0 bt327.1 bt327.2.1 bt327.2.2.1 bt327.2.2.2 bt338.1 bt338.2 bt343.1 bt343.2)))))
def pointillistref04_Parse.l0 : Nat → Int → Bool → Bool → List Int → Int → Bool → List Int → Bool → List Int → Option (Int × Int)
 | 0, _, _, _, _, _, _, _, _, _ => none
 | k + 1, x9, x334000, x334001, x334002, x334003, x343000, x343001, x348000, x348001 => if x9 < x334003 then ((pointillistref04_small.f k 10).bind fun bt348 => ((pointillistref01_Mul.f k x343000 x343001 bt348.1 bt348.2).bind fun bt352 => (pointillistref04_Parse.l0 k (wrap64 (x9 + 1)) x334000 x334001 x334002 x334003 bt352.1 bt352.2 x348000 x348001))) else (pointillistref04_Parse.l1 k 0 x334000 x334001 x334002 x334003 x343000 x343001 x348000 x348001)
def pointillistref04_Parse.l1 : Nat → Int → Bool → Bool → List Int → Int → Bool → List Int → Bool → List Int → Option (Int × Int)
 | 0, _, _, _, _, _, _, _, _, _ => none
 | k + 1, x10, x334000, x334001, x334002, x334003, x343000, x343001, x348000, x348001 => if x10 > x334003 then ((pointillistref04_small.f k 10).bind fun bt356 => ((pointillistref01_Mul.f k x348000 x348001 bt356.1 bt356.2).bind fun bt360 => (pointillistref04_Parse.l1 k (wrap64 (x10 - 1)) x334000 x334001 x334002 x334003 x343000 x343001 bt360.1 bt360.2))) else (if x334000 = true then (pointillistref04_Parse.j3 k (decide (0 < x343001.length)) x343001 x348000 x348001) else (pointillistref04_Parse.j3 k false x343001 x348000 x348001))
def pointillistref04_Parse.j3 : Nat → Bool → List Int → Bool → List Int → Option (Int × Int)
 | 0, _, _, _, _ => none
 | k + 1, x343000, x343001, x348000, x348001 => (pointillistref01_Near.f k x343000 x343001 x348000 x348001).bind fun bt364 => ((pointillistref01_Plain.f k bt364.1 bt364.2).bind fun bt368 => (if bt368.2 = true then (if bt368.1 ≥ 4294967296 then (some (0, 2)) else (if bt368.1 ≤ (-4294967296) then (some (0, 2)) else (some (bt368.1, 0)))) else (some (0, 2))))
end
def pointillistref04_Parse.f (k : Nat) (a0 : ByteArray) : Option (Int × Int) := (pointillistref04_Scan.f k a0 0 true).bind fun bt325 => (if bt325.2 = true then (pointillistref04_Parse.j0 k a0 (bt325.1 != (a0.size : Int))) else (pointillistref04_Parse.j0 k a0 true))
theorem pointillistref04_Parse.mono_l : ∀ k, (∀ y0 y1, LeO (pointillistref04_Parse.j0 k y0 y1) (pointillistref04_Parse.j0 (k + 1) y0 y1)) ∧ (∀ y0 y1 y2 y3 y4 y5 y6 y7 y8, LeO (pointillistref04_Parse.l0 k y0 y1 y2 y3 y4 y5 y6 y7 y8) (pointillistref04_Parse.l0 (k + 1) y0 y1 y2 y3 y4 y5 y6 y7 y8)) ∧ (∀ y0 y1 y2 y3 y4 y5 y6 y7 y8, LeO (pointillistref04_Parse.l1 k y0 y1 y2 y3 y4 y5 y6 y7 y8) (pointillistref04_Parse.l1 (k + 1) y0 y1 y2 y3 y4 y5 y6 y7 y8)) ∧ (∀ y0 y1 y2 y3, LeO (pointillistref04_Parse.j3 k y0 y1 y2 y3) (pointillistref04_Parse.j3 (k + 1) y0 y1 y2 y3))
 | 0 => ⟨fun _ _ r h => by simp [pointillistref04_Parse.j0] at h, fun _ _ _ _ _ _ _ _ _ r h => by simp [pointillistref04_Parse.l0] at h, fun _ _ _ _ _ _ _ _ _ r h => by simp [pointillistref04_Parse.l1] at h, fun _ _ _ _ r h => by simp [pointillistref04_Parse.j3] at h⟩
 | k + 1 => by
  obtain ⟨ih0, ih1, ih2, ih3⟩ := pointillistref04_Parse.mono_l k
  refine ⟨?_, ?_, ?_, ?_⟩
  ·
   intro y0 y1
   unfold pointillistref04_Parse.j0
   repeat' first
   | (with_reducible exact ih0 _ _)
   | (with_reducible exact ih1 _ _ _ _ _ _ _ _ _)
   | (with_reducible exact ih2 _ _ _ _ _ _ _ _ _)
   | (with_reducible exact ih3 _ _ _ _)
   | (with_reducible exact pointillistref01_Mul.mono _ _ _ _ _)
   | (with_reducible exact pointillistref01_Near.mono _ _ _ _ _)
   | (with_reducible exact pointillistref01_Plain.mono _ _ _)
   | (with_reducible exact pointillistref04_Read.mono _ _)
   | (with_reducible exact pointillistref04_Scan.mono _ _ _ _)
   | (with_reducible exact pointillistref04_small.mono _ _)
   | (with_reducible exact LeO.refl _)
   | (with_reducible exact LeO.none _)
   | (with_reducible refine LeO.ite ?_ ?_)
   | (with_reducible refine LeO.bind ?_ (fun _ => ?_))
   | exact ih0 _ _
   | exact ih1 _ _ _ _ _ _ _ _ _
   | exact ih2 _ _ _ _ _ _ _ _ _
   | exact ih3 _ _ _ _
   | exact pointillistref01_Mul.mono _ _ _ _ _
   | exact pointillistref01_Near.mono _ _ _ _ _
   | exact pointillistref01_Plain.mono _ _ _
   | exact pointillistref04_Read.mono _ _
   | exact pointillistref04_Scan.mono _ _ _ _
   | exact pointillistref04_small.mono _ _
   | exact LeO.none _
   | refine LeO.ite ?_ ?_
   | refine LeO.bind ?_ (fun _ => ?_)
  ·
   intro y0 y1 y2 y3 y4 y5 y6 y7 y8
   unfold pointillistref04_Parse.l0
   repeat' first
   | (with_reducible exact ih0 _ _)
   | (with_reducible exact ih1 _ _ _ _ _ _ _ _ _)
   | (with_reducible exact ih2 _ _ _ _ _ _ _ _ _)
   | (with_reducible exact ih3 _ _ _ _)
   | (with_reducible exact pointillistref01_Mul.mono _ _ _ _ _)
   | (with_reducible exact pointillistref01_Near.mono _ _ _ _ _)
   | (with_reducible exact pointillistref01_Plain.mono _ _ _)
   | (with_reducible exact pointillistref04_Read.mono _ _)
   | (with_reducible exact pointillistref04_Scan.mono _ _ _ _)
   | (with_reducible exact pointillistref04_small.mono _ _)
   | (with_reducible exact LeO.refl _)
   | (with_reducible exact LeO.none _)
   | (with_reducible refine LeO.ite ?_ ?_)
   | (with_reducible refine LeO.bind ?_ (fun _ => ?_))
   | exact ih0 _ _
   | exact ih1 _ _ _ _ _ _ _ _ _
   | exact ih2 _ _ _ _ _ _ _ _ _
   | exact ih3 _ _ _ _
   | exact pointillistref01_Mul.mono _ _ _ _ _
   | exact pointillistref01_Near.mono _ _ _ _ _
   | exact pointillistref01_Plain.mono _ _ _
   | exact pointillistref04_Read.mono _ _
   | exact pointillistref04_Scan.mono _ _ _ _
   | exact pointillistref04_small.mono _ _
   | exact LeO.none _
   | refine LeO.ite ?_ ?_
   | refine LeO.bind ?_ (fun _ => ?_)
  ·
   intro y0 y1 y2 y3 y4 y5 y6 y7 y8
   unfold pointillistref04_Parse.l1
   repeat' first
   | (with_reducible exact ih0 _ _)
   | (with_reducible exact ih1 _ _ _ _ _ _ _ _ _)
   | (with_reducible exact ih2 _ _ _ _ _ _ _ _ _)
   | (with_reducible exact ih3 _ _ _ _)
   | (with_reducible exact pointillistref01_Mul.mono _ _ _ _ _)
   | (with_reducible exact pointillistref01_Near.mono _ _ _ _ _)
   | (with_reducible exact pointillistref01_Plain.mono _ _ _)
   | (with_reducible exact pointillistref04_Read.mono _ _)
   | (with_reducible exact pointillistref04_Scan.mono _ _ _ _)
   | (with_reducible exact pointillistref04_small.mono _ _)
   | (with_reducible exact LeO.refl _)
   | (with_reducible exact LeO.none _)
   | (with_reducible refine LeO.ite ?_ ?_)
   | (with_reducible refine LeO.bind ?_ (fun _ => ?_))
   | exact ih0 _ _
   | exact ih1 _ _ _ _ _ _ _ _ _
   | exact ih2 _ _ _ _ _ _ _ _ _
   | exact ih3 _ _ _ _
   | exact pointillistref01_Mul.mono _ _ _ _ _
   | exact pointillistref01_Near.mono _ _ _ _ _
   | exact pointillistref01_Plain.mono _ _ _
   | exact pointillistref04_Read.mono _ _
   | exact pointillistref04_Scan.mono _ _ _ _
   | exact pointillistref04_small.mono _ _
   | exact LeO.none _
   | refine LeO.ite ?_ ?_
   | refine LeO.bind ?_ (fun _ => ?_)
  ·
   intro y0 y1 y2 y3
   unfold pointillistref04_Parse.j3
   repeat' first
   | (with_reducible exact ih0 _ _)
   | (with_reducible exact ih1 _ _ _ _ _ _ _ _ _)
   | (with_reducible exact ih2 _ _ _ _ _ _ _ _ _)
   | (with_reducible exact ih3 _ _ _ _)
   | (with_reducible exact pointillistref01_Mul.mono _ _ _ _ _)
   | (with_reducible exact pointillistref01_Near.mono _ _ _ _ _)
   | (with_reducible exact pointillistref01_Plain.mono _ _ _)
   | (with_reducible exact pointillistref04_Read.mono _ _)
   | (with_reducible exact pointillistref04_Scan.mono _ _ _ _)
   | (with_reducible exact pointillistref04_small.mono _ _)
   | (with_reducible exact LeO.refl _)
   | (with_reducible exact LeO.none _)
   | (with_reducible refine LeO.ite ?_ ?_)
   | (with_reducible refine LeO.bind ?_ (fun _ => ?_))
   | exact ih0 _ _
   | exact ih1 _ _ _ _ _ _ _ _ _
   | exact ih2 _ _ _ _ _ _ _ _ _
   | exact ih3 _ _ _ _
   | exact pointillistref01_Mul.mono _ _ _ _ _
   | exact pointillistref01_Near.mono _ _ _ _ _
   | exact pointillistref01_Plain.mono _ _ _
   | exact pointillistref04_Read.mono _ _
   | exact pointillistref04_Scan.mono _ _ _ _
   | exact pointillistref04_small.mono _ _
   | exact LeO.none _
   | refine LeO.ite ?_ ?_
   | refine LeO.bind ?_ (fun _ => ?_)
theorem pointillistref04_Parse.mono : ∀ a0 k, LeO (pointillistref04_Parse.f k a0) (pointillistref04_Parse.f (k + 1) a0) := by
 intro a0 k
 obtain ⟨ih0, ih1, ih2, ih3⟩ := pointillistref04_Parse.mono_l k
 unfold pointillistref04_Parse.f
 repeat' first
   | (with_reducible exact ih0 _ _)
   | (with_reducible exact ih1 _ _ _ _ _ _ _ _ _)
   | (with_reducible exact ih2 _ _ _ _ _ _ _ _ _)
   | (with_reducible exact ih3 _ _ _ _)
   | (with_reducible exact pointillistref01_Mul.mono _ _ _ _ _)
   | (with_reducible exact pointillistref01_Near.mono _ _ _ _ _)
   | (with_reducible exact pointillistref01_Plain.mono _ _ _)
   | (with_reducible exact pointillistref04_Read.mono _ _)
   | (with_reducible exact pointillistref04_Scan.mono _ _ _ _)
   | (with_reducible exact pointillistref04_small.mono _ _)
   | (with_reducible exact LeO.refl _)
   | (with_reducible exact LeO.none _)
   | (with_reducible refine LeO.ite ?_ ?_)
   | (with_reducible refine LeO.bind ?_ (fun _ => ?_))
   | exact ih0 _ _
   | exact ih1 _ _ _ _ _ _ _ _ _
   | exact ih2 _ _ _ _ _ _ _ _ _
   | exact ih3 _ _ _ _
   | exact pointillistref01_Mul.mono _ _ _ _ _
   | exact pointillistref01_Near.mono _ _ _ _ _
   | exact pointillistref01_Plain.mono _ _ _
   | exact pointillistref04_Read.mono _ _
   | exact pointillistref04_Scan.mono _ _ _ _
   | exact pointillistref04_small.mono _ _
   | exact LeO.none _
   | refine LeO.ite ?_ ?_
   | refine LeO.bind ?_ (fun _ => ?_)
set_option maxHeartbeats 8000000 in
set_option maxRecDepth 100000 in
theorem pointillistref04_Parse.calls (k : Nat) (a0 : ByteArray) (r1 : Int) (r2 : Int) (w : World) (h : pointillistref04_Parse.f k a0 = some (r1, r2)) :
  Calls Tryd.prog 13 #[.string a0] w fun e w' => e = .returned (.tuple #[.int .i64 r1, .int .i64 r2]) ∧ Below w.heap.size w w' := by
 have hu71 := Tryd.underlying71
 have hu69 := Tryd.underlying69
 have HB := Aside0.mk (Below.refl w.heap.size w)
 have H : ((pointillistref04_Scan.f k a0 0 true).bind fun bt325 => (if bt325.2 = true then (pointillistref04_Parse.j0 k a0 (bt325.1 != (a0.size : Int))) else (pointillistref04_Parse.j0 k a0 true))) = some (r1, r2) := h
 clear h
 replace H := Option.bind_eq_some_iff.mp H
 obtain ⟨⟨t325, t326⟩, A20, H⟩ := H
 replace H : (if t326 = true then (pointillistref04_Parse.j0 k a0 (t325 != (a0.size : Int))) else (pointillistref04_Parse.j0 k a0 true)) = some (r1, r2) := H
 have A2 := Aside0.mk A20
 clear A20
 have HC3 := Aside0.mk H
 clear H
 go_enter Tryd.func13, Tryd.ntmps13
 go_upto_region 2 with (first | ((with_reducible refine gate_callee (f := 36) rfl ?_); refine goesL_ (some 15) rfl rfl Tryd.func36 (by kernel_rfl) rfl #[.string a0, .int .i64 0, .bool true] rfl (by (try simp only [List.map_toArray, List.map_cons, List.map_nil]); first | done | rfl | (simp only [List.length_drop, List.length_take]; rfl)) ?_; (with_reducible refine (pointillistref04_Scan.calls k a0 0 true t325 t326 _ A2.out).mono ?_); rintro e w' ⟨rfl, ⟨nd, rfl⟩⟩; refine ⟨_, rfl, ?_⟩))
 (try simp only [apz])
 go_cut [25] (fun v25 wc => ∃ (kq : Nat) (x25_2 : Bool), v25 = .bool x25_2 ∧ Aside0 (pointillistref04_Parse.j0 kq a0 x25_2 = some (r1, r2)) ∧ Aside0 (kq ≤ k) ∧ Aside0 (Below w.heap.size w wc))
 case first =>
  have H := HC3.out
  clear HC3
  by_cases c4 : t326 = true
  ·
   subst c4
   have H1 : (pointillistref04_Parse.j0 k a0 (t325 != (a0.size : Int))) = some (r1, r2) := by rw [if_pos rfl] at H; exact H
   clear H
   have H := H1
   clear H1
   have H' := Aside0.mk H
   clear H
   go_wp2
   go_meet
   case rel => exact ⟨_, ((t325 != (a0.size : Int))), (by first | rfl | (simp; done) | (simp [*]; done)), H', ⟨by first | omega | exact Nat.le_refl _⟩, ⟨by exact wq HB.out⟩⟩
  ·
   replace c4 := Bool.eq_false_iff.mpr c4
   subst c4
   have H1 : (pointillistref04_Parse.j0 k a0 true) = some (r1, r2) := by rw [if_neg (show ¬ (false = true) by decide)] at H; exact H
   clear H
   have H := H1
   clear H1
   have H' := Aside0.mk H
   clear H
   go_wp2
   go_meet
   case rel => exact ⟨_, (true), (by first | rfl | (simp; done) | (simp [*]; done)), H', ⟨by first | omega | exact Nat.le_refl _⟩, ⟨by exact wq HB.out⟩⟩
 case rest =>
  clear HC3
  try clear c1
  try clear p2
  try clear c3
  try clear c4
  obtain ⟨kq, x25_2, rfl, HA, HJ2, HB⟩ := hcut
  cases kq with
  | zero => exact absurd HA.out (by simp [pointillistref04_Parse.j0])
  | succ kj2 =>
   have H := HA.out
   clear HA
   simp only [pointillistref04_Parse.j0] at H
   by_cases c5 : x25_2 = true
   ·
    subst c5
    have H1 : (some (0, 3)) = some (r1, r2) := by rw [if_pos rfl] at H; exact H
    clear H
    have H := H1
    clear H1
    simp only [Option.some.injEq, Prod.mk.injEq] at H
    obtain ⟨rfl, rfl⟩ := H
    go_wp2
    go_ret2
    exact ⟨by first | rfl | (simp [errW_none, errW_some] <;> rfl) | (simp [*, errW_none, errW_some] <;> rfl), by exact wq HB.out⟩
   ·
    replace c5 := Bool.eq_false_iff.mpr c5
    subst c5
    have H1 : ((pointillistref04_Read.f kj2 a0).bind fun bt327 => ((pointillistref04_small.f kj2 65536).bind fun bt334 => ((pointillistref01_Mul.f kj2 bt327.2.1 bt327.2.2.1 bt334.1 bt334.2).bind fun bt338 => ((pointillistref04_small.f kj2 1).bind fun bt343 => (pointillistref04_Parse.l0 kj2 0 bt327.1 bt327.2.1 bt327.2.2.1 bt327.2.2.2 bt338.1 bt338.2 bt343.1 bt343.2))))) = some (r1, r2) := by rw [if_neg (show ¬ (false = true) by decide)] at H; exact H
    clear H
    have H := H1
    clear H1
    replace H := Option.bind_eq_some_iff.mp H
    obtain ⟨⟨t327, t328, t329, t332⟩, A60, H⟩ := H
    replace H : ((pointillistref04_small.f kj2 65536).bind fun bt334 => ((pointillistref01_Mul.f kj2 t328 t329 bt334.1 bt334.2).bind fun bt338 => ((pointillistref04_small.f kj2 1).bind fun bt343 => (pointillistref04_Parse.l0 kj2 0 t327 t328 t329 t332 bt338.1 bt338.2 bt343.1 bt343.2)))) = some (r1, r2) := H
    have A6 := Aside0.mk A60
    clear A60
    replace H := Option.bind_eq_some_iff.mp H
    obtain ⟨⟨t334, t335⟩, A70, H⟩ := H
    replace H : ((pointillistref01_Mul.f kj2 t328 t329 t334 t335).bind fun bt338 => ((pointillistref04_small.f kj2 1).bind fun bt343 => (pointillistref04_Parse.l0 kj2 0 t327 t328 t329 t332 bt338.1 bt338.2 bt343.1 bt343.2))) = some (r1, r2) := H
    have A7 := Aside0.mk A70
    clear A70
    replace H := Option.bind_eq_some_iff.mp H
    obtain ⟨⟨t338, t339⟩, A80, H⟩ := H
    replace H : ((pointillistref04_small.f kj2 1).bind fun bt343 => (pointillistref04_Parse.l0 kj2 0 t327 t328 t329 t332 t338 t339 bt343.1 bt343.2)) = some (r1, r2) := H
    have A8 := Aside0.mk A80
    clear A80
    replace H := Option.bind_eq_some_iff.mp H
    obtain ⟨⟨t343, t344⟩, A90, H⟩ := H
    replace H : (pointillistref04_Parse.l0 kj2 0 t327 t328 t329 t332 t338 t339 t343 t344) = some (r1, r2) := H
    have A9 := Aside0.mk A90
    clear A90
    have H' := Aside0.mk H
    clear H
    try go_wp2_with (first | ((with_reducible refine gate_callee (f := 37) rfl ?_); refine goesL_ (some 27) rfl rfl Tryd.func37 (by kernel_rfl) rfl #[.string a0] rfl (by (try simp only [List.map_toArray, List.map_cons, List.map_nil]); first | done | rfl | (simp only [List.length_drop, List.length_take]; rfl)) ?_; (with_reducible refine (pointillistref04_Read.calls kj2 a0 t327 t328 t329 t332 _ A6.out).mono ?_); rintro e w10 ⟨v330, rfl, ho0, hb⟩; refine ⟨_, rfl, ?_⟩; have n0_ := Aside0.mk (Kd.V_lower (Kd.V_mono (ok' := fun k_ => True) ho0 (fun k_ hk_ => trivial)) (below_size (wq HB.out))); have n1_ := Aside0.mk (below_step (wq HB.out) hb); clear HB; have HO331 := n0_; have HB := n1_; clear n0_ n1_; (try clear hb); (try clear hb2); (try clear hk); (try clear hi); (try clear ho0)) | ((with_reducible refine gate_dst (N := 6) rfl ?_); (try (refine gate_guard (by rfl) ?_; dsimp only)); refine box_event ?hg (N := 6) ?hd (cs := #[.bool false, .bool false, .slice none 0 0, .int .i64 0]) (t := 71) ?hr ?_; (case hd => rfl); (case hg => rfl); (case hr => first | (go_simp; done) | (go_simp; rfl)); intro gb333 hg w11 hbox hb; have n0_ := Aside0.mk (Kd.V_below (Kd.V_elderB (vq HO331.out) gb333 (Nat.le_of_eq hg.symm)) hb); have n1_ := Aside0.mk (below_step (wq HB.out) hb); have n2_ := Aside0.mk (hbox); have n3_ := Aside0.mk ((by rw [hg]; exact (below_size (wq HB.out)) : w.heap.size ≤ gb333)); have n4_ := n3_; clear HO331 HB; have HO331 := n0_; have HB := n1_; have BK333 := n2_; have GW333 := n3_; have GE333 := n4_; clear n0_ n1_ n2_ n3_ n4_ hb hbox hg; have hcz12_0 : w11.cell? ⟨gb333, 0, none⟩ = some (.bool false) := (blk_cell BK333.out 0).trans rfl; have hcz12_1 : w11.cell? ⟨gb333, 1, none⟩ = some (.bool false) := (blk_cell BK333.out 1).trans rfl; have hcz12_2 : w11.cell? ⟨gb333, 2, none⟩ = some (.slice none 0 0) := (blk_cell BK333.out 2).trans rfl; have hcz12_3 : w11.cell? ⟨gb333, 3, none⟩ = some (.int .i64 0) := (blk_cell BK333.out 3).trans rfl; have hfz12_0 := blk_frozen BK333.out 0; have hfz12_1 := blk_frozen BK333.out 1; have hfz12_2 := blk_frozen BK333.out 2; have hfz12_3 := blk_frozen BK333.out 3; obtain ⟨Ao13, co13, eo13⟩ := Kd.V_slice HO331.out; subst eo13))
    have n0_ : Aside0 (Kd.V (Kd.int .i64) 3 ((((w11.setCell ⟨gb333, 0, none⟩ (.bool t327)).setCell ⟨gb333, 1, none⟩ (.bool t328)).setCell ⟨gb333, 2, none⟩ (.slice Ao13 t329.length co13)).setCell ⟨gb333, 3, none⟩ (.int .i64 t332)) w.heap.size (fun k_ => k_ ≠ gb333) (.slice Ao13 t329.length co13) t329) := ⟨by apply vq; exact Kd.V_mono (Kd.V_far (p := ⟨gb333, 3, none⟩) (Kd.V_far (p := ⟨gb333, 2, none⟩) (Kd.V_far (p := ⟨gb333, 1, none⟩) (Kd.V_far (p := ⟨gb333, 0, none⟩) (Kd.V_mono HO331.out (fun k_ hk => (⟨hk, hk.2⟩ : _ ∧ k_ ≠ gb333))) (fun _ hk => hk.2) (.bool t327)) (fun _ hk => hk.2) (.bool t328)) (fun _ hk => hk.2) (.slice Ao13 t329.length co13)) (fun _ hk => hk.2) (.int .i64 t332)) (fun _ hk => hk.1.2)⟩
    have n1_ : Aside0 (((((w11.setCell ⟨gb333, 0, none⟩ (.bool t327)).setCell ⟨gb333, 1, none⟩ (.bool t328)).setCell ⟨gb333, 2, none⟩ (.slice Ao13 t329.length co13)).setCell ⟨gb333, 3, none⟩ (.int .i64 t332)).heap[gb333]? = some (.cells #[.bool t327, .bool t328, .slice Ao13 t329.length co13, .int .i64 t332] 71 (0, 0))) := ⟨by refine bq ?_; refine blk_put (cs := #[.bool t327, .bool t328, .slice Ao13 t329.length co13, .int .i64 0]) ?_ 3 _ rfl; refine bq ?_; refine blk_put (cs := #[.bool t327, .bool t328, .slice none 0 0, .int .i64 0]) ?_ 2 _ rfl; refine bq ?_; refine blk_put (cs := #[.bool t327, .bool false, .slice none 0 0, .int .i64 0]) ?_ 1 _ rfl; refine bq ?_; refine blk_put (cs := #[.bool false, .bool false, .slice none 0 0, .int .i64 0]) ?_ 0 _ rfl; refine bq ?_; exact BK333.out⟩
    have n2_ : Aside0 (Below w.heap.size w ((((w11.setCell ⟨gb333, 0, none⟩ (.bool t327)).setCell ⟨gb333, 1, none⟩ (.bool t328)).setCell ⟨gb333, 2, none⟩ (.slice Ao13 t329.length co13)).setCell ⟨gb333, 3, none⟩ (.int .i64 t332))) := ⟨by exact wq HB.out⟩
    (try clear HO331)
    (try clear BK333)
    (try clear HB)
    generalize ((((w11.setCell ⟨gb333, 0, none⟩ (.bool t327)).setCell ⟨gb333, 1, none⟩ (.bool t328)).setCell ⟨gb333, 2, none⟩ (.slice Ao13 t329.length co13)).setCell ⟨gb333, 3, none⟩ (.int .i64 t332)) = w14 at n0_ n1_ n2_ ⊢
    have HO331 := n0_; have BK333 := n1_; have HB := n2_; clear n0_ n1_ n2_
    have n0_ := Aside0.mk (Kd.V_drew HO331.out)
    have n1_ := Aside0.mk (blk_drew BK333.out)
    have n2_ := Aside0.mk (below_drew1 HB.out)
    clear HO331 BK333 HB; have HO331 := n0_; have BK333 := n1_; have HB := n2_; clear n0_ n1_ n2_
    refine start_ (n := 6) (S := fun w' => w'.cell? ⟨gb333, 0, none⟩ = some (.bool t327) ∧ w'.cell? ⟨gb333, 1, none⟩ = some (.bool t328) ∧ w'.cell? ⟨gb333, 2, none⟩ = some (.slice Ao13 t329.length co13) ∧ w'.cell? ⟨gb333, 3, none⟩ = some (.int .i64 t332)) (ds := []) (bmk 0 6) (by kernel_rfl) rfl rfl ⟨(blk_cell BK333.out 0).trans rfl, (blk_cell BK333.out 1).trans rfl, (blk_cell BK333.out 2).trans rfl, (blk_cell BK333.out 3).trans rfl⟩ (fun hHeld => ?_)
    generalize w14.drew = w15 at HO331 BK333 HB hHeld ⊢
    refine pure_ (i := 0) (N := some 28) (v := ?_) (a' := ?_) (bmk 1 5) rfl rfl (by kernel_rfl) (fun _ _ _ h => h) (Or.inl ⟨by rfl, ?_⟩) ?_ ?_
    rotate_left; focus (intro w'; go_simp; with_reducible rfl)
    rotate_left; focus (simp only [apz, i64_w, i32_w]; rfl)
    refine take_ (i := 1) (N := some 29) (v := ?_) (a' := ?_) (bmk 2 4) rfl rfl (by kernel_rfl) (fun _ _ _ h => h) (Or.inl ⟨by rfl, ?_⟩) hHeld ?_ ?_
    rotate_left
    ·
     rintro w' ⟨s0, s1, s2, s3⟩
     go_simp
     with_reducible rfl
    rotate_left; focus (simp only [apz, i64_w, i32_w]; rfl)
    refine join_ (σ := Value × Value × Nat) 1 (bmk 5 1) (fun s_ => [(30, .agg #[.bool t334, s_.1]), (31, .agg #[.bool t338, s_.2.1]), (7, .pointer (some ⟨s_.2.2, 0, none⟩))]) (fun s_ w' => (w'.cell? ⟨gb333, 0, none⟩ = some (.bool t327) ∧ w'.cell? ⟨gb333, 1, none⟩ = some (.bool t328) ∧ w'.cell? ⟨gb333, 2, none⟩ = some (.slice Ao13 t329.length co13) ∧ w'.cell? ⟨gb333, 3, none⟩ = some (.int .i64 t332)) ∧ (Kd.V (Kd.int .i64) 3 w' w.heap.size (fun k_ => k_ ≠ gb333 ∧ k_ ≠ s_.2.2) (.slice Ao13 t329.length co13) t329) ∧ (Kd.V (Kd.int .i64) 3 w' w.heap.size (fun k_ => k_ ≠ gb333 ∧ k_ ≠ s_.2.2) s_.1 t335) ∧ (Kd.V (Kd.int .i64) 3 w' w.heap.size (fun k_ => k_ ≠ gb333 ∧ k_ ≠ s_.2.2) s_.2.1 t339) ∧ (w'.heap[gb333]? = some (.cells #[.bool t327, .bool t328, .slice Ao13 t329.length co13, .int .i64 t332] 71 (0, 0))) ∧ (w'.heap[s_.2.2]? = some (.cells #[.bool false, .slice none 0 0] 69 (0, 0))) ∧ (w.heap.size ≤ s_.2.2) ∧ (w.heap.size ≤ s_.2.2) ∧ (gb333 ≠ s_.2.2) ∧ (s_.2.2 ≠ gb333) ∧ (Below w.heap.size w w')) ?_ ?_
    rotate_left
    ·
     intro hCont
     refine two_ (i := 2) (j := 4) (Ni := some 30) (Nj := some 7) (bmk 3 3) #[true, true, false, false, true, false] rfl rfl rfl rfl (by kernel_rfl) (by decide) (by decide) (fun K hK => ?_) (fun K hK => ?_)
     ·
      skip
      refine goes_ Tryd.func39 (by kernel_rfl) rfl #[.int .i64 65536] (by rfl) rfl rfl (by (try simp only [List.map_toArray, List.map_cons, List.map_nil]); first | done | rfl | (simp only [List.length_drop, List.length_take]; rfl)) ?_
      with_reducible refine (pointillistref04_small.calls kj2 65536 t334 t335 _ A7.out).mono ?_
      rintro e w16 ⟨v336, rfl, ho0, hb⟩
      refine ⟨_, rfl, ?_⟩
      have n0_ := Aside0.mk (Kd.V_below (vq HO331.out) hb)
      have n1_ := Aside0.mk (Kd.V_lower (Kd.V_mono (ok' := fun k_ => k_ ≠ gb333) ho0 (fun k_ hk_ => (Kd.freshB (bq BK333.out) k_ hk_))) (below_size (wq HB.out)))
      have n2_ := Aside0.mk (blk_below (bq BK333.out) hb)
      have n3_ := Aside0.mk (below_step (wq HB.out) hb)
      clear HO331 BK333 HB; have HO331 := n0_; have HO337 := n1_; have BK333 := n2_; have HB := n3_; clear n0_ n1_ n2_ n3_
      (try clear hb)
      (try clear hb2)
      (try clear hk)
      (try clear hi)
      (try clear ho0)
      obtain ⟨Ao17, co17, eo17⟩ := Kd.V_slice HO337.out
      (first | subst eo17 | (injection eo17 with f1_ f2_ f3_; have f4_ := f1_.symm; have f5_ := f3_.symm; clear f1_ f2_ f3_; subst f4_; subst f5_))
      refine hK.out _ _ ⟨(blk_cell BK333.out 0).trans rfl, (blk_cell BK333.out 1).trans rfl, (blk_cell BK333.out 2).trans rfl, (blk_cell BK333.out 3).trans rfl⟩ (fun hHeld => ?_)
      clear hK K
      refine norm_ (a' := ?_) ?_ ?_
      rotate_left
      ·
       show Act.put _ (some 30) _ = _
       simp only [apz, i64_w, i32_w]
       rfl
      refine two_ (i := 3) (j := 4) (Ni := some 31) (Nj := some 7) (bmk 4 2) #[true, true, true, false, true, false] rfl rfl rfl rfl (by kernel_rfl) (by decide) (by decide) (fun K hK => ?_) (fun K hK => ?_)
      ·
       skip
       refine goes_ Tryd.func38 (by kernel_rfl) rfl #[.agg #[.bool t328, .slice Ao13 t329.length co13], .agg #[.bool t334, .slice Ao17 t335.length co17]] (by rfl) rfl rfl (by (try simp only [List.map_toArray, List.map_cons, List.map_nil]); first | done | rfl | (simp only [List.length_drop, List.length_take]; rfl)) ?_
       with_reducible refine (pointillistref01_Mul.calls kj2 t328 _ _ t329 t334 _ _ t335 t338 t339 _ ?side1 ?side2 ?side3 ?side4 A8.out).mono ?_
       (case side1 => exact cq (Kd.V_reads' HO331.out).2.2)
       (case side2 => exact (Kd.V_reads' HO331.out).2.1)
       (case side3 => exact cq (Kd.V_reads' HO337.out).2.2)
       (case side4 => exact (Kd.V_reads' HO337.out).2.1)
       rintro e w18 ⟨v340, rfl, ho0, hb⟩
       refine ⟨_, rfl, ?_⟩
       have n0_ := Aside0.mk (Kd.V_below (vq HO331.out) hb)
       have n1_ := Aside0.mk (Kd.V_below (vq HO337.out) hb)
       have n2_ := Aside0.mk (Kd.V_lower (Kd.V_mono (ok' := fun k_ => k_ ≠ gb333) ho0 (fun k_ hk_ => (Kd.freshB (bq BK333.out) k_ hk_))) (below_size (wq HB.out)))
       have n3_ := Aside0.mk (blk_below (bq BK333.out) hb)
       have n4_ := Aside0.mk (below_step (wq HB.out) hb)
       clear HO331 HO337 BK333 HB; have HO331 := n0_; have HO337 := n1_; have HO341 := n2_; have BK333 := n3_; have HB := n4_; clear n0_ n1_ n2_ n3_ n4_
       (try clear hb)
       (try clear hb2)
       (try clear hk)
       (try clear hi)
       (try clear ho0)
       refine hK.out _ _ ⟨(blk_cell BK333.out 0).trans rfl, (blk_cell BK333.out 1).trans rfl, (blk_cell BK333.out 2).trans rfl, (blk_cell BK333.out 3).trans rfl⟩ (fun hHeld => ?_)
       clear hK K
       refine norm_ (a' := ?_) ?_ ?_
       rotate_left
       ·
        show Act.put _ (some 31) _ = _
        simp only [apz, i64_w, i32_w]
        rfl
       refine one_ (i := 4) (N := some 7) (bmk 5 1) rfl rfl (by kernel_rfl) (by decide) (fun K hK => ?_)
       refine box_step ?hg (N := 7) ?hd (cs := #[.bool false, .slice none 0 0]) (t := 69) ?hr ?_; (case hd => rfl); (case hg => rfl); (case hr => first | (go_simp; done) | (go_simp; rfl))
       intro gb342 hg w19 hbox hb
       have n0_ := Aside0.mk (Kd.V_below (Kd.V_elderB (vq HO331.out) gb342 (Nat.le_of_eq hg.symm)) hb)
       have n1_ := Aside0.mk (Kd.V_below (Kd.V_elderB (vq HO337.out) gb342 (Nat.le_of_eq hg.symm)) hb)
       have n2_ := Aside0.mk (Kd.V_below (Kd.V_elderB (vq HO341.out) gb342 (Nat.le_of_eq hg.symm)) hb)
       have n3_ := Aside0.mk (blk_below (bq BK333.out) hb)
       have n4_ := Aside0.mk (below_step (wq HB.out) hb)
       have n5_ := Aside0.mk (hbox)
       have n6_ := Aside0.mk ((by rw [hg]; exact (below_size (wq HB.out)) : w.heap.size ≤ gb342))
       have n7_ := Aside0.mk ((by rw [hg]; exact (below_size (wq HB.out)) : w.heap.size ≤ gb342))
       have n8_ := Aside0.mk ((by rw [hg]; exact Nat.ne_of_lt (blk_lt (bq BK333.out)) : gb333 ≠ gb342))
       have n9_ := Aside0.mk ((by rw [hg]; exact Nat.ne_of_gt (blk_lt (bq BK333.out)) : gb342 ≠ gb333))
       clear HO331 HO337 HO341 BK333; clear HB; have HO331 := n0_; have HO337 := n1_; have HO341 := n2_; have BK333 := n3_; have HB := n4_; have BK342 := n5_; have GW342 := n6_; have GE342 := n7_; have NB333_342 := n8_; have NB342_333 := n9_; clear n0_ n1_ n2_ n3_ n4_ n5_ n6_ n7_ n8_ n9_ hb hbox hg
       refine hK.out _ _ ⟨(blk_cell BK333.out 0).trans rfl, (blk_cell BK333.out 1).trans rfl, (blk_cell BK333.out 2).trans rfl, (blk_cell BK333.out 3).trans rfl⟩ (fun hHeld => ?_)
       clear hK K
       refine norm_ (a' := ?_) ?_ ?_
       rotate_left
       ·
        show Act.put _ (some 7) _ = _
        simp only [apz, i64_w, i32_w]
        rfl
       exact norm_ (by simp only [putAll, apz]) (hCont (.slice Ao17 t335.length co17, v340, gb342) _ ⟨hHeld, (vq HO331.out), (vq HO337.out), (vq HO341.out), (bq BK333.out), (bq BK342.out), GW342.out, GE342.out, NB333_342.out, NB342_333.out, (wq HB.out)⟩)
      ·
       skip
       refine box_step ?hg (N := 7) ?hd (cs := #[.bool false, .slice none 0 0]) (t := 69) ?hr ?_; (case hd => rfl); (case hg => rfl); (case hr => first | (go_simp; done) | (go_simp; rfl))
       intro gb342 hg w17 hbox hb
       have n0_ := Aside0.mk (Kd.V_below (Kd.V_elderB (vq HO331.out) gb342 (Nat.le_of_eq hg.symm)) hb)
       have n1_ := Aside0.mk (Kd.V_below (Kd.V_elderB (vq HO337.out) gb342 (Nat.le_of_eq hg.symm)) hb)
       have n2_ := Aside0.mk (blk_below (bq BK333.out) hb)
       have n3_ := Aside0.mk (below_step (wq HB.out) hb)
       have n4_ := Aside0.mk (hbox)
       have n5_ := Aside0.mk ((by rw [hg]; exact (below_size (wq HB.out)) : w.heap.size ≤ gb342))
       have n6_ := Aside0.mk ((by rw [hg]; exact (below_size (wq HB.out)) : w.heap.size ≤ gb342))
       have n7_ := Aside0.mk ((by rw [hg]; exact Nat.ne_of_lt (blk_lt (bq BK333.out)) : gb333 ≠ gb342))
       have n8_ := Aside0.mk ((by rw [hg]; exact Nat.ne_of_gt (blk_lt (bq BK333.out)) : gb342 ≠ gb333))
       clear HO331 HO337 BK333 HB; have HO331 := n0_; have HO337 := n1_; have BK333 := n2_; have HB := n3_; have BK342 := n4_; have GW342 := n5_; have GE342 := n6_; have NB333_342 := n7_; have NB342_333 := n8_; clear n0_ n1_ n2_ n3_ n4_ n5_ n6_ n7_ n8_ hb hbox hg
       obtain ⟨Ao18, co18, eo18⟩ := Kd.V_slice HO337.out
       (first | subst eo18 | (injection eo18 with f1_ f2_ f3_; have f4_ := f1_.symm; have f5_ := f3_.symm; clear f1_ f2_ f3_; subst f4_; subst f5_))
       refine hK.out _ _ ⟨(blk_cell BK333.out 0).trans rfl, (blk_cell BK333.out 1).trans rfl, (blk_cell BK333.out 2).trans rfl, (blk_cell BK333.out 3).trans rfl⟩ (fun hHeld => ?_)
       clear hK K
       refine norm_ (a' := ?_) ?_ ?_
       rotate_left
       ·
        show Act.put _ (some 7) _ = _
        simp only [apz, i64_w, i32_w]
        rfl
       refine one_ (i := 3) (N := some 31) (bmk 5 1) rfl rfl (by kernel_rfl) (by decide) (fun K hK => ?_)
       refine goes_ Tryd.func38 (by kernel_rfl) rfl #[.agg #[.bool t328, .slice Ao13 t329.length co13], .agg #[.bool t334, .slice Ao18 t335.length co18]] (by rfl) rfl rfl (by (try simp only [List.map_toArray, List.map_cons, List.map_nil]); first | done | rfl | (simp only [List.length_drop, List.length_take]; rfl)) ?_
       with_reducible refine (pointillistref01_Mul.calls kj2 t328 _ _ t329 t334 _ _ t335 t338 t339 _ ?side1 ?side2 ?side3 ?side4 A8.out).mono ?_
       (case side1 => exact cq (Kd.V_reads' HO331.out).2.2)
       (case side2 => exact (Kd.V_reads' HO331.out).2.1)
       (case side3 => exact cq (Kd.V_reads' HO337.out).2.2)
       (case side4 => exact (Kd.V_reads' HO337.out).2.1)
       rintro e w19 ⟨v340, rfl, ho0, hb⟩
       refine ⟨_, rfl, ?_⟩
       have n0_ := Aside0.mk (Kd.V_below (vq HO331.out) hb)
       have n1_ := Aside0.mk (Kd.V_below (vq HO337.out) hb)
       have n2_ := Aside0.mk (Kd.V_lower (Kd.V_mono (ok' := fun k_ => k_ ≠ gb333 ∧ k_ ≠ gb342) ho0 (fun k_ hk_ => ⟨(Kd.freshB (bq BK333.out) k_ hk_), (Kd.freshB (bq BK342.out) k_ hk_)⟩)) (below_size (wq HB.out)))
       have n3_ := Aside0.mk (blk_below (bq BK333.out) hb)
       have n4_ := Aside0.mk (blk_below (bq BK342.out) hb)
       have n5_ := Aside0.mk (below_step (wq HB.out) hb)
       clear HO331 HO337 BK333 BK342; clear HB; have HO331 := n0_; have HO337 := n1_; have HO341 := n2_; have BK333 := n3_; have BK342 := n4_; have HB := n5_; clear n0_ n1_ n2_ n3_ n4_ n5_
       (try clear hb)
       (try clear hb2)
       (try clear hk)
       (try clear hi)
       (try clear ho0)
       refine hK.out _ _ ⟨(blk_cell BK333.out 0).trans rfl, (blk_cell BK333.out 1).trans rfl, (blk_cell BK333.out 2).trans rfl, (blk_cell BK333.out 3).trans rfl⟩ (fun hHeld => ?_)
       clear hK K
       refine norm_ (a' := ?_) ?_ ?_
       rotate_left
       ·
        show Act.put _ (some 31) _ = _
        simp only [apz, i64_w, i32_w]
        rfl
       exact norm_ (by simp only [putAll, apz]) (hCont (.slice Ao18 t335.length co18, v340, gb342) _ ⟨hHeld, (vq HO331.out), (vq HO337.out), (vq HO341.out), (bq BK333.out), (bq BK342.out), GW342.out, GE342.out, NB333_342.out, NB342_333.out, (wq HB.out)⟩)
     ·
      skip
      refine box_step ?hg (N := 7) ?hd (cs := #[.bool false, .slice none 0 0]) (t := 69) ?hr ?_; (case hd => rfl); (case hg => rfl); (case hr => first | (go_simp; done) | (go_simp; rfl))
      intro gb342 hg w16 hbox hb
      have n0_ := Aside0.mk (Kd.V_below (Kd.V_elderB (vq HO331.out) gb342 (Nat.le_of_eq hg.symm)) hb)
      have n1_ := Aside0.mk (blk_below (bq BK333.out) hb)
      have n2_ := Aside0.mk (below_step (wq HB.out) hb)
      have n3_ := Aside0.mk (hbox)
      have n4_ := Aside0.mk ((by rw [hg]; exact (below_size (wq HB.out)) : w.heap.size ≤ gb342))
      have n5_ := Aside0.mk ((by rw [hg]; exact (below_size (wq HB.out)) : w.heap.size ≤ gb342))
      have n6_ := Aside0.mk ((by rw [hg]; exact Nat.ne_of_lt (blk_lt (bq BK333.out)) : gb333 ≠ gb342))
      have n7_ := Aside0.mk ((by rw [hg]; exact Nat.ne_of_gt (blk_lt (bq BK333.out)) : gb342 ≠ gb333))
      clear HO331 BK333 HB; have HO331 := n0_; have BK333 := n1_; have HB := n2_; have BK342 := n3_; have GW342 := n4_; have GE342 := n5_; have NB333_342 := n6_; have NB342_333 := n7_; clear n0_ n1_ n2_ n3_ n4_ n5_ n6_ n7_ hb hbox hg
      refine hK.out _ _ ⟨(blk_cell BK333.out 0).trans rfl, (blk_cell BK333.out 1).trans rfl, (blk_cell BK333.out 2).trans rfl, (blk_cell BK333.out 3).trans rfl⟩ (fun hHeld => ?_)
      clear hK K
      refine norm_ (a' := ?_) ?_ ?_
      rotate_left
      ·
       show Act.put _ (some 7) _ = _
       simp only [apz, i64_w, i32_w]
       rfl
      refine one_ (i := 2) (N := some 30) #[true, true, true, false, true, false] rfl rfl (by kernel_rfl) (by decide) (fun K hK => ?_)
      refine goes_ Tryd.func39 (by kernel_rfl) rfl #[.int .i64 65536] (by rfl) rfl rfl (by (try simp only [List.map_toArray, List.map_cons, List.map_nil]); first | done | rfl | (simp only [List.length_drop, List.length_take]; rfl)) ?_
      with_reducible refine (pointillistref04_small.calls kj2 65536 t334 t335 _ A7.out).mono ?_
      rintro e w17 ⟨v336, rfl, ho0, hb⟩
      refine ⟨_, rfl, ?_⟩
      have n0_ := Aside0.mk (Kd.V_below (vq HO331.out) hb)
      have n1_ := Aside0.mk (Kd.V_lower (Kd.V_mono (ok' := fun k_ => k_ ≠ gb333 ∧ k_ ≠ gb342) ho0 (fun k_ hk_ => ⟨(Kd.freshB (bq BK333.out) k_ hk_), (Kd.freshB (bq BK342.out) k_ hk_)⟩)) (below_size (wq HB.out)))
      have n2_ := Aside0.mk (blk_below (bq BK333.out) hb)
      have n3_ := Aside0.mk (blk_below (bq BK342.out) hb)
      have n4_ := Aside0.mk (below_step (wq HB.out) hb)
      clear HO331 BK333 BK342 HB; have HO331 := n0_; have HO337 := n1_; have BK333 := n2_; have BK342 := n3_; have HB := n4_; clear n0_ n1_ n2_ n3_ n4_
      (try clear hb)
      (try clear hb2)
      (try clear hk)
      (try clear hi)
      (try clear ho0)
      obtain ⟨Ao18, co18, eo18⟩ := Kd.V_slice HO337.out
      (first | subst eo18 | (injection eo18 with f1_ f2_ f3_; have f4_ := f1_.symm; have f5_ := f3_.symm; clear f1_ f2_ f3_; subst f4_; subst f5_))
      refine hK.out _ _ ⟨(blk_cell BK333.out 0).trans rfl, (blk_cell BK333.out 1).trans rfl, (blk_cell BK333.out 2).trans rfl, (blk_cell BK333.out 3).trans rfl⟩ (fun hHeld => ?_)
      clear hK K
      refine norm_ (a' := ?_) ?_ ?_
      rotate_left
      ·
       show Act.put _ (some 30) _ = _
       simp only [apz, i64_w, i32_w]
       rfl
      refine one_ (i := 3) (N := some 31) (bmk 5 1) rfl rfl (by kernel_rfl) (by decide) (fun K hK => ?_)
      refine goes_ Tryd.func38 (by kernel_rfl) rfl #[.agg #[.bool t328, .slice Ao13 t329.length co13], .agg #[.bool t334, .slice Ao18 t335.length co18]] (by rfl) rfl rfl (by (try simp only [List.map_toArray, List.map_cons, List.map_nil]); first | done | rfl | (simp only [List.length_drop, List.length_take]; rfl)) ?_
      with_reducible refine (pointillistref01_Mul.calls kj2 t328 _ _ t329 t334 _ _ t335 t338 t339 _ ?side1 ?side2 ?side3 ?side4 A8.out).mono ?_
      (case side1 => exact cq (Kd.V_reads' HO331.out).2.2)
      (case side2 => exact (Kd.V_reads' HO331.out).2.1)
      (case side3 => exact cq (Kd.V_reads' HO337.out).2.2)
      (case side4 => exact (Kd.V_reads' HO337.out).2.1)
      rintro e w19 ⟨v340, rfl, ho0, hb⟩
      refine ⟨_, rfl, ?_⟩
      have n0_ := Aside0.mk (Kd.V_below (vq HO331.out) hb)
      have n1_ := Aside0.mk (Kd.V_below (vq HO337.out) hb)
      have n2_ := Aside0.mk (Kd.V_lower (Kd.V_mono (ok' := fun k_ => k_ ≠ gb333 ∧ k_ ≠ gb342) ho0 (fun k_ hk_ => ⟨(Kd.freshB (bq BK333.out) k_ hk_), (Kd.freshB (bq BK342.out) k_ hk_)⟩)) (below_size (wq HB.out)))
      have n3_ := Aside0.mk (blk_below (bq BK333.out) hb)
      have n4_ := Aside0.mk (blk_below (bq BK342.out) hb)
      have n5_ := Aside0.mk (below_step (wq HB.out) hb)
      clear HO331 HO337 BK333 BK342; clear HB; have HO331 := n0_; have HO337 := n1_; have HO341 := n2_; have BK333 := n3_; have BK342 := n4_; have HB := n5_; clear n0_ n1_ n2_ n3_ n4_ n5_
      (try clear hb)
      (try clear hb2)
      (try clear hk)
      (try clear hi)
      (try clear ho0)
      refine hK.out _ _ ⟨(blk_cell BK333.out 0).trans rfl, (blk_cell BK333.out 1).trans rfl, (blk_cell BK333.out 2).trans rfl, (blk_cell BK333.out 3).trans rfl⟩ (fun hHeld => ?_)
      clear hK K
      refine norm_ (a' := ?_) ?_ ?_
      rotate_left
      ·
       show Act.put _ (some 31) _ = _
       simp only [apz, i64_w, i32_w]
       rfl
      exact norm_ (by simp only [putAll, apz]) (hCont (.slice Ao18 t335.length co18, v340, gb342) _ ⟨hHeld, (vq HO331.out), (vq HO337.out), (vq HO341.out), (bq BK333.out), (bq BK342.out), GW342.out, GE342.out, NB333_342.out, NB342_333.out, (wq HB.out)⟩)
    rintro ⟨v336, v340, gb342⟩ w20 ⟨hS_, h0_, h1_, h2_, h3_, h4_, h5_, h6_, h7_, h8_, h9_⟩
    have n0_ : Aside0 (Kd.V (Kd.int .i64) 3 w20 w.heap.size (fun k_ => k_ ≠ gb333 ∧ k_ ≠ gb342) (.slice Ao13 t329.length co13) t329) := ⟨h0_⟩
    have n1_ : Aside0 (Kd.V (Kd.int .i64) 3 w20 w.heap.size (fun k_ => k_ ≠ gb333 ∧ k_ ≠ gb342) v336 t335) := ⟨h1_⟩
    have n2_ : Aside0 (Kd.V (Kd.int .i64) 3 w20 w.heap.size (fun k_ => k_ ≠ gb333 ∧ k_ ≠ gb342) v340 t339) := ⟨h2_⟩
    have n3_ : Aside0 (w20.heap[gb333]? = some (.cells #[.bool t327, .bool t328, .slice Ao13 t329.length co13, .int .i64 t332] 71 (0, 0))) := ⟨h3_⟩
    have n4_ : Aside0 (w20.heap[gb342]? = some (.cells #[.bool false, .slice none 0 0] 69 (0, 0))) := ⟨h4_⟩
    have n5_ : Aside0 (w.heap.size ≤ gb342) := ⟨h5_⟩
    have n6_ : Aside0 (w.heap.size ≤ gb342) := ⟨h6_⟩
    have n7_ : Aside0 (gb333 ≠ gb342) := ⟨h7_⟩
    have n8_ : Aside0 (gb342 ≠ gb333) := ⟨h8_⟩
    have n9_ : Aside0 (Below w.heap.size w w20) := ⟨h9_⟩
    clear HO331 BK333 HB h0_ h1_ h2_ h3_ h4_ h5_ h6_ h7_ h8_ h9_; have HO331 := n0_; have HO337 := n1_; have HO341 := n2_; have BK333 := n3_; have BK342 := n4_; have GW342 := n5_; have GE342 := n6_; have NB333_342 := n7_; have NB342_333 := n8_; have HB := n9_; clear n0_ n1_ n2_ n3_ n4_ n5_ n6_ n7_ n8_ n9_
    have hHeld : w20.cell? ⟨gb333, 0, none⟩ = some (.bool t327) ∧ w20.cell? ⟨gb333, 1, none⟩ = some (.bool t328) ∧ w20.cell? ⟨gb333, 2, none⟩ = some (.slice Ao13 t329.length co13) ∧ w20.cell? ⟨gb333, 3, none⟩ = some (.int .i64 t332) := hS_
    obtain ⟨Ao22, co22, eo22⟩ := Kd.V_slice HO341.out
    (first | subst eo22 | (injection eo22 with f1_ f2_ f3_; have f4_ := f1_.symm; have f5_ := f3_.symm; clear f1_ f2_ f3_; subst f4_; subst f5_))
    refine norm_ (a' := ?_) ?_ ?_
    rotate_left
    ·
     simp only [putAll, apz]
     rfl
    refine one_ (i := 5) (N := none) (bmk 6 0) rfl rfl (by kernel_rfl) (by decide) (fun K hK => ?_)
    have hs21 : w20.cell? ⟨gb342, 0, none⟩ = some (.bool false) := (blk_cell BK342.out 0).trans rfl
    have hfs21 := blk_frozen BK342.out 0
    have hns21_0 := NB333_342.out
    have hms21_0 := NB342_333.out
    have hs23 : w20.cell? ⟨gb342, 1, none⟩ = some (.slice none 0 0) := (blk_cell BK342.out 1).trans rfl
    have hfs23 := blk_frozen BK342.out 1
    have hns23_0 := NB333_342.out
    have hms23_0 := NB342_333.out
    refine skip_ (w1 := ?_) (by rfl) rfl ?_ ?_
    rotate_left
    ·
     go_simp
     rfl
    refine hK.out _ _ ⟨(cf NB333_342.out ((cf NB333_342.out (hHeld.1)))), (cf NB333_342.out ((cf NB333_342.out (hHeld.2.1)))), (cf NB333_342.out ((cf NB333_342.out (hHeld.2.2.1)))), (cf NB333_342.out ((cf NB333_342.out (hHeld.2.2.2))))⟩ (fun hHeld => ?_)
    clear hK K
    refine done_ (by kernel_rfl) ?_
    try go_wp2_with (first | ((with_reducible refine gate_callee (f := 39) rfl ?_); refine goesL_ (some 32) rfl rfl Tryd.func39 (by kernel_rfl) rfl #[.int .i64 1] rfl (by (try simp only [List.map_toArray, List.map_cons, List.map_nil]); first | done | rfl | (simp only [List.length_drop, List.length_take]; rfl)) ?_; (with_reducible refine (pointillistref04_small.calls kj2 1 t343 t344 _ A9.out).mono ?_); rintro e w24 ⟨v345, rfl, ho0, hb⟩; refine ⟨_, rfl, ?_⟩; have n0_ := Aside0.mk (Kd.V_below (by apply vq; exact (Kd.V_mono (Kd.V_far (p := ⟨gb342, 1, none⟩) (Kd.V_far (p := ⟨gb342, 0, none⟩) (Kd.V_mono HO331.out (fun k_ hk => (⟨hk, hk.2⟩ : _ ∧ k_ ≠ gb342))) (fun _ hk => hk.2) (.bool t338)) (fun _ hk => hk.2) (.slice Ao22 t339.length co22)) (fun _ h_ => h_.1))) hb); have n1_ := Aside0.mk (Kd.V_below (by apply vq; exact (Kd.V_mono (Kd.V_far (p := ⟨gb342, 1, none⟩) (Kd.V_far (p := ⟨gb342, 0, none⟩) (Kd.V_mono HO337.out (fun k_ hk => (⟨hk, hk.2⟩ : _ ∧ k_ ≠ gb342))) (fun _ hk => hk.2) (.bool t338)) (fun _ hk => hk.2) (.slice Ao22 t339.length co22)) (fun _ h_ => h_.1))) hb); have n2_ := Aside0.mk (Kd.V_below (by apply vq; exact (Kd.V_mono (Kd.V_far (p := ⟨gb342, 1, none⟩) (Kd.V_far (p := ⟨gb342, 0, none⟩) (Kd.V_mono HO341.out (fun k_ hk => (⟨hk, hk.2⟩ : _ ∧ k_ ≠ gb342))) (fun _ hk => hk.2) (.bool t338)) (fun _ hk => hk.2) (.slice Ao22 t339.length co22)) (fun _ h_ => h_.1))) hb); have n3_ := Aside0.mk (Kd.V_lower (Kd.V_mono (ok' := fun k_ => k_ ≠ gb333 ∧ k_ ≠ gb342) ho0 (fun k_ hk_ => ⟨(Kd.freshB (g := gb333) (o := .cells #[.bool t327, .bool t328, .slice Ao13 t329.length co13, .int .i64 t332] 71 (0, 0)) (by refine bq ?_; refine blk_far ?_ NB333_342.out _; refine bq ?_; refine blk_far ?_ NB333_342.out _; refine bq ?_; exact BK333.out) k_ hk_), (Kd.freshB (g := gb342) (o := .cells #[.bool t338, .slice Ao22 t339.length co22] 69 (0, 0)) (by refine bq ?_; refine blk_put (cs := #[.bool t338, .slice none 0 0]) ?_ 1 _ rfl; refine bq ?_; refine blk_put (cs := #[.bool false, .slice none 0 0]) ?_ 0 _ rfl; refine bq ?_; exact BK342.out) k_ hk_)⟩)) (below_size (wq HB.out))); have n4_ := Aside0.mk (blk_below (g := gb333) (o := .cells #[.bool t327, .bool t328, .slice Ao13 t329.length co13, .int .i64 t332] 71 (0, 0)) (by refine bq ?_; refine blk_far ?_ NB333_342.out _; refine bq ?_; refine blk_far ?_ NB333_342.out _; refine bq ?_; exact BK333.out) hb); have n5_ := Aside0.mk (blk_below (g := gb342) (o := .cells #[.bool t338, .slice Ao22 t339.length co22] 69 (0, 0)) (by refine bq ?_; refine blk_put (cs := #[.bool t338, .slice none 0 0]) ?_ 1 _ rfl; refine bq ?_; refine blk_put (cs := #[.bool false, .slice none 0 0]) ?_ 0 _ rfl; refine bq ?_; exact BK342.out) hb); have n6_ := Aside0.mk (below_step (wq HB.out) hb); clear HO331 HO337 HO341 BK333; clear BK342 HB; have HO331 := n0_; have HO337 := n1_; have HO341 := n2_; have HO346 := n3_; have BK333 := n4_; have BK342 := n5_; have HB := n6_; clear n0_ n1_ n2_ n3_ n4_ n5_ n6_; (try clear hb); (try clear hb2); (try clear hk); (try clear hi); (try clear ho0)) | ((with_reducible refine gate_dst (N := 8) rfl ?_); (try (refine gate_guard (by rfl) ?_; dsimp only)); refine box_event ?hg (N := 8) ?hd (cs := #[.bool false, .slice none 0 0]) (t := 69) ?hr ?_; (case hd => rfl); (case hg => rfl); (case hr => first | (go_simp; done) | (go_simp; rfl)); intro gb347 hg w25 hbox hb; have n0_ := Aside0.mk (Kd.V_below (Kd.V_elderB (vq HO331.out) gb347 (Nat.le_of_eq hg.symm)) hb); have n1_ := Aside0.mk (Kd.V_below (Kd.V_elderB (vq HO337.out) gb347 (Nat.le_of_eq hg.symm)) hb); have n2_ := Aside0.mk (Kd.V_below (Kd.V_elderB (vq HO341.out) gb347 (Nat.le_of_eq hg.symm)) hb); have n3_ := Aside0.mk (Kd.V_below (Kd.V_elderB (vq HO346.out) gb347 (Nat.le_of_eq hg.symm)) hb); have n4_ := Aside0.mk (blk_below (bq BK333.out) hb); have n5_ := Aside0.mk (blk_below (bq BK342.out) hb); have n6_ := Aside0.mk (below_step (wq HB.out) hb); have n7_ := Aside0.mk (hbox); have n8_ := Aside0.mk ((by rw [hg]; exact (below_size (wq HB.out)) : w.heap.size ≤ gb347)); have n9_ := n8_; have n10_ := Aside0.mk ((by rw [hg]; exact Nat.ne_of_lt (blk_lt (bq BK333.out)) : gb333 ≠ gb347)); have n11_ := Aside0.mk ((by rw [hg]; exact Nat.ne_of_gt (blk_lt (bq BK333.out)) : gb347 ≠ gb333)); have n12_ := Aside0.mk ((by rw [hg]; exact Nat.ne_of_lt (blk_lt (bq BK342.out)) : gb342 ≠ gb347)); have n13_ := Aside0.mk ((by rw [hg]; exact Nat.ne_of_gt (blk_lt (bq BK342.out)) : gb347 ≠ gb342)); clear HO331 HO337 HO341 HO346; clear BK333 BK342 HB; have HO331 := n0_; have HO337 := n1_; have HO341 := n2_; have HO346 := n3_; have BK333 := n4_; have BK342 := n5_; have HB := n6_; have BK347 := n7_; have GW347 := n8_; have GE347 := n9_; have NB333_347 := n10_; have NB347_333 := n11_; have NB342_347 := n12_; have NB347_342 := n13_; clear n0_ n1_ n2_ n3_ n4_ n5_ n6_ n7_ n8_ n9_ n10_ n11_ n12_ n13_ hb hbox hg; have hnb26 := NB347_333.out; have hnc26 := NB333_347.out; have hnb27 := NB347_342.out; have hnc27 := NB342_347.out; have hcz28_0 : w25.cell? ⟨gb347, 0, none⟩ = some (.bool false) := (blk_cell BK347.out 0).trans rfl; have hcz28_1 : w25.cell? ⟨gb347, 1, none⟩ = some (.slice none 0 0) := (blk_cell BK347.out 1).trans rfl; have hfz28_0 := blk_frozen BK347.out 0; have hfz28_1 := blk_frozen BK347.out 1; obtain ⟨Ao29, co29, eo29⟩ := Kd.V_slice HO346.out; subst eo29))
    go_loopg [9] kj2 (fun kq v9 w' => ∃ (x9_2 : Int) (x343000_2 : Bool) (x343001_2 : List Int) (u343001 : Value), v9 = .int .i64 x9_2 ∧ Aside0 (pointillistref04_Parse.l0 kq x9_2 t327 t328 t329 t332 x343000_2 x343001_2 t343 t344 = some (r1, r2)) ∧ Aside0 (kq ≤ kj2) ∧ Aside0 (Kd.V (Kd.int .i64) 3 w' w.heap.size (fun k_ => k_ ≠ gb333 ∧ k_ ≠ gb342 ∧ k_ ≠ gb347) (.slice Ao13 t329.length co13) t329) ∧ Aside0 (Kd.V (Kd.int .i64) 3 w' w.heap.size (fun k_ => k_ ≠ gb333 ∧ k_ ≠ gb342 ∧ k_ ≠ gb347) u343001 x343001_2) ∧ Aside0 (Kd.V (Kd.int .i64) 3 w' w.heap.size (fun k_ => k_ ≠ gb333 ∧ k_ ≠ gb342 ∧ k_ ≠ gb347) (.slice Ao29 t344.length co29) t344) ∧ Aside0 (w'.heap[gb333]? = some (.cells #[.bool t327, .bool t328, (.slice Ao13 t329.length co13), .int .i64 t332] 71 (0, 0))) ∧ Aside0 (w'.heap[gb342]? = some (.cells #[.bool x343000_2, u343001] 69 (0, 0))) ∧ Aside0 (w'.heap[gb347]? = some (.cells #[.bool t343, (.slice Ao29 t344.length co29)] 69 (0, 0))) ∧ Aside0 (Below w.heap.size w w'))
    case atStart => exact ⟨(0), (t338), (t339), (.slice Ao22 t339.length co22), (by first | rfl | (simp; done) | (simp [*]; done)), H', ⟨Nat.le_refl _⟩, ⟨by apply vq; exact Kd.V_mono (Kd.V_far (p := ⟨gb347, 1, none⟩) (Kd.V_far (p := ⟨gb347, 0, none⟩) (Kd.V_mono HO331.out (fun k_ hk => (⟨hk, hk.2⟩ : _ ∧ k_ ≠ gb347))) (fun _ hk => hk.2) (.bool t343)) (fun _ hk => hk.2) (.slice Ao29 t344.length co29)) (fun _ hk => ⟨hk.1.1.1, ⟨hk.1.1.2, hk.1.2⟩⟩)⟩, ⟨by apply vq; exact Kd.V_mono (Kd.V_far (p := ⟨gb347, 1, none⟩) (Kd.V_far (p := ⟨gb347, 0, none⟩) (Kd.V_mono HO341.out (fun k_ hk => (⟨hk, hk.2⟩ : _ ∧ k_ ≠ gb347))) (fun _ hk => hk.2) (.bool t343)) (fun _ hk => hk.2) (.slice Ao29 t344.length co29)) (fun _ hk => ⟨hk.1.1.1, ⟨hk.1.1.2, hk.1.2⟩⟩)⟩, ⟨by apply vq; exact Kd.V_mono (Kd.V_far (p := ⟨gb347, 1, none⟩) (Kd.V_far (p := ⟨gb347, 0, none⟩) (Kd.V_mono HO346.out (fun k_ hk => (⟨hk, hk.2⟩ : _ ∧ k_ ≠ gb347))) (fun _ hk => hk.2) (.bool t343)) (fun _ hk => hk.2) (.slice Ao29 t344.length co29)) (fun _ hk => ⟨hk.1.1.1, ⟨hk.1.1.2, hk.1.2⟩⟩)⟩, ⟨by refine bq ?_; refine blk_far ?_ NB333_347.out _; refine bq ?_; refine blk_far ?_ NB333_347.out _; refine bq ?_; exact BK333.out⟩, ⟨by refine bq ?_; refine blk_far ?_ NB342_347.out _; refine bq ?_; refine blk_far ?_ NB342_347.out _; refine bq ?_; exact BK342.out⟩, ⟨by refine bq ?_; refine blk_put (cs := #[.bool t343, .slice none 0 0]) ?_ 1 _ rfl; refine bq ?_; refine blk_put (cs := #[.bool false, .slice none 0 0]) ?_ 0 _ rfl; refine bq ?_; exact BK347.out⟩, ⟨by exact wq HB.out⟩⟩
    case round =>
     clear H'
     try clear c1
     try clear c2
     try clear p2
     try clear c3
     try clear c4
     try clear c5
     try clear c13
     try clear c26
     try clear c27
     try clear hcz12_0
     try clear hcz12_1
     try clear hcz12_2
     try clear hcz12_3
     try clear hcz28_0
     try clear hcz28_1
     try clear hfz12_0
     try clear hfz12_1
     try clear hfz12_2
     try clear hfz12_3
     try clear hfz28_0
     try clear hfz28_1
     try clear p2
     obtain ⟨x9_2, x343000_2, x343001_2, u343001, rfl, HA, HK2, HO_334002, HO_343001, HO_348001, BK333, BK342, BK347, HB⟩ := hrel
     cases gk with
     | zero => exact absurd HA.out (by simp [pointillistref04_Parse.l0])
     | succ k2 =>
      have H := HA.out
      clear HA
      simp only [pointillistref04_Parse.l0] at H
      by_cases c30 : x9_2 < t332
      ·
       rw [if_pos c30] at H
       have c30b0 : decide (x9_2 < t332) = true := decide_eq_true c30
       clear c30
       replace H := Option.bind_eq_some_iff.mp H
       obtain ⟨⟨t348, t349⟩, A310, H⟩ := H
       replace H : ((pointillistref01_Mul.f k2 x343000_2 x343001_2 t348 t349).bind fun bt352 => (pointillistref04_Parse.l0 k2 (wrap64 (x9_2 + 1)) t327 t328 t329 t332 bt352.1 bt352.2 t343 t344)) = some (r1, r2) := H
       have A31 := Aside0.mk A310
       clear A310
       replace H := Option.bind_eq_some_iff.mp H
       obtain ⟨⟨t352, t353⟩, A320, H⟩ := H
       replace H : (pointillistref04_Parse.l0 k2 (wrap64 (x9_2 + 1)) t327 t328 t329 t332 t352 t353 t343 t344) = some (r1, r2) := H
       have A32 := Aside0.mk A320
       clear A320
       have H' := Aside0.mk H
       clear H
       have hnb33 := NB333_342.out
       have hnc33 := NB342_333.out
       have hnb34 := NB333_347.out
       have hnc34 := NB347_333.out
       have hcz35_0 : wr.cell? ⟨gb333, 0, none⟩ = some (.bool t327) := (blk_cell BK333.out 0).trans rfl
       have hcz35_1 : wr.cell? ⟨gb333, 1, none⟩ = some (.bool t328) := (blk_cell BK333.out 1).trans rfl
       have hcz35_2 : wr.cell? ⟨gb333, 2, none⟩ = some (.slice Ao13 t329.length co13) := (blk_cell BK333.out 2).trans rfl
       have hcz35_3 : wr.cell? ⟨gb333, 3, none⟩ = some (.int .i64 t332) := (blk_cell BK333.out 3).trans rfl
       have hfz35_0 := blk_frozen BK333.out 0
       have hfz35_1 := blk_frozen BK333.out 1
       have hfz35_2 := blk_frozen BK333.out 2
       have hfz35_3 := blk_frozen BK333.out 3
       try go_wp2
       have n0_ := Aside0.mk (Kd.V_drew HO_334002.out)
       have n1_ := Aside0.mk (Kd.V_drew HO_343001.out)
       have n2_ := Aside0.mk (Kd.V_drew HO_348001.out)
       have n3_ := Aside0.mk (blk_drew BK333.out)
       have n4_ := Aside0.mk (blk_drew BK342.out)
       have n5_ := Aside0.mk (blk_drew BK347.out)
       have n6_ := Aside0.mk (below_drew1 HB.out)
       clear HO_334002 HO_343001 HO_348001 BK333; clear BK342 BK347 HB; have HO_334002 := n0_; have HO_343001 := n1_; have HO_348001 := n2_; have BK333 := n3_; have BK342 := n4_; have BK347 := n5_; have HB := n6_; clear n0_ n1_ n2_ n3_ n4_ n5_ n6_
       refine start_ (n := 4) (S := fun w' => w'.cell? ⟨gb342, 0, none⟩ = some (.bool x343000_2) ∧ w'.cell? ⟨gb342, 1, none⟩ = some (u343001)) (ds := [3]) #[false, false, false, false] (by kernel_rfl) rfl rfl ⟨(blk_cell BK342.out 0).trans rfl, (blk_cell BK342.out 1).trans rfl⟩ (fun hHeld => ?_)
       generalize wr.drew = w36 at HO_334002 HO_343001 HO_348001 BK333 BK342 BK347 HB hHeld ⊢
       refine take_ (i := 0) (N := some 39) (v := ?_) (a' := ?_) #[true, false, false, false] rfl rfl (by kernel_rfl) (fun _ _ _ h => h) (Or.inl ⟨by rfl, ?_⟩) hHeld ?_ ?_
       rotate_left
       ·
        rintro w' ⟨s0, s1⟩
        go_simp
        with_reducible rfl
       rotate_left; focus (simp only [apz, i64_w, i32_w]; rfl)
       refine one_ (i := 1) (N := some 40) #[true, true, false, false] rfl rfl (by kernel_rfl) (by decide) (fun K hK => ?_)
       refine goes_ Tryd.func39 (by kernel_rfl) rfl #[.int .i64 10] (by rfl) rfl rfl (by (try simp only [List.map_toArray, List.map_cons, List.map_nil]); first | done | rfl | (simp only [List.length_drop, List.length_take]; rfl)) ?_
       with_reducible refine (pointillistref04_small.calls k2 10 t348 t349 _ A31.out).mono ?_
       rintro e w37 ⟨v350, rfl, ho0, hb⟩
       refine ⟨_, rfl, ?_⟩
       have n0_ := Aside0.mk (Kd.V_below (vq HO_334002.out) hb)
       have n1_ := Aside0.mk (Kd.V_below (vq HO_343001.out) hb)
       have n2_ := Aside0.mk (Kd.V_below (vq HO_348001.out) hb)
       have n3_ := Aside0.mk (Kd.V_lower (Kd.V_mono (ok' := fun k_ => k_ ≠ gb333 ∧ k_ ≠ gb342 ∧ k_ ≠ gb347) ho0 (fun k_ hk_ => ⟨(Kd.freshB (bq BK333.out) k_ hk_), (Kd.freshB (bq BK342.out) k_ hk_), (Kd.freshB (bq BK347.out) k_ hk_)⟩)) (below_size (wq HB.out)))
       have n4_ := Aside0.mk (blk_below (bq BK333.out) hb)
       have n5_ := Aside0.mk (blk_below (bq BK342.out) hb)
       have n6_ := Aside0.mk (blk_below (bq BK347.out) hb)
       have n7_ := Aside0.mk (below_step (wq HB.out) hb)
       clear HO_334002 HO_343001 HO_348001 BK333; clear BK342 BK347 HB; have HO_334002 := n0_; have HO_343001 := n1_; have HO_348001 := n2_; have HO351 := n3_; have BK333 := n4_; have BK342 := n5_; have BK347 := n6_; have HB := n7_; clear n0_ n1_ n2_ n3_ n4_ n5_ n6_ n7_
       (try clear hb)
       (try clear hb2)
       (try clear hk)
       (try clear hi)
       (try clear ho0)
       obtain ⟨Ao38, co38, eo38⟩ := Kd.V_slice HO_343001.out
       (first | subst eo38 | (injection eo38 with f1_ f2_ f3_; have f4_ := f1_.symm; have f5_ := f3_.symm; clear f1_ f2_ f3_; subst f4_; subst f5_))
       obtain ⟨Ao39, co39, eo39⟩ := Kd.V_slice HO351.out
       (first | subst eo39 | (injection eo39 with f1_ f2_ f3_; have f4_ := f1_.symm; have f5_ := f3_.symm; clear f1_ f2_ f3_; subst f4_; subst f5_))
       refine hK.out _ _ ⟨(blk_cell BK342.out 0).trans rfl, (blk_cell BK342.out 1).trans rfl⟩ (fun hHeld => ?_)
       clear hK K
       refine norm_ (a' := ?_) ?_ ?_
       rotate_left
       ·
        show Act.put _ (some 40) _ = _
        simp only [apz, i64_w, i32_w]
        rfl
       refine one_ (i := 2) (N := some 41) #[true, true, true, false] rfl rfl (by kernel_rfl) (by decide) (fun K hK => ?_)
       refine goes_ Tryd.func38 (by kernel_rfl) rfl #[.agg #[.bool x343000_2, .slice Ao38 x343001_2.length co38], .agg #[.bool t348, .slice Ao39 t349.length co39]] (by rfl) rfl rfl (by (try simp only [List.map_toArray, List.map_cons, List.map_nil]); first | done | rfl | (simp only [List.length_drop, List.length_take]; rfl)) ?_
       with_reducible refine (pointillistref01_Mul.calls k2 x343000_2 _ _ x343001_2 t348 _ _ t349 t352 t353 _ ?side1 ?side2 ?side3 ?side4 A32.out).mono ?_
       (case side1 => exact cq (Kd.V_reads' HO_343001.out).2.2)
       (case side2 => exact (Kd.V_reads' HO_343001.out).2.1)
       (case side3 => exact cq (Kd.V_reads' HO351.out).2.2)
       (case side4 => exact (Kd.V_reads' HO351.out).2.1)
       rintro e w40 ⟨v354, rfl, ho0, hb⟩
       refine ⟨_, rfl, ?_⟩
       have n0_ := Aside0.mk (Kd.V_below (vq HO_334002.out) hb)
       have n1_ := Aside0.mk (Kd.V_below (vq HO_343001.out) hb)
       have n2_ := Aside0.mk (Kd.V_below (vq HO_348001.out) hb)
       have n3_ := Aside0.mk (Kd.V_below (vq HO351.out) hb)
       have n4_ := Aside0.mk (Kd.V_lower (Kd.V_mono (ok' := fun k_ => k_ ≠ gb333 ∧ k_ ≠ gb342 ∧ k_ ≠ gb347) ho0 (fun k_ hk_ => ⟨(Kd.freshB (bq BK333.out) k_ hk_), (Kd.freshB (bq BK342.out) k_ hk_), (Kd.freshB (bq BK347.out) k_ hk_)⟩)) (below_size (wq HB.out)))
       have n5_ := Aside0.mk (blk_below (bq BK333.out) hb)
       have n6_ := Aside0.mk (blk_below (bq BK342.out) hb)
       have n7_ := Aside0.mk (blk_below (bq BK347.out) hb)
       have n8_ := Aside0.mk (below_step (wq HB.out) hb)
       clear HO_334002 HO_343001 HO_348001 HO351; clear BK333 BK342 BK347 HB; have HO_334002 := n0_; have HO_343001 := n1_; have HO_348001 := n2_; have HO351 := n3_; have HO355 := n4_; have BK333 := n5_; have BK342 := n6_; have BK347 := n7_; have HB := n8_; clear n0_ n1_ n2_ n3_ n4_ n5_ n6_ n7_ n8_
       (try clear hb)
       (try clear hb2)
       (try clear hk)
       (try clear hi)
       (try clear ho0)
       obtain ⟨Ao42, co42, eo42⟩ := Kd.V_slice HO355.out
       (first | subst eo42 | (injection eo42 with f1_ f2_ f3_; have f4_ := f1_.symm; have f5_ := f3_.symm; clear f1_ f2_ f3_; subst f4_; subst f5_))
       refine hK.out _ _ ⟨(blk_cell BK342.out 0).trans rfl, (blk_cell BK342.out 1).trans rfl⟩ (fun hHeld => ?_)
       clear hK K
       refine norm_ (a' := ?_) ?_ ?_
       rotate_left
       ·
        show Act.put _ (some 41) _ = _
        simp only [apz, i64_w, i32_w]
        rfl
       refine last_ (i := 3) (N := none) #[true, true, true, true] rfl rfl (by kernel_rfl) (by decide) (fun K hK => ?_)
       have hs41 : w40.cell? ⟨gb342, 0, none⟩ = some (.bool x343000_2) := (blk_cell BK342.out 0).trans rfl
       have hfs41 := blk_frozen BK342.out 0
       have hns41_0 := NB333_342.out
       have hns41_2 := NB347_342.out
       have hms41_0 := NB342_333.out
       have hms41_2 := NB342_347.out
       have hs43 : w40.cell? ⟨gb342, 1, none⟩ = some (.slice Ao38 x343001_2.length co38) := (blk_cell BK342.out 1).trans rfl
       have hfs43 := blk_frozen BK342.out 1
       have hns43_0 := NB333_342.out
       have hns43_2 := NB347_342.out
       have hms43_0 := NB342_333.out
       have hms43_2 := NB342_347.out
       refine skip_ (w1 := ?_) (by rfl) rfl ?_ ?_
       rotate_left
       ·
        go_simp
        rfl
       refine hK.out _ _ ?_
       clear hK K
       refine done_ (by kernel_rfl) ?_
       try go_wp2
       go_roundg k2
       case measure => have := HJ2.out; have := HK2.out; omega
       case rel => exact ⟨(wrap64 (x9_2 + 1)), (t352), (t353), (.slice Ao42 t353.length co42), (by first | rfl | (simp; done) | (simp [*]; done)), H', ⟨by have := HJ2.out; have := HK2.out; omega⟩, ⟨by apply vq; exact Kd.V_mono (Kd.V_far (p := ⟨gb342, 1, none⟩) (Kd.V_far (p := ⟨gb342, 0, none⟩) (Kd.V_mono HO_334002.out (fun k_ hk => (⟨hk, hk.2.1⟩ : _ ∧ k_ ≠ gb342))) (fun _ hk => hk.2) (.bool t352)) (fun _ hk => hk.2) (.slice Ao42 t353.length co42)) (fun _ hk => ⟨hk.1.1, ⟨hk.1.2.1, hk.1.2.2⟩⟩)⟩, ⟨by apply vq; exact Kd.V_mono (Kd.V_far (p := ⟨gb342, 1, none⟩) (Kd.V_far (p := ⟨gb342, 0, none⟩) (Kd.V_mono HO355.out (fun k_ hk => (⟨hk, hk.2.1⟩ : _ ∧ k_ ≠ gb342))) (fun _ hk => hk.2) (.bool t352)) (fun _ hk => hk.2) (.slice Ao42 t353.length co42)) (fun _ hk => ⟨hk.1.1, ⟨hk.1.2.1, hk.1.2.2⟩⟩)⟩, ⟨by apply vq; exact Kd.V_mono (Kd.V_far (p := ⟨gb342, 1, none⟩) (Kd.V_far (p := ⟨gb342, 0, none⟩) (Kd.V_mono HO_348001.out (fun k_ hk => (⟨hk, hk.2.1⟩ : _ ∧ k_ ≠ gb342))) (fun _ hk => hk.2) (.bool t352)) (fun _ hk => hk.2) (.slice Ao42 t353.length co42)) (fun _ hk => ⟨hk.1.1, ⟨hk.1.2.1, hk.1.2.2⟩⟩)⟩, ⟨by refine bq ?_; refine blk_far ?_ NB333_342.out _; refine bq ?_; refine blk_far ?_ NB333_342.out _; refine bq ?_; exact BK333.out⟩, ⟨by refine bq ?_; refine blk_put (cs := #[.bool t352, .slice Ao38 x343001_2.length co38]) ?_ 1 _ rfl; refine bq ?_; refine blk_put (cs := #[.bool x343000_2, .slice Ao38 x343001_2.length co38]) ?_ 0 _ rfl; refine bq ?_; exact BK342.out⟩, ⟨by refine bq ?_; refine blk_far ?_ NB347_342.out _; refine bq ?_; refine blk_far ?_ NB347_342.out _; refine bq ?_; exact BK347.out⟩, ⟨by exact wq HB.out⟩⟩
      ·
       rw [if_neg c30] at H
       have c30b0 : decide (x9_2 < t332) = false := decide_eq_false c30
       clear c30
       have H' := Aside0.mk H
       clear H
       have hnb44 := NB333_342.out
       have hnc44 := NB342_333.out
       have hnb45 := NB333_347.out
       have hnc45 := NB347_333.out
       have hcz46_0 : wr.cell? ⟨gb333, 0, none⟩ = some (.bool t327) := (blk_cell BK333.out 0).trans rfl
       have hcz46_1 : wr.cell? ⟨gb333, 1, none⟩ = some (.bool t328) := (blk_cell BK333.out 1).trans rfl
       have hcz46_2 : wr.cell? ⟨gb333, 2, none⟩ = some (.slice Ao13 t329.length co13) := (blk_cell BK333.out 2).trans rfl
       have hcz46_3 : wr.cell? ⟨gb333, 3, none⟩ = some (.int .i64 t332) := (blk_cell BK333.out 3).trans rfl
       have hfz46_0 := blk_frozen BK333.out 0
       have hfz46_1 := blk_frozen BK333.out 1
       have hfz46_2 := blk_frozen BK333.out 2
       have hfz46_3 := blk_frozen BK333.out 3
       go_wp2
       go_loopg [10] k2 (fun kq v10 w' => ∃ (x10_3 : Int) (x348000_3 : Bool) (x348001_3 : List Int) (u348001 : Value), v10 = .int .i64 x10_3 ∧ Aside0 (pointillistref04_Parse.l1 kq x10_3 t327 t328 t329 t332 x343000_2 x343001_2 x348000_3 x348001_3 = some (r1, r2)) ∧ Aside0 (kq ≤ k2) ∧ Aside0 (Kd.V (Kd.int .i64) 3 w' w.heap.size (fun k_ => k_ ≠ gb333 ∧ k_ ≠ gb342 ∧ k_ ≠ gb347) (.slice Ao13 t329.length co13) t329) ∧ Aside0 (Kd.V (Kd.int .i64) 3 w' w.heap.size (fun k_ => k_ ≠ gb333 ∧ k_ ≠ gb342 ∧ k_ ≠ gb347) u343001 x343001_2) ∧ Aside0 (Kd.V (Kd.int .i64) 3 w' w.heap.size (fun k_ => k_ ≠ gb333 ∧ k_ ≠ gb342 ∧ k_ ≠ gb347) u348001 x348001_3) ∧ Aside0 (w'.heap[gb333]? = some (.cells #[.bool t327, .bool t328, (.slice Ao13 t329.length co13), .int .i64 t332] 71 (0, 0))) ∧ Aside0 (w'.heap[gb342]? = some (.cells #[.bool x343000_2, u343001] 69 (0, 0))) ∧ Aside0 (w'.heap[gb347]? = some (.cells #[.bool x348000_3, u348001] 69 (0, 0))) ∧ Aside0 (Below w.heap.size w w'))
       case atStart => exact ⟨(0), (t343), (t344), (.slice Ao29 t344.length co29), (by first | rfl | (simp; done) | (simp [*]; done)), H', ⟨Nat.le_refl _⟩, ⟨by apply vq; exact HO_334002.out⟩, ⟨by apply vq; exact HO_343001.out⟩, ⟨by apply vq; exact HO_348001.out⟩, ⟨by refine bq ?_; exact BK333.out⟩, ⟨by refine bq ?_; exact BK342.out⟩, ⟨by refine bq ?_; exact BK347.out⟩, ⟨by exact wq HB.out⟩⟩
       case round =>
        clear H'
        try clear c1
        try clear c2
        try clear p2
        try clear c3
        try clear c4
        try clear c5
        try clear p6
        try clear c13
        try clear c26
        try clear c27
        try clear c30
        try clear c30b0
        try clear c33
        try clear c34
        try clear c38
        try clear c39
        try clear c44
        try clear c45
        try clear hcz12_0
        try clear hcz12_1
        try clear hcz12_2
        try clear hcz12_3
        try clear hcz28_0
        try clear hcz28_1
        try clear hcz35_0
        try clear hcz35_1
        try clear hcz35_2
        try clear hcz35_3
        try clear hcz46_0
        try clear hcz46_1
        try clear hcz46_2
        try clear hcz46_3
        try clear hfz12_0
        try clear hfz12_1
        try clear hfz12_2
        try clear hfz12_3
        try clear hfz28_0
        try clear hfz28_1
        try clear hfz35_0
        try clear hfz35_1
        try clear hfz35_2
        try clear hfz35_3
        try clear hfz46_0
        try clear hfz46_1
        try clear hfz46_2
        try clear hfz46_3
        try clear p2
        obtain ⟨x10_3, x348000_3, x348001_3, u348001, rfl, HA, HK3, HO_334002, HO_343001, HO_348001, BK333, BK342, BK347, HB⟩ := hrel
        cases gk with
        | zero => exact absurd HA.out (by simp [pointillistref04_Parse.l1])
        | succ k3 =>
         have H := HA.out
         clear HA
         simp only [pointillistref04_Parse.l1] at H
         by_cases c47 : x10_3 > t332
         ·
          rw [if_pos c47] at H
          have c47b0 : decide (t332 < x10_3) = true := decide_eq_true c47
          clear c47
          replace H := Option.bind_eq_some_iff.mp H
          obtain ⟨⟨t356, t357⟩, A480, H⟩ := H
          replace H : ((pointillistref01_Mul.f k3 x348000_3 x348001_3 t356 t357).bind fun bt360 => (pointillistref04_Parse.l1 k3 (wrap64 (x10_3 - 1)) t327 t328 t329 t332 x343000_2 x343001_2 bt360.1 bt360.2)) = some (r1, r2) := H
          have A48 := Aside0.mk A480
          clear A480
          replace H := Option.bind_eq_some_iff.mp H
          obtain ⟨⟨t360, t361⟩, A490, H⟩ := H
          replace H : (pointillistref04_Parse.l1 k3 (wrap64 (x10_3 - 1)) t327 t328 t329 t332 x343000_2 x343001_2 t360 t361) = some (r1, r2) := H
          have A49 := Aside0.mk A490
          clear A490
          have H' := Aside0.mk H
          clear H
          have hnb50 := NB333_342.out
          have hnc50 := NB342_333.out
          have hnb51 := NB333_347.out
          have hnc51 := NB347_333.out
          have hcz52_0 : wr.cell? ⟨gb333, 0, none⟩ = some (.bool t327) := (blk_cell BK333.out 0).trans rfl
          have hcz52_1 : wr.cell? ⟨gb333, 1, none⟩ = some (.bool t328) := (blk_cell BK333.out 1).trans rfl
          have hcz52_2 : wr.cell? ⟨gb333, 2, none⟩ = some (.slice Ao13 t329.length co13) := (blk_cell BK333.out 2).trans rfl
          have hcz52_3 : wr.cell? ⟨gb333, 3, none⟩ = some (.int .i64 t332) := (blk_cell BK333.out 3).trans rfl
          have hfz52_0 := blk_frozen BK333.out 0
          have hfz52_1 := blk_frozen BK333.out 1
          have hfz52_2 := blk_frozen BK333.out 2
          have hfz52_3 := blk_frozen BK333.out 3
          try go_wp2
          have n0_ := Aside0.mk (Kd.V_drew HO_334002.out)
          have n1_ := Aside0.mk (Kd.V_drew HO_343001.out)
          have n2_ := Aside0.mk (Kd.V_drew HO_348001.out)
          have n3_ := Aside0.mk (blk_drew BK333.out)
          have n4_ := Aside0.mk (blk_drew BK342.out)
          have n5_ := Aside0.mk (blk_drew BK347.out)
          have n6_ := Aside0.mk (below_drew1 HB.out)
          clear HO_334002 HO_343001 HO_348001 BK333; clear BK342 BK347 HB; have HO_334002 := n0_; have HO_343001 := n1_; have HO_348001 := n2_; have BK333 := n3_; have BK342 := n4_; have BK347 := n5_; have HB := n6_; clear n0_ n1_ n2_ n3_ n4_ n5_ n6_
          refine start_ (n := 4) (S := fun w' => w'.cell? ⟨gb347, 0, none⟩ = some (.bool x348000_3) ∧ w'.cell? ⟨gb347, 1, none⟩ = some (u348001)) (ds := [3]) #[false, false, false, false] (by kernel_rfl) rfl rfl ⟨(blk_cell BK347.out 0).trans rfl, (blk_cell BK347.out 1).trans rfl⟩ (fun hHeld => ?_)
          generalize wr.drew = w53 at HO_334002 HO_343001 HO_348001 BK333 BK342 BK347 HB hHeld ⊢
          refine take_ (i := 0) (N := some 48) (v := ?_) (a' := ?_) #[true, false, false, false] rfl rfl (by kernel_rfl) (fun _ _ _ h => h) (Or.inl ⟨by rfl, ?_⟩) hHeld ?_ ?_
          rotate_left
          ·
           rintro w' ⟨s0, s1⟩
           go_simp
           with_reducible rfl
          rotate_left; focus (simp only [apz, i64_w, i32_w]; rfl)
          refine one_ (i := 1) (N := some 49) #[true, true, false, false] rfl rfl (by kernel_rfl) (by decide) (fun K hK => ?_)
          refine goes_ Tryd.func39 (by kernel_rfl) rfl #[.int .i64 10] (by rfl) rfl rfl (by (try simp only [List.map_toArray, List.map_cons, List.map_nil]); first | done | rfl | (simp only [List.length_drop, List.length_take]; rfl)) ?_
          with_reducible refine (pointillistref04_small.calls k3 10 t356 t357 _ A48.out).mono ?_
          rintro e w54 ⟨v358, rfl, ho0, hb⟩
          refine ⟨_, rfl, ?_⟩
          have n0_ := Aside0.mk (Kd.V_below (vq HO_334002.out) hb)
          have n1_ := Aside0.mk (Kd.V_below (vq HO_343001.out) hb)
          have n2_ := Aside0.mk (Kd.V_below (vq HO_348001.out) hb)
          have n3_ := Aside0.mk (Kd.V_lower (Kd.V_mono (ok' := fun k_ => k_ ≠ gb333 ∧ k_ ≠ gb342 ∧ k_ ≠ gb347) ho0 (fun k_ hk_ => ⟨(Kd.freshB (bq BK333.out) k_ hk_), (Kd.freshB (bq BK342.out) k_ hk_), (Kd.freshB (bq BK347.out) k_ hk_)⟩)) (below_size (wq HB.out)))
          have n4_ := Aside0.mk (blk_below (bq BK333.out) hb)
          have n5_ := Aside0.mk (blk_below (bq BK342.out) hb)
          have n6_ := Aside0.mk (blk_below (bq BK347.out) hb)
          have n7_ := Aside0.mk (below_step (wq HB.out) hb)
          clear HO_334002 HO_343001 HO_348001 BK333; clear BK342 BK347 HB; have HO_334002 := n0_; have HO_343001 := n1_; have HO_348001 := n2_; have HO359 := n3_; have BK333 := n4_; have BK342 := n5_; have BK347 := n6_; have HB := n7_; clear n0_ n1_ n2_ n3_ n4_ n5_ n6_ n7_
          (try clear hb)
          (try clear hb2)
          (try clear hk)
          (try clear hi)
          (try clear ho0)
          obtain ⟨Ao55, co55, eo55⟩ := Kd.V_slice HO_348001.out
          (first | subst eo55 | (injection eo55 with f1_ f2_ f3_; have f4_ := f1_.symm; have f5_ := f3_.symm; clear f1_ f2_ f3_; subst f4_; subst f5_))
          obtain ⟨Ao56, co56, eo56⟩ := Kd.V_slice HO359.out
          (first | subst eo56 | (injection eo56 with f1_ f2_ f3_; have f4_ := f1_.symm; have f5_ := f3_.symm; clear f1_ f2_ f3_; subst f4_; subst f5_))
          refine hK.out _ _ ⟨(blk_cell BK347.out 0).trans rfl, (blk_cell BK347.out 1).trans rfl⟩ (fun hHeld => ?_)
          clear hK K
          refine norm_ (a' := ?_) ?_ ?_
          rotate_left
          ·
           show Act.put _ (some 49) _ = _
           simp only [apz, i64_w, i32_w]
           rfl
          refine one_ (i := 2) (N := some 50) #[true, true, true, false] rfl rfl (by kernel_rfl) (by decide) (fun K hK => ?_)
          refine goes_ Tryd.func38 (by kernel_rfl) rfl #[.agg #[.bool x348000_3, .slice Ao55 x348001_3.length co55], .agg #[.bool t356, .slice Ao56 t357.length co56]] (by rfl) rfl rfl (by (try simp only [List.map_toArray, List.map_cons, List.map_nil]); first | done | rfl | (simp only [List.length_drop, List.length_take]; rfl)) ?_
          with_reducible refine (pointillistref01_Mul.calls k3 x348000_3 _ _ x348001_3 t356 _ _ t357 t360 t361 _ ?side1 ?side2 ?side3 ?side4 A49.out).mono ?_
          (case side1 => exact cq (Kd.V_reads' HO_348001.out).2.2)
          (case side2 => exact (Kd.V_reads' HO_348001.out).2.1)
          (case side3 => exact cq (Kd.V_reads' HO359.out).2.2)
          (case side4 => exact (Kd.V_reads' HO359.out).2.1)
          rintro e w57 ⟨v362, rfl, ho0, hb⟩
          refine ⟨_, rfl, ?_⟩
          have n0_ := Aside0.mk (Kd.V_below (vq HO_334002.out) hb)
          have n1_ := Aside0.mk (Kd.V_below (vq HO_343001.out) hb)
          have n2_ := Aside0.mk (Kd.V_below (vq HO_348001.out) hb)
          have n3_ := Aside0.mk (Kd.V_below (vq HO359.out) hb)
          have n4_ := Aside0.mk (Kd.V_lower (Kd.V_mono (ok' := fun k_ => k_ ≠ gb333 ∧ k_ ≠ gb342 ∧ k_ ≠ gb347) ho0 (fun k_ hk_ => ⟨(Kd.freshB (bq BK333.out) k_ hk_), (Kd.freshB (bq BK342.out) k_ hk_), (Kd.freshB (bq BK347.out) k_ hk_)⟩)) (below_size (wq HB.out)))
          have n5_ := Aside0.mk (blk_below (bq BK333.out) hb)
          have n6_ := Aside0.mk (blk_below (bq BK342.out) hb)
          have n7_ := Aside0.mk (blk_below (bq BK347.out) hb)
          have n8_ := Aside0.mk (below_step (wq HB.out) hb)
          clear HO_334002 HO_343001 HO_348001 HO359; clear BK333 BK342 BK347 HB; have HO_334002 := n0_; have HO_343001 := n1_; have HO_348001 := n2_; have HO359 := n3_; have HO363 := n4_; have BK333 := n5_; have BK342 := n6_; have BK347 := n7_; have HB := n8_; clear n0_ n1_ n2_ n3_ n4_ n5_ n6_ n7_ n8_
          (try clear hb)
          (try clear hb2)
          (try clear hk)
          (try clear hi)
          (try clear ho0)
          obtain ⟨Ao59, co59, eo59⟩ := Kd.V_slice HO363.out
          (first | subst eo59 | (injection eo59 with f1_ f2_ f3_; have f4_ := f1_.symm; have f5_ := f3_.symm; clear f1_ f2_ f3_; subst f4_; subst f5_))
          refine hK.out _ _ ⟨(blk_cell BK347.out 0).trans rfl, (blk_cell BK347.out 1).trans rfl⟩ (fun hHeld => ?_)
          clear hK K
          refine norm_ (a' := ?_) ?_ ?_
          rotate_left
          ·
           show Act.put _ (some 50) _ = _
           simp only [apz, i64_w, i32_w]
           rfl
          refine last_ (i := 3) (N := none) #[true, true, true, true] rfl rfl (by kernel_rfl) (by decide) (fun K hK => ?_)
          have hs58 : w57.cell? ⟨gb347, 0, none⟩ = some (.bool x348000_3) := (blk_cell BK347.out 0).trans rfl
          have hfs58 := blk_frozen BK347.out 0
          have hns58_0 := NB333_347.out
          have hns58_1 := NB342_347.out
          have hms58_0 := NB347_333.out
          have hms58_1 := NB347_342.out
          have hs60 : w57.cell? ⟨gb347, 1, none⟩ = some (.slice Ao55 x348001_3.length co55) := (blk_cell BK347.out 1).trans rfl
          have hfs60 := blk_frozen BK347.out 1
          have hns60_0 := NB333_347.out
          have hns60_1 := NB342_347.out
          have hms60_0 := NB347_333.out
          have hms60_1 := NB347_342.out
          refine skip_ (w1 := ?_) (by rfl) rfl ?_ ?_
          rotate_left
          ·
           go_simp
           rfl
          refine hK.out _ _ ?_
          clear hK K
          refine done_ (by kernel_rfl) ?_
          try go_wp2
          go_roundg k3
          case measure => have := HJ2.out; have := HK2.out; have := HK3.out; omega
          case rel => exact ⟨(wrap64 (x10_3 - 1)), (t360), (t361), (.slice Ao59 t361.length co59), (by first | rfl | (simp; done) | (simp [*]; done)), H', ⟨by have := HJ2.out; have := HK2.out; have := HK3.out; omega⟩, ⟨by apply vq; exact Kd.V_mono (Kd.V_far (p := ⟨gb347, 1, none⟩) (Kd.V_far (p := ⟨gb347, 0, none⟩) (Kd.V_mono HO_334002.out (fun k_ hk => (⟨hk, hk.2.2⟩ : _ ∧ k_ ≠ gb347))) (fun _ hk => hk.2) (.bool t360)) (fun _ hk => hk.2) (.slice Ao59 t361.length co59)) (fun _ hk => ⟨hk.1.1, ⟨hk.1.2.1, hk.1.2.2⟩⟩)⟩, ⟨by apply vq; exact Kd.V_mono (Kd.V_far (p := ⟨gb347, 1, none⟩) (Kd.V_far (p := ⟨gb347, 0, none⟩) (Kd.V_mono HO_343001.out (fun k_ hk => (⟨hk, hk.2.2⟩ : _ ∧ k_ ≠ gb347))) (fun _ hk => hk.2) (.bool t360)) (fun _ hk => hk.2) (.slice Ao59 t361.length co59)) (fun _ hk => ⟨hk.1.1, ⟨hk.1.2.1, hk.1.2.2⟩⟩)⟩, ⟨by apply vq; exact Kd.V_mono (Kd.V_far (p := ⟨gb347, 1, none⟩) (Kd.V_far (p := ⟨gb347, 0, none⟩) (Kd.V_mono HO363.out (fun k_ hk => (⟨hk, hk.2.2⟩ : _ ∧ k_ ≠ gb347))) (fun _ hk => hk.2) (.bool t360)) (fun _ hk => hk.2) (.slice Ao59 t361.length co59)) (fun _ hk => ⟨hk.1.1, ⟨hk.1.2.1, hk.1.2.2⟩⟩)⟩, ⟨by refine bq ?_; refine blk_far ?_ NB333_347.out _; refine bq ?_; refine blk_far ?_ NB333_347.out _; refine bq ?_; exact BK333.out⟩, ⟨by refine bq ?_; refine blk_far ?_ NB342_347.out _; refine bq ?_; refine blk_far ?_ NB342_347.out _; refine bq ?_; exact BK342.out⟩, ⟨by refine bq ?_; refine blk_put (cs := #[.bool t360, .slice Ao55 x348001_3.length co55]) ?_ 1 _ rfl; refine bq ?_; refine blk_put (cs := #[.bool x348000_3, .slice Ao55 x348001_3.length co55]) ?_ 0 _ rfl; refine bq ?_; exact BK347.out⟩, ⟨by exact wq HB.out⟩⟩
         ·
          rw [if_neg c47] at H
          have c47b0 : decide (t332 < x10_3) = false := decide_eq_false c47
          clear c47
          have HC61 := Aside0.mk H
          clear H
          have hnb62 := NB333_342.out
          have hnc62 := NB342_333.out
          have hnb63 := NB333_347.out
          have hnc63 := NB347_333.out
          have hcz64_0 : wr.cell? ⟨gb333, 0, none⟩ = some (.bool t327) := (blk_cell BK333.out 0).trans rfl
          have hcz64_1 : wr.cell? ⟨gb333, 1, none⟩ = some (.bool t328) := (blk_cell BK333.out 1).trans rfl
          have hcz64_2 : wr.cell? ⟨gb333, 2, none⟩ = some (.slice Ao13 t329.length co13) := (blk_cell BK333.out 2).trans rfl
          have hcz64_3 : wr.cell? ⟨gb333, 3, none⟩ = some (.int .i64 t332) := (blk_cell BK333.out 3).trans rfl
          have hfz64_0 := blk_frozen BK333.out 0
          have hfz64_1 := blk_frozen BK333.out 1
          have hfz64_2 := blk_frozen BK333.out 2
          have hfz64_3 := blk_frozen BK333.out 3
          go_upto_region 15 with (fail)
          go_cut [] (fun wc => ∃ (kq : Nat) (x343000_60 : Bool), Aside0 (pointillistref04_Parse.j3 kq x343000_60 x343001_2 x348000_3 x348001_3 = some (r1, r2)) ∧ Aside0 (kq ≤ k3) ∧ Aside0 (Kd.V (Kd.int .i64) 3 wc w.heap.size (fun k_ => k_ ≠ gb333 ∧ k_ ≠ gb342 ∧ k_ ≠ gb347) (.slice Ao13 t329.length co13) t329) ∧ Aside0 (Kd.V (Kd.int .i64) 3 wc w.heap.size (fun k_ => k_ ≠ gb333 ∧ k_ ≠ gb342 ∧ k_ ≠ gb347) u343001 x343001_2) ∧ Aside0 (Kd.V (Kd.int .i64) 3 wc w.heap.size (fun k_ => k_ ≠ gb333 ∧ k_ ≠ gb342 ∧ k_ ≠ gb347) u348001 x348001_3) ∧ Aside0 (wc.heap[gb333]? = some (.cells #[.bool t327, .bool t328, (.slice Ao13 t329.length co13), .int .i64 t332] 71 (0, 0))) ∧ Aside0 (wc.heap[gb342]? = some (.cells #[.bool x343000_60, u343001] 69 (0, 0))) ∧ Aside0 (wc.heap[gb347]? = some (.cells #[.bool x348000_3, u348001] 69 (0, 0))) ∧ Aside0 (Below w.heap.size w wc))
          case first =>
           have H := HC61.out
           clear HC61
           by_cases c65 : t327 = true
           ·
            subst c65
            have H1 : (pointillistref04_Parse.j3 k3 (decide (0 < x343001_2.length)) x343001_2 x348000_3 x348001_3) = some (r1, r2) := by rw [if_pos rfl] at H; exact H
            clear H
            have H := H1
            clear H1
            have H' := Aside0.mk H
            clear H
            have hnb66 := NB333_342.out
            have hnc66 := NB342_333.out
            have hnb67 := NB333_347.out
            have hnc67 := NB347_333.out
            have hcz68_0 : wr.cell? ⟨gb333, 0, none⟩ = some (.bool true) := (blk_cell BK333.out 0).trans rfl
            have hcz68_1 : wr.cell? ⟨gb333, 1, none⟩ = some (.bool t328) := (blk_cell BK333.out 1).trans rfl
            have hcz68_2 : wr.cell? ⟨gb333, 2, none⟩ = some (.slice Ao13 t329.length co13) := (blk_cell BK333.out 2).trans rfl
            have hcz68_3 : wr.cell? ⟨gb333, 3, none⟩ = some (.int .i64 t332) := (blk_cell BK333.out 3).trans rfl
            have hfz68_0 := blk_frozen BK333.out 0
            have hfz68_1 := blk_frozen BK333.out 1
            have hfz68_2 := blk_frozen BK333.out 2
            have hfz68_3 := blk_frozen BK333.out 3
            have hnb69 := NB342_347.out
            have hnc69 := NB347_342.out
            have hcz70_0 : wr.cell? ⟨gb342, 0, none⟩ = some (.bool x343000_2) := (blk_cell BK342.out 0).trans rfl
            have hcz70_1 : wr.cell? ⟨gb342, 1, none⟩ = some (u343001) := (blk_cell BK342.out 1).trans rfl
            have hfz70_0 := blk_frozen BK342.out 0
            have hfz70_1 := blk_frozen BK342.out 1
            obtain ⟨Ao71, co71, eo71⟩ := Kd.V_slice HO_343001.out
            subst eo71
            go_wp2
            go_meet
            case rel => exact ⟨_, (decide (0 < x343001_2.length)), H', ⟨by have := HJ2.out; have := HK2.out; have := HK3.out; first | omega | exact Nat.le_refl _⟩, ⟨by apply vq; exact Kd.V_mono (Kd.V_far (p := ⟨gb342, 0, none⟩) (Kd.V_mono HO_334002.out (fun k_ hk => (⟨hk, hk.2.1⟩ : _ ∧ k_ ≠ gb342))) (fun _ hk => hk.2) (.bool (decide (0 < x343001_2.length)))) (fun _ hk => ⟨hk.1.1, ⟨hk.1.2.1, hk.1.2.2⟩⟩)⟩, ⟨by apply vq; exact Kd.V_mono (Kd.V_far (p := ⟨gb342, 0, none⟩) (Kd.V_mono HO_343001.out (fun k_ hk => (⟨hk, hk.2.1⟩ : _ ∧ k_ ≠ gb342))) (fun _ hk => hk.2) (.bool (decide (0 < x343001_2.length)))) (fun _ hk => ⟨hk.1.1, ⟨hk.1.2.1, hk.1.2.2⟩⟩)⟩, ⟨by apply vq; exact Kd.V_mono (Kd.V_far (p := ⟨gb342, 0, none⟩) (Kd.V_mono HO_348001.out (fun k_ hk => (⟨hk, hk.2.1⟩ : _ ∧ k_ ≠ gb342))) (fun _ hk => hk.2) (.bool (decide (0 < x343001_2.length)))) (fun _ hk => ⟨hk.1.1, ⟨hk.1.2.1, hk.1.2.2⟩⟩)⟩, ⟨by refine bq ?_; refine blk_far ?_ NB333_342.out _; refine bq ?_; exact BK333.out⟩, ⟨by refine bq ?_; refine blk_put (cs := #[.bool x343000_2, .slice Ao71 x343001_2.length co71]) ?_ 0 _ rfl; refine bq ?_; exact BK342.out⟩, ⟨by refine bq ?_; refine blk_far ?_ NB347_342.out _; refine bq ?_; exact BK347.out⟩, ⟨by exact wq HB.out⟩⟩
           ·
            replace c65 := Bool.eq_false_iff.mpr c65
            subst c65
            have H1 : (pointillistref04_Parse.j3 k3 false x343001_2 x348000_3 x348001_3) = some (r1, r2) := by rw [if_neg (show ¬ (false = true) by decide)] at H; exact H
            clear H
            have H := H1
            clear H1
            have H' := Aside0.mk H
            clear H
            have hnb72 := NB333_342.out
            have hnc72 := NB342_333.out
            have hnb73 := NB333_347.out
            have hnc73 := NB347_333.out
            have hcz74_0 : wr.cell? ⟨gb333, 0, none⟩ = some (.bool false) := (blk_cell BK333.out 0).trans rfl
            have hcz74_1 : wr.cell? ⟨gb333, 1, none⟩ = some (.bool t328) := (blk_cell BK333.out 1).trans rfl
            have hcz74_2 : wr.cell? ⟨gb333, 2, none⟩ = some (.slice Ao13 t329.length co13) := (blk_cell BK333.out 2).trans rfl
            have hcz74_3 : wr.cell? ⟨gb333, 3, none⟩ = some (.int .i64 t332) := (blk_cell BK333.out 3).trans rfl
            have hfz74_0 := blk_frozen BK333.out 0
            have hfz74_1 := blk_frozen BK333.out 1
            have hfz74_2 := blk_frozen BK333.out 2
            have hfz74_3 := blk_frozen BK333.out 3
            have hnb75 := NB342_347.out
            have hnc75 := NB347_342.out
            have hcz76_0 : wr.cell? ⟨gb342, 0, none⟩ = some (.bool x343000_2) := (blk_cell BK342.out 0).trans rfl
            have hcz76_1 : wr.cell? ⟨gb342, 1, none⟩ = some (u343001) := (blk_cell BK342.out 1).trans rfl
            have hfz76_0 := blk_frozen BK342.out 0
            have hfz76_1 := blk_frozen BK342.out 1
            go_wp2
            go_meet
            case rel => exact ⟨_, (false), H', ⟨by have := HJ2.out; have := HK2.out; have := HK3.out; first | omega | exact Nat.le_refl _⟩, ⟨by apply vq; exact Kd.V_mono (Kd.V_far (p := ⟨gb342, 0, none⟩) (Kd.V_mono HO_334002.out (fun k_ hk => (⟨hk, hk.2.1⟩ : _ ∧ k_ ≠ gb342))) (fun _ hk => hk.2) (.bool false)) (fun _ hk => ⟨hk.1.1, ⟨hk.1.2.1, hk.1.2.2⟩⟩)⟩, ⟨by apply vq; exact Kd.V_mono (Kd.V_far (p := ⟨gb342, 0, none⟩) (Kd.V_mono HO_343001.out (fun k_ hk => (⟨hk, hk.2.1⟩ : _ ∧ k_ ≠ gb342))) (fun _ hk => hk.2) (.bool false)) (fun _ hk => ⟨hk.1.1, ⟨hk.1.2.1, hk.1.2.2⟩⟩)⟩, ⟨by apply vq; exact Kd.V_mono (Kd.V_far (p := ⟨gb342, 0, none⟩) (Kd.V_mono HO_348001.out (fun k_ hk => (⟨hk, hk.2.1⟩ : _ ∧ k_ ≠ gb342))) (fun _ hk => hk.2) (.bool false)) (fun _ hk => ⟨hk.1.1, ⟨hk.1.2.1, hk.1.2.2⟩⟩)⟩, ⟨by refine bq ?_; refine blk_far ?_ NB333_342.out _; refine bq ?_; exact BK333.out⟩, ⟨by refine bq ?_; refine blk_put (cs := #[.bool x343000_2, u343001]) ?_ 0 _ rfl; refine bq ?_; exact BK342.out⟩, ⟨by refine bq ?_; refine blk_far ?_ NB347_342.out _; refine bq ?_; exact BK347.out⟩, ⟨by exact wq HB.out⟩⟩
          case rest =>
           clear HC61
           try clear c1
           try clear c2
           try clear p2
           try clear c3
           try clear c4
           try clear c5
           try clear c6
           try clear p6
           try clear c7
           try clear c13
           try clear c26
           try clear c27
           try clear c30
           try clear c30b0
           try clear c33
           try clear c34
           try clear c38
           try clear c39
           try clear c44
           try clear c45
           try clear c47
           try clear c47b0
           try clear c50
           try clear c51
           try clear c62
           try clear c63
           try clear p64
           try clear c65
           try clear c66
           try clear c67
           try clear c69
           try clear c72
           try clear c73
           try clear c75
           try clear hcz12_0
           try clear hcz12_1
           try clear hcz12_2
           try clear hcz12_3
           try clear hcz28_0
           try clear hcz28_1
           try clear hcz35_0
           try clear hcz35_1
           try clear hcz35_2
           try clear hcz35_3
           try clear hcz46_0
           try clear hcz46_1
           try clear hcz46_2
           try clear hcz46_3
           try clear hcz52_0
           try clear hcz52_1
           try clear hcz52_2
           try clear hcz52_3
           try clear hcz64_0
           try clear hcz64_1
           try clear hcz64_2
           try clear hcz64_3
           try clear hcz68_0
           try clear hcz68_1
           try clear hcz68_2
           try clear hcz68_3
           try clear hcz70_0
           try clear hcz70_1
           try clear hcz74_0
           try clear hcz74_1
           try clear hcz74_2
           try clear hcz74_3
           try clear hcz76_0
           try clear hcz76_1
           try clear hfz12_0
           try clear hfz12_1
           try clear hfz12_2
           try clear hfz12_3
           try clear hfz28_0
           try clear hfz28_1
           try clear hfz35_0
           try clear hfz35_1
           try clear hfz35_2
           try clear hfz35_3
           try clear hfz46_0
           try clear hfz46_1
           try clear hfz46_2
           try clear hfz46_3
           try clear hfz52_0
           try clear hfz52_1
           try clear hfz52_2
           try clear hfz52_3
           try clear hfz64_0
           try clear hfz64_1
           try clear hfz64_2
           try clear hfz64_3
           try clear hfz68_0
           try clear hfz68_1
           try clear hfz68_2
           try clear hfz68_3
           try clear hfz70_0
           try clear hfz70_1
           try clear hfz74_0
           try clear hfz74_1
           try clear hfz74_2
           try clear hfz74_3
           try clear hfz76_0
           try clear hfz76_1
           try clear p2
           try clear p6
           obtain ⟨kq, x343000_60, HA, HJ60, HO_334002, HO_343001, HO_348001, BK333, BK342, BK347, HB⟩ := hcut
           cases kq with
           | zero => exact absurd HA.out (by simp [pointillistref04_Parse.j3])
           | succ kj60 =>
            have H := HA.out
            clear HA
            simp only [pointillistref04_Parse.j3] at H
            replace H := Option.bind_eq_some_iff.mp H
            obtain ⟨⟨t364, t365⟩, A770, H⟩ := H
            replace H : ((pointillistref01_Plain.f kj60 t364 t365).bind fun bt368 => (if bt368.2 = true then (if bt368.1 ≥ 4294967296 then (some (0, 2)) else (if bt368.1 ≤ (-4294967296) then (some (0, 2)) else (some (bt368.1, 0)))) else (some (0, 2)))) = some (r1, r2) := H
            have A77 := Aside0.mk A770
            clear A770
            replace H := Option.bind_eq_some_iff.mp H
            obtain ⟨⟨t368, t369⟩, A780, H⟩ := H
            replace H : (if t369 = true then (if t368 ≥ 4294967296 then (some (0, 2)) else (if t368 ≤ (-4294967296) then (some (0, 2)) else (some (t368, 0)))) else (some (0, 2))) = some (r1, r2) := H
            have A78 := Aside0.mk A780
            clear A780
            by_cases c79 : t369 = true
            ·
             subst c79
             have H1 : (if t368 ≥ 4294967296 then (some (0, 2)) else (if t368 ≤ (-4294967296) then (some (0, 2)) else (some (t368, 0)))) = some (r1, r2) := by rw [if_pos rfl] at H; exact H
             clear H
             have H := H1
             clear H1
             by_cases c80 : t368 ≥ 4294967296
             ·
              rw [if_pos c80] at H
              have c80b0 : decide (4294967296 ≤ t368) = true := decide_eq_true c80
              clear c80
              simp only [Option.some.injEq, Prod.mk.injEq] at H
              obtain ⟨rfl, rfl⟩ := H
              have hnb81 := NB342_333.out
              have hnc81 := NB333_342.out
              have hnb82 := NB342_347.out
              have hnc82 := NB347_342.out
              have hcz83_0 : wc.cell? ⟨gb342, 0, none⟩ = some (.bool x343000_60) := (blk_cell BK342.out 0).trans rfl
              have hcz83_1 : wc.cell? ⟨gb342, 1, none⟩ = some (u343001) := (blk_cell BK342.out 1).trans rfl
              have hfz83_0 := blk_frozen BK342.out 0
              have hfz83_1 := blk_frozen BK342.out 1
              have hnb84 := NB347_333.out
              have hnc84 := NB333_347.out
              have hcz85_0 : wc.cell? ⟨gb347, 0, none⟩ = some (.bool x348000_3) := (blk_cell BK347.out 0).trans rfl
              have hcz85_1 : wc.cell? ⟨gb347, 1, none⟩ = some (u348001) := (blk_cell BK347.out 1).trans rfl
              have hfz85_0 := blk_frozen BK347.out 0
              have hfz85_1 := blk_frozen BK347.out 1
              obtain ⟨Ao86, co86, eo86⟩ := Kd.V_slice HO_343001.out
              subst eo86
              obtain ⟨Ao87, co87, eo87⟩ := Kd.V_slice HO_348001.out
              subst eo87
              go_wp2_with (first | ((with_reducible refine gate_callee (f := 41) rfl ?_); refine goesL_ (some 63) rfl rfl Tryd.func41 (by kernel_rfl) rfl #[.agg #[.bool x343000_60, .slice Ao86 x343001_2.length co86], .agg #[.bool x348000_3, .slice Ao87 x348001_3.length co87]] rfl (by (try simp only [List.map_toArray, List.map_cons, List.map_nil]); first | done | rfl | (simp only [List.length_drop, List.length_take]; rfl)) ?_; (with_reducible refine (pointillistref01_Near.calls kj60 x343000_60 _ _ x343001_2 x348000_3 _ _ x348001_3 t364 t365 _ ?side1 ?side2 ?side3 ?side4 A77.out).mono ?_); (case side1 => exact cq (Kd.V_reads' HO_343001.out).2.2); (case side2 => exact (Kd.V_reads' HO_343001.out).2.1); (case side3 => exact cq (Kd.V_reads' HO_348001.out).2.2); (case side4 => exact (Kd.V_reads' HO_348001.out).2.1); rintro e w88 ⟨v366, rfl, ho0, hb⟩; refine ⟨_, rfl, ?_⟩; have n0_ := Aside0.mk (Kd.V_below (vq HO_334002.out) hb); have n1_ := Aside0.mk (Kd.V_below (vq HO_343001.out) hb); have n2_ := Aside0.mk (Kd.V_below (vq HO_348001.out) hb); have n3_ := Aside0.mk (Kd.V_lower (Kd.V_mono (ok' := fun k_ => k_ ≠ gb333 ∧ k_ ≠ gb342 ∧ k_ ≠ gb347) ho0 (fun k_ hk_ => ⟨(Kd.freshB (bq BK333.out) k_ hk_), (Kd.freshB (bq BK342.out) k_ hk_), (Kd.freshB (bq BK347.out) k_ hk_)⟩)) (below_size (wq HB.out))); have n4_ := Aside0.mk (blk_below (bq BK333.out) hb); have n5_ := Aside0.mk (blk_below (bq BK342.out) hb); have n6_ := Aside0.mk (blk_below (bq BK347.out) hb); have n7_ := Aside0.mk (below_step (wq HB.out) hb); clear HO_334002 HO_343001 HO_348001 BK333; clear BK342 BK347 HB; have HO_334002 := n0_; have HO_343001 := n1_; have HO_348001 := n2_; have HO367 := n3_; have BK333 := n4_; have BK342 := n5_; have BK347 := n6_; have HB := n7_; clear n0_ n1_ n2_ n3_ n4_ n5_ n6_ n7_; (try clear hb); (try clear hb2); (try clear hk); (try clear hi); (try clear ho0); obtain ⟨Ao89, co89, eo89⟩ := Kd.V_slice HO367.out; subst eo89) | ((with_reducible refine gate_callee (f := 40) rfl ?_); refine goesL_ (some 64) rfl rfl Tryd.func40 (by kernel_rfl) rfl #[.agg #[.bool t364, .slice Ao89 t365.length co89]] rfl (by (try simp only [List.map_toArray, List.map_cons, List.map_nil]); first | done | rfl | (simp only [List.length_drop, List.length_take]; rfl)) ?_; (with_reducible refine (pointillistref01_Plain.calls kj60 t364 _ _ t365 t368 true _ ?side1 ?side2 A78.out).mono ?_); (case side1 => exact cq (Kd.V_reads' HO367.out).2.2); (case side2 => exact (Kd.V_reads' HO367.out).2.1); rintro e w90 ⟨rfl, hb⟩; refine ⟨_, rfl, ?_⟩; have n0_ := Aside0.mk (Kd.V_below (vq HO_334002.out) hb); have n1_ := Aside0.mk (Kd.V_below (vq HO_343001.out) hb); have n2_ := Aside0.mk (Kd.V_below (vq HO_348001.out) hb); have n3_ := Aside0.mk (Kd.V_below (vq HO367.out) hb); have n4_ := Aside0.mk (blk_below (bq BK333.out) hb); have n5_ := Aside0.mk (blk_below (bq BK342.out) hb); have n6_ := Aside0.mk (blk_below (bq BK347.out) hb); have n7_ := Aside0.mk (below_step (wq HB.out) hb); clear HO_334002 HO_343001 HO_348001 HO367; clear BK333 BK342 BK347 HB; have HO_334002 := n0_; have HO_343001 := n1_; have HO_348001 := n2_; have HO367 := n3_; have BK333 := n4_; have BK342 := n5_; have BK347 := n6_; have HB := n7_; clear n0_ n1_ n2_ n3_ n4_ n5_ n6_ n7_; (try clear hb); (try clear hb2); (try clear hk); (try clear hi)))
              go_ret2
              exact ⟨by first | rfl | (simp [errW_none, errW_some] <;> rfl) | (simp [*, errW_none, errW_some] <;> rfl), by exact wq HB.out⟩
             ·
              rw [if_neg c80] at H
              have c80b0 : decide (4294967296 ≤ t368) = false := decide_eq_false c80
              clear c80
              by_cases c91 : t368 ≤ (-4294967296)
              ·
               rw [if_pos c91] at H
               have c91b0 : decide (t368 ≤ (-4294967296)) = true := decide_eq_true c91
               clear c91
               simp only [Option.some.injEq, Prod.mk.injEq] at H
               obtain ⟨rfl, rfl⟩ := H
               have hnb92 := NB342_333.out
               have hnc92 := NB333_342.out
               have hnb93 := NB342_347.out
               have hnc93 := NB347_342.out
               have hcz94_0 : wc.cell? ⟨gb342, 0, none⟩ = some (.bool x343000_60) := (blk_cell BK342.out 0).trans rfl
               have hcz94_1 : wc.cell? ⟨gb342, 1, none⟩ = some (u343001) := (blk_cell BK342.out 1).trans rfl
               have hfz94_0 := blk_frozen BK342.out 0
               have hfz94_1 := blk_frozen BK342.out 1
               have hnb95 := NB347_333.out
               have hnc95 := NB333_347.out
               have hcz96_0 : wc.cell? ⟨gb347, 0, none⟩ = some (.bool x348000_3) := (blk_cell BK347.out 0).trans rfl
               have hcz96_1 : wc.cell? ⟨gb347, 1, none⟩ = some (u348001) := (blk_cell BK347.out 1).trans rfl
               have hfz96_0 := blk_frozen BK347.out 0
               have hfz96_1 := blk_frozen BK347.out 1
               obtain ⟨Ao97, co97, eo97⟩ := Kd.V_slice HO_343001.out
               subst eo97
               obtain ⟨Ao98, co98, eo98⟩ := Kd.V_slice HO_348001.out
               subst eo98
               go_wp2_with (first | ((with_reducible refine gate_callee (f := 41) rfl ?_); refine goesL_ (some 63) rfl rfl Tryd.func41 (by kernel_rfl) rfl #[.agg #[.bool x343000_60, .slice Ao97 x343001_2.length co97], .agg #[.bool x348000_3, .slice Ao98 x348001_3.length co98]] rfl (by (try simp only [List.map_toArray, List.map_cons, List.map_nil]); first | done | rfl | (simp only [List.length_drop, List.length_take]; rfl)) ?_; (with_reducible refine (pointillistref01_Near.calls kj60 x343000_60 _ _ x343001_2 x348000_3 _ _ x348001_3 t364 t365 _ ?side1 ?side2 ?side3 ?side4 A77.out).mono ?_); (case side1 => exact cq (Kd.V_reads' HO_343001.out).2.2); (case side2 => exact (Kd.V_reads' HO_343001.out).2.1); (case side3 => exact cq (Kd.V_reads' HO_348001.out).2.2); (case side4 => exact (Kd.V_reads' HO_348001.out).2.1); rintro e w99 ⟨v366, rfl, ho0, hb⟩; refine ⟨_, rfl, ?_⟩; have n0_ := Aside0.mk (Kd.V_below (vq HO_334002.out) hb); have n1_ := Aside0.mk (Kd.V_below (vq HO_343001.out) hb); have n2_ := Aside0.mk (Kd.V_below (vq HO_348001.out) hb); have n3_ := Aside0.mk (Kd.V_lower (Kd.V_mono (ok' := fun k_ => k_ ≠ gb333 ∧ k_ ≠ gb342 ∧ k_ ≠ gb347) ho0 (fun k_ hk_ => ⟨(Kd.freshB (bq BK333.out) k_ hk_), (Kd.freshB (bq BK342.out) k_ hk_), (Kd.freshB (bq BK347.out) k_ hk_)⟩)) (below_size (wq HB.out))); have n4_ := Aside0.mk (blk_below (bq BK333.out) hb); have n5_ := Aside0.mk (blk_below (bq BK342.out) hb); have n6_ := Aside0.mk (blk_below (bq BK347.out) hb); have n7_ := Aside0.mk (below_step (wq HB.out) hb); clear HO_334002 HO_343001 HO_348001 BK333; clear BK342 BK347 HB; have HO_334002 := n0_; have HO_343001 := n1_; have HO_348001 := n2_; have HO367 := n3_; have BK333 := n4_; have BK342 := n5_; have BK347 := n6_; have HB := n7_; clear n0_ n1_ n2_ n3_ n4_ n5_ n6_ n7_; (try clear hb); (try clear hb2); (try clear hk); (try clear hi); (try clear ho0); obtain ⟨Ao100, co100, eo100⟩ := Kd.V_slice HO367.out; subst eo100) | ((with_reducible refine gate_callee (f := 40) rfl ?_); refine goesL_ (some 64) rfl rfl Tryd.func40 (by kernel_rfl) rfl #[.agg #[.bool t364, .slice Ao100 t365.length co100]] rfl (by (try simp only [List.map_toArray, List.map_cons, List.map_nil]); first | done | rfl | (simp only [List.length_drop, List.length_take]; rfl)) ?_; (with_reducible refine (pointillistref01_Plain.calls kj60 t364 _ _ t365 t368 true _ ?side1 ?side2 A78.out).mono ?_); (case side1 => exact cq (Kd.V_reads' HO367.out).2.2); (case side2 => exact (Kd.V_reads' HO367.out).2.1); rintro e w101 ⟨rfl, hb⟩; refine ⟨_, rfl, ?_⟩; have n0_ := Aside0.mk (Kd.V_below (vq HO_334002.out) hb); have n1_ := Aside0.mk (Kd.V_below (vq HO_343001.out) hb); have n2_ := Aside0.mk (Kd.V_below (vq HO_348001.out) hb); have n3_ := Aside0.mk (Kd.V_below (vq HO367.out) hb); have n4_ := Aside0.mk (blk_below (bq BK333.out) hb); have n5_ := Aside0.mk (blk_below (bq BK342.out) hb); have n6_ := Aside0.mk (blk_below (bq BK347.out) hb); have n7_ := Aside0.mk (below_step (wq HB.out) hb); clear HO_334002 HO_343001 HO_348001 HO367; clear BK333 BK342 BK347 HB; have HO_334002 := n0_; have HO_343001 := n1_; have HO_348001 := n2_; have HO367 := n3_; have BK333 := n4_; have BK342 := n5_; have BK347 := n6_; have HB := n7_; clear n0_ n1_ n2_ n3_ n4_ n5_ n6_ n7_; (try clear hb); (try clear hb2); (try clear hk); (try clear hi)))
               go_ret2
               exact ⟨by first | rfl | (simp [errW_none, errW_some] <;> rfl) | (simp [*, errW_none, errW_some] <;> rfl), by exact wq HB.out⟩
              ·
               rw [if_neg c91] at H
               have c91b0 : decide (t368 ≤ (-4294967296)) = false := decide_eq_false c91
               clear c91
               simp only [Option.some.injEq, Prod.mk.injEq] at H
               obtain ⟨rfl, rfl⟩ := H
               have hnb102 := NB342_333.out
               have hnc102 := NB333_342.out
               have hnb103 := NB342_347.out
               have hnc103 := NB347_342.out
               have hcz104_0 : wc.cell? ⟨gb342, 0, none⟩ = some (.bool x343000_60) := (blk_cell BK342.out 0).trans rfl
               have hcz104_1 : wc.cell? ⟨gb342, 1, none⟩ = some (u343001) := (blk_cell BK342.out 1).trans rfl
               have hfz104_0 := blk_frozen BK342.out 0
               have hfz104_1 := blk_frozen BK342.out 1
               have hnb105 := NB347_333.out
               have hnc105 := NB333_347.out
               have hcz106_0 : wc.cell? ⟨gb347, 0, none⟩ = some (.bool x348000_3) := (blk_cell BK347.out 0).trans rfl
               have hcz106_1 : wc.cell? ⟨gb347, 1, none⟩ = some (u348001) := (blk_cell BK347.out 1).trans rfl
               have hfz106_0 := blk_frozen BK347.out 0
               have hfz106_1 := blk_frozen BK347.out 1
               obtain ⟨Ao107, co107, eo107⟩ := Kd.V_slice HO_343001.out
               subst eo107
               obtain ⟨Ao108, co108, eo108⟩ := Kd.V_slice HO_348001.out
               subst eo108
               go_wp2_with (first | ((with_reducible refine gate_callee (f := 41) rfl ?_); refine goesL_ (some 63) rfl rfl Tryd.func41 (by kernel_rfl) rfl #[.agg #[.bool x343000_60, .slice Ao107 x343001_2.length co107], .agg #[.bool x348000_3, .slice Ao108 x348001_3.length co108]] rfl (by (try simp only [List.map_toArray, List.map_cons, List.map_nil]); first | done | rfl | (simp only [List.length_drop, List.length_take]; rfl)) ?_; (with_reducible refine (pointillistref01_Near.calls kj60 x343000_60 _ _ x343001_2 x348000_3 _ _ x348001_3 t364 t365 _ ?side1 ?side2 ?side3 ?side4 A77.out).mono ?_); (case side1 => exact cq (Kd.V_reads' HO_343001.out).2.2); (case side2 => exact (Kd.V_reads' HO_343001.out).2.1); (case side3 => exact cq (Kd.V_reads' HO_348001.out).2.2); (case side4 => exact (Kd.V_reads' HO_348001.out).2.1); rintro e w109 ⟨v366, rfl, ho0, hb⟩; refine ⟨_, rfl, ?_⟩; have n0_ := Aside0.mk (Kd.V_below (vq HO_334002.out) hb); have n1_ := Aside0.mk (Kd.V_below (vq HO_343001.out) hb); have n2_ := Aside0.mk (Kd.V_below (vq HO_348001.out) hb); have n3_ := Aside0.mk (Kd.V_lower (Kd.V_mono (ok' := fun k_ => k_ ≠ gb333 ∧ k_ ≠ gb342 ∧ k_ ≠ gb347) ho0 (fun k_ hk_ => ⟨(Kd.freshB (bq BK333.out) k_ hk_), (Kd.freshB (bq BK342.out) k_ hk_), (Kd.freshB (bq BK347.out) k_ hk_)⟩)) (below_size (wq HB.out))); have n4_ := Aside0.mk (blk_below (bq BK333.out) hb); have n5_ := Aside0.mk (blk_below (bq BK342.out) hb); have n6_ := Aside0.mk (blk_below (bq BK347.out) hb); have n7_ := Aside0.mk (below_step (wq HB.out) hb); clear HO_334002 HO_343001 HO_348001 BK333; clear BK342 BK347 HB; have HO_334002 := n0_; have HO_343001 := n1_; have HO_348001 := n2_; have HO367 := n3_; have BK333 := n4_; have BK342 := n5_; have BK347 := n6_; have HB := n7_; clear n0_ n1_ n2_ n3_ n4_ n5_ n6_ n7_; (try clear hb); (try clear hb2); (try clear hk); (try clear hi); (try clear ho0); obtain ⟨Ao110, co110, eo110⟩ := Kd.V_slice HO367.out; subst eo110) | ((with_reducible refine gate_callee (f := 40) rfl ?_); refine goesL_ (some 64) rfl rfl Tryd.func40 (by kernel_rfl) rfl #[.agg #[.bool t364, .slice Ao110 t365.length co110]] rfl (by (try simp only [List.map_toArray, List.map_cons, List.map_nil]); first | done | rfl | (simp only [List.length_drop, List.length_take]; rfl)) ?_; (with_reducible refine (pointillistref01_Plain.calls kj60 t364 _ _ t365 t368 true _ ?side1 ?side2 A78.out).mono ?_); (case side1 => exact cq (Kd.V_reads' HO367.out).2.2); (case side2 => exact (Kd.V_reads' HO367.out).2.1); rintro e w111 ⟨rfl, hb⟩; refine ⟨_, rfl, ?_⟩; have n0_ := Aside0.mk (Kd.V_below (vq HO_334002.out) hb); have n1_ := Aside0.mk (Kd.V_below (vq HO_343001.out) hb); have n2_ := Aside0.mk (Kd.V_below (vq HO_348001.out) hb); have n3_ := Aside0.mk (Kd.V_below (vq HO367.out) hb); have n4_ := Aside0.mk (blk_below (bq BK333.out) hb); have n5_ := Aside0.mk (blk_below (bq BK342.out) hb); have n6_ := Aside0.mk (blk_below (bq BK347.out) hb); have n7_ := Aside0.mk (below_step (wq HB.out) hb); clear HO_334002 HO_343001 HO_348001 HO367; clear BK333 BK342 BK347 HB; have HO_334002 := n0_; have HO_343001 := n1_; have HO_348001 := n2_; have HO367 := n3_; have BK333 := n4_; have BK342 := n5_; have BK347 := n6_; have HB := n7_; clear n0_ n1_ n2_ n3_ n4_ n5_ n6_ n7_; (try clear hb); (try clear hb2); (try clear hk); (try clear hi)))
               go_ret2
               exact ⟨by first | rfl | (simp [errW_none, errW_some] <;> rfl) | (simp [*, errW_none, errW_some] <;> rfl), by exact wq HB.out⟩
            ·
             replace c79 := Bool.eq_false_iff.mpr c79
             subst c79
             have H1 : (some (0, 2)) = some (r1, r2) := by rw [if_neg (show ¬ (false = true) by decide)] at H; exact H
             clear H
             have H := H1
             clear H1
             simp only [Option.some.injEq, Prod.mk.injEq] at H
             obtain ⟨rfl, rfl⟩ := H
             have hnb112 := NB342_333.out
             have hnc112 := NB333_342.out
             have hnb113 := NB342_347.out
             have hnc113 := NB347_342.out
             have hcz114_0 : wc.cell? ⟨gb342, 0, none⟩ = some (.bool x343000_60) := (blk_cell BK342.out 0).trans rfl
             have hcz114_1 : wc.cell? ⟨gb342, 1, none⟩ = some (u343001) := (blk_cell BK342.out 1).trans rfl
             have hfz114_0 := blk_frozen BK342.out 0
             have hfz114_1 := blk_frozen BK342.out 1
             have hnb115 := NB347_333.out
             have hnc115 := NB333_347.out
             have hcz116_0 : wc.cell? ⟨gb347, 0, none⟩ = some (.bool x348000_3) := (blk_cell BK347.out 0).trans rfl
             have hcz116_1 : wc.cell? ⟨gb347, 1, none⟩ = some (u348001) := (blk_cell BK347.out 1).trans rfl
             have hfz116_0 := blk_frozen BK347.out 0
             have hfz116_1 := blk_frozen BK347.out 1
             obtain ⟨Ao117, co117, eo117⟩ := Kd.V_slice HO_343001.out
             subst eo117
             obtain ⟨Ao118, co118, eo118⟩ := Kd.V_slice HO_348001.out
             subst eo118
             go_wp2_with (first | ((with_reducible refine gate_callee (f := 41) rfl ?_); refine goesL_ (some 63) rfl rfl Tryd.func41 (by kernel_rfl) rfl #[.agg #[.bool x343000_60, .slice Ao117 x343001_2.length co117], .agg #[.bool x348000_3, .slice Ao118 x348001_3.length co118]] rfl (by (try simp only [List.map_toArray, List.map_cons, List.map_nil]); first | done | rfl | (simp only [List.length_drop, List.length_take]; rfl)) ?_; (with_reducible refine (pointillistref01_Near.calls kj60 x343000_60 _ _ x343001_2 x348000_3 _ _ x348001_3 t364 t365 _ ?side1 ?side2 ?side3 ?side4 A77.out).mono ?_); (case side1 => exact cq (Kd.V_reads' HO_343001.out).2.2); (case side2 => exact (Kd.V_reads' HO_343001.out).2.1); (case side3 => exact cq (Kd.V_reads' HO_348001.out).2.2); (case side4 => exact (Kd.V_reads' HO_348001.out).2.1); rintro e w119 ⟨v366, rfl, ho0, hb⟩; refine ⟨_, rfl, ?_⟩; have n0_ := Aside0.mk (Kd.V_below (vq HO_334002.out) hb); have n1_ := Aside0.mk (Kd.V_below (vq HO_343001.out) hb); have n2_ := Aside0.mk (Kd.V_below (vq HO_348001.out) hb); have n3_ := Aside0.mk (Kd.V_lower (Kd.V_mono (ok' := fun k_ => k_ ≠ gb333 ∧ k_ ≠ gb342 ∧ k_ ≠ gb347) ho0 (fun k_ hk_ => ⟨(Kd.freshB (bq BK333.out) k_ hk_), (Kd.freshB (bq BK342.out) k_ hk_), (Kd.freshB (bq BK347.out) k_ hk_)⟩)) (below_size (wq HB.out))); have n4_ := Aside0.mk (blk_below (bq BK333.out) hb); have n5_ := Aside0.mk (blk_below (bq BK342.out) hb); have n6_ := Aside0.mk (blk_below (bq BK347.out) hb); have n7_ := Aside0.mk (below_step (wq HB.out) hb); clear HO_334002 HO_343001 HO_348001 BK333; clear BK342 BK347 HB; have HO_334002 := n0_; have HO_343001 := n1_; have HO_348001 := n2_; have HO367 := n3_; have BK333 := n4_; have BK342 := n5_; have BK347 := n6_; have HB := n7_; clear n0_ n1_ n2_ n3_ n4_ n5_ n6_ n7_; (try clear hb); (try clear hb2); (try clear hk); (try clear hi); (try clear ho0); obtain ⟨Ao120, co120, eo120⟩ := Kd.V_slice HO367.out; subst eo120) | ((with_reducible refine gate_callee (f := 40) rfl ?_); refine goesL_ (some 64) rfl rfl Tryd.func40 (by kernel_rfl) rfl #[.agg #[.bool t364, .slice Ao120 t365.length co120]] rfl (by (try simp only [List.map_toArray, List.map_cons, List.map_nil]); first | done | rfl | (simp only [List.length_drop, List.length_take]; rfl)) ?_; (with_reducible refine (pointillistref01_Plain.calls kj60 t364 _ _ t365 t368 false _ ?side1 ?side2 A78.out).mono ?_); (case side1 => exact cq (Kd.V_reads' HO367.out).2.2); (case side2 => exact (Kd.V_reads' HO367.out).2.1); rintro e w121 ⟨rfl, hb⟩; refine ⟨_, rfl, ?_⟩; have n0_ := Aside0.mk (Kd.V_below (vq HO_334002.out) hb); have n1_ := Aside0.mk (Kd.V_below (vq HO_343001.out) hb); have n2_ := Aside0.mk (Kd.V_below (vq HO_348001.out) hb); have n3_ := Aside0.mk (Kd.V_below (vq HO367.out) hb); have n4_ := Aside0.mk (blk_below (bq BK333.out) hb); have n5_ := Aside0.mk (blk_below (bq BK342.out) hb); have n6_ := Aside0.mk (blk_below (bq BK347.out) hb); have n7_ := Aside0.mk (below_step (wq HB.out) hb); clear HO_334002 HO_343001 HO_348001 HO367; clear BK333 BK342 BK347 HB; have HO_334002 := n0_; have HO_343001 := n1_; have HO_348001 := n2_; have HO367 := n3_; have BK333 := n4_; have BK342 := n5_; have BK347 := n6_; have HB := n7_; clear n0_ n1_ n2_ n3_ n4_ n5_ n6_ n7_; (try clear hb); (try clear hb2); (try clear hk); (try clear hi)))
             go_ret2
             exact ⟨by first | rfl | (simp [errW_none, errW_some] <;> rfl) | (simp [*, errW_none, errW_some] <;> rfl), by exact wq HB.out⟩
end Go.Proofs.YtfpnglgipchjhaaDoor.PR
namespace Go.Proofs.YtfpnglgipchjhaaDoor.PR
open Go.RowKit Go.Proofs.YtfpnglgipchjhaaDoorW.PrintWords Go.Proofs.YtfpnglgipchjhaaDoorW.PrintLast Go.Proofs.YtfpnglgipchjhaaDoorW.PrintMore Go.Proofs.YtfpnglgipchjhaaDoor.DecV
theorem small_ev (n : Nat) (h : n < 9223372036854775808) : Ev (fun k => pointillistref04_small.f k (n : Int)) (false, dg n) := by
  unfold pointillistref04_small.f
  refine Ev.bind (of_ev (n : Int) (by omega)) ?_
  have e1 : decide ((n : Int) < 0) = false := decide_eq_false (by omega)
  have e2 : (n : Int).natAbs = n := Int.natAbs_natCast n
  rw [e1, e2]
  exact Ev.now _
theorem dg_len_ten {D n : Nat} (h : D < 10 ^ n) : (dg D).length ≤ n := dg_len (Nat.lt_of_lt_of_le h (Nat.pow_le_pow_left (by decide) n))
theorem refread_digits (s : ByteArray) (hs : s.size ≤ 300) (pt ng : Bool) (pw : Int) (i : Nat) : i ≤ s.size → ∀ (D b : Nat), D < 10 ^ i → b ≤ i → ∀ r,
    (D * 10 ^ (runD (bytesOf s) i).length + dv (runD (bytesOf s) i) < 10 ^ rn (bytesOf s) i → Ev (fun k => pointillistref04_Read.l0 k s ((rn (bytesOf s) i : Nat) : Int) ((b + (if pt = true then (runD (bytesOf s) i).length else 0) : Nat) : Int) pt ng false (dg (D * 10 ^ (runD (bytesOf s) i).length + dv (runD (bytesOf s) i))) pw) r) →
    Ev (fun k => pointillistref04_Read.l0 k s (i : Int) (b : Int) pt ng false (dg D) pw) r := by
  refine rn_ind (L := bytesOf s) (fun i => i ≤ s.size → ∀ (D b : Nat), D < 10 ^ i → b ≤ i → ∀ r,
    (D * 10 ^ (runD (bytesOf s) i).length + dv (runD (bytesOf s) i) < 10 ^ rn (bytesOf s) i → Ev (fun k => pointillistref04_Read.l0 k s ((rn (bytesOf s) i : Nat) : Int) ((b + (if pt = true then (runD (bytesOf s) i).length else 0) : Nat) : Int) pt ng false (dg (D * 10 ^ (runD (bytesOf s) i).length + dv (runD (bytesOf s) i))) pw) r) →
    Ev (fun k => pointillistref04_Read.l0 k s (i : Int) (b : Int) pt ng false (dg D) pw) r) (fun i h ih hi D b hD hb r hr => ?_) (fun i h hi D b hD hb r hr => ?_) i
  · have hlt := isD_lt h
    rw [bytesOf_length] at hlt
    obtain ⟨v0, v9⟩ := isD_val h
    have hm : (lk (bytesOf s) i - 48) % 256 = (((lk (bytesOf s) i - 48).toNat : Nat) : Int) := by omega
    have n101 : ¬ lk (bytesOf s) i = 101 := by omega
    have n46 : ¬ lk (bytesOf s) i = 46 := by omega
    have n69 : (lk (bytesOf s) i != 69) = true := by
      rw [bne_iff_ne]
      omega
    have c0 : (0 : Int) ≤ (i : Int) := by omega
    have c1 : (i : Int) < (s.size : Int) := by omega
    have hlen := dg_len_ten hD
    refine Ev.step (fun k => by rw [pointillistref04_Read.l0, if_pos c1, if_pos c0, bt_lk, if_neg n101, n69]) ?_
    refine Ev.step (fun k => by rw [pointillistref04_Read.j2, if_pos rfl, if_pos c0, if_pos c1, bt_lk, if_neg n46, hm, w1 i (by omega)]) ?_
    have l10 : (dg 10).length ≤ 4 := len4 (by decide)
    have ld : (dg (lk (bytesOf s) i - 48).toNat).length ≤ 4 := len4 (by omega)
    refine Ev.bind (small_ev 10 (by decide)) (Ev.bind (mul_ev false false D 10 (by omega) (by omega)) (Ev.bind (small_ev _ (by omega)) (Ev.bind (add_ev _ false (D * 10) _ (by have := dg_len_mul hlen l10; omega) (by omega)) ?_)))
    have ef : addFlag (false != false) false (D * 10) (lk (bytesOf s) i - 48).toNat = false := rfl
    have es : addSize (false != false) false (D * 10) (lk (bytesOf s) i - 48).toNat = D * 10 + (lk (bytesOf s) i - 48).toNat := rfl
    rw [ef, es]
    have hD2 : D * 10 + (lk (bytesOf s) i - 48).toNat < 10 ^ (i + 1) := by rw [Nat.pow_succ]; omega
    have e1 : (D * 10 + (lk (bytesOf s) i - 48).toNat) * 10 ^ (runD (bytesOf s) (i + 1)).length + dv (runD (bytesOf s) (i + 1)) = D * 10 ^ (runD (bytesOf s) i).length + dv (runD (bytesOf s) i) := by
      rw [runD_step h, dv_cons, List.length_cons, Nat.pow_succ, Nat.add_mul, Nat.mul_assoc, Nat.mul_comm 10]
      omega
    have e2 : (runD (bytesOf s) i).length = (runD (bytesOf s) (i + 1)).length + 1 := by rw [runD_step h, List.length_cons]
    cases pt with
    | true =>
      simp only [if_true] at hr ⊢
      rw [w1 b (by omega)]
      refine ih (by omega) _ (b + 1) hD2 (by omega) r (fun hx => ?_)
      simp only [if_true]
      rw [e1] at hx ⊢
      rw [← rn_step h] at hx ⊢
      have := hr hx
      rw [e2, ← e2] at this
      rw [show b + 1 + (runD (bytesOf s) (i + 1)).length = b + (runD (bytesOf s) i).length by omega]
      exact this
    | false =>
      simp only [Bool.false_eq_true, if_false] at hr ⊢
      refine ih (by omega) _ b hD2 (by omega) r (fun hx => ?_)
      simp only [Bool.false_eq_true, if_false]
      rw [e1] at hx ⊢
      rw [← rn_step h] at hx ⊢
      exact hr hx
  · rw [rn_stop h, runD_stop h] at hr
    have e1 : D * 10 ^ ([] : List Int).length + dv [] = D := by rw [dv_nil]; simp
    have e2 : (b + if pt = true then ([] : List Int).length else 0) = b := by split <;> simp
    rw [e1, e2] at hr
    exact hr hD
theorem cap10 (x : Nat) (d : Int) (h0 : 0 ≤ d) (h9 : d ≤ 9) : wrap64 (wrap64 (((min x 1000 : Nat) : Int) * 10) + d) = ((min x 1000 : Nat) : Int) * 10 + d := by
  rw [w64s (((min x 1000 : Nat) : Int) * 10) (by omega) (by omega), w64s _ (by omega) (by omega)]
theorem cap10_hi (x : Nat) (d : Int) (h0 : 0 ≤ d) (h : ((min x 1000 : Nat) : Int) * 10 + d > 1000) : ((min (x * 10 + d.toNat) 1000 : Nat) : Int) = 1000 := by omega
theorem cap10_lo (x : Nat) (d : Int) (h0 : 0 ≤ d) (h : ¬ ((min x 1000 : Nat) : Int) * 10 + d > 1000) : ((min (x * 10 + d.toNat) 1000 : Nat) : Int) = ((min x 1000 : Nat) : Int) * 10 + d := by omega
theorem refread_power (s : ByteArray) (hs : s.size ≤ 300) (down ng : Bool) (b : Nat) (hb : b ≤ 300) (D : Nat) (pw : Int) (i : Nat) : i ≤ s.size → rn (bytesOf s) i = s.size → ∀ (x : Nat),
    Ev (fun k => pointillistref04_Read.l1 k s (i : Int) (b : Int) ((min x 1000 : Nat) : Int) down ng false (dg D) pw) (ng, false, dg D, (if down = true then -((min (x * 10 ^ (runD (bytesOf s) i).length + dv (runD (bytesOf s) i)) 1000 : Nat) : Int) else ((min (x * 10 ^ (runD (bytesOf s) i).length + dv (runD (bytesOf s) i)) 1000 : Nat) : Int)) - b) := by
  refine rn_ind (L := bytesOf s) (fun i => i ≤ s.size → rn (bytesOf s) i = s.size → ∀ (x : Nat),
    Ev (fun k => pointillistref04_Read.l1 k s (i : Int) (b : Int) ((min x 1000 : Nat) : Int) down ng false (dg D) pw) (ng, false, dg D, (if down = true then -((min (x * 10 ^ (runD (bytesOf s) i).length + dv (runD (bytesOf s) i)) 1000 : Nat) : Int) else ((min (x * 10 ^ (runD (bytesOf s) i).length + dv (runD (bytesOf s) i)) 1000 : Nat) : Int)) - b)) (fun i h ih hi hr x => ?_) (fun i h hi hr x => ?_) i
  · have hlt := isD_lt h
    rw [bytesOf_length] at hlt
    obtain ⟨v0, v9⟩ := isD_val h
    have hm : (lk (bytesOf s) i - 48) % 256 = lk (bytesOf s) i - 48 := by omega
    have e : (x * 10 + (lk (bytesOf s) i - 48).toNat) * 10 ^ (runD (bytesOf s) (i + 1)).length + dv (runD (bytesOf s) (i + 1)) = x * 10 ^ (runD (bytesOf s) i).length + dv (runD (bytesOf s) i) := by
      rw [runD_step h, dv_cons, List.length_cons, Nat.pow_succ, Nat.add_mul, Nat.mul_assoc, Nat.mul_comm 10]
      omega
    have h2 := ih (by omega) (by rw [← rn_step h]; exact hr) (x * 10 + (lk (bytesOf s) i - 48).toNat)
    rw [e] at h2
    have ew := cap10 x (lk (bytesOf s) i - 48) v0 v9
    refine Ev.step (fun k => by rw [pointillistref04_Read.l1, if_pos (by omega), if_pos (by omega), bt_lk, hm, ew, w1 i (by omega)]) ?_
    by_cases hc : ((min x 1000 : Nat) : Int) * 10 + (lk (bytesOf s) i - 48) > 1000
    · simp only [if_pos hc]
      have e3 : ((min (x * 10 + (lk (bytesOf s) i - 48).toNat) 1000 : Nat) : Int) = 1000 := cap10_hi x _ v0 hc
      rw [e3] at h2
      exact h2
    · simp only [if_neg hc]
      have e3 : ((min (x * 10 + (lk (bytesOf s) i - 48).toNat) 1000 : Nat) : Int) = ((min x 1000 : Nat) : Int) * 10 + (lk (bytesOf s) i - 48) := cap10_lo x _ v0 hc
      rw [e3] at h2
      exact h2
  · rw [rn_stop h] at hr
    rw [runD_stop h]
    have e : x * 10 ^ ([] : List Int).length + dv [] = x := by rw [dv_nil]; simp
    rw [e]
    refine Ev.step (fun k => by rw [pointillistref04_Read.l1, if_neg (by omega)]) ?_
    cases down with
    | true =>
      simp only [if_true]
      rw [w64s (-((min x 1000 : Nat) : Int)) (by omega) (by omega), w64s _ (by omega) (by omega)]
      exact Ev.now _
    | false =>
      simp only [Bool.false_eq_true, if_false]
      rw [w64s _ (by omega) (by omega)]
      exact Ev.now _
theorem refread_end (s : ByteArray) (hs : s.size ≤ 300) (hn : isNum (bytesOf s)) (pt ng : Bool) (D : Nat) (hb : behS (bytesOf s) ≤ s.size) (pw : Int) :
    Ev (fun k => pointillistref04_Read.l0 k s ((endM (bytesOf s) : Nat) : Int) ((behS (bytesOf s) : Nat) : Int) pt ng false (dg D) pw) (ng, false, dg D, epwS 1000 (bytesOf s) - behS (bytesOf s)) := by
  obtain ⟨_, hend⟩ := isNum_parts hn
  rcases hend with h1 | ⟨h1, h2, h3⟩
  · rw [h1, bytesOf_length]
    have e : epwS 1000 (bytesOf s) = 0 := by unfold epwS; rw [if_neg (by omega)]
    rw [e, Int.zero_sub]
    refine Ev.step (fun k => by rw [pointillistref04_Read.l0, if_neg (Int.lt_irrefl _)]) ?_
    refine Ev.step (fun k => by rw [pointillistref04_Read.j2, if_neg (by decide), if_neg (Int.lt_irrefl _), w64s (-((behS (bytesOf s) : Nat) : Int)) (by omega) (by omega)]) (Ev.now _)
  · rw [bytesOf_length] at h2 h3
    have hlt := isE_lt h1
    rw [bytesOf_length] at hlt
    have hj : endM (bytesOf s) + 1 ≤ expJ (bytesOf s) (endM (bytesOf s)) := by unfold expJ; split <;> omega
    have hw := w1 (endM (bytesOf s)) (by omega)
    have c0 : (0 : Int) ≤ ((endM (bytesOf s) : Nat) : Int) := by omega
    have c1 : ((endM (bytesOf s) : Nat) : Int) < (s.size : Int) := by omega
    have hP : (0 : Nat) * 10 ^ (runD (bytesOf s) (expJ (bytesOf s) (endM (bytesOf s)))).length + dv (runD (bytesOf s) (expJ (bytesOf s) (endM (bytesOf s)))) = dv (runD (bytesOf s) (expJ (bytesOf s) (endM (bytesOf s)))) := by omega
    have toE : ∀ r, Ev (fun k => pointillistref04_Read.j2 k s ((endM (bytesOf s) : Nat) : Int) ((behS (bytesOf s) : Nat) : Int) pt false ng false (dg D) pw) r → Ev (fun k => pointillistref04_Read.l0 k s ((endM (bytesOf s) : Nat) : Int) ((behS (bytesOf s) : Nat) : Int) pt ng false (dg D) pw) r := by
      intro r hr
      unfold isE at h1
      by_cases hc : lk (bytesOf s) (endM (bytesOf s)) = 101
      · exact Ev.step (fun k => by rw [pointillistref04_Read.l0, if_pos c1, if_pos c0, bt_lk, if_pos hc]) hr
      · have hc2 : lk (bytesOf s) (endM (bytesOf s)) = 69 := (of_decide_eq_true h1).resolve_left hc
        have hc3 : (lk (bytesOf s) (endM (bytesOf s)) != 69) = false := by rw [hc2]; rfl
        exact Ev.step (fun k => by rw [pointillistref04_Read.l0, if_pos c1, if_pos c0, bt_lk, if_neg hc, hc3]) hr
    refine toE _ (Ev.step (fun k => by rw [pointillistref04_Read.j2, if_neg (by decide), if_pos c1, hw, refsign_eq]) ?_)
    simp only [Option.bind_some]
    have d0 : (0 : Int) ≤ ((endM (bytesOf s) + 1 : Nat) : Int) := by omega
    cases hg2 : isS (lk (bytesOf s) (endM (bytesOf s) + 1)) with
    | true =>
      have hj2 : expJ (bytesOf s) (endM (bytesOf s)) = endM (bytesOf s) + 2 := by unfold expJ; rw [hg2]; rfl
      have hlt2 := isS_lt hg2
      rw [bytesOf_length] at hlt2
      have d1 : ((endM (bytesOf s) + 1 : Nat) : Int) < (s.size : Int) := by omega
      simp only [if_true, if_pos d0, if_pos d1, bt_lk]
      rw [w1 (endM (bytesOf s) + 1) (by omega)]
      refine Ev.step (fun k => by rw [pointillistref04_Read.j3]) ?_
      have h := refread_power s hs (lk (bytesOf s) (endM (bytesOf s) + 1) == 45) ng (behS (bytesOf s)) (by omega) D pw (endM (bytesOf s) + 1 + 1) (by omega) (by rw [show endM (bytesOf s) + 1 + 1 = endM (bytesOf s) + 2 from rfl, ← hj2]; exact h2) 0
      rw [show endM (bytesOf s) + 1 + 1 = endM (bytesOf s) + 2 from rfl, ← hj2, hP] at h
      rw [show endM (bytesOf s) + 1 + 1 = endM (bytesOf s) + 2 from rfl, ← hj2]
      have e : epwS 1000 (bytesOf s) = (if (lk (bytesOf s) (endM (bytesOf s) + 1) == 45) = true then -((min (dv (runD (bytesOf s) (expJ (bytesOf s) (endM (bytesOf s))))) 1000 : Nat) : Int) else ((min (dv (runD (bytesOf s) (expJ (bytesOf s) (endM (bytesOf s))))) 1000 : Nat) : Int)) := by
        unfold epwS
        rw [bytesOf_length, if_pos hlt]
        simp only [beq_iff_eq]
      rw [e]
      exact h
    | false =>
      have hj2 : expJ (bytesOf s) (endM (bytesOf s)) = endM (bytesOf s) + 1 := by unfold expJ; rw [hg2]; rfl
      have h45 : ¬ lk (bytesOf s) (endM (bytesOf s) + 1) = 45 := by
        intro h
        rw [h] at hg2
        exact absurd hg2 (by decide)
      simp only [Bool.false_eq_true, if_false]
      refine Ev.step (fun k => by rw [pointillistref04_Read.j3]) ?_
      have h := refread_power s hs false ng (behS (bytesOf s)) (by omega) D pw (endM (bytesOf s) + 1) (by omega) (by rw [← hj2]; exact h2) 0
      rw [← hj2, hP] at h
      rw [← hj2]
      have e : epwS 1000 (bytesOf s) = ((min (dv (runD (bytesOf s) (expJ (bytesOf s) (endM (bytesOf s))))) 1000 : Nat) : Int) := by
        unfold epwS
        rw [bytesOf_length, if_pos hlt, if_neg h45]
      rw [e]
      exact h
theorem refread_ev (s : ByteArray) (hs : s.size ≤ 300) (hn : isNum (bytesOf s)) : Ev (fun k => pointillistref04_Read.f k s) (negS (bytesOf s), false, dg (dv (digS (bytesOf s))), epwS 1000 (bytesOf s) - behS (bytesOf s)) := by
  have hi0 : i0 (bytesOf s) ≤ s.size := by
    unfold i0
    split
    · rename_i h
      have := isS_lt h
      rw [bytesOf_length] at this
      omega
    · omega
  have ha := rn_le (L := bytesOf s) (i := i0 (bytesOf s)) (by rw [bytesOf_length]; exact hi0)
  have hl1 := runD_len (bytesOf s) (i0 (bytesOf s))
  rw [bytesOf_length] at ha
  have e0 : 0 * 10 ^ (runD (bytesOf s) (i0 (bytesOf s))).length + dv (runD (bytesOf s) (i0 (bytesOf s))) = dv (runD (bytesOf s) (i0 (bytesOf s))) := by omega
  have body : Ev (fun k => pointillistref04_Read.l0 k s ((i0 (bytesOf s) : Nat) : Int) ((0 : Nat) : Int) false (negS (bytesOf s)) false (dg 0) 0) (negS (bytesOf s), false, dg (dv (digS (bytesOf s))), epwS 1000 (bytesOf s) - behS (bytesOf s)) := by
    refine refread_digits s hs false (negS (bytesOf s)) 0 (i0 (bytesOf s)) hi0 0 0 (ten_pos _) (Nat.zero_le _) _ (fun hx => ?_)
    rw [e0] at hx ⊢
    have e00 : (0 + if false = true then (runD (bytesOf s) (i0 (bytesOf s))).length else 0) = 0 := rfl
    rw [e00]
    by_cases hp : lk (bytesOf s) (rn (bytesOf s) (i0 (bytesOf s))) = 46
    · have hlt : rn (bytesOf s) (i0 (bytesOf s)) < (bytesOf s).length := lk_lt (by rw [hp]; decide)
      rw [bytesOf_length] at hlt
      have hE : endM (bytesOf s) = rn (bytesOf s) (rn (bytesOf s) (i0 (bytesOf s)) + 1) := by unfold endM scanB; rw [if_pos hp]
      have hB : behS (bytesOf s) = (runD (bytesOf s) (rn (bytesOf s) (i0 (bytesOf s)) + 1)).length := by unfold behS; rw [if_pos hp]
      have hD : dv (digS (bytesOf s)) = dv (runD (bytesOf s) (i0 (bytesOf s))) * 10 ^ (runD (bytesOf s) (rn (bytesOf s) (i0 (bytesOf s)) + 1)).length + dv (runD (bytesOf s) (rn (bytesOf s) (i0 (bytesOf s)) + 1)) := by unfold digS; rw [if_pos hp, dv_app]
      have hr2 := rn_le (L := bytesOf s) (i := rn (bytesOf s) (i0 (bytesOf s)) + 1) (by rw [bytesOf_length]; omega)
      have hl2 := runD_len (bytesOf s) (rn (bytesOf s) (i0 (bytesOf s)) + 1)
      rw [bytesOf_length] at hr2
      have c0 : (0 : Int) ≤ ((rn (bytesOf s) (i0 (bytesOf s)) : Nat) : Int) := by omega
      have c1 : ((rn (bytesOf s) (i0 (bytesOf s)) : Nat) : Int) < (s.size : Int) := by omega
      have n101 : ¬ lk (bytesOf s) (rn (bytesOf s) (i0 (bytesOf s))) = 101 := by omega
      have n69 : (lk (bytesOf s) (rn (bytesOf s) (i0 (bytesOf s))) != 69) = true := by rw [hp]; rfl
      refine Ev.step (fun k => by rw [pointillistref04_Read.l0, if_pos c1, if_pos c0, bt_lk, if_neg n101, n69]) ?_
      refine Ev.step (fun k => by rw [pointillistref04_Read.j2, if_pos rfl, if_pos c0, if_pos c1, bt_lk, if_pos hp, w1 _ (by omega)]) ?_
      refine refread_digits s hs true (negS (bytesOf s)) 0 (rn (bytesOf s) (i0 (bytesOf s)) + 1) (by omega) _ 0 (Nat.lt_of_lt_of_le hx (Nat.pow_le_pow_right (by decide) (by omega))) (Nat.zero_le _) _ (fun _ => ?_)
      have e3 : (0 + if true = true then (runD (bytesOf s) (rn (bytesOf s) (i0 (bytesOf s)) + 1)).length else 0) = behS (bytesOf s) := by rw [hB]; simp
      rw [e3, ← hD, ← hE]
      exact refread_end s hs hn true _ _ (by omega) 0
    · have hE : endM (bytesOf s) = rn (bytesOf s) (i0 (bytesOf s)) := by unfold endM scanB; rw [if_neg hp]
      have hB : behS (bytesOf s) = 0 := by unfold behS; rw [if_neg hp]
      have hD : dv (digS (bytesOf s)) = dv (runD (bytesOf s) (i0 (bytesOf s))) := by unfold digS; rw [if_neg hp, List.append_nil]
      rw [← hD, ← hE]
      have h := refread_end s hs hn false (negS (bytesOf s)) (dv (digS (bytesOf s))) (by omega) 0
      rw [hB] at h ⊢
      exact h
  rw [dg_0] at body
  have z : ((0 : Nat) : Int) = 0 := rfl
  unfold pointillistref04_Read.f
  have hsg := refsign_eq s 0
  rw [z] at hsg
  rw [hsg]
  simp only [Option.bind_some]
  cases hg : isS (lk (bytesOf s) 0) with
  | true =>
    have e1 : i0 (bytesOf s) = 1 := by unfold i0; rw [hg]; rfl
    have hlt := isS_lt hg
    rw [bytesOf_length] at hlt
    have c : (0 : Int) < (s.size : Int) := by omega
    have e2 : (bt s 0 == 45) = negS (bytesOf s) := by
      have hb0 : bt s 0 = lk (bytesOf s) 0 := bt_lk s 0
      unfold negS
      rw [hb0, Bool.eq_iff_iff, decide_eq_true_eq, beq_iff_eq]
    rw [e1] at body
    simp only [if_true, if_pos c, e2]
    refine Ev.step (fun k => by rw [pointillistref04_Read.j0]) ?_
    exact body
  | false =>
    have e1 : i0 (bytesOf s) = 0 := by unfold i0; rw [hg]; rfl
    have e2 : negS (bytesOf s) = false := by
      unfold negS
      refine decide_eq_false fun h => ?_
      rw [h] at hg
      exact absurd hg (by decide)
    rw [e1, e2, z] at body
    rw [e2]
    simp only [Bool.false_eq_true, if_false]
    exact Ev.step (fun k => by rw [pointillistref04_Read.j0]) body
end Go.Proofs.YtfpnglgipchjhaaDoor.PR
namespace Go.Proofs.YtfpnglgipchjhaaDoor.PR
open Go.RowKit Go.Proofs.YtfpnglgipchjhaaDoorW.PrintWords Go.Proofs.YtfpnglgipchjhaaDoorW.PrintLast Go.Proofs.YtfpnglgipchjhaaDoorW.PrintMore
attribute [local go_sem] max2_int min2_int max_two min_two max_three min_three max_four min_four
set_option linter.unusedVariables false
set_option linter.unusedSimpArgs false
def pointillistlaw04_DecParses.f (k : Nat) (a0 : ByteArray) : Option (Bool) := (pointillistlaw04_wakes.f k).bind fun t370 => (if t370 = true then (if (a0.size : Int) > 60 then (some true) else ((dec_Parse.f k a0).bind fun bt371 => ((pointillistref04_Parse.f k a0).bind fun bt373 => (if bt371.1 = bt373.1 then (some (bt371.2 == bt373.2)) else (some false))))) else (some false))
theorem pointillistlaw04_DecParses.mono : ∀ a0 k, LeO (pointillistlaw04_DecParses.f k a0) (pointillistlaw04_DecParses.f (k + 1) a0) := by
 intro a0 k
 unfold pointillistlaw04_DecParses.f
 repeat' first
   | (with_reducible exact dec_Parse.mono _ _)
   | (with_reducible exact pointillistlaw04_wakes.mono _)
   | (with_reducible exact pointillistref04_Parse.mono _ _)
   | (with_reducible exact LeO.refl _)
   | (with_reducible exact LeO.none _)
   | (with_reducible refine LeO.ite ?_ ?_)
   | (with_reducible refine LeO.bind ?_ (fun _ => ?_))
   | exact dec_Parse.mono _ _
   | exact pointillistlaw04_wakes.mono _
   | exact pointillistref04_Parse.mono _ _
   | exact LeO.none _
   | refine LeO.ite ?_ ?_
   | refine LeO.bind ?_ (fun _ => ?_)
set_option maxHeartbeats 8000000 in
set_option maxRecDepth 100000 in
theorem pointillistlaw04_DecParses.calls (k : Nat) (a0 : ByteArray) (w : World) (hG : Gl w) (h : pointillistlaw04_DecParses.f k a0 = some true) :
  Calls Tryd.prog 3 #[.string a0] w fun e w' => e = .returned (.bool true) ∧ Below w.heap.size w w' := by
 have HG := Aside0.mk hG
 clear hG
 have HB := Aside0.mk (Below.refl w.heap.size w)
 have H : ((pointillistlaw04_wakes.f k).bind fun t370 => (if t370 = true then (if (a0.size : Int) > 60 then (some true) else ((dec_Parse.f k a0).bind fun bt371 => ((pointillistref04_Parse.f k a0).bind fun bt373 => (if bt371.1 = bt373.1 then (some (bt371.2 == bt373.2)) else (some false))))) else (some false))) = some true := h
 clear h
 replace H := Option.bind_eq_some_iff.mp H
 obtain ⟨t370, A20, H⟩ := H
 replace H : (if t370 = true then (if (a0.size : Int) > 60 then (some true) else ((dec_Parse.f k a0).bind fun bt371 => ((pointillistref04_Parse.f k a0).bind fun bt373 => (if bt371.1 = bt373.1 then (some (bt371.2 == bt373.2)) else (some false))))) else (some false)) = some true := H
 have A2 := Aside0.mk A20
 clear A20
 by_cases c3 : t370 = true
 ·
  subst c3
  have H1 : (if (a0.size : Int) > 60 then (some true) else ((dec_Parse.f k a0).bind fun bt371 => ((pointillistref04_Parse.f k a0).bind fun bt373 => (if bt371.1 = bt373.1 then (some (bt371.2 == bt373.2)) else (some false))))) = some true := by rw [if_pos rfl] at H; exact H
  clear H
  have H := H1
  clear H1
  by_cases c4 : (a0.size : Int) > 60
  ·
   rw [if_pos c4] at H
   have c4b0 : decide (60 < (a0.size : Int)) = true := decide_eq_true c4
   have c4b1 : decide (60 < a0.size) = true := decide_eq_true (by omega)
   clear c4
   have HE_ := Aside0.mk (Option.some.inj H)
   clear H
   go_enter Tryd.func3, Tryd.ntmps3
   go_wp2_with (first | ((with_reducible refine gate_callee (f := 11) rfl ?_); refine goesL_ (some 7) rfl rfl Tryd.func11 (by kernel_rfl) rfl #[] rfl (by (try simp only [List.map_toArray, List.map_cons, List.map_nil]); first | done | rfl | (simp only [List.length_drop, List.length_take]; rfl)) ?_; (with_reducible refine (pointillistlaw04_wakes.calls k  true _ ?side1 A2.out).mono ?_); (case side1 => exact Gl.below HG.out (wq HB.out)); rintro e w5 ⟨rfl, hb⟩; refine ⟨_, rfl, ?_⟩; have n0_ := Aside0.mk (below_step (wq HB.out) hb); clear HB; have HB := n0_; clear n0_; (try clear hb); (try clear hb2); (try clear hk); (try clear hi)))
   go_ret
   exact ⟨by first | rfl | (simp [errW_none, errW_some] <;> rfl) | (rw [HE_.out]; done) | (simp [HE_.out]; done) | (have h_ := HE_.out; simp_all; done) | (have h_ := HE_.out; simp [*] at h_; simp [*, h_]; done) | (simp [*, errW_none, errW_some] <;> rfl), by exact wq HB.out⟩
  ·
   rw [if_neg c4] at H
   have c4b0 : decide (60 < (a0.size : Int)) = false := decide_eq_false c4
   have c4b1 : decide (60 < a0.size) = false := decide_eq_false (by omega)
   clear c4
   replace H := Option.bind_eq_some_iff.mp H
   obtain ⟨⟨t371, t372⟩, A60, H⟩ := H
   replace H : ((pointillistref04_Parse.f k a0).bind fun bt373 => (if t371 = bt373.1 then (some (t372 == bt373.2)) else (some false))) = some true := H
   have A6 := Aside0.mk A60
   clear A60
   replace H := Option.bind_eq_some_iff.mp H
   obtain ⟨⟨t373, t374⟩, A70, H⟩ := H
   replace H : (if t371 = t373 then (some (t372 == t374)) else (some false)) = some true := H
   have A7 := Aside0.mk A70
   clear A70
   by_cases c8 : t371 = t373
   ·
    rw [if_pos c8] at H
    have c8b0 : (t371 == t373) = true := beq_iff_eq.mpr c8
    have c8b1 : (t371 != t373) = false := bne_eq_false_iff_eq.mpr c8
    clear c8
    have HE_ := Aside0.mk (Option.some.inj H)
    clear H
    go_enter Tryd.func3, Tryd.ntmps3
    go_wp2_with (first | ((with_reducible refine gate_callee (f := 11) rfl ?_); refine goesL_ (some 7) rfl rfl Tryd.func11 (by kernel_rfl) rfl #[] rfl (by (try simp only [List.map_toArray, List.map_cons, List.map_nil]); first | done | rfl | (simp only [List.length_drop, List.length_take]; rfl)) ?_; (with_reducible refine (pointillistlaw04_wakes.calls k  true _ ?side1 A2.out).mono ?_); (case side1 => exact Gl.below HG.out (wq HB.out)); rintro e w9 ⟨rfl, hb⟩; refine ⟨_, rfl, ?_⟩; have n0_ := Aside0.mk (below_step (wq HB.out) hb); clear HB; have HB := n0_; clear n0_; (try clear hb); (try clear hb2); (try clear hk); (try clear hi)) | ((with_reducible refine gate_callee (f := 12) rfl ?_); refine goesL_ (some 14) rfl rfl Tryd.func12 (by kernel_rfl) rfl #[.string a0] rfl (by (try simp only [List.map_toArray, List.map_cons, List.map_nil]); first | done | rfl | (simp only [List.length_drop, List.length_take]; rfl)) ?_; (with_reducible refine (dec_Parse.calls k a0 t371 t372 _ ?side1 A6.out).mono ?_); (case side1 => exact Gl.below HG.out (wq HB.out)); rintro e w10 ⟨rfl, hb⟩; refine ⟨_, rfl, ?_⟩; have n0_ := Aside0.mk (below_step (wq HB.out) hb); clear HB; have HB := n0_; clear n0_; (try clear hb); (try clear hb2); (try clear hk); (try clear hi)) | ((with_reducible refine gate_callee (f := 13) rfl ?_); refine goesL_ (some 19) rfl rfl Tryd.func13 (by kernel_rfl) rfl #[.string a0] rfl (by (try simp only [List.map_toArray, List.map_cons, List.map_nil]); first | done | rfl | (simp only [List.length_drop, List.length_take]; rfl)) ?_; (with_reducible refine (pointillistref04_Parse.calls k a0 t373 t374 _ A7.out).mono ?_); rintro e w11 ⟨rfl, hb⟩; refine ⟨_, rfl, ?_⟩; have n0_ := Aside0.mk (below_step (wq HB.out) hb); clear HB; have HB := n0_; clear n0_; (try clear hb); (try clear hb2); (try clear hk); (try clear hi)))
    go_ret
    exact ⟨by first | rfl | (simp [errW_none, errW_some] <;> rfl) | (rw [HE_.out]; done) | (simp [HE_.out]; done) | (have h_ := HE_.out; simp_all; done) | (have h_ := HE_.out; simp [*] at h_; simp [*, h_]; done) | (simp [*, errW_none, errW_some] <;> rfl), by exact wq HB.out⟩
   ·
    rw [if_neg c8] at H
    have c8b0 : (t371 == t373) = false := beq_eq_false_iff_ne.mpr c8
    have c8b1 : (t371 != t373) = true := bne_iff_ne.mpr c8
    exact absurd H (by simp)
 ·
  replace c3 := Bool.eq_false_iff.mpr c3
  subst c3
  have H1 : (some false) = some true := by rw [if_neg (show ¬ (false = true) by decide)] at H; exact H
  clear H
  have H := H1
  clear H1
  exact absurd H (by simp)
end Go.Proofs.YtfpnglgipchjhaaDoor.PR
namespace Go.Proofs.YtfpnglgipchjhaaDoor.PR
open Go.RowKit Go.Proofs.YtfpnglgipchjhaaDoorW.PrintWords Go.Proofs.YtfpnglgipchjhaaDoorW.PrintLast Go.Proofs.YtfpnglgipchjhaaDoorW.PrintMore Go.Proofs.YtfpnglgipchjhaaDoor.DecV
theorem refparse_up (ng : Bool) (D : List Int) (pw : Int) (hpw : pw ≤ 2000) (U n : Nat) (hU : U < 10 ^ n) (hn : n ≤ 1000) (r : Int × Int)
    (hr : Ev (fun k => pointillistref04_Parse.l1 k 0 ng false D pw false (dg (U * 10 ^ pw.toNat)) false (dg 1)) r) :
    ∀ (d i : Nat), i + d = pw.toNat → Ev (fun k => pointillistref04_Parse.l0 k (i : Int) ng false D pw false (dg (U * 10 ^ i)) false (dg 1)) r := by
  intro d
  induction d with
  | zero =>
    intro i hi
    have e : i = pw.toNat := by omega
    subst e
    exact Ev.step (fun k => by rw [pointillistref04_Parse.l0, if_neg (by omega)]) hr
  | succ d ih =>
    intro i hi
    have hlen : (dg (U * 10 ^ i)).length ≤ n + i := dg_len_ten (by rw [Nat.pow_add]; exact Nat.mul_lt_mul_of_pos_right hU (ten_pos i))
    have l10 : (dg 10).length ≤ 4 := len4 (by decide)
    refine Ev.step (fun k => by rw [pointillistref04_Parse.l0, if_pos (by omega), w1 i (by omega)]) ?_
    refine Ev.bind (small_ev 10 (by decide)) (Ev.bind (mul_ev false false _ 10 (by omega) (by omega)) ?_)
    have e : U * 10 ^ i * 10 = U * 10 ^ (i + 1) := by rw [Nat.pow_succ, Nat.mul_assoc]
    rw [e]
    exact ih (i + 1) (by omega)
theorem refparse_down (ng : Bool) (D : List Int) (pw : Int) (hpw : -2000 ≤ pw) (X : Nat) (r : Int × Int)
    (hr : Ev (fun k => pointillistref04_Parse.j3 k (if ng = true then decide (0 < (dg X).length) else false) (dg X) false (dg (10 ^ (-pw).toNat))) r) :
    ∀ (d i : Nat), i + d = (-pw).toNat → Ev (fun k => pointillistref04_Parse.l1 k (-(i : Int)) ng false D pw false (dg X) false (dg (10 ^ i))) r := by
  intro d
  induction d with
  | zero =>
    intro i hi
    have e : i = (-pw).toNat := by omega
    subst e
    refine Ev.step (fun k => by rw [pointillistref04_Parse.l1, if_neg (by omega)]) ?_
    cases ng with
    | true =>
      simp only [if_true] at hr ⊢
      exact hr
    | false =>
      simp only [Bool.false_eq_true, if_false] at hr ⊢
      exact hr
  | succ d ih =>
    intro i hi
    have hlen : (dg (10 ^ i)).length ≤ i + 1 := dg_len_ten (Nat.pow_lt_pow_right (by decide) (Nat.lt_succ_self i))
    have l10 : (dg 10).length ≤ 4 := len4 (by decide)
    have ew : wrap64 (-(i : Int) - 1) = -((i + 1 : Nat) : Int) := by rw [w64s _ (by omega) (by omega)]; omega
    refine Ev.step (fun k => by rw [pointillistref04_Parse.l1, if_pos (by omega), ew]) ?_
    refine Ev.bind (small_ev 10 (by decide)) (Ev.bind (mul_ev false false _ 10 (by omega) (by omega)) ?_)
    rw [← Nat.pow_succ]
    exact ih (i + 1) (by omega)
theorem refparse_last (g : Bool) (X Y : Nat) (hX : (dg X).length ≤ 5000) (hY : (dg Y).length ≤ 5000) (hY0 : 0 < Y) :
    Ev (fun k => pointillistref04_Parse.j3 k (if g = true then decide (0 < (dg X).length) else false) (dg X) false (dg Y)) (if inb (nearQ (sg g X) Y) then (nearQ (sg g X) Y, 0) else (0, 2)) := by
  obtain ⟨f, q, h1, h2, h3⟩ := near_ev (if g = true then decide (0 < (dg X).length) else false) X false Y (by omega) (by omega) hY0
  have hflag : ∀ e : Bool, (e != false) = e := by intro e; cases e <;> rfl
  have hsg : sgn (if g = true then decide (0 < (dg X).length) else false) X = sg g X := by
    cases g with
    | false => rfl
    | true =>
      by_cases h0 : 0 < X
      · rw [if_pos rfl, decide_eq_true ((dg_len_pos X).2 h0)]; rfl
      · obtain rfl : X = 0 := by omega
        rw [if_pos rfl, dg_0]
        rfl
  rw [hflag, hsg] at h2
  have hv : sgn f q = nearQ (sg g X) Y := h2
  have lq : (dg q).length ≤ 1073741824 := by
    have l6 := dg_len_mono h3
    have l7 := dg_len_add hX hX
    rw [← Nat.two_mul] at l7
    have l8 := dg_len_add l7 (show (dg Y).length ≤ 5000 + 1 by omega)
    have l9 : (dg 1).length ≤ 5000 + 1 + 1 := by rw [← dg1]; decide
    have l10 := dg_len_add l8 l9
    omega
  refine Ev.step (fun k => by rw [pointillistref04_Parse.j3]) (Ev.bind h1 (Ev.bind (plain_ev f q lq) ?_))
  rw [hv]
  generalize nearQ (sg g X) Y = v
  unfold fitR
  by_cases hf : -9223372036854775808 ≤ v ∧ v < 9223372036854775808
  · simp only [if_pos hf, if_true]
    by_cases h4 : v ≥ 4294967296
    · simp only [if_pos h4]
      rw [if_neg (show ¬ inb v by unfold inb; omega)]
      exact Ev.now _
    · simp only [if_neg h4]
      by_cases h5 : v ≤ -4294967296
      · simp only [if_pos h5]
        rw [if_neg (show ¬ inb v by unfold inb; omega)]
        exact Ev.now _
      · simp only [if_neg h5]
        rw [if_pos (show inb v by unfold inb; omega)]
        exact Ev.now _
  · simp only [if_neg hf, Bool.false_eq_true, if_false]
    rw [if_neg (show ¬ inb v by unfold inb; omega)]
    exact Ev.now _
theorem epw_range (M : Nat) (hM : M ≤ 1000) (L : List Int) : -1000 ≤ epwS M L ∧ epwS M L ≤ 1000 := by
  unfold epwS
  split
  · split <;> omega
  · omega
theorem behS_le (L : List Int) : behS L ≤ L.length := by
  have h1 := digS_len L
  unfold digS at h1
  unfold behS
  rw [List.length_append] at h1
  split
  · rename_i h2
    rw [if_pos h2] at h1
    omega
  · omega
theorem refparse_ev (s : ByteArray) (hs : s.size ≤ 300) : Ev (fun k => pointillistref04_Parse.f k s) (parseS (bytesOf s)) := by
  unfold pointillistref04_Parse.f parseS
  have z : ((0 : Nat) : Int) = 0 := rfl
  have hsc := refscan_ev s (by omega) 0 (Nat.zero_le _) true
  rw [z] at hsc
  refine Ev.bind hsc ?_
  have hle := scanS_le (L := bytesOf s) (i := 0) (Nat.zero_le _) true
  have bad : Ev (fun k => pointillistref04_Parse.j0 k s true) (0, 3) := Ev.step (f := fun _ => some (0, 3)) (fun k => by rw [pointillistref04_Parse.j0, if_pos rfl]) (Ev.now _)
  by_cases hn : isNum (bytesOf s)
  · rw [if_pos hn]
    have e1 : (scanS (bytesOf s) 0 true).1 = s.size := by rw [show scanS (bytesOf s) 0 true = _ from hn, bytesOf_length]
    have e2 : (scanS (bytesOf s) 0 true).2 = true := by rw [show scanS (bytesOf s) 0 true = _ from hn]
    simp only [e1, e2, if_true, bne_self_eq_false]
    have hr := refread_ev s hs hn
    have hpw := epw_range 1000 (Nat.le_refl _) (bytesOf s)
    have hbl := behS_le (bytesOf s)
    have hdl := digS_len (bytesOf s)
    rw [bytesOf_length] at hbl hdl
    obtain ⟨n, hn3⟩ : ∃ n : Nat, n = 300 := ⟨_, rfl⟩
    have hD : dv (digS (bytesOf s)) < 10 ^ n := Nat.lt_of_lt_of_le (dv_lt (digS_ok (bytesOf s))) (Nat.pow_le_pow_right (n := 10) (by decide) (by omega))
    unfold specR specN
    have hp1 : -1300 ≤ epwS 1000 (bytesOf s) - behS (bytesOf s) ∧ epwS 1000 (bytesOf s) - behS (bytesOf s) ≤ 1000 := by omega
    generalize epwS 1000 (bytesOf s) - behS (bytesOf s) = pw at *
    generalize dv (digS (bytesOf s)) = D at *
    generalize negS (bytesOf s) = ng at *
    refine Ev.step (fun k => by rw [pointillistref04_Parse.j0, if_neg (by decide)]) (Ev.bind hr ?_)
    have l5 : (dg 65536).length ≤ 4 := len4 (by decide)
    have lD := dg_len_ten hD
    refine Ev.bind (small_ev 65536 (by decide)) (Ev.bind (mul_ev false false D 65536 (by omega) (by omega)) (Ev.bind (small_ev 1 (by decide)) ?_))
    have hU : D * 65536 < 10 ^ (n + 5) := by
      have e : (10 : Nat) ^ (n + 5) = 10 ^ n * 10 ^ 5 := Nat.pow_add _ _ _
      have e5 : (10 : Nat) ^ 5 = 100000 := by decide
      rw [e, e5]
      generalize (10 ^ n : Nat) = T at *
      omega
    have hX : D * 65536 * 10 ^ pw.toNat < 10 ^ (n + 5 + pw.toNat) := by rw [Nat.pow_add]; exact Nat.mul_lt_mul_of_pos_right hU (ten_pos _)
    have hup := refparse_up ng (dg D) pw (by omega) (D * 65536) (n + 5) hU (by omega) (if inb (nearQ (sg ng (D * 65536 * 10 ^ pw.toNat)) ((10 ^ (-pw).toNat : Nat) : Int)) then (nearQ (sg ng (D * 65536 * 10 ^ pw.toNat)) ((10 ^ (-pw).toNat : Nat) : Int), 0) else (0, 2)) ?_ pw.toNat 0 (by omega)
    · rw [z, Nat.pow_zero, Nat.mul_one] at hup
      exact hup
    · have hlast := refparse_last ng (D * 65536 * 10 ^ pw.toNat) (10 ^ (-pw).toNat) (by have := dg_len_ten hX; omega) (by have := dg_len_ten (Nat.pow_lt_pow_right (a := 10) (by decide) (Nat.lt_succ_self (-pw).toNat)); omega) (ten_pos _)
      have hdn := refparse_down ng (dg D) pw (by omega) (D * 65536 * 10 ^ pw.toNat) _ hlast (-pw).toNat 0 (by omega)
      rw [Nat.pow_zero] at hdn
      exact hdn
  · rw [if_neg hn]
    cases h2 : (scanS (bytesOf s) 0 true).2 with
    | false =>
      simp only [Bool.false_eq_true, if_false]
      exact bad
    | true =>
      simp only [if_true]
      have h1 : (scanS (bytesOf s) 0 true).1 ≠ (bytesOf s).length := fun h => hn (Prod.ext h h2)
      rw [bytesOf_length] at hle h1
      have e : (((scanS (bytesOf s) 0 true).1 : Int) != (s.size : Int)) = true := by rw [bne_iff_ne]; omega
      rw [e]
      exact bad
theorem wakes_ev : Ev (fun k => pointillistlaw04_wakes.f k) true := by
  have e1 := decparse_ev (⟨#[49, 46, 53]⟩ : ByteArray) (by decide)
  have e2 := decparse_ev (⟨#[45, 46, 53, 101, 49]⟩ : ByteArray) (by decide)
  have e3 := decparse_ev (⟨#[49, 101]⟩ : ByteArray) (by decide)
  have e4 := decparse_ev (⟨#[54, 53, 53, 51, 54]⟩ : ByteArray) (by decide)
  have p1 : parseS (bytesOf (⟨#[49, 46, 53]⟩ : ByteArray)) = (98304, 0) := by decide +kernel
  have p2 : parseS (bytesOf (⟨#[45, 46, 53, 101, 49]⟩ : ByteArray)) = (-327680, 0) := by decide +kernel
  have p3 : parseS (bytesOf (⟨#[49, 101]⟩ : ByteArray)) = (0, 3) := by decide +kernel
  have p4 : parseS (bytesOf (⟨#[54, 53, 53, 51, 54]⟩ : ByteArray)) = (0, 2) := by decide +kernel
  rw [p1] at e1
  rw [p2] at e2
  rw [p3] at e3
  rw [p4] at e4
  unfold pointillistlaw04_wakes.f
  refine Ev.bind e1 (Ev.bind e2 (Ev.bind e3 (Ev.bind e4 ?_)))
  simp only [if_true]
  exact Ev.now _
theorem decparses_ev (s : ByteArray) : Ev (fun k => pointillistlaw04_DecParses.f k s) true := by
  unfold pointillistlaw04_DecParses.f
  refine Ev.bind wakes_ev ?_
  simp only [if_true]
  by_cases h : (s.size : Int) > 60
  · simp only [if_pos h]
    exact Ev.now _
  · simp only [if_neg h]
    refine Ev.bind (decparse_ev s (by omega)) (Ev.bind (refparse_ev s (by omega)) ?_)
    simp only [if_true, BEq.rfl]
    exact Ev.now _
theorem decParses_walk (s : ByteArray) (w : World) (hG : Gl w) (_ : s.size ≤ 140737488351232) : Calls Tryd.prog 3 #[.string s] w fun e w' => e = .returned (.bool true) ∧ Below w.heap.size w w' := by
  obtain ⟨k, h⟩ := (decparses_ev s).rounds
  exact pointillistlaw04_DecParses.calls k s w hG h
end Go.Proofs.YtfpnglgipchjhaaDoor.PR
namespace Go.Proofs.YtfpnglgipchjhaaDoor
open Go.ChangeShapes Go.WideShapes Go.ChangeAt
section
variable {H : Type} {enc : TypeId × Value → H} {P : Program} {w : World} {base : Nat} {spare : Nat → Bool} {held : Bool} {t : TypeId}
theorem ints_of_parts {k : IntKind} {cs : List Value} {n m : Nat} {xs : List (DataW H × List MemPlace)} {T : Nat → TypeId} (hn : cs.length = n) (hx : xs.length = n) (hT : ∀ i, i < n → P.underlying (T i) = some (.int k))
    (h : ∀ i, i < n → DataW.trod enc P w base spare held m (T i) ((cs.drop i).take 1) = xs[i]?) : ∃ ns : List Int, ns.length = n ∧ cs = ns.map (Value.int k) ∧ (∀ x ∈ ns, (Lit.int k x).wf = true) ∧ xs.map (·.1) = ns.map (fun z => .lit (.int k z)) := by
  have key : ∀ i, i < n → ∃ z, cs[i]? = some (.int k z) ∧ (Lit.int k z).wf = true ∧ xs[i]? = some (.lit (.int k z), []) := by
    intro i hi
    have h1 := h i hi
    rw [List.getElem?_eq_getElem (by omega)] at h1
    obtain ⟨z, hz, hxz, hw⟩ := DataW.trod_int (hT i hi) h1
    refine ⟨z, ?_, hw, by rw [List.getElem?_eq_getElem (by omega), hxz]⟩
    have hlt : i < cs.length := by omega
    rw [List.drop_eq_getElem_cons hlt] at hz
    simp only [List.take_succ_cons, List.take_zero, List.cons.injEq, and_true] at hz
    rw [List.getElem?_eq_getElem hlt, hz]
  refine ⟨cs.map (fun v => match v with | .int _ z => z | _ => 0), by simpa using hn, ?_, ?_, ?_⟩
  · apply List.ext_getElem?
    intro i
    by_cases hi : i < n
    · obtain ⟨z, hz, _⟩ := key i hi
      simp [List.getElem?_map, hz]
    · simp [List.getElem?_map, List.getElem?_eq_none (show cs.length ≤ i by omega)]
  rotate_left
  · apply List.ext_getElem?
    intro i
    by_cases hi : i < n
    · obtain ⟨z, hz, _, hxz⟩ := key i hi
      simp [List.getElem?_map, hz, hxz]
    · simp [List.getElem?_map, List.getElem?_eq_none (show cs.length ≤ i by omega), List.getElem?_eq_none (show xs.length ≤ i by omega)]
  · intro x hx2
    rw [List.mem_map] at hx2
    obtain ⟨v, hv, hvx⟩ := hx2
    obtain ⟨i, hi⟩ := List.getElem?_of_mem hv
    have hlt : i < n := by
      have := (List.getElem?_eq_some_iff.1 hi).1
      omega
    obtain ⟨z, hz, hw, _⟩ := key i hlt
    rw [hi] at hz
    obtain rfl := Option.some.inj hz
    simp only at hvx
    rw [← hvx]
    exact hw
theorem trod_array_ints {k : IntKind} {n : Nat} {e : TypeId} {fuel : Nat} {cs : List Value} {x : DataW H × List MemPlace} (ht : P.underlying t = some (.array n e)) (he : P.underlying e = some (.int k)) (hc : P.cellsOf e = 1) (hC : P.cellsOf t = n)
    (h : DataW.trod enc P w base spare held fuel t cs = some x) : ∃ ns : List Int, ns.length = n ∧ cs = ns.map (Value.int k) ∧ (∀ z ∈ ns, (Lit.int k z).wf = true) ∧ x.1 = .agg (ns.map (fun z => .lit (.int k z))) := by
  obtain ⟨xs, m, rfl, rfl, hlen, hx, hel⟩ := DataW.trod_array ht h
  suffices hsuf : ∃ ns : List Int, ns.length = n ∧ cs = ns.map (Value.int k) ∧ (∀ z ∈ ns, (Lit.int k z).wf = true) ∧ xs.map (·.1) = ns.map (fun z => .lit (.int k z)) by
    obtain ⟨ns, h1, h2, h3, h4⟩ := hsuf
    exact ⟨ns, h1, h2, h3, by simp only [h4]⟩
  refine ints_of_parts (enc := enc) (P := P) (w := w) (base := base) (spare := spare) (held := held) (m := m) (T := fun _ => e) (by omega) hx (fun _ _ => he) (fun i hi => ?_)
  have := hel i hi
  rw [hc, Nat.mul_one] at this
  exact this
end
end Go.Proofs.YtfpnglgipchjhaaDoor
namespace Go.Proofs.YtfpnglgipchjhaaDoor
open Go.ChangeShapes Go.WideShapes Go.ChangeAt
section
variable {H : Type} {enc : TypeId × Value → H} {P : Program} {w : World} {base : Nat} {spare : Nat → Bool} {held : Bool} {t : TypeId}
def lit1 {H : Type} : DataW H → Int
  | .lit (.int _ z) => z
  | _ => 0
def lits {H : Type} : DataW H → List Int
  | .agg l => l.map lit1
  | _ => []
def lits2 {H : Type} : DataW H → List Int
  | .agg l => l.flatMap lits
  | _ => []
theorem lits_ints {k : IntKind} (ns : List Int) : lits (H := H) (.agg (ns.map fun z => .lit (.int k z))) = ns := by
  unfold lits
  simp only [List.map_map]
  have : (lit1 (H := H) ∘ fun z => DataW.lit (Lit.int k z)) = id := rfl
  rw [this, List.map_id]
theorem table_flat {k : IntKind} {n : Nat} {e : TypeId} {fuel : Nat} {cs : List Value} {x : DataW H × List MemPlace} (ht : P.underlying t = some (.array n e)) (he : P.underlying e = some (.int k)) (hc : P.cellsOf e = 1) (hC : P.cellsOf t = n)
    (h : DataW.trod enc P w base spare held fuel t cs = some x) : cs = (lits x.1).map (Value.int k) := by
  obtain ⟨ns, _, h2, _, h4⟩ := trod_array_ints ht he hc hC h
  rw [h4, lits_ints, h2]
theorem chunks {α : Type} {m : Nat} : ∀ (n : Nat) (cs : List α) (g : Nat → List α), cs.length = n * m → (∀ i, i < n → (cs.drop (i * m)).take m = g i) → cs = (List.range n).flatMap g := by
  intro n
  induction n with
  | zero =>
    intro cs g hl _
    rw [Nat.zero_mul] at hl
    rw [List.length_eq_zero_iff.mp hl]
    rfl
  | succ n ih =>
    intro cs g hl hg
    have h0 := hg 0 (Nat.succ_pos n)
    rw [Nat.zero_mul, List.drop_zero] at h0
    have h1 := ih (cs.drop m) (fun i => g (i + 1)) (by rw [List.length_drop, hl, Nat.succ_mul]; omega) (fun i hi => by
      have := hg (i + 1) (by omega)
      rw [List.drop_drop, ← this, Nat.succ_mul, Nat.add_comm])
    rw [List.range_succ_eq_map, List.flatMap_cons, ← h0, List.flatMap_map, ← h1, List.take_append_drop]
theorem table_rows {k : IntKind} {n m : Nat} {e1 e : TypeId} {fuel : Nat} {cs : List Value} {x : DataW H × List MemPlace} (ht : P.underlying t = some (.array n e1)) (h1 : P.underlying e1 = some (.array m e)) (he : P.underlying e = some (.int k)) (hc : P.cellsOf e = 1) (hc1 : P.cellsOf e1 = m) (hC : P.cellsOf t = n * m)
    (h : DataW.trod enc P w base spare held fuel t cs = some x) : cs = (lits2 x.1).map (Value.int k) := by
  obtain ⟨xs, q, rfl, rfl, hlen, hx, hel⟩ := DataW.trod_array ht h
  have key : cs = (List.range n).flatMap fun i => (lits ((xs.map (·.1)).getD i (.agg []))).map (Value.int k) := by
    refine chunks (m := m) n cs _ (by rw [← hC]; exact hlen) (fun i hi => ?_)
    have hi2 : i < xs.length := by rw [hx]; exact hi
    have := hel i hi
    rw [hc1, List.getElem?_eq_getElem hi2] at this
    have h3 := table_flat (k := k) h1 he hc hc1 this
    rw [List.getD_eq_getElem?_getD, List.getElem?_map, List.getElem?_eq_getElem hi2]
    exact h3
  rw [key]
  unfold lits2
  simp only [List.map_flatMap]
  have e2 : xs.map (·.1) = (List.range n).map fun i => (xs.map (·.1)).getD i (.agg []) := by
    apply List.ext_getElem?
    intro i
    by_cases hi : i < n
    · have hi2 : i < xs.length := by rw [hx]; exact hi
      simp [List.getElem?_eq_getElem hi2, hi]
    · simp [hi, List.getElem?_eq_none (show xs.length ≤ i by rw [hx]; omega)]
  conv => rhs; rw [e2]
  rw [List.flatMap_map]
theorem cell_of_table {k : IntKind} {L : List Int} {cs : Array Value} (h : cs.toList = L.map (Value.int k)) (i : Nat) (hi : i < L.length) : cs[i]? = some (.int k (L.getD i 0)) := by
  rw [← Array.getElem?_toList, h, List.getElem?_map, List.getD_eq_getElem?_getD, List.getElem?_eq_getElem hi]
  rfl
end
end Go.Proofs.YtfpnglgipchjhaaDoor
namespace Go.Proofs.YtfpnglgipchjhaaDoor.PR
open Go.ChangeShapes Go.WideShapes Go.ChangeAt Go.RowKit
theorem gNext : Tryd.prog.globalNamed "pointillist/dec.next" = some 1 := by kernel_rfl
theorem tNext : (Tryd.prog.globals[1]?).map (·.type) = some 85 := by kernel_rfl
theorem gEnds : Tryd.prog.globalNamed "pointillist/dec.ends" = some 2 := by kernel_rfl
theorem tEnds : (Tryd.prog.globals[2]?).map (·.type) = some 86 := by kernel_rfl
theorem of_tables {W : World} (h : laidMetH Tryd.prog [("pointillist/dec.next", Rows.laid_pointillist_dec_next), ("pointillist/dec.ends", Rows.laid_pointillist_dec_ends)] W) : Gl W := by
  rw [MakeChecks.laidMetH_plain _ _ _ (by kernel_rfl)] at h
  obtain ⟨ps, ⟨g0, t0, cs0, f0, p0, q0, hg0, ht0, hv0, hd0, hrest, _⟩, _, _⟩ := h
  obtain ⟨g1, t1, cs1, f1, p1, q1, hg1, ht1, hv1, hd1, _, _⟩ := hrest
  obtain rfl := Option.some.inj (gNext.symm.trans hg0)
  obtain rfl := Option.some.inj (tNext.symm.trans ht0)
  obtain rfl := Option.some.inj (gEnds.symm.trans hg1)
  obtain rfl := Option.some.inj (tEnds.symm.trans ht1)
  have c0 := table_rows (k := .i64) Tryd.underlying85 Tryd.underlying84 Tryd.underlying3 (by kernel_rfl) (by kernel_rfl) (by kernel_rfl) hd0
  have c1 := table_flat (k := .i64) Tryd.underlying86 Tryd.underlying3 (by kernel_rfl) (by kernel_rfl) hd1
  exact ⟨fun i hi => (World.var?_cell hg0 hv0 i).trans (cell_of_table (L := nextL) c0 i hi), fun i hi => (World.var?_cell hg1 hv1 i).trans (cell_of_table (L := endsL) c1 i hi)⟩
theorem Gl.of_decParses {W : World} (h : laidMetH Tryd.prog [("pointillist/dec.next", Rows.laid_pointillist_dec_next), ("pointillist/dec.ends", Rows.laid_pointillist_dec_ends)] W) : Gl W := of_tables h
end Go.Proofs.YtfpnglgipchjhaaDoor.PR
namespace Go.Proofs.YtfpnglgipchjhaaDoor.decParsesR
open Go.ChangeShapes Go.WideShapes Go.ChangeAt Go.RowKit
open Go.ChangeMaps (open_string shut_string)
theorem own : ownKnob Tryd.prog.godebug = none := by kernel_rfl
theorem laidOut : laidOutB Tryd.prog = true := by kernel_rfl
def listed {H : Type} : List (String × DataW H) := [("pointillist/dec.next", Rows.laid_pointillist_dec_next), ("pointillist/dec.ends", Rows.laid_pointillist_dec_ends)]
theorem met (os : Os) (args : Array Value) : laidMetH Tryd.prog listed ((World.doorLaid Tryd.prog 48 os).forCall (fun _ _ => 0) ⟨#[], args, []⟩).memory :=
  laidMetH_of_parts3 (fuel := 8) (laidMet_of_run' 8 (by kernel_rfl) (by kernel_rfl)) (by kernel_rfl) (by kernel_rfl)
set_option maxRecDepth 100000 in
theorem lifted (os : Os) (started : os.Started) (H : Type) (enc : TypeId × Value → H) :
    ReturnsInHanded {} Tryd.checked os 3 .any (fun w args => (Rows.decParsesSpec.pre enc Tryd.prog Tryd.f3 [] false w args ∧ laidMetH Tryd.prog listed w) ∧ sizedMet enc Tryd.prog Tryd.f3 (OpenSpec.ofChange Rows.decParsesSpec) false w args)
      (Rows.decParsesSpec.post enc Tryd.prog Tryd.f3 false true false false) := by
  refine returnsInHanded_of_change_and (C := Tryd.checked) (X := fun w _ => laidMetH Tryd.prog listed w) (fun _ _ _ hh h => h.of_heap hh) own started (by kernel_rfl) Tryd.func3
    (ChangeSpec.witness_shaped (enc := enc) (C := Tryd.checked) (os := os) (X := fun w _ => laidMetH Tryd.prog listed w) false (World.doorLaid Tryd.prog 48 os) #[.string ByteArray.empty] 8 rfl (World.shaped_of_RefB (by kernel_rfl) (by kernel_rfl)) (by kernel_rfl) (by kernel_rfl) (by kernel_rfl) (met os _)) ?_
  intro W base args ds gs before hval0 hW hcnd hsz0 hL _
  clear hcnd
  have hval : ∀ (j : Nat) t v, Tryd.f3.params[j]? = some t → args[j]? = some v → Value.okWide Tryd.prog W .any base t v := hval0
  have hsz : (DataW.weightsEach Tryd.prog (Tryd.f3.params.toList ++ Rows.decParsesSpec.plain.varTypes Tryd.prog) (ds ++ gs)).all (· ≤ reachBytes) = true := hsz0
  have hW' := hW
  obtain ⟨p, q, hA0, hV, rfl, hfz, hnd⟩ := hW
  have hA : DataW.TrodAll enc Tryd.prog W 0 (fun _ => true) true Tryd.f3.params.toList args.toList ds p := hA0
  rw [Tryd.params3] at hA hval hsz
  obtain ⟨v0, vs0, d0, ds0, p0, q0, hargs, rfl, rfl, h0, r0⟩ := trodAll_cons hA
  obtain ⟨rfl, rfl, rfl⟩ := trodAll_nil r0
  obtain rfl : args = #[v0] := by cases args; simp_all
  obtain ⟨rfl, rfl⟩ := trodVars_none hV
  have hG : PR.Gl W := PR.Gl.of_decParses hL
  have k0 := h0
  have lt0 : ∀ x ∈ p0, x.block < W.heap.size := by obtain ⟨m, hm⟩ := k0; exact DataW.trod_lt m _ _ _ hm
  obtain ⟨a0, rfl, rfl, rfl, y0⟩ := open_string Tryd.underlying9 (hval 0 9 v0 rfl rfl) h0
  have w0 : a0.size ≤ 140737488351232 := by
    have z := sized_string hsz (j := 0) (t := 9) rfl rfl
    rw [Array.length_toList] at z
    exact z
  clear hA0 hval0 hsz0 hsz
  refine (PR.decParses_walk a0 W hG w0).mono fun e W' ⟨he, bel⟩ => ?_
  subst he
  exact ⟨_, rfl, _, _, _, [], _, [], hW', trodAll_mk1 (shut_bool Tryd.underlying4 _), (trodAll_cons_mk (Below.trod laidOut (by kernel_rfl) (of_decide_eq_true (by kernel_rfl)) k0 bel lt0) trodAll_mk0), rfl, bel.frame _, fun h => by cases h⟩
theorem over : Rows.decParsesRow.holds Tryd.pinned (OpenSpec.ofChange Rows.decParsesSpec) :=
  OpenClaim.holds_of_wide 3 Tryd.f3 rfl rfl rfl rfl rfl rfl rfl ⟨rfl, rfl, rfl, rfl, rfl⟩ rfl rfl rfl rfl rfl (by kernel_rfl) Tryd.func3 (by kernel_rfl)
    (of_decide_eq_true (by kernel_rfl)) (by unfold Func.isWrapper; first | (rw [if_pos (by decide +kernel)]; kernel_rfl) | (rw [if_neg (by decide +kernel)]; exact ⟨rfl, rfl⟩))
    (fun os started H enc _ => lifted os started H enc)
theorem carded : Rows.DecParsesCardSaid :=
  Claim7.holds_tied_plain_at .later [] [.data, .data] true (true, "95a1d7fb7ec61b2c49942a01a6c8ef2bac4f2accfb1daa00ec890a19cac31087") false
    over (fun _ h => by cases h) (by kernel_rfl) (fun _ h => by cases h) decParses_row_tie rfl ⟨rfl, rfl⟩ (by kernel_rfl) rfl
    (fun f fn hf hfn => by
      obtain rfl : f = 3 := Option.some.inj ((show Tryd.prog.funcNamed "pointillist/pointillistlaw04.DecParses" = some 3 by kernel_rfl).symm.trans hf) |>.symm
      obtain rfl : fn = Tryd.f3 := (Option.some.inj (Tryd.func3.symm.trans hfn)).symm
      exact ⟨by kernel_rfl, fun j t ht => by
        rw [Tryd.params3] at ht
        have hm : t ∈ [9] := by simpa using Array.mem_of_getElem? ht
        have hall : ([9].all fun u => !Tryd.prog.wantsStandIn u) = true := by kernel_rfl
        exact (show Tryd.prog.wantsStandIn t = false by simpa using List.all_eq_true.1 hall t hm)⟩)
    (by kernel_rfl)
#print axioms carded
end Go.Proofs.YtfpnglgipchjhaaDoor.decParsesR
namespace Go.Proofs.YtfpnglgipchjhaaDoor
theorem decParses_card : Rows.DecParsesCardSaid := decParsesR.carded
end Go.Proofs.YtfpnglgipchjhaaDoor
