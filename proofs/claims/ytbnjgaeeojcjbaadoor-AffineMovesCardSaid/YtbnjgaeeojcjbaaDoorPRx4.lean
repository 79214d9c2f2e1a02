-- Printed for this claim by a program of this session (wip/ext.py over the kit's print).
import Derived.Test.YtbnjgaeeojcjbaaDoorPRx0
import Derived.Test.YtbnjgaeeojcjbaaDoorPRx3
namespace Go.Proofs.YtbnjgaeeojcjbaaDoor.PR
open Go.RowKit Go.Proofs.YtbnjgaeeojcjbaaDoorW.PrintWords Go.Proofs.YtbnjgaeeojcjbaaDoorW.PrintLast Go.Proofs.YtbnjgaeeojcjbaaDoorW.PrintMore
attribute [local go_sem] max2_int min2_int max_two min_two max_three min_three max_four min_four   -- for this text's walks alone
set_option linter.unusedVariables false
set_option linter.unusedSimpArgs false

/-! ### wide_Dot: function 29 -/
mutual
def wide_Dot.j0 : Nat → Int → Int → Int → Int → Int → Bool → Option (Int × Bool)
  | 0, _, _, _, _, _, _ => none
  | k + 1, x0, x1, x2, x3, x4, x17 => if x17 = true then (some (0, false)) else (if x0 = (-9223372036854775808) then (if x1 = x0 then (if x2 = x0 then (wide_Dot.j1 k x0 x1 x2 x3 x4 (x3 == x0)) else (wide_Dot.j1 k x0 x1 x2 x3 x4 false)) else (wide_Dot.j1 k x0 x1 x2 x3 x4 false)) else (wide_Dot.j1 k x0 x1 x2 x3 x4 false))
def wide_Dot.j1 : Nat → Int → Int → Int → Int → Int → Bool → Option (Int × Bool)
  | 0, _, _, _, _, _, _ => none
  | k + 1, x0, x1, x2, x3, x4, x34 => if x34 = true then (some (0, false)) else ((wide_times.f x0 x1).bind fun bt146 => ((wide_times.f x2 x3).bind fun bt148 => ((wide_big_add.f bt146.1 bt146.2 bt148.1 bt148.2).bind fun bt150 => ((wide_big_shifted.f bt150.1 bt150.2 x4).bind fun bt152 => ((wide_big_plain.f bt152.1 bt152.2).bind fun bt154 => (some (bt154.1, bt154.2)))))))
end
def wide_Dot.f (k : Nat) (a0 : Int) (a1 : Int) (a2 : Int) (a3 : Int) (a4 : Int) : Option (Int × Bool) := if a4 < 0 then (wide_Dot.j0 k a0 a1 a2 a3 a4 true) else (wide_Dot.j0 k a0 a1 a2 a3 a4 (decide (a4 > 62)))
theorem wide_Dot.mono_l : ∀ k, (∀ y0 y1 y2 y3 y4 y5, LeO (wide_Dot.j0 k y0 y1 y2 y3 y4 y5) (wide_Dot.j0 (k + 1) y0 y1 y2 y3 y4 y5)) ∧ (∀ y0 y1 y2 y3 y4 y5, LeO (wide_Dot.j1 k y0 y1 y2 y3 y4 y5) (wide_Dot.j1 (k + 1) y0 y1 y2 y3 y4 y5))
  | 0 => ⟨fun _ _ _ _ _ _ r h => by simp [wide_Dot.j0] at h, fun _ _ _ _ _ _ r h => by simp [wide_Dot.j1] at h⟩
  | k + 1 => by
    obtain ⟨ih0, ih1⟩ := wide_Dot.mono_l k
    refine ⟨?_, ?_⟩
    · intro y0 y1 y2 y3 y4 y5
      unfold wide_Dot.j0
      repeat' first
      | (with_reducible exact ih0 _ _ _ _ _ _)
      | (with_reducible exact ih1 _ _ _ _ _ _)
      | (with_reducible exact LeO.refl _)
      | (with_reducible exact LeO.none _)
      | (with_reducible refine LeO.ite ?_ ?_)
      | (with_reducible refine LeO.bind ?_ (fun _ => ?_))
      | exact ih0 _ _ _ _ _ _
      | exact ih1 _ _ _ _ _ _
      | exact LeO.none _
      | refine LeO.ite ?_ ?_
      | refine LeO.bind ?_ (fun _ => ?_)
    · intro y0 y1 y2 y3 y4 y5
      unfold wide_Dot.j1
      repeat' first
      | (with_reducible exact ih0 _ _ _ _ _ _)
      | (with_reducible exact ih1 _ _ _ _ _ _)
      | (with_reducible exact LeO.refl _)
      | (with_reducible exact LeO.none _)
      | (with_reducible refine LeO.ite ?_ ?_)
      | (with_reducible refine LeO.bind ?_ (fun _ => ?_))
      | exact ih0 _ _ _ _ _ _
      | exact ih1 _ _ _ _ _ _
      | exact LeO.none _
      | refine LeO.ite ?_ ?_
      | refine LeO.bind ?_ (fun _ => ?_)
theorem wide_Dot.mono : ∀ a0 a1 a2 a3 a4 k, LeO (wide_Dot.f k a0 a1 a2 a3 a4) (wide_Dot.f (k + 1) a0 a1 a2 a3 a4) := by
  intro a0 a1 a2 a3 a4 k
  obtain ⟨ih0, ih1⟩ := wide_Dot.mono_l k
  unfold wide_Dot.f
  repeat' first
      | (with_reducible exact ih0 _ _ _ _ _ _)
      | (with_reducible exact ih1 _ _ _ _ _ _)
      | (with_reducible exact LeO.refl _)
      | (with_reducible exact LeO.none _)
      | (with_reducible refine LeO.ite ?_ ?_)
      | (with_reducible refine LeO.bind ?_ (fun _ => ?_))
      | exact ih0 _ _ _ _ _ _
      | exact ih1 _ _ _ _ _ _
      | exact LeO.none _
      | refine LeO.ite ?_ ?_
      | refine LeO.bind ?_ (fun _ => ?_)
set_option maxHeartbeats 8000000 in
set_option maxRecDepth 100000 in
theorem wide_Dot.calls (k : Nat) (a0 : Int) (a1 : Int) (a2 : Int) (a3 : Int) (a4 : Int) (r1 : Int) (r2 : Bool) (w : World) (h : wide_Dot.f k a0 a1 a2 a3 a4 = some (r1, r2)) :
    Calls Tryd.prog 29 #[.int .i64 a0, .int .i64 a1, .int .i64 a2, .int .i64 a3, .int .i64 a4] w fun e w' => e = .returned (.tuple #[.int .i64 r1, .bool r2]) ∧ Below w.heap.size w w' := by
  have HB := Aside0.mk (Below.refl w.heap.size w)
  have H : (if a4 < 0 then (wide_Dot.j0 k a0 a1 a2 a3 a4 true) else (wide_Dot.j0 k a0 a1 a2 a3 a4 (decide (a4 > 62)))) = some (r1, r2) := h
  clear h
  have HC6 := Aside0.mk H
  clear H
  go_enter Tryd.func29, Tryd.ntmps29
  go_upto_region 1 with (fail)
  go_cut [17] (fun v17 wc => ∃ (kq : Nat) (x17_5 : Bool), v17 = .bool x17_5 ∧ Aside0 (wide_Dot.j0 kq a0 a1 a2 a3 a4 x17_5 = some (r1, r2)) ∧ Aside0 (kq ≤ k) ∧ Aside0 (Below w.heap.size w wc))
  case first =>
    have H := HC6.out
    clear HC6
    by_cases c7 : a4 < 0
    · rw [if_pos c7] at H
      have c7b0 : decide (a4 < 0) = true := decide_eq_true c7
      clear c7
      (first | rw [c7b0] | (simp only [i64_w, i32_w]; rw [c7b0]) | skip)
      have H' := Aside0.mk H
      clear H
      go_wp2
      go_meet
      case rel => exact ⟨_, (true), (by first | rfl | (simp; done) | (simp [*]; done)), H', ⟨by first | omega | exact Nat.le_refl _⟩, ⟨by repeat (first | (with_reducible first | exact HB.out | apply below_alloc | apply pw_below_drewN | apply below_drew1) | exact HB.out)⟩⟩
    · rw [if_neg c7] at H
      have c7b0 : decide (a4 < 0) = false := decide_eq_false c7
      clear c7
      (first | rw [c7b0] | (simp only [i64_w, i32_w]; rw [c7b0]) | skip)
      have H' := Aside0.mk H
      clear H
      go_wp2
      go_meet
      case rel => exact ⟨_, (decide (a4 > 62)), (by first | rfl | (simp; done) | (simp [*]; done)), H', ⟨by first | omega | exact Nat.le_refl _⟩, ⟨by repeat (first | (with_reducible first | exact HB.out | apply below_alloc | apply pw_below_drewN | apply below_drew1) | exact HB.out)⟩⟩
  case rest =>
    clear HC6
    try clear c2
    try clear p2
    try clear c7
    try clear c7b0
    obtain ⟨kq, x17_5, rfl, HA, HJ5, HB⟩ := hcut
    cases kq with
    | zero => exact absurd HA.out (by simp [wide_Dot.j0])
    | succ kj5 =>
      have H := HA.out
      clear HA
      simp only [wide_Dot.j0] at H
      by_cases c8 : x17_5 = true
      · subst c8
        have H1 : (some (0, false)) = some (r1, r2) := by rw [if_pos rfl] at H; exact H
        clear H
        have H := H1
        clear H1
        simp only [Option.some.injEq, Prod.mk.injEq] at H
        obtain ⟨rfl, rfl⟩ := H
        go_wp2
        go_ret2
        exact ⟨by first | rfl | (simp [errW_none, errW_some] <;> rfl) | (simp [*, errW_none, errW_some] <;> rfl), by repeat (first | (with_reducible first | exact HB.out | apply below_alloc | apply pw_below_drewN | apply below_drew1) | exact HB.out)⟩
      · replace c8 := Bool.eq_false_iff.mpr c8
        subst c8
        have H1 : (if a0 = (-9223372036854775808) then (if a1 = a0 then (if a2 = a0 then (wide_Dot.j1 kj5 a0 a1 a2 a3 a4 (a3 == a0)) else (wide_Dot.j1 kj5 a0 a1 a2 a3 a4 false)) else (wide_Dot.j1 kj5 a0 a1 a2 a3 a4 false)) else (wide_Dot.j1 kj5 a0 a1 a2 a3 a4 false)) = some (r1, r2) := by rw [if_neg (show ¬ (false = true) by decide)] at H; exact H
        clear H
        have H := H1
        clear H1
        have HC9 := Aside0.mk H
        clear H
        go_upto_region 3 with (fail)
        go_cut [34] (fun v34 wc => ∃ (kq : Nat) (x34_8 : Bool), v34 = .bool x34_8 ∧ Aside0 (wide_Dot.j1 kq a0 a1 a2 a3 a4 x34_8 = some (r1, r2)) ∧ Aside0 (kq ≤ kj5) ∧ Aside0 (Below w.heap.size w wc))
        case first =>
          have H := HC9.out
          clear HC9
          by_cases c10 : a0 = (-9223372036854775808)
          · rw [if_pos c10] at H
            have c10b0 : (a0 == (-9223372036854775808)) = true := beq_iff_eq.mpr c10
            have c10b1 : (a0 != (-9223372036854775808)) = false := bne_eq_false_iff_eq.mpr c10
            clear c10
            (first | rw [c10b0] | (simp only [i64_w, i32_w]; rw [c10b0]) | skip)
            by_cases c11 : a1 = a0
            · rw [if_pos c11] at H
              have c11b0 : (a1 == a0) = true := beq_iff_eq.mpr c11
              have c11b1 : (a1 != a0) = false := bne_eq_false_iff_eq.mpr c11
              clear c11
              by_cases c12 : a2 = a0
              · rw [if_pos c12] at H
                have c12b0 : (a2 == a0) = true := beq_iff_eq.mpr c12
                have c12b1 : (a2 != a0) = false := bne_eq_false_iff_eq.mpr c12
                clear c12
                have H' := Aside0.mk H
                clear H
                go_wp2
                go_meet
                case rel => exact ⟨_, ((a3 == a0)), (by first | rfl | (simp; done) | (simp [*]; done)), H', ⟨by have := HJ5.out; first | omega | exact Nat.le_refl _⟩, ⟨by repeat (first | (with_reducible first | exact HB.out | apply below_alloc | apply pw_below_drewN | apply below_drew1) | exact HB.out)⟩⟩
              · rw [if_neg c12] at H
                have c12b0 : (a2 == a0) = false := beq_eq_false_iff_ne.mpr c12
                have c12b1 : (a2 != a0) = true := bne_iff_ne.mpr c12
                have H' := Aside0.mk H
                clear H
                go_wp2
                go_meet
                case rel => exact ⟨_, (false), (by first | rfl | (simp; done) | (simp [*]; done)), H', ⟨by have := HJ5.out; first | omega | exact Nat.le_refl _⟩, ⟨by repeat (first | (with_reducible first | exact HB.out | apply below_alloc | apply pw_below_drewN | apply below_drew1) | exact HB.out)⟩⟩
            · rw [if_neg c11] at H
              have c11b0 : (a1 == a0) = false := beq_eq_false_iff_ne.mpr c11
              have c11b1 : (a1 != a0) = true := bne_iff_ne.mpr c11
              have H' := Aside0.mk H
              clear H
              go_wp2
              go_meet
              case rel => exact ⟨_, (false), (by first | rfl | (simp; done) | (simp [*]; done)), H', ⟨by have := HJ5.out; first | omega | exact Nat.le_refl _⟩, ⟨by repeat (first | (with_reducible first | exact HB.out | apply below_alloc | apply pw_below_drewN | apply below_drew1) | exact HB.out)⟩⟩
          · rw [if_neg c10] at H
            have c10b0 : (a0 == (-9223372036854775808)) = false := beq_eq_false_iff_ne.mpr c10
            have c10b1 : (a0 != (-9223372036854775808)) = true := bne_iff_ne.mpr c10
            (first | rw [c10b0] | (simp only [i64_w, i32_w]; rw [c10b0]) | skip)
            have H' := Aside0.mk H
            clear H
            go_wp2
            go_meet
            case rel => exact ⟨_, (false), (by first | rfl | (simp; done) | (simp [*]; done)), H', ⟨by have := HJ5.out; first | omega | exact Nat.le_refl _⟩, ⟨by repeat (first | (with_reducible first | exact HB.out | apply below_alloc | apply pw_below_drewN | apply below_drew1) | exact HB.out)⟩⟩
        case rest =>
          clear HC9
          try clear c1
          try clear c2
          try clear p2
          try clear c7
          try clear c7b0
          try clear c8
          try clear c10
          try clear c10b0
          try clear c10b1
          try clear c11
          try clear c11b0
          try clear c11b1
          try clear c12
          try clear c12b0
          try clear c12b1
          try clear p2
          obtain ⟨kq, x34_8, rfl, HA, HJ8, HB⟩ := hcut
          cases kq with
          | zero => exact absurd HA.out (by simp [wide_Dot.j1])
          | succ kj8 =>
            have H := HA.out
            clear HA
            simp only [wide_Dot.j1] at H
            by_cases c13 : x34_8 = true
            · subst c13
              have H1 : (some (0, false)) = some (r1, r2) := by rw [if_pos rfl] at H; exact H
              clear H
              have H := H1
              clear H1
              simp only [Option.some.injEq, Prod.mk.injEq] at H
              obtain ⟨rfl, rfl⟩ := H
              go_wp2
              go_ret2
              exact ⟨by first | rfl | (simp [errW_none, errW_some] <;> rfl) | (simp [*, errW_none, errW_some] <;> rfl), by repeat (first | (with_reducible first | exact HB.out | apply below_alloc | apply pw_below_drewN | apply below_drew1) | exact HB.out)⟩
            · replace c13 := Bool.eq_false_iff.mpr c13
              subst c13
              have H1 : ((wide_times.f a0 a1).bind fun bt146 => ((wide_times.f a2 a3).bind fun bt148 => ((wide_big_add.f bt146.1 bt146.2 bt148.1 bt148.2).bind fun bt150 => ((wide_big_shifted.f bt150.1 bt150.2 a4).bind fun bt152 => ((wide_big_plain.f bt152.1 bt152.2).bind fun bt154 => (some (bt154.1, bt154.2))))))) = some (r1, r2) := by rw [if_neg (show ¬ (false = true) by decide)] at H; exact H
              clear H
              have H := H1
              clear H1
              replace H := Option.bind_eq_some_iff.mp H
              obtain ⟨⟨t146, t147⟩, A140, H⟩ := H
              replace H : ((wide_times.f a2 a3).bind fun bt148 => ((wide_big_add.f t146 t147 bt148.1 bt148.2).bind fun bt150 => ((wide_big_shifted.f bt150.1 bt150.2 a4).bind fun bt152 => ((wide_big_plain.f bt152.1 bt152.2).bind fun bt154 => (some (bt154.1, bt154.2)))))) = some (r1, r2) := H
              have A14 := Aside0.mk A140
              clear A140
              replace H := Option.bind_eq_some_iff.mp H
              obtain ⟨⟨t148, t149⟩, A150, H⟩ := H
              replace H : ((wide_big_add.f t146 t147 t148 t149).bind fun bt150 => ((wide_big_shifted.f bt150.1 bt150.2 a4).bind fun bt152 => ((wide_big_plain.f bt152.1 bt152.2).bind fun bt154 => (some (bt154.1, bt154.2))))) = some (r1, r2) := H
              have A15 := Aside0.mk A150
              clear A150
              replace H := Option.bind_eq_some_iff.mp H
              obtain ⟨⟨t150, t151⟩, A160, H⟩ := H
              replace H : ((wide_big_shifted.f t150 t151 a4).bind fun bt152 => ((wide_big_plain.f bt152.1 bt152.2).bind fun bt154 => (some (bt154.1, bt154.2)))) = some (r1, r2) := H
              have A16 := Aside0.mk A160
              clear A160
              replace H := Option.bind_eq_some_iff.mp H
              obtain ⟨⟨t152, t153⟩, A170, H⟩ := H
              replace H : ((wide_big_plain.f t152 t153).bind fun bt154 => (some (bt154.1, bt154.2))) = some (r1, r2) := H
              have A17 := Aside0.mk A170
              clear A170
              replace H := Option.bind_eq_some_iff.mp H
              obtain ⟨⟨t154, t155⟩, A180, H⟩ := H
              replace H : (some (t154, t155)) = some (r1, r2) := H
              have A18 := Aside0.mk A180
              clear A180
              simp only [Option.some.injEq, Prod.mk.injEq] at H
              obtain ⟨rfl, rfl⟩ := H
              go_wp2_with (first | ((with_reducible refine gate_callee (f := 37) rfl ?_); refine goesL_ (some 37) rfl rfl Tryd.func37 (by kernel_rfl) rfl #[.int .i64 a0, .int .i64 a1] rfl (by (try simp only [List.map_toArray, List.map_cons, List.map_nil]); first | done | rfl | (simp only [List.length_drop, List.length_take]; rfl)) ?_; (with_reducible refine (wide_times.calls a0 a1 t146 t147 _ A14.out).mono ?_); rintro e w19 ⟨rfl, hb⟩; refine ⟨_, rfl, ?_⟩; have n0_ := Aside0.mk (below_step (by repeat (first | (with_reducible first | exact HB.out | apply below_alloc | apply pw_below_drewN | apply below_drew1) | exact HB.out)) hb); clear HB; have HB := n0_; clear n0_; (try clear hb); (try clear hb2); (try clear hk); (try clear hi)) | ((with_reducible refine gate_callee (f := 37) rfl ?_); refine goesL_ (some 40) rfl rfl Tryd.func37 (by kernel_rfl) rfl #[.int .i64 a2, .int .i64 a3] rfl (by (try simp only [List.map_toArray, List.map_cons, List.map_nil]); first | done | rfl | (simp only [List.length_drop, List.length_take]; rfl)) ?_; (with_reducible refine (wide_times.calls a2 a3 t148 t149 _ A15.out).mono ?_); rintro e w20 ⟨rfl, hb⟩; refine ⟨_, rfl, ?_⟩; have n0_ := Aside0.mk (below_step (by repeat (first | (with_reducible first | exact HB.out | apply below_alloc | apply pw_below_drewN | apply below_drew1) | exact HB.out)) hb); clear HB; have HB := n0_; clear n0_; (try clear hb); (try clear hb2); (try clear hk); (try clear hi)) | ((with_reducible refine gate_callee (f := 38) rfl ?_); refine goesL_ (some 41) rfl rfl Tryd.func38 (by kernel_rfl) rfl #[.agg #[.int .u64 t146, .int .u64 t147], .agg #[.int .u64 t148, .int .u64 t149]] rfl (by (try simp only [List.map_toArray, List.map_cons, List.map_nil]); first | done | rfl | (simp only [List.length_drop, List.length_take]; rfl)) ?_; (with_reducible refine (wide_big_add.calls t146 t147 t148 t149 t150 t151 _ A16.out).mono ?_); rintro e w21 ⟨rfl, hb⟩; refine ⟨_, rfl, ?_⟩; have n0_ := Aside0.mk (below_step (by repeat (first | (with_reducible first | exact HB.out | apply below_alloc | apply pw_below_drewN | apply below_drew1) | exact HB.out)) hb); clear HB; have HB := n0_; clear n0_; (try clear hb); (try clear hb2); (try clear hk); (try clear hi)) | ((with_reducible refine gate_callee (f := 39) rfl ?_); refine goesL_ (some 43) rfl rfl Tryd.func39 (by kernel_rfl) rfl #[.agg #[.int .u64 t150, .int .u64 t151], .int .i64 a4] rfl (by (try simp only [List.map_toArray, List.map_cons, List.map_nil]); first | done | rfl | (simp only [List.length_drop, List.length_take]; rfl)) ?_; (with_reducible refine (wide_big_shifted.calls t150 t151 a4 t152 t153 _ A17.out).mono ?_); rintro e w22 ⟨rfl, hb⟩; refine ⟨_, rfl, ?_⟩; have n0_ := Aside0.mk (below_step (by repeat (first | (with_reducible first | exact HB.out | apply below_alloc | apply pw_below_drewN | apply below_drew1) | exact HB.out)) hb); clear HB; have HB := n0_; clear n0_; (try clear hb); (try clear hb2); (try clear hk); (try clear hi)) | ((with_reducible refine gate_callee (f := 40) rfl ?_); refine goesL_ (some 44) rfl rfl Tryd.func40 (by kernel_rfl) rfl #[.agg #[.int .u64 t152, .int .u64 t153]] rfl (by (try simp only [List.map_toArray, List.map_cons, List.map_nil]); first | done | rfl | (simp only [List.length_drop, List.length_take]; rfl)) ?_; (with_reducible refine (wide_big_plain.calls t152 t153 t154 t155 _ A18.out).mono ?_); rintro e w23 ⟨rfl, hb⟩; refine ⟨_, rfl, ?_⟩; have n0_ := Aside0.mk (below_step (by repeat (first | (with_reducible first | exact HB.out | apply below_alloc | apply pw_below_drewN | apply below_drew1) | exact HB.out)) hb); clear HB; have HB := n0_; clear n0_; (try clear hb); (try clear hb2); (try clear hk); (try clear hi)))
              go_ret2
              exact ⟨by first | rfl | (simp [errW_none, errW_some] <;> rfl) | (simp [*, errW_none, errW_some] <;> rfl), by repeat (first | (with_reducible first | exact HB.out | apply below_alloc | apply pw_below_drewN | apply below_drew1) | exact HB.out)⟩

/-! ### wide_Add: function 30 -/
def wide_Add.l0 : Nat → List Int → Int → Int → Int → Int → Option (Int × Bool)
  | 0, _, _, _, _, _ => none
  | k + 1, x8, x9, x10, x158000, x158001 => if x10 < x9 then (if 0 ≤ x10 then (if x10 < (x8.length : Int) then ((wide_of.f (rd x8 x10)).bind fun bt159 => ((wide_big_add.f x158000 x158001 bt159.1 bt159.2).bind fun bt161 => (wide_Add.l0 k x8 x9 (wrap64 (x10 + 1)) bt161.1 bt161.2))) else (none)) else (none)) else ((wide_big_plain.f x158000 x158001).bind fun bt163 => (some (bt163.1, bt163.2)))
def wide_Add.f (k : Nat) (l0 : List Int) : Option (Int × Bool) := wide_Add.l0 k l0 (l0.length : Int) 0 0 0
theorem wide_Add.mono_l : ∀ k, (∀ y0 y1 y2 y3 y4, LeO (wide_Add.l0 k y0 y1 y2 y3 y4) (wide_Add.l0 (k + 1) y0 y1 y2 y3 y4))
  | 0 => fun _ _ _ _ _ r h => by simp [wide_Add.l0] at h
  | k + 1 => by
    have ih0 := wide_Add.mono_l k
    · intro y0 y1 y2 y3 y4
      unfold wide_Add.l0
      repeat' first
      | (with_reducible exact ih0 _ _ _ _ _)
      | (with_reducible exact LeO.refl _)
      | (with_reducible exact LeO.none _)
      | (with_reducible refine LeO.ite ?_ ?_)
      | (with_reducible refine LeO.bind ?_ (fun _ => ?_))
      | exact ih0 _ _ _ _ _
      | exact LeO.none _
      | refine LeO.ite ?_ ?_
      | refine LeO.bind ?_ (fun _ => ?_)
theorem wide_Add.mono : ∀ a0 k, LeO (wide_Add.f k a0) (wide_Add.f (k + 1) a0) := by
  intro a0 k
  have ih0 := wide_Add.mono_l k
  unfold wide_Add.f
  repeat' first
      | (with_reducible exact ih0 _ _ _ _ _)
      | (with_reducible exact LeO.refl _)
      | (with_reducible exact LeO.none _)
      | (with_reducible refine LeO.ite ?_ ?_)
      | (with_reducible refine LeO.bind ?_ (fun _ => ?_))
      | exact ih0 _ _ _ _ _
      | exact LeO.none _
      | refine LeO.ite ?_ ?_
      | refine LeO.bind ?_ (fun _ => ?_)
set_option maxHeartbeats 8000000 in
set_option maxRecDepth 100000 in
theorem wide_Add.calls (k : Nat) (A0 : Option Addr) (c0 : Nat) (l0 : List Int) (r1 : Int) (r2 : Bool) (w : World) (hr0 : Kd.C (Kd.int .i64) w A0 l0.length l0) (hc0 : l0.length ≤ c0) (hG : Gl w) (h : wide_Add.f k l0 = some (r1, r2)) :
    Calls Tryd.prog 30 #[.slice A0 l0.length c0] w fun e w' => e = .returned (.tuple #[.int .i64 r1, .bool r2]) ∧ Below w.heap.size w w' := by
  have hu69 := Tryd.underlying69
  have HR0 := Aside0.mk hr0
  have HC0 := Aside0.mk hc0
  clear hr0 hc0
  have HG := Aside0.mk hG
  clear hG
  have HB := Aside0.mk (Below.refl w.heap.size w)
  have H : (wide_Add.l0 k l0 (l0.length : Int) 0 0 0) = some (r1, r2) := h
  clear h
  have hgl156_1 := HG.out.c0_1
  have hgl156_0 := HG.out.c0_0
  have H' := Aside0.mk H
  clear H
  go_enter Tryd.func30, Tryd.ntmps30
  go_wp2_with (first | ((with_reducible refine gate_dst (N := 4) rfl ?_); refine box_event ?hg (N := 4) ?hd (cs := #[.int .u64 0, .int .u64 0]) (t := 69) ?hr ?_; (case hd => rfl); (case hg => rfl); (case hr => first | (go_simp; done) | (go_simp; rfl)); intro gb157 hg w2 hbox hb; have n0_ := Aside0.mk (below_step (by repeat (first | (with_reducible first | exact HB.out | apply below_alloc | apply pw_below_drewN | apply below_drew1) | exact HB.out)) hb); have n1_ := Aside0.mk (hbox); have n2_ := Aside0.mk ((by rw [hg]; exact (below_size (by repeat (first | (with_reducible first | exact HB.out | apply below_alloc | apply pw_below_drewN | apply below_drew1) | exact HB.out))) : w.heap.size ≤ gb157)); have n3_ := Aside0.mk ((by rw [hg]; exact (below_size (by repeat (first | (with_reducible first | exact HB.out | apply below_alloc | apply pw_below_drewN | apply below_drew1) | exact HB.out))) : w.heap.size ≤ gb157)); clear HB; have HB := n0_; have BK157 := n1_; have GW157 := n2_; have GE157 := n3_; clear n0_ n1_ n2_ n3_; clear hb hbox hg; have hcz3_0 : w2.cell? ⟨gb157, 0, none⟩ = some (.int .u64 0) := (blk_cell BK157.out 0).trans rfl; have hcz3_1 : w2.cell? ⟨gb157, 1, none⟩ = some (.int .u64 0) := (blk_cell BK157.out 1).trans rfl; have hfz3_0 := blk_frozen BK157.out 0; have hfz3_1 := blk_frozen BK157.out 1))
  go_loopg [10] k (fun kq v10 w' => ∃ (x10_1 : Int) (x158000_1 : Int) (x158001_1 : Int), v10 = .int .i64 x10_1 ∧ Aside0 (wide_Add.l0 kq l0 (l0.length : Int) x10_1 x158000_1 x158001_1 = some (r1, r2)) ∧ Aside0 (kq ≤ k) ∧ Aside0 (w'.heap[gb157]? = some (.cells #[.int .u64 x158000_1, .int .u64 x158001_1] 69 (0, 0))) ∧ Aside0 (Below w.heap.size w w'))
  case atStart => exact ⟨(0), (0), (0), (by first | rfl | (simp; done) | (simp [*]; done)), H', ⟨Nat.le_refl _⟩, ⟨by (with_reducible repeat (first | refine blk_drewN ?_ _ | refine blk_drew ?_ | refine blk_alloc ?_ _)); refine blk_put (cs := #[.int .u64 0, .int .u64 0]) ?_ 1 _ rfl; (with_reducible repeat (first | refine blk_drewN ?_ _ | refine blk_drew ?_ | refine blk_alloc ?_ _)); refine blk_put (cs := #[.int .u64 0, .int .u64 0]) ?_ 0 _ rfl; (with_reducible repeat (first | refine blk_drewN ?_ _ | refine blk_drew ?_ | refine blk_alloc ?_ _)); exact BK157.out⟩, ⟨by repeat (first | (with_reducible first | exact HB.out | apply below_alloc | apply pw_below_drewN | apply below_drew1 | refine below_set ?_ GE157.out) | exact HB.out)⟩⟩
  case round =>
    clear H'
    try clear p2
    try clear c3
    try clear hcz3_0
    try clear hcz3_1
    try clear hfz3_0
    try clear hfz3_1
    obtain ⟨x10_1, x158000_1, x158001_1, rfl, HA, HK1, BK157, HB⟩ := hrel
    cases gk with
    | zero => exact absurd HA.out (by simp [wide_Add.l0])
    | succ k1 =>
      have H := HA.out
      clear HA
      simp only [wide_Add.l0] at H
      by_cases c4 : x10_1 < (l0.length : Int)
      · rw [if_pos c4] at H
        have c4b0 : decide (x10_1 < (l0.length : Int)) = true := decide_eq_true c4
        clear c4
        by_cases c5 : 0 ≤ x10_1
        · rw [if_pos c5] at H
          have c5b0 : decide (0 ≤ x10_1) = true := decide_eq_true c5
          clear c5
          by_cases c6 : x10_1 < (l0.length : Int)
          · rw [if_pos c6] at H
            have c6b0 : decide (x10_1 < (l0.length : Int)) = true := decide_eq_true c6
            clear c6
            replace H := Option.bind_eq_some_iff.mp H
            obtain ⟨⟨t159, t160⟩, A70, H⟩ := H
            replace H : ((wide_big_add.f x158000_1 x158001_1 t159 t160).bind fun bt161 => (wide_Add.l0 k1 l0 (l0.length : Int) (wrap64 (x10_1 + 1)) bt161.1 bt161.2)) = some (r1, r2) := H
            have A7 := Aside0.mk A70
            clear A70
            replace H := Option.bind_eq_some_iff.mp H
            obtain ⟨⟨t161, t162⟩, A80, H⟩ := H
            replace H : (wide_Add.l0 k1 l0 (l0.length : Int) (wrap64 (x10_1 + 1)) t161 t162) = some (r1, r2) := H
            have A8 := Aside0.mk A80
            clear A80
            have H' := Aside0.mk H
            clear H
            have p158 : 0 ≤ (x10_1 : Int) := of_decide_eq_true (by first | (with_reducible assumption) | assumption)
            have q158 : x10_1 < (l0.length : Int) := of_decide_eq_true (by first | (with_reducible assumption) | assumption)
            obtain ⟨ad158, e158, hx158_0⟩ := Kd.at_int HR0.out x10_1 p158 q158
            cases e158
            replace hx158_0 := (HB.out.cell (World.block_lt_of_cell? w _ hx158_0)).trans hx158_0
            replace p158 := eq_true p158
            replace q158 := eq_true q158
            try go_wp2
            have n0_ := Aside0.mk (blk_drew BK157.out)
            have n1_ := Aside0.mk (below_drew1 HB.out)
            clear BK157
            clear HB
            have BK157 := n0_
            have HB := n1_
            clear n0_ n1_
            refine start_ (n := 5) (S := fun w' => w'.cell? ⟨gb157, 0, none⟩ = some (.int .u64 x158000_1) ∧ w'.cell? ⟨gb157, 1, none⟩ = some (.int .u64 x158001_1)) (ds := [4]) #[false, false, false, false, false] (by kernel_rfl) rfl rfl ⟨(blk_cell BK157.out 0).trans rfl, (blk_cell BK157.out 1).trans rfl⟩ (fun hHeld => ?_)
            generalize wr.drew = w9 at BK157 HB hHeld ⊢
            refine pure_ (i := 1) (N := some 15) (v := ?_) (a' := ?_) #[false, true, false, false, false] rfl rfl (by kernel_rfl) (fun _ _ _ h => h) (Or.inl ⟨by rfl, ?_⟩) ?_ ?_
            rotate_left
            · intro w'
              go_simp
              with_reducible rfl
            rotate_left
            · simp only [Act.put, List.setIfInBounds_toArray, List.set_cons_zero, List.set_cons_succ, i64_w, i32_w]
              rfl
            refine take_ (i := 0) (N := some 14) (v := ?_) (a' := ?_) #[true, true, false, false, false] rfl rfl (by kernel_rfl) (fun _ _ _ h => h) (Or.inl ⟨by rfl, ?_⟩) hHeld ?_ ?_
            rotate_left
            · rintro w' ⟨s0, s1⟩
              go_simp
              with_reducible rfl
            rotate_left
            · simp only [Act.put, List.setIfInBounds_toArray, List.set_cons_zero, List.set_cons_succ, i64_w, i32_w]
              rfl
            refine one_ (i := 2) (N := some 16) #[true, true, true, false, false] rfl rfl (by kernel_rfl) (by decide) (fun K hK => ?_)
            refine goes_ Tryd.func41 (by kernel_rfl) rfl #[.int .i64 (rd l0 x10_1)] (by rfl) rfl rfl (by (try simp only [List.map_toArray, List.map_cons, List.map_nil]); first | done | rfl | (simp only [List.length_drop, List.length_take]; rfl)) ?_
            with_reducible refine (wide_of.calls (rd l0 x10_1) t159 t160 _ A7.out).mono ?_
            rintro e w10 ⟨rfl, hb⟩
            refine ⟨_, rfl, ?_⟩
            have n0_ := Aside0.mk (blk_below (g := gb157) (o := .cells #[.int .u64 x158000_1, .int .u64 x158001_1] 69 (0, 0)) (by (with_reducible repeat (first | refine blk_drewN ?_ _ | refine blk_drew ?_ | refine blk_alloc ?_ _)); exact BK157.out) hb)
            have n1_ := Aside0.mk (below_step (by repeat (first | (with_reducible first | exact HB.out | apply below_alloc | apply pw_below_drewN | apply below_drew1 | refine below_set ?_ GE157.out) | exact HB.out)) hb)
            clear BK157
            clear HB
            have BK157 := n0_
            have HB := n1_
            clear n0_ n1_
            (try clear hb)
            (try clear hb2)
            (try clear hk)
            (try clear hi)
            refine hK.out _ _ ⟨(blk_cell BK157.out 0).trans rfl, (blk_cell BK157.out 1).trans rfl⟩ (fun hHeld => ?_)
            clear hK K
            refine norm_ (a' := ?_) ?_ ?_
            rotate_left
            · show Act.put _ (some 16) _ = _
              simp only [Act.put, List.setIfInBounds_toArray, List.set_cons_zero, List.set_cons_succ, i64_w, i32_w]
              rfl
            refine one_ (i := 3) (N := some 17) #[true, true, true, true, false] rfl rfl (by kernel_rfl) (by decide) (fun K hK => ?_)
            refine goes_ Tryd.func38 (by kernel_rfl) rfl #[.agg #[.int .u64 x158000_1, .int .u64 x158001_1], .agg #[.int .u64 t159, .int .u64 t160]] (by rfl) rfl rfl (by (try simp only [List.map_toArray, List.map_cons, List.map_nil]); first | done | rfl | (simp only [List.length_drop, List.length_take]; rfl)) ?_
            with_reducible refine (wide_big_add.calls x158000_1 x158001_1 t159 t160 t161 t162 _ A8.out).mono ?_
            rintro e w11 ⟨rfl, hb⟩
            refine ⟨_, rfl, ?_⟩
            have n0_ := Aside0.mk (blk_below (g := gb157) (o := .cells #[.int .u64 x158000_1, .int .u64 x158001_1] 69 (0, 0)) (by (with_reducible repeat (first | refine blk_drewN ?_ _ | refine blk_drew ?_ | refine blk_alloc ?_ _)); exact BK157.out) hb)
            have n1_ := Aside0.mk (below_step (by repeat (first | (with_reducible first | exact HB.out | apply below_alloc | apply pw_below_drewN | apply below_drew1 | refine below_set ?_ GE157.out) | exact HB.out)) hb)
            clear BK157
            clear HB
            have BK157 := n0_
            have HB := n1_
            clear n0_ n1_
            (try clear hb)
            (try clear hb2)
            (try clear hk)
            (try clear hi)
            refine hK.out _ _ ⟨(blk_cell BK157.out 0).trans rfl, (blk_cell BK157.out 1).trans rfl⟩ (fun hHeld => ?_)
            clear hK K
            refine norm_ (a' := ?_) ?_ ?_
            rotate_left
            · show Act.put _ (some 17) _ = _
              simp only [Act.put, List.setIfInBounds_toArray, List.set_cons_zero, List.set_cons_succ, i64_w, i32_w]
              rfl
            refine last_ (i := 4) (N := none) #[true, true, true, true, true] rfl rfl (by kernel_rfl) (by decide) (fun K hK => ?_)
            have hs12 : w11.cell? ⟨gb157, 0, none⟩ = some (.int .u64 x158000_1) := (blk_cell BK157.out 0).trans rfl
            have hfs12 := blk_frozen BK157.out 0
            have hs13 : w11.cell? ⟨gb157, 1, none⟩ = some (.int .u64 x158001_1) := (blk_cell BK157.out 1).trans rfl
            have hfs13 := blk_frozen BK157.out 1
            refine skip_ (w1 := ?_) (by rfl) rfl ?_ ?_
            rotate_left
            · go_simp
              rfl
            refine hK.out _ _ ?_
            clear hK K
            refine done_ (by kernel_rfl) ?_
            try go_wp2
            go_roundg k1
            case measure => have := HK1.out; omega
            case rel => exact ⟨(wrap64 (x10_1 + 1)), (t161), (t162), (by first | rfl | (simp; done) | (simp [*]; done)), H', ⟨by have := HK1.out; omega⟩, ⟨by (with_reducible repeat (first | refine blk_drewN ?_ _ | refine blk_drew ?_ | refine blk_alloc ?_ _)); refine blk_put (cs := #[.int .u64 t161, .int .u64 x158001_1]) ?_ 1 _ rfl; (with_reducible repeat (first | refine blk_drewN ?_ _ | refine blk_drew ?_ | refine blk_alloc ?_ _)); refine blk_put (cs := #[.int .u64 x158000_1, .int .u64 x158001_1]) ?_ 0 _ rfl; (with_reducible repeat (first | refine blk_drewN ?_ _ | refine blk_drew ?_ | refine blk_alloc ?_ _)); exact BK157.out⟩, ⟨by repeat (first | (with_reducible first | exact HB.out | apply below_alloc | apply pw_below_drewN | apply below_drew1 | refine below_set ?_ GE157.out) | exact HB.out)⟩⟩
          · rw [if_neg c6] at H
            exact absurd H (by simp)
        · rw [if_neg c5] at H
          exact absurd H (by simp)
      · rw [if_neg c4] at H
        have c4b0 : decide (x10_1 < (l0.length : Int)) = false := decide_eq_false c4
        clear c4
        replace H := Option.bind_eq_some_iff.mp H
        obtain ⟨⟨t163, t164⟩, A140, H⟩ := H
        replace H : (some (t163, t164)) = some (r1, r2) := H
        have A14 := Aside0.mk A140
        clear A140
        simp only [Option.some.injEq, Prod.mk.injEq] at H
        obtain ⟨rfl, rfl⟩ := H
        have hcz15_0 : wr.cell? ⟨gb157, 0, none⟩ = some (.int .u64 x158000_1) := (blk_cell BK157.out 0).trans rfl
        have hcz15_1 : wr.cell? ⟨gb157, 1, none⟩ = some (.int .u64 x158001_1) := (blk_cell BK157.out 1).trans rfl
        have hfz15_0 := blk_frozen BK157.out 0
        have hfz15_1 := blk_frozen BK157.out 1
        go_wp2_with (first | ((with_reducible refine gate_callee (f := 40) rfl ?_); refine goesL_ (some 20) rfl rfl Tryd.func40 (by kernel_rfl) rfl #[.agg #[.int .u64 x158000_1, .int .u64 x158001_1]] rfl (by (try simp only [List.map_toArray, List.map_cons, List.map_nil]); first | done | rfl | (simp only [List.length_drop, List.length_take]; rfl)) ?_; (with_reducible refine (wide_big_plain.calls x158000_1 x158001_1 t163 t164 _ A14.out).mono ?_); rintro e w16 ⟨rfl, hb⟩; refine ⟨_, rfl, ?_⟩; have n0_ := Aside0.mk (blk_below (g := gb157) (o := .cells #[.int .u64 x158000_1, .int .u64 x158001_1] 69 (0, 0)) (by (with_reducible repeat (first | refine blk_drewN ?_ _ | refine blk_drew ?_ | refine blk_alloc ?_ _)); exact BK157.out) hb); have n1_ := Aside0.mk (below_step (by repeat (first | (with_reducible first | exact HB.out | apply below_alloc | apply pw_below_drewN | apply below_drew1 | refine below_set ?_ GE157.out) | exact HB.out)) hb); clear BK157; clear HB; have BK157 := n0_; have HB := n1_; clear n0_ n1_; (try clear hb); (try clear hb2); (try clear hk); (try clear hi)))
        go_ret2
        exact ⟨by first | rfl | (simp [errW_none, errW_some] <;> rfl) | (simp [*, errW_none, errW_some] <;> rfl), by repeat (first | (with_reducible first | exact HB.out | apply below_alloc | apply pw_below_drewN | apply below_drew1 | refine below_set ?_ GE157.out) | exact HB.out)⟩

/-! ### affine.number: a number, or a panic with ErrRange -/
def affine_number.r (k : Nat) (a x b y c : Int) : Option (Except Int Int) :=
  (wide_Dot.f k a x b y 16).bind fun d => if d.2 = true then (wide_Add.f k [d.1, c]).bind fun s => if s.2 = true then (wide_Within.f k 4294967296 [s.1]).bind fun t => (if t = true then some (.ok s.1) else some (.error 2)) else some (.error 2) else some (.error 2)
theorem affine_number.mono_r (a x b y c : Int) (k : Nat) : LeO (affine_number.r k a x b y c) (affine_number.r (k + 1) a x b y c) := by
  unfold affine_number.r
  refine LeO.bind (wide_Dot.mono _ _ _ _ _ _) (fun _ => LeO.ite (LeO.bind (wide_Add.mono _ _) (fun _ => LeO.ite (LeO.bind (wide_Within.mono _ _ _) (fun _ => LeO.refl _)) (LeO.refl _))) (LeO.refl _))
def affine_number.f (k : Nat) (a x b y c : Int) : Option Int := (affine_number.r k a x b y c).bind fun r => match r with | .ok n => some n | .error _ => none
theorem affine_number.mono (a x b y c : Int) (k : Nat) : LeO (affine_number.f k a x b y c) (affine_number.f (k + 1) a x b y c) :=
  LeO.bind (affine_number.mono_r _ _ _ _ _ _) (fun _ => LeO.refl _)
def endInt : Except Int Int → Ending
  | .ok n => .returned (.int .i64 n)
  | .error c => .panicked (errP c)
/-- A new block of two numbers, or of one, read as a row. -/
theorem row2 (w : World) (t : Nat) (a b : Int) : Kd.C (Kd.int .i64) (w.alloc (.cells #[.int .i64 a, .int .i64 b] t)) (some ⟨w.heap.size, 0, none⟩) 2 [a, b] := by
  refine ⟨rfl, by decide, fun _ => ⟨_, rfl, fun j p hj => ?_⟩⟩
  refine ⟨[.int .i64 p], rfl, rfl, fun i u hu => ?_⟩
  match j, hj, i, hu with
  | 0, hj, 0, hu => simp at hj hu; subst hj hu; simp [Addr.add, Kd.int, Kd.scalar]
  | 1, hj, 0, hu => simp at hj hu; subst hj hu; simp [Addr.add, Kd.int, Kd.scalar]
theorem row1 (w : World) (t : Nat) (a : Int) : Kd.C (Kd.int .i64) (w.alloc (.cells #[.int .i64 a] t)) (some ⟨w.heap.size, 0, none⟩) 1 [a] := by
  refine ⟨rfl, by decide, fun _ => ⟨_, rfl, fun j p hj => ?_⟩⟩
  refine ⟨[.int .i64 p], rfl, rfl, fun i u hu => ?_⟩
  match j, hj, i, hu with
  | 0, hj, 0, hu => simp at hj hu; subst hj hu; simp [Addr.add, Kd.int, Kd.scalar]
theorem number_dot_no (k : Nat) (a x b y c n : Int) (w : World) (hd : wide_Dot.f k a x b y 16 = some (n, false)) :
    Calls Tryd.prog 27 #[.int .i64 a, .int .i64 x, .int .i64 b, .int .i64 y, .int .i64 c] w fun e w' => e = .panicked (errP 2) ∧ Below w.heap.size w w' := by
  go_enter Tryd.func27, Tryd.ntmps27
  go_wp2_with (first | (go_at_call 29; refine (wide_Dot.calls k _ _ _ _ _ _ _ _ hd).mono ?_; rintro e w1 ⟨rfl, hb⟩) | (go_at_call 25; refine (must_no _ _).mono ?_; rintro e w1 ⟨rfl, rfl⟩))
  exact ⟨rfl, rfl, hb⟩
theorem number_add_no (k : Nat) (a x b y c n m : Int) (w : World) (hG : Gl w) (hd : wide_Dot.f k a x b y 16 = some (n, true)) (ha : wide_Add.f k [n, c] = some (m, false)) :
    Calls Tryd.prog 27 #[.int .i64 a, .int .i64 x, .int .i64 b, .int .i64 y, .int .i64 c] w fun e w' => e = .panicked (errP 2) ∧ Below w.heap.size w w' := by
  have HG := Aside0.mk hG
  clear hG
  go_enter Tryd.func27, Tryd.ntmps27
  go_wp2_with (first | (go_at_call 29; refine (wide_Dot.calls k _ _ _ _ _ _ _ _ hd).mono ?_; rintro e w1 ⟨rfl, hb⟩) | (go_at_call 25; refine (must_ok _ _).mono ?_; rintro e w1 ⟨rfl, rfl⟩))
  refine (wide_Add.calls k _ 2 _ _ _ _ (row2 _ _ _ _) (Nat.le_refl 2) ((HG.out.below hb).below ((Below.refl _ _).alloc (Nat.le_refl _) _)) ha).mono ?_
  rintro e w2 ⟨rfl, hb2⟩
  go_wp2_with (go_at_call 25; refine (must_no _ _).mono ?_; rintro e w1 ⟨rfl, rfl⟩)
  exact ⟨rfl, rfl, (hb.alloc hb.size _).trans (hb2.mono (by have := hb.size; simp; omega))⟩
theorem number_within (k : Nat) (a x b y c n m : Int) (t : Bool) (w : World) (hG : Gl w) (hd : wide_Dot.f k a x b y 16 = some (n, true)) (ha : wide_Add.f k [n, c] = some (m, true)) (hw : wide_Within.f k 4294967296 [m] = some t) :
    Calls Tryd.prog 27 #[.int .i64 a, .int .i64 x, .int .i64 b, .int .i64 y, .int .i64 c] w fun e w' => e = endInt (if t = true then .ok m else .error 2) ∧ Below w.heap.size w w' := by
  have HG := Aside0.mk hG
  clear hG
  go_enter Tryd.func27, Tryd.ntmps27
  go_wp2_with (first | (go_at_call 29; refine (wide_Dot.calls k _ _ _ _ _ _ _ _ hd).mono ?_; rintro e w1 ⟨rfl, hb⟩) | (go_at_call 25; refine (must_ok _ _).mono ?_; rintro e w1 ⟨rfl, rfl⟩))
  refine (wide_Add.calls k _ 2 _ _ _ _ (row2 _ _ _ _) (Nat.le_refl 2) ((HG.out.below hb).below ((Below.refl _ _).alloc (Nat.le_refl _) _)) ha).mono ?_
  rintro e w2 ⟨rfl, hb2⟩
  go_wp2_with (go_at_call 25; refine (must_ok _ _).mono ?_; rintro e w1 ⟨rfl, rfl⟩)
  refine (wide_Within.calls k _ _ 1 _ _ _ (row1 _ _ _) (Nat.le_refl 1) hw).mono ?_
  rintro e w3 ⟨rfl, ⟨n3, rfl⟩⟩
  have hb3 : Below w.heap.size w w2 := (hb.alloc hb.size _).trans (hb2.mono (by have := hb.size; simp; omega))
  cases t
  · go_wp2_with (go_at_call 25; refine (must_no _ _).mono ?_; rintro e w1 ⟨rfl, rfl⟩)
    exact ⟨rfl, rfl, by first | exact (hb3.alloc hb3.size _) | exact pw_below_drewN (hb3.alloc hb3.size _) _⟩
  · go_wp2_with (go_at_call 25; refine (must_ok _ _).mono ?_; rintro e w1 ⟨rfl, rfl⟩)
    go_ret
    exact ⟨rfl, by first | exact (hb3.alloc hb3.size _) | exact pw_below_drewN (hb3.alloc hb3.size _) _⟩
theorem affine_number.calls_r (k : Nat) (a x b y c : Int) (r : Except Int Int) (w : World) (hG : Gl w) (h : affine_number.r k a x b y c = some r) :
    Calls Tryd.prog 27 #[.int .i64 a, .int .i64 x, .int .i64 b, .int .i64 y, .int .i64 c] w fun e w' => e = endInt r ∧ Below w.heap.size w w' := by
  unfold affine_number.r at h
  obtain ⟨⟨n, o⟩, hd, h⟩ := Option.bind_eq_some_iff.mp h
  cases o with
  | false => obtain rfl := Option.some.inj h; exact number_dot_no k a x b y c n w hd
  | true =>
    obtain ⟨⟨m, p⟩, ha, h⟩ := Option.bind_eq_some_iff.mp h
    cases p with
    | false => obtain rfl := Option.some.inj h; exact number_add_no k a x b y c n m w hG hd ha
    | true =>
      obtain ⟨t, hw, h⟩ := Option.bind_eq_some_iff.mp h
      have := number_within k a x b y c n m t w hG hd ha hw
      cases t
      · obtain rfl := Option.some.inj h; exact this
      · obtain rfl := Option.some.inj h; exact this
theorem affine_number.calls (k : Nat) (a x b y c r : Int) (w : World) (hG : Gl w) (h : affine_number.f k a x b y c = some r) :
    Calls Tryd.prog 27 #[.int .i64 a, .int .i64 x, .int .i64 b, .int .i64 y, .int .i64 c] w fun e w' => e = .returned (.int .i64 r) ∧ Below w.heap.size w w' := by
  obtain ⟨q, hq, h⟩ := Option.bind_eq_some_iff.mp h
  cases q with
  | error c => cases h
  | ok n => obtain rfl := Option.some.inj h; exact affine_number.calls_r k a x b y c _ w hG hq

end Go.Proofs.YtbnjgaeeojcjbaaDoor.PR
