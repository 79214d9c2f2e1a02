/- The row and the card of the law AffineTurns: for every input it answers true, and each argument reads behind the call as before. The listed package-level variables read as the program's text lays them (tied by the given tie). -/
import Derived.ArgAppend
import Derived.Below
import Derived.BigQuiet
import Derived.ChangeOld
import Derived.Deep.AppendLies
import Derived.Deep.CutBlock
import Derived.Deep.DeepCutAuto
import Derived.Deep.Draws
import Derived.Deep.LoopGhost
import Derived.Deep.OwnRows
import Derived.Deep.QuietTactic
import Derived.Deep.RegionHeld3
import Derived.KernelRfl
import Derived.LaidMore
import Derived.Laws.Bits64
import Derived.Laws.BitsAllLaws
import Derived.Laws.BitsLemmas
import Derived.Laws.BytesArg
import Derived.Laws.Externs
import Derived.Laws.IdiomCopy
import Derived.Laws.MakeOwn
import Derived.Laws.OwnMore
import Derived.Laws.Rows
import Derived.Laws.Slices
import Derived.Laws.StructEq
import Derived.Laws.World
import Derived.Lib.AppendStr
import Derived.Lib.ConvBytes
import Derived.Lib.Mul64
import Derived.Maps.AppendAt
import Derived.OpenShut
import Derived.OrdersHeld
import Derived.OwnWalk
import Derived.ProofKit
import Derived.RowKit
import Derived.RowKit3
import Derived.SevenTiedAt
import Derived.ShutString
import Derived.SizedLaws
import Derived.Stop.Joined
import Derived.Tactics
import Derived.WalkKit
import Derived.WalkLawsBesides
import Derived.WideLaws
import Derived.Test.YtbnjgaeeojcjbaaDoorCards
import Derived.Test.YtbnjgaeeojcjbaaDoorProg
import Derived.Test.YtbnjgaeeojcjbaaDoorRows
import Derived.Test.YtbnjgaeeojcjbaaDoorTie
import Derived.Test.YtbnjgaeeojcjbaaDoorZc1
-- What this claim needs of the words, the printed walks and this session's texts (merged and cut by wip/prune.py).
namespace Go.Proofs.YtbnjgaeeojcjbaaDoor.PR
open Go.RowKit Go.Proofs.YtbnjgaeeojcjbaaDoorW.PrintWords Go.Proofs.YtbnjgaeeojcjbaaDoorW.PrintLast Go.Proofs.YtbnjgaeeojcjbaaDoorW.PrintMore
theorem refin_eq (a : Int) : pointillistref08_In.f a = some (decide (inZ a)) := by
  unfold pointillistref08_In.f
  by_cases h : a > -4294967296
  · rw [if_pos h]
    congr 1
    rw [Bool.eq_iff_iff, decide_eq_true_eq, decide_eq_true_eq]
    exact ⟨fun h2 => ⟨h, h2⟩, fun h2 => h2.2⟩
  · rw [if_neg h, decide_eq_false (fun h2 => h h2.1)]
end Go.Proofs.YtbnjgaeeojcjbaaDoor.PR
namespace Go.Proofs.YtbnjgaeeojcjbaaDoor.PR
open Go.RowKit Go.Proofs.YtbnjgaeeojcjbaaDoorW.PrintWords Go.Proofs.YtbnjgaeeojcjbaaDoorW.PrintLast Go.Proofs.YtbnjgaeeojcjbaaDoorW.PrintMore
attribute [local go_sem] max2_int min2_int max_two min_two max_three min_three max_four min_four
set_option linter.unusedVariables false
set_option linter.unusedSimpArgs false
attribute [local go_sem high] eqA25
end Go.Proofs.YtbnjgaeeojcjbaaDoor.PR
namespace Go.Proofs.YtbnjgaeeojcjbaaDoor.PR
open Go.RowKit
theorem lin_one (x y c : Int) : lin 65536 x 0 y c = x + c := by unfold lin; rw [near16]; omega
theorem wakes_true (k : Nat) : pointillistlaw08_wakes.f (k + 7) = some true := by
  unfold pointillistlaw08_wakes.f
  rw [apply_eq]
  have : apply 131072 0 0 196608 65536 0 65536 65536 = (196608, 196608, 0) := by decide
  rw [this]
  rfl
end Go.Proofs.YtbnjgaeeojcjbaaDoor.PR
namespace Go.Proofs.YtbnjgaeeojcjbaaDoor.PR
open Go.RowKit Go.Proofs.YtbnjgaeeojcjbaaDoorW.PrintWords Go.Proofs.YtbnjgaeeojcjbaaDoorW.PrintLast Go.Proofs.YtbnjgaeeojcjbaaDoorW.PrintMore
attribute [local go_sem] max2_int min2_int max_two min_two max_three min_three max_four min_four
set_option linter.unusedVariables false
set_option linter.unusedSimpArgs false
attribute [local go_sem high] eqA25
end Go.Proofs.YtbnjgaeeojcjbaaDoor.PR
namespace Go.Proofs.YtbnjgaeeojcjbaaDoor.PR
open Go.RowKit Go.Proofs.YtbnjgaeeojcjbaaDoorW.PrintWords
theorem ev7 {α : Type} {g : Nat → Option α} {r : α} (h : ∀ k, g (k + 7) = some r) : Ev g r := ⟨7, fun k hk => by obtain ⟨j, rfl⟩ := Nat.exists_eq_add_of_le hk; rw [Nat.add_comm]; exact h j⟩
end Go.Proofs.YtbnjgaeeojcjbaaDoor.PR
namespace Go.Proofs.YtbnjgaeeojcjbaaDoor.PR
open Go.RowKit Go.Proofs.YtbnjgaeeojcjbaaDoorW.PrintWords Go.Proofs.YtbnjgaeeojcjbaaDoorW.PrintLast Go.Proofs.YtbnjgaeeojcjbaaDoorW.PrintMore
attribute [local go_sem] max2_int min2_int max_two min_two max_three min_three max_four min_four
set_option linter.unusedVariables false
set_option linter.unusedSimpArgs false
theorem number_err {k : Nat} {a x b y c d : Int} (h : affine_number.r k a x b y c = some (.error d)) : d ≠ 0 := by
 unfold affine_number.r at h
 obtain ⟨p, _, h⟩ := Option.bind_eq_some_iff.mp h
 split at h
 ·
  obtain ⟨q, _, h⟩ := Option.bind_eq_some_iff.mp h
  split at h
  ·
   obtain ⟨r, _, h⟩ := Option.bind_eq_some_iff.mp h
   split at h
   ·
    cases h
   ·
    cases h; decide
  ·
   cases h; decide
 ·
  cases h; decide
theorem then1_idle (p o : Addr) (w : World) (hc : w.cell? p = some (.int .i64 0)) :
  CallsD Tryd.prog 26 #[.pointer (some p), .pointer (some o)] .returning w fun e u' w' => e = .returned (.tuple #[]) ∧ u' = .returning ∧ w = w' := by
 refine callsD_of_wpS Tryd.func26 rfl fun c₀ cs hu => ?_
 apply wpS_seq
 apply wpS_region
 simp [wpOpsS, go_sem, recoverD, hu, Tryd.ntmps26]
 refine (caught_nil p w).mono ?_
 rintro e w' ⟨rfl, rfl⟩
 simp [Exit.thenS, go_sem]
 apply wpS_of_wp
 go_wp2
 cases c₀
 simp_all [bodyPostS, results, Tryd.results26, go_sem]
 done
theorem then1_panicking (b g : Nat) (x c : Int) (hc0 : c ≠ 0) (o0 o1 o2 o3 o4 o5 : Int) (w : World) (hne : g ≠ b) (hb : w.heap[b]? = some (.cells #[.int .i64 x] 27 (0, 0))) (ho : w.heap[g]? = some (.cells #[.int .i64 o0, .int .i64 o1, .int .i64 o2, .int .i64 o3, .int .i64 o4, .int .i64 o5] 23 (0, 0))) :
  CallsD Tryd.prog 26 #[.pointer (some ⟨b, 0, none⟩), .pointer (some ⟨g, 0, none⟩)] (.panicking (errP c)) w fun e u' w' => e = .returned (.tuple #[]) ∧ u' = .panicking [{ v := .iface 27 (.int .i64 c), recovered := true }] ∧
   w'.heap[b]? = some (.cells #[.int .i64 c] 27 (0, 0)) ∧ w'.heap[g]? = some (.cells #[.int .i64 0, .int .i64 0, .int .i64 0, .int .i64 0, .int .i64 0, .int .i64 0] 23 (0, 0)) ∧ ∀ B w0, B ≤ b → B ≤ g → Below B w0 w → Below B w0 w' := by
 have hu23 := Tryd.underlying23
 have c0 := (blk_cell hb 0).trans rfl
 have z0 := blk_frozen hb 0
 have k0 := (blk_cell ho 0).trans rfl
 have k1 := (blk_cell ho 1).trans rfl
 have k2 := (blk_cell ho 2).trans rfl
 have k3 := (blk_cell ho 3).trans rfl
 have k4 := (blk_cell ho 4).trans rfl
 have k5 := (blk_cell ho 5).trans rfl
 have z1 := blk_frozen ho 0
 have z2 := blk_frozen ho 1
 have z3 := blk_frozen ho 2
 have z4 := blk_frozen ho 3
 have z5 := blk_frozen ho 4
 have z6 := blk_frozen ho 5
 refine callsD_of_wpS Tryd.func26 rfl fun c₀ cs hu => ?_
 unfold errP at hu
 apply wpS_seq
 apply wpS_region
 simp [wpOpsS, go_sem, recoverD, hu, Tryd.ntmps26]
 refine (caught_err _ x c w c0 z0).mono ?_
 rintro e w' ⟨rfl, rfl⟩
 simp [Exit.thenS, go_sem]
 apply wpS_of_wp
 go_wp2
 have q0 := blk_put (cs' := #[.int .i64 c]) hb 0 (.int .i64 c) rfl
 have q1 := fun v => blk_far q0 (p := ⟨g, 0, none⟩) (Ne.symm hne) v
 have q2 := fun v v1 => blk_far (q1 v) (p := ⟨g, 1, none⟩) (Ne.symm hne) v1
 have q3 := fun v v1 v2 => blk_far (q2 v v1) (p := ⟨g, 2, none⟩) (Ne.symm hne) v2
 have q4 := fun v v1 v2 v3 => blk_far (q3 v v1 v2) (p := ⟨g, 3, none⟩) (Ne.symm hne) v3
 have q5 := fun v v1 v2 v3 v4 => blk_far (q4 v v1 v2 v3) (p := ⟨g, 4, none⟩) (Ne.symm hne) v4
 have q6 := fun v v1 v2 v3 v4 v5 => blk_far (q5 v v1 v2 v3 v4) (p := ⟨g, 5, none⟩) (Ne.symm hne) v5
 have p0 := blk_far ho (p := ⟨b, 0, none⟩) hne (.int .i64 c)
 have p1 := blk_put (cs' := #[.int .i64 0, .int .i64 o1, .int .i64 o2, .int .i64 o3, .int .i64 o4, .int .i64 o5]) p0 0 (.int .i64 0) rfl
 have p2 := blk_put (cs' := #[.int .i64 0, .int .i64 0, .int .i64 o2, .int .i64 o3, .int .i64 o4, .int .i64 o5]) p1 1 (.int .i64 0) rfl
 have p3 := blk_put (cs' := #[.int .i64 0, .int .i64 0, .int .i64 0, .int .i64 o3, .int .i64 o4, .int .i64 o5]) p2 2 (.int .i64 0) rfl
 have p4 := blk_put (cs' := #[.int .i64 0, .int .i64 0, .int .i64 0, .int .i64 0, .int .i64 o4, .int .i64 o5]) p3 3 (.int .i64 0) rfl
 have p5 := blk_put (cs' := #[.int .i64 0, .int .i64 0, .int .i64 0, .int .i64 0, .int .i64 0, .int .i64 o5]) p4 4 (.int .i64 0) rfl
 have p6 := blk_put (cs' := #[.int .i64 0, .int .i64 0, .int .i64 0, .int .i64 0, .int .i64 0, .int .i64 0]) p5 5 (.int .i64 0) rfl
 have hB : ∀ (B : Nat) (w0 : World), B ≤ b → B ≤ g → Below B w0 w → Below B w0 (((((((w.setCell ⟨b, 0, none⟩ (.int .i64 c)).setCell ⟨g, 0, none⟩ (.int .i64 0)).setCell ⟨g, 1, none⟩ (.int .i64 0)).setCell ⟨g, 2, none⟩ (.int .i64 0)).setCell ⟨g, 3, none⟩ (.int .i64 0)).setCell ⟨g, 4, none⟩ (.int .i64 0)).setCell ⟨g, 5, none⟩ (.int .i64 0)) :=
  fun B w0 h1 h2 h => ((((((h.setCell (p := ⟨b, 0, none⟩) h1 _).setCell (p := ⟨g, 0, none⟩) h2 _).setCell (p := ⟨g, 1, none⟩) h2 _).setCell (p := ⟨g, 2, none⟩) h2 _).setCell (p := ⟨g, 3, none⟩) h2 _).setCell (p := ⟨g, 4, none⟩) h2 _).setCell (p := ⟨g, 5, none⟩) h2 _
 have q7 := q6 (.int .i64 0) (.int .i64 0) (.int .i64 0) (.int .i64 0) (.int .i64 0) (.int .i64 0)
 clear q0 q1 q2 q3 q4 q5 q6 p0 p1 p2 p3 p4 p5 hb ho
 generalize (((((((w.setCell ⟨b, 0, none⟩ (.int .i64 c)).setCell ⟨g, 0, none⟩ (.int .i64 0)).setCell ⟨g, 1, none⟩ (.int .i64 0)).setCell ⟨g, 2, none⟩ (.int .i64 0)).setCell ⟨g, 3, none⟩ (.int .i64 0)).setCell ⟨g, 4, none⟩ (.int .i64 0)).setCell ⟨g, 5, none⟩ (.int .i64 0)) = W at *
 simp [bodyPostS, results, Tryd.results26, go_sem]
 exact ⟨q7, p6, hB⟩
def then_T3 : Bool × List (List Nat × List Nat) := (true, [([], []), ([0], [0]), ([], []), ([2], [2]), ([], []), ([4], [4]), ([], []), ([6], [6]), ([1, 3, 5, 7], [1, 3, 5, 7]), ([], []), ([9], [9]), ([], []), ([11], [11]), ([], []), ([13], [13]), ([], []), ([15], [15]), ([10, 12, 14, 16, 8], [10, 12, 14, 16]), ([0, 1, 2, 3, 4, 5, 6, 7, 8], []), ([18, 8, 17, 0, 1, 2, 3, 4, 5, 6, 7, 8], [8, 18]), ([0, 1, 2, 3, 4, 5, 6, 7, 8, 9, 10, 11, 12, 13, 14, 15, 16, 17, 18, 19], []), ([20, 17, 19, 0, 1, 2, 3, 4, 5, 6, 7, 8, 9, 10, 11, 12, 13, 14, 15, 16, 17, 18, 19], [17, 20])])
def then_B3 : List Nat := [0, 1, 0, 4, 0, 16, 0, 64, 255, 0, 512, 0, 2048, 0, 8192, 0, 32768, 131071, 511, 524287, 1048575, 2097151]
theorem then_tab3 : rtab .any (opsOf Tryd.f17 3) = then_T3 := by kernel_rfl
theorem then_bits3 : waitsOk then_T3.2 then_B3 = true := by kernel_rfl
def then_T4 : Bool × List (List Nat × List Nat) := (true, [([], []), ([0], [0]), ([], []), ([2], [2]), ([], []), ([4], [4]), ([], []), ([6], [6]), ([1, 3, 5, 7], [1, 3, 5, 7]), ([], []), ([9], [9]), ([], []), ([11], [11]), ([], []), ([13], [13]), ([], []), ([15], [15]), ([10, 12, 14, 16, 8], [10, 12, 14, 16]), ([0, 1, 2, 3, 4, 5, 6, 7, 8], []), ([18, 8, 17, 0, 1, 2, 3, 4, 5, 6, 7, 8], [8, 18]), ([0, 1, 2, 3, 4, 5, 6, 7, 8, 9, 10, 11, 12, 13, 14, 15, 16, 17, 18, 19], []), ([20, 17, 19, 0, 1, 2, 3, 4, 5, 6, 7, 8, 9, 10, 11, 12, 13, 14, 15, 16, 17, 18, 19], [17, 20])])
def then_B4 : List Nat := [0, 1, 0, 4, 0, 16, 0, 64, 255, 0, 512, 0, 2048, 0, 8192, 0, 32768, 131071, 511, 524287, 1048575, 2097151]
theorem then_tab4 : rtab .any (opsOf Tryd.f17 4) = then_T4 := by kernel_rfl
theorem then_bits4 : waitsOk then_T4.2 then_B4 = true := by kernel_rfl
def then_T5 : Bool × List (List Nat × List Nat) := (true, [([], []), ([0], [0]), ([], []), ([2], [2]), ([], []), ([4], [4]), ([], []), ([6], [6]), ([], []), ([8], [8]), ([1, 3, 5, 7, 9], [1, 3, 5, 7, 9]), ([], []), ([11], [11]), ([], []), ([13], [13]), ([], []), ([15], [15]), ([], []), ([17], [17]), ([], []), ([19], [19]), ([12, 14, 16, 18, 20, 10], [12, 14, 16, 18, 20]), ([0, 1, 2, 3, 4, 5, 6, 7, 8, 9, 10], []), ([22, 10, 21, 0, 1, 2, 3, 4, 5, 6, 7, 8, 9, 10], [10, 22]), ([0, 1, 2, 3, 4, 5, 6, 7, 8, 9, 10, 11, 12, 13, 14, 15, 16, 17, 18, 19, 20, 21, 22, 23], []), ([24, 21, 23, 0, 1, 2, 3, 4, 5, 6, 7, 8, 9, 10, 11, 12, 13, 14, 15, 16, 17, 18, 19, 20, 21, 22, 23], [21, 24])])
def then_B5 : List Nat := [0, 1, 0, 4, 0, 16, 0, 64, 0, 256, 1023, 0, 2048, 0, 8192, 0, 32768, 0, 131072, 0, 524288, 2097151, 2047, 8388607, 16777215, 33554431]
theorem then_tab5 : rtab .any (opsOf Tryd.f17 5) = then_T5 := by kernel_rfl
theorem then_bits5 : waitsOk then_T5.2 then_B5 = true := by kernel_rfl
theorem then_leaf (tmps : Array Value) {w : World} (h4 : tmps[4]? = some (.pointer (some ⟨w.heap.size + 1 + 1, 0, none⟩))) (h5 : tmps[5]? = some (.pointer (some ⟨w.heap.size + 1 + 1 + 1, 0, none⟩))) (W : World) (c : Int) (hc : c ≠ 0) (o0 o1 o2 o3 o4 o5 : Int)
  (hb : W.heap[w.heap.size + 1 + 1 + 1]? = some (.cells #[.int .i64 0] 27 (0, 0))) (ho : W.heap[w.heap.size + 1 + 1]? = some (.cells #[.int .i64 o0, .int .i64 o1, .int .i64 o2, .int .i64 o3, .int .i64 o4, .int .i64 o5] 23 (0, 0))) (hB : Below w.heap.size w W) :
  Leaves Tryd.prog Tryd.f17 tmps (fun e w' => e = .returned (.tuple #[.agg #[.int .i64 0, .int .i64 0, .int .i64 0, .int .i64 0, .int .i64 0, .int .i64 0], .int .i64 c]) ∧ Below w.heap.size w w')
   [{ target := .fn (.func 26) #[.pointer (some ⟨w.heap.size + 1 + 1 + 1, 0, none⟩), .pointer (some ⟨w.heap.size + 1 + 1, 0, none⟩)], args := #[] }] (.panicking (errP c)) W := by
 refine leaves_cons (f := 26) (args := #[.pointer (some ⟨w.heap.size + 1 + 1 + 1, 0, none⟩), .pointer (some ⟨w.heap.size + 1 + 1, 0, none⟩)]) (by simp) (by simp [go_sem]) ?_
 refine (then1_panicking _ _ 0 c hc o0 o1 o2 o3 o4 o5 W (by omega) hb ho).mono ?_
 rintro e u' w' ⟨rfl, rfl, q1, q2, q3⟩
 have hu23 := Tryd.underlying23
 have c0 := (blk_cell q1 0).trans rfl
 have k0 := (blk_cell q2 0).trans rfl
 have k1 := (blk_cell q2 1).trans rfl
 have k2 := (blk_cell q2 2).trans rfl
 have k3 := (blk_cell q2 3).trans rfl
 have k4 := (blk_cell q2 4).trans rfl
 have k5 := (blk_cell q2 5).trans rfl
 have hB2 := q3 _ _ (by omega) (by omega) hB
 clear q1 q2 q3
 simp [Leaves, settle, results, Tryd.results17, go_sem, h4, h5, c0, k0, k1, k2, k3, k4, k5]
 exact hB2
theorem leaves_same {P : Program} {fn : Func} {tmps tmps' : Array Value} {R : Ending → World → Prop} (he : results fn tmps = results fn tmps') (ds : List Deferred) : ∀ (u : FrameMode) (w : World), Leaves P fn tmps R ds u w → Leaves P fn tmps' R ds u w := by
 induction ds with
 | nil =>
  intro u w h
  cases u with
  | returning => obtain ⟨v, h1, h2⟩ := h; exact ⟨v, he ▸ h1, h2⟩
  | panicking c => exact h
  | run => exact h
 | cons d ds ih =>
  intro u w h
  obtain ⟨h0, fv, cap, f, args, h1, h2, h3⟩ := h
  refine ⟨h0, fv, cap, f, args, h1, h2, h3.mono ?_⟩
  intro e u' w' h4
  cases e with
  | returned v => exact ih _ _ h4
  | panicked c => exact ih _ _ h4
  | outgrown => exact h4
theorem then_put (a : Act) (d : Nat) (v : Value) (h4 : d ≠ 4) (h5 : d ≠ 5) : results Tryd.f17 (a.put (some d) v).tmps = results Tryd.f17 a.tmps := by
 simp [results, Tryd.results17, Act.put, Array.getD_eq_getD_getElem?, Array.getElem?_setIfInBounds_ne h4, Array.getElem?_setIfInBounds_ne h5]
def affine_Then.f (k : Nat) (m0 m1 m2 m3 m4 m5 n0 n1 n2 n3 n4 n5 : Int) : Option (Int × Int × Int × Int × Int × Int × Int) :=
 (affine_Right.f k m0 m1 m2 m3 m4 m5).bind fun t => if t = true then (affine_Right.f k n0 n1 n2 n3 n4 n5).bind fun u => if u = true then (affine_number.r k n0 m0 n2 m1 0).bind fun q => match q with | .error c => some (0, 0, 0, 0, 0, 0, c) | .ok v0 => (affine_number.r k n1 m0 n3 m1 0).bind fun q => match q with | .error c => some (0, 0, 0, 0, 0, 0, c) | .ok v1 => (affine_number.r k n0 m2 n2 m3 0).bind fun q => match q with | .error c => some (0, 0, 0, 0, 0, 0, c) | .ok v2 => (affine_number.r k n1 m2 n3 m3 0).bind fun q => match q with | .error c => some (0, 0, 0, 0, 0, 0, c) | .ok v3 => (affine_number.r k n0 m4 n2 m5 n4).bind fun q => match q with | .error c => some (0, 0, 0, 0, 0, 0, c) | .ok v4 => (affine_number.r k n1 m4 n3 m5 n5).bind fun q => match q with | .error c => some (0, 0, 0, 0, 0, 0, c) | .ok v5 => some (v0, v1, v2, v3, v4, v5, 0)
  else some (0, 0, 0, 0, 0, 0, 1) else some (0, 0, 0, 0, 0, 0, 1)
theorem affine_Then.mono (m0 m1 m2 m3 m4 m5 n0 n1 n2 n3 n4 n5 : Int) (k : Nat) : LeO (affine_Then.f k m0 m1 m2 m3 m4 m5 n0 n1 n2 n3 n4 n5) (affine_Then.f (k + 1) m0 m1 m2 m3 m4 m5 n0 n1 n2 n3 n4 n5) := by
 unfold affine_Then.f
 refine LeO.bind (affine_Right.mono _ _ _ _ _ _ _) (fun _ => LeO.ite (LeO.bind (affine_Right.mono _ _ _ _ _ _ _) (fun _ => LeO.ite ?_ (LeO.refl _))) (LeO.refl _))
 refine LeO.bind (affine_number.mono_r _ _ _ _ _ _) (fun q => ?_)
 cases q with
 | error c => exact LeO.refl _
 | ok v =>
  refine LeO.bind (affine_number.mono_r _ _ _ _ _ _) (fun q => ?_)
  cases q with
  | error c => exact LeO.refl _
  | ok v =>
  refine LeO.bind (affine_number.mono_r _ _ _ _ _ _) (fun q => ?_)
  cases q with
  | error c => exact LeO.refl _
  | ok v =>
   refine LeO.bind (affine_number.mono_r _ _ _ _ _ _) (fun q => ?_)
   cases q with
   | error c => exact LeO.refl _
   | ok v =>
   refine LeO.bind (affine_number.mono_r _ _ _ _ _ _) (fun q => ?_)
   cases q with
   | error c => exact LeO.refl _
   | ok v =>
    refine LeO.bind (affine_number.mono_r _ _ _ _ _ _) (fun q => ?_)
    cases q with
    | error c => exact LeO.refl _
    | ok v =>
    exact LeO.refl _
set_option maxHeartbeats 8000000 in
set_option maxRecDepth 100000 in
theorem affine_Then.calls (k : Nat) (m0 m1 m2 m3 m4 m5 n0 n1 n2 n3 n4 n5 r1 r2 r3 r4 r5 r6 r7 : Int) (w : World) (hG : Gl w) (h : affine_Then.f k m0 m1 m2 m3 m4 m5 n0 n1 n2 n3 n4 n5 = some (r1, r2, r3, r4, r5, r6, r7)) :
  Calls Tryd.prog 17 #[.agg #[.int .i64 m0, .int .i64 m1, .int .i64 m2, .int .i64 m3, .int .i64 m4, .int .i64 m5], .agg #[.int .i64 n0, .int .i64 n1, .int .i64 n2, .int .i64 n3, .int .i64 n4, .int .i64 n5]] w fun e w' => e = .returned (.tuple #[.agg #[.int .i64 r1, .int .i64 r2, .int .i64 r3, .int .i64 r4, .int .i64 r5, .int .i64 r6], .int .i64 r7]) ∧ Below w.heap.size w w' := by
 have hu23 := Tryd.underlying23
 obtain ⟨t, ht, H⟩ := Option.bind_eq_some_iff.mp h
 clear h
 have HG := Aside0.mk hG
 clear hG
 have hmf : ∀ (fn : Fn) (first cap : Array Value) (w : World), (Instr.makeFunc fn first cap).run Tryd.prog w = .ok (.func fn first cap) w := fun _ _ _ _ => rfl
 go_enter_defers Tryd.func17, Tryd.ntmps17
 go_wp2_with fail
 refine (affine_Right.calls k _ _ _ _ _ _ _ _ ht).mono ?_
 rintro e w1 ⟨rfl, hb⟩
 have BKm : Aside0 (w1.heap[w.heap.size]? = some (.cells #[.int .i64 m0, .int .i64 m1, .int .i64 m2, .int .i64 m3, .int .i64 m4, .int .i64 m5] 23 (0, 0))) := ⟨blk_below (blk_alloc (blk_alloc (blk_alloc (blk_new w _) _) _) _) hb⟩
 have BKn : Aside0 (w1.heap[w.heap.size + 1]? = some (.cells #[.int .i64 n0, .int .i64 n1, .int .i64 n2, .int .i64 n3, .int .i64 n4, .int .i64 n5] 23 (0, 0))) := ⟨blk_below (blk_alloc (blk_alloc (by simpa using blk_new (w.alloc (.cells #[.int .i64 m0, .int .i64 m1, .int .i64 m2, .int .i64 m3, .int .i64 m4, .int .i64 m5] 23 (0, 0))) _) _) _) hb⟩
 have BKo : Aside0 (w1.heap[w.heap.size + 1 + 1]? = some (.cells #[.int .i64 0, .int .i64 0, .int .i64 0, .int .i64 0, .int .i64 0, .int .i64 0] 23 (0, 0))) := ⟨blk_below (blk_alloc (by simpa using blk_new ((w.alloc (.cells #[.int .i64 m0, .int .i64 m1, .int .i64 m2, .int .i64 m3, .int .i64 m4, .int .i64 m5] 23 (0, 0))).alloc (.cells #[.int .i64 n0, .int .i64 n1, .int .i64 n2, .int .i64 n3, .int .i64 n4, .int .i64 n5] 23 (0, 0))) _) _) hb⟩
 have BKe : Aside0 (w1.heap[w.heap.size + 1 + 1 + 1]? = some (.cells #[.int .i64 0] 27 (0, 0))) := ⟨blk_below (by simpa using blk_new (((w.alloc (.cells #[.int .i64 m0, .int .i64 m1, .int .i64 m2, .int .i64 m3, .int .i64 m4, .int .i64 m5] 23 (0, 0))).alloc (.cells #[.int .i64 n0, .int .i64 n1, .int .i64 n2, .int .i64 n3, .int .i64 n4, .int .i64 n5] 23 (0, 0))).alloc (.cells #[.int .i64 0, .int .i64 0, .int .i64 0, .int .i64 0, .int .i64 0, .int .i64 0] 23 (0, 0))) _) hb⟩
 have HB : Aside0 (Below w.heap.size w w1) := ⟨((((((Below.refl w.heap.size w).alloc (Nat.le_refl _) _).alloc (by simp) _).alloc (by simp; omega) _).alloc (by simp; omega) _)).trans (hb.mono (by simp; omega))⟩
 clear hb
 cases t with
 | false =>
  rw [if_neg (by decide)] at H
  simp only [Option.some.injEq, Prod.mk.injEq] at H
  obtain ⟨rfl, rfl, rfl, rfl, rfl, rfl, rfl⟩ := H
  go_wp2_with (go_at_call 25; refine (must_no _ _).mono ?_; rintro e w2 ⟨rfl, rfl⟩)
  exact then_leaf _ rfl rfl _ _ (by decide) _ _ _ _ _ _ BKe.out BKo.out HB.out
 | true =>
 rw [if_pos rfl] at H
 obtain ⟨u, hu, H⟩ := Option.bind_eq_some_iff.mp H
 have c0 := (blk_cell BKn.out 0).trans rfl
 have c1 := (blk_cell BKn.out 1).trans rfl
 have c2 := (blk_cell BKn.out 2).trans rfl
 have c3 := (blk_cell BKn.out 3).trans rfl
 have c4 := (blk_cell BKn.out 4).trans rfl
 have c5 := (blk_cell BKn.out 5).trans rfl
 go_wp2_with fail
 clear c0 c1 c2 c3 c4 c5
 refine (affine_Right.calls k _ _ _ _ _ _ _ _ hu).mono ?_
 rintro e w2 ⟨rfl, hb⟩
 have x0_ := Aside0.mk (blk_below BKm.out hb); have x1_ := Aside0.mk (blk_below BKn.out hb); have x2_ := Aside0.mk (blk_below BKo.out hb); have x3_ := Aside0.mk (blk_below BKe.out hb); have x4_ := Aside0.mk (below_step HB.out hb)
 clear BKm BKn BKo BKe HB; have BKm := x0_; have BKn := x1_; have BKo := x2_; have BKe := x3_; have HB := x4_; clear x0_ x1_ x2_ x3_ x4_
 clear hb
 cases u with
 | false =>
  rw [if_neg (by decide)] at H
  simp only [Option.some.injEq, Prod.mk.injEq] at H
  obtain ⟨rfl, rfl, rfl, rfl, rfl, rfl, rfl⟩ := H
  go_wp2_with (go_at_call 25; refine (must_no _ _).mono ?_; rintro e w3 ⟨rfl, rfl⟩)
  exact then_leaf _ rfl rfl _ _ (by decide) _ _ _ _ _ _ BKe.out BKo.out HB.out
 | true =>
 rw [if_pos rfl] at H
 go_wp2_with (go_at_call 25; refine (must_ok _ _).mono ?_; rintro e w3 ⟨rfl, rfl⟩)
 have x0_ := Aside0.mk (blk_drew BKm.out); have x1_ := Aside0.mk (blk_drew BKn.out); have x2_ := Aside0.mk (blk_drew BKo.out); have x3_ := Aside0.mk (blk_drew BKe.out); have x4_ := Aside0.mk (below_drew1 HB.out)
 clear BKm BKn BKo BKe HB; have BKm := x0_; have BKn := x1_; have BKo := x2_; have BKe := x3_; have HB := x4_; clear x0_ x1_ x2_ x3_ x4_
 refine start_ (n := 22) (S := fun w' => w'.cell? ⟨w.heap.size, 0, none⟩ = some (.int .i64 m0) ∧ w'.cell? ⟨w.heap.size, 1, none⟩ = some (.int .i64 m1) ∧ w'.cell? ⟨w.heap.size, 2, none⟩ = some (.int .i64 m2) ∧ w'.cell? ⟨w.heap.size, 3, none⟩ = some (.int .i64 m3) ∧ w'.cell? ⟨w.heap.size, 4, none⟩ = some (.int .i64 m4) ∧ w'.cell? ⟨w.heap.size, 5, none⟩ = some (.int .i64 m5) ∧ w'.cell? ⟨(w.heap.size + 1), 0, none⟩ = some (.int .i64 n0) ∧ w'.cell? ⟨(w.heap.size + 1), 1, none⟩ = some (.int .i64 n1) ∧ w'.cell? ⟨(w.heap.size + 1), 2, none⟩ = some (.int .i64 n2) ∧ w'.cell? ⟨(w.heap.size + 1), 3, none⟩ = some (.int .i64 n3) ∧ w'.cell? ⟨(w.heap.size + 1), 4, none⟩ = some (.int .i64 n4) ∧ w'.cell? ⟨(w.heap.size + 1), 5, none⟩ = some (.int .i64 n5)) (ds := []) (bt 0 22) (by kernel_rfl) rfl rfl ⟨(blk_cell BKm.out 0).trans rfl, (blk_cell BKm.out 1).trans rfl, (blk_cell BKm.out 2).trans rfl, (blk_cell BKm.out 3).trans rfl, (blk_cell BKm.out 4).trans rfl, (blk_cell BKm.out 5).trans rfl, (blk_cell BKn.out 0).trans rfl, (blk_cell BKn.out 1).trans rfl, (blk_cell BKn.out 2).trans rfl, (blk_cell BKn.out 3).trans rfl, (blk_cell BKn.out 4).trans rfl, (blk_cell BKn.out 5).trans rfl⟩ (fun hHeld => ?_); refine with_tabW then_tab3 then_bits3 (fun HT_ HW_ => ?_)
 generalize World.drew _ = W at BKm BKn BKo BKe HB hHeld ⊢
 refine pure_ (i := 0) (N := some 14) (v := ?_) (a' := ?_) (bt 1 21) rfl rfl (any_of HT_.out (by kernel_rfl)) (fun _ a _ h => leaves_same (then_put a 14 _ (by decide) (by decide)) _ _ _ h) (Or.inl ⟨by rfl, ?_⟩) ?_ ?_
 rotate_left; focus (intro w'; go_simp; with_reducible rfl)
 rotate_left; focus (simp only [apz, i64_w, i32_w]; rfl)
 refine pure_ (i := 2) (N := some 16) (v := ?_) (a' := ?_) (bm 22 5) rfl rfl (any_of HT_.out (by kernel_rfl)) (fun _ a _ h => leaves_same (then_put a 16 _ (by decide) (by decide)) _ _ _ h) (Or.inl ⟨by rfl, ?_⟩) ?_ ?_
 rotate_left; focus (intro w'; go_simp; with_reducible rfl)
 rotate_left; focus (simp only [apz, i64_w, i32_w]; rfl)
 refine pure_ (i := 4) (N := some 18) (v := ?_) (a' := ?_) (bm 22 21) rfl rfl (any_of HT_.out (by kernel_rfl)) (fun _ a _ h => leaves_same (then_put a 18 _ (by decide) (by decide)) _ _ _ h) (Or.inl ⟨by rfl, ?_⟩) ?_ ?_
 rotate_left; focus (intro w'; go_simp; with_reducible rfl)
 rotate_left; focus (simp only [apz, i64_w, i32_w]; rfl)
 refine pure_ (i := 6) (N := some 20) (v := ?_) (a' := ?_) (bm 22 85) rfl rfl (any_of HT_.out (by kernel_rfl)) (fun _ a _ h => leaves_same (then_put a 20 _ (by decide) (by decide)) _ _ _ h) (Or.inl ⟨by rfl, ?_⟩) ?_ ?_
 rotate_left; focus (intro w'; go_simp; with_reducible rfl)
 rotate_left; focus (simp only [apz, i64_w, i32_w]; rfl)
 refine pure_ (i := 9) (N := some 23) (v := ?_) (a' := ?_) (bm 22 597) rfl rfl (any_of HT_.out (by kernel_rfl)) (fun _ a _ h => leaves_same (then_put a 23 _ (by decide) (by decide)) _ _ _ h) (Or.inl ⟨by rfl, ?_⟩) ?_ ?_
 rotate_left; focus (intro w'; go_simp; with_reducible rfl)
 rotate_left; focus (simp only [apz, i64_w, i32_w]; rfl)
 refine pure_ (i := 11) (N := some 25) (v := ?_) (a' := ?_) (bm 22 2645) rfl rfl (any_of HT_.out (by kernel_rfl)) (fun _ a _ h => leaves_same (then_put a 25 _ (by decide) (by decide)) _ _ _ h) (Or.inl ⟨by rfl, ?_⟩) ?_ ?_
 rotate_left; focus (intro w'; go_simp; with_reducible rfl)
 rotate_left; focus (simp only [apz, i64_w, i32_w]; rfl)
 refine pure_ (i := 13) (N := some 27) (v := ?_) (a' := ?_) (bm 22 10837) rfl rfl (any_of HT_.out (by kernel_rfl)) (fun _ a _ h => leaves_same (then_put a 27 _ (by decide) (by decide)) _ _ _ h) (Or.inl ⟨by rfl, ?_⟩) ?_ ?_
 rotate_left; focus (intro w'; go_simp; with_reducible rfl)
 rotate_left; focus (simp only [apz, i64_w, i32_w]; rfl)
 refine pure_ (i := 15) (N := some 29) (v := ?_) (a' := ?_) (bm 22 43605) rfl rfl (any_of HT_.out (by kernel_rfl)) (fun _ a _ h => leaves_same (then_put a 29 _ (by decide) (by decide)) _ _ _ h) (Or.inl ⟨by rfl, ?_⟩) ?_ ?_
 rotate_left; focus (intro w'; go_simp; with_reducible rfl)
 rotate_left; focus (simp only [apz, i64_w, i32_w]; rfl)
 refine take_ (i := 1) (N := some 15) (v := ?_) (a' := ?_) (bm 22 43607) rfl rfl (take_ofW HT_.out HW_.out (by kernel_rfl)) (fun _ a _ h => leaves_same (then_put a 15 _ (by decide) (by decide)) _ _ _ h) (Or.inl ⟨by rfl, ?_⟩) hHeld ?_ ?_
 rotate_left; focus (rintro w' ⟨s0, s1, s2, s3, s4, s5, s6, s7, s8, s9, s10, s11⟩; go_simp; with_reducible rfl)
 rotate_left; focus (simp only [apz, i64_w, i32_w]; rfl)
 refine take_ (i := 3) (N := some 17) (v := ?_) (a' := ?_) (bm 22 43615) rfl rfl (take_ofW HT_.out HW_.out (by kernel_rfl)) (fun _ a _ h => leaves_same (then_put a 17 _ (by decide) (by decide)) _ _ _ h) (Or.inl ⟨by rfl, ?_⟩) hHeld ?_ ?_
 rotate_left; focus (rintro w' ⟨s0, s1, s2, s3, s4, s5, s6, s7, s8, s9, s10, s11⟩; go_simp; with_reducible rfl)
 rotate_left; focus (simp only [apz, i64_w, i32_w]; rfl)
 refine take_ (i := 5) (N := some 19) (v := ?_) (a' := ?_) (bm 22 43647) rfl rfl (take_ofW HT_.out HW_.out (by kernel_rfl)) (fun _ a _ h => leaves_same (then_put a 19 _ (by decide) (by decide)) _ _ _ h) (Or.inl ⟨by rfl, ?_⟩) hHeld ?_ ?_
 rotate_left; focus (rintro w' ⟨s0, s1, s2, s3, s4, s5, s6, s7, s8, s9, s10, s11⟩; go_simp; with_reducible rfl)
 rotate_left; focus (simp only [apz, i64_w, i32_w]; rfl)
 refine take_ (i := 7) (N := some 21) (v := ?_) (a' := ?_) (bm 22 43775) rfl rfl (take_ofW HT_.out HW_.out (by kernel_rfl)) (fun _ a _ h => leaves_same (then_put a 21 _ (by decide) (by decide)) _ _ _ h) (Or.inl ⟨by rfl, ?_⟩) hHeld ?_ ?_
 rotate_left; focus (rintro w' ⟨s0, s1, s2, s3, s4, s5, s6, s7, s8, s9, s10, s11⟩; go_simp; with_reducible rfl)
 rotate_left; focus (simp only [apz, i64_w, i32_w]; rfl)
 refine take_ (i := 10) (N := some 24) (v := ?_) (a' := ?_) (bm 22 44799) rfl rfl (take_ofW HT_.out HW_.out (by kernel_rfl)) (fun _ a _ h => leaves_same (then_put a 24 _ (by decide) (by decide)) _ _ _ h) (Or.inl ⟨by rfl, ?_⟩) hHeld ?_ ?_
 rotate_left; focus (rintro w' ⟨s0, s1, s2, s3, s4, s5, s6, s7, s8, s9, s10, s11⟩; go_simp; with_reducible rfl)
 rotate_left; focus (simp only [apz, i64_w, i32_w]; rfl)
 refine take_ (i := 12) (N := some 26) (v := ?_) (a' := ?_) (bm 22 48895) rfl rfl (take_ofW HT_.out HW_.out (by kernel_rfl)) (fun _ a _ h => leaves_same (then_put a 26 _ (by decide) (by decide)) _ _ _ h) (Or.inl ⟨by rfl, ?_⟩) hHeld ?_ ?_
 rotate_left; focus (rintro w' ⟨s0, s1, s2, s3, s4, s5, s6, s7, s8, s9, s10, s11⟩; go_simp; with_reducible rfl)
 rotate_left; focus (simp only [apz, i64_w, i32_w]; rfl)
 refine take_ (i := 14) (N := some 28) (v := ?_) (a' := ?_) (bm 22 65279) rfl rfl (take_ofW HT_.out HW_.out (by kernel_rfl)) (fun _ a _ h => leaves_same (then_put a 28 _ (by decide) (by decide)) _ _ _ h) (Or.inl ⟨by rfl, ?_⟩) hHeld ?_ ?_
 rotate_left; focus (rintro w' ⟨s0, s1, s2, s3, s4, s5, s6, s7, s8, s9, s10, s11⟩; go_simp; with_reducible rfl)
 rotate_left; focus (simp only [apz, i64_w, i32_w]; rfl)
 refine take_ (i := 16) (N := some 30) (v := ?_) (a' := ?_) (bm 22 130815) rfl rfl (take_ofW HT_.out HW_.out (by kernel_rfl)) (fun _ a _ h => leaves_same (then_put a 30 _ (by decide) (by decide)) _ _ _ h) (Or.inl ⟨by rfl, ?_⟩) hHeld ?_ ?_
 rotate_left; focus (rintro w' ⟨s0, s1, s2, s3, s4, s5, s6, s7, s8, s9, s10, s11⟩; go_simp; with_reducible rfl)
 rotate_left; focus (simp only [apz, i64_w, i32_w]; rfl)
 refine one_ (i := 8) (N := some 22) (bt 17 5) rfl rfl (one_of HT_.out (by kernel_rfl)) (by decide) (fun K hK => ?_)
 obtain ⟨q, hq, H⟩ := Option.bind_eq_some_iff.mp H
 rcases q with c | v0
 ·
  refine goesP_ Tryd.func27 (by kernel_rfl) rfl #[.int .i64 n0, .int .i64 m0, .int .i64 n2, .int .i64 m1, .int .i64 0] (by rfl) rfl rfl (by (try simp only [List.map_toArray, List.map_cons, List.map_nil]); first | done | rfl) ?_
  refine (affine_number.calls_r k _ _ _ _ _ _ _ (HG.out.below HB.out) hq).mono ?_
  rintro e w' ⟨rfl, hb⟩
  refine ⟨_, rfl, ?_⟩
  simp only [Option.some.injEq, Prod.mk.injEq] at H
  obtain ⟨rfl, rfl, rfl, rfl, rfl, rfl, rfl⟩ := H
  clear hK K hHeld HT_ HW_
  go_wp2
  exact then_leaf _ rfl rfl _ _ (number_err hq) _ _ _ _ _ _ (blk_below BKe.out hb) (blk_below BKo.out hb) (below_step HB.out hb)
 refine goes_ Tryd.func27 (by kernel_rfl) rfl #[.int .i64 n0, .int .i64 m0, .int .i64 n2, .int .i64 m1, .int .i64 0] (by rfl) rfl rfl (by (try simp only [List.map_toArray, List.map_cons, List.map_nil]); first | done | rfl) ?_
 refine (affine_number.calls_r k _ _ _ _ _ _ _ (HG.out.below HB.out) hq).mono ?_
 rintro e w2 ⟨rfl, hb⟩
 refine ⟨_, rfl, ?_⟩
 dsimp only at H
 have x0_ := Aside0.mk (blk_below BKm.out hb); have x1_ := Aside0.mk (blk_below BKn.out hb); have x2_ := Aside0.mk (blk_below BKo.out hb); have x3_ := Aside0.mk (blk_below BKe.out hb); have x4_ := Aside0.mk (below_step HB.out hb)
 clear BKm BKn BKo BKe HB; have BKm := x0_; have BKn := x1_; have BKo := x2_; have BKe := x3_; have HB := x4_; clear x0_ x1_ x2_ x3_ x4_
 clear hHeld hb hq
 refine hK.out _ _ ⟨(blk_cell BKm.out 0).trans rfl, (blk_cell BKm.out 1).trans rfl, (blk_cell BKm.out 2).trans rfl, (blk_cell BKm.out 3).trans rfl, (blk_cell BKm.out 4).trans rfl, (blk_cell BKm.out 5).trans rfl, (blk_cell BKn.out 0).trans rfl, (blk_cell BKn.out 1).trans rfl, (blk_cell BKn.out 2).trans rfl, (blk_cell BKn.out 3).trans rfl, (blk_cell BKn.out 4).trans rfl, (blk_cell BKn.out 5).trans rfl⟩ (fun hHeld => ?_)
 clear hK K W
 refine norm_ (a' := ?_) ?_ ?_
 rotate_left; focus (show Act.put _ (some 22) _ = _; simp only [apz, i64_w, i32_w]; rfl)
 generalize w2 = W at BKm BKn BKo BKe HB hHeld ⊢
 refine pure_ (i := 18) (N := some 32) (v := ?_) (a' := ?_) (bm 22 393215) rfl rfl (any_of HT_.out (by kernel_rfl)) (fun _ a _ h => leaves_same (then_put a 32 _ (by decide) (by decide)) _ _ _ h) (Or.inl ⟨by rfl, ?_⟩) ?_ ?_
 rotate_left; focus (intro w'; go_simp; with_reducible rfl)
 rotate_left; focus (simp only [apz, i64_w, i32_w]; rfl)
 refine one_ (i := 17) (N := some 31) (bt 19 3) rfl rfl (one_of HT_.out (by kernel_rfl)) (by decide) (fun K hK => ?_)
 obtain ⟨q, hq, H⟩ := Option.bind_eq_some_iff.mp H
 rcases q with c | v1
 ·
  refine goesP_ Tryd.func27 (by kernel_rfl) rfl #[.int .i64 n1, .int .i64 m0, .int .i64 n3, .int .i64 m1, .int .i64 0] (by rfl) rfl rfl (by (try simp only [List.map_toArray, List.map_cons, List.map_nil]); first | done | rfl) ?_
  refine (affine_number.calls_r k _ _ _ _ _ _ _ (HG.out.below HB.out) hq).mono ?_
  rintro e w' ⟨rfl, hb⟩
  refine ⟨_, rfl, ?_⟩
  simp only [Option.some.injEq, Prod.mk.injEq] at H
  obtain ⟨rfl, rfl, rfl, rfl, rfl, rfl, rfl⟩ := H
  clear hK K hHeld HT_ HW_
  go_wp2
  exact then_leaf _ rfl rfl _ _ (number_err hq) _ _ _ _ _ _ (blk_below BKe.out hb) (blk_below BKo.out hb) (below_step HB.out hb)
 refine goes_ Tryd.func27 (by kernel_rfl) rfl #[.int .i64 n1, .int .i64 m0, .int .i64 n3, .int .i64 m1, .int .i64 0] (by rfl) rfl rfl (by (try simp only [List.map_toArray, List.map_cons, List.map_nil]); first | done | rfl) ?_
 refine (affine_number.calls_r k _ _ _ _ _ _ _ (HG.out.below HB.out) hq).mono ?_
 rintro e w2 ⟨rfl, hb⟩
 refine ⟨_, rfl, ?_⟩
 dsimp only at H
 have x0_ := Aside0.mk (blk_below BKm.out hb); have x1_ := Aside0.mk (blk_below BKn.out hb); have x2_ := Aside0.mk (blk_below BKo.out hb); have x3_ := Aside0.mk (blk_below BKe.out hb); have x4_ := Aside0.mk (below_step HB.out hb)
 clear BKm BKn BKo BKe HB; have BKm := x0_; have BKn := x1_; have BKo := x2_; have BKe := x3_; have HB := x4_; clear x0_ x1_ x2_ x3_ x4_
 clear hHeld hb hq
 refine hK.out _ _ ⟨(blk_cell BKm.out 0).trans rfl, (blk_cell BKm.out 1).trans rfl, (blk_cell BKm.out 2).trans rfl, (blk_cell BKm.out 3).trans rfl, (blk_cell BKm.out 4).trans rfl, (blk_cell BKm.out 5).trans rfl, (blk_cell BKn.out 0).trans rfl, (blk_cell BKn.out 1).trans rfl, (blk_cell BKn.out 2).trans rfl, (blk_cell BKn.out 3).trans rfl, (blk_cell BKn.out 4).trans rfl, (blk_cell BKn.out 5).trans rfl⟩ (fun hHeld => ?_)
 clear hK K W
 refine norm_ (a' := ?_) ?_ ?_
 rotate_left; focus (show Act.put _ (some 31) _ = _; simp only [apz, i64_w, i32_w]; rfl)
 generalize w2 = W at BKm BKn BKo BKe HB hHeld ⊢
 refine one_ (i := 19) (N := none) (bt 20 2) rfl rfl (one_of HT_.out (by kernel_rfl)) (by decide) (fun K hK => ?_)
 have hs := (blk_cell BKo.out 0).trans rfl
 have hf := blk_frozen BKo.out 0
 refine skip_ (w1 := ?_) (by rfl) rfl ?_ ?_
 rotate_left; focus (go_simp; rfl)
 clear hs hf
 have x0_ := Aside0.mk (blk_far BKm.out (p := ⟨(w.heap.size + 1 + 1), 0, none⟩) (by show w.heap.size ≠ w.heap.size + 1 + 1; omega) (.int .i64 v0)); have x1_ := Aside0.mk (blk_far BKn.out (p := ⟨(w.heap.size + 1 + 1), 0, none⟩) (by show w.heap.size + 1 ≠ w.heap.size + 1 + 1; omega) (.int .i64 v0)); have x2_ := Aside0.mk (blk_put (cs' := #[.int .i64 v0, .int .i64 0, .int .i64 0, .int .i64 0, .int .i64 0, .int .i64 0]) BKo.out 0 (.int .i64 v0) rfl); have x3_ := Aside0.mk (blk_far BKe.out (p := ⟨(w.heap.size + 1 + 1), 0, none⟩) (by show w.heap.size + 1 + 1 + 1 ≠ w.heap.size + 1 + 1; omega) (.int .i64 v0)); have x4_ := Aside0.mk (HB.out.setCell (p := ⟨(w.heap.size + 1 + 1), 0, none⟩) (by show w.heap.size ≤ w.heap.size + 1 + 1; omega) (.int .i64 v0))
 clear BKm BKn BKo BKe HB; have BKm := x0_; have BKn := x1_; have BKo := x2_; have BKe := x3_; have HB := x4_; clear x0_ x1_ x2_ x3_ x4_
 clear hHeld
 generalize W.setCell ⟨(w.heap.size + 1 + 1), 0, none⟩ (.int .i64 v0) = W2 at BKm BKn BKo BKe HB ⊢
 refine hK.out _ _ ⟨(blk_cell BKm.out 0).trans rfl, (blk_cell BKm.out 1).trans rfl, (blk_cell BKm.out 2).trans rfl, (blk_cell BKm.out 3).trans rfl, (blk_cell BKm.out 4).trans rfl, (blk_cell BKm.out 5).trans rfl, (blk_cell BKn.out 0).trans rfl, (blk_cell BKn.out 1).trans rfl, (blk_cell BKn.out 2).trans rfl, (blk_cell BKn.out 3).trans rfl, (blk_cell BKn.out 4).trans rfl, (blk_cell BKn.out 5).trans rfl⟩ (fun hHeld => ?_)
 clear hK K W
 generalize W2 = W at BKm BKn BKo BKe HB hHeld ⊢
 refine pure_ (i := 20) (N := some 33) (v := ?_) (a' := ?_) (bt 21 1) rfl rfl (any_of HT_.out (by kernel_rfl)) (fun _ a _ h => leaves_same (then_put a 33 _ (by decide) (by decide)) _ _ _ h) (Or.inl ⟨by rfl, ?_⟩) ?_ ?_
 rotate_left; focus (intro w'; go_simp; with_reducible rfl)
 rotate_left; focus (simp only [apz, i64_w, i32_w]; rfl)
 refine one_ (i := 21) (N := none) (bt 22 0) rfl rfl (one_of HT_.out (by kernel_rfl)) (by decide) (fun K hK => ?_)
 have hs := (blk_cell BKo.out 1).trans rfl
 have hf := blk_frozen BKo.out 1
 refine skip_ (w1 := ?_) (by rfl) rfl ?_ ?_
 rotate_left; focus (go_simp; rfl)
 clear hs hf
 have x0_ := Aside0.mk (blk_far BKm.out (p := ⟨(w.heap.size + 1 + 1), 1, none⟩) (by show w.heap.size ≠ w.heap.size + 1 + 1; omega) (.int .i64 v1)); have x1_ := Aside0.mk (blk_far BKn.out (p := ⟨(w.heap.size + 1 + 1), 1, none⟩) (by show w.heap.size + 1 ≠ w.heap.size + 1 + 1; omega) (.int .i64 v1)); have x2_ := Aside0.mk (blk_put (cs' := #[.int .i64 v0, .int .i64 v1, .int .i64 0, .int .i64 0, .int .i64 0, .int .i64 0]) BKo.out 1 (.int .i64 v1) rfl); have x3_ := Aside0.mk (blk_far BKe.out (p := ⟨(w.heap.size + 1 + 1), 1, none⟩) (by show w.heap.size + 1 + 1 + 1 ≠ w.heap.size + 1 + 1; omega) (.int .i64 v1)); have x4_ := Aside0.mk (HB.out.setCell (p := ⟨(w.heap.size + 1 + 1), 1, none⟩) (by show w.heap.size ≤ w.heap.size + 1 + 1; omega) (.int .i64 v1))
 clear BKm BKn BKo BKe HB; have BKm := x0_; have BKn := x1_; have BKo := x2_; have BKe := x3_; have HB := x4_; clear x0_ x1_ x2_ x3_ x4_
 clear hHeld
 generalize W.setCell ⟨(w.heap.size + 1 + 1), 1, none⟩ (.int .i64 v1) = W2 at BKm BKn BKo BKe HB ⊢
 refine hK.out _ _ ⟨(blk_cell BKm.out 0).trans rfl, (blk_cell BKm.out 1).trans rfl, (blk_cell BKm.out 2).trans rfl, (blk_cell BKm.out 3).trans rfl, (blk_cell BKm.out 4).trans rfl, (blk_cell BKm.out 5).trans rfl, (blk_cell BKn.out 0).trans rfl, (blk_cell BKn.out 1).trans rfl, (blk_cell BKn.out 2).trans rfl, (blk_cell BKn.out 3).trans rfl, (blk_cell BKn.out 4).trans rfl, (blk_cell BKn.out 5).trans rfl⟩ (fun hHeld => ?_)
 clear hK K W
 generalize W2 = W at BKm BKn BKo BKe HB hHeld ⊢
 refine done_ (done_of HT_.out (by kernel_rfl)) ?_
 clear HT_ HW_ hHeld
 try go_wp2
 have x0_ := Aside0.mk (blk_drew BKm.out); have x1_ := Aside0.mk (blk_drew BKn.out); have x2_ := Aside0.mk (blk_drew BKo.out); have x3_ := Aside0.mk (blk_drew BKe.out); have x4_ := Aside0.mk (below_drew1 HB.out)
 clear BKm BKn BKo BKe HB; have BKm := x0_; have BKn := x1_; have BKo := x2_; have BKe := x3_; have HB := x4_; clear x0_ x1_ x2_ x3_ x4_
 refine start_ (n := 22) (S := fun w' => w'.cell? ⟨w.heap.size, 0, none⟩ = some (.int .i64 m0) ∧ w'.cell? ⟨w.heap.size, 1, none⟩ = some (.int .i64 m1) ∧ w'.cell? ⟨w.heap.size, 2, none⟩ = some (.int .i64 m2) ∧ w'.cell? ⟨w.heap.size, 3, none⟩ = some (.int .i64 m3) ∧ w'.cell? ⟨w.heap.size, 4, none⟩ = some (.int .i64 m4) ∧ w'.cell? ⟨w.heap.size, 5, none⟩ = some (.int .i64 m5) ∧ w'.cell? ⟨(w.heap.size + 1), 0, none⟩ = some (.int .i64 n0) ∧ w'.cell? ⟨(w.heap.size + 1), 1, none⟩ = some (.int .i64 n1) ∧ w'.cell? ⟨(w.heap.size + 1), 2, none⟩ = some (.int .i64 n2) ∧ w'.cell? ⟨(w.heap.size + 1), 3, none⟩ = some (.int .i64 n3) ∧ w'.cell? ⟨(w.heap.size + 1), 4, none⟩ = some (.int .i64 n4) ∧ w'.cell? ⟨(w.heap.size + 1), 5, none⟩ = some (.int .i64 n5)) (ds := []) (bt 0 22) (by kernel_rfl) rfl rfl ⟨(blk_cell BKm.out 0).trans rfl, (blk_cell BKm.out 1).trans rfl, (blk_cell BKm.out 2).trans rfl, (blk_cell BKm.out 3).trans rfl, (blk_cell BKm.out 4).trans rfl, (blk_cell BKm.out 5).trans rfl, (blk_cell BKn.out 0).trans rfl, (blk_cell BKn.out 1).trans rfl, (blk_cell BKn.out 2).trans rfl, (blk_cell BKn.out 3).trans rfl, (blk_cell BKn.out 4).trans rfl, (blk_cell BKn.out 5).trans rfl⟩ (fun hHeld => ?_); refine with_tabW then_tab4 then_bits4 (fun HT_ HW_ => ?_)
 generalize World.drew _ = W at BKm BKn BKo BKe HB hHeld ⊢
 refine pure_ (i := 0) (N := some 34) (v := ?_) (a' := ?_) (bt 1 21) rfl rfl (any_of HT_.out (by kernel_rfl)) (fun _ a _ h => leaves_same (then_put a 34 _ (by decide) (by decide)) _ _ _ h) (Or.inl ⟨by rfl, ?_⟩) ?_ ?_
 rotate_left; focus (intro w'; go_simp; with_reducible rfl)
 rotate_left; focus (simp only [apz, i64_w, i32_w]; rfl)
 refine pure_ (i := 2) (N := some 36) (v := ?_) (a' := ?_) (bm 22 5) rfl rfl (any_of HT_.out (by kernel_rfl)) (fun _ a _ h => leaves_same (then_put a 36 _ (by decide) (by decide)) _ _ _ h) (Or.inl ⟨by rfl, ?_⟩) ?_ ?_
 rotate_left; focus (intro w'; go_simp; with_reducible rfl)
 rotate_left; focus (simp only [apz, i64_w, i32_w]; rfl)
 refine pure_ (i := 4) (N := some 38) (v := ?_) (a' := ?_) (bm 22 21) rfl rfl (any_of HT_.out (by kernel_rfl)) (fun _ a _ h => leaves_same (then_put a 38 _ (by decide) (by decide)) _ _ _ h) (Or.inl ⟨by rfl, ?_⟩) ?_ ?_
 rotate_left; focus (intro w'; go_simp; with_reducible rfl)
 rotate_left; focus (simp only [apz, i64_w, i32_w]; rfl)
 refine pure_ (i := 6) (N := some 40) (v := ?_) (a' := ?_) (bm 22 85) rfl rfl (any_of HT_.out (by kernel_rfl)) (fun _ a _ h => leaves_same (then_put a 40 _ (by decide) (by decide)) _ _ _ h) (Or.inl ⟨by rfl, ?_⟩) ?_ ?_
 rotate_left; focus (intro w'; go_simp; with_reducible rfl)
 rotate_left; focus (simp only [apz, i64_w, i32_w]; rfl)
 refine pure_ (i := 9) (N := some 43) (v := ?_) (a' := ?_) (bm 22 597) rfl rfl (any_of HT_.out (by kernel_rfl)) (fun _ a _ h => leaves_same (then_put a 43 _ (by decide) (by decide)) _ _ _ h) (Or.inl ⟨by rfl, ?_⟩) ?_ ?_
 rotate_left; focus (intro w'; go_simp; with_reducible rfl)
 rotate_left; focus (simp only [apz, i64_w, i32_w]; rfl)
 refine pure_ (i := 11) (N := some 45) (v := ?_) (a' := ?_) (bm 22 2645) rfl rfl (any_of HT_.out (by kernel_rfl)) (fun _ a _ h => leaves_same (then_put a 45 _ (by decide) (by decide)) _ _ _ h) (Or.inl ⟨by rfl, ?_⟩) ?_ ?_
 rotate_left; focus (intro w'; go_simp; with_reducible rfl)
 rotate_left; focus (simp only [apz, i64_w, i32_w]; rfl)
 refine pure_ (i := 13) (N := some 47) (v := ?_) (a' := ?_) (bm 22 10837) rfl rfl (any_of HT_.out (by kernel_rfl)) (fun _ a _ h => leaves_same (then_put a 47 _ (by decide) (by decide)) _ _ _ h) (Or.inl ⟨by rfl, ?_⟩) ?_ ?_
 rotate_left; focus (intro w'; go_simp; with_reducible rfl)
 rotate_left; focus (simp only [apz, i64_w, i32_w]; rfl)
 refine pure_ (i := 15) (N := some 49) (v := ?_) (a' := ?_) (bm 22 43605) rfl rfl (any_of HT_.out (by kernel_rfl)) (fun _ a _ h => leaves_same (then_put a 49 _ (by decide) (by decide)) _ _ _ h) (Or.inl ⟨by rfl, ?_⟩) ?_ ?_
 rotate_left; focus (intro w'; go_simp; with_reducible rfl)
 rotate_left; focus (simp only [apz, i64_w, i32_w]; rfl)
 refine take_ (i := 1) (N := some 35) (v := ?_) (a' := ?_) (bm 22 43607) rfl rfl (take_ofW HT_.out HW_.out (by kernel_rfl)) (fun _ a _ h => leaves_same (then_put a 35 _ (by decide) (by decide)) _ _ _ h) (Or.inl ⟨by rfl, ?_⟩) hHeld ?_ ?_
 rotate_left; focus (rintro w' ⟨s0, s1, s2, s3, s4, s5, s6, s7, s8, s9, s10, s11⟩; go_simp; with_reducible rfl)
 rotate_left; focus (simp only [apz, i64_w, i32_w]; rfl)
 refine take_ (i := 3) (N := some 37) (v := ?_) (a' := ?_) (bm 22 43615) rfl rfl (take_ofW HT_.out HW_.out (by kernel_rfl)) (fun _ a _ h => leaves_same (then_put a 37 _ (by decide) (by decide)) _ _ _ h) (Or.inl ⟨by rfl, ?_⟩) hHeld ?_ ?_
 rotate_left; focus (rintro w' ⟨s0, s1, s2, s3, s4, s5, s6, s7, s8, s9, s10, s11⟩; go_simp; with_reducible rfl)
 rotate_left; focus (simp only [apz, i64_w, i32_w]; rfl)
 refine take_ (i := 5) (N := some 39) (v := ?_) (a' := ?_) (bm 22 43647) rfl rfl (take_ofW HT_.out HW_.out (by kernel_rfl)) (fun _ a _ h => leaves_same (then_put a 39 _ (by decide) (by decide)) _ _ _ h) (Or.inl ⟨by rfl, ?_⟩) hHeld ?_ ?_
 rotate_left; focus (rintro w' ⟨s0, s1, s2, s3, s4, s5, s6, s7, s8, s9, s10, s11⟩; go_simp; with_reducible rfl)
 rotate_left; focus (simp only [apz, i64_w, i32_w]; rfl)
 refine take_ (i := 7) (N := some 41) (v := ?_) (a' := ?_) (bm 22 43775) rfl rfl (take_ofW HT_.out HW_.out (by kernel_rfl)) (fun _ a _ h => leaves_same (then_put a 41 _ (by decide) (by decide)) _ _ _ h) (Or.inl ⟨by rfl, ?_⟩) hHeld ?_ ?_
 rotate_left; focus (rintro w' ⟨s0, s1, s2, s3, s4, s5, s6, s7, s8, s9, s10, s11⟩; go_simp; with_reducible rfl)
 rotate_left; focus (simp only [apz, i64_w, i32_w]; rfl)
 refine take_ (i := 10) (N := some 44) (v := ?_) (a' := ?_) (bm 22 44799) rfl rfl (take_ofW HT_.out HW_.out (by kernel_rfl)) (fun _ a _ h => leaves_same (then_put a 44 _ (by decide) (by decide)) _ _ _ h) (Or.inl ⟨by rfl, ?_⟩) hHeld ?_ ?_
 rotate_left; focus (rintro w' ⟨s0, s1, s2, s3, s4, s5, s6, s7, s8, s9, s10, s11⟩; go_simp; with_reducible rfl)
 rotate_left; focus (simp only [apz, i64_w, i32_w]; rfl)
 refine take_ (i := 12) (N := some 46) (v := ?_) (a' := ?_) (bm 22 48895) rfl rfl (take_ofW HT_.out HW_.out (by kernel_rfl)) (fun _ a _ h => leaves_same (then_put a 46 _ (by decide) (by decide)) _ _ _ h) (Or.inl ⟨by rfl, ?_⟩) hHeld ?_ ?_
 rotate_left; focus (rintro w' ⟨s0, s1, s2, s3, s4, s5, s6, s7, s8, s9, s10, s11⟩; go_simp; with_reducible rfl)
 rotate_left; focus (simp only [apz, i64_w, i32_w]; rfl)
 refine take_ (i := 14) (N := some 48) (v := ?_) (a' := ?_) (bm 22 65279) rfl rfl (take_ofW HT_.out HW_.out (by kernel_rfl)) (fun _ a _ h => leaves_same (then_put a 48 _ (by decide) (by decide)) _ _ _ h) (Or.inl ⟨by rfl, ?_⟩) hHeld ?_ ?_
 rotate_left; focus (rintro w' ⟨s0, s1, s2, s3, s4, s5, s6, s7, s8, s9, s10, s11⟩; go_simp; with_reducible rfl)
 rotate_left; focus (simp only [apz, i64_w, i32_w]; rfl)
 refine take_ (i := 16) (N := some 50) (v := ?_) (a' := ?_) (bm 22 130815) rfl rfl (take_ofW HT_.out HW_.out (by kernel_rfl)) (fun _ a _ h => leaves_same (then_put a 50 _ (by decide) (by decide)) _ _ _ h) (Or.inl ⟨by rfl, ?_⟩) hHeld ?_ ?_
 rotate_left; focus (rintro w' ⟨s0, s1, s2, s3, s4, s5, s6, s7, s8, s9, s10, s11⟩; go_simp; with_reducible rfl)
 rotate_left; focus (simp only [apz, i64_w, i32_w]; rfl)
 refine one_ (i := 8) (N := some 42) (bt 17 5) rfl rfl (one_of HT_.out (by kernel_rfl)) (by decide) (fun K hK => ?_)
 obtain ⟨q, hq, H⟩ := Option.bind_eq_some_iff.mp H
 rcases q with c | v2
 ·
  refine goesP_ Tryd.func27 (by kernel_rfl) rfl #[.int .i64 n0, .int .i64 m2, .int .i64 n2, .int .i64 m3, .int .i64 0] (by rfl) rfl rfl (by (try simp only [List.map_toArray, List.map_cons, List.map_nil]); first | done | rfl) ?_
  refine (affine_number.calls_r k _ _ _ _ _ _ _ (HG.out.below HB.out) hq).mono ?_
  rintro e w' ⟨rfl, hb⟩
  refine ⟨_, rfl, ?_⟩
  simp only [Option.some.injEq, Prod.mk.injEq] at H
  obtain ⟨rfl, rfl, rfl, rfl, rfl, rfl, rfl⟩ := H
  clear hK K hHeld HT_ HW_
  go_wp2
  exact then_leaf _ rfl rfl _ _ (number_err hq) _ _ _ _ _ _ (blk_below BKe.out hb) (blk_below BKo.out hb) (below_step HB.out hb)
 refine goes_ Tryd.func27 (by kernel_rfl) rfl #[.int .i64 n0, .int .i64 m2, .int .i64 n2, .int .i64 m3, .int .i64 0] (by rfl) rfl rfl (by (try simp only [List.map_toArray, List.map_cons, List.map_nil]); first | done | rfl) ?_
 refine (affine_number.calls_r k _ _ _ _ _ _ _ (HG.out.below HB.out) hq).mono ?_
 rintro e w2 ⟨rfl, hb⟩
 refine ⟨_, rfl, ?_⟩
 dsimp only at H
 have x0_ := Aside0.mk (blk_below BKm.out hb); have x1_ := Aside0.mk (blk_below BKn.out hb); have x2_ := Aside0.mk (blk_below BKo.out hb); have x3_ := Aside0.mk (blk_below BKe.out hb); have x4_ := Aside0.mk (below_step HB.out hb)
 clear BKm BKn BKo BKe HB; have BKm := x0_; have BKn := x1_; have BKo := x2_; have BKe := x3_; have HB := x4_; clear x0_ x1_ x2_ x3_ x4_
 clear hHeld hb hq
 refine hK.out _ _ ⟨(blk_cell BKm.out 0).trans rfl, (blk_cell BKm.out 1).trans rfl, (blk_cell BKm.out 2).trans rfl, (blk_cell BKm.out 3).trans rfl, (blk_cell BKm.out 4).trans rfl, (blk_cell BKm.out 5).trans rfl, (blk_cell BKn.out 0).trans rfl, (blk_cell BKn.out 1).trans rfl, (blk_cell BKn.out 2).trans rfl, (blk_cell BKn.out 3).trans rfl, (blk_cell BKn.out 4).trans rfl, (blk_cell BKn.out 5).trans rfl⟩ (fun hHeld => ?_)
 clear hK K W
 refine norm_ (a' := ?_) ?_ ?_
 rotate_left; focus (show Act.put _ (some 42) _ = _; simp only [apz, i64_w, i32_w]; rfl)
 generalize w2 = W at BKm BKn BKo BKe HB hHeld ⊢
 refine pure_ (i := 18) (N := some 52) (v := ?_) (a' := ?_) (bm 22 393215) rfl rfl (any_of HT_.out (by kernel_rfl)) (fun _ a _ h => leaves_same (then_put a 52 _ (by decide) (by decide)) _ _ _ h) (Or.inl ⟨by rfl, ?_⟩) ?_ ?_
 rotate_left; focus (intro w'; go_simp; with_reducible rfl)
 rotate_left; focus (simp only [apz, i64_w, i32_w]; rfl)
 refine one_ (i := 17) (N := some 51) (bt 19 3) rfl rfl (one_of HT_.out (by kernel_rfl)) (by decide) (fun K hK => ?_)
 obtain ⟨q, hq, H⟩ := Option.bind_eq_some_iff.mp H
 rcases q with c | v3
 ·
  refine goesP_ Tryd.func27 (by kernel_rfl) rfl #[.int .i64 n1, .int .i64 m2, .int .i64 n3, .int .i64 m3, .int .i64 0] (by rfl) rfl rfl (by (try simp only [List.map_toArray, List.map_cons, List.map_nil]); first | done | rfl) ?_
  refine (affine_number.calls_r k _ _ _ _ _ _ _ (HG.out.below HB.out) hq).mono ?_
  rintro e w' ⟨rfl, hb⟩
  refine ⟨_, rfl, ?_⟩
  simp only [Option.some.injEq, Prod.mk.injEq] at H
  obtain ⟨rfl, rfl, rfl, rfl, rfl, rfl, rfl⟩ := H
  clear hK K hHeld HT_ HW_
  go_wp2
  exact then_leaf _ rfl rfl _ _ (number_err hq) _ _ _ _ _ _ (blk_below BKe.out hb) (blk_below BKo.out hb) (below_step HB.out hb)
 refine goes_ Tryd.func27 (by kernel_rfl) rfl #[.int .i64 n1, .int .i64 m2, .int .i64 n3, .int .i64 m3, .int .i64 0] (by rfl) rfl rfl (by (try simp only [List.map_toArray, List.map_cons, List.map_nil]); first | done | rfl) ?_
 refine (affine_number.calls_r k _ _ _ _ _ _ _ (HG.out.below HB.out) hq).mono ?_
 rintro e w2 ⟨rfl, hb⟩
 refine ⟨_, rfl, ?_⟩
 dsimp only at H
 have x0_ := Aside0.mk (blk_below BKm.out hb); have x1_ := Aside0.mk (blk_below BKn.out hb); have x2_ := Aside0.mk (blk_below BKo.out hb); have x3_ := Aside0.mk (blk_below BKe.out hb); have x4_ := Aside0.mk (below_step HB.out hb)
 clear BKm BKn BKo BKe HB; have BKm := x0_; have BKn := x1_; have BKo := x2_; have BKe := x3_; have HB := x4_; clear x0_ x1_ x2_ x3_ x4_
 clear hHeld hb hq
 refine hK.out _ _ ⟨(blk_cell BKm.out 0).trans rfl, (blk_cell BKm.out 1).trans rfl, (blk_cell BKm.out 2).trans rfl, (blk_cell BKm.out 3).trans rfl, (blk_cell BKm.out 4).trans rfl, (blk_cell BKm.out 5).trans rfl, (blk_cell BKn.out 0).trans rfl, (blk_cell BKn.out 1).trans rfl, (blk_cell BKn.out 2).trans rfl, (blk_cell BKn.out 3).trans rfl, (blk_cell BKn.out 4).trans rfl, (blk_cell BKn.out 5).trans rfl⟩ (fun hHeld => ?_)
 clear hK K W
 refine norm_ (a' := ?_) ?_ ?_
 rotate_left; focus (show Act.put _ (some 51) _ = _; simp only [apz, i64_w, i32_w]; rfl)
 generalize w2 = W at BKm BKn BKo BKe HB hHeld ⊢
 refine one_ (i := 19) (N := none) (bt 20 2) rfl rfl (one_of HT_.out (by kernel_rfl)) (by decide) (fun K hK => ?_)
 have hs := (blk_cell BKo.out 2).trans rfl
 have hf := blk_frozen BKo.out 2
 refine skip_ (w1 := ?_) (by rfl) rfl ?_ ?_
 rotate_left; focus (go_simp; rfl)
 clear hs hf
 have x0_ := Aside0.mk (blk_far BKm.out (p := ⟨(w.heap.size + 1 + 1), 2, none⟩) (by show w.heap.size ≠ w.heap.size + 1 + 1; omega) (.int .i64 v2)); have x1_ := Aside0.mk (blk_far BKn.out (p := ⟨(w.heap.size + 1 + 1), 2, none⟩) (by show w.heap.size + 1 ≠ w.heap.size + 1 + 1; omega) (.int .i64 v2)); have x2_ := Aside0.mk (blk_put (cs' := #[.int .i64 v0, .int .i64 v1, .int .i64 v2, .int .i64 0, .int .i64 0, .int .i64 0]) BKo.out 2 (.int .i64 v2) rfl); have x3_ := Aside0.mk (blk_far BKe.out (p := ⟨(w.heap.size + 1 + 1), 2, none⟩) (by show w.heap.size + 1 + 1 + 1 ≠ w.heap.size + 1 + 1; omega) (.int .i64 v2)); have x4_ := Aside0.mk (HB.out.setCell (p := ⟨(w.heap.size + 1 + 1), 2, none⟩) (by show w.heap.size ≤ w.heap.size + 1 + 1; omega) (.int .i64 v2))
 clear BKm BKn BKo BKe HB; have BKm := x0_; have BKn := x1_; have BKo := x2_; have BKe := x3_; have HB := x4_; clear x0_ x1_ x2_ x3_ x4_
 clear hHeld
 generalize W.setCell ⟨(w.heap.size + 1 + 1), 2, none⟩ (.int .i64 v2) = W2 at BKm BKn BKo BKe HB ⊢
 refine hK.out _ _ ⟨(blk_cell BKm.out 0).trans rfl, (blk_cell BKm.out 1).trans rfl, (blk_cell BKm.out 2).trans rfl, (blk_cell BKm.out 3).trans rfl, (blk_cell BKm.out 4).trans rfl, (blk_cell BKm.out 5).trans rfl, (blk_cell BKn.out 0).trans rfl, (blk_cell BKn.out 1).trans rfl, (blk_cell BKn.out 2).trans rfl, (blk_cell BKn.out 3).trans rfl, (blk_cell BKn.out 4).trans rfl, (blk_cell BKn.out 5).trans rfl⟩ (fun hHeld => ?_)
 clear hK K W
 generalize W2 = W at BKm BKn BKo BKe HB hHeld ⊢
 refine pure_ (i := 20) (N := some 53) (v := ?_) (a' := ?_) (bt 21 1) rfl rfl (any_of HT_.out (by kernel_rfl)) (fun _ a _ h => leaves_same (then_put a 53 _ (by decide) (by decide)) _ _ _ h) (Or.inl ⟨by rfl, ?_⟩) ?_ ?_
 rotate_left; focus (intro w'; go_simp; with_reducible rfl)
 rotate_left; focus (simp only [apz, i64_w, i32_w]; rfl)
 refine one_ (i := 21) (N := none) (bt 22 0) rfl rfl (one_of HT_.out (by kernel_rfl)) (by decide) (fun K hK => ?_)
 have hs := (blk_cell BKo.out 3).trans rfl
 have hf := blk_frozen BKo.out 3
 refine skip_ (w1 := ?_) (by rfl) rfl ?_ ?_
 rotate_left; focus (go_simp; rfl)
 clear hs hf
 have x0_ := Aside0.mk (blk_far BKm.out (p := ⟨(w.heap.size + 1 + 1), 3, none⟩) (by show w.heap.size ≠ w.heap.size + 1 + 1; omega) (.int .i64 v3)); have x1_ := Aside0.mk (blk_far BKn.out (p := ⟨(w.heap.size + 1 + 1), 3, none⟩) (by show w.heap.size + 1 ≠ w.heap.size + 1 + 1; omega) (.int .i64 v3)); have x2_ := Aside0.mk (blk_put (cs' := #[.int .i64 v0, .int .i64 v1, .int .i64 v2, .int .i64 v3, .int .i64 0, .int .i64 0]) BKo.out 3 (.int .i64 v3) rfl); have x3_ := Aside0.mk (blk_far BKe.out (p := ⟨(w.heap.size + 1 + 1), 3, none⟩) (by show w.heap.size + 1 + 1 + 1 ≠ w.heap.size + 1 + 1; omega) (.int .i64 v3)); have x4_ := Aside0.mk (HB.out.setCell (p := ⟨(w.heap.size + 1 + 1), 3, none⟩) (by show w.heap.size ≤ w.heap.size + 1 + 1; omega) (.int .i64 v3))
 clear BKm BKn BKo BKe HB; have BKm := x0_; have BKn := x1_; have BKo := x2_; have BKe := x3_; have HB := x4_; clear x0_ x1_ x2_ x3_ x4_
 clear hHeld
 generalize W.setCell ⟨(w.heap.size + 1 + 1), 3, none⟩ (.int .i64 v3) = W2 at BKm BKn BKo BKe HB ⊢
 refine hK.out _ _ ⟨(blk_cell BKm.out 0).trans rfl, (blk_cell BKm.out 1).trans rfl, (blk_cell BKm.out 2).trans rfl, (blk_cell BKm.out 3).trans rfl, (blk_cell BKm.out 4).trans rfl, (blk_cell BKm.out 5).trans rfl, (blk_cell BKn.out 0).trans rfl, (blk_cell BKn.out 1).trans rfl, (blk_cell BKn.out 2).trans rfl, (blk_cell BKn.out 3).trans rfl, (blk_cell BKn.out 4).trans rfl, (blk_cell BKn.out 5).trans rfl⟩ (fun hHeld => ?_)
 clear hK K W
 generalize W2 = W at BKm BKn BKo BKe HB hHeld ⊢
 refine done_ (done_of HT_.out (by kernel_rfl)) ?_
 clear HT_ HW_ hHeld
 try go_wp2
 have x0_ := Aside0.mk (blk_drew BKm.out); have x1_ := Aside0.mk (blk_drew BKn.out); have x2_ := Aside0.mk (blk_drew BKo.out); have x3_ := Aside0.mk (blk_drew BKe.out); have x4_ := Aside0.mk (below_drew1 HB.out)
 clear BKm BKn BKo BKe HB; have BKm := x0_; have BKn := x1_; have BKo := x2_; have BKe := x3_; have HB := x4_; clear x0_ x1_ x2_ x3_ x4_
 refine start_ (n := 26) (S := fun w' => w'.cell? ⟨w.heap.size, 0, none⟩ = some (.int .i64 m0) ∧ w'.cell? ⟨w.heap.size, 1, none⟩ = some (.int .i64 m1) ∧ w'.cell? ⟨w.heap.size, 2, none⟩ = some (.int .i64 m2) ∧ w'.cell? ⟨w.heap.size, 3, none⟩ = some (.int .i64 m3) ∧ w'.cell? ⟨w.heap.size, 4, none⟩ = some (.int .i64 m4) ∧ w'.cell? ⟨w.heap.size, 5, none⟩ = some (.int .i64 m5) ∧ w'.cell? ⟨(w.heap.size + 1), 0, none⟩ = some (.int .i64 n0) ∧ w'.cell? ⟨(w.heap.size + 1), 1, none⟩ = some (.int .i64 n1) ∧ w'.cell? ⟨(w.heap.size + 1), 2, none⟩ = some (.int .i64 n2) ∧ w'.cell? ⟨(w.heap.size + 1), 3, none⟩ = some (.int .i64 n3) ∧ w'.cell? ⟨(w.heap.size + 1), 4, none⟩ = some (.int .i64 n4) ∧ w'.cell? ⟨(w.heap.size + 1), 5, none⟩ = some (.int .i64 n5)) (ds := []) (bt 0 26) (by kernel_rfl) rfl rfl ⟨(blk_cell BKm.out 0).trans rfl, (blk_cell BKm.out 1).trans rfl, (blk_cell BKm.out 2).trans rfl, (blk_cell BKm.out 3).trans rfl, (blk_cell BKm.out 4).trans rfl, (blk_cell BKm.out 5).trans rfl, (blk_cell BKn.out 0).trans rfl, (blk_cell BKn.out 1).trans rfl, (blk_cell BKn.out 2).trans rfl, (blk_cell BKn.out 3).trans rfl, (blk_cell BKn.out 4).trans rfl, (blk_cell BKn.out 5).trans rfl⟩ (fun hHeld => ?_); refine with_tabW then_tab5 then_bits5 (fun HT_ HW_ => ?_)
 generalize World.drew _ = W at BKm BKn BKo BKe HB hHeld ⊢
 refine pure_ (i := 0) (N := some 54) (v := ?_) (a' := ?_) (bt 1 25) rfl rfl (any_of HT_.out (by kernel_rfl)) (fun _ a _ h => leaves_same (then_put a 54 _ (by decide) (by decide)) _ _ _ h) (Or.inl ⟨by rfl, ?_⟩) ?_ ?_
 rotate_left; focus (intro w'; go_simp; with_reducible rfl)
 rotate_left; focus (simp only [apz, i64_w, i32_w]; rfl)
 refine pure_ (i := 2) (N := some 56) (v := ?_) (a' := ?_) (bm 26 5) rfl rfl (any_of HT_.out (by kernel_rfl)) (fun _ a _ h => leaves_same (then_put a 56 _ (by decide) (by decide)) _ _ _ h) (Or.inl ⟨by rfl, ?_⟩) ?_ ?_
 rotate_left; focus (intro w'; go_simp; with_reducible rfl)
 rotate_left; focus (simp only [apz, i64_w, i32_w]; rfl)
 refine pure_ (i := 4) (N := some 58) (v := ?_) (a' := ?_) (bm 26 21) rfl rfl (any_of HT_.out (by kernel_rfl)) (fun _ a _ h => leaves_same (then_put a 58 _ (by decide) (by decide)) _ _ _ h) (Or.inl ⟨by rfl, ?_⟩) ?_ ?_
 rotate_left; focus (intro w'; go_simp; with_reducible rfl)
 rotate_left; focus (simp only [apz, i64_w, i32_w]; rfl)
 refine pure_ (i := 6) (N := some 60) (v := ?_) (a' := ?_) (bm 26 85) rfl rfl (any_of HT_.out (by kernel_rfl)) (fun _ a _ h => leaves_same (then_put a 60 _ (by decide) (by decide)) _ _ _ h) (Or.inl ⟨by rfl, ?_⟩) ?_ ?_
 rotate_left; focus (intro w'; go_simp; with_reducible rfl)
 rotate_left; focus (simp only [apz, i64_w, i32_w]; rfl)
 refine pure_ (i := 8) (N := some 62) (v := ?_) (a' := ?_) (bm 26 341) rfl rfl (any_of HT_.out (by kernel_rfl)) (fun _ a _ h => leaves_same (then_put a 62 _ (by decide) (by decide)) _ _ _ h) (Or.inl ⟨by rfl, ?_⟩) ?_ ?_
 rotate_left; focus (intro w'; go_simp; with_reducible rfl)
 rotate_left; focus (simp only [apz, i64_w, i32_w]; rfl)
 refine pure_ (i := 11) (N := some 65) (v := ?_) (a' := ?_) (bm 26 2389) rfl rfl (any_of HT_.out (by kernel_rfl)) (fun _ a _ h => leaves_same (then_put a 65 _ (by decide) (by decide)) _ _ _ h) (Or.inl ⟨by rfl, ?_⟩) ?_ ?_
 rotate_left; focus (intro w'; go_simp; with_reducible rfl)
 rotate_left; focus (simp only [apz, i64_w, i32_w]; rfl)
 refine pure_ (i := 13) (N := some 67) (v := ?_) (a' := ?_) (bm 26 10581) rfl rfl (any_of HT_.out (by kernel_rfl)) (fun _ a _ h => leaves_same (then_put a 67 _ (by decide) (by decide)) _ _ _ h) (Or.inl ⟨by rfl, ?_⟩) ?_ ?_
 rotate_left; focus (intro w'; go_simp; with_reducible rfl)
 rotate_left; focus (simp only [apz, i64_w, i32_w]; rfl)
 refine pure_ (i := 15) (N := some 69) (v := ?_) (a' := ?_) (bm 26 43349) rfl rfl (any_of HT_.out (by kernel_rfl)) (fun _ a _ h => leaves_same (then_put a 69 _ (by decide) (by decide)) _ _ _ h) (Or.inl ⟨by rfl, ?_⟩) ?_ ?_
 rotate_left; focus (intro w'; go_simp; with_reducible rfl)
 rotate_left; focus (simp only [apz, i64_w, i32_w]; rfl)
 refine pure_ (i := 17) (N := some 71) (v := ?_) (a' := ?_) (bm 26 174421) rfl rfl (any_of HT_.out (by kernel_rfl)) (fun _ a _ h => leaves_same (then_put a 71 _ (by decide) (by decide)) _ _ _ h) (Or.inl ⟨by rfl, ?_⟩) ?_ ?_
 rotate_left; focus (intro w'; go_simp; with_reducible rfl)
 rotate_left; focus (simp only [apz, i64_w, i32_w]; rfl)
 refine pure_ (i := 19) (N := some 73) (v := ?_) (a' := ?_) (bm 26 698709) rfl rfl (any_of HT_.out (by kernel_rfl)) (fun _ a _ h => leaves_same (then_put a 73 _ (by decide) (by decide)) _ _ _ h) (Or.inl ⟨by rfl, ?_⟩) ?_ ?_
 rotate_left; focus (intro w'; go_simp; with_reducible rfl)
 rotate_left; focus (simp only [apz, i64_w, i32_w]; rfl)
 refine take_ (i := 1) (N := some 55) (v := ?_) (a' := ?_) (bm 26 698711) rfl rfl (take_ofW HT_.out HW_.out (by kernel_rfl)) (fun _ a _ h => leaves_same (then_put a 55 _ (by decide) (by decide)) _ _ _ h) (Or.inl ⟨by rfl, ?_⟩) hHeld ?_ ?_
 rotate_left; focus (rintro w' ⟨s0, s1, s2, s3, s4, s5, s6, s7, s8, s9, s10, s11⟩; go_simp; with_reducible rfl)
 rotate_left; focus (simp only [apz, i64_w, i32_w]; rfl)
 refine take_ (i := 3) (N := some 57) (v := ?_) (a' := ?_) (bm 26 698719) rfl rfl (take_ofW HT_.out HW_.out (by kernel_rfl)) (fun _ a _ h => leaves_same (then_put a 57 _ (by decide) (by decide)) _ _ _ h) (Or.inl ⟨by rfl, ?_⟩) hHeld ?_ ?_
 rotate_left; focus (rintro w' ⟨s0, s1, s2, s3, s4, s5, s6, s7, s8, s9, s10, s11⟩; go_simp; with_reducible rfl)
 rotate_left; focus (simp only [apz, i64_w, i32_w]; rfl)
 refine take_ (i := 5) (N := some 59) (v := ?_) (a' := ?_) (bm 26 698751) rfl rfl (take_ofW HT_.out HW_.out (by kernel_rfl)) (fun _ a _ h => leaves_same (then_put a 59 _ (by decide) (by decide)) _ _ _ h) (Or.inl ⟨by rfl, ?_⟩) hHeld ?_ ?_
 rotate_left; focus (rintro w' ⟨s0, s1, s2, s3, s4, s5, s6, s7, s8, s9, s10, s11⟩; go_simp; with_reducible rfl)
 rotate_left; focus (simp only [apz, i64_w, i32_w]; rfl)
 refine take_ (i := 7) (N := some 61) (v := ?_) (a' := ?_) (bm 26 698879) rfl rfl (take_ofW HT_.out HW_.out (by kernel_rfl)) (fun _ a _ h => leaves_same (then_put a 61 _ (by decide) (by decide)) _ _ _ h) (Or.inl ⟨by rfl, ?_⟩) hHeld ?_ ?_
 rotate_left; focus (rintro w' ⟨s0, s1, s2, s3, s4, s5, s6, s7, s8, s9, s10, s11⟩; go_simp; with_reducible rfl)
 rotate_left; focus (simp only [apz, i64_w, i32_w]; rfl)
 refine take_ (i := 9) (N := some 63) (v := ?_) (a' := ?_) (bm 26 699391) rfl rfl (take_ofW HT_.out HW_.out (by kernel_rfl)) (fun _ a _ h => leaves_same (then_put a 63 _ (by decide) (by decide)) _ _ _ h) (Or.inl ⟨by rfl, ?_⟩) hHeld ?_ ?_
 rotate_left; focus (rintro w' ⟨s0, s1, s2, s3, s4, s5, s6, s7, s8, s9, s10, s11⟩; go_simp; with_reducible rfl)
 rotate_left; focus (simp only [apz, i64_w, i32_w]; rfl)
 refine take_ (i := 12) (N := some 66) (v := ?_) (a' := ?_) (bm 26 703487) rfl rfl (take_ofW HT_.out HW_.out (by kernel_rfl)) (fun _ a _ h => leaves_same (then_put a 66 _ (by decide) (by decide)) _ _ _ h) (Or.inl ⟨by rfl, ?_⟩) hHeld ?_ ?_
 rotate_left; focus (rintro w' ⟨s0, s1, s2, s3, s4, s5, s6, s7, s8, s9, s10, s11⟩; go_simp; with_reducible rfl)
 rotate_left; focus (simp only [apz, i64_w, i32_w]; rfl)
 refine take_ (i := 14) (N := some 68) (v := ?_) (a' := ?_) (bm 26 719871) rfl rfl (take_ofW HT_.out HW_.out (by kernel_rfl)) (fun _ a _ h => leaves_same (then_put a 68 _ (by decide) (by decide)) _ _ _ h) (Or.inl ⟨by rfl, ?_⟩) hHeld ?_ ?_
 rotate_left; focus (rintro w' ⟨s0, s1, s2, s3, s4, s5, s6, s7, s8, s9, s10, s11⟩; go_simp; with_reducible rfl)
 rotate_left; focus (simp only [apz, i64_w, i32_w]; rfl)
 refine take_ (i := 16) (N := some 70) (v := ?_) (a' := ?_) (bm 26 785407) rfl rfl (take_ofW HT_.out HW_.out (by kernel_rfl)) (fun _ a _ h => leaves_same (then_put a 70 _ (by decide) (by decide)) _ _ _ h) (Or.inl ⟨by rfl, ?_⟩) hHeld ?_ ?_
 rotate_left; focus (rintro w' ⟨s0, s1, s2, s3, s4, s5, s6, s7, s8, s9, s10, s11⟩; go_simp; with_reducible rfl)
 rotate_left; focus (simp only [apz, i64_w, i32_w]; rfl)
 refine take_ (i := 18) (N := some 72) (v := ?_) (a' := ?_) (bm 26 1047551) rfl rfl (take_ofW HT_.out HW_.out (by kernel_rfl)) (fun _ a _ h => leaves_same (then_put a 72 _ (by decide) (by decide)) _ _ _ h) (Or.inl ⟨by rfl, ?_⟩) hHeld ?_ ?_
 rotate_left; focus (rintro w' ⟨s0, s1, s2, s3, s4, s5, s6, s7, s8, s9, s10, s11⟩; go_simp; with_reducible rfl)
 rotate_left; focus (simp only [apz, i64_w, i32_w]; rfl)
 refine take_ (i := 20) (N := some 74) (v := ?_) (a' := ?_) (bm 26 2096127) rfl rfl (take_ofW HT_.out HW_.out (by kernel_rfl)) (fun _ a _ h => leaves_same (then_put a 74 _ (by decide) (by decide)) _ _ _ h) (Or.inl ⟨by rfl, ?_⟩) hHeld ?_ ?_
 rotate_left; focus (rintro w' ⟨s0, s1, s2, s3, s4, s5, s6, s7, s8, s9, s10, s11⟩; go_simp; with_reducible rfl)
 rotate_left; focus (simp only [apz, i64_w, i32_w]; rfl)
 refine one_ (i := 10) (N := some 64) (bt 21 5) rfl rfl (one_of HT_.out (by kernel_rfl)) (by decide) (fun K hK => ?_)
 obtain ⟨q, hq, H⟩ := Option.bind_eq_some_iff.mp H
 rcases q with c | v4
 ·
  refine goesP_ Tryd.func27 (by kernel_rfl) rfl #[.int .i64 n0, .int .i64 m4, .int .i64 n2, .int .i64 m5, .int .i64 n4] (by rfl) rfl rfl (by (try simp only [List.map_toArray, List.map_cons, List.map_nil]); first | done | rfl) ?_
  refine (affine_number.calls_r k _ _ _ _ _ _ _ (HG.out.below HB.out) hq).mono ?_
  rintro e w' ⟨rfl, hb⟩
  refine ⟨_, rfl, ?_⟩
  simp only [Option.some.injEq, Prod.mk.injEq] at H
  obtain ⟨rfl, rfl, rfl, rfl, rfl, rfl, rfl⟩ := H
  clear hK K hHeld HT_ HW_
  go_wp2
  exact then_leaf _ rfl rfl _ _ (number_err hq) _ _ _ _ _ _ (blk_below BKe.out hb) (blk_below BKo.out hb) (below_step HB.out hb)
 refine goes_ Tryd.func27 (by kernel_rfl) rfl #[.int .i64 n0, .int .i64 m4, .int .i64 n2, .int .i64 m5, .int .i64 n4] (by rfl) rfl rfl (by (try simp only [List.map_toArray, List.map_cons, List.map_nil]); first | done | rfl) ?_
 refine (affine_number.calls_r k _ _ _ _ _ _ _ (HG.out.below HB.out) hq).mono ?_
 rintro e w2 ⟨rfl, hb⟩
 refine ⟨_, rfl, ?_⟩
 dsimp only at H
 have x0_ := Aside0.mk (blk_below BKm.out hb); have x1_ := Aside0.mk (blk_below BKn.out hb); have x2_ := Aside0.mk (blk_below BKo.out hb); have x3_ := Aside0.mk (blk_below BKe.out hb); have x4_ := Aside0.mk (below_step HB.out hb)
 clear BKm BKn BKo BKe HB; have BKm := x0_; have BKn := x1_; have BKo := x2_; have BKe := x3_; have HB := x4_; clear x0_ x1_ x2_ x3_ x4_
 clear hHeld hb hq
 refine hK.out _ _ ⟨(blk_cell BKm.out 0).trans rfl, (blk_cell BKm.out 1).trans rfl, (blk_cell BKm.out 2).trans rfl, (blk_cell BKm.out 3).trans rfl, (blk_cell BKm.out 4).trans rfl, (blk_cell BKm.out 5).trans rfl, (blk_cell BKn.out 0).trans rfl, (blk_cell BKn.out 1).trans rfl, (blk_cell BKn.out 2).trans rfl, (blk_cell BKn.out 3).trans rfl, (blk_cell BKn.out 4).trans rfl, (blk_cell BKn.out 5).trans rfl⟩ (fun hHeld => ?_)
 clear hK K W
 refine norm_ (a' := ?_) ?_ ?_
 rotate_left; focus (show Act.put _ (some 64) _ = _; simp only [apz, i64_w, i32_w]; rfl)
 generalize w2 = W at BKm BKn BKo BKe HB hHeld ⊢
 refine pure_ (i := 22) (N := some 76) (v := ?_) (a' := ?_) (bm 26 6291455) rfl rfl (any_of HT_.out (by kernel_rfl)) (fun _ a _ h => leaves_same (then_put a 76 _ (by decide) (by decide)) _ _ _ h) (Or.inl ⟨by rfl, ?_⟩) ?_ ?_
 rotate_left; focus (intro w'; go_simp; with_reducible rfl)
 rotate_left; focus (simp only [apz, i64_w, i32_w]; rfl)
 refine one_ (i := 21) (N := some 75) (bt 23 3) rfl rfl (one_of HT_.out (by kernel_rfl)) (by decide) (fun K hK => ?_)
 obtain ⟨q, hq, H⟩ := Option.bind_eq_some_iff.mp H
 rcases q with c | v5
 ·
  refine goesP_ Tryd.func27 (by kernel_rfl) rfl #[.int .i64 n1, .int .i64 m4, .int .i64 n3, .int .i64 m5, .int .i64 n5] (by rfl) rfl rfl (by (try simp only [List.map_toArray, List.map_cons, List.map_nil]); first | done | rfl) ?_
  refine (affine_number.calls_r k _ _ _ _ _ _ _ (HG.out.below HB.out) hq).mono ?_
  rintro e w' ⟨rfl, hb⟩
  refine ⟨_, rfl, ?_⟩
  simp only [Option.some.injEq, Prod.mk.injEq] at H
  obtain ⟨rfl, rfl, rfl, rfl, rfl, rfl, rfl⟩ := H
  clear hK K hHeld HT_ HW_
  go_wp2
  exact then_leaf _ rfl rfl _ _ (number_err hq) _ _ _ _ _ _ (blk_below BKe.out hb) (blk_below BKo.out hb) (below_step HB.out hb)
 refine goes_ Tryd.func27 (by kernel_rfl) rfl #[.int .i64 n1, .int .i64 m4, .int .i64 n3, .int .i64 m5, .int .i64 n5] (by rfl) rfl rfl (by (try simp only [List.map_toArray, List.map_cons, List.map_nil]); first | done | rfl) ?_
 refine (affine_number.calls_r k _ _ _ _ _ _ _ (HG.out.below HB.out) hq).mono ?_
 rintro e w2 ⟨rfl, hb⟩
 refine ⟨_, rfl, ?_⟩
 dsimp only at H
 have x0_ := Aside0.mk (blk_below BKm.out hb); have x1_ := Aside0.mk (blk_below BKn.out hb); have x2_ := Aside0.mk (blk_below BKo.out hb); have x3_ := Aside0.mk (blk_below BKe.out hb); have x4_ := Aside0.mk (below_step HB.out hb)
 clear BKm BKn BKo BKe HB; have BKm := x0_; have BKn := x1_; have BKo := x2_; have BKe := x3_; have HB := x4_; clear x0_ x1_ x2_ x3_ x4_
 clear hHeld hb hq
 refine hK.out _ _ ⟨(blk_cell BKm.out 0).trans rfl, (blk_cell BKm.out 1).trans rfl, (blk_cell BKm.out 2).trans rfl, (blk_cell BKm.out 3).trans rfl, (blk_cell BKm.out 4).trans rfl, (blk_cell BKm.out 5).trans rfl, (blk_cell BKn.out 0).trans rfl, (blk_cell BKn.out 1).trans rfl, (blk_cell BKn.out 2).trans rfl, (blk_cell BKn.out 3).trans rfl, (blk_cell BKn.out 4).trans rfl, (blk_cell BKn.out 5).trans rfl⟩ (fun hHeld => ?_)
 clear hK K W
 refine norm_ (a' := ?_) ?_ ?_
 rotate_left; focus (show Act.put _ (some 75) _ = _; simp only [apz, i64_w, i32_w]; rfl)
 generalize w2 = W at BKm BKn BKo BKe HB hHeld ⊢
 refine one_ (i := 23) (N := none) (bt 24 2) rfl rfl (one_of HT_.out (by kernel_rfl)) (by decide) (fun K hK => ?_)
 have hs := (blk_cell BKo.out 4).trans rfl
 have hf := blk_frozen BKo.out 4
 refine skip_ (w1 := ?_) (by rfl) rfl ?_ ?_
 rotate_left; focus (go_simp; rfl)
 clear hs hf
 have x0_ := Aside0.mk (blk_far BKm.out (p := ⟨(w.heap.size + 1 + 1), 4, none⟩) (by show w.heap.size ≠ w.heap.size + 1 + 1; omega) (.int .i64 v4)); have x1_ := Aside0.mk (blk_far BKn.out (p := ⟨(w.heap.size + 1 + 1), 4, none⟩) (by show w.heap.size + 1 ≠ w.heap.size + 1 + 1; omega) (.int .i64 v4)); have x2_ := Aside0.mk (blk_put (cs' := #[.int .i64 v0, .int .i64 v1, .int .i64 v2, .int .i64 v3, .int .i64 v4, .int .i64 0]) BKo.out 4 (.int .i64 v4) rfl); have x3_ := Aside0.mk (blk_far BKe.out (p := ⟨(w.heap.size + 1 + 1), 4, none⟩) (by show w.heap.size + 1 + 1 + 1 ≠ w.heap.size + 1 + 1; omega) (.int .i64 v4)); have x4_ := Aside0.mk (HB.out.setCell (p := ⟨(w.heap.size + 1 + 1), 4, none⟩) (by show w.heap.size ≤ w.heap.size + 1 + 1; omega) (.int .i64 v4))
 clear BKm BKn BKo BKe HB; have BKm := x0_; have BKn := x1_; have BKo := x2_; have BKe := x3_; have HB := x4_; clear x0_ x1_ x2_ x3_ x4_
 clear hHeld
 generalize W.setCell ⟨(w.heap.size + 1 + 1), 4, none⟩ (.int .i64 v4) = W2 at BKm BKn BKo BKe HB ⊢
 refine hK.out _ _ ⟨(blk_cell BKm.out 0).trans rfl, (blk_cell BKm.out 1).trans rfl, (blk_cell BKm.out 2).trans rfl, (blk_cell BKm.out 3).trans rfl, (blk_cell BKm.out 4).trans rfl, (blk_cell BKm.out 5).trans rfl, (blk_cell BKn.out 0).trans rfl, (blk_cell BKn.out 1).trans rfl, (blk_cell BKn.out 2).trans rfl, (blk_cell BKn.out 3).trans rfl, (blk_cell BKn.out 4).trans rfl, (blk_cell BKn.out 5).trans rfl⟩ (fun hHeld => ?_)
 clear hK K W
 generalize W2 = W at BKm BKn BKo BKe HB hHeld ⊢
 refine pure_ (i := 24) (N := some 77) (v := ?_) (a' := ?_) (bt 25 1) rfl rfl (any_of HT_.out (by kernel_rfl)) (fun _ a _ h => leaves_same (then_put a 77 _ (by decide) (by decide)) _ _ _ h) (Or.inl ⟨by rfl, ?_⟩) ?_ ?_
 rotate_left; focus (intro w'; go_simp; with_reducible rfl)
 rotate_left; focus (simp only [apz, i64_w, i32_w]; rfl)
 refine one_ (i := 25) (N := none) (bt 26 0) rfl rfl (one_of HT_.out (by kernel_rfl)) (by decide) (fun K hK => ?_)
 have hs := (blk_cell BKo.out 5).trans rfl
 have hf := blk_frozen BKo.out 5
 refine skip_ (w1 := ?_) (by rfl) rfl ?_ ?_
 rotate_left; focus (go_simp; rfl)
 clear hs hf
 have x0_ := Aside0.mk (blk_far BKm.out (p := ⟨(w.heap.size + 1 + 1), 5, none⟩) (by show w.heap.size ≠ w.heap.size + 1 + 1; omega) (.int .i64 v5)); have x1_ := Aside0.mk (blk_far BKn.out (p := ⟨(w.heap.size + 1 + 1), 5, none⟩) (by show w.heap.size + 1 ≠ w.heap.size + 1 + 1; omega) (.int .i64 v5)); have x2_ := Aside0.mk (blk_put (cs' := #[.int .i64 v0, .int .i64 v1, .int .i64 v2, .int .i64 v3, .int .i64 v4, .int .i64 v5]) BKo.out 5 (.int .i64 v5) rfl); have x3_ := Aside0.mk (blk_far BKe.out (p := ⟨(w.heap.size + 1 + 1), 5, none⟩) (by show w.heap.size + 1 + 1 + 1 ≠ w.heap.size + 1 + 1; omega) (.int .i64 v5)); have x4_ := Aside0.mk (HB.out.setCell (p := ⟨(w.heap.size + 1 + 1), 5, none⟩) (by show w.heap.size ≤ w.heap.size + 1 + 1; omega) (.int .i64 v5))
 clear BKm BKn BKo BKe HB; have BKm := x0_; have BKn := x1_; have BKo := x2_; have BKe := x3_; have HB := x4_; clear x0_ x1_ x2_ x3_ x4_
 clear hHeld
 generalize W.setCell ⟨(w.heap.size + 1 + 1), 5, none⟩ (.int .i64 v5) = W2 at BKm BKn BKo BKe HB ⊢
 refine hK.out _ _ ⟨(blk_cell BKm.out 0).trans rfl, (blk_cell BKm.out 1).trans rfl, (blk_cell BKm.out 2).trans rfl, (blk_cell BKm.out 3).trans rfl, (blk_cell BKm.out 4).trans rfl, (blk_cell BKm.out 5).trans rfl, (blk_cell BKn.out 0).trans rfl, (blk_cell BKn.out 1).trans rfl, (blk_cell BKn.out 2).trans rfl, (blk_cell BKn.out 3).trans rfl, (blk_cell BKn.out 4).trans rfl, (blk_cell BKn.out 5).trans rfl⟩ (fun hHeld => ?_)
 clear hK K W
 generalize W2 = W at BKm BKn BKo BKe HB hHeld ⊢
 refine done_ (done_of HT_.out (by kernel_rfl)) ?_
 clear HT_ HW_ hHeld
 simp only [Option.some.injEq, Prod.mk.injEq] at H
 obtain ⟨rfl, rfl, rfl, rfl, rfl, rfl, rfl⟩ := H
 have k0 := (blk_cell BKo.out 0).trans rfl
 have z0 := blk_frozen BKo.out 0
 have k1 := (blk_cell BKo.out 1).trans rfl
 have z1 := blk_frozen BKo.out 1
 have k2 := (blk_cell BKo.out 2).trans rfl
 have z2 := blk_frozen BKo.out 2
 have k3 := (blk_cell BKo.out 3).trans rfl
 have z3 := blk_frozen BKo.out 3
 have k4 := (blk_cell BKo.out 4).trans rfl
 have z4 := blk_frozen BKo.out 4
 have k5 := (blk_cell BKo.out 5).trans rfl
 have z5 := blk_frozen BKo.out 5
 have ke := (blk_cell BKe.out 0).trans rfl
 have ze := blk_frozen BKe.out 0
 have hB := HB.out
 clear BKm BKn BKo BKe HB
 go_wp2
 have hB3 := (((((((hB.setCell (p := ⟨w.heap.size + 1 + 1, 0, none⟩) (by show w.heap.size ≤ w.heap.size + 1 + 1; omega) (.int .i64 v0)).setCell (p := ⟨w.heap.size + 1 + 1, 1, none⟩) (by show w.heap.size ≤ w.heap.size + 1 + 1; omega) (.int .i64 v1)).setCell (p := ⟨w.heap.size + 1 + 1, 2, none⟩) (by show w.heap.size ≤ w.heap.size + 1 + 1; omega) (.int .i64 v2)).setCell (p := ⟨w.heap.size + 1 + 1, 3, none⟩) (by show w.heap.size ≤ w.heap.size + 1 + 1; omega) (.int .i64 v3)).setCell (p := ⟨w.heap.size + 1 + 1, 4, none⟩) (by show w.heap.size ≤ w.heap.size + 1 + 1; omega) (.int .i64 v4)).setCell (p := ⟨w.heap.size + 1 + 1, 5, none⟩) (by show w.heap.size ≤ w.heap.size + 1 + 1; omega) (.int .i64 v5)).setCell (p := ⟨w.heap.size + 1 + 1 + 1, 0, none⟩) (by show w.heap.size ≤ w.heap.size + 1 + 1 + 1; omega) (.int .i64 0))
 refine leaves_cons (f := 26) (args := #[.pointer (some ⟨w.heap.size + 1 + 1 + 1, 0, none⟩), .pointer (some ⟨w.heap.size + 1 + 1, 0, none⟩)]) (by simp) (by simp [go_sem]) ?_
 refine (then1_idle _ _ _ ?_).mono ?_
 ·
  simp [go_sem, ke]
 rintro e u' w'' ⟨rfl, rfl, rfl⟩
 simp [Leaves, settle, results, Tryd.results17, go_sem, k0, k1, k2, k3, k4, k5, ke]
 exact hB3
end Go.Proofs.YtbnjgaeeojcjbaaDoor.PR
namespace Go.Proofs.YtbnjgaeeojcjbaaDoor.PR
open Go.RowKit Go.Proofs.YtbnjgaeeojcjbaaDoorW.PrintWords Go.Proofs.YtbnjgaeeojcjbaaDoorW.PrintLast Go.Proofs.YtbnjgaeeojcjbaaDoorW.PrintMore
attribute [local go_sem] max2_int min2_int max_two min_two max_three min_three max_four min_four
set_option linter.unusedVariables false
set_option linter.unusedSimpArgs false
end Go.Proofs.YtbnjgaeeojcjbaaDoor.PR
namespace Go.Proofs.YtbnjgaeeojcjbaaDoor.PR
open Go.RowKit Go.Proofs.YtbnjgaeeojcjbaaDoorW.PrintWords Go.Proofs.YtbnjgaeeojcjbaaDoorW.PrintLast Go.Proofs.YtbnjgaeeojcjbaaDoorW.PrintMore
attribute [local go_sem] max2_int min2_int max_two min_two max_three min_three max_four min_four
set_option linter.unusedVariables false
set_option linter.unusedSimpArgs false
theorem eqA23 (d : Nat) (w : World) (x0 y0 : Int) (x1 y1 : Int) (x2 y2 : Int) (x3 y3 : Int) (x4 y4 : Int) (x5 y5 : Int) :
    (Op.equalIn (d + 2) 23 (.agg #[.int .i64 x0, .int .i64 x1, .int .i64 x2, .int .i64 x3, .int .i64 x4, .int .i64 x5]) (.agg #[.int .i64 y0, .int .i64 y1, .int .i64 y2, .int .i64 y3, .int .i64 y4, .int .i64 y5])).run Tryd.prog w = .ok (x0 == y0 && (x1 == y1 && (x2 == y2 && (x3 == y3 && (x4 == y4 && (x5 == y5)))))) w := by
  refine eqA_of Tryd.underlying23 (by kernel_rfl) ?_
  refine eqf_cons (by rfl) (by go_simp; rfl) (by go_simp; rfl) (by go_simp) ?_
  refine eqf_cons (by rfl) (by go_simp; rfl) (by go_simp; rfl) (by go_simp) ?_
  refine eqf_cons (by rfl) (by go_simp; rfl) (by go_simp; rfl) (by go_simp) ?_
  refine eqf_cons (by rfl) (by go_simp; rfl) (by go_simp; rfl) (by go_simp) ?_
  refine eqf_cons (by rfl) (by go_simp; rfl) (by go_simp; rfl) (by go_simp) ?_
  exact eqf_last (by rfl) (by go_simp; rfl) (by go_simp; rfl) (by go_simp)
end Go.Proofs.YtbnjgaeeojcjbaaDoor.PR
namespace Go.Proofs.YtbnjgaeeojcjbaaDoor.PR
open Go.RowKit Go.Proofs.YtbnjgaeeojcjbaaDoorW.PrintWords Go.Proofs.YtbnjgaeeojcjbaaDoorW.PrintLast Go.Proofs.YtbnjgaeeojcjbaaDoorW.PrintMore
attribute [local go_sem] max2_int min2_int max_two min_two max_three min_three max_four min_four
set_option linter.unusedVariables false
set_option linter.unusedSimpArgs false
attribute [local go_sem high] eqA23
end Go.Proofs.YtbnjgaeeojcjbaaDoor.PR
namespace Go.Proofs.YtbnjgaeeojcjbaaDoor.PR
open Go.RowKit Go.Proofs.YtbnjgaeeojcjbaaDoorW.PrintWords
def thenM (m0 m1 m2 m3 m4 m5 n0 n1 n2 n3 n4 n5 : Int) : Int × Int × Int × Int × Int × Int × Int :=
  if rightM m0 m1 m2 m3 m4 m5 ∧ rightM n0 n1 n2 n3 n4 n5 then
    if rightM (lin n0 m0 n2 m1 0) (lin n1 m0 n3 m1 0) (lin n0 m2 n2 m3 0) (lin n1 m2 n3 m3 0) (lin n0 m4 n2 m5 n4) (lin n1 m4 n3 m5 n5) then (lin n0 m0 n2 m1 0, lin n1 m0 n3 m1 0, lin n0 m2 n2 m3 0, lin n1 m2 n3 m3 0, lin n0 m4 n2 m5 n4, lin n1 m4 n3 m5 n5, 0)
    else (0, 0, 0, 0, 0, 0, 2)
  else (0, 0, 0, 0, 0, 0, 1)
theorem inZ_0 : inZ 0 := by decide
theorem then_eq (k : Nat) (m0 m1 m2 m3 m4 m5 n0 n1 n2 n3 n4 n5 : Int) : affine_Then.f (k + 7) m0 m1 m2 m3 m4 m5 n0 n1 n2 n3 n4 n5 = some (thenM m0 m1 m2 m3 m4 m5 n0 n1 n2 n3 n4 n5) := by
  unfold affine_Then.f thenM
  rw [right_eq]
  simp only [Option.bind_some]
  by_cases hm : rightM m0 m1 m2 m3 m4 m5
  · rw [if_pos (decide_eq_true hm), right_eq]
    simp only [Option.bind_some]
    by_cases hn : rightM n0 n1 n2 n3 n4 n5
    · rw [if_pos (decide_eq_true hn), if_pos ⟨hm, hn⟩]
      obtain ⟨a0, a1, a2, a3, a4, a5⟩ := hm
      obtain ⟨b0, b1, b2, b3, b4, b5⟩ := hn
      rw [number_eq (k + 4) b0 a0 b2 a1 inZ_0]
      simp only [Option.bind_some]
      by_cases h0 : inZ (lin n0 m0 n2 m1 0)
      · rw [if_pos h0]
        simp only
        rw [number_eq (k + 4) b1 a0 b3 a1 inZ_0]
        simp only [Option.bind_some]
        by_cases h1 : inZ (lin n1 m0 n3 m1 0)
        · rw [if_pos h1]
          simp only
          rw [number_eq (k + 4) b0 a2 b2 a3 inZ_0]
          simp only [Option.bind_some]
          by_cases h2 : inZ (lin n0 m2 n2 m3 0)
          · rw [if_pos h2]
            simp only
            rw [number_eq (k + 4) b1 a2 b3 a3 inZ_0]
            simp only [Option.bind_some]
            by_cases h3 : inZ (lin n1 m2 n3 m3 0)
            · rw [if_pos h3]
              simp only
              rw [number_eq (k + 4) b0 a4 b2 a5 b4]
              simp only [Option.bind_some]
              by_cases h4 : inZ (lin n0 m4 n2 m5 n4)
              · rw [if_pos h4]
                simp only
                rw [number_eq (k + 4) b1 a4 b3 a5 b5]
                simp only [Option.bind_some]
                by_cases h5 : inZ (lin n1 m4 n3 m5 n5)
                · rw [if_pos h5, if_pos ⟨h0, h1, h2, h3, h4, h5⟩]
                · rw [if_neg h5, if_neg (fun h => h5 h.2.2.2.2.2)]
              · rw [if_neg h4, if_neg (fun h => h4 h.2.2.2.2.1)]
            · rw [if_neg h3, if_neg (fun h => h3 h.2.2.2.1)]
          · rw [if_neg h2, if_neg (fun h => h2 h.2.2.1)]
        · rw [if_neg h1, if_neg (fun h => h1 h.2.1)]
      · rw [if_neg h0, if_neg (fun h => h0 h.1)]
    · rw [if_neg (by simpa using hn), if_neg (fun h => hn h.2)]
  · rw [if_neg (by simpa using hm), if_neg (fun h => hm h.1)]
end Go.Proofs.YtbnjgaeeojcjbaaDoor.PR
namespace Go.Proofs.YtbnjgaeeojcjbaaDoor.PR
open Go.RowKit Go.Proofs.YtbnjgaeeojcjbaaDoorW.PrintWords Go.Proofs.YtbnjgaeeojcjbaaDoorW.PrintLast Go.Proofs.YtbnjgaeeojcjbaaDoorW.PrintMore
attribute [local go_sem] max2_int min2_int max_two min_two max_three min_three max_four min_four
set_option linter.unusedVariables false
set_option linter.unusedSimpArgs false
attribute [local go_sem high] eqA23 eqA25
def pointillistlaw08_AffineTurns.j0 : Nat → Bool → Int → Int → Option (Bool)
 | 0, _, _, _ => none
 | k + 1, x23, x527000, x527001 => if x23 = true then (some true) else ((affine_Apply.f k 0 65536 (-65536) 0 0 0 x527000 x527001).bind fun bt531 => ((affine_Then.f k 0 65536 (-65536) 0 0 0 0 65536 (-65536) 0 0 0).bind fun bt535 => ((affine_Then.f k bt535.1 bt535.2.1 bt535.2.2.1 bt535.2.2.2.1 bt535.2.2.2.2.1 bt535.2.2.2.2.2.1 bt535.1 bt535.2.1 bt535.2.2.1 bt535.2.2.2.1 bt535.2.2.2.2.1 bt535.2.2.2.2.2.1).bind fun bt543 => ((affine_Apply.f k bt535.1 bt535.2.1 bt535.2.2.1 bt535.2.2.2.1 bt535.2.2.2.2.1 bt535.2.2.2.2.2.1 x527000 x527001).bind fun bt551 => (if bt531.2.2 = 0 then (if bt535.2.2.2.2.2.2 = 0 then (if bt543.2.2.2.2.2.2 = 0 then (if bt551.2.2 = 0 then (if (bt531.1 == (wrap64 (-x527001)) && (bt531.2.1 == x527000)) = true then (if (bt551.1 == (wrap64 (-x527000)) && (bt551.2.1 == (wrap64 (-x527001)))) = true then ((affine_Same.f).bind fun bt555 => (some (bt543.1 == bt555.1 && (bt543.2.1 == bt555.2.1 && (bt543.2.2.1 == bt555.2.2.1 && (bt543.2.2.2.1 == bt555.2.2.2.1 && (bt543.2.2.2.2.1 == bt555.2.2.2.2.1 && (bt543.2.2.2.2.2.1 == bt555.2.2.2.2.2)))))))) else (some false)) else (some false)) else (some false)) else (some false)) else (some false)) else (some false))))))
def pointillistlaw08_AffineTurns.f (k : Nat) (a0_0 : Int) (a0_1 : Int) : Option (Bool) := (pointillistlaw08_wakes.f k).bind fun t527 => (if t527 = true then ((pointillistref08_In.f a0_0).bind fun t528 => (if t528 = true then ((pointillistref08_In.f a0_1).bind fun t529 => (pointillistlaw08_AffineTurns.j0 k (!t529) a0_0 a0_1)) else (pointillistlaw08_AffineTurns.j0 k true a0_0 a0_1))) else (some false))
theorem pointillistlaw08_AffineTurns.mono_l : ∀ k, (∀ y0 y1 y2, LeO (pointillistlaw08_AffineTurns.j0 k y0 y1 y2) (pointillistlaw08_AffineTurns.j0 (k + 1) y0 y1 y2))
 | 0 => fun _ _ _ r h => by simp [pointillistlaw08_AffineTurns.j0] at h
 | k + 1 => by
  have ih0 := pointillistlaw08_AffineTurns.mono_l k
  ·
   intro y0 y1 y2
   unfold pointillistlaw08_AffineTurns.j0
   repeat' first
   | (with_reducible exact ih0 _ _ _)
   | (with_reducible exact affine_Apply.mono _ _ _ _ _ _ _ _ _)
   | (with_reducible exact affine_Then.mono _ _ _ _ _ _ _ _ _ _ _ _ _)
   | (with_reducible exact pointillistlaw08_wakes.mono _)
   | (with_reducible exact LeO.refl _)
   | (with_reducible exact LeO.none _)
   | (with_reducible refine LeO.ite ?_ ?_)
   | (with_reducible refine LeO.bind ?_ (fun _ => ?_))
   | exact ih0 _ _ _
   | exact affine_Apply.mono _ _ _ _ _ _ _ _ _
   | exact affine_Then.mono _ _ _ _ _ _ _ _ _ _ _ _ _
   | exact pointillistlaw08_wakes.mono _
   | exact LeO.none _
   | refine LeO.ite ?_ ?_
   | refine LeO.bind ?_ (fun _ => ?_)
theorem pointillistlaw08_AffineTurns.mono : ∀ a0 a1 k, LeO (pointillistlaw08_AffineTurns.f k a0 a1) (pointillistlaw08_AffineTurns.f (k + 1) a0 a1) := by
 intro a0 a1 k
 have ih0 := pointillistlaw08_AffineTurns.mono_l k
 unfold pointillistlaw08_AffineTurns.f
 repeat' first
   | (with_reducible exact ih0 _ _ _)
   | (with_reducible exact affine_Apply.mono _ _ _ _ _ _ _ _ _)
   | (with_reducible exact affine_Then.mono _ _ _ _ _ _ _ _ _ _ _ _ _)
   | (with_reducible exact pointillistlaw08_wakes.mono _)
   | (with_reducible exact LeO.refl _)
   | (with_reducible exact LeO.none _)
   | (with_reducible refine LeO.ite ?_ ?_)
   | (with_reducible refine LeO.bind ?_ (fun _ => ?_))
   | exact ih0 _ _ _
   | exact affine_Apply.mono _ _ _ _ _ _ _ _ _
   | exact affine_Then.mono _ _ _ _ _ _ _ _ _ _ _ _ _
   | exact pointillistlaw08_wakes.mono _
   | exact LeO.none _
   | refine LeO.ite ?_ ?_
   | refine LeO.bind ?_ (fun _ => ?_)
def pointillistlaw08_AffineTurns.T10 : Bool × List (List Nat × List Nat) := (true, [([], []), ([0], [0]), ([1], [1]), ([2], [2]), ([3, 2], [2, 3]), ([2, 4], [2, 4]), ([5, 2], [5]), ([6], [6]), ([7, 6], [6, 7]), ([6, 8], [6, 8]), ([9, 6], [9]), ([10], [10]), ([11, 10], [10, 11]), ([10, 12], [10, 12]), ([13, 10], [13]), ([14], [14]), ([14], [14]), ([16, 14], [14, 16]), ([17, 14], [14, 17]), ([14], [14]), ([19, 14], [14, 19]), ([18, 20, 14], [14, 18, 20]), ([15, 21, 14], [14, 15, 21]), ([14, 22], [14, 22]), ([23, 14], [23]), ([24], [24]), ([24], [24]), ([26, 24], [24, 26]), ([27, 24], [24, 27]), ([24], [24]), ([29, 24], [24, 29]), ([30, 24], [24, 30]), ([28, 31, 24], [24, 28, 31]), ([25, 32, 24], [24, 25, 32]), ([24, 33], [24, 33]), ([34, 24], [34]), ([35], [35]), ([35, 35], [35]), ([36, 37, 35], [35, 36, 37]), ([35, 38], [35, 38]), ([39, 37, 0, 1, 2, 3, 4, 5, 6, 7, 8, 9, 10, 11, 12, 13, 14, 15, 16, 17, 18, 19, 20, 21, 22, 23, 24, 25, 26, 27, 28, 29, 30, 31, 32, 33, 34, 35, 36, 37, 38, 39], [39])])
def pointillistlaw08_AffineTurns.B10 : List Nat := [0, 1, 3, 7, 15, 31, 63, 127, 255, 511, 1023, 2047, 4095, 8191, 16383, 32767, 32767, 98303, 229375, 32767, 557055, 2064383, 4194303, 8388607, 16777215, 33554431, 33554431, 100663295, 234881023, 33554431, 570425343, 1644167167, 4261412863, 8589934591, 17179869183, 34359738367, 68719476735, 68719476735, 274877906943, 549755813887, 1099511627775]
theorem pointillistlaw08_AffineTurns.tab10 : rtab .any (opsOf Tryd.f7 10) = pointillistlaw08_AffineTurns.T10 := by kernel_rfl
theorem pointillistlaw08_AffineTurns.bits10 : waitsOk pointillistlaw08_AffineTurns.T10.2 pointillistlaw08_AffineTurns.B10 = true := by kernel_rfl
set_option maxHeartbeats 8000000 in
set_option maxRecDepth 100000 in
theorem pointillistlaw08_AffineTurns.calls (k : Nat) (a0_0 : Int) (a0_1 : Int) (w : World) (hG : Gl w) (h : pointillistlaw08_AffineTurns.f k a0_0 a0_1 = some true) :
  Calls Tryd.prog 7 #[.agg #[.int .i64 a0_0, .int .i64 a0_1]] w fun e w' => e = .returned (.bool true) ∧ Below w.heap.size w w' := by
 have hu25 := Tryd.underlying25
 have hu23 := Tryd.underlying23
 have HG := Aside0.mk hG
 clear hG
 have HB := Aside0.mk (Below.refl w.heap.size w)
 have H : ((pointillistlaw08_wakes.f k).bind fun t527 => (if t527 = true then ((pointillistref08_In.f a0_0).bind fun t528 => (if t528 = true then ((pointillistref08_In.f a0_1).bind fun t529 => (pointillistlaw08_AffineTurns.j0 k (!t529) a0_0 a0_1)) else (pointillistlaw08_AffineTurns.j0 k true a0_0 a0_1))) else (some false))) = some true := h
 clear h
 replace H := Option.bind_eq_some_iff.mp H
 obtain ⟨t527, A20, H⟩ := H
 replace H : (if t527 = true then ((pointillistref08_In.f a0_0).bind fun t528 => (if t528 = true then ((pointillistref08_In.f a0_1).bind fun t529 => (pointillistlaw08_AffineTurns.j0 k (!t529) a0_0 a0_1)) else (pointillistlaw08_AffineTurns.j0 k true a0_0 a0_1))) else (some false)) = some true := H
 have A2 := Aside0.mk A20
 clear A20
 by_cases c3 : t527 = true
 ·
  subst c3
  have H1 : ((pointillistref08_In.f a0_0).bind fun t528 => (if t528 = true then ((pointillistref08_In.f a0_1).bind fun t529 => (pointillistlaw08_AffineTurns.j0 k (!t529) a0_0 a0_1)) else (pointillistlaw08_AffineTurns.j0 k true a0_0 a0_1))) = some true := by rw [if_pos rfl] at H; exact H
  clear H
  have H := H1
  clear H1
  have HC4 := Aside0.mk H
  clear H
  go_enter Tryd.func7, Tryd.ntmps7
  go_upto_region 3 with (first | ((with_reducible refine gate_dst (N := 1) rfl ?_); refine box_event ?hg (N := 1) ?hd (cs := #[.int .i64 a0_0, .int .i64 a0_1]) (t := 25) ?hr ?_; (case hd => rfl); (case hg => rfl); (case hr => first | (go_simp; done) | (go_simp; rfl)); intro gb526 hg w5 hbox hb; have n0_ := Aside0.mk (below_step (wq HB.out) hb); have n1_ := Aside0.mk (hbox); have n2_ := Aside0.mk ((by rw [hg]; exact (below_size (wq HB.out)) : w.heap.size ≤ gb526)); have n3_ := n2_; clear HB; have HB := n0_; have BK526 := n1_; have GW526 := n2_; have GE526 := n3_; clear n0_ n1_ n2_ n3_ hb hbox hg) | ((with_reducible refine gate_callee (f := 8) rfl ?_); refine goesL_ (some 12) rfl rfl Tryd.func8 (by kernel_rfl) rfl #[] rfl (by (try simp only [List.map_toArray, List.map_cons, List.map_nil]); first | done | rfl | (simp only [List.length_drop, List.length_take]; rfl)) ?_; (with_reducible refine (pointillistlaw08_wakes.calls k  true _ ?side1 A2.out).mono ?_); (case side1 => exact Gl.below HG.out (wq HB.out)); rintro e w6 ⟨rfl, hb⟩; refine ⟨_, rfl, ?_⟩; have n0_ := Aside0.mk (blk_below (bq BK526.out) hb); have n1_ := Aside0.mk (below_step (wq HB.out) hb); clear BK526 HB; have BK526 := n0_; have HB := n1_; clear n0_ n1_; (try clear hb); (try clear hb2); (try clear hk); (try clear hi)))
  (try simp only [apz])
  go_cut [23] (fun v23 wc => ∃ (kq : Nat) (x23_3 : Bool), v23 = .bool x23_3 ∧ Aside0 (pointillistlaw08_AffineTurns.j0 kq x23_3 a0_0 a0_1 = some true) ∧ Aside0 (kq ≤ k) ∧ Aside0 (wc.heap[gb526]? = some (.cells #[.int .i64 a0_0, .int .i64 a0_1] 25 (0, 0))) ∧ Aside0 (Below w.heap.size w wc))
  case first =>
   have H := HC4.out
   clear HC4
   replace H := Option.bind_eq_some_iff.mp H
   obtain ⟨t528, A70, H⟩ := H
   replace H : (if t528 = true then ((pointillistref08_In.f a0_1).bind fun t529 => (pointillistlaw08_AffineTurns.j0 k (!t529) a0_0 a0_1)) else (pointillistlaw08_AffineTurns.j0 k true a0_0 a0_1)) = some true := H
   have A7 := Aside0.mk A70
   clear A70
   by_cases c8 : t528 = true
   ·
    subst c8
    have H1 : ((pointillistref08_In.f a0_1).bind fun t529 => (pointillistlaw08_AffineTurns.j0 k (!t529) a0_0 a0_1)) = some true := by rw [if_pos rfl] at H; exact H
    clear H
    have H := H1
    clear H1
    replace H := Option.bind_eq_some_iff.mp H
    obtain ⟨t529, A90, H⟩ := H
    replace H : (pointillistlaw08_AffineTurns.j0 k (!t529) a0_0 a0_1) = some true := H
    have A9 := Aside0.mk A90
    clear A90
    have H' := Aside0.mk H
    clear H
    have hcz10_0 : w6.cell? ⟨gb526, 0, none⟩ = some (.int .i64 a0_0) := (blk_cell BK526.out 0).trans rfl
    have hcz10_1 : w6.cell? ⟨gb526, 1, none⟩ = some (.int .i64 a0_1) := (blk_cell BK526.out 1).trans rfl
    have hfz10_0 := blk_frozen BK526.out 0
    have hfz10_1 := blk_frozen BK526.out 1
    go_wp2_with (first | ((with_reducible refine gate_callee (f := 14) rfl ?_); refine goesL_ (some 16) rfl rfl Tryd.func14 (by kernel_rfl) rfl #[.int .i64 a0_0] rfl (by (try simp only [List.map_toArray, List.map_cons, List.map_nil]); first | done | rfl | (simp only [List.length_drop, List.length_take]; rfl)) ?_; (with_reducible refine (pointillistref08_In.calls a0_0 true _ A7.out).mono ?_); rintro e w' ⟨rfl, ⟨nd, rfl⟩⟩; refine ⟨_, rfl, ?_⟩) | (go_at_call 14; (with_reducible refine (pointillistref08_In.calls a0_1 t529 _ A9.out).mono ?_); rintro e w' ⟨rfl, ⟨nd, rfl⟩⟩))
    go_meet
    case rel => exact ⟨_, (!t529), (by first | rfl | (simp; done) | (simp [*]; done)), H', ⟨by first | omega | exact Nat.le_refl _⟩, ⟨by refine bq ?_; exact BK526.out⟩, ⟨by exact wq HB.out⟩⟩
   ·
    replace c8 := Bool.eq_false_iff.mpr c8
    subst c8
    have H1 : (pointillistlaw08_AffineTurns.j0 k true a0_0 a0_1) = some true := by rw [if_neg (show ¬ (false = true) by decide)] at H; exact H
    clear H
    have H := H1
    clear H1
    have H' := Aside0.mk H
    clear H
    have hcz11_0 : w6.cell? ⟨gb526, 0, none⟩ = some (.int .i64 a0_0) := (blk_cell BK526.out 0).trans rfl
    have hcz11_1 : w6.cell? ⟨gb526, 1, none⟩ = some (.int .i64 a0_1) := (blk_cell BK526.out 1).trans rfl
    have hfz11_0 := blk_frozen BK526.out 0
    have hfz11_1 := blk_frozen BK526.out 1
    go_wp2_with (first | ((with_reducible refine gate_callee (f := 14) rfl ?_); refine goesL_ (some 16) rfl rfl Tryd.func14 (by kernel_rfl) rfl #[.int .i64 a0_0] rfl (by (try simp only [List.map_toArray, List.map_cons, List.map_nil]); first | done | rfl | (simp only [List.length_drop, List.length_take]; rfl)) ?_; (with_reducible refine (pointillistref08_In.calls a0_0 false _ A7.out).mono ?_); rintro e w' ⟨rfl, ⟨nd, rfl⟩⟩; refine ⟨_, rfl, ?_⟩))
    go_meet
    case rel => exact ⟨_, (true), (by first | rfl | (simp; done) | (simp [*]; done)), H', ⟨by first | omega | exact Nat.le_refl _⟩, ⟨by refine bq ?_; exact BK526.out⟩, ⟨by exact wq HB.out⟩⟩
  case rest =>
   clear HC4
   try clear c1
   try clear p2
   try clear c3
   try clear c7
   try clear c8
   try clear hcz10_0
   try clear hcz10_1
   try clear hcz11_0
   try clear hcz11_1
   try clear hfz10_0
   try clear hfz10_1
   try clear hfz11_0
   try clear hfz11_1
   obtain ⟨kq, x23_3, rfl, HA, HJ3, BK526, HB⟩ := hcut
   cases kq with
   | zero => exact absurd HA.out (by simp [pointillistlaw08_AffineTurns.j0])
   | succ kj3 =>
    have H := HA.out
    clear HA
    simp only [pointillistlaw08_AffineTurns.j0] at H
    by_cases c12 : x23_3 = true
    ·
     subst c12
     have H1 : (some true) = some true := rfl
     clear H
     have H := H1
     clear H1
     have HE_ := Aside0.mk (Option.some.inj H)
     clear H
     go_wp2
     go_ret
     exact ⟨by first | rfl | (simp [errW_none, errW_some] <;> rfl) | (rw [HE_.out]; done) | (simp [HE_.out]; done) | (have h_ := HE_.out; simp_all; done) | (have h_ := HE_.out; simp [*] at h_; simp [*, h_]; done) | (simp [*, errW_none, errW_some] <;> rfl), by exact wq HB.out⟩
    ·
     replace c12 := Bool.eq_false_iff.mpr c12
     subst c12
     have H1 : ((affine_Apply.f kj3 0 65536 (-65536) 0 0 0 a0_0 a0_1).bind fun bt531 => ((affine_Then.f kj3 0 65536 (-65536) 0 0 0 0 65536 (-65536) 0 0 0).bind fun bt535 => ((affine_Then.f kj3 bt535.1 bt535.2.1 bt535.2.2.1 bt535.2.2.2.1 bt535.2.2.2.2.1 bt535.2.2.2.2.2.1 bt535.1 bt535.2.1 bt535.2.2.1 bt535.2.2.2.1 bt535.2.2.2.2.1 bt535.2.2.2.2.2.1).bind fun bt543 => ((affine_Apply.f kj3 bt535.1 bt535.2.1 bt535.2.2.1 bt535.2.2.2.1 bt535.2.2.2.2.1 bt535.2.2.2.2.2.1 a0_0 a0_1).bind fun bt551 => (if bt531.2.2 = 0 then (if bt535.2.2.2.2.2.2 = 0 then (if bt543.2.2.2.2.2.2 = 0 then (if bt551.2.2 = 0 then (if (bt531.1 == (wrap64 (-a0_1)) && (bt531.2.1 == a0_0)) = true then (if (bt551.1 == (wrap64 (-a0_0)) && (bt551.2.1 == (wrap64 (-a0_1)))) = true then ((affine_Same.f).bind fun bt555 => (some (bt543.1 == bt555.1 && (bt543.2.1 == bt555.2.1 && (bt543.2.2.1 == bt555.2.2.1 && (bt543.2.2.2.1 == bt555.2.2.2.1 && (bt543.2.2.2.2.1 == bt555.2.2.2.2.1 && (bt543.2.2.2.2.2.1 == bt555.2.2.2.2.2)))))))) else (some false)) else (some false)) else (some false)) else (some false)) else (some false)) else (some false)))))) = some true := by rw [if_neg (show ¬ (false = true) by decide)] at H; exact H
     clear H
     have H := H1
     clear H1
     replace H := Option.bind_eq_some_iff.mp H
     obtain ⟨⟨t531, t532, t533⟩, A130, H⟩ := H
     replace H : ((affine_Then.f kj3 0 65536 (-65536) 0 0 0 0 65536 (-65536) 0 0 0).bind fun bt535 => ((affine_Then.f kj3 bt535.1 bt535.2.1 bt535.2.2.1 bt535.2.2.2.1 bt535.2.2.2.2.1 bt535.2.2.2.2.2.1 bt535.1 bt535.2.1 bt535.2.2.1 bt535.2.2.2.1 bt535.2.2.2.2.1 bt535.2.2.2.2.2.1).bind fun bt543 => ((affine_Apply.f kj3 bt535.1 bt535.2.1 bt535.2.2.1 bt535.2.2.2.1 bt535.2.2.2.2.1 bt535.2.2.2.2.2.1 a0_0 a0_1).bind fun bt551 => (if t533 = 0 then (if bt535.2.2.2.2.2.2 = 0 then (if bt543.2.2.2.2.2.2 = 0 then (if bt551.2.2 = 0 then (if (t531 == (wrap64 (-a0_1)) && (t532 == a0_0)) = true then (if (bt551.1 == (wrap64 (-a0_0)) && (bt551.2.1 == (wrap64 (-a0_1)))) = true then ((affine_Same.f).bind fun bt555 => (some (bt543.1 == bt555.1 && (bt543.2.1 == bt555.2.1 && (bt543.2.2.1 == bt555.2.2.1 && (bt543.2.2.2.1 == bt555.2.2.2.1 && (bt543.2.2.2.2.1 == bt555.2.2.2.2.1 && (bt543.2.2.2.2.2.1 == bt555.2.2.2.2.2)))))))) else (some false)) else (some false)) else (some false)) else (some false)) else (some false)) else (some false))))) = some true := H
     have A13 := Aside0.mk A130
     clear A130
     replace H := Option.bind_eq_some_iff.mp H
     obtain ⟨⟨t535, t536, t537, t538, t539, t540, t541⟩, A140, H⟩ := H
     replace H : ((affine_Then.f kj3 t535 t536 t537 t538 t539 t540 t535 t536 t537 t538 t539 t540).bind fun bt543 => ((affine_Apply.f kj3 t535 t536 t537 t538 t539 t540 a0_0 a0_1).bind fun bt551 => (if t533 = 0 then (if t541 = 0 then (if bt543.2.2.2.2.2.2 = 0 then (if bt551.2.2 = 0 then (if (t531 == (wrap64 (-a0_1)) && (t532 == a0_0)) = true then (if (bt551.1 == (wrap64 (-a0_0)) && (bt551.2.1 == (wrap64 (-a0_1)))) = true then ((affine_Same.f).bind fun bt555 => (some (bt543.1 == bt555.1 && (bt543.2.1 == bt555.2.1 && (bt543.2.2.1 == bt555.2.2.1 && (bt543.2.2.2.1 == bt555.2.2.2.1 && (bt543.2.2.2.2.1 == bt555.2.2.2.2.1 && (bt543.2.2.2.2.2.1 == bt555.2.2.2.2.2)))))))) else (some false)) else (some false)) else (some false)) else (some false)) else (some false)) else (some false)))) = some true := H
     have A14 := Aside0.mk A140
     clear A140
     replace H := Option.bind_eq_some_iff.mp H
     obtain ⟨⟨t543, t544, t545, t546, t547, t548, t549⟩, A150, H⟩ := H
     replace H : ((affine_Apply.f kj3 t535 t536 t537 t538 t539 t540 a0_0 a0_1).bind fun bt551 => (if t533 = 0 then (if t541 = 0 then (if t549 = 0 then (if bt551.2.2 = 0 then (if (t531 == (wrap64 (-a0_1)) && (t532 == a0_0)) = true then (if (bt551.1 == (wrap64 (-a0_0)) && (bt551.2.1 == (wrap64 (-a0_1)))) = true then ((affine_Same.f).bind fun bt555 => (some (t543 == bt555.1 && (t544 == bt555.2.1 && (t545 == bt555.2.2.1 && (t546 == bt555.2.2.2.1 && (t547 == bt555.2.2.2.2.1 && (t548 == bt555.2.2.2.2.2)))))))) else (some false)) else (some false)) else (some false)) else (some false)) else (some false)) else (some false))) = some true := H
     have A15 := Aside0.mk A150
     clear A150
     replace H := Option.bind_eq_some_iff.mp H
     obtain ⟨⟨t551, t552, t553⟩, A160, H⟩ := H
     replace H : (if t533 = 0 then (if t541 = 0 then (if t549 = 0 then (if t553 = 0 then (if (t531 == (wrap64 (-a0_1)) && (t532 == a0_0)) = true then (if (t551 == (wrap64 (-a0_0)) && (t552 == (wrap64 (-a0_1)))) = true then ((affine_Same.f).bind fun bt555 => (some (t543 == bt555.1 && (t544 == bt555.2.1 && (t545 == bt555.2.2.1 && (t546 == bt555.2.2.2.1 && (t547 == bt555.2.2.2.2.1 && (t548 == bt555.2.2.2.2.2)))))))) else (some false)) else (some false)) else (some false)) else (some false)) else (some false)) else (some false)) = some true := H
     have A16 := Aside0.mk A160
     clear A160
     by_cases c17 : t533 = 0
     ·
      rw [if_pos c17] at H
      have c17b0 : (t533 == 0) = true := beq_iff_eq.mpr c17
      have c17b1 : (t533 != 0) = false := bne_eq_false_iff_eq.mpr c17
      clear c17
      by_cases c18 : t541 = 0
      ·
       rw [if_pos c18] at H
       have c18b0 : (t541 == 0) = true := beq_iff_eq.mpr c18
       have c18b1 : (t541 != 0) = false := bne_eq_false_iff_eq.mpr c18
       clear c18
       by_cases c19 : t549 = 0
       ·
        rw [if_pos c19] at H
        have c19b0 : (t549 == 0) = true := beq_iff_eq.mpr c19
        have c19b1 : (t549 != 0) = false := bne_eq_false_iff_eq.mpr c19
        clear c19
        by_cases c20 : t553 = 0
        ·
         rw [if_pos c20] at H
         have c20b0 : (t553 == 0) = true := beq_iff_eq.mpr c20
         have c20b1 : (t553 != 0) = false := bne_eq_false_iff_eq.mpr c20
         clear c20
         by_cases c21 : (t531 == (wrap64 (-a0_1)) && (t532 == a0_0)) = true
         ·
          rw [if_pos c21] at H
          have c21b0 : (t531 == (wrap64 (-a0_1)) && (t532 == a0_0)) = true := c21
          (try (have c21b1 : decide (t531 = (wrap64 (-a0_1)) && (t532 == a0_0)) = true := by simpa using c21))
          (try (have c21b2 : (t531 == (wrap64 (-a0_1)) && (t532 == a0_0)) = true := by simpa using c21))
          clear c21
          by_cases c22 : (t551 == (wrap64 (-a0_0)) && (t552 == (wrap64 (-a0_1)))) = true
          ·
           rw [if_pos c22] at H
           have c22b0 : (t551 == (wrap64 (-a0_0)) && (t552 == (wrap64 (-a0_1)))) = true := c22
           (try (have c22b1 : decide (t551 = (wrap64 (-a0_0)) && (t552 == (wrap64 (-a0_1)))) = true := by simpa using c22))
           (try (have c22b2 : (t551 == (wrap64 (-a0_0)) && (t552 == (wrap64 (-a0_1)))) = true := by simpa using c22))
           clear c22
           replace H := Option.bind_eq_some_iff.mp H
           obtain ⟨⟨t555, t556, t557, t558, t559, t560⟩, A230, H⟩ := H
           replace H : (some (t543 == t555 && (t544 == t556 && (t545 == t557 && (t546 == t558 && (t547 == t559 && (t548 == t560))))))) = some true := H
           have A23 := Aside0.mk A230
           clear A230
           have HE_ := Aside0.mk (Option.some.inj H)
           clear H
           try go_wp2_with (first | ((with_reducible refine gate_dst (N := 3) rfl ?_); refine box_event ?hg (N := 3) ?hd (cs := #[.int .i64 0, .int .i64 0, .int .i64 0, .int .i64 0, .int .i64 0, .int .i64 0]) (t := 23) ?hr ?_; (case hd => rfl); (case hg => rfl); (case hr => first | (go_simp; done) | (go_simp; rfl)); intro gb530 hg w24 hbox hb; have n0_ := Aside0.mk (blk_below (bq BK526.out) hb); have n1_ := Aside0.mk (below_step (wq HB.out) hb); have n2_ := Aside0.mk (hbox); have n3_ := Aside0.mk ((by rw [hg]; exact (below_size (wq HB.out)) : w.heap.size ≤ gb530)); have n4_ := n3_; have n5_ := Aside0.mk ((by rw [hg]; exact Nat.ne_of_lt (blk_lt (bq BK526.out)) : gb526 ≠ gb530)); have n6_ := Aside0.mk ((by rw [hg]; exact Nat.ne_of_gt (blk_lt (bq BK526.out)) : gb530 ≠ gb526)); clear BK526 HB; have BK526 := n0_; have HB := n1_; have BK530 := n2_; have GW530 := n3_; have GE530 := n4_; have NB526_530 := n5_; have NB530_526 := n6_; clear n0_ n1_ n2_ n3_ n4_ n5_ n6_ hb hbox hg; have hnb25 := NB530_526.out; have hnc25 := NB526_530.out; have hcz26_0 : w24.cell? ⟨gb530, 0, none⟩ = some (.int .i64 0) := (blk_cell BK530.out 0).trans rfl; have hcz26_1 : w24.cell? ⟨gb530, 1, none⟩ = some (.int .i64 0) := (blk_cell BK530.out 1).trans rfl; have hcz26_2 : w24.cell? ⟨gb530, 2, none⟩ = some (.int .i64 0) := (blk_cell BK530.out 2).trans rfl; have hcz26_3 : w24.cell? ⟨gb530, 3, none⟩ = some (.int .i64 0) := (blk_cell BK530.out 3).trans rfl; have hcz26_4 : w24.cell? ⟨gb530, 4, none⟩ = some (.int .i64 0) := (blk_cell BK530.out 4).trans rfl; have hcz26_5 : w24.cell? ⟨gb530, 5, none⟩ = some (.int .i64 0) := (blk_cell BK530.out 5).trans rfl; have hfz26_0 := blk_frozen BK530.out 0; have hfz26_1 := blk_frozen BK530.out 1; have hfz26_2 := blk_frozen BK530.out 2; have hfz26_3 := blk_frozen BK530.out 3; have hfz26_4 := blk_frozen BK530.out 4; have hfz26_5 := blk_frozen BK530.out 5; have hcz27_0 : w24.cell? ⟨gb526, 0, none⟩ = some (.int .i64 a0_0) := (blk_cell BK526.out 0).trans rfl; have hcz27_1 : w24.cell? ⟨gb526, 1, none⟩ = some (.int .i64 a0_1) := (blk_cell BK526.out 1).trans rfl; have hfz27_0 := blk_frozen BK526.out 0; have hfz27_1 := blk_frozen BK526.out 1) | ((with_reducible refine gate_callee (f := 9) rfl ?_); refine goesL_ (some 28) rfl rfl Tryd.func9 (by kernel_rfl) rfl #[.agg #[.int .i64 0, .int .i64 65536, .int .i64 (-65536), .int .i64 0, .int .i64 0, .int .i64 0], .agg #[.int .i64 a0_0, .int .i64 a0_1]] rfl (by (try simp only [List.map_toArray, List.map_cons, List.map_nil]); first | done | rfl | (simp only [List.length_drop, List.length_take]; rfl)) ?_; (with_reducible refine (affine_Apply.calls kj3 0 65536 (-65536) 0 0 0 a0_0 a0_1 t531 t532 t533 _ ?side1 A13.out).mono ?_); (case side1 => exact Gl.below HG.out (wq HB.out)); rintro e w28 ⟨rfl, hb⟩; refine ⟨_, rfl, ?_⟩; have n0_ := Aside0.mk (blk_below (g := gb526) (o := .cells #[.int .i64 a0_0, .int .i64 a0_1] 25 (0, 0)) (by refine bq ?_; refine blk_far ?_ NB526_530.out _; refine bq ?_; refine blk_far ?_ NB526_530.out _; refine bq ?_; refine blk_far ?_ NB526_530.out _; refine bq ?_; refine blk_far ?_ NB526_530.out _; refine bq ?_; refine blk_far ?_ NB526_530.out _; refine bq ?_; refine blk_far ?_ NB526_530.out _; refine bq ?_; exact BK526.out) hb); have n1_ := Aside0.mk (blk_below (g := gb530) (o := .cells #[.int .i64 0, .int .i64 65536, .int .i64 (-65536), .int .i64 0, .int .i64 0, .int .i64 0] 23 (0, 0)) (by refine bq ?_; refine blk_put (cs := #[.int .i64 0, .int .i64 65536, .int .i64 (-65536), .int .i64 0, .int .i64 0, .int .i64 0]) ?_ 5 _ rfl; refine bq ?_; refine blk_put (cs := #[.int .i64 0, .int .i64 65536, .int .i64 (-65536), .int .i64 0, .int .i64 0, .int .i64 0]) ?_ 4 _ rfl; refine bq ?_; refine blk_put (cs := #[.int .i64 0, .int .i64 65536, .int .i64 (-65536), .int .i64 0, .int .i64 0, .int .i64 0]) ?_ 3 _ rfl; refine bq ?_; refine blk_put (cs := #[.int .i64 0, .int .i64 65536, .int .i64 0, .int .i64 0, .int .i64 0, .int .i64 0]) ?_ 2 _ rfl; refine bq ?_; refine blk_put (cs := #[.int .i64 0, .int .i64 0, .int .i64 0, .int .i64 0, .int .i64 0, .int .i64 0]) ?_ 1 _ rfl; refine bq ?_; refine blk_put (cs := #[.int .i64 0, .int .i64 0, .int .i64 0, .int .i64 0, .int .i64 0, .int .i64 0]) ?_ 0 _ rfl; refine bq ?_; exact BK530.out) hb); have n2_ := Aside0.mk (below_step (wq HB.out) hb); clear BK526 BK530 HB; have BK526 := n0_; have BK530 := n1_; have HB := n2_; clear n0_ n1_ n2_; (try clear hb); (try clear hb2); (try clear hk); (try clear hi)) | ((with_reducible refine gate_dst (N := 4) rfl ?_); refine box_event ?hg (N := 4) ?hd (cs := #[.int .i64 0, .int .i64 0]) (t := 25) ?hr ?_; (case hd => rfl); (case hg => rfl); (case hr => first | (go_simp; done) | (go_simp; rfl)); intro gb534 hg w29 hbox hb; have n0_ := Aside0.mk (blk_below (bq BK526.out) hb); have n1_ := Aside0.mk (blk_below (bq BK530.out) hb); have n2_ := Aside0.mk (below_step (wq HB.out) hb); have n3_ := Aside0.mk (hbox); have n4_ := Aside0.mk ((by rw [hg]; exact (below_size (wq HB.out)) : w.heap.size ≤ gb534)); have n5_ := n4_; have n6_ := Aside0.mk ((by rw [hg]; exact Nat.ne_of_lt (blk_lt (bq BK526.out)) : gb526 ≠ gb534)); have n7_ := Aside0.mk ((by rw [hg]; exact Nat.ne_of_gt (blk_lt (bq BK526.out)) : gb534 ≠ gb526)); have n8_ := Aside0.mk ((by rw [hg]; exact Nat.ne_of_lt (blk_lt (bq BK530.out)) : gb530 ≠ gb534)); have n9_ := Aside0.mk ((by rw [hg]; exact Nat.ne_of_gt (blk_lt (bq BK530.out)) : gb534 ≠ gb530)); clear BK526 BK530 HB; have BK526 := n0_; have BK530 := n1_; have HB := n2_; have BK534 := n3_; have GW534 := n4_; have GE534 := n5_; have NB526_534 := n6_; have NB534_526 := n7_; have NB530_534 := n8_; have NB534_530 := n9_; clear n0_ n1_ n2_ n3_ n4_ n5_ n6_ n7_ n8_ n9_ hb hbox hg; have hnb30 := NB534_526.out; have hnc30 := NB526_534.out; have hnb31 := NB534_530.out; have hnc31 := NB530_534.out; have hcz32_0 : w29.cell? ⟨gb534, 0, none⟩ = some (.int .i64 0) := (blk_cell BK534.out 0).trans rfl; have hcz32_1 : w29.cell? ⟨gb534, 1, none⟩ = some (.int .i64 0) := (blk_cell BK534.out 1).trans rfl; have hfz32_0 := blk_frozen BK534.out 0; have hfz32_1 := blk_frozen BK534.out 1; have hcz33_0 : w29.cell? ⟨gb530, 0, none⟩ = some (.int .i64 0) := (blk_cell BK530.out 0).trans rfl; have hcz33_1 : w29.cell? ⟨gb530, 1, none⟩ = some (.int .i64 65536) := (blk_cell BK530.out 1).trans rfl; have hcz33_2 : w29.cell? ⟨gb530, 2, none⟩ = some (.int .i64 (-65536)) := (blk_cell BK530.out 2).trans rfl; have hcz33_3 : w29.cell? ⟨gb530, 3, none⟩ = some (.int .i64 0) := (blk_cell BK530.out 3).trans rfl; have hcz33_4 : w29.cell? ⟨gb530, 4, none⟩ = some (.int .i64 0) := (blk_cell BK530.out 4).trans rfl; have hcz33_5 : w29.cell? ⟨gb530, 5, none⟩ = some (.int .i64 0) := (blk_cell BK530.out 5).trans rfl; have hfz33_0 := blk_frozen BK530.out 0; have hfz33_1 := blk_frozen BK530.out 1; have hfz33_2 := blk_frozen BK530.out 2; have hfz33_3 := blk_frozen BK530.out 3; have hfz33_4 := blk_frozen BK530.out 4; have hfz33_5 := blk_frozen BK530.out 5) | ((with_reducible refine gate_callee (f := 17) rfl ?_); refine goesL_ (some 34) rfl rfl Tryd.func17 (by kernel_rfl) rfl #[.agg #[.int .i64 0, .int .i64 65536, .int .i64 (-65536), .int .i64 0, .int .i64 0, .int .i64 0], .agg #[.int .i64 0, .int .i64 65536, .int .i64 (-65536), .int .i64 0, .int .i64 0, .int .i64 0]] rfl (by (try simp only [List.map_toArray, List.map_cons, List.map_nil]); first | done | rfl | (simp only [List.length_drop, List.length_take]; rfl)) ?_; (with_reducible refine (affine_Then.calls kj3 0 65536 (-65536) 0 0 0 0 65536 (-65536) 0 0 0 t535 t536 t537 t538 t539 t540 t541 _ ?side1 A14.out).mono ?_); (case side1 => exact Gl.below HG.out (wq HB.out)); rintro e w34 ⟨rfl, hb⟩; refine ⟨_, rfl, ?_⟩; have n0_ := Aside0.mk (blk_below (g := gb526) (o := .cells #[.int .i64 a0_0, .int .i64 a0_1] 25 (0, 0)) (by refine bq ?_; refine blk_far ?_ NB526_534.out _; refine bq ?_; refine blk_far ?_ NB526_534.out _; refine bq ?_; exact BK526.out) hb); have n1_ := Aside0.mk (blk_below (g := gb530) (o := .cells #[.int .i64 0, .int .i64 65536, .int .i64 (-65536), .int .i64 0, .int .i64 0, .int .i64 0] 23 (0, 0)) (by refine bq ?_; refine blk_far ?_ NB530_534.out _; refine bq ?_; refine blk_far ?_ NB530_534.out _; refine bq ?_; exact BK530.out) hb); have n2_ := Aside0.mk (blk_below (g := gb534) (o := .cells #[.int .i64 t531, .int .i64 t532] 25 (0, 0)) (by refine bq ?_; refine blk_put (cs := #[.int .i64 t531, .int .i64 0]) ?_ 1 _ rfl; refine bq ?_; refine blk_put (cs := #[.int .i64 0, .int .i64 0]) ?_ 0 _ rfl; refine bq ?_; exact BK534.out) hb); have n3_ := Aside0.mk (below_step (wq HB.out) hb); clear BK526 BK530 BK534 HB; have BK526 := n0_; have BK530 := n1_; have BK534 := n2_; have HB := n3_; clear n0_ n1_ n2_ n3_; (try clear hb); (try clear hb2); (try clear hk); (try clear hi)) | ((with_reducible refine gate_dst (N := 6) rfl ?_); refine box_event ?hg (N := 6) ?hd (cs := #[.int .i64 0, .int .i64 0, .int .i64 0, .int .i64 0, .int .i64 0, .int .i64 0]) (t := 23) ?hr ?_; (case hd => rfl); (case hg => rfl); (case hr => first | (go_simp; done) | (go_simp; rfl)); intro gb542 hg w35 hbox hb; have n0_ := Aside0.mk (blk_below (bq BK526.out) hb); have n1_ := Aside0.mk (blk_below (bq BK530.out) hb); have n2_ := Aside0.mk (blk_below (bq BK534.out) hb); have n3_ := Aside0.mk (below_step (wq HB.out) hb); have n4_ := Aside0.mk (hbox); have n5_ := Aside0.mk ((by rw [hg]; exact (below_size (wq HB.out)) : w.heap.size ≤ gb542)); have n6_ := n5_; have n7_ := Aside0.mk ((by rw [hg]; exact Nat.ne_of_lt (blk_lt (bq BK526.out)) : gb526 ≠ gb542)); have n8_ := Aside0.mk ((by rw [hg]; exact Nat.ne_of_gt (blk_lt (bq BK526.out)) : gb542 ≠ gb526)); have n9_ := Aside0.mk ((by rw [hg]; exact Nat.ne_of_lt (blk_lt (bq BK530.out)) : gb530 ≠ gb542)); have n10_ := Aside0.mk ((by rw [hg]; exact Nat.ne_of_gt (blk_lt (bq BK530.out)) : gb542 ≠ gb530)); have n11_ := Aside0.mk ((by rw [hg]; exact Nat.ne_of_lt (blk_lt (bq BK534.out)) : gb534 ≠ gb542)); have n12_ := Aside0.mk ((by rw [hg]; exact Nat.ne_of_gt (blk_lt (bq BK534.out)) : gb542 ≠ gb534)); clear BK526 BK530 BK534 HB; have BK526 := n0_; have BK530 := n1_; have BK534 := n2_; have HB := n3_; have BK542 := n4_; have GW542 := n5_; have GE542 := n6_; have NB526_542 := n7_; have NB542_526 := n8_; have NB530_542 := n9_; have NB542_530 := n10_; have NB534_542 := n11_; have NB542_534 := n12_; clear n0_ n1_ n2_ n3_ n4_ n5_ n6_ n7_ n8_ n9_ n10_ n11_ n12_ hb hbox hg; have hnb36 := NB542_526.out; have hnc36 := NB526_542.out; have hnb37 := NB542_530.out; have hnc37 := NB530_542.out; have hnb38 := NB542_534.out; have hnc38 := NB534_542.out; have hcz39_0 : w35.cell? ⟨gb542, 0, none⟩ = some (.int .i64 0) := (blk_cell BK542.out 0).trans rfl; have hcz39_1 : w35.cell? ⟨gb542, 1, none⟩ = some (.int .i64 0) := (blk_cell BK542.out 1).trans rfl; have hcz39_2 : w35.cell? ⟨gb542, 2, none⟩ = some (.int .i64 0) := (blk_cell BK542.out 2).trans rfl; have hcz39_3 : w35.cell? ⟨gb542, 3, none⟩ = some (.int .i64 0) := (blk_cell BK542.out 3).trans rfl; have hcz39_4 : w35.cell? ⟨gb542, 4, none⟩ = some (.int .i64 0) := (blk_cell BK542.out 4).trans rfl; have hcz39_5 : w35.cell? ⟨gb542, 5, none⟩ = some (.int .i64 0) := (blk_cell BK542.out 5).trans rfl; have hfz39_0 := blk_frozen BK542.out 0; have hfz39_1 := blk_frozen BK542.out 1; have hfz39_2 := blk_frozen BK542.out 2; have hfz39_3 := blk_frozen BK542.out 3; have hfz39_4 := blk_frozen BK542.out 4; have hfz39_5 := blk_frozen BK542.out 5) | ((with_reducible refine gate_callee (f := 17) rfl ?_); refine goesL_ (some 40) rfl rfl Tryd.func17 (by kernel_rfl) rfl #[.agg #[.int .i64 t535, .int .i64 t536, .int .i64 t537, .int .i64 t538, .int .i64 t539, .int .i64 t540], .agg #[.int .i64 t535, .int .i64 t536, .int .i64 t537, .int .i64 t538, .int .i64 t539, .int .i64 t540]] rfl (by (try simp only [List.map_toArray, List.map_cons, List.map_nil]); first | done | rfl | (simp only [List.length_drop, List.length_take]; rfl)) ?_; (with_reducible refine (affine_Then.calls kj3 t535 t536 t537 t538 t539 t540 t535 t536 t537 t538 t539 t540 t543 t544 t545 t546 t547 t548 t549 _ ?side1 A15.out).mono ?_); (case side1 => exact Gl.below HG.out (wq HB.out)); rintro e w40 ⟨rfl, hb⟩; refine ⟨_, rfl, ?_⟩; have n0_ := Aside0.mk (blk_below (g := gb526) (o := .cells #[.int .i64 a0_0, .int .i64 a0_1] 25 (0, 0)) (by refine bq ?_; refine blk_far ?_ NB526_542.out _; refine bq ?_; refine blk_far ?_ NB526_542.out _; refine bq ?_; refine blk_far ?_ NB526_542.out _; refine bq ?_; refine blk_far ?_ NB526_542.out _; refine bq ?_; refine blk_far ?_ NB526_542.out _; refine bq ?_; refine blk_far ?_ NB526_542.out _; refine bq ?_; exact BK526.out) hb); have n1_ := Aside0.mk (blk_below (g := gb530) (o := .cells #[.int .i64 0, .int .i64 65536, .int .i64 (-65536), .int .i64 0, .int .i64 0, .int .i64 0] 23 (0, 0)) (by refine bq ?_; refine blk_far ?_ NB530_542.out _; refine bq ?_; refine blk_far ?_ NB530_542.out _; refine bq ?_; refine blk_far ?_ NB530_542.out _; refine bq ?_; refine blk_far ?_ NB530_542.out _; refine bq ?_; refine blk_far ?_ NB530_542.out _; refine bq ?_; refine blk_far ?_ NB530_542.out _; refine bq ?_; exact BK530.out) hb); have n2_ := Aside0.mk (blk_below (g := gb534) (o := .cells #[.int .i64 t531, .int .i64 t532] 25 (0, 0)) (by refine bq ?_; refine blk_far ?_ NB534_542.out _; refine bq ?_; refine blk_far ?_ NB534_542.out _; refine bq ?_; refine blk_far ?_ NB534_542.out _; refine bq ?_; refine blk_far ?_ NB534_542.out _; refine bq ?_; refine blk_far ?_ NB534_542.out _; refine bq ?_; refine blk_far ?_ NB534_542.out _; refine bq ?_; exact BK534.out) hb); have n3_ := Aside0.mk (blk_below (g := gb542) (o := .cells #[.int .i64 t535, .int .i64 t536, .int .i64 t537, .int .i64 t538, .int .i64 t539, .int .i64 t540] 23 (0, 0)) (by refine bq ?_; refine blk_put (cs := #[.int .i64 t535, .int .i64 t536, .int .i64 t537, .int .i64 t538, .int .i64 t539, .int .i64 0]) ?_ 5 _ rfl; refine bq ?_; refine blk_put (cs := #[.int .i64 t535, .int .i64 t536, .int .i64 t537, .int .i64 t538, .int .i64 0, .int .i64 0]) ?_ 4 _ rfl; refine bq ?_; refine blk_put (cs := #[.int .i64 t535, .int .i64 t536, .int .i64 t537, .int .i64 0, .int .i64 0, .int .i64 0]) ?_ 3 _ rfl; refine bq ?_; refine blk_put (cs := #[.int .i64 t535, .int .i64 t536, .int .i64 0, .int .i64 0, .int .i64 0, .int .i64 0]) ?_ 2 _ rfl; refine bq ?_; refine blk_put (cs := #[.int .i64 t535, .int .i64 0, .int .i64 0, .int .i64 0, .int .i64 0, .int .i64 0]) ?_ 1 _ rfl; refine bq ?_; refine blk_put (cs := #[.int .i64 0, .int .i64 0, .int .i64 0, .int .i64 0, .int .i64 0, .int .i64 0]) ?_ 0 _ rfl; refine bq ?_; exact BK542.out) hb); have n4_ := Aside0.mk (below_step (wq HB.out) hb); clear BK526 BK530 BK534 BK542; clear HB; have BK526 := n0_; have BK530 := n1_; have BK534 := n2_; have BK542 := n3_; have HB := n4_; clear n0_ n1_ n2_ n3_ n4_; (try clear hb); (try clear hb2); (try clear hk); (try clear hi)) | ((with_reducible refine gate_dst (N := 8) rfl ?_); refine box_event ?hg (N := 8) ?hd (cs := #[.int .i64 0, .int .i64 0, .int .i64 0, .int .i64 0, .int .i64 0, .int .i64 0]) (t := 23) ?hr ?_; (case hd => rfl); (case hg => rfl); (case hr => first | (go_simp; done) | (go_simp; rfl)); intro gb550 hg w41 hbox hb; have n0_ := Aside0.mk (blk_below (bq BK526.out) hb); have n1_ := Aside0.mk (blk_below (bq BK530.out) hb); have n2_ := Aside0.mk (blk_below (bq BK534.out) hb); have n3_ := Aside0.mk (blk_below (bq BK542.out) hb); have n4_ := Aside0.mk (below_step (wq HB.out) hb); have n5_ := Aside0.mk (hbox); have n6_ := Aside0.mk ((by rw [hg]; exact (below_size (wq HB.out)) : w.heap.size ≤ gb550)); have n7_ := n6_; have n8_ := Aside0.mk ((by rw [hg]; exact Nat.ne_of_lt (blk_lt (bq BK526.out)) : gb526 ≠ gb550)); have n9_ := Aside0.mk ((by rw [hg]; exact Nat.ne_of_gt (blk_lt (bq BK526.out)) : gb550 ≠ gb526)); have n10_ := Aside0.mk ((by rw [hg]; exact Nat.ne_of_lt (blk_lt (bq BK530.out)) : gb530 ≠ gb550)); have n11_ := Aside0.mk ((by rw [hg]; exact Nat.ne_of_gt (blk_lt (bq BK530.out)) : gb550 ≠ gb530)); have n12_ := Aside0.mk ((by rw [hg]; exact Nat.ne_of_lt (blk_lt (bq BK534.out)) : gb534 ≠ gb550)); have n13_ := Aside0.mk ((by rw [hg]; exact Nat.ne_of_gt (blk_lt (bq BK534.out)) : gb550 ≠ gb534)); have n14_ := Aside0.mk ((by rw [hg]; exact Nat.ne_of_lt (blk_lt (bq BK542.out)) : gb542 ≠ gb550)); have n15_ := Aside0.mk ((by rw [hg]; exact Nat.ne_of_gt (blk_lt (bq BK542.out)) : gb550 ≠ gb542)); clear BK526 BK530 BK534 BK542; clear HB; have BK526 := n0_; have BK530 := n1_; have BK534 := n2_; have BK542 := n3_; have HB := n4_; have BK550 := n5_; have GW550 := n6_; have GE550 := n7_; have NB526_550 := n8_; have NB550_526 := n9_; have NB530_550 := n10_; have NB550_530 := n11_; have NB534_550 := n12_; have NB550_534 := n13_; have NB542_550 := n14_; have NB550_542 := n15_; clear n0_ n1_ n2_ n3_ n4_ n5_ n6_ n7_ n8_ n9_ n10_ n11_ n12_ n13_ n14_ n15_ hb hbox hg; have hnb42 := NB550_526.out; have hnc42 := NB526_550.out; have hnb43 := NB550_530.out; have hnc43 := NB530_550.out; have hnb44 := NB550_534.out; have hnc44 := NB534_550.out; have hnb45 := NB550_542.out; have hnc45 := NB542_550.out; have hcz46_0 : w41.cell? ⟨gb550, 0, none⟩ = some (.int .i64 0) := (blk_cell BK550.out 0).trans rfl; have hcz46_1 : w41.cell? ⟨gb550, 1, none⟩ = some (.int .i64 0) := (blk_cell BK550.out 1).trans rfl; have hcz46_2 : w41.cell? ⟨gb550, 2, none⟩ = some (.int .i64 0) := (blk_cell BK550.out 2).trans rfl; have hcz46_3 : w41.cell? ⟨gb550, 3, none⟩ = some (.int .i64 0) := (blk_cell BK550.out 3).trans rfl; have hcz46_4 : w41.cell? ⟨gb550, 4, none⟩ = some (.int .i64 0) := (blk_cell BK550.out 4).trans rfl; have hcz46_5 : w41.cell? ⟨gb550, 5, none⟩ = some (.int .i64 0) := (blk_cell BK550.out 5).trans rfl; have hfz46_0 := blk_frozen BK550.out 0; have hfz46_1 := blk_frozen BK550.out 1; have hfz46_2 := blk_frozen BK550.out 2; have hfz46_3 := blk_frozen BK550.out 3; have hfz46_4 := blk_frozen BK550.out 4; have hfz46_5 := blk_frozen BK550.out 5; have hcz47_0 : w41.cell? ⟨gb542, 0, none⟩ = some (.int .i64 t535) := (blk_cell BK542.out 0).trans rfl; have hcz47_1 : w41.cell? ⟨gb542, 1, none⟩ = some (.int .i64 t536) := (blk_cell BK542.out 1).trans rfl; have hcz47_2 : w41.cell? ⟨gb542, 2, none⟩ = some (.int .i64 t537) := (blk_cell BK542.out 2).trans rfl; have hcz47_3 : w41.cell? ⟨gb542, 3, none⟩ = some (.int .i64 t538) := (blk_cell BK542.out 3).trans rfl; have hcz47_4 : w41.cell? ⟨gb542, 4, none⟩ = some (.int .i64 t539) := (blk_cell BK542.out 4).trans rfl; have hcz47_5 : w41.cell? ⟨gb542, 5, none⟩ = some (.int .i64 t540) := (blk_cell BK542.out 5).trans rfl; have hfz47_0 := blk_frozen BK542.out 0; have hfz47_1 := blk_frozen BK542.out 1; have hfz47_2 := blk_frozen BK542.out 2; have hfz47_3 := blk_frozen BK542.out 3; have hfz47_4 := blk_frozen BK542.out 4; have hfz47_5 := blk_frozen BK542.out 5; have hcz48_0 : w41.cell? ⟨gb526, 0, none⟩ = some (.int .i64 a0_0) := (blk_cell BK526.out 0).trans rfl; have hcz48_1 : w41.cell? ⟨gb526, 1, none⟩ = some (.int .i64 a0_1) := (blk_cell BK526.out 1).trans rfl; have hfz48_0 := blk_frozen BK526.out 0; have hfz48_1 := blk_frozen BK526.out 1) | ((with_reducible refine gate_callee (f := 9) rfl ?_); refine goesL_ (some 46) rfl rfl Tryd.func9 (by kernel_rfl) rfl #[.agg #[.int .i64 t535, .int .i64 t536, .int .i64 t537, .int .i64 t538, .int .i64 t539, .int .i64 t540], .agg #[.int .i64 a0_0, .int .i64 a0_1]] rfl (by (try simp only [List.map_toArray, List.map_cons, List.map_nil]); first | done | rfl | (simp only [List.length_drop, List.length_take]; rfl)) ?_; (with_reducible refine (affine_Apply.calls kj3 t535 t536 t537 t538 t539 t540 a0_0 a0_1 t551 t552 t553 _ ?side1 A16.out).mono ?_); (case side1 => exact Gl.below HG.out (wq HB.out)); rintro e w49 ⟨rfl, hb⟩; refine ⟨_, rfl, ?_⟩; have n0_ := Aside0.mk (blk_below (g := gb526) (o := .cells #[.int .i64 a0_0, .int .i64 a0_1] 25 (0, 0)) (by refine bq ?_; refine blk_far ?_ NB526_550.out _; refine bq ?_; refine blk_far ?_ NB526_550.out _; refine bq ?_; refine blk_far ?_ NB526_550.out _; refine bq ?_; refine blk_far ?_ NB526_550.out _; refine bq ?_; refine blk_far ?_ NB526_550.out _; refine bq ?_; refine blk_far ?_ NB526_550.out _; refine bq ?_; exact BK526.out) hb); have n1_ := Aside0.mk (blk_below (g := gb530) (o := .cells #[.int .i64 0, .int .i64 65536, .int .i64 (-65536), .int .i64 0, .int .i64 0, .int .i64 0] 23 (0, 0)) (by refine bq ?_; refine blk_far ?_ NB530_550.out _; refine bq ?_; refine blk_far ?_ NB530_550.out _; refine bq ?_; refine blk_far ?_ NB530_550.out _; refine bq ?_; refine blk_far ?_ NB530_550.out _; refine bq ?_; refine blk_far ?_ NB530_550.out _; refine bq ?_; refine blk_far ?_ NB530_550.out _; refine bq ?_; exact BK530.out) hb); have n2_ := Aside0.mk (blk_below (g := gb534) (o := .cells #[.int .i64 t531, .int .i64 t532] 25 (0, 0)) (by refine bq ?_; refine blk_far ?_ NB534_550.out _; refine bq ?_; refine blk_far ?_ NB534_550.out _; refine bq ?_; refine blk_far ?_ NB534_550.out _; refine bq ?_; refine blk_far ?_ NB534_550.out _; refine bq ?_; refine blk_far ?_ NB534_550.out _; refine bq ?_; refine blk_far ?_ NB534_550.out _; refine bq ?_; exact BK534.out) hb); have n3_ := Aside0.mk (blk_below (g := gb542) (o := .cells #[.int .i64 t535, .int .i64 t536, .int .i64 t537, .int .i64 t538, .int .i64 t539, .int .i64 t540] 23 (0, 0)) (by refine bq ?_; refine blk_far ?_ NB542_550.out _; refine bq ?_; refine blk_far ?_ NB542_550.out _; refine bq ?_; refine blk_far ?_ NB542_550.out _; refine bq ?_; refine blk_far ?_ NB542_550.out _; refine bq ?_; refine blk_far ?_ NB542_550.out _; refine bq ?_; refine blk_far ?_ NB542_550.out _; refine bq ?_; exact BK542.out) hb); have n4_ := Aside0.mk (blk_below (g := gb550) (o := .cells #[.int .i64 t543, .int .i64 t544, .int .i64 t545, .int .i64 t546, .int .i64 t547, .int .i64 t548] 23 (0, 0)) (by refine bq ?_; refine blk_put (cs := #[.int .i64 t543, .int .i64 t544, .int .i64 t545, .int .i64 t546, .int .i64 t547, .int .i64 0]) ?_ 5 _ rfl; refine bq ?_; refine blk_put (cs := #[.int .i64 t543, .int .i64 t544, .int .i64 t545, .int .i64 t546, .int .i64 0, .int .i64 0]) ?_ 4 _ rfl; refine bq ?_; refine blk_put (cs := #[.int .i64 t543, .int .i64 t544, .int .i64 t545, .int .i64 0, .int .i64 0, .int .i64 0]) ?_ 3 _ rfl; refine bq ?_; refine blk_put (cs := #[.int .i64 t543, .int .i64 t544, .int .i64 0, .int .i64 0, .int .i64 0, .int .i64 0]) ?_ 2 _ rfl; refine bq ?_; refine blk_put (cs := #[.int .i64 t543, .int .i64 0, .int .i64 0, .int .i64 0, .int .i64 0, .int .i64 0]) ?_ 1 _ rfl; refine bq ?_; refine blk_put (cs := #[.int .i64 0, .int .i64 0, .int .i64 0, .int .i64 0, .int .i64 0, .int .i64 0]) ?_ 0 _ rfl; refine bq ?_; exact BK550.out) hb); have n5_ := Aside0.mk (below_step (wq HB.out) hb); clear BK526 BK530 BK534 BK542; clear BK550 HB; have BK526 := n0_; have BK530 := n1_; have BK534 := n2_; have BK542 := n3_; have BK550 := n4_; have HB := n5_; clear n0_ n1_ n2_ n3_ n4_ n5_; (try clear hb); (try clear hb2); (try clear hk); (try clear hi)) | ((with_reducible refine gate_dst (N := 10) rfl ?_); refine box_event ?hg (N := 10) ?hd (cs := #[.int .i64 0, .int .i64 0]) (t := 25) ?hr ?_; (case hd => rfl); (case hg => rfl); (case hr => first | (go_simp; done) | (go_simp; rfl)); intro gb554 hg w50 hbox hb; have n0_ := Aside0.mk (blk_below (bq BK526.out) hb); have n1_ := Aside0.mk (blk_below (bq BK530.out) hb); have n2_ := Aside0.mk (blk_below (bq BK534.out) hb); have n3_ := Aside0.mk (blk_below (bq BK542.out) hb); have n4_ := Aside0.mk (blk_below (bq BK550.out) hb); have n5_ := Aside0.mk (below_step (wq HB.out) hb); have n6_ := Aside0.mk (hbox); have n7_ := Aside0.mk ((by rw [hg]; exact (below_size (wq HB.out)) : w.heap.size ≤ gb554)); have n8_ := n7_; have n9_ := Aside0.mk ((by rw [hg]; exact Nat.ne_of_lt (blk_lt (bq BK526.out)) : gb526 ≠ gb554)); have n10_ := Aside0.mk ((by rw [hg]; exact Nat.ne_of_gt (blk_lt (bq BK526.out)) : gb554 ≠ gb526)); have n11_ := Aside0.mk ((by rw [hg]; exact Nat.ne_of_lt (blk_lt (bq BK530.out)) : gb530 ≠ gb554)); have n12_ := Aside0.mk ((by rw [hg]; exact Nat.ne_of_gt (blk_lt (bq BK530.out)) : gb554 ≠ gb530)); have n13_ := Aside0.mk ((by rw [hg]; exact Nat.ne_of_lt (blk_lt (bq BK534.out)) : gb534 ≠ gb554)); have n14_ := Aside0.mk ((by rw [hg]; exact Nat.ne_of_gt (blk_lt (bq BK534.out)) : gb554 ≠ gb534)); have n15_ := Aside0.mk ((by rw [hg]; exact Nat.ne_of_lt (blk_lt (bq BK542.out)) : gb542 ≠ gb554)); have n16_ := Aside0.mk ((by rw [hg]; exact Nat.ne_of_gt (blk_lt (bq BK542.out)) : gb554 ≠ gb542)); have n17_ := Aside0.mk ((by rw [hg]; exact Nat.ne_of_lt (blk_lt (bq BK550.out)) : gb550 ≠ gb554)); have n18_ := Aside0.mk ((by rw [hg]; exact Nat.ne_of_gt (blk_lt (bq BK550.out)) : gb554 ≠ gb550)); clear BK526 BK530 BK534 BK542; clear BK550 HB; have BK526 := n0_; have BK530 := n1_; have BK534 := n2_; have BK542 := n3_; have BK550 := n4_; have HB := n5_; have BK554 := n6_; have GW554 := n7_; have GE554 := n8_; have NB526_554 := n9_; have NB554_526 := n10_; have NB530_554 := n11_; have NB554_530 := n12_; have NB534_554 := n13_; have NB554_534 := n14_; have NB542_554 := n15_; have NB554_542 := n16_; have NB550_554 := n17_; have NB554_550 := n18_; clear n0_ n1_ n2_ n3_ n4_ n5_ n6_ n7_ n8_ n9_ n10_ n11_ n12_ n13_ n14_ n15_ n16_ n17_ n18_ hb hbox hg; have hnb51 := NB554_526.out; have hnc51 := NB526_554.out; have hnb52 := NB554_530.out; have hnc52 := NB530_554.out; have hnb53 := NB554_534.out; have hnc53 := NB534_554.out; have hnb54 := NB554_542.out; have hnc54 := NB542_554.out; have hnb55 := NB554_550.out; have hnc55 := NB550_554.out; have hcz56_0 : w50.cell? ⟨gb554, 0, none⟩ = some (.int .i64 0) := (blk_cell BK554.out 0).trans rfl; have hcz56_1 : w50.cell? ⟨gb554, 1, none⟩ = some (.int .i64 0) := (blk_cell BK554.out 1).trans rfl; have hfz56_0 := blk_frozen BK554.out 0; have hfz56_1 := blk_frozen BK554.out 1))
           have n0_ : Aside0 (((w50.setCell ⟨gb554, 0, none⟩ (.int .i64 t551)).setCell ⟨gb554, 1, none⟩ (.int .i64 t552)).heap[gb526]? = some (.cells #[.int .i64 a0_0, .int .i64 a0_1] 25 (0, 0))) := ⟨by refine bq ?_; refine blk_far ?_ NB526_554.out _; refine bq ?_; refine blk_far ?_ NB526_554.out _; refine bq ?_; exact BK526.out⟩
           have n1_ : Aside0 (((w50.setCell ⟨gb554, 0, none⟩ (.int .i64 t551)).setCell ⟨gb554, 1, none⟩ (.int .i64 t552)).heap[gb530]? = some (.cells #[.int .i64 0, .int .i64 65536, .int .i64 (-65536), .int .i64 0, .int .i64 0, .int .i64 0] 23 (0, 0))) := ⟨by refine bq ?_; refine blk_far ?_ NB530_554.out _; refine bq ?_; refine blk_far ?_ NB530_554.out _; refine bq ?_; exact BK530.out⟩
           have n2_ : Aside0 (((w50.setCell ⟨gb554, 0, none⟩ (.int .i64 t551)).setCell ⟨gb554, 1, none⟩ (.int .i64 t552)).heap[gb534]? = some (.cells #[.int .i64 t531, .int .i64 t532] 25 (0, 0))) := ⟨by refine bq ?_; refine blk_far ?_ NB534_554.out _; refine bq ?_; refine blk_far ?_ NB534_554.out _; refine bq ?_; exact BK534.out⟩
           have n3_ : Aside0 (((w50.setCell ⟨gb554, 0, none⟩ (.int .i64 t551)).setCell ⟨gb554, 1, none⟩ (.int .i64 t552)).heap[gb542]? = some (.cells #[.int .i64 t535, .int .i64 t536, .int .i64 t537, .int .i64 t538, .int .i64 t539, .int .i64 t540] 23 (0, 0))) := ⟨by refine bq ?_; refine blk_far ?_ NB542_554.out _; refine bq ?_; refine blk_far ?_ NB542_554.out _; refine bq ?_; exact BK542.out⟩
           have n4_ : Aside0 (((w50.setCell ⟨gb554, 0, none⟩ (.int .i64 t551)).setCell ⟨gb554, 1, none⟩ (.int .i64 t552)).heap[gb550]? = some (.cells #[.int .i64 t543, .int .i64 t544, .int .i64 t545, .int .i64 t546, .int .i64 t547, .int .i64 t548] 23 (0, 0))) := ⟨by refine bq ?_; refine blk_far ?_ NB550_554.out _; refine bq ?_; refine blk_far ?_ NB550_554.out _; refine bq ?_; exact BK550.out⟩
           have n5_ : Aside0 (((w50.setCell ⟨gb554, 0, none⟩ (.int .i64 t551)).setCell ⟨gb554, 1, none⟩ (.int .i64 t552)).heap[gb554]? = some (.cells #[.int .i64 t551, .int .i64 t552] 25 (0, 0))) := ⟨by refine bq ?_; refine blk_put (cs := #[.int .i64 t551, .int .i64 0]) ?_ 1 _ rfl; refine bq ?_; refine blk_put (cs := #[.int .i64 0, .int .i64 0]) ?_ 0 _ rfl; refine bq ?_; exact BK554.out⟩
           have n6_ : Aside0 (Below w.heap.size w ((w50.setCell ⟨gb554, 0, none⟩ (.int .i64 t551)).setCell ⟨gb554, 1, none⟩ (.int .i64 t552))) := ⟨by exact wq HB.out⟩
           (try clear BK526)
           (try clear BK530)
           (try clear BK534)
           (try clear BK542)
           (try clear BK550)
           (try clear BK554)
           (try clear HB)
           generalize ((w50.setCell ⟨gb554, 0, none⟩ (.int .i64 t551)).setCell ⟨gb554, 1, none⟩ (.int .i64 t552)) = w57 at n0_ n1_ n2_ n3_ n4_ n5_ n6_ ⊢
           have BK526 := n0_; have BK530 := n1_; have BK534 := n2_; have BK542 := n3_; have BK550 := n4_; have BK554 := n5_; have HB := n6_; clear n0_ n1_ n2_ n3_ n4_ n5_ n6_
           have n0_ := Aside0.mk (blk_drew BK526.out)
           have n1_ := Aside0.mk (blk_drew BK530.out)
           have n2_ := Aside0.mk (blk_drew BK534.out)
           have n3_ := Aside0.mk (blk_drew BK542.out)
           have n4_ := Aside0.mk (blk_drew BK550.out)
           have n5_ := Aside0.mk (blk_drew BK554.out)
           have n6_ := Aside0.mk (below_drew1 HB.out)
           clear BK526 BK530 BK534 BK542; clear BK550 BK554 HB; have BK526 := n0_; have BK530 := n1_; have BK534 := n2_; have BK542 := n3_; have BK550 := n4_; have BK554 := n5_; have HB := n6_; clear n0_ n1_ n2_ n3_ n4_ n5_ n6_
           refine start_ (n := 41) (S := fun w' => w'.cell? ⟨gb534, 0, none⟩ = some (.int .i64 t531) ∧ w'.cell? ⟨gb534, 1, none⟩ = some (.int .i64 t532) ∧ w'.cell? ⟨gb526, 0, none⟩ = some (.int .i64 a0_0) ∧ w'.cell? ⟨gb526, 1, none⟩ = some (.int .i64 a0_1) ∧ w'.cell? ⟨gb554, 0, none⟩ = some (.int .i64 t551) ∧ w'.cell? ⟨gb554, 1, none⟩ = some (.int .i64 t552) ∧ w'.cell? ⟨gb550, 0, none⟩ = some (.int .i64 t543) ∧ w'.cell? ⟨gb550, 1, none⟩ = some (.int .i64 t544) ∧ w'.cell? ⟨gb550, 2, none⟩ = some (.int .i64 t545) ∧ w'.cell? ⟨gb550, 3, none⟩ = some (.int .i64 t546) ∧ w'.cell? ⟨gb550, 4, none⟩ = some (.int .i64 t547) ∧ w'.cell? ⟨gb550, 5, none⟩ = some (.int .i64 t548)) (ds := []) (bt 0 41) (by kernel_rfl) rfl rfl ⟨(blk_cell BK534.out 0).trans rfl, (blk_cell BK534.out 1).trans rfl, (blk_cell BK526.out 0).trans rfl, (blk_cell BK526.out 1).trans rfl, (blk_cell BK554.out 0).trans rfl, (blk_cell BK554.out 1).trans rfl, (blk_cell BK550.out 0).trans rfl, (blk_cell BK550.out 1).trans rfl, (blk_cell BK550.out 2).trans rfl, (blk_cell BK550.out 3).trans rfl, (blk_cell BK550.out 4).trans rfl, (blk_cell BK550.out 5).trans rfl⟩ (fun hHeld => ?_); refine with_tabW pointillistlaw08_AffineTurns.tab10 pointillistlaw08_AffineTurns.bits10 (fun HT_ HW_ => ?_)
           generalize w57.drew = w58 at BK526 BK530 BK534 BK542 BK550 BK554 HB hHeld ⊢
           refine pure_ (i := 0) (N := some 49) (v := ?_) (a' := ?_) (bt 1 40) rfl rfl (any_of HT_.out (by kernel_rfl)) (fun _ _ _ h => h) (Or.inl ⟨by rfl, ?_⟩) ?_ ?_
           rotate_left; focus (intro w'; go_simp; with_reducible rfl)
           rotate_left; focus (simp only [apz, i64_w, i32_w]; rfl)
           refine pure_ (i := 1) (N := some 50) (v := ?_) (a' := ?_) (bt 2 39) rfl rfl (any_of HT_.out (by kernel_rfl)) (fun _ _ _ h => h) (Or.inl ⟨by rfl, ?_⟩) ?_ ?_
           rotate_left; focus (intro w'; go_simp; with_reducible rfl)
           rotate_left; focus (simp only [apz, i64_w, i32_w]; rfl)
           refine pure_ (i := 2) (N := some 51) (v := ?_) (a' := ?_) (bt 3 38) rfl rfl (any_of HT_.out (by kernel_rfl)) (fun _ _ _ h => h) (Or.inl ⟨by rfl, ?_⟩) ?_ ?_
           rotate_left; focus (intro w'; go_simp; with_reducible rfl)
           rotate_left; focus (simp only [apz, i64_w, i32_w]; rfl)
           refine pure_ (i := 3) (N := some 52) (v := ?_) (a' := ?_) (bt 4 37) rfl rfl (any_of HT_.out (by kernel_rfl)) (fun _ _ _ h => h) (Or.inl ⟨by rfl, ?_⟩) ?_ ?_
           rotate_left; focus (intro w'; go_simp; with_reducible rfl)
           rotate_left; focus (simp only [apz, i64_w, i32_w]; rfl)
           refine pure_ (i := 4) (N := some 53) (v := ?_) (a' := ?_) (bt 5 36) rfl rfl (any_of HT_.out (by kernel_rfl)) (fun _ _ _ h => h) (Or.inl ⟨by rfl, ?_⟩) ?_ ?_
           rotate_left; focus (intro w'; go_simp; with_reducible rfl)
           rotate_left; focus (simp only [apz, i64_w, i32_w]; rfl)
           refine pure_ (i := 5) (N := some 54) (v := ?_) (a' := ?_) (bt 6 35) rfl rfl (any_of HT_.out (by kernel_rfl)) (fun _ _ _ h => h) (Or.inl ⟨by rfl, ?_⟩) ?_ ?_
           rotate_left; focus (intro w'; go_simp; with_reducible rfl)
           rotate_left; focus (simp only [apz, i64_w, i32_w]; rfl)
           refine pure_ (i := 6) (N := some 55) (v := ?_) (a' := ?_) (bt 7 34) rfl rfl (any_of HT_.out (by kernel_rfl)) (fun _ _ _ h => h) (Or.inl ⟨by rfl, ?_⟩) ?_ ?_
           rotate_left; focus (intro w'; go_simp; with_reducible rfl)
           rotate_left; focus (simp only [apz, i64_w, i32_w]; rfl)
           refine pure_ (i := 7) (N := some 56) (v := ?_) (a' := ?_) (bt 8 33) rfl rfl (any_of HT_.out (by kernel_rfl)) (fun _ _ _ h => h) (Or.inl ⟨by rfl, ?_⟩) ?_ ?_
           rotate_left; focus (intro w'; go_simp; with_reducible rfl)
           rotate_left; focus (simp only [apz, i64_w, i32_w]; rfl)
           refine pure_ (i := 8) (N := some 57) (v := ?_) (a' := ?_) (bt 9 32) rfl rfl (any_of HT_.out (by kernel_rfl)) (fun _ _ _ h => h) (Or.inl ⟨by rfl, ?_⟩) ?_ ?_
           rotate_left; focus (intro w'; go_simp; with_reducible rfl)
           rotate_left; focus (simp only [apz, i64_w, i32_w]; rfl)
           refine pure_ (i := 9) (N := some 58) (v := ?_) (a' := ?_) (bt 10 31) rfl rfl (any_of HT_.out (by kernel_rfl)) (fun _ _ _ h => h) (Or.inl ⟨by rfl, ?_⟩) ?_ ?_
           rotate_left; focus (intro w'; go_simp; with_reducible rfl)
           rotate_left; focus (simp only [apz, i64_w, i32_w]; rfl)
           refine pure_ (i := 10) (N := some 59) (v := ?_) (a' := ?_) (bt 11 30) rfl rfl (any_of HT_.out (by kernel_rfl)) (fun _ _ _ h => h) (Or.inl ⟨by rfl, ?_⟩) ?_ ?_
           rotate_left; focus (intro w'; go_simp; with_reducible rfl)
           rotate_left; focus (simp only [apz, i64_w, i32_w]; rfl)
           refine pure_ (i := 11) (N := some 60) (v := ?_) (a' := ?_) (bt 12 29) rfl rfl (any_of HT_.out (by kernel_rfl)) (fun _ _ _ h => h) (Or.inl ⟨by rfl, ?_⟩) ?_ ?_
           rotate_left; focus (intro w'; go_simp; with_reducible rfl)
           rotate_left; focus (simp only [apz, i64_w, i32_w]; rfl)
           refine pure_ (i := 12) (N := some 61) (v := ?_) (a' := ?_) (bt 13 28) rfl rfl (any_of HT_.out (by kernel_rfl)) (fun _ _ _ h => h) (Or.inl ⟨by rfl, ?_⟩) ?_ ?_
           rotate_left; focus (intro w'; go_simp; with_reducible rfl)
           rotate_left; focus (simp only [apz, i64_w, i32_w]; rfl)
           refine pure_ (i := 13) (N := some 62) (v := ?_) (a' := ?_) (bt 14 27) rfl rfl (any_of HT_.out (by kernel_rfl)) (fun _ _ _ h => h) (Or.inl ⟨by rfl, ?_⟩) ?_ ?_
           rotate_left; focus (intro w'; go_simp; with_reducible rfl)
           rotate_left; focus (simp only [apz, i64_w, i32_w]; rfl)
           refine pure_ (i := 14) (N := some 63) (v := ?_) (a' := ?_) (bt 15 26) rfl rfl (any_of HT_.out (by kernel_rfl)) (fun _ _ _ h => h) (Or.inl ⟨by rfl, ?_⟩) ?_ ?_
           rotate_left; focus (intro w'; go_simp; with_reducible rfl)
           rotate_left; focus (simp only [apz, i64_w, i32_w]; rfl)
           refine pure_ (i := 16) (N := some 65) (v := ?_) (a' := ?_) (bm 41 98303) rfl rfl (any_of HT_.out (by kernel_rfl)) (fun _ _ _ h => h) (Or.inl ⟨by rfl, ?_⟩) ?_ ?_
           rotate_left; focus (intro w'; go_simp; with_reducible rfl)
           rotate_left; focus (simp only [apz, i64_w, i32_w]; rfl)
           refine pure_ (i := 19) (N := some 68) (v := ?_) (a' := ?_) (bm 41 622591) rfl rfl (any_of HT_.out (by kernel_rfl)) (fun _ _ _ h => h) (Or.inl ⟨by rfl, ?_⟩) ?_ ?_
           rotate_left; focus (intro w'; go_simp; with_reducible rfl)
           rotate_left; focus (simp only [apz, i64_w, i32_w]; rfl)
           refine take_ (i := 15) (N := some 64) (v := ?_) (a' := ?_) (bm 41 655359) rfl rfl (take_ofW HT_.out HW_.out (by kernel_rfl)) (fun _ _ _ h => h) (Or.inl ⟨by rfl, ?_⟩) hHeld ?_ ?_
           rotate_left
           ·
            rintro w' ⟨s0, s1, s2, s3, s4, s5, s6, s7, s8, s9, s10, s11⟩
            go_simp
            with_reducible rfl
           rotate_left; focus (simp only [apz, i64_w, i32_w]; rfl)
           refine take_ (i := 17) (N := some 66) (v := ?_) (a' := ?_) (bm 41 786431) rfl rfl (take_ofW HT_.out HW_.out (by kernel_rfl)) (fun _ _ _ h => h) (Or.inl ⟨by rfl, ?_⟩) hHeld ?_ ?_
           rotate_left
           ·
            rintro w' ⟨s0, s1, s2, s3, s4, s5, s6, s7, s8, s9, s10, s11⟩
            go_simp
            with_reducible rfl
           rotate_left; focus (simp only [apz, i64_w, i32_w]; rfl)
           refine pure_ (i := 18) (N := some 67) (v := ?_) (a' := ?_) (bt 20 21) rfl rfl (any_of HT_.out (by kernel_rfl)) (fun _ _ _ h => h) (Or.inl ⟨by rfl, ?_⟩) ?_ ?_
           rotate_left; focus (intro w'; go_simp; with_reducible rfl)
           rotate_left; focus (simp only [apz, i64_w, i32_w]; rfl)
           refine take_ (i := 20) (N := some 69) (v := ?_) (a' := ?_) (bt 21 20) rfl rfl (take_ofW HT_.out HW_.out (by kernel_rfl)) (fun _ _ _ h => h) (Or.inl ⟨by rfl, ?_⟩) hHeld ?_ ?_
           rotate_left
           ·
            rintro w' ⟨s0, s1, s2, s3, s4, s5, s6, s7, s8, s9, s10, s11⟩
            go_simp
            with_reducible rfl
           rotate_left; focus (simp only [apz, i64_w, i32_w]; rfl)
           refine pure_ (i := 21) (N := some 70) (v := ?_) (a' := ?_) (bt 22 19) rfl rfl (any_of HT_.out (by kernel_rfl)) (fun _ _ _ h => h) (Or.inl ⟨by rfl, ?_⟩) ?_ ?_
           rotate_left; focus (intro w'; go_simp; with_reducible rfl)
           rotate_left; focus (simp only [apz, i64_w, i32_w]; rfl)
           refine pure_ (i := 22) (N := some 71) (v := ?_) (a' := ?_) (bt 23 18) rfl rfl (any_of HT_.out (by kernel_rfl)) (fun _ _ _ h => h) (Or.inl ⟨by rfl, ?_⟩) ?_ ?_
           rotate_left; focus (intro w'; go_simp; with_reducible rfl)
           rotate_left; focus (simp only [apz, i64_w, i32_w]; rfl)
           refine pure_ (i := 23) (N := some 72) (v := ?_) (a' := ?_) (bt 24 17) rfl rfl (any_of HT_.out (by kernel_rfl)) (fun _ _ _ h => h) (Or.inl ⟨by rfl, ?_⟩) ?_ ?_
           rotate_left; focus (intro w'; go_simp; with_reducible rfl)
           rotate_left; focus (simp only [apz, i64_w, i32_w]; rfl)
           refine pure_ (i := 24) (N := some 73) (v := ?_) (a' := ?_) (bt 25 16) rfl rfl (any_of HT_.out (by kernel_rfl)) (fun _ _ _ h => h) (Or.inl ⟨by rfl, ?_⟩) ?_ ?_
           rotate_left; focus (intro w'; go_simp; with_reducible rfl)
           rotate_left; focus (simp only [apz, i64_w, i32_w]; rfl)
           refine pure_ (i := 26) (N := some 75) (v := ?_) (a' := ?_) (bm 41 100663295) rfl rfl (any_of HT_.out (by kernel_rfl)) (fun _ _ _ h => h) (Or.inl ⟨by rfl, ?_⟩) ?_ ?_
           rotate_left; focus (intro w'; go_simp; with_reducible rfl)
           rotate_left; focus (simp only [apz, i64_w, i32_w]; rfl)
           refine pure_ (i := 29) (N := some 78) (v := ?_) (a' := ?_) (bm 41 637534207) rfl rfl (any_of HT_.out (by kernel_rfl)) (fun _ _ _ h => h) (Or.inl ⟨by rfl, ?_⟩) ?_ ?_
           rotate_left; focus (intro w'; go_simp; with_reducible rfl)
           rotate_left; focus (simp only [apz, i64_w, i32_w]; rfl)
           refine take_ (i := 25) (N := some 74) (v := ?_) (a' := ?_) (bm 41 671088639) rfl rfl (take_ofW HT_.out HW_.out (by kernel_rfl)) (fun _ _ _ h => h) (Or.inl ⟨by rfl, ?_⟩) hHeld ?_ ?_
           rotate_left
           ·
            rintro w' ⟨s0, s1, s2, s3, s4, s5, s6, s7, s8, s9, s10, s11⟩
            go_simp
            with_reducible rfl
           rotate_left; focus (simp only [apz, i64_w, i32_w]; rfl)
           refine take_ (i := 27) (N := some 76) (v := ?_) (a' := ?_) (bm 41 805306367) rfl rfl (take_ofW HT_.out HW_.out (by kernel_rfl)) (fun _ _ _ h => h) (Or.inl ⟨by rfl, ?_⟩) hHeld ?_ ?_
           rotate_left
           ·
            rintro w' ⟨s0, s1, s2, s3, s4, s5, s6, s7, s8, s9, s10, s11⟩
            go_simp
            with_reducible rfl
           rotate_left; focus (simp only [apz, i64_w, i32_w]; rfl)
           refine pure_ (i := 28) (N := some 77) (v := ?_) (a' := ?_) (bt 30 11) rfl rfl (any_of HT_.out (by kernel_rfl)) (fun _ _ _ h => h) (Or.inl ⟨by rfl, ?_⟩) ?_ ?_
           rotate_left; focus (intro w'; go_simp; with_reducible rfl)
           rotate_left; focus (simp only [apz, i64_w, i32_w]; rfl)
           refine take_ (i := 30) (N := some 79) (v := ?_) (a' := ?_) (bt 31 10) rfl rfl (take_ofW HT_.out HW_.out (by kernel_rfl)) (fun _ _ _ h => h) (Or.inl ⟨by rfl, ?_⟩) hHeld ?_ ?_
           rotate_left
           ·
            rintro w' ⟨s0, s1, s2, s3, s4, s5, s6, s7, s8, s9, s10, s11⟩
            go_simp
            with_reducible rfl
           rotate_left; focus (simp only [apz, i64_w, i32_w]; rfl)
           refine pure_ (i := 31) (N := some 80) (v := ?_) (a' := ?_) (bt 32 9) rfl rfl (any_of HT_.out (by kernel_rfl)) (fun _ _ _ h => h) (Or.inl ⟨by rfl, ?_⟩) ?_ ?_
           rotate_left; focus (intro w'; go_simp; with_reducible rfl)
           rotate_left; focus (simp only [apz, i64_w, i32_w]; rfl)
           refine pure_ (i := 32) (N := some 81) (v := ?_) (a' := ?_) (bt 33 8) rfl rfl (any_of HT_.out (by kernel_rfl)) (fun _ _ _ h => h) (Or.inl ⟨by rfl, ?_⟩) ?_ ?_
           rotate_left; focus (intro w'; go_simp; with_reducible rfl)
           rotate_left; focus (simp only [apz, i64_w, i32_w]; rfl)
           refine pure_ (i := 33) (N := some 82) (v := ?_) (a' := ?_) (bt 34 7) rfl rfl (any_of HT_.out (by kernel_rfl)) (fun _ _ _ h => h) (Or.inl ⟨by rfl, ?_⟩) ?_ ?_
           rotate_left; focus (intro w'; go_simp; with_reducible rfl)
           rotate_left; focus (simp only [apz, i64_w, i32_w]; rfl)
           refine pure_ (i := 34) (N := some 83) (v := ?_) (a' := ?_) (bt 35 6) rfl rfl (any_of HT_.out (by kernel_rfl)) (fun _ _ _ h => h) (Or.inl ⟨by rfl, ?_⟩) ?_ ?_
           rotate_left; focus (intro w'; go_simp; with_reducible rfl)
           rotate_left; focus (simp only [apz, i64_w, i32_w]; rfl)
           refine pure_ (i := 35) (N := some 84) (v := ?_) (a' := ?_) (bt 36 5) rfl rfl (any_of HT_.out (by kernel_rfl)) (fun _ _ _ h => h) (Or.inl ⟨by rfl, ?_⟩) ?_ ?_
           rotate_left; focus (intro w'; go_simp; with_reducible rfl)
           rotate_left; focus (simp only [apz, i64_w, i32_w]; rfl)
           refine take_ (i := 36) (N := some 85) (v := ?_) (a' := ?_) (bt 37 4) rfl rfl (take_ofW HT_.out HW_.out (by kernel_rfl)) (fun _ _ _ h => h) (Or.inl ⟨by rfl, ?_⟩) hHeld ?_ ?_
           rotate_left
           ·
            rintro w' ⟨s0, s1, s2, s3, s4, s5, s6, s7, s8, s9, s10, s11⟩
            go_simp
            with_reducible rfl
           rotate_left; focus (simp only [apz, i64_w, i32_w]; rfl)
           refine one_ (i := 37) (N := some 86) (bt 38 3) rfl rfl (one_of HT_.out (by kernel_rfl)) (by decide) (fun K hK => ?_)
           refine goes_ Tryd.func11 (by kernel_rfl) rfl #[] (by rfl) rfl rfl (by (try simp only [List.map_toArray, List.map_cons, List.map_nil]); first | done | rfl | (simp only [List.length_drop, List.length_take]; rfl)) ?_
           with_reducible refine (affine_Same.calls  t555 t556 t557 t558 t559 t560 _ A23.out).mono ?_
           rintro e w59 ⟨rfl, hb⟩
           refine ⟨_, rfl, ?_⟩
           have n0_ := Aside0.mk (blk_below (bq BK526.out) hb)
           have n1_ := Aside0.mk (blk_below (bq BK530.out) hb)
           have n2_ := Aside0.mk (blk_below (bq BK534.out) hb)
           have n3_ := Aside0.mk (blk_below (bq BK542.out) hb)
           have n4_ := Aside0.mk (blk_below (bq BK550.out) hb)
           have n5_ := Aside0.mk (blk_below (bq BK554.out) hb)
           have n6_ := Aside0.mk (below_step (wq HB.out) hb)
           clear BK526 BK530 BK534 BK542; clear BK550 BK554 HB; have BK526 := n0_; have BK530 := n1_; have BK534 := n2_; have BK542 := n3_; have BK550 := n4_; have BK554 := n5_; have HB := n6_; clear n0_ n1_ n2_ n3_ n4_ n5_ n6_
           (try clear hb)
           (try clear hb2)
           (try clear hk)
           (try clear hi)
           refine hK.out _ _ ⟨(blk_cell BK534.out 0).trans rfl, (blk_cell BK534.out 1).trans rfl, (blk_cell BK526.out 0).trans rfl, (blk_cell BK526.out 1).trans rfl, (blk_cell BK554.out 0).trans rfl, (blk_cell BK554.out 1).trans rfl, (blk_cell BK550.out 0).trans rfl, (blk_cell BK550.out 1).trans rfl, (blk_cell BK550.out 2).trans rfl, (blk_cell BK550.out 3).trans rfl, (blk_cell BK550.out 4).trans rfl, (blk_cell BK550.out 5).trans rfl⟩ (fun hHeld => ?_)
           clear hK K
           refine norm_ (a' := ?_) ?_ ?_
           rotate_left
           ·
            show Act.put _ (some 86) _ = _
            simp only [apz, i64_w, i32_w]
            rfl
           refine pure_ (i := 38) (N := some 87) (v := ?_) (a' := ?_) (bt 39 2) rfl rfl (any_of HT_.out (by kernel_rfl)) (fun _ _ _ h => h) (Or.inl ⟨by rfl, ?_⟩) ?_ ?_
           rotate_left; focus (intro w'; go_simp; with_reducible rfl)
           rotate_left; focus (simp only [apz, i64_w, i32_w]; rfl)
           refine pure_ (i := 39) (N := some 88) (v := ?_) (a' := ?_) (bt 40 1) rfl rfl (any_of HT_.out (by kernel_rfl)) (fun _ _ _ h => h) (Or.inl ⟨by rfl, ?_⟩) ?_ ?_
           rotate_left; focus (intro w'; go_simp; with_reducible rfl)
           rotate_left; focus (simp only [apz, i64_w, i32_w]; rfl)
           refine pure_ (i := 40) (N := some 2) (v := ?_) (a' := ?_) (bt 41 0) rfl rfl (any_of HT_.out (by kernel_rfl)) (fun _ _ _ h => h) (Or.inl ⟨by rfl, ?_⟩) ?_ ?_
           rotate_left; focus (intro w'; go_simp; with_reducible rfl)
           rotate_left; focus (simp only [apz, i64_w, i32_w]; rfl)
           refine done_ (done_of HT_.out (by kernel_rfl)) ?_
           try go_wp2
           go_ret
           exact ⟨by first | rfl | (simp [errW_none, errW_some] <;> rfl) | (rw [HE_.out]; done) | (simp [HE_.out]; done) | (have h_ := HE_.out; simp_all; done) | (have h_ := HE_.out; simp [*] at h_; simp [*, h_]; done) | (simp [*, errW_none, errW_some] <;> rfl), by exact wq HB.out⟩
          ·
           rw [if_neg c22] at H
           have c22b0 : (t551 == (wrap64 (-a0_0)) && (t552 == (wrap64 (-a0_1)))) = false := by simpa using c22
           (try (have c22b1 : decide (t551 = (wrap64 (-a0_0)) && (t552 == (wrap64 (-a0_1)))) = false := by simpa using c22))
           (try (have c22b2 : (t551 == (wrap64 (-a0_0)) && (t552 == (wrap64 (-a0_1)))) = false := by simpa using c22))
           (try (have c22b3 : ¬ (t551 = (wrap64 (-a0_0)) && (t552 == (wrap64 (-a0_1)))) := by simpa using c22))
           clear c22
           exact absurd H (by simp)
         ·
          rw [if_neg c21] at H
          have c21b0 : (t531 == (wrap64 (-a0_1)) && (t532 == a0_0)) = false := by simpa using c21
          (try (have c21b1 : decide (t531 = (wrap64 (-a0_1)) && (t532 == a0_0)) = false := by simpa using c21))
          (try (have c21b2 : (t531 == (wrap64 (-a0_1)) && (t532 == a0_0)) = false := by simpa using c21))
          (try (have c21b3 : ¬ (t531 = (wrap64 (-a0_1)) && (t532 == a0_0)) := by simpa using c21))
          clear c21
          exact absurd H (by simp)
        ·
         rw [if_neg c20] at H
         have c20b0 : (t553 == 0) = false := beq_eq_false_iff_ne.mpr c20
         have c20b1 : (t553 != 0) = true := bne_iff_ne.mpr c20
         exact absurd H (by simp)
       ·
        rw [if_neg c19] at H
        have c19b0 : (t549 == 0) = false := beq_eq_false_iff_ne.mpr c19
        have c19b1 : (t549 != 0) = true := bne_iff_ne.mpr c19
        exact absurd H (by simp)
      ·
       rw [if_neg c18] at H
       have c18b0 : (t541 == 0) = false := beq_eq_false_iff_ne.mpr c18
       have c18b1 : (t541 != 0) = true := bne_iff_ne.mpr c18
       exact absurd H (by simp)
     ·
      rw [if_neg c17] at H
      have c17b0 : (t533 == 0) = false := beq_eq_false_iff_ne.mpr c17
      have c17b1 : (t533 != 0) = true := bne_iff_ne.mpr c17
      exact absurd H (by simp)
 ·
  replace c3 := Bool.eq_false_iff.mpr c3
  subst c3
  have H1 : (some false) = some true := by rw [if_neg (show ¬ (false = true) by decide)] at H; exact H
  clear H
  have H := H1
  clear H1
  exact absurd H (by simp)
end Go.Proofs.YtbnjgaeeojcjbaaDoor.PR
namespace Go.Proofs.YtbnjgaeeojcjbaaDoor.PR
open Go.RowKit Go.Proofs.YtbnjgaeeojcjbaaDoorW.PrintWords
theorem turn_lin (x y c : Int) : lin 0 x (-65536) y c = -y + c := by unfold lin; rw [near16]; omega
theorem turn_lin2 (x y c : Int) : lin (-65536) x 0 y c = -x + c := by unfold lin; rw [near16]; omega
theorem turns_ev (x y : Int) : Ev (fun k => pointillistlaw08_AffineTurns.f k x y) true := by
  have bad : Ev (fun k => pointillistlaw08_AffineTurns.j0 k true x y) true := Ev.step (f := fun _ => some true) (fun k => by rw [pointillistlaw08_AffineTurns.j0, if_pos rfl]) (Ev.now _)
  unfold pointillistlaw08_AffineTurns.f
  refine Ev.bind (ev7 wakes_true) ?_
  simp only [if_true]
  rw [refin_eq, refin_eq]
  simp only [Option.bind_some]
  by_cases hx : inZ x
  · by_cases hy : inZ y
    · simp only [decide_eq_true hx, decide_eq_true hy, if_true, Bool.not_true]
      refine Ev.step (fun k => by rw [pointillistlaw08_AffineTurns.j0, if_neg (by decide)]) ?_
      have e1 : thenM 0 65536 (-65536) 0 0 0 0 65536 (-65536) 0 0 0 = (-65536, 0, 0, -65536, 0, 0, 0) := by decide
      have e2 : thenM (-65536) 0 0 (-65536) 0 0 (-65536) 0 0 (-65536) 0 0 = (65536, 0, 0, 65536, 0, 0, 0) := by decide
      have e3 : apply 0 65536 (-65536) 0 0 0 x y = (-y, x, 0) := by
        unfold apply
        rw [turn_lin, show lin 65536 x 0 y 0 = x by rw [lin_one]; omega, Int.add_zero, if_pos ⟨by decide, hx, hy⟩, if_pos ⟨by unfold inZ at *; omega, hx⟩]
      have e4 : apply (-65536) 0 0 (-65536) 0 0 x y = (-x, -y, 0) := by
        unfold apply
        rw [turn_lin2, turn_lin, Int.add_zero, Int.add_zero, if_pos ⟨by decide, hx, hy⟩, if_pos (by unfold inZ at *; omega)]
      have w1 : wrap64 (-x) = -x := w64_id _ (by unfold inZ at *; omega) (by unfold inZ at *; omega)
      have w2 : wrap64 (-y) = -y := w64_id _ (by unfold inZ at *; omega) (by unfold inZ at *; omega)
      refine Ev.bind (ev7 (fun k => apply_eq k 0 65536 (-65536) 0 0 0 x y)) ?_
      rw [e3]
      refine Ev.bind (ev7 (fun k => then_eq k 0 65536 (-65536) 0 0 0 0 65536 (-65536) 0 0 0)) ?_
      rw [e1]
      refine Ev.bind (ev7 (fun k => then_eq k (-65536) 0 0 (-65536) 0 0 (-65536) 0 0 (-65536) 0 0)) ?_
      rw [e2]
      refine Ev.bind (ev7 (fun k => apply_eq k (-65536) 0 0 (-65536) 0 0 x y)) ?_
      rw [e4]
      unfold affine_Same.f
      simp only [if_true, w1, w2, BEq.rfl, Bool.and_self, Option.bind_some]
      exact Ev.now _
    · simp only [decide_eq_true hx, decide_eq_false hy, if_true, Bool.not_false]
      exact bad
  · simp only [decide_eq_false hx, Bool.false_eq_true, if_false]
    exact bad
theorem affineTurns_walk (x y : Int) (w : World) (hG : Gl w) (_ : -9223372036854775808 ≤ x ∧ x < 9223372036854775808) (_ : -9223372036854775808 ≤ y ∧ y < 9223372036854775808) :
    Calls Tryd.prog 7 #[.agg #[.int .i64 x, .int .i64 y]] w fun e w' => e = .returned (.bool true) ∧ Below w.heap.size w w' := by
  obtain ⟨k, h⟩ := (turns_ev x y).rounds
  exact pointillistlaw08_AffineTurns.calls k x y w hG h
end Go.Proofs.YtbnjgaeeojcjbaaDoor.PR
namespace Go.Proofs.YtbnjgaeeojcjbaaDoor
open Go.ChangeShapes Go.WideShapes Go.ChangeAt
section
variable {H : Type} {enc : TypeId × Value → H} {P : Program} {w : World} {base : Nat} {spare : Nat → Bool} {held : Bool} {t : TypeId}
def isInt (P : Program) (k : IntKind) (t : TypeId) : Bool := match P.underlying t with | some (.int k') => k' == k | _ => false
theorem isInt_spec {k : IntKind} (h : isInt P k t = true) : P.underlying t = some (.int k) := by
  unfold isInt at h
  split at h
  · rename_i k' hk
    have : k' = k := by cases k' <;> cases k <;> first | rfl | (exact absurd h (by decide))
    rw [hk, this]
  · cases h
def intFields (P : Program) (k : IntKind) (fs : Array Field) : Bool := (List.range fs.size).all fun i => match fs[i]? with | some f => isInt P k f.type && f.offset == i && P.cellsOf f.type == 1 | none => false
theorem ints_of_parts {k : IntKind} {cs : List Value} {n m : Nat} {xs : List (DataW H × List MemPlace)} {T : Nat → TypeId} (hn : cs.length = n) (hx : xs.length = n) (hT : ∀ i, i < n → P.underlying (T i) = some (.int k))
    (h : ∀ i, i < n → DataW.trod enc P w base spare held m (T i) ((cs.drop i).take 1) = xs[i]?) : ∃ ns : List Int, ns.length = n ∧ cs = ns.map (Value.int k) ∧ (∀ x ∈ ns, (Lit.int k x).wf = true) ∧ xs.map (·.1) = ns.map (fun z => .lit (.int k z)) := by
  have key : ∀ i, i < n → ∃ z, cs[i]? = some (.int k z) ∧ (Lit.int k z).wf = true ∧ xs[i]? = some (.lit (.int k z), []) := by
    intro i hi
    have h1 := h i hi
    rw [List.getElem?_eq_getElem (by omega)] at h1
    obtain ⟨z, hz, hxz, hw⟩ := DataW.trod_int (hT i hi) h1
    refine ⟨z, ?_, hw, by rw [List.getElem?_eq_getElem (by omega), hxz]⟩
    have hlt : i < cs.length := by omega
    rw [List.drop_eq_getElem_cons hlt] at hz
    simp only [List.take_succ_cons, List.take_zero, List.cons.injEq, and_true] at hz
    rw [List.getElem?_eq_getElem hlt, hz]
  refine ⟨cs.map (fun v => match v with | .int _ z => z | _ => 0), by simpa using hn, ?_, ?_, ?_⟩
  · apply List.ext_getElem?
    intro i
    by_cases hi : i < n
    · obtain ⟨z, hz, _⟩ := key i hi
      simp [List.getElem?_map, hz]
    · simp [List.getElem?_map, List.getElem?_eq_none (show cs.length ≤ i by omega)]
  rotate_left
  · apply List.ext_getElem?
    intro i
    by_cases hi : i < n
    · obtain ⟨z, hz, _, hxz⟩ := key i hi
      simp [List.getElem?_map, hz, hxz]
    · simp [List.getElem?_map, List.getElem?_eq_none (show cs.length ≤ i by omega), List.getElem?_eq_none (show xs.length ≤ i by omega)]
  · intro x hx2
    rw [List.mem_map] at hx2
    obtain ⟨v, hv, hvx⟩ := hx2
    obtain ⟨i, hi⟩ := List.getElem?_of_mem hv
    have hlt : i < n := by
      have := (List.getElem?_eq_some_iff.1 hi).1
      omega
    obtain ⟨z, hz, hw, _⟩ := key i hlt
    rw [hi] at hz
    obtain rfl := Option.some.inj hz
    simp only at hvx
    rw [← hvx]
    exact hw
theorem trod_struct_ints {k : IntKind} {fs : Array Field} {fuel : Nat} {cs : List Value} {x : DataW H × List MemPlace} (ht : P.underlying t = some (.struct fs)) (hf : intFields P k fs = true) (hC : P.cellsOf t = fs.size)
    (h : DataW.trod enc P w base spare held fuel t cs = some x) : ∃ ns : List Int, ns.length = fs.size ∧ cs = ns.map (Value.int k) ∧ (∀ z ∈ ns, (Lit.int k z).wf = true) ∧ x.1 = .agg (ns.map (fun z => .lit (.int k z))) := by
  obtain ⟨xs, m, rfl, rfl, hlen, hx, hel⟩ := DataW.trod_struct ht h
  unfold intFields at hf
  rw [List.all_eq_true] at hf
  have hg : ∀ i, i < fs.size → ∃ f, fs[i]? = some f ∧ P.underlying f.type = some (.int k) ∧ f.offset = i ∧ P.cellsOf f.type = 1 := by
    intro i hi
    have := hf i (List.mem_range.2 hi)
    split at this
    · rename_i f hfi
      simp only [Bool.and_eq_true, beq_iff_eq] at this
      exact ⟨f, hfi, isInt_spec this.1.1, this.1.2, this.2⟩
    · cases this
  suffices hsuf : ∃ ns : List Int, ns.length = fs.size ∧ cs = ns.map (Value.int k) ∧ (∀ z ∈ ns, (Lit.int k z).wf = true) ∧ xs.map (·.1) = ns.map (fun z => .lit (.int k z)) by
    obtain ⟨ns, h1, h2, h3, h4⟩ := hsuf
    exact ⟨ns, h1, h2, h3, by simp only [h4]⟩
  refine ints_of_parts (enc := enc) (P := P) (w := w) (base := base) (spare := spare) (held := held) (m := m) (T := fun i => ((fs[i]?).map (·.type)).getD 0) (by omega) hx (fun i hi => ?_) (fun i hi => ?_)
  · obtain ⟨f, hfi, hu, _, _⟩ := hg i hi
    simp only [hfi, Option.map_some, Option.getD_some]
    exact hu
  · obtain ⟨f, hfi, hu, ho, hc⟩ := hg i hi
    have := hel i f hfi
    rw [ho, hc] at this
    simp only [hfi, Option.map_some, Option.getD_some]
    exact this
theorem open_struct_ints {r : Reach} {b0 : Nat} {v : Value} {d : DataW H} {p : List MemPlace} {k : IntKind} {fs : Array Field} (ht : P.underlying t = some (.struct fs)) (hf : intFields P k fs = true) (hC : P.cellsOf t = fs.size)
    (hv : Value.okWide P w r b0 t v) (h : DataW.Trod enc P w base spare held t v d p) : ∃ ns : List Int, ns.length = fs.size ∧ v = .agg (ns.map (Value.int k)).toArray ∧ ∀ z ∈ ns, (Lit.int k z).wf = true := by
  obtain ⟨cs, rfl, _⟩ := okWide_struct ht hv
  obtain ⟨fuel, hf2⟩ := h
  obtain ⟨ns, h1, h2, h3, _⟩ := trod_struct_ints ht hf hC hf2
  have h2' : cs.toList = ns.map (Value.int k) := by simpa [Value.cells] using h2
  refine ⟨ns, h1, ?_, h3⟩
  rw [← h2']
end
theorem list_of_length2 {α : Type} {l : List α} (h : l.length = 2) : ∃ a b, l = [a, b] := by
  match l, h with
  | [a, b], _ => exact ⟨a, b, rfl⟩
theorem wf_i64 {n : Int} (h : (Lit.int .i64 n).wf = true) : -9223372036854775808 ≤ n ∧ n < 9223372036854775808 := by
  simp [Lit.wf, IntKind.min, IntKind.max, IntKind.signed, IntKind.bits] at h
  omega
end Go.Proofs.YtbnjgaeeojcjbaaDoor
namespace Go.Proofs.YtbnjgaeeojcjbaaDoor
open Go.ChangeShapes Go.WideShapes Go.ChangeAt Go.RowKit
theorem gNought : Tryd.prog.globalNamed "pointillist/wide.nought" = some 0 := by kernel_rfl
theorem tNought : (Tryd.prog.globals[0]?).map (·.type) = some 69 := by kernel_rfl
theorem of_nought {W : World} (h : laidMetH Tryd.prog [("pointillist/wide.nought", Rows.laid_pointillist_wide_nought)] W) : Gl W := by
  rw [MakeChecks.laidMetH_plain _ _ _ (by kernel_rfl)] at h
  obtain ⟨ps, ⟨g0, t0, cs0, f0, p0, q0, hg0, ht0, hv0, hd0, _, _⟩, _, _⟩ := h
  obtain rfl := Option.some.inj (gNought.symm.trans hg0)
  obtain rfl := Option.some.inj (tNought.symm.trans ht0)
  obtain ⟨ns, hl, hc, _, hx⟩ := trod_struct_ints (k := .u64) Tryd.underlying69 (by kernel_rfl) (by kernel_rfl) hd0
  obtain ⟨a, b, rfl⟩ := list_of_length2 hl
  simp only [Rows.laid_pointillist_wide_nought, List.map_cons, List.map_nil, DataW.agg.injEq, List.cons.injEq, DataW.lit.injEq, Lit.int.injEq, true_and, and_true] at hx
  obtain ⟨rfl, rfl⟩ := hx
  have c : cs0 = #[.int .u64 0, .int .u64 0] := by
    apply Array.ext'
    simpa using hc
  have h0 := World.var?_cell hg0 hv0 0
  have h1 := World.var?_cell hg0 hv0 1
  rw [c] at h0 h1
  exact ⟨by simpa using h0, by simpa using h1⟩
theorem Gl.of_affineTurns {W : World} (h : laidMetH Tryd.prog [("pointillist/wide.nought", Rows.laid_pointillist_wide_nought)] W) : Gl W := of_nought h
end Go.Proofs.YtbnjgaeeojcjbaaDoor
namespace Go.Proofs.YtbnjgaeeojcjbaaDoor.affineTurnsR
open Go.ChangeShapes Go.WideShapes Go.ChangeAt Go.RowKit
open Go.ChangeMaps (open_string shut_string)
theorem own : ownKnob Tryd.prog.godebug = none := by kernel_rfl
theorem laidOut : laidOutB Tryd.prog = true := by kernel_rfl
def listed {H : Type} : List (String × DataW H) := [("pointillist/wide.nought", Rows.laid_pointillist_wide_nought)]
theorem met (os : Os) (args : Array Value) : laidMetH Tryd.prog listed ((World.doorLaid Tryd.prog 14 os).forCall (fun _ _ => 0) ⟨#[], args, []⟩).memory :=
  laidMetH_of_parts3 (fuel := 8) (laidMet_of_run' 8 (by kernel_rfl) (by kernel_rfl)) (by kernel_rfl) (by kernel_rfl)
set_option maxRecDepth 100000 in
theorem lifted (os : Os) (started : os.Started) (H : Type) (enc : TypeId × Value → H) :
    ReturnsInHanded {} Tryd.checked os 7 .any (fun w args => (Rows.affineTurnsSpec.pre enc Tryd.prog Tryd.f7 [] false w args ∧ laidMetH Tryd.prog listed w) ∧ sizedMet enc Tryd.prog Tryd.f7 (OpenSpec.ofChange Rows.affineTurnsSpec) false w args)
      (Rows.affineTurnsSpec.post enc Tryd.prog Tryd.f7 false true false false) := by
  refine returnsInHanded_of_change_and (C := Tryd.checked) (X := fun w _ => laidMetH Tryd.prog listed w) (fun _ _ _ hh h => h.of_heap hh) own started (by kernel_rfl) Tryd.func7
    (ChangeSpec.witness_shaped (enc := enc) (C := Tryd.checked) (os := os) (X := fun w _ => laidMetH Tryd.prog listed w) false (World.doorLaid Tryd.prog 14 os) #[.agg #[.int .i64 0, .int .i64 0]] 8 rfl (World.shaped_of_RefB (by kernel_rfl) (by kernel_rfl)) (by kernel_rfl) (by kernel_rfl) (by kernel_rfl) (met os _)) ?_
  intro W base args ds gs before hval0 hW hcnd hsz0 hL _
  clear hcnd
  have hval : ∀ (j : Nat) t v, Tryd.f7.params[j]? = some t → args[j]? = some v → Value.okWide Tryd.prog W .any base t v := hval0
  have hW' := hW
  obtain ⟨p, q, hA0, hV, rfl, hfz, hnd⟩ := hW
  have hA : DataW.TrodAll enc Tryd.prog W 0 (fun _ => true) true Tryd.f7.params.toList args.toList ds p := hA0
  rw [Tryd.params7] at hA hval
  obtain ⟨v0, vs0, d0, ds0, p0, q0, hargs, rfl, rfl, h0, r0⟩ := trodAll_cons hA
  obtain ⟨rfl, rfl, rfl⟩ := trodAll_nil r0
  obtain rfl : args = #[v0] := by cases args; simp_all
  obtain ⟨rfl, rfl⟩ := trodVars_none hV
  have hG : Gl W := Gl.of_affineTurns hL
  have k0 := h0
  have lt0 : ∀ x ∈ p0, x.block < W.heap.size := by obtain ⟨m, hm⟩ := k0; exact DataW.trod_lt m _ _ _ hm
  obtain ⟨ns0, nl0, rfl, nw0⟩ := open_struct_ints (k := .i64) Tryd.underlying25 (by kernel_rfl) (by kernel_rfl) (hval 0 25 v0 rfl rfl) h0
  obtain ⟨a0_0, a0_1, rfl⟩ : ∃ a0_0 a0_1, ns0 = [a0_0, a0_1] := list_of_length2 nl0
  have w_a0_0 := wf_i64 (nw0 a0_0 (by simp))
  have w_a0_1 := wf_i64 (nw0 a0_1 (by simp))
  clear nw0 nl0
  simp only [List.map_cons, List.map_nil] at hW'
  clear hA0 hval0 hsz0
  refine (PR.affineTurns_walk a0_0 a0_1 W hG w_a0_0 w_a0_1).mono fun e W' ⟨he, bel⟩ => ?_
  subst he
  exact ⟨_, rfl, _, _, _, [], _, [], hW', trodAll_mk1 (shut_bool Tryd.underlying4 _), (trodAll_cons_mk (Below.trod laidOut (by kernel_rfl) (of_decide_eq_true (by kernel_rfl)) k0 bel lt0) trodAll_mk0), rfl, bel.frame _, fun h => by cases h⟩
theorem over : Rows.affineTurnsRow.holds Tryd.pinned (OpenSpec.ofChange Rows.affineTurnsSpec) :=
  OpenClaim.holds_of_wide 7 Tryd.f7 rfl rfl rfl rfl rfl rfl rfl ⟨rfl, rfl, rfl, rfl, rfl⟩ rfl rfl rfl rfl rfl (by kernel_rfl) Tryd.func7 (by kernel_rfl)
    (of_decide_eq_true (by kernel_rfl)) (by unfold Func.isWrapper; first | (rw [if_pos (by decide +kernel)]; kernel_rfl) | (rw [if_neg (by decide +kernel)]; exact ⟨rfl, rfl⟩))
    (fun os started H enc _ => lifted os started H enc)
theorem carded : Rows.AffineTurnsCardSaid :=
  Claim7.holds_tied_plain_at .later [] [.data] true (true, "0fa006a278c56c431f774ead5f5f82fabf10850824c98a1f5a14cd52982934ae") true
    over (fun _ h => by cases h) (by kernel_rfl) (fun _ h => by cases h) affineTurns_row_tie rfl ⟨rfl, rfl⟩ (by kernel_rfl) rfl
    (fun f fn hf hfn => by
      obtain rfl : f = 7 := Option.some.inj ((show Tryd.prog.funcNamed "pointillist/pointillistlaw08.AffineTurns" = some 7 by kernel_rfl).symm.trans hf) |>.symm
      obtain rfl : fn = Tryd.f7 := (Option.some.inj (Tryd.func7.symm.trans hfn)).symm
      exact ⟨by kernel_rfl, fun j t ht => by
        rw [Tryd.params7] at ht
        have hm : t ∈ [25] := by simpa using Array.mem_of_getElem? ht
        have hall : ([25].all fun u => !Tryd.prog.wantsStandIn u) = true := by kernel_rfl
        exact (show Tryd.prog.wantsStandIn t = false by simpa using List.all_eq_true.1 hall t hm)⟩)
    (by kernel_rfl)
#print axioms carded
end Go.Proofs.YtbnjgaeeojcjbaaDoor.affineTurnsR
namespace Go.Proofs.YtbnjgaeeojcjbaaDoor
theorem affineTurns_card : Rows.AffineTurnsCardSaid := affineTurnsR.carded
end Go.Proofs.YtbnjgaeeojcjbaaDoor
