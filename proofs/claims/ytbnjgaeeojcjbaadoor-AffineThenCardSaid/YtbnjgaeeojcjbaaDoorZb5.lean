/- The row and the card of the law AffineThen: for every input it answers true, and each argument reads behind the call as before. The listed package-level variables read as the program's text lays them (tied by the given tie). -/
import Derived.ArgAppend
import Derived.Below
import Derived.BigQuiet
import Derived.ChangeOld
import Derived.Deep.AppendLies
import Derived.Deep.CutBlock
import Derived.Deep.DeepCutAuto
import Derived.Deep.Draws
import Derived.Deep.LoopGhost
import Derived.Deep.OwnRows
import Derived.Deep.QuietTactic
import Derived.Deep.RegionHeld3
import Derived.KernelRfl
import Derived.LaidMore
import Derived.Laws.Bits64
import Derived.Laws.BitsAllLaws
import Derived.Laws.BitsLemmas
import Derived.Laws.BytesArg
import Derived.Laws.Externs
import Derived.Laws.IdiomCopy
import Derived.Laws.MakeOwn
import Derived.Laws.OwnMore
import Derived.Laws.Rows
import Derived.Laws.Slices
import Derived.Laws.StructEq
import Derived.Laws.World
import Derived.Lib.AppendStr
import Derived.Lib.ConvBytes
import Derived.Lib.Mul64
import Derived.Maps.AppendAt
import Derived.OpenShut
import Derived.OrdersHeld
import Derived.OwnWalk
import Derived.ProofKit
import Derived.RowKit
import Derived.RowKit3
import Derived.SevenTiedAt
import Derived.ShutString
import Derived.SizedLaws
import Derived.Stop.Joined
import Derived.Tactics
import Derived.WalkKit
import Derived.WalkLawsBesides
import Derived.WideLaws
import Derived.Test.YtbnjgaeeojcjbaaDoorCards
import Derived.Test.YtbnjgaeeojcjbaaDoorProg
import Derived.Test.YtbnjgaeeojcjbaaDoorRows
import Derived.Test.YtbnjgaeeojcjbaaDoorTie
import Derived.Test.YtbnjgaeeojcjbaaDoorZb4
-- What this claim needs of the words, the printed walks and this session's texts (merged and cut by wip/prune.py).
namespace Go.Proofs.YtbnjgaeeojcjbaaDoor.PR
open Go.RowKit Go.Proofs.YtbnjgaeeojcjbaaDoorW.PrintWords Go.Proofs.YtbnjgaeeojcjbaaDoorW.PrintLast Go.Proofs.YtbnjgaeeojcjbaaDoorW.PrintMore
attribute [local go_sem] max2_int min2_int max_two min_two max_three min_three max_four min_four
set_option linter.unusedVariables false
set_option linter.unusedSimpArgs false
attribute [local go_sem high] eqA23
theorem pointillistlaw08_AffineThen.mono : ∀ a0 a1 a2 a3 a4 a5 a6 a7 a8 a9 a10 a11 k, LeO (pointillistlaw08_AffineThen.f k a0 a1 a2 a3 a4 a5 a6 a7 a8 a9 a10 a11) (pointillistlaw08_AffineThen.f (k + 1) a0 a1 a2 a3 a4 a5 a6 a7 a8 a9 a10 a11) := by
 intro a0 a1 a2 a3 a4 a5 a6 a7 a8 a9 a10 a11 k
 have ih0 := pointillistlaw08_AffineThen.mono_l k
 unfold pointillistlaw08_AffineThen.f
 repeat' first
   | (with_reducible exact ih0 _ _ _ _ _ _ _ _ _ _ _ _ _ _ _ _ _ _ _ _ _)
   | (with_reducible exact affine_Then.mono _ _ _ _ _ _ _ _ _ _ _ _ _)
   | (with_reducible exact pointillistlaw08_wakes.mono _)
   | (with_reducible exact pointillistref08_Then.mono _ _ _ _ _ _ _ _ _ _ _ _ _)
   | (with_reducible exact LeO.refl _)
   | (with_reducible exact LeO.none _)
   | (with_reducible refine LeO.ite ?_ ?_)
   | (with_reducible refine LeO.bind ?_ (fun _ => ?_))
   | exact ih0 _ _ _ _ _ _ _ _ _ _ _ _ _ _ _ _ _ _ _ _ _
   | exact affine_Then.mono _ _ _ _ _ _ _ _ _ _ _ _ _
   | exact pointillistlaw08_wakes.mono _
   | exact pointillistref08_Then.mono _ _ _ _ _ _ _ _ _ _ _ _ _
   | exact LeO.none _
   | refine LeO.ite ?_ ?_
   | refine LeO.bind ?_ (fun _ => ?_)
def pointillistlaw08_AffineThen.T5 : Bool × List (List Nat × List Nat) := (true, [([], []), ([], []), ([0, 1, 1], [0, 1]), ([2], [2]), ([3], [3]), ([3], [3]), ([], []), ([6, 4, 2, 0, 1, 2, 3, 4, 6], [4, 6]), ([5, 7, 0, 1, 2, 3, 4, 5, 6, 7], [5])])
def pointillistlaw08_AffineThen.B5 : List Nat := [0, 0, 3, 7, 15, 15, 0, 95, 255]
theorem pointillistlaw08_AffineThen.tab5 : rtab .any (opsOf Tryd.f6 5) = pointillistlaw08_AffineThen.T5 := by kernel_rfl
theorem pointillistlaw08_AffineThen.bits5 : waitsOk pointillistlaw08_AffineThen.T5.2 pointillistlaw08_AffineThen.B5 = true := by kernel_rfl
def pointillistlaw08_AffineThen.T6 : Bool × List (List Nat × List Nat) := (true, [([], []), ([], []), ([0, 1, 0], [0, 1]), ([2], [2]), ([3], [3]), ([3], [3]), ([], []), ([6, 4, 2, 0, 1, 2, 3, 4, 6], [4, 6]), ([5, 7, 0, 1, 2, 3, 4, 5, 6, 7], [5])])
def pointillistlaw08_AffineThen.B6 : List Nat := [0, 0, 3, 7, 15, 15, 0, 95, 255]
theorem pointillistlaw08_AffineThen.tab6 : rtab .any (opsOf Tryd.f6 6) = pointillistlaw08_AffineThen.T6 := by kernel_rfl
theorem pointillistlaw08_AffineThen.bits6 : waitsOk pointillistlaw08_AffineThen.T6.2 pointillistlaw08_AffineThen.B6 = true := by kernel_rfl
set_option maxHeartbeats 8000000 in
set_option maxRecDepth 100000 in
theorem pointillistlaw08_AffineThen.calls (k : Nat) (a0_0 : Int) (a0_1 : Int) (a0_2 : Int) (a0_3 : Int) (a0_4 : Int) (a0_5 : Int) (a1_0 : Int) (a1_1 : Int) (a1_2 : Int) (a1_3 : Int) (a1_4 : Int) (a1_5 : Int) (w : World) (hG : Gl w) (h : pointillistlaw08_AffineThen.f k a0_0 a0_1 a0_2 a0_3 a0_4 a0_5 a1_0 a1_1 a1_2 a1_3 a1_4 a1_5 = some true) :
  Calls Tryd.prog 6 #[.agg #[.int .i64 a0_0, .int .i64 a0_1, .int .i64 a0_2, .int .i64 a0_3, .int .i64 a0_4, .int .i64 a0_5], .agg #[.int .i64 a1_0, .int .i64 a1_1, .int .i64 a1_2, .int .i64 a1_3, .int .i64 a1_4, .int .i64 a1_5]] w fun e w' => e = .returned (.bool true) ∧ Below w.heap.size w w' := by
 have hu23 := Tryd.underlying23
 have HG := Aside0.mk hG
 clear hG
 have HB := Aside0.mk (Below.refl w.heap.size w)
 have H : ((pointillistlaw08_wakes.f k).bind fun t480 => (if t480 = true then ((affine_Then.f k a0_0 a0_1 a0_2 a0_3 a0_4 a0_5 a1_0 a1_1 a1_2 a1_3 a1_4 a1_5).bind fun bt481 => ((pointillistref08_Then.f k a0_0 a0_1 a0_2 a0_3 a0_4 a0_5 a1_0 a1_1 a1_2 a1_3 a1_4 a1_5).bind fun bt489 => ((affine_Same.f).bind fun bt497 => ((affine_Then.f k a0_0 a0_1 a0_2 a0_3 a0_4 a0_5 bt497.1 bt497.2.1 bt497.2.2.1 bt497.2.2.2.1 bt497.2.2.2.2.1 bt497.2.2.2.2.2).bind fun bt503 => ((affine_Same.f).bind fun bt511 => ((affine_Then.f k bt511.1 bt511.2.1 bt511.2.2.1 bt511.2.2.2.1 bt511.2.2.2.2.1 bt511.2.2.2.2.2 a0_0 a0_1 a0_2 a0_3 a0_4 a0_5).bind fun bt517 => (if (!(bt481.1 == bt489.1) || (!(bt481.2.1 == bt489.2.1) || (!(bt481.2.2.1 == bt489.2.2.1) || (!(bt481.2.2.2.1 == bt489.2.2.2.1) || (!(bt481.2.2.2.2.1 == bt489.2.2.2.2.1) || (!(bt481.2.2.2.2.2.1 == bt489.2.2.2.2.2.1))))))) = true then (pointillistlaw08_AffineThen.j0 k bt503.2.2.2.2.2.2 bt517.2.2.2.2.2.2 true a0_0 a0_1 a0_2 a0_3 a0_4 a0_5 bt503.1 bt503.2.1 bt503.2.2.1 bt503.2.2.2.1 bt503.2.2.2.2.1 bt503.2.2.2.2.2.1 bt517.1 bt517.2.1 bt517.2.2.1 bt517.2.2.2.1 bt517.2.2.2.2.1 bt517.2.2.2.2.2.1) else (pointillistlaw08_AffineThen.j0 k bt503.2.2.2.2.2.2 bt517.2.2.2.2.2.2 (bt481.2.2.2.2.2.2 != bt489.2.2.2.2.2.2) a0_0 a0_1 a0_2 a0_3 a0_4 a0_5 bt503.1 bt503.2.1 bt503.2.2.1 bt503.2.2.2.1 bt503.2.2.2.2.1 bt503.2.2.2.2.2.1 bt517.1 bt517.2.1 bt517.2.2.1 bt517.2.2.2.1 bt517.2.2.2.2.1 bt517.2.2.2.2.2.1)))))))) else (some false))) = some true := h
 clear h
 replace H := Option.bind_eq_some_iff.mp H
 obtain ⟨t480, A30, H⟩ := H
 replace H : (if t480 = true then ((affine_Then.f k a0_0 a0_1 a0_2 a0_3 a0_4 a0_5 a1_0 a1_1 a1_2 a1_3 a1_4 a1_5).bind fun bt481 => ((pointillistref08_Then.f k a0_0 a0_1 a0_2 a0_3 a0_4 a0_5 a1_0 a1_1 a1_2 a1_3 a1_4 a1_5).bind fun bt489 => ((affine_Same.f).bind fun bt497 => ((affine_Then.f k a0_0 a0_1 a0_2 a0_3 a0_4 a0_5 bt497.1 bt497.2.1 bt497.2.2.1 bt497.2.2.2.1 bt497.2.2.2.2.1 bt497.2.2.2.2.2).bind fun bt503 => ((affine_Same.f).bind fun bt511 => ((affine_Then.f k bt511.1 bt511.2.1 bt511.2.2.1 bt511.2.2.2.1 bt511.2.2.2.2.1 bt511.2.2.2.2.2 a0_0 a0_1 a0_2 a0_3 a0_4 a0_5).bind fun bt517 => (if (!(bt481.1 == bt489.1) || (!(bt481.2.1 == bt489.2.1) || (!(bt481.2.2.1 == bt489.2.2.1) || (!(bt481.2.2.2.1 == bt489.2.2.2.1) || (!(bt481.2.2.2.2.1 == bt489.2.2.2.2.1) || (!(bt481.2.2.2.2.2.1 == bt489.2.2.2.2.2.1))))))) = true then (pointillistlaw08_AffineThen.j0 k bt503.2.2.2.2.2.2 bt517.2.2.2.2.2.2 true a0_0 a0_1 a0_2 a0_3 a0_4 a0_5 bt503.1 bt503.2.1 bt503.2.2.1 bt503.2.2.2.1 bt503.2.2.2.2.1 bt503.2.2.2.2.2.1 bt517.1 bt517.2.1 bt517.2.2.1 bt517.2.2.2.1 bt517.2.2.2.2.1 bt517.2.2.2.2.2.1) else (pointillistlaw08_AffineThen.j0 k bt503.2.2.2.2.2.2 bt517.2.2.2.2.2.2 (bt481.2.2.2.2.2.2 != bt489.2.2.2.2.2.2) a0_0 a0_1 a0_2 a0_3 a0_4 a0_5 bt503.1 bt503.2.1 bt503.2.2.1 bt503.2.2.2.1 bt503.2.2.2.2.1 bt503.2.2.2.2.2.1 bt517.1 bt517.2.1 bt517.2.2.1 bt517.2.2.2.1 bt517.2.2.2.2.1 bt517.2.2.2.2.2.1)))))))) else (some false)) = some true := H
 have A3 := Aside0.mk A30
 clear A30
 by_cases c4 : t480 = true
 ·
  subst c4
  have H1 : ((affine_Then.f k a0_0 a0_1 a0_2 a0_3 a0_4 a0_5 a1_0 a1_1 a1_2 a1_3 a1_4 a1_5).bind fun bt481 => ((pointillistref08_Then.f k a0_0 a0_1 a0_2 a0_3 a0_4 a0_5 a1_0 a1_1 a1_2 a1_3 a1_4 a1_5).bind fun bt489 => ((affine_Same.f).bind fun bt497 => ((affine_Then.f k a0_0 a0_1 a0_2 a0_3 a0_4 a0_5 bt497.1 bt497.2.1 bt497.2.2.1 bt497.2.2.2.1 bt497.2.2.2.2.1 bt497.2.2.2.2.2).bind fun bt503 => ((affine_Same.f).bind fun bt511 => ((affine_Then.f k bt511.1 bt511.2.1 bt511.2.2.1 bt511.2.2.2.1 bt511.2.2.2.2.1 bt511.2.2.2.2.2 a0_0 a0_1 a0_2 a0_3 a0_4 a0_5).bind fun bt517 => (if (!(bt481.1 == bt489.1) || (!(bt481.2.1 == bt489.2.1) || (!(bt481.2.2.1 == bt489.2.2.1) || (!(bt481.2.2.2.1 == bt489.2.2.2.1) || (!(bt481.2.2.2.2.1 == bt489.2.2.2.2.1) || (!(bt481.2.2.2.2.2.1 == bt489.2.2.2.2.2.1))))))) = true then (pointillistlaw08_AffineThen.j0 k bt503.2.2.2.2.2.2 bt517.2.2.2.2.2.2 true a0_0 a0_1 a0_2 a0_3 a0_4 a0_5 bt503.1 bt503.2.1 bt503.2.2.1 bt503.2.2.2.1 bt503.2.2.2.2.1 bt503.2.2.2.2.2.1 bt517.1 bt517.2.1 bt517.2.2.1 bt517.2.2.2.1 bt517.2.2.2.2.1 bt517.2.2.2.2.2.1) else (pointillistlaw08_AffineThen.j0 k bt503.2.2.2.2.2.2 bt517.2.2.2.2.2.2 (bt481.2.2.2.2.2.2 != bt489.2.2.2.2.2.2) a0_0 a0_1 a0_2 a0_3 a0_4 a0_5 bt503.1 bt503.2.1 bt503.2.2.1 bt503.2.2.2.1 bt503.2.2.2.2.1 bt503.2.2.2.2.2.1 bt517.1 bt517.2.1 bt517.2.2.1 bt517.2.2.2.1 bt517.2.2.2.2.1 bt517.2.2.2.2.2.1)))))))) = some true := by rw [if_pos rfl] at H; exact H
  clear H
  have H := H1
  clear H1
  replace H := Option.bind_eq_some_iff.mp H
  obtain ⟨⟨t481, t482, t483, t484, t485, t486, t487⟩, A50, H⟩ := H
  replace H : ((pointillistref08_Then.f k a0_0 a0_1 a0_2 a0_3 a0_4 a0_5 a1_0 a1_1 a1_2 a1_3 a1_4 a1_5).bind fun bt489 => ((affine_Same.f).bind fun bt497 => ((affine_Then.f k a0_0 a0_1 a0_2 a0_3 a0_4 a0_5 bt497.1 bt497.2.1 bt497.2.2.1 bt497.2.2.2.1 bt497.2.2.2.2.1 bt497.2.2.2.2.2).bind fun bt503 => ((affine_Same.f).bind fun bt511 => ((affine_Then.f k bt511.1 bt511.2.1 bt511.2.2.1 bt511.2.2.2.1 bt511.2.2.2.2.1 bt511.2.2.2.2.2 a0_0 a0_1 a0_2 a0_3 a0_4 a0_5).bind fun bt517 => (if (!(t481 == bt489.1) || (!(t482 == bt489.2.1) || (!(t483 == bt489.2.2.1) || (!(t484 == bt489.2.2.2.1) || (!(t485 == bt489.2.2.2.2.1) || (!(t486 == bt489.2.2.2.2.2.1))))))) = true then (pointillistlaw08_AffineThen.j0 k bt503.2.2.2.2.2.2 bt517.2.2.2.2.2.2 true a0_0 a0_1 a0_2 a0_3 a0_4 a0_5 bt503.1 bt503.2.1 bt503.2.2.1 bt503.2.2.2.1 bt503.2.2.2.2.1 bt503.2.2.2.2.2.1 bt517.1 bt517.2.1 bt517.2.2.1 bt517.2.2.2.1 bt517.2.2.2.2.1 bt517.2.2.2.2.2.1) else (pointillistlaw08_AffineThen.j0 k bt503.2.2.2.2.2.2 bt517.2.2.2.2.2.2 (t487 != bt489.2.2.2.2.2.2) a0_0 a0_1 a0_2 a0_3 a0_4 a0_5 bt503.1 bt503.2.1 bt503.2.2.1 bt503.2.2.2.1 bt503.2.2.2.2.1 bt503.2.2.2.2.2.1 bt517.1 bt517.2.1 bt517.2.2.1 bt517.2.2.2.1 bt517.2.2.2.2.1 bt517.2.2.2.2.2.1))))))) = some true := H
  have A5 := Aside0.mk A50
  clear A50
  replace H := Option.bind_eq_some_iff.mp H
  obtain ⟨⟨t489, t490, t491, t492, t493, t494, t495⟩, A60, H⟩ := H
  replace H : ((affine_Same.f).bind fun bt497 => ((affine_Then.f k a0_0 a0_1 a0_2 a0_3 a0_4 a0_5 bt497.1 bt497.2.1 bt497.2.2.1 bt497.2.2.2.1 bt497.2.2.2.2.1 bt497.2.2.2.2.2).bind fun bt503 => ((affine_Same.f).bind fun bt511 => ((affine_Then.f k bt511.1 bt511.2.1 bt511.2.2.1 bt511.2.2.2.1 bt511.2.2.2.2.1 bt511.2.2.2.2.2 a0_0 a0_1 a0_2 a0_3 a0_4 a0_5).bind fun bt517 => (if (!(t481 == t489) || (!(t482 == t490) || (!(t483 == t491) || (!(t484 == t492) || (!(t485 == t493) || (!(t486 == t494))))))) = true then (pointillistlaw08_AffineThen.j0 k bt503.2.2.2.2.2.2 bt517.2.2.2.2.2.2 true a0_0 a0_1 a0_2 a0_3 a0_4 a0_5 bt503.1 bt503.2.1 bt503.2.2.1 bt503.2.2.2.1 bt503.2.2.2.2.1 bt503.2.2.2.2.2.1 bt517.1 bt517.2.1 bt517.2.2.1 bt517.2.2.2.1 bt517.2.2.2.2.1 bt517.2.2.2.2.2.1) else (pointillistlaw08_AffineThen.j0 k bt503.2.2.2.2.2.2 bt517.2.2.2.2.2.2 (t487 != t495) a0_0 a0_1 a0_2 a0_3 a0_4 a0_5 bt503.1 bt503.2.1 bt503.2.2.1 bt503.2.2.2.1 bt503.2.2.2.2.1 bt503.2.2.2.2.2.1 bt517.1 bt517.2.1 bt517.2.2.1 bt517.2.2.2.1 bt517.2.2.2.2.1 bt517.2.2.2.2.2.1)))))) = some true := H
  have A6 := Aside0.mk A60
  clear A60
  replace H := Option.bind_eq_some_iff.mp H
  obtain ⟨⟨t497, t498, t499, t500, t501, t502⟩, A70, H⟩ := H
  replace H : ((affine_Then.f k a0_0 a0_1 a0_2 a0_3 a0_4 a0_5 t497 t498 t499 t500 t501 t502).bind fun bt503 => ((affine_Same.f).bind fun bt511 => ((affine_Then.f k bt511.1 bt511.2.1 bt511.2.2.1 bt511.2.2.2.1 bt511.2.2.2.2.1 bt511.2.2.2.2.2 a0_0 a0_1 a0_2 a0_3 a0_4 a0_5).bind fun bt517 => (if (!(t481 == t489) || (!(t482 == t490) || (!(t483 == t491) || (!(t484 == t492) || (!(t485 == t493) || (!(t486 == t494))))))) = true then (pointillistlaw08_AffineThen.j0 k bt503.2.2.2.2.2.2 bt517.2.2.2.2.2.2 true a0_0 a0_1 a0_2 a0_3 a0_4 a0_5 bt503.1 bt503.2.1 bt503.2.2.1 bt503.2.2.2.1 bt503.2.2.2.2.1 bt503.2.2.2.2.2.1 bt517.1 bt517.2.1 bt517.2.2.1 bt517.2.2.2.1 bt517.2.2.2.2.1 bt517.2.2.2.2.2.1) else (pointillistlaw08_AffineThen.j0 k bt503.2.2.2.2.2.2 bt517.2.2.2.2.2.2 (t487 != t495) a0_0 a0_1 a0_2 a0_3 a0_4 a0_5 bt503.1 bt503.2.1 bt503.2.2.1 bt503.2.2.2.1 bt503.2.2.2.2.1 bt503.2.2.2.2.2.1 bt517.1 bt517.2.1 bt517.2.2.1 bt517.2.2.2.1 bt517.2.2.2.2.1 bt517.2.2.2.2.2.1))))) = some true := H
  have A7 := Aside0.mk A70
  clear A70
  replace H := Option.bind_eq_some_iff.mp H
  obtain ⟨⟨t503, t504, t505, t506, t507, t508, t509⟩, A80, H⟩ := H
  replace H : ((affine_Same.f).bind fun bt511 => ((affine_Then.f k bt511.1 bt511.2.1 bt511.2.2.1 bt511.2.2.2.1 bt511.2.2.2.2.1 bt511.2.2.2.2.2 a0_0 a0_1 a0_2 a0_3 a0_4 a0_5).bind fun bt517 => (if (!(t481 == t489) || (!(t482 == t490) || (!(t483 == t491) || (!(t484 == t492) || (!(t485 == t493) || (!(t486 == t494))))))) = true then (pointillistlaw08_AffineThen.j0 k t509 bt517.2.2.2.2.2.2 true a0_0 a0_1 a0_2 a0_3 a0_4 a0_5 t503 t504 t505 t506 t507 t508 bt517.1 bt517.2.1 bt517.2.2.1 bt517.2.2.2.1 bt517.2.2.2.2.1 bt517.2.2.2.2.2.1) else (pointillistlaw08_AffineThen.j0 k t509 bt517.2.2.2.2.2.2 (t487 != t495) a0_0 a0_1 a0_2 a0_3 a0_4 a0_5 t503 t504 t505 t506 t507 t508 bt517.1 bt517.2.1 bt517.2.2.1 bt517.2.2.2.1 bt517.2.2.2.2.1 bt517.2.2.2.2.2.1)))) = some true := H
  have A8 := Aside0.mk A80
  clear A80
  replace H := Option.bind_eq_some_iff.mp H
  obtain ⟨⟨t511, t512, t513, t514, t515, t516⟩, A90, H⟩ := H
  replace H : ((affine_Then.f k t511 t512 t513 t514 t515 t516 a0_0 a0_1 a0_2 a0_3 a0_4 a0_5).bind fun bt517 => (if (!(t481 == t489) || (!(t482 == t490) || (!(t483 == t491) || (!(t484 == t492) || (!(t485 == t493) || (!(t486 == t494))))))) = true then (pointillistlaw08_AffineThen.j0 k t509 bt517.2.2.2.2.2.2 true a0_0 a0_1 a0_2 a0_3 a0_4 a0_5 t503 t504 t505 t506 t507 t508 bt517.1 bt517.2.1 bt517.2.2.1 bt517.2.2.2.1 bt517.2.2.2.2.1 bt517.2.2.2.2.2.1) else (pointillistlaw08_AffineThen.j0 k t509 bt517.2.2.2.2.2.2 (t487 != t495) a0_0 a0_1 a0_2 a0_3 a0_4 a0_5 t503 t504 t505 t506 t507 t508 bt517.1 bt517.2.1 bt517.2.2.1 bt517.2.2.2.1 bt517.2.2.2.2.1 bt517.2.2.2.2.2.1))) = some true := H
  have A9 := Aside0.mk A90
  clear A90
  replace H := Option.bind_eq_some_iff.mp H
  obtain ⟨⟨t517, t518, t519, t520, t521, t522, t523⟩, A100, H⟩ := H
  replace H : (if (!(t481 == t489) || (!(t482 == t490) || (!(t483 == t491) || (!(t484 == t492) || (!(t485 == t493) || (!(t486 == t494))))))) = true then (pointillistlaw08_AffineThen.j0 k t509 t523 true a0_0 a0_1 a0_2 a0_3 a0_4 a0_5 t503 t504 t505 t506 t507 t508 t517 t518 t519 t520 t521 t522) else (pointillistlaw08_AffineThen.j0 k t509 t523 (t487 != t495) a0_0 a0_1 a0_2 a0_3 a0_4 a0_5 t503 t504 t505 t506 t507 t508 t517 t518 t519 t520 t521 t522)) = some true := H
  have A10 := Aside0.mk A100
  clear A100
  have HC11 := Aside0.mk H
  clear H
  go_enter Tryd.func6, Tryd.ntmps6
  try go_wp2_with (first | ((with_reducible refine gate_dst (N := 2) rfl ?_); refine box_event ?hg (N := 2) ?hd (cs := #[.int .i64 a0_0, .int .i64 a0_1, .int .i64 a0_2, .int .i64 a0_3, .int .i64 a0_4, .int .i64 a0_5]) (t := 23) ?hr ?_; (case hd => rfl); (case hg => rfl); (case hr => first | (go_simp; done) | (go_simp; rfl)); intro gb478 hg w12 hbox hb; have n0_ := Aside0.mk (below_step (wq HB.out) hb); have n1_ := Aside0.mk (hbox); have n2_ := Aside0.mk ((by rw [hg]; exact (below_size (wq HB.out)) : w.heap.size ≤ gb478)); have n3_ := n2_; clear HB; have HB := n0_; have BK478 := n1_; have GW478 := n2_; have GE478 := n3_; clear n0_ n1_ n2_ n3_ hb hbox hg) | ((with_reducible refine gate_dst (N := 3) rfl ?_); refine box_event ?hg (N := 3) ?hd (cs := #[.int .i64 a1_0, .int .i64 a1_1, .int .i64 a1_2, .int .i64 a1_3, .int .i64 a1_4, .int .i64 a1_5]) (t := 23) ?hr ?_; (case hd => rfl); (case hg => rfl); (case hr => first | (go_simp; done) | (go_simp; rfl)); intro gb479 hg w13 hbox hb; have n0_ := Aside0.mk (blk_below (bq BK478.out) hb); have n1_ := Aside0.mk (below_step (wq HB.out) hb); have n2_ := Aside0.mk (hbox); have n3_ := Aside0.mk ((by rw [hg]; exact (below_size (wq HB.out)) : w.heap.size ≤ gb479)); have n4_ := n3_; have n5_ := Aside0.mk ((by rw [hg]; exact Nat.ne_of_lt (blk_lt (bq BK478.out)) : gb478 ≠ gb479)); have n6_ := Aside0.mk ((by rw [hg]; exact Nat.ne_of_gt (blk_lt (bq BK478.out)) : gb479 ≠ gb478)); clear BK478 HB; have BK478 := n0_; have HB := n1_; have BK479 := n2_; have GW479 := n3_; have GE479 := n4_; have NB478_479 := n5_; have NB479_478 := n6_; clear n0_ n1_ n2_ n3_ n4_ n5_ n6_ hb hbox hg) | ((with_reducible refine gate_callee (f := 8) rfl ?_); refine goesL_ (some 13) rfl rfl Tryd.func8 (by kernel_rfl) rfl #[] rfl (by (try simp only [List.map_toArray, List.map_cons, List.map_nil]); first | done | rfl | (simp only [List.length_drop, List.length_take]; rfl)) ?_; (with_reducible refine (pointillistlaw08_wakes.calls k  true _ ?side1 A3.out).mono ?_); (case side1 => exact Gl.below HG.out (wq HB.out)); rintro e w14 ⟨rfl, hb⟩; refine ⟨_, rfl, ?_⟩; have n0_ := Aside0.mk (blk_below (bq BK478.out) hb); have n1_ := Aside0.mk (blk_below (bq BK479.out) hb); have n2_ := Aside0.mk (below_step (wq HB.out) hb); clear BK478 BK479 HB; have BK478 := n0_; have BK479 := n1_; have HB := n2_; clear n0_ n1_ n2_; (try clear hb); (try clear hb2); (try clear hk); (try clear hi); have hnb15 := NB478_479.out; have hnc15 := NB479_478.out; have hcz16_0 : w14.cell? ⟨gb478, 0, none⟩ = some (.int .i64 a0_0) := (blk_cell BK478.out 0).trans rfl; have hcz16_1 : w14.cell? ⟨gb478, 1, none⟩ = some (.int .i64 a0_1) := (blk_cell BK478.out 1).trans rfl; have hcz16_2 : w14.cell? ⟨gb478, 2, none⟩ = some (.int .i64 a0_2) := (blk_cell BK478.out 2).trans rfl; have hcz16_3 : w14.cell? ⟨gb478, 3, none⟩ = some (.int .i64 a0_3) := (blk_cell BK478.out 3).trans rfl; have hcz16_4 : w14.cell? ⟨gb478, 4, none⟩ = some (.int .i64 a0_4) := (blk_cell BK478.out 4).trans rfl; have hcz16_5 : w14.cell? ⟨gb478, 5, none⟩ = some (.int .i64 a0_5) := (blk_cell BK478.out 5).trans rfl; have hfz16_0 := blk_frozen BK478.out 0; have hfz16_1 := blk_frozen BK478.out 1; have hfz16_2 := blk_frozen BK478.out 2; have hfz16_3 := blk_frozen BK478.out 3; have hfz16_4 := blk_frozen BK478.out 4; have hfz16_5 := blk_frozen BK478.out 5; have hcz17_0 : w14.cell? ⟨gb479, 0, none⟩ = some (.int .i64 a1_0) := (blk_cell BK479.out 0).trans rfl; have hcz17_1 : w14.cell? ⟨gb479, 1, none⟩ = some (.int .i64 a1_1) := (blk_cell BK479.out 1).trans rfl; have hcz17_2 : w14.cell? ⟨gb479, 2, none⟩ = some (.int .i64 a1_2) := (blk_cell BK479.out 2).trans rfl; have hcz17_3 : w14.cell? ⟨gb479, 3, none⟩ = some (.int .i64 a1_3) := (blk_cell BK479.out 3).trans rfl; have hcz17_4 : w14.cell? ⟨gb479, 4, none⟩ = some (.int .i64 a1_4) := (blk_cell BK479.out 4).trans rfl; have hcz17_5 : w14.cell? ⟨gb479, 5, none⟩ = some (.int .i64 a1_5) := (blk_cell BK479.out 5).trans rfl; have hfz17_0 := blk_frozen BK479.out 0; have hfz17_1 := blk_frozen BK479.out 1; have hfz17_2 := blk_frozen BK479.out 2; have hfz17_3 := blk_frozen BK479.out 3; have hfz17_4 := blk_frozen BK479.out 4; have hfz17_5 := blk_frozen BK479.out 5) | ((with_reducible refine gate_callee (f := 17) rfl ?_); refine goesL_ (some 18) rfl rfl Tryd.func17 (by kernel_rfl) rfl #[.agg #[.int .i64 a0_0, .int .i64 a0_1, .int .i64 a0_2, .int .i64 a0_3, .int .i64 a0_4, .int .i64 a0_5], .agg #[.int .i64 a1_0, .int .i64 a1_1, .int .i64 a1_2, .int .i64 a1_3, .int .i64 a1_4, .int .i64 a1_5]] rfl (by (try simp only [List.map_toArray, List.map_cons, List.map_nil]); first | done | rfl | (simp only [List.length_drop, List.length_take]; rfl)) ?_; (with_reducible refine (affine_Then.calls k a0_0 a0_1 a0_2 a0_3 a0_4 a0_5 a1_0 a1_1 a1_2 a1_3 a1_4 a1_5 t481 t482 t483 t484 t485 t486 t487 _ ?side1 A5.out).mono ?_); (case side1 => exact Gl.below HG.out (wq HB.out)); rintro e w18 ⟨rfl, hb⟩; refine ⟨_, rfl, ?_⟩; have n0_ := Aside0.mk (blk_below (bq BK478.out) hb); have n1_ := Aside0.mk (blk_below (bq BK479.out) hb); have n2_ := Aside0.mk (below_step (wq HB.out) hb); clear BK478 BK479 HB; have BK478 := n0_; have BK479 := n1_; have HB := n2_; clear n0_ n1_ n2_; (try clear hb); (try clear hb2); (try clear hk); (try clear hi)) | ((with_reducible refine gate_dst (N := 5) rfl ?_); refine box_event ?hg (N := 5) ?hd (cs := #[.int .i64 0, .int .i64 0, .int .i64 0, .int .i64 0, .int .i64 0, .int .i64 0]) (t := 23) ?hr ?_; (case hd => rfl); (case hg => rfl); (case hr => first | (go_simp; done) | (go_simp; rfl)); intro gb488 hg w19 hbox hb; have n0_ := Aside0.mk (blk_below (bq BK478.out) hb); have n1_ := Aside0.mk (blk_below (bq BK479.out) hb); have n2_ := Aside0.mk (below_step (wq HB.out) hb); have n3_ := Aside0.mk (hbox); have n4_ := Aside0.mk ((by rw [hg]; exact (below_size (wq HB.out)) : w.heap.size ≤ gb488)); have n5_ := n4_; have n6_ := Aside0.mk ((by rw [hg]; exact Nat.ne_of_lt (blk_lt (bq BK478.out)) : gb478 ≠ gb488)); have n7_ := Aside0.mk ((by rw [hg]; exact Nat.ne_of_gt (blk_lt (bq BK478.out)) : gb488 ≠ gb478)); have n8_ := Aside0.mk ((by rw [hg]; exact Nat.ne_of_lt (blk_lt (bq BK479.out)) : gb479 ≠ gb488)); have n9_ := Aside0.mk ((by rw [hg]; exact Nat.ne_of_gt (blk_lt (bq BK479.out)) : gb488 ≠ gb479)); clear BK478 BK479 HB; have BK478 := n0_; have BK479 := n1_; have HB := n2_; have BK488 := n3_; have GW488 := n4_; have GE488 := n5_; have NB478_488 := n6_; have NB488_478 := n7_; have NB479_488 := n8_; have NB488_479 := n9_; clear n0_ n1_ n2_ n3_ n4_ n5_ n6_ n7_ n8_ n9_ hb hbox hg; have hnb20 := NB488_478.out; have hnc20 := NB478_488.out; have hnb21 := NB488_479.out; have hnc21 := NB479_488.out; have hcz22_0 : w19.cell? ⟨gb488, 0, none⟩ = some (.int .i64 0) := (blk_cell BK488.out 0).trans rfl; have hcz22_1 : w19.cell? ⟨gb488, 1, none⟩ = some (.int .i64 0) := (blk_cell BK488.out 1).trans rfl; have hcz22_2 : w19.cell? ⟨gb488, 2, none⟩ = some (.int .i64 0) := (blk_cell BK488.out 2).trans rfl; have hcz22_3 : w19.cell? ⟨gb488, 3, none⟩ = some (.int .i64 0) := (blk_cell BK488.out 3).trans rfl; have hcz22_4 : w19.cell? ⟨gb488, 4, none⟩ = some (.int .i64 0) := (blk_cell BK488.out 4).trans rfl; have hcz22_5 : w19.cell? ⟨gb488, 5, none⟩ = some (.int .i64 0) := (blk_cell BK488.out 5).trans rfl; have hfz22_0 := blk_frozen BK488.out 0; have hfz22_1 := blk_frozen BK488.out 1; have hfz22_2 := blk_frozen BK488.out 2; have hfz22_3 := blk_frozen BK488.out 3; have hfz22_4 := blk_frozen BK488.out 4; have hfz22_5 := blk_frozen BK488.out 5; have hcz23_0 : w19.cell? ⟨gb478, 0, none⟩ = some (.int .i64 a0_0) := (blk_cell BK478.out 0).trans rfl; have hcz23_1 : w19.cell? ⟨gb478, 1, none⟩ = some (.int .i64 a0_1) := (blk_cell BK478.out 1).trans rfl; have hcz23_2 : w19.cell? ⟨gb478, 2, none⟩ = some (.int .i64 a0_2) := (blk_cell BK478.out 2).trans rfl; have hcz23_3 : w19.cell? ⟨gb478, 3, none⟩ = some (.int .i64 a0_3) := (blk_cell BK478.out 3).trans rfl; have hcz23_4 : w19.cell? ⟨gb478, 4, none⟩ = some (.int .i64 a0_4) := (blk_cell BK478.out 4).trans rfl; have hcz23_5 : w19.cell? ⟨gb478, 5, none⟩ = some (.int .i64 a0_5) := (blk_cell BK478.out 5).trans rfl; have hfz23_0 := blk_frozen BK478.out 0; have hfz23_1 := blk_frozen BK478.out 1; have hfz23_2 := blk_frozen BK478.out 2; have hfz23_3 := blk_frozen BK478.out 3; have hfz23_4 := blk_frozen BK478.out 4; have hfz23_5 := blk_frozen BK478.out 5; have hcz24_0 : w19.cell? ⟨gb479, 0, none⟩ = some (.int .i64 a1_0) := (blk_cell BK479.out 0).trans rfl; have hcz24_1 : w19.cell? ⟨gb479, 1, none⟩ = some (.int .i64 a1_1) := (blk_cell BK479.out 1).trans rfl; have hcz24_2 : w19.cell? ⟨gb479, 2, none⟩ = some (.int .i64 a1_2) := (blk_cell BK479.out 2).trans rfl; have hcz24_3 : w19.cell? ⟨gb479, 3, none⟩ = some (.int .i64 a1_3) := (blk_cell BK479.out 3).trans rfl; have hcz24_4 : w19.cell? ⟨gb479, 4, none⟩ = some (.int .i64 a1_4) := (blk_cell BK479.out 4).trans rfl; have hcz24_5 : w19.cell? ⟨gb479, 5, none⟩ = some (.int .i64 a1_5) := (blk_cell BK479.out 5).trans rfl; have hfz24_0 := blk_frozen BK479.out 0; have hfz24_1 := blk_frozen BK479.out 1; have hfz24_2 := blk_frozen BK479.out 2; have hfz24_3 := blk_frozen BK479.out 3; have hfz24_4 := blk_frozen BK479.out 4; have hfz24_5 := blk_frozen BK479.out 5) | ((with_reducible refine gate_callee (f := 18) rfl ?_); refine goesL_ (some 24) rfl rfl Tryd.func18 (by kernel_rfl) rfl #[.agg #[.int .i64 a0_0, .int .i64 a0_1, .int .i64 a0_2, .int .i64 a0_3, .int .i64 a0_4, .int .i64 a0_5], .agg #[.int .i64 a1_0, .int .i64 a1_1, .int .i64 a1_2, .int .i64 a1_3, .int .i64 a1_4, .int .i64 a1_5]] rfl (by (try simp only [List.map_toArray, List.map_cons, List.map_nil]); first | done | rfl | (simp only [List.length_drop, List.length_take]; rfl)) ?_; (with_reducible refine (pointillistref08_Then.calls k a0_0 a0_1 a0_2 a0_3 a0_4 a0_5 a1_0 a1_1 a1_2 a1_3 a1_4 a1_5 t489 t490 t491 t492 t493 t494 t495 _ A6.out).mono ?_); rintro e w25 ⟨rfl, hb⟩; refine ⟨_, rfl, ?_⟩; have n0_ := Aside0.mk (blk_below (g := gb478) (o := .cells #[.int .i64 a0_0, .int .i64 a0_1, .int .i64 a0_2, .int .i64 a0_3, .int .i64 a0_4, .int .i64 a0_5] 23 (0, 0)) (by refine bq ?_; refine blk_far ?_ NB478_488.out _; refine bq ?_; refine blk_far ?_ NB478_488.out _; refine bq ?_; refine blk_far ?_ NB478_488.out _; refine bq ?_; refine blk_far ?_ NB478_488.out _; refine bq ?_; refine blk_far ?_ NB478_488.out _; refine bq ?_; refine blk_far ?_ NB478_488.out _; refine bq ?_; exact BK478.out) hb); have n1_ := Aside0.mk (blk_below (g := gb479) (o := .cells #[.int .i64 a1_0, .int .i64 a1_1, .int .i64 a1_2, .int .i64 a1_3, .int .i64 a1_4, .int .i64 a1_5] 23 (0, 0)) (by refine bq ?_; refine blk_far ?_ NB479_488.out _; refine bq ?_; refine blk_far ?_ NB479_488.out _; refine bq ?_; refine blk_far ?_ NB479_488.out _; refine bq ?_; refine blk_far ?_ NB479_488.out _; refine bq ?_; refine blk_far ?_ NB479_488.out _; refine bq ?_; refine blk_far ?_ NB479_488.out _; refine bq ?_; exact BK479.out) hb); have n2_ := Aside0.mk (blk_below (g := gb488) (o := .cells #[.int .i64 t481, .int .i64 t482, .int .i64 t483, .int .i64 t484, .int .i64 t485, .int .i64 t486] 23 (0, 0)) (by refine bq ?_; refine blk_put (cs := #[.int .i64 t481, .int .i64 t482, .int .i64 t483, .int .i64 t484, .int .i64 t485, .int .i64 0]) ?_ 5 _ rfl; refine bq ?_; refine blk_put (cs := #[.int .i64 t481, .int .i64 t482, .int .i64 t483, .int .i64 t484, .int .i64 0, .int .i64 0]) ?_ 4 _ rfl; refine bq ?_; refine blk_put (cs := #[.int .i64 t481, .int .i64 t482, .int .i64 t483, .int .i64 0, .int .i64 0, .int .i64 0]) ?_ 3 _ rfl; refine bq ?_; refine blk_put (cs := #[.int .i64 t481, .int .i64 t482, .int .i64 0, .int .i64 0, .int .i64 0, .int .i64 0]) ?_ 2 _ rfl; refine bq ?_; refine blk_put (cs := #[.int .i64 t481, .int .i64 0, .int .i64 0, .int .i64 0, .int .i64 0, .int .i64 0]) ?_ 1 _ rfl; refine bq ?_; refine blk_put (cs := #[.int .i64 0, .int .i64 0, .int .i64 0, .int .i64 0, .int .i64 0, .int .i64 0]) ?_ 0 _ rfl; refine bq ?_; exact BK488.out) hb); have n3_ := Aside0.mk (below_step (wq HB.out) hb); clear BK478 BK479 BK488 HB; have BK478 := n0_; have BK479 := n1_; have BK488 := n2_; have HB := n3_; clear n0_ n1_ n2_ n3_; (try clear hb); (try clear hb2); (try clear hk); (try clear hi)) | ((with_reducible refine gate_dst (N := 7) rfl ?_); refine box_event ?hg (N := 7) ?hd (cs := #[.int .i64 0, .int .i64 0, .int .i64 0, .int .i64 0, .int .i64 0, .int .i64 0]) (t := 23) ?hr ?_; (case hd => rfl); (case hg => rfl); (case hr => first | (go_simp; done) | (go_simp; rfl)); intro gb496 hg w26 hbox hb; have n0_ := Aside0.mk (blk_below (bq BK478.out) hb); have n1_ := Aside0.mk (blk_below (bq BK479.out) hb); have n2_ := Aside0.mk (blk_below (bq BK488.out) hb); have n3_ := Aside0.mk (below_step (wq HB.out) hb); have n4_ := Aside0.mk (hbox); have n5_ := Aside0.mk ((by rw [hg]; exact (below_size (wq HB.out)) : w.heap.size ≤ gb496)); have n6_ := n5_; have n7_ := Aside0.mk ((by rw [hg]; exact Nat.ne_of_lt (blk_lt (bq BK478.out)) : gb478 ≠ gb496)); have n8_ := Aside0.mk ((by rw [hg]; exact Nat.ne_of_gt (blk_lt (bq BK478.out)) : gb496 ≠ gb478)); have n9_ := Aside0.mk ((by rw [hg]; exact Nat.ne_of_lt (blk_lt (bq BK479.out)) : gb479 ≠ gb496)); have n10_ := Aside0.mk ((by rw [hg]; exact Nat.ne_of_gt (blk_lt (bq BK479.out)) : gb496 ≠ gb479)); have n11_ := Aside0.mk ((by rw [hg]; exact Nat.ne_of_lt (blk_lt (bq BK488.out)) : gb488 ≠ gb496)); have n12_ := Aside0.mk ((by rw [hg]; exact Nat.ne_of_gt (blk_lt (bq BK488.out)) : gb496 ≠ gb488)); clear BK478 BK479 BK488 HB; have BK478 := n0_; have BK479 := n1_; have BK488 := n2_; have HB := n3_; have BK496 := n4_; have GW496 := n5_; have GE496 := n6_; have NB478_496 := n7_; have NB496_478 := n8_; have NB479_496 := n9_; have NB496_479 := n10_; have NB488_496 := n11_; have NB496_488 := n12_; clear n0_ n1_ n2_ n3_ n4_ n5_ n6_ n7_ n8_ n9_ n10_ n11_ n12_ hb hbox hg; have hnb27 := NB496_478.out; have hnc27 := NB478_496.out; have hnb28 := NB496_479.out; have hnc28 := NB479_496.out; have hnb29 := NB496_488.out; have hnc29 := NB488_496.out; have hcz30_0 : w26.cell? ⟨gb496, 0, none⟩ = some (.int .i64 0) := (blk_cell BK496.out 0).trans rfl; have hcz30_1 : w26.cell? ⟨gb496, 1, none⟩ = some (.int .i64 0) := (blk_cell BK496.out 1).trans rfl; have hcz30_2 : w26.cell? ⟨gb496, 2, none⟩ = some (.int .i64 0) := (blk_cell BK496.out 2).trans rfl; have hcz30_3 : w26.cell? ⟨gb496, 3, none⟩ = some (.int .i64 0) := (blk_cell BK496.out 3).trans rfl; have hcz30_4 : w26.cell? ⟨gb496, 4, none⟩ = some (.int .i64 0) := (blk_cell BK496.out 4).trans rfl; have hcz30_5 : w26.cell? ⟨gb496, 5, none⟩ = some (.int .i64 0) := (blk_cell BK496.out 5).trans rfl; have hfz30_0 := blk_frozen BK496.out 0; have hfz30_1 := blk_frozen BK496.out 1; have hfz30_2 := blk_frozen BK496.out 2; have hfz30_3 := blk_frozen BK496.out 3; have hfz30_4 := blk_frozen BK496.out 4; have hfz30_5 := blk_frozen BK496.out 5))
  have n0_ : Aside0 (((((((w26.setCell ⟨gb496, 0, none⟩ (.int .i64 t489)).setCell ⟨gb496, 1, none⟩ (.int .i64 t490)).setCell ⟨gb496, 2, none⟩ (.int .i64 t491)).setCell ⟨gb496, 3, none⟩ (.int .i64 t492)).setCell ⟨gb496, 4, none⟩ (.int .i64 t493)).setCell ⟨gb496, 5, none⟩ (.int .i64 t494)).heap[gb478]? = some (.cells #[.int .i64 a0_0, .int .i64 a0_1, .int .i64 a0_2, .int .i64 a0_3, .int .i64 a0_4, .int .i64 a0_5] 23 (0, 0))) := ⟨by refine bq ?_; refine blk_far ?_ NB478_496.out _; refine bq ?_; refine blk_far ?_ NB478_496.out _; refine bq ?_; refine blk_far ?_ NB478_496.out _; refine bq ?_; refine blk_far ?_ NB478_496.out _; refine bq ?_; refine blk_far ?_ NB478_496.out _; refine bq ?_; refine blk_far ?_ NB478_496.out _; refine bq ?_; exact BK478.out⟩
  have n1_ : Aside0 (((((((w26.setCell ⟨gb496, 0, none⟩ (.int .i64 t489)).setCell ⟨gb496, 1, none⟩ (.int .i64 t490)).setCell ⟨gb496, 2, none⟩ (.int .i64 t491)).setCell ⟨gb496, 3, none⟩ (.int .i64 t492)).setCell ⟨gb496, 4, none⟩ (.int .i64 t493)).setCell ⟨gb496, 5, none⟩ (.int .i64 t494)).heap[gb479]? = some (.cells #[.int .i64 a1_0, .int .i64 a1_1, .int .i64 a1_2, .int .i64 a1_3, .int .i64 a1_4, .int .i64 a1_5] 23 (0, 0))) := ⟨by refine bq ?_; refine blk_far ?_ NB479_496.out _; refine bq ?_; refine blk_far ?_ NB479_496.out _; refine bq ?_; refine blk_far ?_ NB479_496.out _; refine bq ?_; refine blk_far ?_ NB479_496.out _; refine bq ?_; refine blk_far ?_ NB479_496.out _; refine bq ?_; refine blk_far ?_ NB479_496.out _; refine bq ?_; exact BK479.out⟩
  have n2_ : Aside0 (((((((w26.setCell ⟨gb496, 0, none⟩ (.int .i64 t489)).setCell ⟨gb496, 1, none⟩ (.int .i64 t490)).setCell ⟨gb496, 2, none⟩ (.int .i64 t491)).setCell ⟨gb496, 3, none⟩ (.int .i64 t492)).setCell ⟨gb496, 4, none⟩ (.int .i64 t493)).setCell ⟨gb496, 5, none⟩ (.int .i64 t494)).heap[gb488]? = some (.cells #[.int .i64 t481, .int .i64 t482, .int .i64 t483, .int .i64 t484, .int .i64 t485, .int .i64 t486] 23 (0, 0))) := ⟨by refine bq ?_; refine blk_far ?_ NB488_496.out _; refine bq ?_; refine blk_far ?_ NB488_496.out _; refine bq ?_; refine blk_far ?_ NB488_496.out _; refine bq ?_; refine blk_far ?_ NB488_496.out _; refine bq ?_; refine blk_far ?_ NB488_496.out _; refine bq ?_; refine blk_far ?_ NB488_496.out _; refine bq ?_; exact BK488.out⟩
  have n3_ : Aside0 (((((((w26.setCell ⟨gb496, 0, none⟩ (.int .i64 t489)).setCell ⟨gb496, 1, none⟩ (.int .i64 t490)).setCell ⟨gb496, 2, none⟩ (.int .i64 t491)).setCell ⟨gb496, 3, none⟩ (.int .i64 t492)).setCell ⟨gb496, 4, none⟩ (.int .i64 t493)).setCell ⟨gb496, 5, none⟩ (.int .i64 t494)).heap[gb496]? = some (.cells #[.int .i64 t489, .int .i64 t490, .int .i64 t491, .int .i64 t492, .int .i64 t493, .int .i64 t494] 23 (0, 0))) := ⟨by refine bq ?_; refine blk_put (cs := #[.int .i64 t489, .int .i64 t490, .int .i64 t491, .int .i64 t492, .int .i64 t493, .int .i64 0]) ?_ 5 _ rfl; refine bq ?_; refine blk_put (cs := #[.int .i64 t489, .int .i64 t490, .int .i64 t491, .int .i64 t492, .int .i64 0, .int .i64 0]) ?_ 4 _ rfl; refine bq ?_; refine blk_put (cs := #[.int .i64 t489, .int .i64 t490, .int .i64 t491, .int .i64 0, .int .i64 0, .int .i64 0]) ?_ 3 _ rfl; refine bq ?_; refine blk_put (cs := #[.int .i64 t489, .int .i64 t490, .int .i64 0, .int .i64 0, .int .i64 0, .int .i64 0]) ?_ 2 _ rfl; refine bq ?_; refine blk_put (cs := #[.int .i64 t489, .int .i64 0, .int .i64 0, .int .i64 0, .int .i64 0, .int .i64 0]) ?_ 1 _ rfl; refine bq ?_; refine blk_put (cs := #[.int .i64 0, .int .i64 0, .int .i64 0, .int .i64 0, .int .i64 0, .int .i64 0]) ?_ 0 _ rfl; refine bq ?_; exact BK496.out⟩
  have n4_ : Aside0 (Below w.heap.size w ((((((w26.setCell ⟨gb496, 0, none⟩ (.int .i64 t489)).setCell ⟨gb496, 1, none⟩ (.int .i64 t490)).setCell ⟨gb496, 2, none⟩ (.int .i64 t491)).setCell ⟨gb496, 3, none⟩ (.int .i64 t492)).setCell ⟨gb496, 4, none⟩ (.int .i64 t493)).setCell ⟨gb496, 5, none⟩ (.int .i64 t494))) := ⟨by exact wq HB.out⟩
  (try clear BK478)
  (try clear BK479)
  (try clear BK488)
  (try clear BK496)
  (try clear HB)
  generalize ((((((w26.setCell ⟨gb496, 0, none⟩ (.int .i64 t489)).setCell ⟨gb496, 1, none⟩ (.int .i64 t490)).setCell ⟨gb496, 2, none⟩ (.int .i64 t491)).setCell ⟨gb496, 3, none⟩ (.int .i64 t492)).setCell ⟨gb496, 4, none⟩ (.int .i64 t493)).setCell ⟨gb496, 5, none⟩ (.int .i64 t494)) = w31 at n0_ n1_ n2_ n3_ n4_ ⊢
  have BK478 := n0_; have BK479 := n1_; have BK488 := n2_; have BK496 := n3_; have HB := n4_; clear n0_ n1_ n2_ n3_ n4_
  have n0_ := Aside0.mk (blk_drew BK478.out)
  have n1_ := Aside0.mk (blk_drew BK479.out)
  have n2_ := Aside0.mk (blk_drew BK488.out)
  have n3_ := Aside0.mk (blk_drew BK496.out)
  have n4_ := Aside0.mk (below_drew1 HB.out)
  clear BK478 BK479 BK488 BK496; clear HB; have BK478 := n0_; have BK479 := n1_; have BK488 := n2_; have BK496 := n3_; have HB := n4_; clear n0_ n1_ n2_ n3_ n4_
  refine start_ (n := 9) (S := fun w' => w'.cell? ⟨gb478, 0, none⟩ = some (.int .i64 a0_0) ∧ w'.cell? ⟨gb478, 1, none⟩ = some (.int .i64 a0_1) ∧ w'.cell? ⟨gb478, 2, none⟩ = some (.int .i64 a0_2) ∧ w'.cell? ⟨gb478, 3, none⟩ = some (.int .i64 a0_3) ∧ w'.cell? ⟨gb478, 4, none⟩ = some (.int .i64 a0_4) ∧ w'.cell? ⟨gb478, 5, none⟩ = some (.int .i64 a0_5)) (ds := []) (bt 0 9) (by kernel_rfl) rfl rfl ⟨(blk_cell BK478.out 0).trans rfl, (blk_cell BK478.out 1).trans rfl, (blk_cell BK478.out 2).trans rfl, (blk_cell BK478.out 3).trans rfl, (blk_cell BK478.out 4).trans rfl, (blk_cell BK478.out 5).trans rfl⟩ (fun hHeld => ?_); refine with_tabW pointillistlaw08_AffineThen.tab5 pointillistlaw08_AffineThen.bits5 (fun HT_ HW_ => ?_)
  generalize w31.drew = w32 at BK478 BK479 BK488 BK496 HB hHeld ⊢
  refine take_ (i := 0) (N := some 28) (v := ?_) (a' := ?_) (bt 1 8) rfl rfl (take_ofW HT_.out HW_.out (by kernel_rfl)) (fun _ _ _ h => h) (Or.inl ⟨by rfl, ?_⟩) hHeld ?_ ?_
  rotate_left
  ·
   rintro w' ⟨s0, s1, s2, s3, s4, s5⟩
   go_simp
   with_reducible rfl
  rotate_left; focus (simp only [apz, i64_w, i32_w]; rfl)
  refine join_ (σ := Nat) 2 (bt 7 2) (fun s_ => [(29, .agg #[.int .i64 t497, .int .i64 t498, .int .i64 t499, .int .i64 t500, .int .i64 t501, .int .i64 t502]), (30, .tuple #[.agg #[.int .i64 t503, .int .i64 t504, .int .i64 t505, .int .i64 t506, .int .i64 t507, .int .i64 t508], .int .i64 t509]), (9, .pointer (some ⟨s_, 0, none⟩)), (27, .tuple #[.agg #[.int .i64 t503, .int .i64 t504, .int .i64 t505, .int .i64 t506, .int .i64 t507, .int .i64 t508], .int .i64 t509]), (31, .agg #[.int .i64 t503, .int .i64 t504, .int .i64 t505, .int .i64 t506, .int .i64 t507, .int .i64 t508]), (32, .int .i64 t509)]) (fun s_ w' => (w'.cell? ⟨gb478, 0, none⟩ = some (.int .i64 a0_0) ∧ w'.cell? ⟨gb478, 1, none⟩ = some (.int .i64 a0_1) ∧ w'.cell? ⟨gb478, 2, none⟩ = some (.int .i64 a0_2) ∧ w'.cell? ⟨gb478, 3, none⟩ = some (.int .i64 a0_3) ∧ w'.cell? ⟨gb478, 4, none⟩ = some (.int .i64 a0_4) ∧ w'.cell? ⟨gb478, 5, none⟩ = some (.int .i64 a0_5)) ∧ (w'.heap[gb478]? = some (.cells #[.int .i64 a0_0, .int .i64 a0_1, .int .i64 a0_2, .int .i64 a0_3, .int .i64 a0_4, .int .i64 a0_5] 23 (0, 0))) ∧ (w'.heap[gb479]? = some (.cells #[.int .i64 a1_0, .int .i64 a1_1, .int .i64 a1_2, .int .i64 a1_3, .int .i64 a1_4, .int .i64 a1_5] 23 (0, 0))) ∧ (w'.heap[gb488]? = some (.cells #[.int .i64 t481, .int .i64 t482, .int .i64 t483, .int .i64 t484, .int .i64 t485, .int .i64 t486] 23 (0, 0))) ∧ (w'.heap[gb496]? = some (.cells #[.int .i64 t489, .int .i64 t490, .int .i64 t491, .int .i64 t492, .int .i64 t493, .int .i64 t494] 23 (0, 0))) ∧ (w'.heap[s_]? = some (.cells #[.int .i64 0, .int .i64 0, .int .i64 0, .int .i64 0, .int .i64 0, .int .i64 0] 23 (0, 0))) ∧ (w.heap.size ≤ s_) ∧ (w.heap.size ≤ s_) ∧ (gb478 ≠ s_) ∧ (s_ ≠ gb478) ∧ (gb479 ≠ s_) ∧ (s_ ≠ gb479) ∧ (gb488 ≠ s_) ∧ (s_ ≠ gb488) ∧ (gb496 ≠ s_) ∧ (s_ ≠ gb496) ∧ (Below w.heap.size w w')) ?_ ?_
  rotate_left
  ·
   intro hCont
   refine two_ (i := 1) (j := 6) (Ni := some 29) (Nj := some 9) (bt 2 7) (bm 9 65) rfl rfl rfl rfl (two_of HT_.out (by kernel_rfl)) (by decide) (by decide) (fun K hK => ?_) (fun K hK => ?_)
   ·
    skip
    refine goes_ Tryd.func11 (by kernel_rfl) rfl #[] (by rfl) rfl rfl (by (try simp only [List.map_toArray, List.map_cons, List.map_nil]); first | done | rfl | (simp only [List.length_drop, List.length_take]; rfl)) ?_
    with_reducible refine (affine_Same.calls  t497 t498 t499 t500 t501 t502 _ A7.out).mono ?_
    rintro e w33 ⟨rfl, hb⟩
    refine ⟨_, rfl, ?_⟩
    have n0_ := Aside0.mk (blk_below (bq BK478.out) hb)
    have n1_ := Aside0.mk (blk_below (bq BK479.out) hb)
    have n2_ := Aside0.mk (blk_below (bq BK488.out) hb)
    have n3_ := Aside0.mk (blk_below (bq BK496.out) hb)
    have n4_ := Aside0.mk (below_step (wq HB.out) hb)
    clear BK478 BK479 BK488 BK496; clear HB; have BK478 := n0_; have BK479 := n1_; have BK488 := n2_; have BK496 := n3_; have HB := n4_; clear n0_ n1_ n2_ n3_ n4_
    (try clear hb)
    (try clear hb2)
    (try clear hk)
    (try clear hi)
    refine hK.out _ _ ⟨(blk_cell BK478.out 0).trans rfl, (blk_cell BK478.out 1).trans rfl, (blk_cell BK478.out 2).trans rfl, (blk_cell BK478.out 3).trans rfl, (blk_cell BK478.out 4).trans rfl, (blk_cell BK478.out 5).trans rfl⟩ (fun hHeld => ?_)
    clear hK K
    refine norm_ (a' := ?_) ?_ ?_
    rotate_left
    ·
     show Act.put _ (some 29) _ = _
     simp only [apz, i64_w, i32_w]
     rfl
    refine two_ (i := 2) (j := 6) (Ni := some 30) (Nj := some 9) (bt 3 6) (bm 9 67) rfl rfl rfl rfl (two_of HT_.out (by kernel_rfl)) (by decide) (by decide) (fun K hK => ?_) (fun K hK => ?_)
    ·
     skip
     refine goes_ Tryd.func17 (by kernel_rfl) rfl #[.agg #[.int .i64 a0_0, .int .i64 a0_1, .int .i64 a0_2, .int .i64 a0_3, .int .i64 a0_4, .int .i64 a0_5], .agg #[.int .i64 t497, .int .i64 t498, .int .i64 t499, .int .i64 t500, .int .i64 t501, .int .i64 t502]] (by rfl) rfl rfl (by (try simp only [List.map_toArray, List.map_cons, List.map_nil]); first | done | rfl | (simp only [List.length_drop, List.length_take]; rfl)) ?_
     with_reducible refine (affine_Then.calls k a0_0 a0_1 a0_2 a0_3 a0_4 a0_5 t497 t498 t499 t500 t501 t502 t503 t504 t505 t506 t507 t508 t509 _ ?side1 A8.out).mono ?_
     (case side1 => exact Gl.below HG.out (wq HB.out))
     rintro e w34 ⟨rfl, hb⟩
     refine ⟨_, rfl, ?_⟩
     have n0_ := Aside0.mk (blk_below (bq BK478.out) hb)
     have n1_ := Aside0.mk (blk_below (bq BK479.out) hb)
     have n2_ := Aside0.mk (blk_below (bq BK488.out) hb)
     have n3_ := Aside0.mk (blk_below (bq BK496.out) hb)
     have n4_ := Aside0.mk (below_step (wq HB.out) hb)
     clear BK478 BK479 BK488 BK496; clear HB; have BK478 := n0_; have BK479 := n1_; have BK488 := n2_; have BK496 := n3_; have HB := n4_; clear n0_ n1_ n2_ n3_ n4_
     (try clear hb)
     (try clear hb2)
     (try clear hk)
     (try clear hi)
     refine hK.out _ _ ⟨(blk_cell BK478.out 0).trans rfl, (blk_cell BK478.out 1).trans rfl, (blk_cell BK478.out 2).trans rfl, (blk_cell BK478.out 3).trans rfl, (blk_cell BK478.out 4).trans rfl, (blk_cell BK478.out 5).trans rfl⟩ (fun hHeld => ?_)
     clear hK K
     refine norm_ (a' := ?_) ?_ ?_
     rotate_left
     ·
      show Act.put _ (some 30) _ = _
      simp only [apz, i64_w, i32_w]
      rfl
     refine pure_ (i := 3) (N := some 27) (v := ?_) (a' := ?_) (bt 4 5) rfl rfl (any_of HT_.out (by kernel_rfl)) (fun _ _ _ h => h) (Or.inl ⟨by rfl, ?_⟩) ?_ ?_
     rotate_left; focus (intro w'; go_simp; with_reducible rfl)
     rotate_left; focus (simp only [apz, i64_w, i32_w]; rfl)
     refine pure_ (i := 4) (N := some 31) (v := ?_) (a' := ?_) (bt 5 4) rfl rfl (any_of HT_.out (by kernel_rfl)) (fun _ _ _ h => h) (Or.inl ⟨by rfl, ?_⟩) ?_ ?_
     rotate_left; focus (intro w'; go_simp; with_reducible rfl)
     rotate_left; focus (simp only [apz, i64_w, i32_w]; rfl)
     refine pure_ (i := 5) (N := some 32) (v := ?_) (a' := ?_) (bt 6 3) rfl rfl (any_of HT_.out (by kernel_rfl)) (fun _ _ _ h => h) (Or.inl ⟨by rfl, ?_⟩) ?_ ?_
     rotate_left; focus (intro w'; go_simp; with_reducible rfl)
     rotate_left; focus (simp only [apz, i64_w, i32_w]; rfl)
     refine one_ (i := 6) (N := some 9) (bt 7 2) rfl rfl (one_of HT_.out (by kernel_rfl)) (by decide) (fun K hK => ?_)
     refine box_step ?hg (N := 9) ?hd (cs := #[.int .i64 0, .int .i64 0, .int .i64 0, .int .i64 0, .int .i64 0, .int .i64 0]) (t := 23) ?hr ?_; (case hd => rfl); (case hg => rfl); (case hr => first | (go_simp; done) | (go_simp; rfl))
     intro gb510 hg w35 hbox hb
     have n0_ := Aside0.mk (blk_below (bq BK478.out) hb)
     have n1_ := Aside0.mk (blk_below (bq BK479.out) hb)
     have n2_ := Aside0.mk (blk_below (bq BK488.out) hb)
     have n3_ := Aside0.mk (blk_below (bq BK496.out) hb)
     have n4_ := Aside0.mk (below_step (wq HB.out) hb)
     have n5_ := Aside0.mk (hbox)
     have n6_ := Aside0.mk ((by rw [hg]; exact (below_size (wq HB.out)) : w.heap.size ≤ gb510))
     have n7_ := Aside0.mk ((by rw [hg]; exact (below_size (wq HB.out)) : w.heap.size ≤ gb510))
     have n8_ := Aside0.mk ((by rw [hg]; exact Nat.ne_of_lt (blk_lt (bq BK478.out)) : gb478 ≠ gb510))
     have n9_ := Aside0.mk ((by rw [hg]; exact Nat.ne_of_gt (blk_lt (bq BK478.out)) : gb510 ≠ gb478))
     have n10_ := Aside0.mk ((by rw [hg]; exact Nat.ne_of_lt (blk_lt (bq BK479.out)) : gb479 ≠ gb510))
     have n11_ := Aside0.mk ((by rw [hg]; exact Nat.ne_of_gt (blk_lt (bq BK479.out)) : gb510 ≠ gb479))
     have n12_ := Aside0.mk ((by rw [hg]; exact Nat.ne_of_lt (blk_lt (bq BK488.out)) : gb488 ≠ gb510))
     have n13_ := Aside0.mk ((by rw [hg]; exact Nat.ne_of_gt (blk_lt (bq BK488.out)) : gb510 ≠ gb488))
     have n14_ := Aside0.mk ((by rw [hg]; exact Nat.ne_of_lt (blk_lt (bq BK496.out)) : gb496 ≠ gb510))
     have n15_ := Aside0.mk ((by rw [hg]; exact Nat.ne_of_gt (blk_lt (bq BK496.out)) : gb510 ≠ gb496))
     clear BK478 BK479 BK488 BK496; clear HB; have BK478 := n0_; have BK479 := n1_; have BK488 := n2_; have BK496 := n3_; have HB := n4_; have BK510 := n5_; have GW510 := n6_; have GE510 := n7_; have NB478_510 := n8_; have NB510_478 := n9_; have NB479_510 := n10_; have NB510_479 := n11_; have NB488_510 := n12_; have NB510_488 := n13_; have NB496_510 := n14_; have NB510_496 := n15_; clear n0_ n1_ n2_ n3_ n4_ n5_ n6_ n7_ n8_ n9_ n10_ n11_ n12_ n13_ n14_ n15_ hb hbox hg
     refine hK.out _ _ ⟨(blk_cell BK478.out 0).trans rfl, (blk_cell BK478.out 1).trans rfl, (blk_cell BK478.out 2).trans rfl, (blk_cell BK478.out 3).trans rfl, (blk_cell BK478.out 4).trans rfl, (blk_cell BK478.out 5).trans rfl⟩ (fun hHeld => ?_)
     clear hK K
     refine norm_ (a' := ?_) ?_ ?_
     rotate_left
     ·
      show Act.put _ (some 9) _ = _
      simp only [apz, i64_w, i32_w]
      rfl
     exact norm_ (by simp only [putAll, apz]) (hCont (gb510) _ ⟨hHeld, (bq BK478.out), (bq BK479.out), (bq BK488.out), (bq BK496.out), (bq BK510.out), GW510.out, GE510.out, NB478_510.out, NB510_478.out, NB479_510.out, NB510_479.out, NB488_510.out, NB510_488.out, NB496_510.out, NB510_496.out, (wq HB.out)⟩)
    ·
     skip
     refine box_step ?hg (N := 9) ?hd (cs := #[.int .i64 0, .int .i64 0, .int .i64 0, .int .i64 0, .int .i64 0, .int .i64 0]) (t := 23) ?hr ?_; (case hd => rfl); (case hg => rfl); (case hr => first | (go_simp; done) | (go_simp; rfl))
     intro gb510 hg w34 hbox hb
     have n0_ := Aside0.mk (blk_below (bq BK478.out) hb)
     have n1_ := Aside0.mk (blk_below (bq BK479.out) hb)
     have n2_ := Aside0.mk (blk_below (bq BK488.out) hb)
     have n3_ := Aside0.mk (blk_below (bq BK496.out) hb)
     have n4_ := Aside0.mk (below_step (wq HB.out) hb)
     have n5_ := Aside0.mk (hbox)
     have n6_ := Aside0.mk ((by rw [hg]; exact (below_size (wq HB.out)) : w.heap.size ≤ gb510))
     have n7_ := Aside0.mk ((by rw [hg]; exact (below_size (wq HB.out)) : w.heap.size ≤ gb510))
     have n8_ := Aside0.mk ((by rw [hg]; exact Nat.ne_of_lt (blk_lt (bq BK478.out)) : gb478 ≠ gb510))
     have n9_ := Aside0.mk ((by rw [hg]; exact Nat.ne_of_gt (blk_lt (bq BK478.out)) : gb510 ≠ gb478))
     have n10_ := Aside0.mk ((by rw [hg]; exact Nat.ne_of_lt (blk_lt (bq BK479.out)) : gb479 ≠ gb510))
     have n11_ := Aside0.mk ((by rw [hg]; exact Nat.ne_of_gt (blk_lt (bq BK479.out)) : gb510 ≠ gb479))
     have n12_ := Aside0.mk ((by rw [hg]; exact Nat.ne_of_lt (blk_lt (bq BK488.out)) : gb488 ≠ gb510))
     have n13_ := Aside0.mk ((by rw [hg]; exact Nat.ne_of_gt (blk_lt (bq BK488.out)) : gb510 ≠ gb488))
     have n14_ := Aside0.mk ((by rw [hg]; exact Nat.ne_of_lt (blk_lt (bq BK496.out)) : gb496 ≠ gb510))
     have n15_ := Aside0.mk ((by rw [hg]; exact Nat.ne_of_gt (blk_lt (bq BK496.out)) : gb510 ≠ gb496))
     clear BK478 BK479 BK488 BK496; clear HB; have BK478 := n0_; have BK479 := n1_; have BK488 := n2_; have BK496 := n3_; have HB := n4_; have BK510 := n5_; have GW510 := n6_; have GE510 := n7_; have NB478_510 := n8_; have NB510_478 := n9_; have NB479_510 := n10_; have NB510_479 := n11_; have NB488_510 := n12_; have NB510_488 := n13_; have NB496_510 := n14_; have NB510_496 := n15_; clear n0_ n1_ n2_ n3_ n4_ n5_ n6_ n7_ n8_ n9_ n10_ n11_ n12_ n13_ n14_ n15_ hb hbox hg
     refine hK.out _ _ ⟨(blk_cell BK478.out 0).trans rfl, (blk_cell BK478.out 1).trans rfl, (blk_cell BK478.out 2).trans rfl, (blk_cell BK478.out 3).trans rfl, (blk_cell BK478.out 4).trans rfl, (blk_cell BK478.out 5).trans rfl⟩ (fun hHeld => ?_)
     clear hK K
     refine norm_ (a' := ?_) ?_ ?_
     rotate_left
     ·
      show Act.put _ (some 9) _ = _
      simp only [apz, i64_w, i32_w]
      rfl
     refine one_ (i := 2) (N := some 30) (bm 9 71) rfl rfl (one_of HT_.out (by kernel_rfl)) (by decide) (fun K hK => ?_)
     refine goes_ Tryd.func17 (by kernel_rfl) rfl #[.agg #[.int .i64 a0_0, .int .i64 a0_1, .int .i64 a0_2, .int .i64 a0_3, .int .i64 a0_4, .int .i64 a0_5], .agg #[.int .i64 t497, .int .i64 t498, .int .i64 t499, .int .i64 t500, .int .i64 t501, .int .i64 t502]] (by rfl) rfl rfl (by (try simp only [List.map_toArray, List.map_cons, List.map_nil]); first | done | rfl | (simp only [List.length_drop, List.length_take]; rfl)) ?_
     with_reducible refine (affine_Then.calls k a0_0 a0_1 a0_2 a0_3 a0_4 a0_5 t497 t498 t499 t500 t501 t502 t503 t504 t505 t506 t507 t508 t509 _ ?side1 A8.out).mono ?_
     (case side1 => exact Gl.below HG.out (wq HB.out))
     rintro e w35 ⟨rfl, hb⟩
     refine ⟨_, rfl, ?_⟩
     have n0_ := Aside0.mk (blk_below (bq BK478.out) hb)
     have n1_ := Aside0.mk (blk_below (bq BK479.out) hb)
     have n2_ := Aside0.mk (blk_below (bq BK488.out) hb)
     have n3_ := Aside0.mk (blk_below (bq BK496.out) hb)
     have n4_ := Aside0.mk (blk_below (bq BK510.out) hb)
     have n5_ := Aside0.mk (below_step (wq HB.out) hb)
     clear BK478 BK479 BK488 BK496; clear BK510 HB; have BK478 := n0_; have BK479 := n1_; have BK488 := n2_; have BK496 := n3_; have BK510 := n4_; have HB := n5_; clear n0_ n1_ n2_ n3_ n4_ n5_
     (try clear hb)
     (try clear hb2)
     (try clear hk)
     (try clear hi)
     refine hK.out _ _ ⟨(blk_cell BK478.out 0).trans rfl, (blk_cell BK478.out 1).trans rfl, (blk_cell BK478.out 2).trans rfl, (blk_cell BK478.out 3).trans rfl, (blk_cell BK478.out 4).trans rfl, (blk_cell BK478.out 5).trans rfl⟩ (fun hHeld => ?_)
     clear hK K
     refine norm_ (a' := ?_) ?_ ?_
     rotate_left
     ·
      show Act.put _ (some 30) _ = _
      simp only [apz, i64_w, i32_w]
      rfl
     refine pure_ (i := 3) (N := some 27) (v := ?_) (a' := ?_) (bm 9 79) rfl rfl (any_of HT_.out (by kernel_rfl)) (fun _ _ _ h => h) (Or.inl ⟨by rfl, ?_⟩) ?_ ?_
     rotate_left; focus (intro w'; go_simp; with_reducible rfl)
     rotate_left; focus (simp only [apz, i64_w, i32_w]; rfl)
     refine pure_ (i := 4) (N := some 31) (v := ?_) (a' := ?_) (bm 9 95) rfl rfl (any_of HT_.out (by kernel_rfl)) (fun _ _ _ h => h) (Or.inl ⟨by rfl, ?_⟩) ?_ ?_
     rotate_left; focus (intro w'; go_simp; with_reducible rfl)
     rotate_left; focus (simp only [apz, i64_w, i32_w]; rfl)
     refine pure_ (i := 5) (N := some 32) (v := ?_) (a' := ?_) (bt 7 2) rfl rfl (any_of HT_.out (by kernel_rfl)) (fun _ _ _ h => h) (Or.inl ⟨by rfl, ?_⟩) ?_ ?_
     rotate_left; focus (intro w'; go_simp; with_reducible rfl)
     rotate_left; focus (simp only [apz, i64_w, i32_w]; rfl)
     exact norm_ (by simp only [putAll, apz]) (hCont (gb510) _ ⟨hHeld, (bq BK478.out), (bq BK479.out), (bq BK488.out), (bq BK496.out), (bq BK510.out), GW510.out, GE510.out, NB478_510.out, NB510_478.out, NB479_510.out, NB510_479.out, NB488_510.out, NB510_488.out, NB496_510.out, NB510_496.out, (wq HB.out)⟩)
   ·
    skip
    refine box_step ?hg (N := 9) ?hd (cs := #[.int .i64 0, .int .i64 0, .int .i64 0, .int .i64 0, .int .i64 0, .int .i64 0]) (t := 23) ?hr ?_; (case hd => rfl); (case hg => rfl); (case hr => first | (go_simp; done) | (go_simp; rfl))
    intro gb510 hg w33 hbox hb
    have n0_ := Aside0.mk (blk_below (bq BK478.out) hb)
    have n1_ := Aside0.mk (blk_below (bq BK479.out) hb)
    have n2_ := Aside0.mk (blk_below (bq BK488.out) hb)
    have n3_ := Aside0.mk (blk_below (bq BK496.out) hb)
    have n4_ := Aside0.mk (below_step (wq HB.out) hb)
    have n5_ := Aside0.mk (hbox)
    have n6_ := Aside0.mk ((by rw [hg]; exact (below_size (wq HB.out)) : w.heap.size ≤ gb510))
    have n7_ := Aside0.mk ((by rw [hg]; exact (below_size (wq HB.out)) : w.heap.size ≤ gb510))
    have n8_ := Aside0.mk ((by rw [hg]; exact Nat.ne_of_lt (blk_lt (bq BK478.out)) : gb478 ≠ gb510))
    have n9_ := Aside0.mk ((by rw [hg]; exact Nat.ne_of_gt (blk_lt (bq BK478.out)) : gb510 ≠ gb478))
    have n10_ := Aside0.mk ((by rw [hg]; exact Nat.ne_of_lt (blk_lt (bq BK479.out)) : gb479 ≠ gb510))
    have n11_ := Aside0.mk ((by rw [hg]; exact Nat.ne_of_gt (blk_lt (bq BK479.out)) : gb510 ≠ gb479))
    have n12_ := Aside0.mk ((by rw [hg]; exact Nat.ne_of_lt (blk_lt (bq BK488.out)) : gb488 ≠ gb510))
    have n13_ := Aside0.mk ((by rw [hg]; exact Nat.ne_of_gt (blk_lt (bq BK488.out)) : gb510 ≠ gb488))
    have n14_ := Aside0.mk ((by rw [hg]; exact Nat.ne_of_lt (blk_lt (bq BK496.out)) : gb496 ≠ gb510))
    have n15_ := Aside0.mk ((by rw [hg]; exact Nat.ne_of_gt (blk_lt (bq BK496.out)) : gb510 ≠ gb496))
    clear BK478 BK479 BK488 BK496; clear HB; have BK478 := n0_; have BK479 := n1_; have BK488 := n2_; have BK496 := n3_; have HB := n4_; have BK510 := n5_; have GW510 := n6_; have GE510 := n7_; have NB478_510 := n8_; have NB510_478 := n9_; have NB479_510 := n10_; have NB510_479 := n11_; have NB488_510 := n12_; have NB510_488 := n13_; have NB496_510 := n14_; have NB510_496 := n15_; clear n0_ n1_ n2_ n3_ n4_ n5_ n6_ n7_ n8_ n9_ n10_ n11_ n12_ n13_ n14_ n15_ hb hbox hg
    refine hK.out _ _ ⟨(blk_cell BK478.out 0).trans rfl, (blk_cell BK478.out 1).trans rfl, (blk_cell BK478.out 2).trans rfl, (blk_cell BK478.out 3).trans rfl, (blk_cell BK478.out 4).trans rfl, (blk_cell BK478.out 5).trans rfl⟩ (fun hHeld => ?_)
    clear hK K
    refine norm_ (a' := ?_) ?_ ?_
    rotate_left
    ·
     show Act.put _ (some 9) _ = _
     simp only [apz, i64_w, i32_w]
     rfl
    refine one_ (i := 1) (N := some 29) (bm 9 67) rfl rfl (one_of HT_.out (by kernel_rfl)) (by decide) (fun K hK => ?_)
    refine goes_ Tryd.func11 (by kernel_rfl) rfl #[] (by rfl) rfl rfl (by (try simp only [List.map_toArray, List.map_cons, List.map_nil]); first | done | rfl | (simp only [List.length_drop, List.length_take]; rfl)) ?_
    with_reducible refine (affine_Same.calls  t497 t498 t499 t500 t501 t502 _ A7.out).mono ?_
    rintro e w34 ⟨rfl, hb⟩
    refine ⟨_, rfl, ?_⟩
    have n0_ := Aside0.mk (blk_below (bq BK478.out) hb)
    have n1_ := Aside0.mk (blk_below (bq BK479.out) hb)
    have n2_ := Aside0.mk (blk_below (bq BK488.out) hb)
    have n3_ := Aside0.mk (blk_below (bq BK496.out) hb)
    have n4_ := Aside0.mk (blk_below (bq BK510.out) hb)
    have n5_ := Aside0.mk (below_step (wq HB.out) hb)
    clear BK478 BK479 BK488 BK496; clear BK510 HB; have BK478 := n0_; have BK479 := n1_; have BK488 := n2_; have BK496 := n3_; have BK510 := n4_; have HB := n5_; clear n0_ n1_ n2_ n3_ n4_ n5_
    (try clear hb)
    (try clear hb2)
    (try clear hk)
    (try clear hi)
    refine hK.out _ _ ⟨(blk_cell BK478.out 0).trans rfl, (blk_cell BK478.out 1).trans rfl, (blk_cell BK478.out 2).trans rfl, (blk_cell BK478.out 3).trans rfl, (blk_cell BK478.out 4).trans rfl, (blk_cell BK478.out 5).trans rfl⟩ (fun hHeld => ?_)
    clear hK K
    refine norm_ (a' := ?_) ?_ ?_
    rotate_left
    ·
     show Act.put _ (some 29) _ = _
     simp only [apz, i64_w, i32_w]
     rfl
    refine one_ (i := 2) (N := some 30) (bm 9 71) rfl rfl (one_of HT_.out (by kernel_rfl)) (by decide) (fun K hK => ?_)
    refine goes_ Tryd.func17 (by kernel_rfl) rfl #[.agg #[.int .i64 a0_0, .int .i64 a0_1, .int .i64 a0_2, .int .i64 a0_3, .int .i64 a0_4, .int .i64 a0_5], .agg #[.int .i64 t497, .int .i64 t498, .int .i64 t499, .int .i64 t500, .int .i64 t501, .int .i64 t502]] (by rfl) rfl rfl (by (try simp only [List.map_toArray, List.map_cons, List.map_nil]); first | done | rfl | (simp only [List.length_drop, List.length_take]; rfl)) ?_
    with_reducible refine (affine_Then.calls k a0_0 a0_1 a0_2 a0_3 a0_4 a0_5 t497 t498 t499 t500 t501 t502 t503 t504 t505 t506 t507 t508 t509 _ ?side1 A8.out).mono ?_
    (case side1 => exact Gl.below HG.out (wq HB.out))
    rintro e w35 ⟨rfl, hb⟩
    refine ⟨_, rfl, ?_⟩
    have n0_ := Aside0.mk (blk_below (bq BK478.out) hb)
    have n1_ := Aside0.mk (blk_below (bq BK479.out) hb)
    have n2_ := Aside0.mk (blk_below (bq BK488.out) hb)
    have n3_ := Aside0.mk (blk_below (bq BK496.out) hb)
    have n4_ := Aside0.mk (blk_below (bq BK510.out) hb)
    have n5_ := Aside0.mk (below_step (wq HB.out) hb)
    clear BK478 BK479 BK488 BK496; clear BK510 HB; have BK478 := n0_; have BK479 := n1_; have BK488 := n2_; have BK496 := n3_; have BK510 := n4_; have HB := n5_; clear n0_ n1_ n2_ n3_ n4_ n5_
    (try clear hb)
    (try clear hb2)
    (try clear hk)
    (try clear hi)
    refine hK.out _ _ ⟨(blk_cell BK478.out 0).trans rfl, (blk_cell BK478.out 1).trans rfl, (blk_cell BK478.out 2).trans rfl, (blk_cell BK478.out 3).trans rfl, (blk_cell BK478.out 4).trans rfl, (blk_cell BK478.out 5).trans rfl⟩ (fun hHeld => ?_)
    clear hK K
    refine norm_ (a' := ?_) ?_ ?_
    rotate_left
    ·
     show Act.put _ (some 30) _ = _
     simp only [apz, i64_w, i32_w]
     rfl
    refine pure_ (i := 3) (N := some 27) (v := ?_) (a' := ?_) (bm 9 79) rfl rfl (any_of HT_.out (by kernel_rfl)) (fun _ _ _ h => h) (Or.inl ⟨by rfl, ?_⟩) ?_ ?_
    rotate_left; focus (intro w'; go_simp; with_reducible rfl)
    rotate_left; focus (simp only [apz, i64_w, i32_w]; rfl)
    refine pure_ (i := 4) (N := some 31) (v := ?_) (a' := ?_) (bm 9 95) rfl rfl (any_of HT_.out (by kernel_rfl)) (fun _ _ _ h => h) (Or.inl ⟨by rfl, ?_⟩) ?_ ?_
    rotate_left; focus (intro w'; go_simp; with_reducible rfl)
    rotate_left; focus (simp only [apz, i64_w, i32_w]; rfl)
    refine pure_ (i := 5) (N := some 32) (v := ?_) (a' := ?_) (bt 7 2) rfl rfl (any_of HT_.out (by kernel_rfl)) (fun _ _ _ h => h) (Or.inl ⟨by rfl, ?_⟩) ?_ ?_
    rotate_left; focus (intro w'; go_simp; with_reducible rfl)
    rotate_left; focus (simp only [apz, i64_w, i32_w]; rfl)
    exact norm_ (by simp only [putAll, apz]) (hCont (gb510) _ ⟨hHeld, (bq BK478.out), (bq BK479.out), (bq BK488.out), (bq BK496.out), (bq BK510.out), GW510.out, GE510.out, NB478_510.out, NB510_478.out, NB479_510.out, NB510_479.out, NB488_510.out, NB510_488.out, NB496_510.out, NB510_496.out, (wq HB.out)⟩)
  rintro gb510 w36 ⟨hS_, h0_, h1_, h2_, h3_, h4_, h5_, h6_, h7_, h8_, h9_, h10_, h11_, h12_, h13_, h14_, h15_⟩
  have n0_ : Aside0 (w36.heap[gb478]? = some (.cells #[.int .i64 a0_0, .int .i64 a0_1, .int .i64 a0_2, .int .i64 a0_3, .int .i64 a0_4, .int .i64 a0_5] 23 (0, 0))) := ⟨h0_⟩
  have n1_ : Aside0 (w36.heap[gb479]? = some (.cells #[.int .i64 a1_0, .int .i64 a1_1, .int .i64 a1_2, .int .i64 a1_3, .int .i64 a1_4, .int .i64 a1_5] 23 (0, 0))) := ⟨h1_⟩
  have n2_ : Aside0 (w36.heap[gb488]? = some (.cells #[.int .i64 t481, .int .i64 t482, .int .i64 t483, .int .i64 t484, .int .i64 t485, .int .i64 t486] 23 (0, 0))) := ⟨h2_⟩
  have n3_ : Aside0 (w36.heap[gb496]? = some (.cells #[.int .i64 t489, .int .i64 t490, .int .i64 t491, .int .i64 t492, .int .i64 t493, .int .i64 t494] 23 (0, 0))) := ⟨h3_⟩
  have n4_ : Aside0 (w36.heap[gb510]? = some (.cells #[.int .i64 0, .int .i64 0, .int .i64 0, .int .i64 0, .int .i64 0, .int .i64 0] 23 (0, 0))) := ⟨h4_⟩
  have n5_ : Aside0 (w.heap.size ≤ gb510) := ⟨h5_⟩
  have n6_ : Aside0 (w.heap.size ≤ gb510) := ⟨h6_⟩
  have n7_ : Aside0 (gb478 ≠ gb510) := ⟨h7_⟩
  have n8_ : Aside0 (gb510 ≠ gb478) := ⟨h8_⟩
  have n9_ : Aside0 (gb479 ≠ gb510) := ⟨h9_⟩
  have n10_ : Aside0 (gb510 ≠ gb479) := ⟨h10_⟩
  have n11_ : Aside0 (gb488 ≠ gb510) := ⟨h11_⟩
  have n12_ : Aside0 (gb510 ≠ gb488) := ⟨h12_⟩
  have n13_ : Aside0 (gb496 ≠ gb510) := ⟨h13_⟩
  have n14_ : Aside0 (gb510 ≠ gb496) := ⟨h14_⟩
  have n15_ : Aside0 (Below w.heap.size w w36) := ⟨h15_⟩
  clear BK478 BK479 BK488 BK496; clear HB h0_ h1_ h2_ h3_ h4_ h5_ h6_ h7_ h8_ h9_ h10_ h11_ h12_ h13_ h14_ h15_; have BK478 := n0_; have BK479 := n1_; have BK488 := n2_; have BK496 := n3_; have BK510 := n4_; have GW510 := n5_; have GE510 := n6_; have NB478_510 := n7_; have NB510_478 := n8_; have NB479_510 := n9_; have NB510_479 := n10_; have NB488_510 := n11_; have NB510_488 := n12_; have NB496_510 := n13_; have NB510_496 := n14_; have HB := n15_; clear n0_ n1_ n2_ n3_ n4_ n5_ n6_ n7_ n8_ n9_ n10_ n11_ n12_ n13_ n14_ n15_
  have hHeld : w36.cell? ⟨gb478, 0, none⟩ = some (.int .i64 a0_0) ∧ w36.cell? ⟨gb478, 1, none⟩ = some (.int .i64 a0_1) ∧ w36.cell? ⟨gb478, 2, none⟩ = some (.int .i64 a0_2) ∧ w36.cell? ⟨gb478, 3, none⟩ = some (.int .i64 a0_3) ∧ w36.cell? ⟨gb478, 4, none⟩ = some (.int .i64 a0_4) ∧ w36.cell? ⟨gb478, 5, none⟩ = some (.int .i64 a0_5) := hS_
  refine norm_ (a' := ?_) ?_ ?_
  rotate_left
  ·
   simp only [putAll, apz]
   rfl
  refine one_ (i := 7) (N := none) (bt 8 1) rfl rfl (one_of HT_.out (by kernel_rfl)) (by decide) (fun K hK => ?_)
  have hs37 : w36.cell? ⟨gb510, 0, none⟩ = some (.int .i64 0) := (blk_cell BK510.out 0).trans rfl
  have hfs37 := blk_frozen BK510.out 0
  have hns37_0 := NB478_510.out
  have hns37_1 := NB479_510.out
  have hns37_2 := NB488_510.out
  have hns37_3 := NB496_510.out
  have hms37_0 := NB510_478.out
  have hms37_1 := NB510_479.out
  have hms37_2 := NB510_488.out
  have hms37_3 := NB510_496.out
  have hs38 : w36.cell? ⟨gb510, 1, none⟩ = some (.int .i64 0) := (blk_cell BK510.out 1).trans rfl
  have hfs38 := blk_frozen BK510.out 1
  have hns38_0 := NB478_510.out
  have hns38_1 := NB479_510.out
  have hns38_2 := NB488_510.out
  have hns38_3 := NB496_510.out
  have hms38_0 := NB510_478.out
  have hms38_1 := NB510_479.out
  have hms38_2 := NB510_488.out
  have hms38_3 := NB510_496.out
  have hs39 : w36.cell? ⟨gb510, 2, none⟩ = some (.int .i64 0) := (blk_cell BK510.out 2).trans rfl
  have hfs39 := blk_frozen BK510.out 2
  have hns39_0 := NB478_510.out
  have hns39_1 := NB479_510.out
  have hns39_2 := NB488_510.out
  have hns39_3 := NB496_510.out
  have hms39_0 := NB510_478.out
  have hms39_1 := NB510_479.out
  have hms39_2 := NB510_488.out
  have hms39_3 := NB510_496.out
  have hs40 : w36.cell? ⟨gb510, 3, none⟩ = some (.int .i64 0) := (blk_cell BK510.out 3).trans rfl
  have hfs40 := blk_frozen BK510.out 3
  have hns40_0 := NB478_510.out
  have hns40_1 := NB479_510.out
  have hns40_2 := NB488_510.out
  have hns40_3 := NB496_510.out
  have hms40_0 := NB510_478.out
  have hms40_1 := NB510_479.out
  have hms40_2 := NB510_488.out
  have hms40_3 := NB510_496.out
  have hs41 : w36.cell? ⟨gb510, 4, none⟩ = some (.int .i64 0) := (blk_cell BK510.out 4).trans rfl
  have hfs41 := blk_frozen BK510.out 4
  have hns41_0 := NB478_510.out
  have hns41_1 := NB479_510.out
  have hns41_2 := NB488_510.out
  have hns41_3 := NB496_510.out
  have hms41_0 := NB510_478.out
  have hms41_1 := NB510_479.out
  have hms41_2 := NB510_488.out
  have hms41_3 := NB510_496.out
  have hs42 : w36.cell? ⟨gb510, 5, none⟩ = some (.int .i64 0) := (blk_cell BK510.out 5).trans rfl
  have hfs42 := blk_frozen BK510.out 5
  have hns42_0 := NB478_510.out
  have hns42_1 := NB479_510.out
  have hns42_2 := NB488_510.out
  have hns42_3 := NB496_510.out
  have hms42_0 := NB510_478.out
  have hms42_1 := NB510_479.out
  have hms42_2 := NB510_488.out
  have hms42_3 := NB510_496.out
  refine skip_ (w1 := ?_) (by rfl) rfl ?_ ?_
  rotate_left
  ·
   go_simp
   rfl
  refine hK.out _ _ ⟨(cf NB478_510.out ((cf NB478_510.out ((cf NB478_510.out ((cf NB478_510.out ((cf NB478_510.out ((cf NB478_510.out (hHeld.1)))))))))))), (cf NB478_510.out ((cf NB478_510.out ((cf NB478_510.out ((cf NB478_510.out ((cf NB478_510.out ((cf NB478_510.out (hHeld.2.1)))))))))))), (cf NB478_510.out ((cf NB478_510.out ((cf NB478_510.out ((cf NB478_510.out ((cf NB478_510.out ((cf NB478_510.out (hHeld.2.2.1)))))))))))), (cf NB478_510.out ((cf NB478_510.out ((cf NB478_510.out ((cf NB478_510.out ((cf NB478_510.out ((cf NB478_510.out (hHeld.2.2.2.1)))))))))))), (cf NB478_510.out ((cf NB478_510.out ((cf NB478_510.out ((cf NB478_510.out ((cf NB478_510.out ((cf NB478_510.out (hHeld.2.2.2.2.1)))))))))))), (cf NB478_510.out ((cf NB478_510.out ((cf NB478_510.out ((cf NB478_510.out ((cf NB478_510.out ((cf NB478_510.out (hHeld.2.2.2.2.2))))))))))))⟩ (fun hHeld => ?_)
  clear hK K
  refine pure_ (i := 8) (N := some 10) (v := ?_) (a' := ?_) (bt 9 0) rfl rfl (any_of HT_.out (by kernel_rfl)) (fun _ _ _ h => h) (Or.inl ⟨by rfl, ?_⟩) ?_ ?_
  rotate_left; focus (intro w'; go_simp; with_reducible rfl)
  rotate_left; focus (simp only [apz, i64_w, i32_w]; rfl)
  refine done_ (done_of HT_.out (by kernel_rfl)) ?_
  try go_wp2
  have n0_ : Aside0 (((((((w36.setCell ⟨gb510, 0, none⟩ (.int .i64 t503)).setCell ⟨gb510, 1, none⟩ (.int .i64 t504)).setCell ⟨gb510, 2, none⟩ (.int .i64 t505)).setCell ⟨gb510, 3, none⟩ (.int .i64 t506)).setCell ⟨gb510, 4, none⟩ (.int .i64 t507)).setCell ⟨gb510, 5, none⟩ (.int .i64 t508)).heap[gb478]? = some (.cells #[.int .i64 a0_0, .int .i64 a0_1, .int .i64 a0_2, .int .i64 a0_3, .int .i64 a0_4, .int .i64 a0_5] 23 (0, 0))) := ⟨by refine bq ?_; refine blk_far ?_ NB478_510.out _; refine bq ?_; refine blk_far ?_ NB478_510.out _; refine bq ?_; refine blk_far ?_ NB478_510.out _; refine bq ?_; refine blk_far ?_ NB478_510.out _; refine bq ?_; refine blk_far ?_ NB478_510.out _; refine bq ?_; refine blk_far ?_ NB478_510.out _; refine bq ?_; exact BK478.out⟩
  have n1_ : Aside0 (((((((w36.setCell ⟨gb510, 0, none⟩ (.int .i64 t503)).setCell ⟨gb510, 1, none⟩ (.int .i64 t504)).setCell ⟨gb510, 2, none⟩ (.int .i64 t505)).setCell ⟨gb510, 3, none⟩ (.int .i64 t506)).setCell ⟨gb510, 4, none⟩ (.int .i64 t507)).setCell ⟨gb510, 5, none⟩ (.int .i64 t508)).heap[gb479]? = some (.cells #[.int .i64 a1_0, .int .i64 a1_1, .int .i64 a1_2, .int .i64 a1_3, .int .i64 a1_4, .int .i64 a1_5] 23 (0, 0))) := ⟨by refine bq ?_; refine blk_far ?_ NB479_510.out _; refine bq ?_; refine blk_far ?_ NB479_510.out _; refine bq ?_; refine blk_far ?_ NB479_510.out _; refine bq ?_; refine blk_far ?_ NB479_510.out _; refine bq ?_; refine blk_far ?_ NB479_510.out _; refine bq ?_; refine blk_far ?_ NB479_510.out _; refine bq ?_; exact BK479.out⟩
  have n2_ : Aside0 (((((((w36.setCell ⟨gb510, 0, none⟩ (.int .i64 t503)).setCell ⟨gb510, 1, none⟩ (.int .i64 t504)).setCell ⟨gb510, 2, none⟩ (.int .i64 t505)).setCell ⟨gb510, 3, none⟩ (.int .i64 t506)).setCell ⟨gb510, 4, none⟩ (.int .i64 t507)).setCell ⟨gb510, 5, none⟩ (.int .i64 t508)).heap[gb488]? = some (.cells #[.int .i64 t481, .int .i64 t482, .int .i64 t483, .int .i64 t484, .int .i64 t485, .int .i64 t486] 23 (0, 0))) := ⟨by refine bq ?_; refine blk_far ?_ NB488_510.out _; refine bq ?_; refine blk_far ?_ NB488_510.out _; refine bq ?_; refine blk_far ?_ NB488_510.out _; refine bq ?_; refine blk_far ?_ NB488_510.out _; refine bq ?_; refine blk_far ?_ NB488_510.out _; refine bq ?_; refine blk_far ?_ NB488_510.out _; refine bq ?_; exact BK488.out⟩
  have n3_ : Aside0 (((((((w36.setCell ⟨gb510, 0, none⟩ (.int .i64 t503)).setCell ⟨gb510, 1, none⟩ (.int .i64 t504)).setCell ⟨gb510, 2, none⟩ (.int .i64 t505)).setCell ⟨gb510, 3, none⟩ (.int .i64 t506)).setCell ⟨gb510, 4, none⟩ (.int .i64 t507)).setCell ⟨gb510, 5, none⟩ (.int .i64 t508)).heap[gb496]? = some (.cells #[.int .i64 t489, .int .i64 t490, .int .i64 t491, .int .i64 t492, .int .i64 t493, .int .i64 t494] 23 (0, 0))) := ⟨by refine bq ?_; refine blk_far ?_ NB496_510.out _; refine bq ?_; refine blk_far ?_ NB496_510.out _; refine bq ?_; refine blk_far ?_ NB496_510.out _; refine bq ?_; refine blk_far ?_ NB496_510.out _; refine bq ?_; refine blk_far ?_ NB496_510.out _; refine bq ?_; refine blk_far ?_ NB496_510.out _; refine bq ?_; exact BK496.out⟩
  have n4_ : Aside0 (((((((w36.setCell ⟨gb510, 0, none⟩ (.int .i64 t503)).setCell ⟨gb510, 1, none⟩ (.int .i64 t504)).setCell ⟨gb510, 2, none⟩ (.int .i64 t505)).setCell ⟨gb510, 3, none⟩ (.int .i64 t506)).setCell ⟨gb510, 4, none⟩ (.int .i64 t507)).setCell ⟨gb510, 5, none⟩ (.int .i64 t508)).heap[gb510]? = some (.cells #[.int .i64 t503, .int .i64 t504, .int .i64 t505, .int .i64 t506, .int .i64 t507, .int .i64 t508] 23 (0, 0))) := ⟨by refine bq ?_; refine blk_put (cs := #[.int .i64 t503, .int .i64 t504, .int .i64 t505, .int .i64 t506, .int .i64 t507, .int .i64 0]) ?_ 5 _ rfl; refine bq ?_; refine blk_put (cs := #[.int .i64 t503, .int .i64 t504, .int .i64 t505, .int .i64 t506, .int .i64 0, .int .i64 0]) ?_ 4 _ rfl; refine bq ?_; refine blk_put (cs := #[.int .i64 t503, .int .i64 t504, .int .i64 t505, .int .i64 0, .int .i64 0, .int .i64 0]) ?_ 3 _ rfl; refine bq ?_; refine blk_put (cs := #[.int .i64 t503, .int .i64 t504, .int .i64 0, .int .i64 0, .int .i64 0, .int .i64 0]) ?_ 2 _ rfl; refine bq ?_; refine blk_put (cs := #[.int .i64 t503, .int .i64 0, .int .i64 0, .int .i64 0, .int .i64 0, .int .i64 0]) ?_ 1 _ rfl; refine bq ?_; refine blk_put (cs := #[.int .i64 0, .int .i64 0, .int .i64 0, .int .i64 0, .int .i64 0, .int .i64 0]) ?_ 0 _ rfl; refine bq ?_; exact BK510.out⟩
  have n5_ : Aside0 (Below w.heap.size w ((((((w36.setCell ⟨gb510, 0, none⟩ (.int .i64 t503)).setCell ⟨gb510, 1, none⟩ (.int .i64 t504)).setCell ⟨gb510, 2, none⟩ (.int .i64 t505)).setCell ⟨gb510, 3, none⟩ (.int .i64 t506)).setCell ⟨gb510, 4, none⟩ (.int .i64 t507)).setCell ⟨gb510, 5, none⟩ (.int .i64 t508))) := ⟨by exact wq HB.out⟩
  (try clear BK478)
  (try clear BK479)
  (try clear BK488)
  (try clear BK496)
  (try clear BK510)
  (try clear HB)
  generalize ((((((w36.setCell ⟨gb510, 0, none⟩ (.int .i64 t503)).setCell ⟨gb510, 1, none⟩ (.int .i64 t504)).setCell ⟨gb510, 2, none⟩ (.int .i64 t505)).setCell ⟨gb510, 3, none⟩ (.int .i64 t506)).setCell ⟨gb510, 4, none⟩ (.int .i64 t507)).setCell ⟨gb510, 5, none⟩ (.int .i64 t508)) = w43 at n0_ n1_ n2_ n3_ n4_ n5_ ⊢
  have BK478 := n0_; have BK479 := n1_; have BK488 := n2_; have BK496 := n3_; have BK510 := n4_; have HB := n5_; clear n0_ n1_ n2_ n3_ n4_ n5_
  have n0_ := Aside0.mk (blk_drew BK478.out)
  have n1_ := Aside0.mk (blk_drew BK479.out)
  have n2_ := Aside0.mk (blk_drew BK488.out)
  have n3_ := Aside0.mk (blk_drew BK496.out)
  have n4_ := Aside0.mk (blk_drew BK510.out)
  have n5_ := Aside0.mk (below_drew1 HB.out)
  clear BK478 BK479 BK488 BK496; clear BK510 HB; have BK478 := n0_; have BK479 := n1_; have BK488 := n2_; have BK496 := n3_; have BK510 := n4_; have HB := n5_; clear n0_ n1_ n2_ n3_ n4_ n5_
  refine start_ (n := 9) (S := fun w' => w'.cell? ⟨gb478, 0, none⟩ = some (.int .i64 a0_0) ∧ w'.cell? ⟨gb478, 1, none⟩ = some (.int .i64 a0_1) ∧ w'.cell? ⟨gb478, 2, none⟩ = some (.int .i64 a0_2) ∧ w'.cell? ⟨gb478, 3, none⟩ = some (.int .i64 a0_3) ∧ w'.cell? ⟨gb478, 4, none⟩ = some (.int .i64 a0_4) ∧ w'.cell? ⟨gb478, 5, none⟩ = some (.int .i64 a0_5)) (ds := []) (bt 0 9) (by kernel_rfl) rfl rfl ⟨(blk_cell BK478.out 0).trans rfl, (blk_cell BK478.out 1).trans rfl, (blk_cell BK478.out 2).trans rfl, (blk_cell BK478.out 3).trans rfl, (blk_cell BK478.out 4).trans rfl, (blk_cell BK478.out 5).trans rfl⟩ (fun hHeld => ?_); refine with_tabW pointillistlaw08_AffineThen.tab6 pointillistlaw08_AffineThen.bits6 (fun HT_ HW_ => ?_)
  generalize w43.drew = w44 at BK478 BK479 BK488 BK496 BK510 HB hHeld ⊢
  refine take_ (i := 1) (N := some 35) (v := ?_) (a' := ?_) (bm 9 2) rfl rfl (take_ofW HT_.out HW_.out (by kernel_rfl)) (fun _ _ _ h => h) (Or.inl ⟨by rfl, ?_⟩) hHeld ?_ ?_
  rotate_left
  ·
   rintro w' ⟨s0, s1, s2, s3, s4, s5⟩
   go_simp
   with_reducible rfl
  rotate_left; focus (simp only [apz, i64_w, i32_w]; rfl)
  refine join_ (σ := Nat) 2 (bt 7 2) (fun s_ => [(34, .agg #[.int .i64 t511, .int .i64 t512, .int .i64 t513, .int .i64 t514, .int .i64 t515, .int .i64 t516]), (36, .tuple #[.agg #[.int .i64 t517, .int .i64 t518, .int .i64 t519, .int .i64 t520, .int .i64 t521, .int .i64 t522], .int .i64 t523]), (11, .pointer (some ⟨s_, 0, none⟩)), (33, .tuple #[.agg #[.int .i64 t517, .int .i64 t518, .int .i64 t519, .int .i64 t520, .int .i64 t521, .int .i64 t522], .int .i64 t523]), (37, .agg #[.int .i64 t517, .int .i64 t518, .int .i64 t519, .int .i64 t520, .int .i64 t521, .int .i64 t522]), (38, .int .i64 t523)]) (fun s_ w' => (w'.cell? ⟨gb478, 0, none⟩ = some (.int .i64 a0_0) ∧ w'.cell? ⟨gb478, 1, none⟩ = some (.int .i64 a0_1) ∧ w'.cell? ⟨gb478, 2, none⟩ = some (.int .i64 a0_2) ∧ w'.cell? ⟨gb478, 3, none⟩ = some (.int .i64 a0_3) ∧ w'.cell? ⟨gb478, 4, none⟩ = some (.int .i64 a0_4) ∧ w'.cell? ⟨gb478, 5, none⟩ = some (.int .i64 a0_5)) ∧ (w'.heap[gb478]? = some (.cells #[.int .i64 a0_0, .int .i64 a0_1, .int .i64 a0_2, .int .i64 a0_3, .int .i64 a0_4, .int .i64 a0_5] 23 (0, 0))) ∧ (w'.heap[gb479]? = some (.cells #[.int .i64 a1_0, .int .i64 a1_1, .int .i64 a1_2, .int .i64 a1_3, .int .i64 a1_4, .int .i64 a1_5] 23 (0, 0))) ∧ (w'.heap[gb488]? = some (.cells #[.int .i64 t481, .int .i64 t482, .int .i64 t483, .int .i64 t484, .int .i64 t485, .int .i64 t486] 23 (0, 0))) ∧ (w'.heap[gb496]? = some (.cells #[.int .i64 t489, .int .i64 t490, .int .i64 t491, .int .i64 t492, .int .i64 t493, .int .i64 t494] 23 (0, 0))) ∧ (w'.heap[gb510]? = some (.cells #[.int .i64 t503, .int .i64 t504, .int .i64 t505, .int .i64 t506, .int .i64 t507, .int .i64 t508] 23 (0, 0))) ∧ (w'.heap[s_]? = some (.cells #[.int .i64 0, .int .i64 0, .int .i64 0, .int .i64 0, .int .i64 0, .int .i64 0] 23 (0, 0))) ∧ (w.heap.size ≤ s_) ∧ (w.heap.size ≤ s_) ∧ (gb478 ≠ s_) ∧ (s_ ≠ gb478) ∧ (gb479 ≠ s_) ∧ (s_ ≠ gb479) ∧ (gb488 ≠ s_) ∧ (s_ ≠ gb488) ∧ (gb496 ≠ s_) ∧ (s_ ≠ gb496) ∧ (gb510 ≠ s_) ∧ (s_ ≠ gb510) ∧ (Below w.heap.size w w')) ?_ ?_
  rotate_left
  ·
   intro hCont
   refine two_ (i := 0) (j := 6) (Ni := some 34) (Nj := some 11) (bt 2 7) (bm 9 66) rfl rfl rfl rfl (two_of HT_.out (by kernel_rfl)) (by decide) (by decide) (fun K hK => ?_) (fun K hK => ?_)
   ·
    skip
    refine goes_ Tryd.func11 (by kernel_rfl) rfl #[] (by rfl) rfl rfl (by (try simp only [List.map_toArray, List.map_cons, List.map_nil]); first | done | rfl | (simp only [List.length_drop, List.length_take]; rfl)) ?_
    with_reducible refine (affine_Same.calls  t511 t512 t513 t514 t515 t516 _ A9.out).mono ?_
    rintro e w45 ⟨rfl, hb⟩
    refine ⟨_, rfl, ?_⟩
    have n0_ := Aside0.mk (blk_below (bq BK478.out) hb)
    have n1_ := Aside0.mk (blk_below (bq BK479.out) hb)
    have n2_ := Aside0.mk (blk_below (bq BK488.out) hb)
    have n3_ := Aside0.mk (blk_below (bq BK496.out) hb)
    have n4_ := Aside0.mk (blk_below (bq BK510.out) hb)
    have n5_ := Aside0.mk (below_step (wq HB.out) hb)
    clear BK478 BK479 BK488 BK496; clear BK510 HB; have BK478 := n0_; have BK479 := n1_; have BK488 := n2_; have BK496 := n3_; have BK510 := n4_; have HB := n5_; clear n0_ n1_ n2_ n3_ n4_ n5_
    (try clear hb)
    (try clear hb2)
    (try clear hk)
    (try clear hi)
    refine hK.out _ _ ⟨(blk_cell BK478.out 0).trans rfl, (blk_cell BK478.out 1).trans rfl, (blk_cell BK478.out 2).trans rfl, (blk_cell BK478.out 3).trans rfl, (blk_cell BK478.out 4).trans rfl, (blk_cell BK478.out 5).trans rfl⟩ (fun hHeld => ?_)
    clear hK K
    refine norm_ (a' := ?_) ?_ ?_
    rotate_left
    ·
     show Act.put _ (some 34) _ = _
     simp only [apz, i64_w, i32_w]
     rfl
    refine two_ (i := 2) (j := 6) (Ni := some 36) (Nj := some 11) (bt 3 6) (bm 9 67) rfl rfl rfl rfl (two_of HT_.out (by kernel_rfl)) (by decide) (by decide) (fun K hK => ?_) (fun K hK => ?_)
    ·
     skip
     refine goes_ Tryd.func17 (by kernel_rfl) rfl #[.agg #[.int .i64 t511, .int .i64 t512, .int .i64 t513, .int .i64 t514, .int .i64 t515, .int .i64 t516], .agg #[.int .i64 a0_0, .int .i64 a0_1, .int .i64 a0_2, .int .i64 a0_3, .int .i64 a0_4, .int .i64 a0_5]] (by rfl) rfl rfl (by (try simp only [List.map_toArray, List.map_cons, List.map_nil]); first | done | rfl | (simp only [List.length_drop, List.length_take]; rfl)) ?_
     with_reducible refine (affine_Then.calls k t511 t512 t513 t514 t515 t516 a0_0 a0_1 a0_2 a0_3 a0_4 a0_5 t517 t518 t519 t520 t521 t522 t523 _ ?side1 A10.out).mono ?_
     (case side1 => exact Gl.below HG.out (wq HB.out))
     rintro e w46 ⟨rfl, hb⟩
     refine ⟨_, rfl, ?_⟩
     have n0_ := Aside0.mk (blk_below (bq BK478.out) hb)
     have n1_ := Aside0.mk (blk_below (bq BK479.out) hb)
     have n2_ := Aside0.mk (blk_below (bq BK488.out) hb)
     have n3_ := Aside0.mk (blk_below (bq BK496.out) hb)
     have n4_ := Aside0.mk (blk_below (bq BK510.out) hb)
     have n5_ := Aside0.mk (below_step (wq HB.out) hb)
     clear BK478 BK479 BK488 BK496; clear BK510 HB; have BK478 := n0_; have BK479 := n1_; have BK488 := n2_; have BK496 := n3_; have BK510 := n4_; have HB := n5_; clear n0_ n1_ n2_ n3_ n4_ n5_
     (try clear hb)
     (try clear hb2)
     (try clear hk)
     (try clear hi)
     refine hK.out _ _ ⟨(blk_cell BK478.out 0).trans rfl, (blk_cell BK478.out 1).trans rfl, (blk_cell BK478.out 2).trans rfl, (blk_cell BK478.out 3).trans rfl, (blk_cell BK478.out 4).trans rfl, (blk_cell BK478.out 5).trans rfl⟩ (fun hHeld => ?_)
     clear hK K
     refine norm_ (a' := ?_) ?_ ?_
     rotate_left
     ·
      show Act.put _ (some 36) _ = _
      simp only [apz, i64_w, i32_w]
      rfl
     refine pure_ (i := 3) (N := some 33) (v := ?_) (a' := ?_) (bt 4 5) rfl rfl (any_of HT_.out (by kernel_rfl)) (fun _ _ _ h => h) (Or.inl ⟨by rfl, ?_⟩) ?_ ?_
     rotate_left; focus (intro w'; go_simp; with_reducible rfl)
     rotate_left; focus (simp only [apz, i64_w, i32_w]; rfl)
     refine pure_ (i := 4) (N := some 37) (v := ?_) (a' := ?_) (bt 5 4) rfl rfl (any_of HT_.out (by kernel_rfl)) (fun _ _ _ h => h) (Or.inl ⟨by rfl, ?_⟩) ?_ ?_
     rotate_left; focus (intro w'; go_simp; with_reducible rfl)
     rotate_left; focus (simp only [apz, i64_w, i32_w]; rfl)
     refine pure_ (i := 5) (N := some 38) (v := ?_) (a' := ?_) (bt 6 3) rfl rfl (any_of HT_.out (by kernel_rfl)) (fun _ _ _ h => h) (Or.inl ⟨by rfl, ?_⟩) ?_ ?_
     rotate_left; focus (intro w'; go_simp; with_reducible rfl)
     rotate_left; focus (simp only [apz, i64_w, i32_w]; rfl)
     refine one_ (i := 6) (N := some 11) (bt 7 2) rfl rfl (one_of HT_.out (by kernel_rfl)) (by decide) (fun K hK => ?_)
     refine box_step ?hg (N := 11) ?hd (cs := #[.int .i64 0, .int .i64 0, .int .i64 0, .int .i64 0, .int .i64 0, .int .i64 0]) (t := 23) ?hr ?_; (case hd => rfl); (case hg => rfl); (case hr => first | (go_simp; done) | (go_simp; rfl))
     intro gb524 hg w47 hbox hb
     have n0_ := Aside0.mk (blk_below (bq BK478.out) hb)
     have n1_ := Aside0.mk (blk_below (bq BK479.out) hb)
     have n2_ := Aside0.mk (blk_below (bq BK488.out) hb)
     have n3_ := Aside0.mk (blk_below (bq BK496.out) hb)
     have n4_ := Aside0.mk (blk_below (bq BK510.out) hb)
     have n5_ := Aside0.mk (below_step (wq HB.out) hb)
     have n6_ := Aside0.mk (hbox)
     have n7_ := Aside0.mk ((by rw [hg]; exact (below_size (wq HB.out)) : w.heap.size ≤ gb524))
     have n8_ := Aside0.mk ((by rw [hg]; exact (below_size (wq HB.out)) : w.heap.size ≤ gb524))
     have n9_ := Aside0.mk ((by rw [hg]; exact Nat.ne_of_lt (blk_lt (bq BK478.out)) : gb478 ≠ gb524))
     have n10_ := Aside0.mk ((by rw [hg]; exact Nat.ne_of_gt (blk_lt (bq BK478.out)) : gb524 ≠ gb478))
     have n11_ := Aside0.mk ((by rw [hg]; exact Nat.ne_of_lt (blk_lt (bq BK479.out)) : gb479 ≠ gb524))
     have n12_ := Aside0.mk ((by rw [hg]; exact Nat.ne_of_gt (blk_lt (bq BK479.out)) : gb524 ≠ gb479))
     have n13_ := Aside0.mk ((by rw [hg]; exact Nat.ne_of_lt (blk_lt (bq BK488.out)) : gb488 ≠ gb524))
     have n14_ := Aside0.mk ((by rw [hg]; exact Nat.ne_of_gt (blk_lt (bq BK488.out)) : gb524 ≠ gb488))
     have n15_ := Aside0.mk ((by rw [hg]; exact Nat.ne_of_lt (blk_lt (bq BK496.out)) : gb496 ≠ gb524))
     have n16_ := Aside0.mk ((by rw [hg]; exact Nat.ne_of_gt (blk_lt (bq BK496.out)) : gb524 ≠ gb496))
     have n17_ := Aside0.mk ((by rw [hg]; exact Nat.ne_of_lt (blk_lt (bq BK510.out)) : gb510 ≠ gb524))
     have n18_ := Aside0.mk ((by rw [hg]; exact Nat.ne_of_gt (blk_lt (bq BK510.out)) : gb524 ≠ gb510))
     clear BK478 BK479 BK488 BK496; clear BK510 HB; have BK478 := n0_; have BK479 := n1_; have BK488 := n2_; have BK496 := n3_; have BK510 := n4_; have HB := n5_; have BK524 := n6_; have GW524 := n7_; have GE524 := n8_; have NB478_524 := n9_; have NB524_478 := n10_; have NB479_524 := n11_; have NB524_479 := n12_; have NB488_524 := n13_; have NB524_488 := n14_; have NB496_524 := n15_; have NB524_496 := n16_; have NB510_524 := n17_; have NB524_510 := n18_; clear n0_ n1_ n2_ n3_ n4_ n5_ n6_ n7_ n8_ n9_ n10_ n11_ n12_ n13_ n14_ n15_ n16_ n17_ n18_ hb hbox hg
     refine hK.out _ _ ⟨(blk_cell BK478.out 0).trans rfl, (blk_cell BK478.out 1).trans rfl, (blk_cell BK478.out 2).trans rfl, (blk_cell BK478.out 3).trans rfl, (blk_cell BK478.out 4).trans rfl, (blk_cell BK478.out 5).trans rfl⟩ (fun hHeld => ?_)
     clear hK K
     refine norm_ (a' := ?_) ?_ ?_
     rotate_left
     ·
      show Act.put _ (some 11) _ = _
      simp only [apz, i64_w, i32_w]
      rfl
     exact norm_ (by simp only [putAll, apz]) (hCont (gb524) _ ⟨hHeld, (bq BK478.out), (bq BK479.out), (bq BK488.out), (bq BK496.out), (bq BK510.out), (bq BK524.out), GW524.out, GE524.out, NB478_524.out, NB524_478.out, NB479_524.out, NB524_479.out, NB488_524.out, NB524_488.out, NB496_524.out, NB524_496.out, NB510_524.out, NB524_510.out, (wq HB.out)⟩)
    ·
     skip
     refine box_step ?hg (N := 11) ?hd (cs := #[.int .i64 0, .int .i64 0, .int .i64 0, .int .i64 0, .int .i64 0, .int .i64 0]) (t := 23) ?hr ?_; (case hd => rfl); (case hg => rfl); (case hr => first | (go_simp; done) | (go_simp; rfl))
     intro gb524 hg w46 hbox hb
     have n0_ := Aside0.mk (blk_below (bq BK478.out) hb)
     have n1_ := Aside0.mk (blk_below (bq BK479.out) hb)
     have n2_ := Aside0.mk (blk_below (bq BK488.out) hb)
     have n3_ := Aside0.mk (blk_below (bq BK496.out) hb)
     have n4_ := Aside0.mk (blk_below (bq BK510.out) hb)
     have n5_ := Aside0.mk (below_step (wq HB.out) hb)
     have n6_ := Aside0.mk (hbox)
     have n7_ := Aside0.mk ((by rw [hg]; exact (below_size (wq HB.out)) : w.heap.size ≤ gb524))
     have n8_ := Aside0.mk ((by rw [hg]; exact (below_size (wq HB.out)) : w.heap.size ≤ gb524))
     have n9_ := Aside0.mk ((by rw [hg]; exact Nat.ne_of_lt (blk_lt (bq BK478.out)) : gb478 ≠ gb524))
     have n10_ := Aside0.mk ((by rw [hg]; exact Nat.ne_of_gt (blk_lt (bq BK478.out)) : gb524 ≠ gb478))
     have n11_ := Aside0.mk ((by rw [hg]; exact Nat.ne_of_lt (blk_lt (bq BK479.out)) : gb479 ≠ gb524))
     have n12_ := Aside0.mk ((by rw [hg]; exact Nat.ne_of_gt (blk_lt (bq BK479.out)) : gb524 ≠ gb479))
     have n13_ := Aside0.mk ((by rw [hg]; exact Nat.ne_of_lt (blk_lt (bq BK488.out)) : gb488 ≠ gb524))
     have n14_ := Aside0.mk ((by rw [hg]; exact Nat.ne_of_gt (blk_lt (bq BK488.out)) : gb524 ≠ gb488))
     have n15_ := Aside0.mk ((by rw [hg]; exact Nat.ne_of_lt (blk_lt (bq BK496.out)) : gb496 ≠ gb524))
     have n16_ := Aside0.mk ((by rw [hg]; exact Nat.ne_of_gt (blk_lt (bq BK496.out)) : gb524 ≠ gb496))
     have n17_ := Aside0.mk ((by rw [hg]; exact Nat.ne_of_lt (blk_lt (bq BK510.out)) : gb510 ≠ gb524))
     have n18_ := Aside0.mk ((by rw [hg]; exact Nat.ne_of_gt (blk_lt (bq BK510.out)) : gb524 ≠ gb510))
     clear BK478 BK479 BK488 BK496; clear BK510 HB; have BK478 := n0_; have BK479 := n1_; have BK488 := n2_; have BK496 := n3_; have BK510 := n4_; have HB := n5_; have BK524 := n6_; have GW524 := n7_; have GE524 := n8_; have NB478_524 := n9_; have NB524_478 := n10_; have NB479_524 := n11_; have NB524_479 := n12_; have NB488_524 := n13_; have NB524_488 := n14_; have NB496_524 := n15_; have NB524_496 := n16_; have NB510_524 := n17_; have NB524_510 := n18_; clear n0_ n1_ n2_ n3_ n4_ n5_ n6_ n7_ n8_ n9_ n10_ n11_ n12_ n13_ n14_ n15_ n16_ n17_ n18_ hb hbox hg
     refine hK.out _ _ ⟨(blk_cell BK478.out 0).trans rfl, (blk_cell BK478.out 1).trans rfl, (blk_cell BK478.out 2).trans rfl, (blk_cell BK478.out 3).trans rfl, (blk_cell BK478.out 4).trans rfl, (blk_cell BK478.out 5).trans rfl⟩ (fun hHeld => ?_)
     clear hK K
     refine norm_ (a' := ?_) ?_ ?_
     rotate_left
     ·
      show Act.put _ (some 11) _ = _
      simp only [apz, i64_w, i32_w]
      rfl
     refine one_ (i := 2) (N := some 36) (bm 9 71) rfl rfl (one_of HT_.out (by kernel_rfl)) (by decide) (fun K hK => ?_)
     refine goes_ Tryd.func17 (by kernel_rfl) rfl #[.agg #[.int .i64 t511, .int .i64 t512, .int .i64 t513, .int .i64 t514, .int .i64 t515, .int .i64 t516], .agg #[.int .i64 a0_0, .int .i64 a0_1, .int .i64 a0_2, .int .i64 a0_3, .int .i64 a0_4, .int .i64 a0_5]] (by rfl) rfl rfl (by (try simp only [List.map_toArray, List.map_cons, List.map_nil]); first | done | rfl | (simp only [List.length_drop, List.length_take]; rfl)) ?_
     with_reducible refine (affine_Then.calls k t511 t512 t513 t514 t515 t516 a0_0 a0_1 a0_2 a0_3 a0_4 a0_5 t517 t518 t519 t520 t521 t522 t523 _ ?side1 A10.out).mono ?_
     (case side1 => exact Gl.below HG.out (wq HB.out))
     rintro e w47 ⟨rfl, hb⟩
     refine ⟨_, rfl, ?_⟩
     have n0_ := Aside0.mk (blk_below (bq BK478.out) hb)
     have n1_ := Aside0.mk (blk_below (bq BK479.out) hb)
     have n2_ := Aside0.mk (blk_below (bq BK488.out) hb)
     have n3_ := Aside0.mk (blk_below (bq BK496.out) hb)
     have n4_ := Aside0.mk (blk_below (bq BK510.out) hb)
     have n5_ := Aside0.mk (blk_below (bq BK524.out) hb)
     have n6_ := Aside0.mk (below_step (wq HB.out) hb)
     clear BK478 BK479 BK488 BK496; clear BK510 BK524 HB; have BK478 := n0_; have BK479 := n1_; have BK488 := n2_; have BK496 := n3_; have BK510 := n4_; have BK524 := n5_; have HB := n6_; clear n0_ n1_ n2_ n3_ n4_ n5_ n6_
     (try clear hb)
     (try clear hb2)
     (try clear hk)
     (try clear hi)
     refine hK.out _ _ ⟨(blk_cell BK478.out 0).trans rfl, (blk_cell BK478.out 1).trans rfl, (blk_cell BK478.out 2).trans rfl, (blk_cell BK478.out 3).trans rfl, (blk_cell BK478.out 4).trans rfl, (blk_cell BK478.out 5).trans rfl⟩ (fun hHeld => ?_)
     clear hK K
     refine norm_ (a' := ?_) ?_ ?_
     rotate_left
     ·
      show Act.put _ (some 36) _ = _
      simp only [apz, i64_w, i32_w]
      rfl
     refine pure_ (i := 3) (N := some 33) (v := ?_) (a' := ?_) (bm 9 79) rfl rfl (any_of HT_.out (by kernel_rfl)) (fun _ _ _ h => h) (Or.inl ⟨by rfl, ?_⟩) ?_ ?_
     rotate_left; focus (intro w'; go_simp; with_reducible rfl)
     rotate_left; focus (simp only [apz, i64_w, i32_w]; rfl)
     refine pure_ (i := 4) (N := some 37) (v := ?_) (a' := ?_) (bm 9 95) rfl rfl (any_of HT_.out (by kernel_rfl)) (fun _ _ _ h => h) (Or.inl ⟨by rfl, ?_⟩) ?_ ?_
     rotate_left; focus (intro w'; go_simp; with_reducible rfl)
     rotate_left; focus (simp only [apz, i64_w, i32_w]; rfl)
     refine pure_ (i := 5) (N := some 38) (v := ?_) (a' := ?_) (bt 7 2) rfl rfl (any_of HT_.out (by kernel_rfl)) (fun _ _ _ h => h) (Or.inl ⟨by rfl, ?_⟩) ?_ ?_
     rotate_left; focus (intro w'; go_simp; with_reducible rfl)
     rotate_left; focus (simp only [apz, i64_w, i32_w]; rfl)
     exact norm_ (by simp only [putAll, apz]) (hCont (gb524) _ ⟨hHeld, (bq BK478.out), (bq BK479.out), (bq BK488.out), (bq BK496.out), (bq BK510.out), (bq BK524.out), GW524.out, GE524.out, NB478_524.out, NB524_478.out, NB479_524.out, NB524_479.out, NB488_524.out, NB524_488.out, NB496_524.out, NB524_496.out, NB510_524.out, NB524_510.out, (wq HB.out)⟩)
   ·
    skip
    refine box_step ?hg (N := 11) ?hd (cs := #[.int .i64 0, .int .i64 0, .int .i64 0, .int .i64 0, .int .i64 0, .int .i64 0]) (t := 23) ?hr ?_; (case hd => rfl); (case hg => rfl); (case hr => first | (go_simp; done) | (go_simp; rfl))
    intro gb524 hg w45 hbox hb
    have n0_ := Aside0.mk (blk_below (bq BK478.out) hb)
    have n1_ := Aside0.mk (blk_below (bq BK479.out) hb)
    have n2_ := Aside0.mk (blk_below (bq BK488.out) hb)
    have n3_ := Aside0.mk (blk_below (bq BK496.out) hb)
    have n4_ := Aside0.mk (blk_below (bq BK510.out) hb)
    have n5_ := Aside0.mk (below_step (wq HB.out) hb)
    have n6_ := Aside0.mk (hbox)
    have n7_ := Aside0.mk ((by rw [hg]; exact (below_size (wq HB.out)) : w.heap.size ≤ gb524))
    have n8_ := Aside0.mk ((by rw [hg]; exact (below_size (wq HB.out)) : w.heap.size ≤ gb524))
    have n9_ := Aside0.mk ((by rw [hg]; exact Nat.ne_of_lt (blk_lt (bq BK478.out)) : gb478 ≠ gb524))
    have n10_ := Aside0.mk ((by rw [hg]; exact Nat.ne_of_gt (blk_lt (bq BK478.out)) : gb524 ≠ gb478))
    have n11_ := Aside0.mk ((by rw [hg]; exact Nat.ne_of_lt (blk_lt (bq BK479.out)) : gb479 ≠ gb524))
    have n12_ := Aside0.mk ((by rw [hg]; exact Nat.ne_of_gt (blk_lt (bq BK479.out)) : gb524 ≠ gb479))
    have n13_ := Aside0.mk ((by rw [hg]; exact Nat.ne_of_lt (blk_lt (bq BK488.out)) : gb488 ≠ gb524))
    have n14_ := Aside0.mk ((by rw [hg]; exact Nat.ne_of_gt (blk_lt (bq BK488.out)) : gb524 ≠ gb488))
    have n15_ := Aside0.mk ((by rw [hg]; exact Nat.ne_of_lt (blk_lt (bq BK496.out)) : gb496 ≠ gb524))
    have n16_ := Aside0.mk ((by rw [hg]; exact Nat.ne_of_gt (blk_lt (bq BK496.out)) : gb524 ≠ gb496))
    have n17_ := Aside0.mk ((by rw [hg]; exact Nat.ne_of_lt (blk_lt (bq BK510.out)) : gb510 ≠ gb524))
    have n18_ := Aside0.mk ((by rw [hg]; exact Nat.ne_of_gt (blk_lt (bq BK510.out)) : gb524 ≠ gb510))
    clear BK478 BK479 BK488 BK496; clear BK510 HB; have BK478 := n0_; have BK479 := n1_; have BK488 := n2_; have BK496 := n3_; have BK510 := n4_; have HB := n5_; have BK524 := n6_; have GW524 := n7_; have GE524 := n8_; have NB478_524 := n9_; have NB524_478 := n10_; have NB479_524 := n11_; have NB524_479 := n12_; have NB488_524 := n13_; have NB524_488 := n14_; have NB496_524 := n15_; have NB524_496 := n16_; have NB510_524 := n17_; have NB524_510 := n18_; clear n0_ n1_ n2_ n3_ n4_ n5_ n6_ n7_ n8_ n9_ n10_ n11_ n12_ n13_ n14_ n15_ n16_ n17_ n18_ hb hbox hg
    refine hK.out _ _ ⟨(blk_cell BK478.out 0).trans rfl, (blk_cell BK478.out 1).trans rfl, (blk_cell BK478.out 2).trans rfl, (blk_cell BK478.out 3).trans rfl, (blk_cell BK478.out 4).trans rfl, (blk_cell BK478.out 5).trans rfl⟩ (fun hHeld => ?_)
    clear hK K
    refine norm_ (a' := ?_) ?_ ?_
    rotate_left
    ·
     show Act.put _ (some 11) _ = _
     simp only [apz, i64_w, i32_w]
     rfl
    refine one_ (i := 0) (N := some 34) (bm 9 67) rfl rfl (one_of HT_.out (by kernel_rfl)) (by decide) (fun K hK => ?_)
    refine goes_ Tryd.func11 (by kernel_rfl) rfl #[] (by rfl) rfl rfl (by (try simp only [List.map_toArray, List.map_cons, List.map_nil]); first | done | rfl | (simp only [List.length_drop, List.length_take]; rfl)) ?_
    with_reducible refine (affine_Same.calls  t511 t512 t513 t514 t515 t516 _ A9.out).mono ?_
    rintro e w46 ⟨rfl, hb⟩
    refine ⟨_, rfl, ?_⟩
    have n0_ := Aside0.mk (blk_below (bq BK478.out) hb)
    have n1_ := Aside0.mk (blk_below (bq BK479.out) hb)
    have n2_ := Aside0.mk (blk_below (bq BK488.out) hb)
    have n3_ := Aside0.mk (blk_below (bq BK496.out) hb)
    have n4_ := Aside0.mk (blk_below (bq BK510.out) hb)
    have n5_ := Aside0.mk (blk_below (bq BK524.out) hb)
    have n6_ := Aside0.mk (below_step (wq HB.out) hb)
    clear BK478 BK479 BK488 BK496; clear BK510 BK524 HB; have BK478 := n0_; have BK479 := n1_; have BK488 := n2_; have BK496 := n3_; have BK510 := n4_; have BK524 := n5_; have HB := n6_; clear n0_ n1_ n2_ n3_ n4_ n5_ n6_
    (try clear hb)
    (try clear hb2)
    (try clear hk)
    (try clear hi)
    refine hK.out _ _ ⟨(blk_cell BK478.out 0).trans rfl, (blk_cell BK478.out 1).trans rfl, (blk_cell BK478.out 2).trans rfl, (blk_cell BK478.out 3).trans rfl, (blk_cell BK478.out 4).trans rfl, (blk_cell BK478.out 5).trans rfl⟩ (fun hHeld => ?_)
    clear hK K
    refine norm_ (a' := ?_) ?_ ?_
    rotate_left
    ·
     show Act.put _ (some 34) _ = _
     simp only [apz, i64_w, i32_w]
     rfl
    refine one_ (i := 2) (N := some 36) (bm 9 71) rfl rfl (one_of HT_.out (by kernel_rfl)) (by decide) (fun K hK => ?_)
    refine goes_ Tryd.func17 (by kernel_rfl) rfl #[.agg #[.int .i64 t511, .int .i64 t512, .int .i64 t513, .int .i64 t514, .int .i64 t515, .int .i64 t516], .agg #[.int .i64 a0_0, .int .i64 a0_1, .int .i64 a0_2, .int .i64 a0_3, .int .i64 a0_4, .int .i64 a0_5]] (by rfl) rfl rfl (by (try simp only [List.map_toArray, List.map_cons, List.map_nil]); first | done | rfl | (simp only [List.length_drop, List.length_take]; rfl)) ?_
    with_reducible refine (affine_Then.calls k t511 t512 t513 t514 t515 t516 a0_0 a0_1 a0_2 a0_3 a0_4 a0_5 t517 t518 t519 t520 t521 t522 t523 _ ?side1 A10.out).mono ?_
    (case side1 => exact Gl.below HG.out (wq HB.out))
    rintro e w47 ⟨rfl, hb⟩
    refine ⟨_, rfl, ?_⟩
    have n0_ := Aside0.mk (blk_below (bq BK478.out) hb)
    have n1_ := Aside0.mk (blk_below (bq BK479.out) hb)
    have n2_ := Aside0.mk (blk_below (bq BK488.out) hb)
    have n3_ := Aside0.mk (blk_below (bq BK496.out) hb)
    have n4_ := Aside0.mk (blk_below (bq BK510.out) hb)
    have n5_ := Aside0.mk (blk_below (bq BK524.out) hb)
    have n6_ := Aside0.mk (below_step (wq HB.out) hb)
    clear BK478 BK479 BK488 BK496; clear BK510 BK524 HB; have BK478 := n0_; have BK479 := n1_; have BK488 := n2_; have BK496 := n3_; have BK510 := n4_; have BK524 := n5_; have HB := n6_; clear n0_ n1_ n2_ n3_ n4_ n5_ n6_
    (try clear hb)
    (try clear hb2)
    (try clear hk)
    (try clear hi)
    refine hK.out _ _ ⟨(blk_cell BK478.out 0).trans rfl, (blk_cell BK478.out 1).trans rfl, (blk_cell BK478.out 2).trans rfl, (blk_cell BK478.out 3).trans rfl, (blk_cell BK478.out 4).trans rfl, (blk_cell BK478.out 5).trans rfl⟩ (fun hHeld => ?_)
    clear hK K
    refine norm_ (a' := ?_) ?_ ?_
    rotate_left
    ·
     show Act.put _ (some 36) _ = _
     simp only [apz, i64_w, i32_w]
     rfl
    refine pure_ (i := 3) (N := some 33) (v := ?_) (a' := ?_) (bm 9 79) rfl rfl (any_of HT_.out (by kernel_rfl)) (fun _ _ _ h => h) (Or.inl ⟨by rfl, ?_⟩) ?_ ?_
    rotate_left; focus (intro w'; go_simp; with_reducible rfl)
    rotate_left; focus (simp only [apz, i64_w, i32_w]; rfl)
    refine pure_ (i := 4) (N := some 37) (v := ?_) (a' := ?_) (bm 9 95) rfl rfl (any_of HT_.out (by kernel_rfl)) (fun _ _ _ h => h) (Or.inl ⟨by rfl, ?_⟩) ?_ ?_
    rotate_left; focus (intro w'; go_simp; with_reducible rfl)
    rotate_left; focus (simp only [apz, i64_w, i32_w]; rfl)
    refine pure_ (i := 5) (N := some 38) (v := ?_) (a' := ?_) (bt 7 2) rfl rfl (any_of HT_.out (by kernel_rfl)) (fun _ _ _ h => h) (Or.inl ⟨by rfl, ?_⟩) ?_ ?_
    rotate_left; focus (intro w'; go_simp; with_reducible rfl)
    rotate_left; focus (simp only [apz, i64_w, i32_w]; rfl)
    exact norm_ (by simp only [putAll, apz]) (hCont (gb524) _ ⟨hHeld, (bq BK478.out), (bq BK479.out), (bq BK488.out), (bq BK496.out), (bq BK510.out), (bq BK524.out), GW524.out, GE524.out, NB478_524.out, NB524_478.out, NB479_524.out, NB524_479.out, NB488_524.out, NB524_488.out, NB496_524.out, NB524_496.out, NB510_524.out, NB524_510.out, (wq HB.out)⟩)
  rintro gb524 w48 ⟨hS_, h0_, h1_, h2_, h3_, h4_, h5_, h6_, h7_, h8_, h9_, h10_, h11_, h12_, h13_, h14_, h15_, h16_, h17_, h18_⟩
  have n0_ : Aside0 (w48.heap[gb478]? = some (.cells #[.int .i64 a0_0, .int .i64 a0_1, .int .i64 a0_2, .int .i64 a0_3, .int .i64 a0_4, .int .i64 a0_5] 23 (0, 0))) := ⟨h0_⟩
  have n1_ : Aside0 (w48.heap[gb479]? = some (.cells #[.int .i64 a1_0, .int .i64 a1_1, .int .i64 a1_2, .int .i64 a1_3, .int .i64 a1_4, .int .i64 a1_5] 23 (0, 0))) := ⟨h1_⟩
  have n2_ : Aside0 (w48.heap[gb488]? = some (.cells #[.int .i64 t481, .int .i64 t482, .int .i64 t483, .int .i64 t484, .int .i64 t485, .int .i64 t486] 23 (0, 0))) := ⟨h2_⟩
  have n3_ : Aside0 (w48.heap[gb496]? = some (.cells #[.int .i64 t489, .int .i64 t490, .int .i64 t491, .int .i64 t492, .int .i64 t493, .int .i64 t494] 23 (0, 0))) := ⟨h3_⟩
  have n4_ : Aside0 (w48.heap[gb510]? = some (.cells #[.int .i64 t503, .int .i64 t504, .int .i64 t505, .int .i64 t506, .int .i64 t507, .int .i64 t508] 23 (0, 0))) := ⟨h4_⟩
  have n5_ : Aside0 (w48.heap[gb524]? = some (.cells #[.int .i64 0, .int .i64 0, .int .i64 0, .int .i64 0, .int .i64 0, .int .i64 0] 23 (0, 0))) := ⟨h5_⟩
  have n6_ : Aside0 (w.heap.size ≤ gb524) := ⟨h6_⟩
  have n7_ : Aside0 (w.heap.size ≤ gb524) := ⟨h7_⟩
  have n8_ : Aside0 (gb478 ≠ gb524) := ⟨h8_⟩
  have n9_ : Aside0 (gb524 ≠ gb478) := ⟨h9_⟩
  have n10_ : Aside0 (gb479 ≠ gb524) := ⟨h10_⟩
  have n11_ : Aside0 (gb524 ≠ gb479) := ⟨h11_⟩
  have n12_ : Aside0 (gb488 ≠ gb524) := ⟨h12_⟩
  have n13_ : Aside0 (gb524 ≠ gb488) := ⟨h13_⟩
  have n14_ : Aside0 (gb496 ≠ gb524) := ⟨h14_⟩
  have n15_ : Aside0 (gb524 ≠ gb496) := ⟨h15_⟩
  have n16_ : Aside0 (gb510 ≠ gb524) := ⟨h16_⟩
  have n17_ : Aside0 (gb524 ≠ gb510) := ⟨h17_⟩
  have n18_ : Aside0 (Below w.heap.size w w48) := ⟨h18_⟩
  clear BK478 BK479 BK488 BK496; clear BK510 HB h0_ h1_ h2_ h3_ h4_ h5_ h6_ h7_ h8_ h9_ h10_ h11_ h12_ h13_ h14_ h15_ h16_ h17_ h18_; have BK478 := n0_; have BK479 := n1_; have BK488 := n2_; have BK496 := n3_; have BK510 := n4_; have BK524 := n5_; have GW524 := n6_; have GE524 := n7_; have NB478_524 := n8_; have NB524_478 := n9_; have NB479_524 := n10_; have NB524_479 := n11_; have NB488_524 := n12_; have NB524_488 := n13_; have NB496_524 := n14_; have NB524_496 := n15_; have NB510_524 := n16_; have NB524_510 := n17_; have HB := n18_; clear n0_ n1_ n2_ n3_ n4_ n5_ n6_ n7_ n8_ n9_ n10_ n11_ n12_ n13_ n14_ n15_ n16_ n17_ n18_
  have hHeld : w48.cell? ⟨gb478, 0, none⟩ = some (.int .i64 a0_0) ∧ w48.cell? ⟨gb478, 1, none⟩ = some (.int .i64 a0_1) ∧ w48.cell? ⟨gb478, 2, none⟩ = some (.int .i64 a0_2) ∧ w48.cell? ⟨gb478, 3, none⟩ = some (.int .i64 a0_3) ∧ w48.cell? ⟨gb478, 4, none⟩ = some (.int .i64 a0_4) ∧ w48.cell? ⟨gb478, 5, none⟩ = some (.int .i64 a0_5) := hS_
  refine norm_ (a' := ?_) ?_ ?_
  rotate_left
  ·
   simp only [putAll, apz]
   rfl
  refine one_ (i := 7) (N := none) (bt 8 1) rfl rfl (one_of HT_.out (by kernel_rfl)) (by decide) (fun K hK => ?_)
  have hs49 : w48.cell? ⟨gb524, 0, none⟩ = some (.int .i64 0) := (blk_cell BK524.out 0).trans rfl
  have hfs49 := blk_frozen BK524.out 0
  have hns49_0 := NB478_524.out
  have hns49_1 := NB479_524.out
  have hns49_2 := NB488_524.out
  have hns49_3 := NB496_524.out
  have hns49_4 := NB510_524.out
  have hms49_0 := NB524_478.out
  have hms49_1 := NB524_479.out
  have hms49_2 := NB524_488.out
  have hms49_3 := NB524_496.out
  have hms49_4 := NB524_510.out
  have hs50 : w48.cell? ⟨gb524, 1, none⟩ = some (.int .i64 0) := (blk_cell BK524.out 1).trans rfl
  have hfs50 := blk_frozen BK524.out 1
  have hns50_0 := NB478_524.out
  have hns50_1 := NB479_524.out
  have hns50_2 := NB488_524.out
  have hns50_3 := NB496_524.out
  have hns50_4 := NB510_524.out
  have hms50_0 := NB524_478.out
  have hms50_1 := NB524_479.out
  have hms50_2 := NB524_488.out
  have hms50_3 := NB524_496.out
  have hms50_4 := NB524_510.out
  have hs51 : w48.cell? ⟨gb524, 2, none⟩ = some (.int .i64 0) := (blk_cell BK524.out 2).trans rfl
  have hfs51 := blk_frozen BK524.out 2
  have hns51_0 := NB478_524.out
  have hns51_1 := NB479_524.out
  have hns51_2 := NB488_524.out
  have hns51_3 := NB496_524.out
  have hns51_4 := NB510_524.out
  have hms51_0 := NB524_478.out
  have hms51_1 := NB524_479.out
  have hms51_2 := NB524_488.out
  have hms51_3 := NB524_496.out
  have hms51_4 := NB524_510.out
  have hs52 : w48.cell? ⟨gb524, 3, none⟩ = some (.int .i64 0) := (blk_cell BK524.out 3).trans rfl
  have hfs52 := blk_frozen BK524.out 3
  have hns52_0 := NB478_524.out
  have hns52_1 := NB479_524.out
  have hns52_2 := NB488_524.out
  have hns52_3 := NB496_524.out
  have hns52_4 := NB510_524.out
  have hms52_0 := NB524_478.out
  have hms52_1 := NB524_479.out
  have hms52_2 := NB524_488.out
  have hms52_3 := NB524_496.out
  have hms52_4 := NB524_510.out
  have hs53 : w48.cell? ⟨gb524, 4, none⟩ = some (.int .i64 0) := (blk_cell BK524.out 4).trans rfl
  have hfs53 := blk_frozen BK524.out 4
  have hns53_0 := NB478_524.out
  have hns53_1 := NB479_524.out
  have hns53_2 := NB488_524.out
  have hns53_3 := NB496_524.out
  have hns53_4 := NB510_524.out
  have hms53_0 := NB524_478.out
  have hms53_1 := NB524_479.out
  have hms53_2 := NB524_488.out
  have hms53_3 := NB524_496.out
  have hms53_4 := NB524_510.out
  have hs54 : w48.cell? ⟨gb524, 5, none⟩ = some (.int .i64 0) := (blk_cell BK524.out 5).trans rfl
  have hfs54 := blk_frozen BK524.out 5
  have hns54_0 := NB478_524.out
  have hns54_1 := NB479_524.out
  have hns54_2 := NB488_524.out
  have hns54_3 := NB496_524.out
  have hns54_4 := NB510_524.out
  have hms54_0 := NB524_478.out
  have hms54_1 := NB524_479.out
  have hms54_2 := NB524_488.out
  have hms54_3 := NB524_496.out
  have hms54_4 := NB524_510.out
  refine skip_ (w1 := ?_) (by rfl) rfl ?_ ?_
  rotate_left
  ·
   go_simp
   rfl
  refine hK.out _ _ ⟨(cf NB478_524.out ((cf NB478_524.out ((cf NB478_524.out ((cf NB478_524.out ((cf NB478_524.out ((cf NB478_524.out (hHeld.1)))))))))))), (cf NB478_524.out ((cf NB478_524.out ((cf NB478_524.out ((cf NB478_524.out ((cf NB478_524.out ((cf NB478_524.out (hHeld.2.1)))))))))))), (cf NB478_524.out ((cf NB478_524.out ((cf NB478_524.out ((cf NB478_524.out ((cf NB478_524.out ((cf NB478_524.out (hHeld.2.2.1)))))))))))), (cf NB478_524.out ((cf NB478_524.out ((cf NB478_524.out ((cf NB478_524.out ((cf NB478_524.out ((cf NB478_524.out (hHeld.2.2.2.1)))))))))))), (cf NB478_524.out ((cf NB478_524.out ((cf NB478_524.out ((cf NB478_524.out ((cf NB478_524.out ((cf NB478_524.out (hHeld.2.2.2.2.1)))))))))))), (cf NB478_524.out ((cf NB478_524.out ((cf NB478_524.out ((cf NB478_524.out ((cf NB478_524.out ((cf NB478_524.out (hHeld.2.2.2.2.2))))))))))))⟩ (fun hHeld => ?_)
  clear hK K
  refine pure_ (i := 8) (N := some 12) (v := ?_) (a' := ?_) (bt 9 0) rfl rfl (any_of HT_.out (by kernel_rfl)) (fun _ _ _ h => h) (Or.inl ⟨by rfl, ?_⟩) ?_ ?_
  rotate_left; focus (intro w'; go_simp; with_reducible rfl)
  rotate_left; focus (simp only [apz, i64_w, i32_w]; rfl)
  refine done_ (done_of HT_.out (by kernel_rfl)) ?_
  go_upto_region 7 with (fail)
  go_cut [46] (fun v46 wc => ∃ (kq : Nat) (x46_10 : Bool), v46 = .bool x46_10 ∧ Aside0 (pointillistlaw08_AffineThen.j0 kq t509 t523 x46_10 a0_0 a0_1 a0_2 a0_3 a0_4 a0_5 t503 t504 t505 t506 t507 t508 t517 t518 t519 t520 t521 t522 = some true) ∧ Aside0 (kq ≤ k) ∧ Aside0 (wc.heap[gb478]? = some (.cells #[.int .i64 a0_0, .int .i64 a0_1, .int .i64 a0_2, .int .i64 a0_3, .int .i64 a0_4, .int .i64 a0_5] 23 (0, 0))) ∧ Aside0 (wc.heap[gb479]? = some (.cells #[.int .i64 a1_0, .int .i64 a1_1, .int .i64 a1_2, .int .i64 a1_3, .int .i64 a1_4, .int .i64 a1_5] 23 (0, 0))) ∧ Aside0 (wc.heap[gb488]? = some (.cells #[.int .i64 t481, .int .i64 t482, .int .i64 t483, .int .i64 t484, .int .i64 t485, .int .i64 t486] 23 (0, 0))) ∧ Aside0 (wc.heap[gb496]? = some (.cells #[.int .i64 t489, .int .i64 t490, .int .i64 t491, .int .i64 t492, .int .i64 t493, .int .i64 t494] 23 (0, 0))) ∧ Aside0 (wc.heap[gb510]? = some (.cells #[.int .i64 t503, .int .i64 t504, .int .i64 t505, .int .i64 t506, .int .i64 t507, .int .i64 t508] 23 (0, 0))) ∧ Aside0 (wc.heap[gb524]? = some (.cells #[.int .i64 t517, .int .i64 t518, .int .i64 t519, .int .i64 t520, .int .i64 t521, .int .i64 t522] 23 (0, 0))) ∧ Aside0 (Below w.heap.size w wc))
  case first =>
   have H := HC11.out
   clear HC11
   by_cases c55 : (!(t481 == t489) || (!(t482 == t490) || (!(t483 == t491) || (!(t484 == t492) || (!(t485 == t493) || (!(t486 == t494))))))) = true
   ·
    rw [if_pos c55] at H
    have c55b0 : (!(t481 == t489) || (!(t482 == t490) || (!(t483 == t491) || (!(t484 == t492) || (!(t485 == t493) || (!(t486 == t494))))))) = true := c55
    clear c55
    (first | rw [c55b0] | (simp only [i64_w, i32_w]; rw [c55b0]) | skip)
    have H' := Aside0.mk H
    clear H
    have hnb56 := NB488_478.out
    have hnc56 := NB478_488.out
    have hnb57 := NB488_479.out
    have hnc57 := NB479_488.out
    have hnb58 := NB488_496.out
    have hnc58 := NB496_488.out
    have hnb59 := NB488_510.out
    have hnc59 := NB510_488.out
    have hnb60 := NB488_524.out
    have hnc60 := NB524_488.out
    have hcz61_0 : w48.cell? ⟨gb488, 0, none⟩ = some (.int .i64 t481) := (blk_cell BK488.out 0).trans rfl
    have hcz61_1 : w48.cell? ⟨gb488, 1, none⟩ = some (.int .i64 t482) := (blk_cell BK488.out 1).trans rfl
    have hcz61_2 : w48.cell? ⟨gb488, 2, none⟩ = some (.int .i64 t483) := (blk_cell BK488.out 2).trans rfl
    have hcz61_3 : w48.cell? ⟨gb488, 3, none⟩ = some (.int .i64 t484) := (blk_cell BK488.out 3).trans rfl
    have hcz61_4 : w48.cell? ⟨gb488, 4, none⟩ = some (.int .i64 t485) := (blk_cell BK488.out 4).trans rfl
    have hcz61_5 : w48.cell? ⟨gb488, 5, none⟩ = some (.int .i64 t486) := (blk_cell BK488.out 5).trans rfl
    have hfz61_0 := blk_frozen BK488.out 0
    have hfz61_1 := blk_frozen BK488.out 1
    have hfz61_2 := blk_frozen BK488.out 2
    have hfz61_3 := blk_frozen BK488.out 3
    have hfz61_4 := blk_frozen BK488.out 4
    have hfz61_5 := blk_frozen BK488.out 5
    have hnb62 := NB496_478.out
    have hnc62 := NB478_496.out
    have hnb63 := NB496_479.out
    have hnc63 := NB479_496.out
    have hnb64 := NB496_510.out
    have hnc64 := NB510_496.out
    have hnb65 := NB496_524.out
    have hnc65 := NB524_496.out
    have hcz66_0 : w48.cell? ⟨gb496, 0, none⟩ = some (.int .i64 t489) := (blk_cell BK496.out 0).trans rfl
    have hcz66_1 : w48.cell? ⟨gb496, 1, none⟩ = some (.int .i64 t490) := (blk_cell BK496.out 1).trans rfl
    have hcz66_2 : w48.cell? ⟨gb496, 2, none⟩ = some (.int .i64 t491) := (blk_cell BK496.out 2).trans rfl
    have hcz66_3 : w48.cell? ⟨gb496, 3, none⟩ = some (.int .i64 t492) := (blk_cell BK496.out 3).trans rfl
    have hcz66_4 : w48.cell? ⟨gb496, 4, none⟩ = some (.int .i64 t493) := (blk_cell BK496.out 4).trans rfl
    have hcz66_5 : w48.cell? ⟨gb496, 5, none⟩ = some (.int .i64 t494) := (blk_cell BK496.out 5).trans rfl
    have hfz66_0 := blk_frozen BK496.out 0
    have hfz66_1 := blk_frozen BK496.out 1
    have hfz66_2 := blk_frozen BK496.out 2
    have hfz66_3 := blk_frozen BK496.out 3
    have hfz66_4 := blk_frozen BK496.out 4
    have hfz66_5 := blk_frozen BK496.out 5
    go_wp2
    go_meet
    case rel => exact ⟨_, (true), (by first | rfl | (simp; done) | (simp [*]; done)), H', ⟨by first | omega | exact Nat.le_refl _⟩, ⟨by refine bq ?_; refine blk_far ?_ NB478_524.out _; refine bq ?_; refine blk_far ?_ NB478_524.out _; refine bq ?_; refine blk_far ?_ NB478_524.out _; refine bq ?_; refine blk_far ?_ NB478_524.out _; refine bq ?_; refine blk_far ?_ NB478_524.out _; refine bq ?_; refine blk_far ?_ NB478_524.out _; refine bq ?_; exact BK478.out⟩, ⟨by refine bq ?_; refine blk_far ?_ NB479_524.out _; refine bq ?_; refine blk_far ?_ NB479_524.out _; refine bq ?_; refine blk_far ?_ NB479_524.out _; refine bq ?_; refine blk_far ?_ NB479_524.out _; refine bq ?_; refine blk_far ?_ NB479_524.out _; refine bq ?_; refine blk_far ?_ NB479_524.out _; refine bq ?_; exact BK479.out⟩, ⟨by refine bq ?_; refine blk_far ?_ NB488_524.out _; refine bq ?_; refine blk_far ?_ NB488_524.out _; refine bq ?_; refine blk_far ?_ NB488_524.out _; refine bq ?_; refine blk_far ?_ NB488_524.out _; refine bq ?_; refine blk_far ?_ NB488_524.out _; refine bq ?_; refine blk_far ?_ NB488_524.out _; refine bq ?_; exact BK488.out⟩, ⟨by refine bq ?_; refine blk_far ?_ NB496_524.out _; refine bq ?_; refine blk_far ?_ NB496_524.out _; refine bq ?_; refine blk_far ?_ NB496_524.out _; refine bq ?_; refine blk_far ?_ NB496_524.out _; refine bq ?_; refine blk_far ?_ NB496_524.out _; refine bq ?_; refine blk_far ?_ NB496_524.out _; refine bq ?_; exact BK496.out⟩, ⟨by refine bq ?_; refine blk_far ?_ NB510_524.out _; refine bq ?_; refine blk_far ?_ NB510_524.out _; refine bq ?_; refine blk_far ?_ NB510_524.out _; refine bq ?_; refine blk_far ?_ NB510_524.out _; refine bq ?_; refine blk_far ?_ NB510_524.out _; refine bq ?_; refine blk_far ?_ NB510_524.out _; refine bq ?_; exact BK510.out⟩, ⟨by refine bq ?_; refine blk_put (cs := #[.int .i64 t517, .int .i64 t518, .int .i64 t519, .int .i64 t520, .int .i64 t521, .int .i64 0]) ?_ 5 _ rfl; refine bq ?_; refine blk_put (cs := #[.int .i64 t517, .int .i64 t518, .int .i64 t519, .int .i64 t520, .int .i64 0, .int .i64 0]) ?_ 4 _ rfl; refine bq ?_; refine blk_put (cs := #[.int .i64 t517, .int .i64 t518, .int .i64 t519, .int .i64 0, .int .i64 0, .int .i64 0]) ?_ 3 _ rfl; refine bq ?_; refine blk_put (cs := #[.int .i64 t517, .int .i64 t518, .int .i64 0, .int .i64 0, .int .i64 0, .int .i64 0]) ?_ 2 _ rfl; refine bq ?_; refine blk_put (cs := #[.int .i64 t517, .int .i64 0, .int .i64 0, .int .i64 0, .int .i64 0, .int .i64 0]) ?_ 1 _ rfl; refine bq ?_; refine blk_put (cs := #[.int .i64 0, .int .i64 0, .int .i64 0, .int .i64 0, .int .i64 0, .int .i64 0]) ?_ 0 _ rfl; refine bq ?_; exact BK524.out⟩, ⟨by exact wq HB.out⟩⟩
   ·
    rw [if_neg c55] at H
    have c55b0 : (!(t481 == t489) || (!(t482 == t490) || (!(t483 == t491) || (!(t484 == t492) || (!(t485 == t493) || (!(t486 == t494))))))) = false := by simpa using c55
    clear c55
    (first | rw [c55b0] | (simp only [i64_w, i32_w]; rw [c55b0]) | skip)
    have H' := Aside0.mk H
    clear H
    have hnb67 := NB488_478.out
    have hnc67 := NB478_488.out
    have hnb68 := NB488_479.out
    have hnc68 := NB479_488.out
    have hnb69 := NB488_496.out
    have hnc69 := NB496_488.out
    have hnb70 := NB488_510.out
    have hnc70 := NB510_488.out
    have hnb71 := NB488_524.out
    have hnc71 := NB524_488.out
    have hcz72_0 : w48.cell? ⟨gb488, 0, none⟩ = some (.int .i64 t481) := (blk_cell BK488.out 0).trans rfl
    have hcz72_1 : w48.cell? ⟨gb488, 1, none⟩ = some (.int .i64 t482) := (blk_cell BK488.out 1).trans rfl
    have hcz72_2 : w48.cell? ⟨gb488, 2, none⟩ = some (.int .i64 t483) := (blk_cell BK488.out 2).trans rfl
    have hcz72_3 : w48.cell? ⟨gb488, 3, none⟩ = some (.int .i64 t484) := (blk_cell BK488.out 3).trans rfl
    have hcz72_4 : w48.cell? ⟨gb488, 4, none⟩ = some (.int .i64 t485) := (blk_cell BK488.out 4).trans rfl
    have hcz72_5 : w48.cell? ⟨gb488, 5, none⟩ = some (.int .i64 t486) := (blk_cell BK488.out 5).trans rfl
    have hfz72_0 := blk_frozen BK488.out 0
    have hfz72_1 := blk_frozen BK488.out 1
    have hfz72_2 := blk_frozen BK488.out 2
    have hfz72_3 := blk_frozen BK488.out 3
    have hfz72_4 := blk_frozen BK488.out 4
    have hfz72_5 := blk_frozen BK488.out 5
    have hnb73 := NB496_478.out
    have hnc73 := NB478_496.out
    have hnb74 := NB496_479.out
    have hnc74 := NB479_496.out
    have hnb75 := NB496_510.out
    have hnc75 := NB510_496.out
    have hnb76 := NB496_524.out
    have hnc76 := NB524_496.out
    have hcz77_0 : w48.cell? ⟨gb496, 0, none⟩ = some (.int .i64 t489) := (blk_cell BK496.out 0).trans rfl
    have hcz77_1 : w48.cell? ⟨gb496, 1, none⟩ = some (.int .i64 t490) := (blk_cell BK496.out 1).trans rfl
    have hcz77_2 : w48.cell? ⟨gb496, 2, none⟩ = some (.int .i64 t491) := (blk_cell BK496.out 2).trans rfl
    have hcz77_3 : w48.cell? ⟨gb496, 3, none⟩ = some (.int .i64 t492) := (blk_cell BK496.out 3).trans rfl
    have hcz77_4 : w48.cell? ⟨gb496, 4, none⟩ = some (.int .i64 t493) := (blk_cell BK496.out 4).trans rfl
    have hcz77_5 : w48.cell? ⟨gb496, 5, none⟩ = some (.int .i64 t494) := (blk_cell BK496.out 5).trans rfl
    have hfz77_0 := blk_frozen BK496.out 0
    have hfz77_1 := blk_frozen BK496.out 1
    have hfz77_2 := blk_frozen BK496.out 2
    have hfz77_3 := blk_frozen BK496.out 3
    have hfz77_4 := blk_frozen BK496.out 4
    have hfz77_5 := blk_frozen BK496.out 5
    go_wp2
    go_meet
    case rel => exact ⟨_, ((t487 != t495)), (by first | rfl | (simp; done) | (simp [*]; done)), H', ⟨by first | omega | exact Nat.le_refl _⟩, ⟨by refine bq ?_; refine blk_far ?_ NB478_524.out _; refine bq ?_; refine blk_far ?_ NB478_524.out _; refine bq ?_; refine blk_far ?_ NB478_524.out _; refine bq ?_; refine blk_far ?_ NB478_524.out _; refine bq ?_; refine blk_far ?_ NB478_524.out _; refine bq ?_; refine blk_far ?_ NB478_524.out _; refine bq ?_; exact BK478.out⟩, ⟨by refine bq ?_; refine blk_far ?_ NB479_524.out _; refine bq ?_; refine blk_far ?_ NB479_524.out _; refine bq ?_; refine blk_far ?_ NB479_524.out _; refine bq ?_; refine blk_far ?_ NB479_524.out _; refine bq ?_; refine blk_far ?_ NB479_524.out _; refine bq ?_; refine blk_far ?_ NB479_524.out _; refine bq ?_; exact BK479.out⟩, ⟨by refine bq ?_; refine blk_far ?_ NB488_524.out _; refine bq ?_; refine blk_far ?_ NB488_524.out _; refine bq ?_; refine blk_far ?_ NB488_524.out _; refine bq ?_; refine blk_far ?_ NB488_524.out _; refine bq ?_; refine blk_far ?_ NB488_524.out _; refine bq ?_; refine blk_far ?_ NB488_524.out _; refine bq ?_; exact BK488.out⟩, ⟨by refine bq ?_; refine blk_far ?_ NB496_524.out _; refine bq ?_; refine blk_far ?_ NB496_524.out _; refine bq ?_; refine blk_far ?_ NB496_524.out _; refine bq ?_; refine blk_far ?_ NB496_524.out _; refine bq ?_; refine blk_far ?_ NB496_524.out _; refine bq ?_; refine blk_far ?_ NB496_524.out _; refine bq ?_; exact BK496.out⟩, ⟨by refine bq ?_; refine blk_far ?_ NB510_524.out _; refine bq ?_; refine blk_far ?_ NB510_524.out _; refine bq ?_; refine blk_far ?_ NB510_524.out _; refine bq ?_; refine blk_far ?_ NB510_524.out _; refine bq ?_; refine blk_far ?_ NB510_524.out _; refine bq ?_; refine blk_far ?_ NB510_524.out _; refine bq ?_; exact BK510.out⟩, ⟨by refine bq ?_; refine blk_put (cs := #[.int .i64 t517, .int .i64 t518, .int .i64 t519, .int .i64 t520, .int .i64 t521, .int .i64 0]) ?_ 5 _ rfl; refine bq ?_; refine blk_put (cs := #[.int .i64 t517, .int .i64 t518, .int .i64 t519, .int .i64 t520, .int .i64 0, .int .i64 0]) ?_ 4 _ rfl; refine bq ?_; refine blk_put (cs := #[.int .i64 t517, .int .i64 t518, .int .i64 t519, .int .i64 0, .int .i64 0, .int .i64 0]) ?_ 3 _ rfl; refine bq ?_; refine blk_put (cs := #[.int .i64 t517, .int .i64 t518, .int .i64 0, .int .i64 0, .int .i64 0, .int .i64 0]) ?_ 2 _ rfl; refine bq ?_; refine blk_put (cs := #[.int .i64 t517, .int .i64 0, .int .i64 0, .int .i64 0, .int .i64 0, .int .i64 0]) ?_ 1 _ rfl; refine bq ?_; refine blk_put (cs := #[.int .i64 0, .int .i64 0, .int .i64 0, .int .i64 0, .int .i64 0, .int .i64 0]) ?_ 0 _ rfl; refine bq ?_; exact BK524.out⟩, ⟨by exact wq HB.out⟩⟩
  case rest =>
   clear HC11
   try clear c1
   try clear p2
   try clear c5
   try clear c6
   try clear c7
   try clear c11
   try clear c17
   try clear c55
   try clear c55b0
   try clear c56
   try clear c57
   try clear c58
   try clear c59
   try clear c60
   try clear c62
   try clear c63
   try clear c64
   try clear c65
   try clear c67
   try clear c68
   try clear c69
   try clear c70
   try clear c71
   try clear c73
   try clear c74
   try clear c75
   try clear c76
   try clear hcz61_0
   try clear hcz61_1
   try clear hcz61_2
   try clear hcz61_3
   try clear hcz61_4
   try clear hcz61_5
   try clear hcz66_0
   try clear hcz66_1
   try clear hcz66_2
   try clear hcz66_3
   try clear hcz66_4
   try clear hcz66_5
   try clear hcz72_0
   try clear hcz72_1
   try clear hcz72_2
   try clear hcz72_3
   try clear hcz72_4
   try clear hcz72_5
   try clear hcz77_0
   try clear hcz77_1
   try clear hcz77_2
   try clear hcz77_3
   try clear hcz77_4
   try clear hcz77_5
   try clear hfz61_0
   try clear hfz61_1
   try clear hfz61_2
   try clear hfz61_3
   try clear hfz61_4
   try clear hfz61_5
   try clear hfz66_0
   try clear hfz66_1
   try clear hfz66_2
   try clear hfz66_3
   try clear hfz66_4
   try clear hfz66_5
   try clear hfz72_0
   try clear hfz72_1
   try clear hfz72_2
   try clear hfz72_3
   try clear hfz72_4
   try clear hfz72_5
   try clear hfz77_0
   try clear hfz77_1
   try clear hfz77_2
   try clear hfz77_3
   try clear hfz77_4
   try clear hfz77_5
   obtain ⟨kq, x46_10, rfl, HA, HJ10, BK478, BK479, BK488, BK496, BK510, BK524, HB⟩ := hcut
   cases kq with
   | zero => exact absurd HA.out (by simp [pointillistlaw08_AffineThen.j0])
   | succ kj10 =>
    have H := HA.out
    clear HA
    simp only [pointillistlaw08_AffineThen.j0] at H
    by_cases c78 : x46_10 = true
    ·
     subst c78
     have H1 : (some false) = some true := by rw [if_pos rfl] at H; exact H
     clear H
     have H := H1
     clear H1
     exact absurd H (by simp)
    ·
     replace c78 := Bool.eq_false_iff.mpr c78
     subst c78
     have H1 : ((pointillistref08_Right.f a0_0 a0_1 a0_2 a0_3 a0_4 a0_5).bind fun t525 => (if t525 = true then (if t509 = 0 then (if t523 = 0 then (if (t503 == a0_0 && (t504 == a0_1 && (t505 == a0_2 && (t506 == a0_3 && (t507 == a0_4 && (t508 == a0_5)))))) = true then (some (t517 == a0_0 && (t518 == a0_1 && (t519 == a0_2 && (t520 == a0_3 && (t521 == a0_4 && (t522 == a0_5))))))) else (some false)) else (some false)) else (some false)) else (if t509 = 1 then (some (t523 == 1)) else (some false)))) = some true := by rw [if_neg (show ¬ (false = true) by decide)] at H; exact H
     clear H
     have H := H1
     clear H1
     replace H := Option.bind_eq_some_iff.mp H
     obtain ⟨t525, A790, H⟩ := H
     replace H : (if t525 = true then (if t509 = 0 then (if t523 = 0 then (if (t503 == a0_0 && (t504 == a0_1 && (t505 == a0_2 && (t506 == a0_3 && (t507 == a0_4 && (t508 == a0_5)))))) = true then (some (t517 == a0_0 && (t518 == a0_1 && (t519 == a0_2 && (t520 == a0_3 && (t521 == a0_4 && (t522 == a0_5))))))) else (some false)) else (some false)) else (some false)) else (if t509 = 1 then (some (t523 == 1)) else (some false))) = some true := H
     have A79 := Aside0.mk A790
     clear A790
     by_cases c80 : t525 = true
     ·
      subst c80
      have H1 : (if t509 = 0 then (if t523 = 0 then (if (t503 == a0_0 && (t504 == a0_1 && (t505 == a0_2 && (t506 == a0_3 && (t507 == a0_4 && (t508 == a0_5)))))) = true then (some (t517 == a0_0 && (t518 == a0_1 && (t519 == a0_2 && (t520 == a0_3 && (t521 == a0_4 && (t522 == a0_5))))))) else (some false)) else (some false)) else (some false)) = some true := by rw [if_pos rfl] at H; exact H
      clear H
      have H := H1
      clear H1
      by_cases c81 : t509 = 0
      ·
       rw [if_pos c81] at H
       have c81b0 : (t509 == 0) = true := beq_iff_eq.mpr c81
       have c81b1 : (t509 != 0) = false := bne_eq_false_iff_eq.mpr c81
       clear c81
       by_cases c82 : t523 = 0
       ·
        rw [if_pos c82] at H
        have c82b0 : (t523 == 0) = true := beq_iff_eq.mpr c82
        have c82b1 : (t523 != 0) = false := bne_eq_false_iff_eq.mpr c82
        clear c82
        by_cases c83 : (t503 == a0_0 && (t504 == a0_1 && (t505 == a0_2 && (t506 == a0_3 && (t507 == a0_4 && (t508 == a0_5)))))) = true
        ·
         rw [if_pos c83] at H
         have c83b0 : (t503 == a0_0 && (t504 == a0_1 && (t505 == a0_2 && (t506 == a0_3 && (t507 == a0_4 && (t508 == a0_5)))))) = true := c83
         (try (have c83b1 : decide (t503 = a0_0 && (t504 == a0_1 && (t505 == a0_2 && (t506 == a0_3 && (t507 == a0_4 && (t508 == a0_5)))))) = true := by simpa using c83))
         (try (have c83b2 : (t503 == a0_0 && (t504 == a0_1 && (t505 == a0_2 && (t506 == a0_3 && (t507 == a0_4 && (t508 == a0_5)))))) = true := by simpa using c83))
         clear c83
         have HE_ := Aside0.mk (Option.some.inj H)
         clear H
         have hnb84 := NB478_479.out
         have hnc84 := NB479_478.out
         have hnb85 := NB478_488.out
         have hnc85 := NB488_478.out
         have hnb86 := NB478_496.out
         have hnc86 := NB496_478.out
         have hnb87 := NB478_510.out
         have hnc87 := NB510_478.out
         have hnb88 := NB478_524.out
         have hnc88 := NB524_478.out
         have hcz89_0 : wc.cell? ⟨gb478, 0, none⟩ = some (.int .i64 a0_0) := (blk_cell BK478.out 0).trans rfl
         have hcz89_1 : wc.cell? ⟨gb478, 1, none⟩ = some (.int .i64 a0_1) := (blk_cell BK478.out 1).trans rfl
         have hcz89_2 : wc.cell? ⟨gb478, 2, none⟩ = some (.int .i64 a0_2) := (blk_cell BK478.out 2).trans rfl
         have hcz89_3 : wc.cell? ⟨gb478, 3, none⟩ = some (.int .i64 a0_3) := (blk_cell BK478.out 3).trans rfl
         have hcz89_4 : wc.cell? ⟨gb478, 4, none⟩ = some (.int .i64 a0_4) := (blk_cell BK478.out 4).trans rfl
         have hcz89_5 : wc.cell? ⟨gb478, 5, none⟩ = some (.int .i64 a0_5) := (blk_cell BK478.out 5).trans rfl
         have hfz89_0 := blk_frozen BK478.out 0
         have hfz89_1 := blk_frozen BK478.out 1
         have hfz89_2 := blk_frozen BK478.out 2
         have hfz89_3 := blk_frozen BK478.out 3
         have hfz89_4 := blk_frozen BK478.out 4
         have hfz89_5 := blk_frozen BK478.out 5
         go_wp2_with (first | ((with_reducible refine gate_callee (f := 13) rfl ?_); refine goesL_ (some 48) rfl rfl Tryd.func13 (by kernel_rfl) rfl #[.agg #[.int .i64 a0_0, .int .i64 a0_1, .int .i64 a0_2, .int .i64 a0_3, .int .i64 a0_4, .int .i64 a0_5]] rfl (by (try simp only [List.map_toArray, List.map_cons, List.map_nil]); first | done | rfl | (simp only [List.length_drop, List.length_take]; rfl)) ?_; (with_reducible refine (pointillistref08_Right.calls a0_0 a0_1 a0_2 a0_3 a0_4 a0_5 true _ A79.out).mono ?_); rintro e w90 ⟨rfl, hb⟩; refine ⟨_, rfl, ?_⟩; have n0_ := Aside0.mk (blk_below (bq BK478.out) hb); have n1_ := Aside0.mk (blk_below (bq BK479.out) hb); have n2_ := Aside0.mk (blk_below (bq BK488.out) hb); have n3_ := Aside0.mk (blk_below (bq BK496.out) hb); have n4_ := Aside0.mk (blk_below (bq BK510.out) hb); have n5_ := Aside0.mk (blk_below (bq BK524.out) hb); have n6_ := Aside0.mk (below_step (wq HB.out) hb); clear BK478 BK479 BK488 BK496; clear BK510 BK524 HB; have BK478 := n0_; have BK479 := n1_; have BK488 := n2_; have BK496 := n3_; have BK510 := n4_; have BK524 := n5_; have HB := n6_; clear n0_ n1_ n2_ n3_ n4_ n5_ n6_; (try clear hb); (try clear hb2); (try clear hk); (try clear hi); have hnb91 := NB510_479.out; have hnc91 := NB479_510.out; have hnb92 := NB510_488.out; have hnc92 := NB488_510.out; have hnb93 := NB510_496.out; have hnc93 := NB496_510.out; have hnb94 := NB510_524.out; have hnc94 := NB524_510.out; have hcz95_0 : w90.cell? ⟨gb510, 0, none⟩ = some (.int .i64 t503) := (blk_cell BK510.out 0).trans rfl; have hcz95_1 : w90.cell? ⟨gb510, 1, none⟩ = some (.int .i64 t504) := (blk_cell BK510.out 1).trans rfl; have hcz95_2 : w90.cell? ⟨gb510, 2, none⟩ = some (.int .i64 t505) := (blk_cell BK510.out 2).trans rfl; have hcz95_3 : w90.cell? ⟨gb510, 3, none⟩ = some (.int .i64 t506) := (blk_cell BK510.out 3).trans rfl; have hcz95_4 : w90.cell? ⟨gb510, 4, none⟩ = some (.int .i64 t507) := (blk_cell BK510.out 4).trans rfl; have hcz95_5 : w90.cell? ⟨gb510, 5, none⟩ = some (.int .i64 t508) := (blk_cell BK510.out 5).trans rfl; have hfz95_0 := blk_frozen BK510.out 0; have hfz95_1 := blk_frozen BK510.out 1; have hfz95_2 := blk_frozen BK510.out 2; have hfz95_3 := blk_frozen BK510.out 3; have hfz95_4 := blk_frozen BK510.out 4; have hfz95_5 := blk_frozen BK510.out 5; have hcz96_0 : w90.cell? ⟨gb478, 0, none⟩ = some (.int .i64 a0_0) := (blk_cell BK478.out 0).trans rfl; have hcz96_1 : w90.cell? ⟨gb478, 1, none⟩ = some (.int .i64 a0_1) := (blk_cell BK478.out 1).trans rfl; have hcz96_2 : w90.cell? ⟨gb478, 2, none⟩ = some (.int .i64 a0_2) := (blk_cell BK478.out 2).trans rfl; have hcz96_3 : w90.cell? ⟨gb478, 3, none⟩ = some (.int .i64 a0_3) := (blk_cell BK478.out 3).trans rfl; have hcz96_4 : w90.cell? ⟨gb478, 4, none⟩ = some (.int .i64 a0_4) := (blk_cell BK478.out 4).trans rfl; have hcz96_5 : w90.cell? ⟨gb478, 5, none⟩ = some (.int .i64 a0_5) := (blk_cell BK478.out 5).trans rfl; have hfz96_0 := blk_frozen BK478.out 0; have hfz96_1 := blk_frozen BK478.out 1; have hfz96_2 := blk_frozen BK478.out 2; have hfz96_3 := blk_frozen BK478.out 3; have hfz96_4 := blk_frozen BK478.out 4; have hfz96_5 := blk_frozen BK478.out 5; have hnb97 := NB524_479.out; have hnc97 := NB479_524.out; have hnb98 := NB524_488.out; have hnc98 := NB488_524.out; have hnb99 := NB524_496.out; have hnc99 := NB496_524.out; have hcz100_0 : w90.cell? ⟨gb524, 0, none⟩ = some (.int .i64 t517) := (blk_cell BK524.out 0).trans rfl; have hcz100_1 : w90.cell? ⟨gb524, 1, none⟩ = some (.int .i64 t518) := (blk_cell BK524.out 1).trans rfl; have hcz100_2 : w90.cell? ⟨gb524, 2, none⟩ = some (.int .i64 t519) := (blk_cell BK524.out 2).trans rfl; have hcz100_3 : w90.cell? ⟨gb524, 3, none⟩ = some (.int .i64 t520) := (blk_cell BK524.out 3).trans rfl; have hcz100_4 : w90.cell? ⟨gb524, 4, none⟩ = some (.int .i64 t521) := (blk_cell BK524.out 4).trans rfl; have hcz100_5 : w90.cell? ⟨gb524, 5, none⟩ = some (.int .i64 t522) := (blk_cell BK524.out 5).trans rfl; have hfz100_0 := blk_frozen BK524.out 0; have hfz100_1 := blk_frozen BK524.out 1; have hfz100_2 := blk_frozen BK524.out 2; have hfz100_3 := blk_frozen BK524.out 3; have hfz100_4 := blk_frozen BK524.out 4; have hfz100_5 := blk_frozen BK524.out 5))
         go_ret
         exact ⟨by first | rfl | (simp [errW_none, errW_some] <;> rfl) | (rw [HE_.out]; done) | (simp [HE_.out]; done) | (have h_ := HE_.out; simp_all; done) | (have h_ := HE_.out; simp [*] at h_; simp [*, h_]; done) | (simp [*, errW_none, errW_some] <;> rfl), by exact wq HB.out⟩
        ·
         rw [if_neg c83] at H
         have c83b0 : (t503 == a0_0 && (t504 == a0_1 && (t505 == a0_2 && (t506 == a0_3 && (t507 == a0_4 && (t508 == a0_5)))))) = false := by simpa using c83
         (try (have c83b1 : decide (t503 = a0_0 && (t504 == a0_1 && (t505 == a0_2 && (t506 == a0_3 && (t507 == a0_4 && (t508 == a0_5)))))) = false := by simpa using c83))
         (try (have c83b2 : (t503 == a0_0 && (t504 == a0_1 && (t505 == a0_2 && (t506 == a0_3 && (t507 == a0_4 && (t508 == a0_5)))))) = false := by simpa using c83))
         (try (have c83b3 : ¬ (t503 = a0_0 && (t504 == a0_1 && (t505 == a0_2 && (t506 == a0_3 && (t507 == a0_4 && (t508 == a0_5)))))) := by simpa using c83))
         clear c83
         exact absurd H (by simp)
       ·
        rw [if_neg c82] at H
        have c82b0 : (t523 == 0) = false := beq_eq_false_iff_ne.mpr c82
        have c82b1 : (t523 != 0) = true := bne_iff_ne.mpr c82
        exact absurd H (by simp)
      ·
       rw [if_neg c81] at H
       have c81b0 : (t509 == 0) = false := beq_eq_false_iff_ne.mpr c81
       have c81b1 : (t509 != 0) = true := bne_iff_ne.mpr c81
       exact absurd H (by simp)
     ·
      replace c80 := Bool.eq_false_iff.mpr c80
      subst c80
      have H1 : (if t509 = 1 then (some (t523 == 1)) else (some false)) = some true := by rw [if_neg (show ¬ (false = true) by decide)] at H; exact H
      clear H
      have H := H1
      clear H1
      by_cases c101 : t509 = 1
      ·
       rw [if_pos c101] at H
       have c101b0 : (t509 == 1) = true := beq_iff_eq.mpr c101
       have c101b1 : (t509 != 1) = false := bne_eq_false_iff_eq.mpr c101
       clear c101
       have HE_ := Aside0.mk (Option.some.inj H)
       clear H
       have hnb102 := NB478_479.out
       have hnc102 := NB479_478.out
       have hnb103 := NB478_488.out
       have hnc103 := NB488_478.out
       have hnb104 := NB478_496.out
       have hnc104 := NB496_478.out
       have hnb105 := NB478_510.out
       have hnc105 := NB510_478.out
       have hnb106 := NB478_524.out
       have hnc106 := NB524_478.out
       have hcz107_0 : wc.cell? ⟨gb478, 0, none⟩ = some (.int .i64 a0_0) := (blk_cell BK478.out 0).trans rfl
       have hcz107_1 : wc.cell? ⟨gb478, 1, none⟩ = some (.int .i64 a0_1) := (blk_cell BK478.out 1).trans rfl
       have hcz107_2 : wc.cell? ⟨gb478, 2, none⟩ = some (.int .i64 a0_2) := (blk_cell BK478.out 2).trans rfl
       have hcz107_3 : wc.cell? ⟨gb478, 3, none⟩ = some (.int .i64 a0_3) := (blk_cell BK478.out 3).trans rfl
       have hcz107_4 : wc.cell? ⟨gb478, 4, none⟩ = some (.int .i64 a0_4) := (blk_cell BK478.out 4).trans rfl
       have hcz107_5 : wc.cell? ⟨gb478, 5, none⟩ = some (.int .i64 a0_5) := (blk_cell BK478.out 5).trans rfl
       have hfz107_0 := blk_frozen BK478.out 0
       have hfz107_1 := blk_frozen BK478.out 1
       have hfz107_2 := blk_frozen BK478.out 2
       have hfz107_3 := blk_frozen BK478.out 3
       have hfz107_4 := blk_frozen BK478.out 4
       have hfz107_5 := blk_frozen BK478.out 5
       go_wp2_with (first | ((with_reducible refine gate_callee (f := 13) rfl ?_); refine goesL_ (some 48) rfl rfl Tryd.func13 (by kernel_rfl) rfl #[.agg #[.int .i64 a0_0, .int .i64 a0_1, .int .i64 a0_2, .int .i64 a0_3, .int .i64 a0_4, .int .i64 a0_5]] rfl (by (try simp only [List.map_toArray, List.map_cons, List.map_nil]); first | done | rfl | (simp only [List.length_drop, List.length_take]; rfl)) ?_; (with_reducible refine (pointillistref08_Right.calls a0_0 a0_1 a0_2 a0_3 a0_4 a0_5 false _ A79.out).mono ?_); rintro e w108 ⟨rfl, hb⟩; refine ⟨_, rfl, ?_⟩; have n0_ := Aside0.mk (blk_below (bq BK478.out) hb); have n1_ := Aside0.mk (blk_below (bq BK479.out) hb); have n2_ := Aside0.mk (blk_below (bq BK488.out) hb); have n3_ := Aside0.mk (blk_below (bq BK496.out) hb); have n4_ := Aside0.mk (blk_below (bq BK510.out) hb); have n5_ := Aside0.mk (blk_below (bq BK524.out) hb); have n6_ := Aside0.mk (below_step (wq HB.out) hb); clear BK478 BK479 BK488 BK496; clear BK510 BK524 HB; have BK478 := n0_; have BK479 := n1_; have BK488 := n2_; have BK496 := n3_; have BK510 := n4_; have BK524 := n5_; have HB := n6_; clear n0_ n1_ n2_ n3_ n4_ n5_ n6_; (try clear hb); (try clear hb2); (try clear hk); (try clear hi)))
       go_ret
       exact ⟨by first | rfl | (simp [errW_none, errW_some] <;> rfl) | (rw [HE_.out]; done) | (simp [HE_.out]; done) | (have h_ := HE_.out; simp_all; done) | (have h_ := HE_.out; simp [*] at h_; simp [*, h_]; done) | (simp [*, errW_none, errW_some] <;> rfl), by exact wq HB.out⟩
      ·
       rw [if_neg c101] at H
       have c101b0 : (t509 == 1) = false := beq_eq_false_iff_ne.mpr c101
       have c101b1 : (t509 != 1) = true := bne_iff_ne.mpr c101
       exact absurd H (by simp)
 ·
  replace c4 := Bool.eq_false_iff.mpr c4
  subst c4
  have H1 : (some false) = some true := by rw [if_neg (show ¬ (false = true) by decide)] at H; exact H
  clear H
  have H := H1
  clear H1
  exact absurd H (by simp)
end Go.Proofs.YtbnjgaeeojcjbaaDoor.PR
namespace Go.Proofs.YtbnjgaeeojcjbaaDoor.PR
open Go.RowKit Go.Proofs.YtbnjgaeeojcjbaaDoorW.PrintWords
def thenM (m0 m1 m2 m3 m4 m5 n0 n1 n2 n3 n4 n5 : Int) : Int × Int × Int × Int × Int × Int × Int :=
  if rightM m0 m1 m2 m3 m4 m5 ∧ rightM n0 n1 n2 n3 n4 n5 then
    if rightM (lin n0 m0 n2 m1 0) (lin n1 m0 n3 m1 0) (lin n0 m2 n2 m3 0) (lin n1 m2 n3 m3 0) (lin n0 m4 n2 m5 n4) (lin n1 m4 n3 m5 n5) then (lin n0 m0 n2 m1 0, lin n1 m0 n3 m1 0, lin n0 m2 n2 m3 0, lin n1 m2 n3 m3 0, lin n0 m4 n2 m5 n4, lin n1 m4 n3 m5 n5, 0)
    else (0, 0, 0, 0, 0, 0, 2)
  else (0, 0, 0, 0, 0, 0, 1)
theorem inZ_0 : inZ 0 := by decide
theorem then_eq (k : Nat) (m0 m1 m2 m3 m4 m5 n0 n1 n2 n3 n4 n5 : Int) : affine_Then.f (k + 7) m0 m1 m2 m3 m4 m5 n0 n1 n2 n3 n4 n5 = some (thenM m0 m1 m2 m3 m4 m5 n0 n1 n2 n3 n4 n5) := by
  unfold affine_Then.f thenM
  rw [right_eq]
  simp only [Option.bind_some]
  by_cases hm : rightM m0 m1 m2 m3 m4 m5
  · rw [if_pos (decide_eq_true hm), right_eq]
    simp only [Option.bind_some]
    by_cases hn : rightM n0 n1 n2 n3 n4 n5
    · rw [if_pos (decide_eq_true hn), if_pos ⟨hm, hn⟩]
      obtain ⟨a0, a1, a2, a3, a4, a5⟩ := hm
      obtain ⟨b0, b1, b2, b3, b4, b5⟩ := hn
      rw [number_eq (k + 4) b0 a0 b2 a1 inZ_0]
      simp only [Option.bind_some]
      by_cases h0 : inZ (lin n0 m0 n2 m1 0)
      · rw [if_pos h0]
        simp only
        rw [number_eq (k + 4) b1 a0 b3 a1 inZ_0]
        simp only [Option.bind_some]
        by_cases h1 : inZ (lin n1 m0 n3 m1 0)
        · rw [if_pos h1]
          simp only
          rw [number_eq (k + 4) b0 a2 b2 a3 inZ_0]
          simp only [Option.bind_some]
          by_cases h2 : inZ (lin n0 m2 n2 m3 0)
          · rw [if_pos h2]
            simp only
            rw [number_eq (k + 4) b1 a2 b3 a3 inZ_0]
            simp only [Option.bind_some]
            by_cases h3 : inZ (lin n1 m2 n3 m3 0)
            · rw [if_pos h3]
              simp only
              rw [number_eq (k + 4) b0 a4 b2 a5 b4]
              simp only [Option.bind_some]
              by_cases h4 : inZ (lin n0 m4 n2 m5 n4)
              · rw [if_pos h4]
                simp only
                rw [number_eq (k + 4) b1 a4 b3 a5 b5]
                simp only [Option.bind_some]
                by_cases h5 : inZ (lin n1 m4 n3 m5 n5)
                · rw [if_pos h5, if_pos ⟨h0, h1, h2, h3, h4, h5⟩]
                · rw [if_neg h5, if_neg (fun h => h5 h.2.2.2.2.2)]
              · rw [if_neg h4, if_neg (fun h => h4 h.2.2.2.2.1)]
            · rw [if_neg h3, if_neg (fun h => h3 h.2.2.2.1)]
          · rw [if_neg h2, if_neg (fun h => h2 h.2.2.1)]
        · rw [if_neg h1, if_neg (fun h => h1 h.2.1)]
      · rw [if_neg h0, if_neg (fun h => h0 h.1)]
    · rw [if_neg (by simpa using hn), if_neg (fun h => hn h.2)]
  · rw [if_neg (by simpa using hm), if_neg (fun h => hm h.1)]
theorem refthen_ev (m0 m1 m2 m3 m4 m5 n0 n1 n2 n3 n4 n5 : Int) : Ev (fun k => pointillistref08_Then.f k m0 m1 m2 m3 m4 m5 n0 n1 n2 n3 n4 n5) (thenM m0 m1 m2 m3 m4 m5 n0 n1 n2 n3 n4 n5) := by
  have bad : Ev (fun k => pointillistref08_Then.j0 k true m0 m1 m2 m3 m4 m5 n0 n1 n2 n3 n4 n5) (0, 0, 0, 0, 0, 0, 1) := Ev.step (f := fun _ => some (0, 0, 0, 0, 0, 0, 1)) (fun k => by rw [pointillistref08_Then.j0, if_pos rfl]) (Ev.now _)
  unfold pointillistref08_Then.f thenM
  rw [refright_eq, refright_eq]
  simp only [Option.bind_some]
  by_cases hm : rightM m0 m1 m2 m3 m4 m5
  · by_cases hn : rightM n0 n1 n2 n3 n4 n5
    · rw [if_pos ⟨hm, hn⟩]
      simp only [decide_eq_true hm, decide_eq_true hn, if_true, Bool.not_true]
      obtain ⟨a0, a1, a2, a3, a4, a5⟩ := hm
      obtain ⟨b0, b1, b2, b3, b4, b5⟩ := hn
      refine Ev.step (fun k => by rw [pointillistref08_Then.j0, if_neg (by decide)]) ?_
      refine Ev.bind (refsum_ev b0 a0 b2 a1 inZ_0) (Ev.bind (refsum_ev b1 a0 b3 a1 inZ_0) (Ev.bind (refsum_ev b0 a2 b2 a3 inZ_0) (Ev.bind (refsum_ev b1 a2 b3 a3 inZ_0) (Ev.bind (refsum_ev b0 a4 b2 a5 b4) (Ev.bind (refsum_ev b1 a4 b3 a5 b5) ?_)))))
      rw [refright_eq]
      simp only [Option.bind_some, decide_eq_true_eq]
      by_cases h : rightM (lin n0 m0 n2 m1 0) (lin n1 m0 n3 m1 0) (lin n0 m2 n2 m3 0) (lin n1 m2 n3 m3 0) (lin n0 m4 n2 m5 n4) (lin n1 m4 n3 m5 n5)
      · simp only [if_pos h]; exact Ev.now _
      · simp only [if_neg h]; exact Ev.now _
    · rw [if_neg (fun h => hn h.2)]
      simp only [decide_eq_true hm, decide_eq_false hn, if_true, Bool.not_false]
      exact bad
  · rw [if_neg (fun h => hm h.1)]
    simp only [decide_eq_false hm, Bool.false_eq_true, if_false]
    exact bad
theorem lin_a (a b c : Int) : lin a 65536 b 0 c = a + c := by unfold lin; rw [near16]; omega
theorem lin_b (a b c : Int) : lin a 0 b 65536 c = b + c := by unfold lin; rw [near16]; omega
theorem lin_0 (a b c : Int) : lin a 0 b 0 c = c := by unfold lin; rw [near16]; omega
def onlyM (m0 m1 m2 m3 m4 m5 : Int) : Int × Int × Int × Int × Int × Int × Int := if rightM m0 m1 m2 m3 m4 m5 then (m0, m1, m2, m3, m4, m5, 0) else (0, 0, 0, 0, 0, 0, 1)
theorem then_same (m0 m1 m2 m3 m4 m5 : Int) : thenM m0 m1 m2 m3 m4 m5 65536 0 0 65536 0 0 = onlyM m0 m1 m2 m3 m4 m5 := by
  unfold thenM onlyM
  simp only [lin_one, lin_two, Int.add_zero]
  by_cases h : rightM m0 m1 m2 m3 m4 m5
  · rw [if_pos ⟨h, same_right⟩, if_pos h, if_pos h]
  · rw [if_neg (fun g => h g.1), if_neg h]
theorem same_then (m0 m1 m2 m3 m4 m5 : Int) : thenM 65536 0 0 65536 0 0 m0 m1 m2 m3 m4 m5 = onlyM m0 m1 m2 m3 m4 m5 := by
  unfold thenM onlyM
  simp only [lin_a, lin_b, lin_0, Int.add_zero]
  by_cases h : rightM m0 m1 m2 m3 m4 m5
  · rw [if_pos ⟨same_right, h⟩, if_pos h, if_pos h]
  · rw [if_neg (fun g => h g.2), if_neg h]
theorem then_ev (m0 m1 m2 m3 m4 m5 n0 n1 n2 n3 n4 n5 : Int) : Ev (fun k => pointillistlaw08_AffineThen.f k m0 m1 m2 m3 m4 m5 n0 n1 n2 n3 n4 n5) true := by
  unfold pointillistlaw08_AffineThen.f
  refine Ev.bind (ev7 wakes_true) ?_
  simp only [if_true]
  refine Ev.bind (ev7 (fun k => then_eq k m0 m1 m2 m3 m4 m5 n0 n1 n2 n3 n4 n5)) (Ev.bind (refthen_ev m0 m1 m2 m3 m4 m5 n0 n1 n2 n3 n4 n5) ?_)
  unfold affine_Same.f
  simp only [Option.bind_some]
  refine Ev.bind (ev7 (fun k => then_eq k m0 m1 m2 m3 m4 m5 65536 0 0 65536 0 0)) (Ev.bind (ev7 (fun k => then_eq k 65536 0 0 65536 0 0 m0 m1 m2 m3 m4 m5)) ?_)
  rw [then_same, same_then]
  generalize thenM m0 m1 m2 m3 m4 m5 n0 n1 n2 n3 n4 n5 = X
  simp only [BEq.rfl, Bool.not_true, Bool.or_self, Bool.false_eq_true, if_false, bne_self_eq_false]
  refine Ev.step (fun k => by rw [pointillistlaw08_AffineThen.j0, if_neg (by decide), refright_eq]) ?_
  simp only [Option.bind_some]
  unfold onlyM
  by_cases h : rightM m0 m1 m2 m3 m4 m5
  · simp only [if_pos h, decide_eq_true h, if_true, BEq.rfl, Bool.and_self]
    exact Ev.now _
  · simp only [if_neg h, decide_eq_false h, Bool.false_eq_true, if_false, if_true, BEq.rfl]
    exact Ev.now _
theorem affineThen_walk (a0 a1 a2 a3 a4 a5 b0 b1 b2 b3 b4 b5 : Int) (w : World) (hG : Gl w) (_ : -9223372036854775808 ≤ a0 ∧ a0 < 9223372036854775808) (_ : -9223372036854775808 ≤ a1 ∧ a1 < 9223372036854775808) (_ : -9223372036854775808 ≤ a2 ∧ a2 < 9223372036854775808)
    (_ : -9223372036854775808 ≤ a3 ∧ a3 < 9223372036854775808) (_ : -9223372036854775808 ≤ a4 ∧ a4 < 9223372036854775808) (_ : -9223372036854775808 ≤ a5 ∧ a5 < 9223372036854775808)
    (_ : -9223372036854775808 ≤ b0 ∧ b0 < 9223372036854775808) (_ : -9223372036854775808 ≤ b1 ∧ b1 < 9223372036854775808) (_ : -9223372036854775808 ≤ b2 ∧ b2 < 9223372036854775808)
    (_ : -9223372036854775808 ≤ b3 ∧ b3 < 9223372036854775808) (_ : -9223372036854775808 ≤ b4 ∧ b4 < 9223372036854775808) (_ : -9223372036854775808 ≤ b5 ∧ b5 < 9223372036854775808) :
    Calls Tryd.prog 6 #[.agg #[.int .i64 a0, .int .i64 a1, .int .i64 a2, .int .i64 a3, .int .i64 a4, .int .i64 a5], .agg #[.int .i64 b0, .int .i64 b1, .int .i64 b2, .int .i64 b3, .int .i64 b4, .int .i64 b5]] w fun e w' => e = .returned (.bool true) ∧ Below w.heap.size w w' := by
  obtain ⟨k, h⟩ := (then_ev a0 a1 a2 a3 a4 a5 b0 b1 b2 b3 b4 b5).rounds
  exact pointillistlaw08_AffineThen.calls k a0 a1 a2 a3 a4 a5 b0 b1 b2 b3 b4 b5 w hG h
end Go.Proofs.YtbnjgaeeojcjbaaDoor.PR
namespace Go.Proofs.YtbnjgaeeojcjbaaDoor
open Go.ChangeShapes Go.WideShapes Go.ChangeAt
section
variable {H : Type} {enc : TypeId × Value → H} {P : Program} {w : World} {base : Nat} {spare : Nat → Bool} {held : Bool} {t : TypeId}
def isInt (P : Program) (k : IntKind) (t : TypeId) : Bool := match P.underlying t with | some (.int k') => k' == k | _ => false
theorem isInt_spec {k : IntKind} (h : isInt P k t = true) : P.underlying t = some (.int k) := by
  unfold isInt at h
  split at h
  · rename_i k' hk
    have : k' = k := by cases k' <;> cases k <;> first | rfl | (exact absurd h (by decide))
    rw [hk, this]
  · cases h
def intFields (P : Program) (k : IntKind) (fs : Array Field) : Bool := (List.range fs.size).all fun i => match fs[i]? with | some f => isInt P k f.type && f.offset == i && P.cellsOf f.type == 1 | none => false
theorem ints_of_parts {k : IntKind} {cs : List Value} {n m : Nat} {xs : List (DataW H × List MemPlace)} {T : Nat → TypeId} (hn : cs.length = n) (hx : xs.length = n) (hT : ∀ i, i < n → P.underlying (T i) = some (.int k))
    (h : ∀ i, i < n → DataW.trod enc P w base spare held m (T i) ((cs.drop i).take 1) = xs[i]?) : ∃ ns : List Int, ns.length = n ∧ cs = ns.map (Value.int k) ∧ (∀ x ∈ ns, (Lit.int k x).wf = true) ∧ xs.map (·.1) = ns.map (fun z => .lit (.int k z)) := by
  have key : ∀ i, i < n → ∃ z, cs[i]? = some (.int k z) ∧ (Lit.int k z).wf = true ∧ xs[i]? = some (.lit (.int k z), []) := by
    intro i hi
    have h1 := h i hi
    rw [List.getElem?_eq_getElem (by omega)] at h1
    obtain ⟨z, hz, hxz, hw⟩ := DataW.trod_int (hT i hi) h1
    refine ⟨z, ?_, hw, by rw [List.getElem?_eq_getElem (by omega), hxz]⟩
    have hlt : i < cs.length := by omega
    rw [List.drop_eq_getElem_cons hlt] at hz
    simp only [List.take_succ_cons, List.take_zero, List.cons.injEq, and_true] at hz
    rw [List.getElem?_eq_getElem hlt, hz]
  refine ⟨cs.map (fun v => match v with | .int _ z => z | _ => 0), by simpa using hn, ?_, ?_, ?_⟩
  · apply List.ext_getElem?
    intro i
    by_cases hi : i < n
    · obtain ⟨z, hz, _⟩ := key i hi
      simp [List.getElem?_map, hz]
    · simp [List.getElem?_map, List.getElem?_eq_none (show cs.length ≤ i by omega)]
  rotate_left
  · apply List.ext_getElem?
    intro i
    by_cases hi : i < n
    · obtain ⟨z, hz, _, hxz⟩ := key i hi
      simp [List.getElem?_map, hz, hxz]
    · simp [List.getElem?_map, List.getElem?_eq_none (show cs.length ≤ i by omega), List.getElem?_eq_none (show xs.length ≤ i by omega)]
  · intro x hx2
    rw [List.mem_map] at hx2
    obtain ⟨v, hv, hvx⟩ := hx2
    obtain ⟨i, hi⟩ := List.getElem?_of_mem hv
    have hlt : i < n := by
      have := (List.getElem?_eq_some_iff.1 hi).1
      omega
    obtain ⟨z, hz, hw, _⟩ := key i hlt
    rw [hi] at hz
    obtain rfl := Option.some.inj hz
    simp only at hvx
    rw [← hvx]
    exact hw
theorem trod_struct_ints {k : IntKind} {fs : Array Field} {fuel : Nat} {cs : List Value} {x : DataW H × List MemPlace} (ht : P.underlying t = some (.struct fs)) (hf : intFields P k fs = true) (hC : P.cellsOf t = fs.size)
    (h : DataW.trod enc P w base spare held fuel t cs = some x) : ∃ ns : List Int, ns.length = fs.size ∧ cs = ns.map (Value.int k) ∧ (∀ z ∈ ns, (Lit.int k z).wf = true) ∧ x.1 = .agg (ns.map (fun z => .lit (.int k z))) := by
  obtain ⟨xs, m, rfl, rfl, hlen, hx, hel⟩ := DataW.trod_struct ht h
  unfold intFields at hf
  rw [List.all_eq_true] at hf
  have hg : ∀ i, i < fs.size → ∃ f, fs[i]? = some f ∧ P.underlying f.type = some (.int k) ∧ f.offset = i ∧ P.cellsOf f.type = 1 := by
    intro i hi
    have := hf i (List.mem_range.2 hi)
    split at this
    · rename_i f hfi
      simp only [Bool.and_eq_true, beq_iff_eq] at this
      exact ⟨f, hfi, isInt_spec this.1.1, this.1.2, this.2⟩
    · cases this
  suffices hsuf : ∃ ns : List Int, ns.length = fs.size ∧ cs = ns.map (Value.int k) ∧ (∀ z ∈ ns, (Lit.int k z).wf = true) ∧ xs.map (·.1) = ns.map (fun z => .lit (.int k z)) by
    obtain ⟨ns, h1, h2, h3, h4⟩ := hsuf
    exact ⟨ns, h1, h2, h3, by simp only [h4]⟩
  refine ints_of_parts (enc := enc) (P := P) (w := w) (base := base) (spare := spare) (held := held) (m := m) (T := fun i => ((fs[i]?).map (·.type)).getD 0) (by omega) hx (fun i hi => ?_) (fun i hi => ?_)
  · obtain ⟨f, hfi, hu, _, _⟩ := hg i hi
    simp only [hfi, Option.map_some, Option.getD_some]
    exact hu
  · obtain ⟨f, hfi, hu, ho, hc⟩ := hg i hi
    have := hel i f hfi
    rw [ho, hc] at this
    simp only [hfi, Option.map_some, Option.getD_some]
    exact this
theorem open_struct_ints {r : Reach} {b0 : Nat} {v : Value} {d : DataW H} {p : List MemPlace} {k : IntKind} {fs : Array Field} (ht : P.underlying t = some (.struct fs)) (hf : intFields P k fs = true) (hC : P.cellsOf t = fs.size)
    (hv : Value.okWide P w r b0 t v) (h : DataW.Trod enc P w base spare held t v d p) : ∃ ns : List Int, ns.length = fs.size ∧ v = .agg (ns.map (Value.int k)).toArray ∧ ∀ z ∈ ns, (Lit.int k z).wf = true := by
  obtain ⟨cs, rfl, _⟩ := okWide_struct ht hv
  obtain ⟨fuel, hf2⟩ := h
  obtain ⟨ns, h1, h2, h3, _⟩ := trod_struct_ints ht hf hC hf2
  have h2' : cs.toList = ns.map (Value.int k) := by simpa [Value.cells] using h2
  refine ⟨ns, h1, ?_, h3⟩
  rw [← h2']
end
theorem list_of_length2 {α : Type} {l : List α} (h : l.length = 2) : ∃ a b, l = [a, b] := by
  match l, h with
  | [a, b], _ => exact ⟨a, b, rfl⟩
theorem list_of_length6 {α : Type} {l : List α} (h : l.length = 6) : ∃ a b c d e f, l = [a, b, c, d, e, f] := by
  match l, h with
  | [a, b, c, d, e, f], _ => exact ⟨a, b, c, d, e, f, rfl⟩
theorem wf_i64 {n : Int} (h : (Lit.int .i64 n).wf = true) : -9223372036854775808 ≤ n ∧ n < 9223372036854775808 := by
  simp [Lit.wf, IntKind.min, IntKind.max, IntKind.signed, IntKind.bits] at h
  omega
end Go.Proofs.YtbnjgaeeojcjbaaDoor
namespace Go.Proofs.YtbnjgaeeojcjbaaDoor
open Go.ChangeShapes Go.WideShapes Go.ChangeAt Go.RowKit
theorem gNought : Tryd.prog.globalNamed "pointillist/wide.nought" = some 0 := by kernel_rfl
theorem tNought : (Tryd.prog.globals[0]?).map (·.type) = some 69 := by kernel_rfl
theorem of_nought {W : World} (h : laidMetH Tryd.prog [("pointillist/wide.nought", Rows.laid_pointillist_wide_nought)] W) : Gl W := by
  rw [MakeChecks.laidMetH_plain _ _ _ (by kernel_rfl)] at h
  obtain ⟨ps, ⟨g0, t0, cs0, f0, p0, q0, hg0, ht0, hv0, hd0, _, _⟩, _, _⟩ := h
  obtain rfl := Option.some.inj (gNought.symm.trans hg0)
  obtain rfl := Option.some.inj (tNought.symm.trans ht0)
  obtain ⟨ns, hl, hc, _, hx⟩ := trod_struct_ints (k := .u64) Tryd.underlying69 (by kernel_rfl) (by kernel_rfl) hd0
  obtain ⟨a, b, rfl⟩ := list_of_length2 hl
  simp only [Rows.laid_pointillist_wide_nought, List.map_cons, List.map_nil, DataW.agg.injEq, List.cons.injEq, DataW.lit.injEq, Lit.int.injEq, true_and, and_true] at hx
  obtain ⟨rfl, rfl⟩ := hx
  have c : cs0 = #[.int .u64 0, .int .u64 0] := by
    apply Array.ext'
    simpa using hc
  have h0 := World.var?_cell hg0 hv0 0
  have h1 := World.var?_cell hg0 hv0 1
  rw [c] at h0 h1
  exact ⟨by simpa using h0, by simpa using h1⟩
theorem Gl.of_affineThen {W : World} (h : laidMetH Tryd.prog [("pointillist/wide.nought", Rows.laid_pointillist_wide_nought)] W) : Gl W := of_nought h
end Go.Proofs.YtbnjgaeeojcjbaaDoor
namespace Go.Proofs.YtbnjgaeeojcjbaaDoor.affineThenR
open Go.ChangeShapes Go.WideShapes Go.ChangeAt Go.RowKit
open Go.ChangeMaps (open_string shut_string)
theorem own : ownKnob Tryd.prog.godebug = none := by kernel_rfl
theorem laidOut : laidOutB Tryd.prog = true := by kernel_rfl
def listed {H : Type} : List (String × DataW H) := [("pointillist/wide.nought", Rows.laid_pointillist_wide_nought)]
theorem met (os : Os) (args : Array Value) : laidMetH Tryd.prog listed ((World.doorLaid Tryd.prog 14 os).forCall (fun _ _ => 0) ⟨#[], args, []⟩).memory :=
  laidMetH_of_parts3 (fuel := 8) (laidMet_of_run' 8 (by kernel_rfl) (by kernel_rfl)) (by kernel_rfl) (by kernel_rfl)
set_option maxRecDepth 100000 in
theorem lifted (os : Os) (started : os.Started) (H : Type) (enc : TypeId × Value → H) :
    ReturnsInHanded {} Tryd.checked os 6 .any (fun w args => (Rows.affineThenSpec.pre enc Tryd.prog Tryd.f6 [] false w args ∧ laidMetH Tryd.prog listed w) ∧ sizedMet enc Tryd.prog Tryd.f6 (OpenSpec.ofChange Rows.affineThenSpec) false w args)
      (Rows.affineThenSpec.post enc Tryd.prog Tryd.f6 false true false false) := by
  refine returnsInHanded_of_change_and (C := Tryd.checked) (X := fun w _ => laidMetH Tryd.prog listed w) (fun _ _ _ hh h => h.of_heap hh) own started (by kernel_rfl) Tryd.func6
    (ChangeSpec.witness_shaped (enc := enc) (C := Tryd.checked) (os := os) (X := fun w _ => laidMetH Tryd.prog listed w) false (World.doorLaid Tryd.prog 14 os) #[.agg #[.int .i64 0, .int .i64 0, .int .i64 0, .int .i64 0, .int .i64 0, .int .i64 0], .agg #[.int .i64 0, .int .i64 0, .int .i64 0, .int .i64 0, .int .i64 0, .int .i64 0]] 8 rfl (World.shaped_of_RefB (by kernel_rfl) (by kernel_rfl)) (by kernel_rfl) (by kernel_rfl) (by kernel_rfl) (met os _)) ?_
  intro W base args ds gs before hval0 hW hcnd hsz0 hL _
  clear hcnd
  have hval : ∀ (j : Nat) t v, Tryd.f6.params[j]? = some t → args[j]? = some v → Value.okWide Tryd.prog W .any base t v := hval0
  have hW' := hW
  obtain ⟨p, q, hA0, hV, rfl, hfz, hnd⟩ := hW
  have hA : DataW.TrodAll enc Tryd.prog W 0 (fun _ => true) true Tryd.f6.params.toList args.toList ds p := hA0
  rw [Tryd.params6] at hA hval
  obtain ⟨v0, vs0, d0, ds0, p0, q0, hargs, rfl, rfl, h0, r0⟩ := trodAll_cons hA
  obtain ⟨v1, vs1, d1, ds1, p1, q1, rfl, rfl, rfl, h1, r1⟩ := trodAll_cons r0
  obtain ⟨rfl, rfl, rfl⟩ := trodAll_nil r1
  obtain rfl : args = #[v0, v1] := by cases args; simp_all
  obtain ⟨rfl, rfl⟩ := trodVars_none hV
  have hG : Gl W := Gl.of_affineThen hL
  have k0 := h0
  have lt0 : ∀ x ∈ p0, x.block < W.heap.size := by obtain ⟨m, hm⟩ := k0; exact DataW.trod_lt m _ _ _ hm
  obtain ⟨ns0, nl0, rfl, nw0⟩ := open_struct_ints (k := .i64) Tryd.underlying23 (by kernel_rfl) (by kernel_rfl) (hval 0 23 v0 rfl rfl) h0
  obtain ⟨a0_0, a0_1, a0_2, a0_3, a0_4, a0_5, rfl⟩ : ∃ a0_0 a0_1 a0_2 a0_3 a0_4 a0_5, ns0 = [a0_0, a0_1, a0_2, a0_3, a0_4, a0_5] := list_of_length6 nl0
  have w_a0_0 := wf_i64 (nw0 a0_0 (by simp))
  have w_a0_1 := wf_i64 (nw0 a0_1 (by simp))
  have w_a0_2 := wf_i64 (nw0 a0_2 (by simp))
  have w_a0_3 := wf_i64 (nw0 a0_3 (by simp))
  have w_a0_4 := wf_i64 (nw0 a0_4 (by simp))
  have w_a0_5 := wf_i64 (nw0 a0_5 (by simp))
  clear nw0 nl0
  simp only [List.map_cons, List.map_nil] at hW'
  have k1 := h1
  have lt1 : ∀ x ∈ p1, x.block < W.heap.size := by obtain ⟨m, hm⟩ := k1; exact DataW.trod_lt m _ _ _ hm
  obtain ⟨ns1, nl1, rfl, nw1⟩ := open_struct_ints (k := .i64) Tryd.underlying23 (by kernel_rfl) (by kernel_rfl) (hval 1 23 v1 rfl rfl) h1
  obtain ⟨a1_0, a1_1, a1_2, a1_3, a1_4, a1_5, rfl⟩ : ∃ a1_0 a1_1 a1_2 a1_3 a1_4 a1_5, ns1 = [a1_0, a1_1, a1_2, a1_3, a1_4, a1_5] := list_of_length6 nl1
  have w_a1_0 := wf_i64 (nw1 a1_0 (by simp))
  have w_a1_1 := wf_i64 (nw1 a1_1 (by simp))
  have w_a1_2 := wf_i64 (nw1 a1_2 (by simp))
  have w_a1_3 := wf_i64 (nw1 a1_3 (by simp))
  have w_a1_4 := wf_i64 (nw1 a1_4 (by simp))
  have w_a1_5 := wf_i64 (nw1 a1_5 (by simp))
  clear nw1 nl1
  simp only [List.map_cons, List.map_nil] at hW'
  clear hA0 hval0 hsz0
  refine (PR.affineThen_walk a0_0 a0_1 a0_2 a0_3 a0_4 a0_5 a1_0 a1_1 a1_2 a1_3 a1_4 a1_5 W hG w_a0_0 w_a0_1 w_a0_2 w_a0_3 w_a0_4 w_a0_5 w_a1_0 w_a1_1 w_a1_2 w_a1_3 w_a1_4 w_a1_5).mono fun e W' ⟨he, bel⟩ => ?_
  subst he
  exact ⟨_, rfl, _, _, _, [], _, [], hW', trodAll_mk1 (shut_bool Tryd.underlying4 _), (trodAll_cons_mk (Below.trod laidOut (by kernel_rfl) (of_decide_eq_true (by kernel_rfl)) k0 bel lt0) (trodAll_cons_mk (Below.trod laidOut (by kernel_rfl) (of_decide_eq_true (by kernel_rfl)) k1 bel lt1) trodAll_mk0)), rfl, bel.frame _, fun h => by cases h⟩
theorem over : Rows.affineThenRow.holds Tryd.pinned (OpenSpec.ofChange Rows.affineThenSpec) :=
  OpenClaim.holds_of_wide 6 Tryd.f6 rfl rfl rfl rfl rfl rfl rfl ⟨rfl, rfl, rfl, rfl, rfl⟩ rfl rfl rfl rfl rfl (by kernel_rfl) Tryd.func6 (by kernel_rfl)
    (of_decide_eq_true (by kernel_rfl)) (by unfold Func.isWrapper; first | (rw [if_pos (by decide +kernel)]; kernel_rfl) | (rw [if_neg (by decide +kernel)]; exact ⟨rfl, rfl⟩))
    (fun os started H enc _ => lifted os started H enc)
theorem carded : Rows.AffineThenCardSaid :=
  Claim7.holds_tied_plain_at .later [] [.data] true (true, "0fa006a278c56c431f774ead5f5f82fabf10850824c98a1f5a14cd52982934ae") true
    over (fun _ h => by cases h) (by kernel_rfl) (fun _ h => by cases h) affineThen_row_tie rfl ⟨rfl, rfl⟩ (by kernel_rfl) rfl
    (fun f fn hf hfn => by
      obtain rfl : f = 6 := Option.some.inj ((show Tryd.prog.funcNamed "pointillist/pointillistlaw08.AffineThen" = some 6 by kernel_rfl).symm.trans hf) |>.symm
      obtain rfl : fn = Tryd.f6 := (Option.some.inj (Tryd.func6.symm.trans hfn)).symm
      exact ⟨by kernel_rfl, fun j t ht => by
        rw [Tryd.params6] at ht
        have hm : t ∈ [23, 23] := by simpa using Array.mem_of_getElem? ht
        have hall : ([23, 23].all fun u => !Tryd.prog.wantsStandIn u) = true := by kernel_rfl
        exact (show Tryd.prog.wantsStandIn t = false by simpa using List.all_eq_true.1 hall t hm)⟩)
    (by kernel_rfl)
#print axioms carded
end Go.Proofs.YtbnjgaeeojcjbaaDoor.affineThenR
namespace Go.Proofs.YtbnjgaeeojcjbaaDoor
theorem affineThen_card : Rows.AffineThenCardSaid := affineThenR.carded
end Go.Proofs.YtbnjgaeeojcjbaaDoor
