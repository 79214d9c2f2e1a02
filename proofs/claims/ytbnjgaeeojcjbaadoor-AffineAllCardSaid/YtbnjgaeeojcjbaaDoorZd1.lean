import Derived.ArgAppend
import Derived.Below
import Derived.BigQuiet
import Derived.Deep.AppendLies
import Derived.Deep.CutBlock
import Derived.Deep.DeepCutAuto
import Derived.Deep.Draws
import Derived.Deep.LoopGhost
import Derived.Deep.OwnRows
import Derived.Deep.QuietTactic
import Derived.Deep.RegionHeld3
import Derived.KernelRfl
import Derived.Laws.Bits64
import Derived.Laws.BitsAllLaws
import Derived.Laws.BitsLemmas
import Derived.Laws.BytesArg
import Derived.Laws.Externs
import Derived.Laws.IdiomCopy
import Derived.Laws.MakeOwn
import Derived.Laws.OwnMore
import Derived.Laws.Rows
import Derived.Laws.Slices
import Derived.Laws.StructEq
import Derived.Laws.World
import Derived.Lib.AppendStr
import Derived.Lib.ConvBytes
import Derived.Lib.Mul64
import Derived.Maps.AppendAt
import Derived.OrdersHeld
import Derived.OwnWalk
import Derived.RowKit
import Derived.RowKit3
import Derived.Tactics
import Derived.WalkKit
import Derived.WalkLawsBesides
import Derived.WideLaws
import Derived.Test.YtbnjgaeeojcjbaaDoorProg
import Derived.Test.YtbnjgaeeojcjbaaDoorZd0
-- What this claim needs of the words, the printed walks and this session's texts (merged and cut by wip/prune.py).
namespace Go.Proofs.YtbnjgaeeojcjbaaDoor
open Go.RowKit Go.Proofs.YtbnjgaeeojcjbaaDoorW.PrintWords
def add64_lo (x y c : Int) : Int := (x + y + c) % 18446744073709551616
def add64_hi (x y c : Int) : Int := (x + y + c) / 18446744073709551616
theorem add64_run (x y c : Int) (hx : 0 ≤ x) (hy : 0 ≤ y) (h0 : 0 ≤ c) (h1 : c ≤ 1) (w : World) :
    (callFunc 50 #[.int .u64 x, .int .u64 y, .int .u64 c]).run Tryd.prog w =
      .ok (.value (.tuple #[.int .u64 (add64_lo x y c), .int .u64 (add64_hi x y c)])) w := by
  rw [run_callFunc_extern Tryd.func50 (by kernel_rfl) (by kernel_rfl) (by kernel_rfl) (e := add64Entry) (by kernel_rfl), run_add64 x y c hx hy h0 h1]
  rfl
class Strip (W : World) (w : outParam World) : Prop where
  b : ∀ {g : Nat} {o : Obj}, w.heap[g]? = some o → W.heap[g]? = some o
  v : ∀ {α : Type} {d : Kd α} {e base : Nat} {ok : Nat → Prop} {u : Value} {xs : List α}, Kd.V d e w base ok u xs → Kd.V d e W base ok u xs
  r : ∀ {α : Type} {d : Kd α} {e base : Nat} {ok : Nat → Prop} {u : Value} {xs : List α}, Kd.R d e w base ok u xs → Kd.R d e W base ok u xs
instance (priority := low) (W : World) : Strip W W := ⟨fun h => h, fun h => h, fun h => h⟩
instance (W w : World) [s : Strip W w] (o : Obj) : Strip (W.alloc o) w := ⟨fun h => blk_alloc (s.b h) o, fun h => Kd.V_alloc (s.v h) o, fun h => Kd.R_alloc (s.r h) o⟩
instance (W w : World) [s : Strip W w] (n : Nat) : Strip (W.drewN n) w := ⟨fun h => blk_drewN (s.b h) n, fun h => Kd.V_drewN (s.v h) n, fun h => Kd.R_drewN (s.r h) n⟩
instance (W w : World) [s : Strip W w] : Strip W.drew w := ⟨fun h => blk_drew (s.b h), fun h => Kd.V_drew (s.v h), fun h => Kd.R_drew (s.r h)⟩
theorem bq {W w : World} [s : Strip W w] {g : Nat} {o : Obj} (h : w.heap[g]? = some o) : W.heap[g]? = some o := s.b h
theorem vq {W w : World} [s : Strip W w] {α : Type} {d : Kd α} {e base : Nat} {ok : Nat → Prop} {u : Value} {xs : List α} (h : Kd.V d e w base ok u xs) : Kd.V d e W base ok u xs := s.v h
theorem rq {W w : World} [s : Strip W w] {α : Type} {d : Kd α} {e base : Nat} {ok : Nat → Prop} {u : Value} {xs : List α} (h : Kd.R d e w base ok u xs) : Kd.R d e W base ok u xs := s.r h
class CIn (w W : World) : Prop where
  c : ∀ {α : Type} {d : Kd α} {A : Option Addr} {n : Nat} {xs : List α}, Kd.C d w A n xs → Kd.C d W A n xs
instance (priority := high) (W : World) : CIn W W := ⟨fun h => h⟩
instance (w W : World) [s : CIn w W] (o : Obj) : CIn w (W.alloc o) := ⟨fun h => Kd.C_alloc (s.c h) o⟩
instance (w W : World) [s : CIn w W] (n : Nat) : CIn w (W.drewN n) := ⟨fun h => Kd.C_drewN (s.c h) n⟩
instance (w W : World) [s : CIn w W] : CIn w W.drew := ⟨fun h => Kd.C_drew (s.c h)⟩
theorem cq {w W : World} [s : CIn w W] {α : Type} {d : Kd α} {A : Option Addr} {n : Nat} {xs : List α} (h : Kd.C d w A n xs) : Kd.C d W A n xs := s.c h
attribute [class] Aside0
class BelIn (b : Nat) (W0 W : World) : Prop where
  go : ∀ w : World, b = w.heap.size → Below b w W0 → Below b w W
instance (priority := high) (b : Nat) (W : World) : BelIn b W W := ⟨fun _ _ h => h⟩
instance (b : Nat) (W0 W : World) [s : BelIn b W0 W] (o : Obj) : BelIn b W0 (W.alloc o) := ⟨fun w e h => by have := s.go w e h; subst e; exact below_alloc this o⟩
instance (b : Nat) (W0 W : World) [s : BelIn b W0 W] (n : Nat) : BelIn b W0 (W.drewN n) := ⟨fun w e h => pw_below_drewN (s.go w e h) n⟩
instance (b : Nat) (W0 W : World) [s : BelIn b W0 W] : BelIn b W0 W.drew := ⟨fun w e h => below_drew1 (s.go w e h)⟩
instance (b : Nat) (W0 W : World) [s : BelIn b W0 W] (g j : Nat) (v : Value) [k : Aside0 (b ≤ g)] : BelIn b W0 (W.setCell ⟨g, j, none⟩ v) := ⟨fun w e h => by have := s.go w e h; subst e; exact below_set this k.out⟩
theorem wq {w W0 W : World} [s : BelIn w.heap.size W0 W] (h : Below w.heap.size w W0) : Below w.heap.size w W := s.go w rfl h
theorem apz : (∀ (a : Act) (d : Tmp) (v : Value), a.put (some d) v = { a with tmps := a.tmps.setIfInBounds d v }) ∧ (∀ (a : Act) (v : Value), a.put none v = a) ∧
    (∀ (l : List Value) (i : Nat) (v : Value), l.toArray.setIfInBounds i v = (l.set i v).toArray) ∧ (∀ (x : Value) (l : List Value) (v : Value), (x :: l).set 0 v = v :: l) ∧
    (∀ (x : Value) (l : List Value) (i : Nat) (v : Value), (x :: l).set (i + 1) v = x :: l.set i v) :=
  ⟨fun _ _ _ => rfl, fun _ _ => rfl, fun l i v => List.setIfInBounds_toArray l i v, fun _ _ _ => rfl, fun _ _ _ _ => rfl⟩
@[reducible] def bt (a b : Nat) : Array Bool := ⟨List.replicate a true ++ List.replicate b false⟩
@[reducible] def bm (n k : Nat) : Array Bool := ⟨(List.range n).map fun i => k.testBit i⟩
theorem cf {W : World} {g i : Nat} {a : Addr} {u : Value} {x : Option Value} (h : a.block ≠ g) (e : W.cell? a = x) : (W.setCell ⟨g, i, none⟩ u).cell? a = x := (cell_far (p := ⟨g, i, none⟩) h u).trans e
end Go.Proofs.YtbnjgaeeojcjbaaDoor
namespace Go.Proofs.YtbnjgaeeojcjbaaDoor
open Go.RowKit Go.Proofs.YtbnjgaeeojcjbaaDoorW.PrintWords
structure Gl (w : World) : Prop where
  c0_0 : w.cell? ⟨0, 0, none⟩ = some (.int .u64 0)
  c0_1 : w.cell? ⟨0, 1, none⟩ = some (.int .u64 0)
theorem Gl.below {w w' : World} (h : Gl w) (hb : Below w.heap.size w w') : Gl w' :=
  ⟨(hb.cell (World.block_lt_of_cell? _ _ h.1)).trans h.1, (hb.cell (World.block_lt_of_cell? _ _ h.2)).trans h.2⟩
theorem Gl.drawn {w w' : World} (h : Gl w) (hd : Drawn0 w w') : Gl w' := h.below hd.below
end Go.Proofs.YtbnjgaeeojcjbaaDoor
namespace Go.Proofs.YtbnjgaeeojcjbaaDoor.PR
open Go.RowKit Go.Proofs.YtbnjgaeeojcjbaaDoorW.PrintWords Go.Proofs.YtbnjgaeeojcjbaaDoorW.PrintLast Go.Proofs.YtbnjgaeeojcjbaaDoorW.PrintMore
attribute [local go_sem] max2_int min2_int max_two min_two max_three min_three max_four min_four
set_option linter.unusedVariables false
set_option linter.unusedSimpArgs false
def errW : Option Int → Value
  | none => .nilIface
  | some c => .iface 0 (.int .i64 c)
theorem errW_none : errW none = .nilIface := rfl
theorem errW_some (c : Int) : errW (some c) = .iface 0 (.int .i64 c) := rfl
theorem info3 : (Tryd.prog.info? 3).map (fun i => (i.zero, i.size, i.bytes)) = some (some (.int .i64 0), 1, 8) := by kernel_rfl
theorem info25 : (Tryd.prog.info? 25).map (fun i => (i.zero, i.size, i.bytes)) = some (some (.agg #[(.int .i64 0), (.int .i64 0)]), 2, 16) := by kernel_rfl
structure S25 where
  f0 : Int
  f1 : Int
def z25 : S25 := ⟨(0 : Int), (0 : Int)⟩
def k25 : Kd S25 := Kd.iso (Kd.pair (Kd.int .i64) (Kd.int .i64)) (fun x : S25 => (x.f0, x.f1))
theorem k25_open {w : World} {x : S25} {cs : List Value} (h : k25.K w x cs) : cs = [.int .i64 x.f0, .int .i64 x.f1] := by
  obtain ⟨_, _, rfl, rfl, rfl⟩ := h
  exact rfl
theorem k25_mk (w : World) (x : S25)  : k25.K w x [.int .i64 x.f0, .int .i64 x.f1] := ⟨[.int .i64 x.f0], [.int .i64 x.f1], rfl, rfl, rfl⟩
theorem k25_mkM (w : World) (base : Nat) (ok : Nat → Prop) (x : S25)  : k25.M w base ok x [.int .i64 x.f0, .int .i64 x.f1] := ⟨[.int .i64 x.f0], [.int .i64 x.f1], rfl, rfl, rfl⟩
def rd_T25 (xs : List S25) (i : Int) : S25 := xs.getD i.toNat z25
theorem at_T25 {w : World} {A : Option Addr} {n : Nat} {xs : List S25} (h : Kd.C k25 w A n xs) (i : Int) (h0 : 0 ≤ i) (h1 : i < n) : ∃ ad , A = some ad ∧ w.cell? (ad.add (i.toNat * 2)) = some (.int .i64 (rd_T25 xs i).f0) ∧ w.cell? ⟨(ad.add (i.toNat * 2)).block, (ad.add (i.toNat * 2)).off + 1, none⟩ = some (.int .i64 (rd_T25 xs i).f1) := by
  obtain ⟨ad, c, e, _, hK, hc0⟩ := Kd.C_get h z25 i h0 h1
  have hc : ∀ j u, c[j]? = some u → w.cell? (ad.add (i.toNat * 2 + j)) = some u := hc0
  obtain rfl := k25_open hK
  exact ⟨ad, e, hc 0 _ rfl, by rw [← add_field _ _ 1 (by omega)]; exact hc 1 _ rfl⟩
end Go.Proofs.YtbnjgaeeojcjbaaDoor.PR
namespace Go.Proofs.YtbnjgaeeojcjbaaDoor.PR
open Go.RowKit Go.Proofs.YtbnjgaeeojcjbaaDoorW.PrintWords Go.Proofs.YtbnjgaeeojcjbaaDoorW.PrintLast Go.Proofs.YtbnjgaeeojcjbaaDoorW.PrintMore
attribute [local go_sem] max2_int min2_int max_two min_two max_three min_three max_four min_four
set_option linter.unusedVariables false
set_option linter.unusedSimpArgs false
theorem eqA69 (d : Nat) (w : World) (x0 y0 : Int) (x1 y1 : Int) :
    (Op.equalIn (d + 2) 69 (.agg #[.int .u64 x0, .int .u64 x1]) (.agg #[.int .u64 y0, .int .u64 y1])).run Tryd.prog w = .ok (x0 == y0 && (x1 == y1)) w := by
  refine eqA_of Tryd.underlying69 (by kernel_rfl) ?_
  refine eqf_cons (by rfl) (by go_simp; rfl) (by go_simp; rfl) (by go_simp) ?_
  exact eqf_last (by rfl) (by go_simp; rfl) (by go_simp; rfl) (by go_simp)
end Go.Proofs.YtbnjgaeeojcjbaaDoor.PR
namespace Go.Proofs.YtbnjgaeeojcjbaaDoor.PR
open Go.RowKit Go.Proofs.YtbnjgaeeojcjbaaDoorW.PrintWords Go.Proofs.YtbnjgaeeojcjbaaDoorW.PrintLast Go.Proofs.YtbnjgaeeojcjbaaDoorW.PrintMore
attribute [local go_sem] max2_int min2_int max_two min_two max_three min_three max_four min_four
set_option linter.unusedVariables false
set_option linter.unusedSimpArgs false
attribute [local go_sem high] eqA69
def wide_Within.l0 : Nat → Int → List Int → Int → Int → Option (Bool)
 | 0, _, _, _, _ => none
 | k + 1, x0, x7, x8, x9 => if x9 < x8 then (if 0 ≤ x9 then (if x9 < (x7.length : Int) then (if x0 ≤ 0 then (some false) else (if (rd x7 x9) ≥ x0 then (some false) else (if (rd x7 x9) ≤ (wrap64 (-x0)) then (some false) else (wide_Within.l0 k x0 x7 x8 (wrap64 (x9 + 1)))))) else (none)) else (none)) else (some true)
def wide_Within.f (k : Nat) (a0 : Int) (l1 : List Int) : Option (Bool) := wide_Within.l0 k a0 l1 (l1.length : Int) 0
theorem wide_Within.mono_l : ∀ k, (∀ y0 y1 y2 y3, LeO (wide_Within.l0 k y0 y1 y2 y3) (wide_Within.l0 (k + 1) y0 y1 y2 y3))
 | 0 => fun _ _ _ _ r h => by simp [wide_Within.l0] at h
 | k + 1 => by
  have ih0 := wide_Within.mono_l k
  ·
   intro y0 y1 y2 y3
   unfold wide_Within.l0
   repeat' first
   | (with_reducible exact ih0 _ _ _ _)
   | (with_reducible exact LeO.refl _)
   | (with_reducible exact LeO.none _)
   | (with_reducible refine LeO.ite ?_ ?_)
   | (with_reducible refine LeO.bind ?_ (fun _ => ?_))
   | exact ih0 _ _ _ _
   | exact LeO.none _
   | refine LeO.ite ?_ ?_
   | refine LeO.bind ?_ (fun _ => ?_)
theorem wide_Within.mono : ∀ a0 a1 k, LeO (wide_Within.f k a0 a1) (wide_Within.f (k + 1) a0 a1) := by
 intro a0 a1 k
 have ih0 := wide_Within.mono_l k
 unfold wide_Within.f
 repeat' first
   | (with_reducible exact ih0 _ _ _ _)
   | (with_reducible exact LeO.refl _)
   | (with_reducible exact LeO.none _)
   | (with_reducible refine LeO.ite ?_ ?_)
   | (with_reducible refine LeO.bind ?_ (fun _ => ?_))
   | exact ih0 _ _ _ _
   | exact LeO.none _
   | refine LeO.ite ?_ ?_
   | refine LeO.bind ?_ (fun _ => ?_)
set_option maxHeartbeats 8000000 in
set_option maxRecDepth 100000 in
theorem wide_Within.calls (k : Nat) (a0 : Int) (A1 : Option Addr) (c1 : Nat) (l1 : List Int) (r : Bool) (w : World) (hr1 : Kd.C (Kd.int .i64) w A1 l1.length l1) (hc1 : l1.length ≤ c1) (h : wide_Within.f k a0 l1 = some r) :
  Calls Tryd.prog 23 #[.int .i64 a0, .slice A1 l1.length c1] w fun e w' => e = .returned (.bool r) ∧ Drawn0 w w' := by
 have HR1 := Aside0.mk hr1
 have HC1 := Aside0.mk hc1
 clear hr1 hc1
 have H : (wide_Within.l0 k a0 l1 (l1.length : Int) 0) = some r := h
 clear h
 have H' := Aside0.mk H
 clear H
 go_enter Tryd.func23, Tryd.ntmps23
 go_wp2
 go_loopg [9] k (fun kq v9 w' => ∃ (x9_1 : Int), v9 = .int .i64 x9_1 ∧ Aside0 (wide_Within.l0 kq a0 l1 (l1.length : Int) x9_1 = some r) ∧ Aside0 (kq ≤ k) ∧ Drawn0 w w')
 case atStart => exact ⟨(0), (by first | rfl | (simp; done) | (simp [*]; done)), H', ⟨Nat.le_refl _⟩, by repeat (first | exact Drawn0.refl _ | apply Drawn0.step)⟩
 case round =>
  clear H'
  try clear c1
  try clear c2
  try clear p2
  obtain ⟨x9_1, rfl, HA, HK1, ⟨m1, rfl⟩⟩ := hrel
  cases gk with
  | zero => exact absurd HA.out (by simp [wide_Within.l0])
  | succ k1 =>
   have H := HA.out
   clear HA
   simp only [wide_Within.l0] at H
   by_cases c3 : x9_1 < (l1.length : Int)
   ·
    rw [if_pos c3] at H
    have c3b0 : decide (x9_1 < (l1.length : Int)) = true := decide_eq_true c3
    clear c3
    by_cases c4 : 0 ≤ x9_1
    ·
     rw [if_pos c4] at H
     have c4b0 : decide (0 ≤ x9_1) = true := decide_eq_true c4
     clear c4
     by_cases c5 : x9_1 < (l1.length : Int)
     ·
      rw [if_pos c5] at H
      have c5b0 : decide (x9_1 < (l1.length : Int)) = true := decide_eq_true c5
      clear c5
      by_cases c6 : a0 ≤ 0
      ·
       rw [if_pos c6] at H
       have c6b0 : decide (a0 ≤ 0) = true := decide_eq_true c6
       clear c6
       obtain rfl := Option.some.inj H
       have p101 : 0 ≤ (x9_1 : Int) := of_decide_eq_true (by first | (with_reducible assumption) | assumption)
       have q101 : x9_1 < (l1.length : Int) := of_decide_eq_true (by first | (with_reducible assumption) | assumption)
       obtain ⟨ad101, e101, hx101_0⟩ := Kd.at_int HR1.out x9_1 p101 q101
       cases e101
       replace p101 := eq_true p101
       replace q101 := eq_true q101
       go_wp2
       go_ret
       exact ⟨by first | rfl | (simp; done) | (simp [*]; done), by repeat (first | exact Drawn0.refl _ | apply Drawn0.step)⟩
      ·
       rw [if_neg c6] at H
       have c6b0 : decide (a0 ≤ 0) = false := decide_eq_false c6
       clear c6
       by_cases c7 : (rd l1 x9_1) ≥ a0
       ·
        rw [if_pos c7] at H
        have c7b0 : decide (a0 ≤ (rd l1 x9_1)) = true := decide_eq_true c7
        clear c7
        obtain rfl := Option.some.inj H
        have p101 : 0 ≤ (x9_1 : Int) := of_decide_eq_true (by first | (with_reducible assumption) | assumption)
        have q101 : x9_1 < (l1.length : Int) := of_decide_eq_true (by first | (with_reducible assumption) | assumption)
        obtain ⟨ad101, e101, hx101_0⟩ := Kd.at_int HR1.out x9_1 p101 q101
        cases e101
        replace p101 := eq_true p101
        replace q101 := eq_true q101
        go_wp2
        go_ret
        exact ⟨by first | rfl | (simp; done) | (simp [*]; done), by repeat (first | exact Drawn0.refl _ | apply Drawn0.step)⟩
       ·
        rw [if_neg c7] at H
        have c7b0 : decide (a0 ≤ (rd l1 x9_1)) = false := decide_eq_false c7
        clear c7
        by_cases c8 : (rd l1 x9_1) ≤ (wrap64 (-a0))
        ·
         rw [if_pos c8] at H
         have c8b0 : decide ((rd l1 x9_1) ≤ (wrap64 (-a0))) = true := decide_eq_true c8
         clear c8
         obtain rfl := Option.some.inj H
         have p101 : 0 ≤ (x9_1 : Int) := of_decide_eq_true (by first | (with_reducible assumption) | assumption)
         have q101 : x9_1 < (l1.length : Int) := of_decide_eq_true (by first | (with_reducible assumption) | assumption)
         obtain ⟨ad101, e101, hx101_0⟩ := Kd.at_int HR1.out x9_1 p101 q101
         cases e101
         replace p101 := eq_true p101
         replace q101 := eq_true q101
         go_wp2
         go_ret
         exact ⟨by first | rfl | (simp; done) | (simp [*]; done), by repeat (first | exact Drawn0.refl _ | apply Drawn0.step)⟩
        ·
         rw [if_neg c8] at H
         have c8b0 : decide ((rd l1 x9_1) ≤ (wrap64 (-a0))) = false := decide_eq_false c8
         clear c8
         have H' := Aside0.mk H
         clear H
         have p101 : 0 ≤ (x9_1 : Int) := of_decide_eq_true (by first | (with_reducible assumption) | assumption)
         have q101 : x9_1 < (l1.length : Int) := of_decide_eq_true (by first | (with_reducible assumption) | assumption)
         obtain ⟨ad101, e101, hx101_0⟩ := Kd.at_int HR1.out x9_1 p101 q101
         cases e101
         replace p101 := eq_true p101
         replace q101 := eq_true q101
         go_wp2
         go_roundg k1
         case measure => have := HK1.out; omega
         case rel => exact ⟨(wrap64 (x9_1 + 1)), (by first | rfl | (simp; done) | (simp [*]; done)), H', ⟨by have := HK1.out; omega⟩, by repeat (first | exact Drawn0.refl _ | apply Drawn0.step)⟩
     ·
      rw [if_neg c5] at H
      exact absurd H (by simp)
    ·
     rw [if_neg c4] at H
     exact absurd H (by simp)
   ·
    rw [if_neg c3] at H
    have c3b0 : decide (x9_1 < (l1.length : Int)) = false := decide_eq_false c3
    clear c3
    obtain rfl := Option.some.inj H
    go_wp2
    go_ret
    exact ⟨by first | rfl | (simp; done) | (simp [*]; done), by repeat (first | exact Drawn0.refl _ | apply Drawn0.step)⟩
def affine_Right.f (k : Nat) (a0_0 : Int) (a0_1 : Int) (a0_2 : Int) (a0_3 : Int) (a0_4 : Int) (a0_5 : Int) : Option (Bool) := (wide_Within.f k 4294967296 (([a0_0, a0_1, a0_2, a0_3, a0_4, a0_5] : List Int))).bind fun t106 => (some t106)
theorem affine_Right.mono : ∀ a0 a1 a2 a3 a4 a5 k, LeO (affine_Right.f k a0 a1 a2 a3 a4 a5) (affine_Right.f (k + 1) a0 a1 a2 a3 a4 a5) := by
 intro a0 a1 a2 a3 a4 a5 k
 unfold affine_Right.f
 repeat' first
   | (with_reducible exact wide_Within.mono _ _ _)
   | (with_reducible exact LeO.refl _)
   | (with_reducible exact LeO.none _)
   | (with_reducible refine LeO.ite ?_ ?_)
   | (with_reducible refine LeO.bind ?_ (fun _ => ?_))
   | exact wide_Within.mono _ _ _
   | exact LeO.none _
   | refine LeO.ite ?_ ?_
   | refine LeO.bind ?_ (fun _ => ?_)
set_option maxHeartbeats 8000000 in
set_option maxRecDepth 100000 in
theorem affine_Right.calls (k : Nat) (a0_0 : Int) (a0_1 : Int) (a0_2 : Int) (a0_3 : Int) (a0_4 : Int) (a0_5 : Int) (r : Bool) (w : World) (h : affine_Right.f k a0_0 a0_1 a0_2 a0_3 a0_4 a0_5 = some r) :
  Calls Tryd.prog 12 #[.agg #[.int .i64 a0_0, .int .i64 a0_1, .int .i64 a0_2, .int .i64 a0_3, .int .i64 a0_4, .int .i64 a0_5]] w fun e w' => e = .returned (.bool r) ∧ Below w.heap.size w w' := by
 have hu23 := Tryd.underlying23
 have HB := Aside0.mk (Below.refl w.heap.size w)
 have H : ((wide_Within.f k 4294967296 (([a0_0, a0_1, a0_2, a0_3, a0_4, a0_5] : List Int))).bind fun t106 => (some t106)) = some r := h
 clear h
 obtain ⟨y103, hy103⟩ : ∃ y_ : List Int, y_ = (([a0_0, a0_1, a0_2, a0_3, a0_4, a0_5] : List Int)) := ⟨_, rfl⟩
 replace H : ((wide_Within.f k 4294967296 y103).bind fun t106 => (some t106)) = some r := by first | (rw [hy103]; with_reducible exact H) | (have H2_ := (Option.bind_some _ _).symm.trans H; rw [hy103]; with_reducible exact H2_) | (have H2_ := (Option.bind_some _ _).symm.trans H; with_reducible exact H2_) | with_reducible exact H | (rw [hy103]; exact H) | exact H
 have Ny103 := Aside0.mk hy103
 clear hy103
 replace H := Option.bind_eq_some_iff.mp H
 obtain ⟨t106, A20, H⟩ := H
 replace H : (some t106) = some r := H
 have A2 := Aside0.mk A20
 clear A20
 obtain rfl := Option.some.inj H
 go_enter Tryd.func12, Tryd.ntmps12
 go_wp2_with (first | ((with_reducible refine gate_dst (N := 1) rfl ?_); refine box_event ?hg (N := 1) ?hd (cs := #[.int .i64 a0_0, .int .i64 a0_1, .int .i64 a0_2, .int .i64 a0_3, .int .i64 a0_4, .int .i64 a0_5]) (t := 23) ?hr ?_; (case hd => rfl); (case hg => rfl); (case hr => first | (go_simp; done) | (go_simp; rfl)); intro gb102 hg w3 hbox hb; have n0_ := Aside0.mk (below_step (wq HB.out) hb); have n1_ := Aside0.mk (hbox); have n2_ := Aside0.mk ((by rw [hg]; exact (below_size (wq HB.out)) : w.heap.size ≤ gb102)); have n3_ := n2_; clear HB; have HB := n0_; have BK102 := n1_; have GW102 := n2_; have GE102 := n3_; clear n0_ n1_ n2_ n3_ hb hbox hg; have hcz4_0 : w3.cell? ⟨gb102, 0, none⟩ = some (.int .i64 a0_0) := (blk_cell BK102.out 0).trans rfl; have hcz4_1 : w3.cell? ⟨gb102, 1, none⟩ = some (.int .i64 a0_1) := (blk_cell BK102.out 1).trans rfl; have hcz4_2 : w3.cell? ⟨gb102, 2, none⟩ = some (.int .i64 a0_2) := (blk_cell BK102.out 2).trans rfl; have hcz4_3 : w3.cell? ⟨gb102, 3, none⟩ = some (.int .i64 a0_3) := (blk_cell BK102.out 3).trans rfl; have hcz4_4 : w3.cell? ⟨gb102, 4, none⟩ = some (.int .i64 a0_4) := (blk_cell BK102.out 4).trans rfl; have hcz4_5 : w3.cell? ⟨gb102, 5, none⟩ = some (.int .i64 a0_5) := (blk_cell BK102.out 5).trans rfl; have hfz4_0 := blk_frozen BK102.out 0; have hfz4_1 := blk_frozen BK102.out 1; have hfz4_2 := blk_frozen BK102.out 2; have hfz4_3 := blk_frozen BK102.out 3; have hfz4_4 := blk_frozen BK102.out 4; have hfz4_5 := blk_frozen BK102.out 5) | ((with_reducible refine gate_dst (N := 15) rfl ?_); refine Kd.R_lit (Kd.int .i64) _ 2 ?hg (N := 15) ?hd (xs := ([a0_0, a0_1, a0_2, a0_3, a0_4, a0_5] : List Int)) (inner := [.int .i64 a0_0, .int .i64 a0_1, .int .i64 a0_2, .int .i64 a0_3, .int .i64 a0_4, .int .i64 a0_5]) (ok := fun _ => True) (okp := fun _ => True) ?hr ?hp (fun _ hk => hk) trivial (Below.refl _ _) (Nat.le_refl _) (by simp) ?_; (case hd => rfl); (case hg => rfl); (case hr => first | (go_simp; done) | (go_simp; rfl)); (case hp => exact (Reps.one (show Kd.M (Kd.int .i64) _ _ _ a0_0 [.int .i64 a0_0] from rfl) (Reps.one (show Kd.M (Kd.int .i64) _ _ _ a0_1 [.int .i64 a0_1] from rfl) (Reps.one (show Kd.M (Kd.int .i64) _ _ _ a0_2 [.int .i64 a0_2] from rfl) (Reps.one (show Kd.M (Kd.int .i64) _ _ _ a0_3 [.int .i64 a0_3] from rfl) (Reps.one (show Kd.M (Kd.int .i64) _ _ _ a0_4 [.int .i64 a0_4] from rfl) (Reps.one (show Kd.M (Kd.int .i64) _ _ _ a0_5 [.int .i64 a0_5] from rfl) (Reps.none _ _)))))))); intro v104 w5 ho6 hb hg_ hnew_; clear hg_ hnew_; (first | rw [← Ny103.out] at ho6 | (simp only [Int.reduceToNat] at ho6; rw [← Ny103.out] at ho6)); have n0_ := Aside0.mk (Kd.R_lower ho6 (below_size (wq HB.out))); have n1_ := Aside0.mk (blk_below (bq BK102.out) hb); have n2_ := Aside0.mk (below_step (wq HB.out) hb); clear BK102 HB; have HO105 := n0_; have BK102 := n1_; have HB := n2_; clear n0_ n1_ n2_ hb ho6; obtain ⟨Ao7, co7, eo7⟩ := Kd.R_slice HO105.out; subst eo7) | ((with_reducible refine gate_callee (f := 23) rfl ?_); refine goesL_ (some 16) rfl rfl Tryd.func23 (by kernel_rfl) rfl #[.int .i64 4294967296, .slice Ao7 y103.length co7] rfl (by (try simp only [List.map_toArray, List.map_cons, List.map_nil]); first | done | rfl | (simp only [List.length_drop, List.length_take]; rfl)) ?_; (with_reducible refine (wide_Within.calls k 4294967296 _ _ y103 t106 _ ?side1 ?side2 A2.out).mono ?_); (case side1 => exact cq (Kd.R_reads' HO105.out).2.2); (case side2 => exact (Kd.R_reads' HO105.out).2.1); rintro e w' ⟨rfl, ⟨nd, rfl⟩⟩; refine ⟨_, rfl, ?_⟩))
 go_ret
 exact ⟨by first | rfl | (simp [errW_none, errW_some] <;> rfl) | (simp [*, errW_none, errW_some] <;> rfl), by exact wq HB.out⟩
def errP (c : Int) : List PanicEntry := [{ v := .iface 27 (.int .i64 c), recovered := false }]
theorem must_ok (c : Int) (w : World) : Calls Tryd.prog 25 #[.bool true, .int .i64 c] w fun e w' => e = .returned (.tuple #[]) ∧ w = w' := by
 go_enter Tryd.func25, Tryd.ntmps25
 go_wp2
 go_end0
 exact ⟨rfl, rfl⟩
theorem must_no (c : Int) (w : World) : Calls Tryd.prog 25 #[.bool false, .int .i64 c] w fun e w' => e = .panicked (errP c) ∧ w = w' := by
 go_enter Tryd.func25, Tryd.ntmps25
 go_wp2
 exact ⟨rfl, rfl, rfl⟩
def affine_must.f (b : Bool) (_ : Int) : Option Unit := if b = true then some () else none
theorem affine_must.calls (b : Bool) (c : Int) (w : World) (h : affine_must.f b c = some ()) :
  Calls Tryd.prog 25 #[.bool b, .int .i64 c] w fun e w' => e = .returned (.tuple #[]) ∧ Drawn0 w w' := by
 cases b
 ·
  simp [affine_must.f] at h
 ·
  exact (must_ok c w).mono fun e w' ⟨he, hw⟩ => ⟨he, hw ▸ Drawn0.refl _⟩
def wide_of.f (a0 : Int) : Option (Int × Int) := some (IntKind.u64.wrap (a0 / 9223372036854775808), IntKind.u64.wrap (a0))
set_option maxHeartbeats 8000000 in
set_option maxRecDepth 100000 in
theorem wide_of.calls (a0 : Int) (r1 : Int) (r2 : Int) (w : World) (h : wide_of.f a0 = some (r1, r2)) :
  Calls Tryd.prog 41 #[.int .i64 a0] w fun e w' => e = .returned (.agg #[.int .u64 r1, .int .u64 r2]) ∧ Below w.heap.size w w' := by
 have hu69 := Tryd.underlying69
 have HB := Aside0.mk (Below.refl w.heap.size w)
 have H : (some (IntKind.u64.wrap (a0 / 9223372036854775808), IntKind.u64.wrap (a0))) = some (r1, r2) := h
 clear h
 simp only [Option.some.injEq, Prod.mk.injEq] at H
 obtain ⟨rfl, rfl⟩ := H
 go_enter Tryd.func41, Tryd.ntmps41
 go_wp2_with (first | ((with_reducible refine gate_dst (N := 2) rfl ?_); refine box_event ?hg (N := 2) ?hd (cs := #[.int .u64 0, .int .u64 0]) (t := 69) ?hr ?_; (case hd => rfl); (case hg => rfl); (case hr => first | (go_simp; done) | (go_simp; rfl)); intro gb107 hg w2 hbox hb; have n0_ := Aside0.mk (below_step (wq HB.out) hb); have n1_ := Aside0.mk (hbox); have n2_ := Aside0.mk ((by rw [hg]; exact (below_size (wq HB.out)) : w.heap.size ≤ gb107)); have n3_ := n2_; clear HB; have HB := n0_; have BK107 := n1_; have GW107 := n2_; have GE107 := n3_; clear n0_ n1_ n2_ n3_ hb hbox hg; have hcz3_0 : w2.cell? ⟨gb107, 0, none⟩ = some (.int .u64 0) := (blk_cell BK107.out 0).trans rfl; have hcz3_1 : w2.cell? ⟨gb107, 1, none⟩ = some (.int .u64 0) := (blk_cell BK107.out 1).trans rfl; have hfz3_0 := blk_frozen BK107.out 0; have hfz3_1 := blk_frozen BK107.out 1))
 refine bodyPost_ret (results_cell_row rfl _ _ gb107 69 #[.int .u64 (IntKind.u64.wrap (a0 / 9223372036854775808)), .int .u64 (IntKind.u64.wrap (a0))] (0, 0) _ rfl (by refine bq ?_; refine blk_put (cs := #[.int .u64 (IntKind.u64.wrap (a0 / 9223372036854775808)), .int .u64 0]) ?_ 1 _ rfl; refine bq ?_; refine blk_put (cs := #[.int .u64 0, .int .u64 0]) ?_ 0 _ rfl; refine bq ?_; exact BK107.out) Tryd.underlying69 rfl (by kernel_rfl)) rfl ?_
 exact ⟨by first | rfl | (simp [errW_none, errW_some] <;> rfl) | (simp [*, errW_none, errW_some] <;> rfl), by exact wq HB.out⟩
def wide_big_add.f (a0_0 : Int) (a0_1 : Int) (a1_0 : Int) (a1_1 : Int) : Option (Int × Int) := if 0 ≤ a0_1 then (if 0 ≤ a1_1 then (if 0 ≤ a0_0 then (if 0 ≤ a1_0 then (if 0 ≤ (add64_hi a0_1 a1_1 0) then (if (add64_hi a0_1 a1_1 0) ≤ 1 then (some (add64_lo a0_0 a1_0 (add64_hi a0_1 a1_1 0), add64_lo a0_1 a1_1 0)) else (none)) else (none)) else (none)) else (none)) else (none)) else (none)
set_option maxHeartbeats 8000000 in
set_option maxRecDepth 100000 in
theorem wide_big_add.calls (a0_0 : Int) (a0_1 : Int) (a1_0 : Int) (a1_1 : Int) (r1 : Int) (r2 : Int) (w : World) (h : wide_big_add.f a0_0 a0_1 a1_0 a1_1 = some (r1, r2)) :
  Calls Tryd.prog 38 #[.agg #[.int .u64 a0_0, .int .u64 a0_1], .agg #[.int .u64 a1_0, .int .u64 a1_1]] w fun e w' => e = .returned (.agg #[.int .u64 r1, .int .u64 r2]) ∧ Below w.heap.size w w' := by
 have hu69 := Tryd.underlying69
 have HB := Aside0.mk (Below.refl w.heap.size w)
 have H : (if 0 ≤ a0_1 then (if 0 ≤ a1_1 then (if 0 ≤ a0_0 then (if 0 ≤ a1_0 then (if 0 ≤ (add64_hi a0_1 a1_1 0) then (if (add64_hi a0_1 a1_1 0) ≤ 1 then (some (add64_lo a0_0 a1_0 (add64_hi a0_1 a1_1 0), add64_lo a0_1 a1_1 0)) else (none)) else (none)) else (none)) else (none)) else (none)) else (none)) = some (r1, r2) := h
 clear h
 by_cases c3 : 0 ≤ a0_1
 ·
  rw [if_pos c3] at H
  have c3b0 := eq_true c3
  have c3b1 : decide (0 ≤ a0_1) = true := decide_eq_true c3
  clear c3
  by_cases c4 : 0 ≤ a1_1
  ·
   rw [if_pos c4] at H
   have c4b0 := eq_true c4
   have c4b1 : decide (0 ≤ a1_1) = true := decide_eq_true c4
   clear c4
   have hxt111 := fun W => add64_run a0_1 a1_1 0 (of_decide_eq_true (by first | (with_reducible assumption) | assumption) : 0 ≤ a0_1) (of_decide_eq_true (by first | (with_reducible assumption) | assumption) : 0 ≤ a1_1) (by decide) (by decide) W
   by_cases c5 : 0 ≤ a0_0
   ·
    rw [if_pos c5] at H
    have c5b0 := eq_true c5
    have c5b1 : decide (0 ≤ a0_0) = true := decide_eq_true c5
    clear c5
    by_cases c6 : 0 ≤ a1_0
    ·
     rw [if_pos c6] at H
     have c6b0 := eq_true c6
     have c6b1 : decide (0 ≤ a1_0) = true := decide_eq_true c6
     clear c6
     by_cases c7 : 0 ≤ (add64_hi a0_1 a1_1 0)
     ·
      rw [if_pos c7] at H
      have c7b0 := eq_true c7
      have c7b1 : decide (0 ≤ (add64_hi a0_1 a1_1 0)) = true := decide_eq_true c7
      clear c7
      by_cases c8 : (add64_hi a0_1 a1_1 0) ≤ 1
      ·
       rw [if_pos c8] at H
       have c8b0 := eq_true c8
       have c8b1 : decide ((add64_hi a0_1 a1_1 0) ≤ 1) = true := decide_eq_true c8
       clear c8
       have hxt112 := fun W => add64_run a0_0 a1_0 (add64_hi a0_1 a1_1 0) (of_decide_eq_true (by first | (with_reducible assumption) | assumption) : 0 ≤ a0_0) (of_decide_eq_true (by first | (with_reducible assumption) | assumption) : 0 ≤ a1_0) (of_decide_eq_true (by first | (with_reducible assumption) | assumption) : 0 ≤ (add64_hi a0_1 a1_1 0)) (of_decide_eq_true (by first | (with_reducible assumption) | assumption) : (add64_hi a0_1 a1_1 0) ≤ 1) W
       simp only [Option.some.injEq, Prod.mk.injEq] at H
       obtain ⟨rfl, rfl⟩ := H
       go_enter Tryd.func38, Tryd.ntmps38
       go_wp2_with (first | ((with_reducible refine gate_dst (N := 2) rfl ?_); refine box_event ?hg (N := 2) ?hd (cs := #[.int .u64 a0_0, .int .u64 a0_1]) (t := 69) ?hr ?_; (case hd => rfl); (case hg => rfl); (case hr => first | (go_simp; done) | (go_simp; rfl)); intro gb108 hg w9 hbox hb; have n0_ := Aside0.mk (below_step (wq HB.out) hb); have n1_ := Aside0.mk (hbox); have n2_ := Aside0.mk ((by rw [hg]; exact (below_size (wq HB.out)) : w.heap.size ≤ gb108)); have n3_ := n2_; clear HB; have HB := n0_; have BK108 := n1_; have GW108 := n2_; have GE108 := n3_; clear n0_ n1_ n2_ n3_ hb hbox hg) | ((with_reducible refine gate_dst (N := 3) rfl ?_); refine box_event ?hg (N := 3) ?hd (cs := #[.int .u64 a1_0, .int .u64 a1_1]) (t := 69) ?hr ?_; (case hd => rfl); (case hg => rfl); (case hr => first | (go_simp; done) | (go_simp; rfl)); intro gb109 hg w10 hbox hb; have n0_ := Aside0.mk (blk_below (bq BK108.out) hb); have n1_ := Aside0.mk (below_step (wq HB.out) hb); have n2_ := Aside0.mk (hbox); have n3_ := Aside0.mk ((by rw [hg]; exact (below_size (wq HB.out)) : w.heap.size ≤ gb109)); have n4_ := n3_; have n5_ := Aside0.mk ((by rw [hg]; exact Nat.ne_of_lt (blk_lt (bq BK108.out)) : gb108 ≠ gb109)); have n6_ := Aside0.mk ((by rw [hg]; exact Nat.ne_of_gt (blk_lt (bq BK108.out)) : gb109 ≠ gb108)); clear BK108 HB; have BK108 := n0_; have HB := n1_; have BK109 := n2_; have GW109 := n3_; have GE109 := n4_; have NB108_109 := n5_; have NB109_108 := n6_; clear n0_ n1_ n2_ n3_ n4_ n5_ n6_ hb hbox hg) | ((with_reducible refine gate_dst (N := 4) rfl ?_); refine box_event ?hg (N := 4) ?hd (cs := #[.int .u64 0, .int .u64 0]) (t := 69) ?hr ?_; (case hd => rfl); (case hg => rfl); (case hr => first | (go_simp; done) | (go_simp; rfl)); intro gb110 hg w11 hbox hb; have n0_ := Aside0.mk (blk_below (bq BK108.out) hb); have n1_ := Aside0.mk (blk_below (bq BK109.out) hb); have n2_ := Aside0.mk (below_step (wq HB.out) hb); have n3_ := Aside0.mk (hbox); have n4_ := Aside0.mk ((by rw [hg]; exact (below_size (wq HB.out)) : w.heap.size ≤ gb110)); have n5_ := n4_; have n6_ := Aside0.mk ((by rw [hg]; exact Nat.ne_of_lt (blk_lt (bq BK108.out)) : gb108 ≠ gb110)); have n7_ := Aside0.mk ((by rw [hg]; exact Nat.ne_of_gt (blk_lt (bq BK108.out)) : gb110 ≠ gb108)); have n8_ := Aside0.mk ((by rw [hg]; exact Nat.ne_of_lt (blk_lt (bq BK109.out)) : gb109 ≠ gb110)); have n9_ := Aside0.mk ((by rw [hg]; exact Nat.ne_of_gt (blk_lt (bq BK109.out)) : gb110 ≠ gb109)); clear BK108 BK109 HB; have BK108 := n0_; have BK109 := n1_; have HB := n2_; have BK110 := n3_; have GW110 := n4_; have GE110 := n5_; have NB108_110 := n6_; have NB110_108 := n7_; have NB109_110 := n8_; have NB110_109 := n9_; clear n0_ n1_ n2_ n3_ n4_ n5_ n6_ n7_ n8_ n9_ hb hbox hg; have hnb12 := NB108_109.out; have hnc12 := NB109_108.out; have hnb13 := NB108_110.out; have hnc13 := NB110_108.out; have hcz14_0 : w11.cell? ⟨gb108, 0, none⟩ = some (.int .u64 a0_0) := (blk_cell BK108.out 0).trans rfl; have hcz14_1 : w11.cell? ⟨gb108, 1, none⟩ = some (.int .u64 a0_1) := (blk_cell BK108.out 1).trans rfl; have hfz14_0 := blk_frozen BK108.out 0; have hfz14_1 := blk_frozen BK108.out 1; have hnb15 := NB109_110.out; have hnc15 := NB110_109.out; have hcz16_0 : w11.cell? ⟨gb109, 0, none⟩ = some (.int .u64 a1_0) := (blk_cell BK109.out 0).trans rfl; have hcz16_1 : w11.cell? ⟨gb109, 1, none⟩ = some (.int .u64 a1_1) := (blk_cell BK109.out 1).trans rfl; have hfz16_0 := blk_frozen BK109.out 0; have hfz16_1 := blk_frozen BK109.out 1; have hcz17_0 : w11.cell? ⟨gb110, 0, none⟩ = some (.int .u64 0) := (blk_cell BK110.out 0).trans rfl; have hcz17_1 : w11.cell? ⟨gb110, 1, none⟩ = some (.int .u64 0) := (blk_cell BK110.out 1).trans rfl; have hfz17_0 := blk_frozen BK110.out 0; have hfz17_1 := blk_frozen BK110.out 1))
       refine bodyPost_ret (results_cell_row rfl _ _ gb110 69 #[.int .u64 (add64_lo a0_0 a1_0 (add64_hi a0_1 a1_1 0)), .int .u64 (add64_lo a0_1 a1_1 0)] (0, 0) _ rfl (by refine bq ?_; refine blk_put (cs := #[.int .u64 (add64_lo a0_0 a1_0 (add64_hi a0_1 a1_1 0)), .int .u64 0]) ?_ 1 _ rfl; refine bq ?_; refine blk_put (cs := #[.int .u64 0, .int .u64 0]) ?_ 0 _ rfl; refine bq ?_; exact BK110.out) Tryd.underlying69 rfl (by kernel_rfl)) rfl ?_
       exact ⟨by first | rfl | (simp [errW_none, errW_some] <;> rfl) | (simp [*, errW_none, errW_some] <;> rfl), by exact wq HB.out⟩
      ·
       rw [if_neg c8] at H
       exact absurd H (by simp)
     ·
      rw [if_neg c7] at H
      exact absurd H (by simp)
    ·
     rw [if_neg c6] at H
     exact absurd H (by simp)
   ·
    rw [if_neg c5] at H
    exact absurd H (by simp)
  ·
   rw [if_neg c4] at H
   exact absurd H (by simp)
 ·
  rw [if_neg c3] at H
  exact absurd H (by simp)
def wide_big_minus.f (a0_0 : Int) (a0_1 : Int) : Option (Int × Int) := (wide_big_add.f (Go.bits .xor .u64 IntKind.u64.max a0_0) (Go.bits .xor .u64 IntKind.u64.max a0_1) 0 1).bind fun bt115 => (some (bt115.1, bt115.2))
set_option maxHeartbeats 8000000 in
set_option maxRecDepth 100000 in
theorem wide_big_minus.calls (a0_0 : Int) (a0_1 : Int) (r1 : Int) (r2 : Int) (w : World) (h : wide_big_minus.f a0_0 a0_1 = some (r1, r2)) :
  Calls Tryd.prog 49 #[.agg #[.int .u64 a0_0, .int .u64 a0_1]] w fun e w' => e = .returned (.agg #[.int .u64 r1, .int .u64 r2]) ∧ Below w.heap.size w w' := by
 have hu69 := Tryd.underlying69
 have HB := Aside0.mk (Below.refl w.heap.size w)
 have H : ((wide_big_add.f (Go.bits .xor .u64 IntKind.u64.max a0_0) (Go.bits .xor .u64 IntKind.u64.max a0_1) 0 1).bind fun bt115 => (some (bt115.1, bt115.2))) = some (r1, r2) := h
 clear h
 have hsg_u64 := (rfl : IntKind.u64.signed = false)
 have hsg_u64 := (rfl : IntKind.u64.signed = false)
 replace H := Option.bind_eq_some_iff.mp H
 obtain ⟨⟨t115, t116⟩, A20, H⟩ := H
 replace H : (some (t115, t116)) = some (r1, r2) := H
 have A2 := Aside0.mk A20
 clear A20
 simp only [Option.some.injEq, Prod.mk.injEq] at H
 obtain ⟨rfl, rfl⟩ := H
 go_enter Tryd.func49, Tryd.ntmps49
 go_wp2_with (first | ((with_reducible refine gate_dst (N := 1) rfl ?_); refine box_event ?hg (N := 1) ?hd (cs := #[.int .u64 a0_0, .int .u64 a0_1]) (t := 69) ?hr ?_; (case hd => rfl); (case hg => rfl); (case hr => first | (go_simp; done) | (go_simp; rfl)); intro gb113 hg w3 hbox hb; have n0_ := Aside0.mk (below_step (wq HB.out) hb); have n1_ := Aside0.mk (hbox); have n2_ := Aside0.mk ((by rw [hg]; exact (below_size (wq HB.out)) : w.heap.size ≤ gb113)); have n3_ := n2_; clear HB; have HB := n0_; have BK113 := n1_; have GW113 := n2_; have GE113 := n3_; clear n0_ n1_ n2_ n3_ hb hbox hg) | ((with_reducible refine gate_dst (N := 2) rfl ?_); refine box_event ?hg (N := 2) ?hd (cs := #[.int .u64 0, .int .u64 0]) (t := 69) ?hr ?_; (case hd => rfl); (case hg => rfl); (case hr => first | (go_simp; done) | (go_simp; rfl)); intro gb114 hg w4 hbox hb; have n0_ := Aside0.mk (blk_below (bq BK113.out) hb); have n1_ := Aside0.mk (below_step (wq HB.out) hb); have n2_ := Aside0.mk (hbox); have n3_ := Aside0.mk ((by rw [hg]; exact (below_size (wq HB.out)) : w.heap.size ≤ gb114)); have n4_ := n3_; have n5_ := Aside0.mk ((by rw [hg]; exact Nat.ne_of_lt (blk_lt (bq BK113.out)) : gb113 ≠ gb114)); have n6_ := Aside0.mk ((by rw [hg]; exact Nat.ne_of_gt (blk_lt (bq BK113.out)) : gb114 ≠ gb113)); clear BK113 HB; have BK113 := n0_; have HB := n1_; have BK114 := n2_; have GW114 := n3_; have GE114 := n4_; have NB113_114 := n5_; have NB114_113 := n6_; clear n0_ n1_ n2_ n3_ n4_ n5_ n6_ hb hbox hg; have hnb5 := NB113_114.out; have hnc5 := NB114_113.out; have hcz6_0 : w4.cell? ⟨gb113, 0, none⟩ = some (.int .u64 a0_0) := (blk_cell BK113.out 0).trans rfl; have hcz6_1 : w4.cell? ⟨gb113, 1, none⟩ = some (.int .u64 a0_1) := (blk_cell BK113.out 1).trans rfl; have hfz6_0 := blk_frozen BK113.out 0; have hfz6_1 := blk_frozen BK113.out 1) | ((with_reducible refine gate_callee (f := 38) rfl ?_); refine goesL_ (some 11) rfl rfl Tryd.func38 (by kernel_rfl) rfl #[.agg #[.int .u64 (Go.bits .xor .u64 IntKind.u64.max a0_0), .int .u64 (Go.bits .xor .u64 IntKind.u64.max a0_1)], .agg #[.int .u64 0, .int .u64 1]] rfl (by (try simp only [List.map_toArray, List.map_cons, List.map_nil]); first | done | rfl | (simp only [List.length_drop, List.length_take]; rfl)) ?_; (with_reducible refine (wide_big_add.calls (Go.bits .xor .u64 IntKind.u64.max a0_0) (Go.bits .xor .u64 IntKind.u64.max a0_1) 0 1 t115 t116 _ A2.out).mono ?_); rintro e w7 ⟨rfl, hb⟩; refine ⟨_, rfl, ?_⟩; have n0_ := Aside0.mk (blk_below (bq BK113.out) hb); have n1_ := Aside0.mk (blk_below (bq BK114.out) hb); have n2_ := Aside0.mk (below_step (wq HB.out) hb); clear BK113 BK114 HB; have BK113 := n0_; have BK114 := n1_; have HB := n2_; clear n0_ n1_ n2_; (try clear hb); (try clear hb2); (try clear hk); (try clear hi); have hcz8_0 : w7.cell? ⟨gb114, 0, none⟩ = some (.int .u64 0) := (blk_cell BK114.out 0).trans rfl; have hcz8_1 : w7.cell? ⟨gb114, 1, none⟩ = some (.int .u64 0) := (blk_cell BK114.out 1).trans rfl; have hfz8_0 := blk_frozen BK114.out 0; have hfz8_1 := blk_frozen BK114.out 1))
 refine bodyPost_ret (results_cell_row rfl _ _ gb114 69 #[.int .u64 t115, .int .u64 t116] (0, 0) _ rfl (by refine bq ?_; refine blk_put (cs := #[.int .u64 t115, .int .u64 0]) ?_ 1 _ rfl; refine bq ?_; refine blk_put (cs := #[.int .u64 0, .int .u64 0]) ?_ 0 _ rfl; refine bq ?_; exact BK114.out) Tryd.underlying69 rfl (by kernel_rfl)) rfl ?_
 exact ⟨by first | rfl | (simp [errW_none, errW_some] <;> rfl) | (simp [*, errW_none, errW_some] <;> rfl), by exact wq HB.out⟩
def wide_big_below.f (a0_0 : Int) (a0_1 : Int) : Option (Bool) := some ((a0_0 / 9223372036854775808) == 1)
set_option maxHeartbeats 8000000 in
set_option maxRecDepth 100000 in
theorem wide_big_below.calls (a0_0 : Int) (a0_1 : Int) (r : Bool) (w : World) (h : wide_big_below.f a0_0 a0_1 = some r) :
  Calls Tryd.prog 52 #[.agg #[.int .u64 a0_0, .int .u64 a0_1]] w fun e w' => e = .returned (.bool r) ∧ Below w.heap.size w w' := by
 have hu69 := Tryd.underlying69
 have HB := Aside0.mk (Below.refl w.heap.size w)
 have H : (some ((a0_0 / 9223372036854775808) == 1)) = some r := h
 clear h
 obtain rfl := Option.some.inj H
 go_enter Tryd.func52, Tryd.ntmps52
 go_wp2_with (first | ((with_reducible refine gate_dst (N := 1) rfl ?_); refine box_event ?hg (N := 1) ?hd (cs := #[.int .u64 a0_0, .int .u64 a0_1]) (t := 69) ?hr ?_; (case hd => rfl); (case hg => rfl); (case hr => first | (go_simp; done) | (go_simp; rfl)); intro gb117 hg w2 hbox hb; have n0_ := Aside0.mk (below_step (wq HB.out) hb); have n1_ := Aside0.mk (hbox); have n2_ := Aside0.mk ((by rw [hg]; exact (below_size (wq HB.out)) : w.heap.size ≤ gb117)); have n3_ := n2_; clear HB; have HB := n0_; have BK117 := n1_; have GW117 := n2_; have GE117 := n3_; clear n0_ n1_ n2_ n3_ hb hbox hg; have hcz3_0 : w2.cell? ⟨gb117, 0, none⟩ = some (.int .u64 a0_0) := (blk_cell BK117.out 0).trans rfl; have hcz3_1 : w2.cell? ⟨gb117, 1, none⟩ = some (.int .u64 a0_1) := (blk_cell BK117.out 1).trans rfl; have hfz3_0 := blk_frozen BK117.out 0; have hfz3_1 := blk_frozen BK117.out 1))
 go_ret
 exact ⟨by first | rfl | (simp [errW_none, errW_some] <;> rfl) | (simp [*, errW_none, errW_some] <;> rfl), by exact wq HB.out⟩
def wide_big_size.f (a0_0 : Int) (a0_1 : Int) : Option (Int × Int) := (wide_big_below.f a0_0 a0_1).bind fun t120 => (if t120 = true then ((wide_big_minus.f a0_0 a0_1).bind fun bt121 => (some (bt121.1, bt121.2))) else (some (a0_0, a0_1)))
set_option maxHeartbeats 8000000 in
set_option maxRecDepth 100000 in
theorem wide_big_size.calls (a0_0 : Int) (a0_1 : Int) (r1 : Int) (r2 : Int) (w : World) (h : wide_big_size.f a0_0 a0_1 = some (r1, r2)) :
  Calls Tryd.prog 47 #[.agg #[.int .u64 a0_0, .int .u64 a0_1]] w fun e w' => e = .returned (.agg #[.int .u64 r1, .int .u64 r2]) ∧ Below w.heap.size w w' := by
 have hu69 := Tryd.underlying69
 have HB := Aside0.mk (Below.refl w.heap.size w)
 have H : ((wide_big_below.f a0_0 a0_1).bind fun t120 => (if t120 = true then ((wide_big_minus.f a0_0 a0_1).bind fun bt121 => (some (bt121.1, bt121.2))) else (some (a0_0, a0_1)))) = some (r1, r2) := h
 clear h
 replace H := Option.bind_eq_some_iff.mp H
 obtain ⟨t120, A20, H⟩ := H
 replace H : (if t120 = true then ((wide_big_minus.f a0_0 a0_1).bind fun bt121 => (some (bt121.1, bt121.2))) else (some (a0_0, a0_1))) = some (r1, r2) := H
 have A2 := Aside0.mk A20
 clear A20
 by_cases c3 : t120 = true
 ·
  subst c3
  have H1 : ((wide_big_minus.f a0_0 a0_1).bind fun bt121 => (some (bt121.1, bt121.2))) = some (r1, r2) := by rw [if_pos rfl] at H; exact H
  clear H
  have H := H1
  clear H1
  replace H := Option.bind_eq_some_iff.mp H
  obtain ⟨⟨t121, t122⟩, A40, H⟩ := H
  replace H : (some (t121, t122)) = some (r1, r2) := H
  have A4 := Aside0.mk A40
  clear A40
  simp only [Option.some.injEq, Prod.mk.injEq] at H
  obtain ⟨rfl, rfl⟩ := H
  go_enter Tryd.func47, Tryd.ntmps47
  go_wp2_with (first | ((with_reducible refine gate_dst (N := 1) rfl ?_); refine box_event ?hg (N := 1) ?hd (cs := #[.int .u64 a0_0, .int .u64 a0_1]) (t := 69) ?hr ?_; (case hd => rfl); (case hg => rfl); (case hr => first | (go_simp; done) | (go_simp; rfl)); intro gb118 hg w5 hbox hb; have n0_ := Aside0.mk (below_step (wq HB.out) hb); have n1_ := Aside0.mk (hbox); have n2_ := Aside0.mk ((by rw [hg]; exact (below_size (wq HB.out)) : w.heap.size ≤ gb118)); have n3_ := n2_; clear HB; have HB := n0_; have BK118 := n1_; have GW118 := n2_; have GE118 := n3_; clear n0_ n1_ n2_ n3_ hb hbox hg) | ((with_reducible refine gate_dst (N := 2) rfl ?_); refine box_event ?hg (N := 2) ?hd (cs := #[.int .u64 0, .int .u64 0]) (t := 69) ?hr ?_; (case hd => rfl); (case hg => rfl); (case hr => first | (go_simp; done) | (go_simp; rfl)); intro gb119 hg w6 hbox hb; have n0_ := Aside0.mk (blk_below (bq BK118.out) hb); have n1_ := Aside0.mk (below_step (wq HB.out) hb); have n2_ := Aside0.mk (hbox); have n3_ := Aside0.mk ((by rw [hg]; exact (below_size (wq HB.out)) : w.heap.size ≤ gb119)); have n4_ := n3_; have n5_ := Aside0.mk ((by rw [hg]; exact Nat.ne_of_lt (blk_lt (bq BK118.out)) : gb118 ≠ gb119)); have n6_ := Aside0.mk ((by rw [hg]; exact Nat.ne_of_gt (blk_lt (bq BK118.out)) : gb119 ≠ gb118)); clear BK118 HB; have BK118 := n0_; have HB := n1_; have BK119 := n2_; have GW119 := n3_; have GE119 := n4_; have NB118_119 := n5_; have NB119_118 := n6_; clear n0_ n1_ n2_ n3_ n4_ n5_ n6_ hb hbox hg; have hnb7 := NB118_119.out; have hnc7 := NB119_118.out; have hcz8_0 : w6.cell? ⟨gb118, 0, none⟩ = some (.int .u64 a0_0) := (blk_cell BK118.out 0).trans rfl; have hcz8_1 : w6.cell? ⟨gb118, 1, none⟩ = some (.int .u64 a0_1) := (blk_cell BK118.out 1).trans rfl; have hfz8_0 := blk_frozen BK118.out 0; have hfz8_1 := blk_frozen BK118.out 1) | ((with_reducible refine gate_callee (f := 52) rfl ?_); refine goesL_ (some 4) rfl rfl Tryd.func52 (by kernel_rfl) rfl #[.agg #[.int .u64 a0_0, .int .u64 a0_1]] rfl (by (try simp only [List.map_toArray, List.map_cons, List.map_nil]); first | done | rfl | (simp only [List.length_drop, List.length_take]; rfl)) ?_; (with_reducible refine (wide_big_below.calls a0_0 a0_1 true _ A2.out).mono ?_); rintro e w9 ⟨rfl, hb⟩; refine ⟨_, rfl, ?_⟩; have n0_ := Aside0.mk (blk_below (bq BK118.out) hb); have n1_ := Aside0.mk (blk_below (bq BK119.out) hb); have n2_ := Aside0.mk (below_step (wq HB.out) hb); clear BK118 BK119 HB; have BK118 := n0_; have BK119 := n1_; have HB := n2_; clear n0_ n1_ n2_; (try clear hb); (try clear hb2); (try clear hk); (try clear hi); have hcz10_0 : w9.cell? ⟨gb118, 0, none⟩ = some (.int .u64 a0_0) := (blk_cell BK118.out 0).trans rfl; have hcz10_1 : w9.cell? ⟨gb118, 1, none⟩ = some (.int .u64 a0_1) := (blk_cell BK118.out 1).trans rfl; have hfz10_0 := blk_frozen BK118.out 0; have hfz10_1 := blk_frozen BK118.out 1) | ((with_reducible refine gate_callee (f := 49) rfl ?_); refine goesL_ (some 6) rfl rfl Tryd.func49 (by kernel_rfl) rfl #[.agg #[.int .u64 a0_0, .int .u64 a0_1]] rfl (by (try simp only [List.map_toArray, List.map_cons, List.map_nil]); first | done | rfl | (simp only [List.length_drop, List.length_take]; rfl)) ?_; (with_reducible refine (wide_big_minus.calls a0_0 a0_1 t121 t122 _ A4.out).mono ?_); rintro e w11 ⟨rfl, hb⟩; refine ⟨_, rfl, ?_⟩; have n0_ := Aside0.mk (blk_below (bq BK118.out) hb); have n1_ := Aside0.mk (blk_below (bq BK119.out) hb); have n2_ := Aside0.mk (below_step (wq HB.out) hb); clear BK118 BK119 HB; have BK118 := n0_; have BK119 := n1_; have HB := n2_; clear n0_ n1_ n2_; (try clear hb); (try clear hb2); (try clear hk); (try clear hi); have hcz12_0 : w11.cell? ⟨gb119, 0, none⟩ = some (.int .u64 0) := (blk_cell BK119.out 0).trans rfl; have hcz12_1 : w11.cell? ⟨gb119, 1, none⟩ = some (.int .u64 0) := (blk_cell BK119.out 1).trans rfl; have hfz12_0 := blk_frozen BK119.out 0; have hfz12_1 := blk_frozen BK119.out 1))
  refine bodyPost_ret (results_cell_row rfl _ _ gb119 69 #[.int .u64 t121, .int .u64 t122] (0, 0) _ rfl (by refine bq ?_; refine blk_put (cs := #[.int .u64 t121, .int .u64 0]) ?_ 1 _ rfl; refine bq ?_; refine blk_put (cs := #[.int .u64 0, .int .u64 0]) ?_ 0 _ rfl; refine bq ?_; exact BK119.out) Tryd.underlying69 rfl (by kernel_rfl)) rfl ?_
  exact ⟨by first | rfl | (simp [errW_none, errW_some] <;> rfl) | (simp [*, errW_none, errW_some] <;> rfl), by exact wq HB.out⟩
 ·
  replace c3 := Bool.eq_false_iff.mpr c3
  subst c3
  have H1 : (some (a0_0, a0_1)) = some (r1, r2) := by rw [if_neg (show ¬ (false = true) by decide)] at H; exact H
  clear H
  have H := H1
  clear H1
  simp only [Option.some.injEq, Prod.mk.injEq] at H
  obtain ⟨rfl, rfl⟩ := H
  go_enter Tryd.func47, Tryd.ntmps47
  go_wp2_with (first | ((with_reducible refine gate_dst (N := 1) rfl ?_); refine box_event ?hg (N := 1) ?hd (cs := #[.int .u64 a0_0, .int .u64 a0_1]) (t := 69) ?hr ?_; (case hd => rfl); (case hg => rfl); (case hr => first | (go_simp; done) | (go_simp; rfl)); intro gb118 hg w13 hbox hb; have n0_ := Aside0.mk (below_step (wq HB.out) hb); have n1_ := Aside0.mk (hbox); have n2_ := Aside0.mk ((by rw [hg]; exact (below_size (wq HB.out)) : w.heap.size ≤ gb118)); have n3_ := n2_; clear HB; have HB := n0_; have BK118 := n1_; have GW118 := n2_; have GE118 := n3_; clear n0_ n1_ n2_ n3_ hb hbox hg) | ((with_reducible refine gate_dst (N := 2) rfl ?_); refine box_event ?hg (N := 2) ?hd (cs := #[.int .u64 0, .int .u64 0]) (t := 69) ?hr ?_; (case hd => rfl); (case hg => rfl); (case hr => first | (go_simp; done) | (go_simp; rfl)); intro gb119 hg w14 hbox hb; have n0_ := Aside0.mk (blk_below (bq BK118.out) hb); have n1_ := Aside0.mk (below_step (wq HB.out) hb); have n2_ := Aside0.mk (hbox); have n3_ := Aside0.mk ((by rw [hg]; exact (below_size (wq HB.out)) : w.heap.size ≤ gb119)); have n4_ := n3_; have n5_ := Aside0.mk ((by rw [hg]; exact Nat.ne_of_lt (blk_lt (bq BK118.out)) : gb118 ≠ gb119)); have n6_ := Aside0.mk ((by rw [hg]; exact Nat.ne_of_gt (blk_lt (bq BK118.out)) : gb119 ≠ gb118)); clear BK118 HB; have BK118 := n0_; have HB := n1_; have BK119 := n2_; have GW119 := n3_; have GE119 := n4_; have NB118_119 := n5_; have NB119_118 := n6_; clear n0_ n1_ n2_ n3_ n4_ n5_ n6_ hb hbox hg; have hnb15 := NB118_119.out; have hnc15 := NB119_118.out; have hcz16_0 : w14.cell? ⟨gb118, 0, none⟩ = some (.int .u64 a0_0) := (blk_cell BK118.out 0).trans rfl; have hcz16_1 : w14.cell? ⟨gb118, 1, none⟩ = some (.int .u64 a0_1) := (blk_cell BK118.out 1).trans rfl; have hfz16_0 := blk_frozen BK118.out 0; have hfz16_1 := blk_frozen BK118.out 1) | ((with_reducible refine gate_callee (f := 52) rfl ?_); refine goesL_ (some 4) rfl rfl Tryd.func52 (by kernel_rfl) rfl #[.agg #[.int .u64 a0_0, .int .u64 a0_1]] rfl (by (try simp only [List.map_toArray, List.map_cons, List.map_nil]); first | done | rfl | (simp only [List.length_drop, List.length_take]; rfl)) ?_; (with_reducible refine (wide_big_below.calls a0_0 a0_1 false _ A2.out).mono ?_); rintro e w17 ⟨rfl, hb⟩; refine ⟨_, rfl, ?_⟩; have n0_ := Aside0.mk (blk_below (bq BK118.out) hb); have n1_ := Aside0.mk (blk_below (bq BK119.out) hb); have n2_ := Aside0.mk (below_step (wq HB.out) hb); clear BK118 BK119 HB; have BK118 := n0_; have BK119 := n1_; have HB := n2_; clear n0_ n1_ n2_; (try clear hb); (try clear hb2); (try clear hk); (try clear hi); have hcz18_0 : w17.cell? ⟨gb118, 0, none⟩ = some (.int .u64 a0_0) := (blk_cell BK118.out 0).trans rfl; have hcz18_1 : w17.cell? ⟨gb118, 1, none⟩ = some (.int .u64 a0_1) := (blk_cell BK118.out 1).trans rfl; have hfz18_0 := blk_frozen BK118.out 0; have hfz18_1 := blk_frozen BK118.out 1; have hcz19_0 : w17.cell? ⟨gb119, 0, none⟩ = some (.int .u64 0) := (blk_cell BK119.out 0).trans rfl; have hcz19_1 : w17.cell? ⟨gb119, 1, none⟩ = some (.int .u64 0) := (blk_cell BK119.out 1).trans rfl; have hfz19_0 := blk_frozen BK119.out 0; have hfz19_1 := blk_frozen BK119.out 1))
  refine bodyPost_ret (results_cell_row rfl _ _ gb119 69 #[.int .u64 a0_0, .int .u64 a0_1] (0, 0) _ rfl (by refine bq ?_; refine blk_put (cs := #[.int .u64 a0_0, .int .u64 0]) ?_ 1 _ rfl; refine bq ?_; refine blk_put (cs := #[.int .u64 0, .int .u64 0]) ?_ 0 _ rfl; refine bq ?_; exact BK119.out) Tryd.underlying69 rfl (by kernel_rfl)) rfl ?_
  exact ⟨by first | rfl | (simp [errW_none, errW_some] <;> rfl) | (simp [*, errW_none, errW_some] <;> rfl), by exact wq HB.out⟩
def bits_Mul64.f (a0 : Int) (a1 : Int) : Option (Int × Int) := some (IntKind.u64.wrap ((IntKind.u64.wrap ((IntKind.u64.wrap ((a0 / 4294967296) * (a1 / 4294967296))) + ((IntKind.u64.wrap ((IntKind.u64.wrap ((a0 / 4294967296) * (Go.bits .and .u64 a1 4294967295))) + ((IntKind.u64.wrap ((Go.bits .and .u64 a0 4294967295) * (Go.bits .and .u64 a1 4294967295))) / 4294967296))) / 4294967296))) + ((IntKind.u64.wrap ((Go.bits .and .u64 (IntKind.u64.wrap ((IntKind.u64.wrap ((a0 / 4294967296) * (Go.bits .and .u64 a1 4294967295))) + ((IntKind.u64.wrap ((Go.bits .and .u64 a0 4294967295) * (Go.bits .and .u64 a1 4294967295))) / 4294967296))) 4294967295) + (IntKind.u64.wrap ((Go.bits .and .u64 a0 4294967295) * (a1 / 4294967296))))) / 4294967296)), IntKind.u64.wrap (a0 * a1))
set_option maxHeartbeats 8000000 in
set_option maxRecDepth 100000 in
theorem bits_Mul64.calls (a0 : Int) (a1 : Int) (r1 : Int) (r2 : Int) (w : World) (h : bits_Mul64.f a0 a1 = some (r1, r2)) :
  Calls Tryd.prog 48 #[.int .u64 a0, .int .u64 a1] w fun e w' => e = .returned (.tuple #[.int .u64 r1, .int .u64 r2]) ∧ Drawn0 w w' := by
 have H : (some (IntKind.u64.wrap ((IntKind.u64.wrap ((IntKind.u64.wrap ((a0 / 4294967296) * (a1 / 4294967296))) + ((IntKind.u64.wrap ((IntKind.u64.wrap ((a0 / 4294967296) * (Go.bits .and .u64 a1 4294967295))) + ((IntKind.u64.wrap ((Go.bits .and .u64 a0 4294967295) * (Go.bits .and .u64 a1 4294967295))) / 4294967296))) / 4294967296))) + ((IntKind.u64.wrap ((Go.bits .and .u64 (IntKind.u64.wrap ((IntKind.u64.wrap ((a0 / 4294967296) * (Go.bits .and .u64 a1 4294967295))) + ((IntKind.u64.wrap ((Go.bits .and .u64 a0 4294967295) * (Go.bits .and .u64 a1 4294967295))) / 4294967296))) 4294967295) + (IntKind.u64.wrap ((Go.bits .and .u64 a0 4294967295) * (a1 / 4294967296))))) / 4294967296)), IntKind.u64.wrap (a0 * a1))) = some (r1, r2) := h
 clear h
 simp only [Option.some.injEq, Prod.mk.injEq] at H
 obtain ⟨rfl, rfl⟩ := H
 go_enter Tryd.func48, Tryd.ntmps48
 go_wp2
 go_ret2
 exact ⟨by first | rfl | (simp; done) | (simp [*]; done), by repeat (first | exact Drawn0.refl _ | apply Drawn0.step)⟩
def wide_times.f (a0 : Int) (a1 : Int) : Option (Int × Int) := (wide_of.f a0).bind fun bt124 => ((wide_big_size.f bt124.1 bt124.2).bind fun bt126 => ((wide_of.f a1).bind fun bt128 => ((wide_big_size.f bt128.1 bt128.2).bind fun bt130 => ((bits_Mul64.f bt126.2 bt130.2).bind fun bt134 => (if ((decide (a0 < 0)) != (decide (a1 < 0))) = true then ((wide_big_minus.f bt134.1 bt134.2).bind fun bt137 => (some (bt137.1, bt137.2))) else (some (bt134.1, bt134.2)))))))
set_option maxHeartbeats 8000000 in
set_option maxRecDepth 100000 in
theorem wide_times.calls (a0 : Int) (a1 : Int) (r1 : Int) (r2 : Int) (w : World) (h : wide_times.f a0 a1 = some (r1, r2)) :
  Calls Tryd.prog 37 #[.int .i64 a0, .int .i64 a1] w fun e w' => e = .returned (.agg #[.int .u64 r1, .int .u64 r2]) ∧ Below w.heap.size w w' := by
 have hu69 := Tryd.underlying69
 have HB := Aside0.mk (Below.refl w.heap.size w)
 have H : ((wide_of.f a0).bind fun bt124 => ((wide_big_size.f bt124.1 bt124.2).bind fun bt126 => ((wide_of.f a1).bind fun bt128 => ((wide_big_size.f bt128.1 bt128.2).bind fun bt130 => ((bits_Mul64.f bt126.2 bt130.2).bind fun bt134 => (if ((decide (a0 < 0)) != (decide (a1 < 0))) = true then ((wide_big_minus.f bt134.1 bt134.2).bind fun bt137 => (some (bt137.1, bt137.2))) else (some (bt134.1, bt134.2)))))))) = some (r1, r2) := h
 clear h
 replace H := Option.bind_eq_some_iff.mp H
 obtain ⟨⟨t124, t125⟩, A30, H⟩ := H
 replace H : ((wide_big_size.f t124 t125).bind fun bt126 => ((wide_of.f a1).bind fun bt128 => ((wide_big_size.f bt128.1 bt128.2).bind fun bt130 => ((bits_Mul64.f bt126.2 bt130.2).bind fun bt134 => (if ((decide (a0 < 0)) != (decide (a1 < 0))) = true then ((wide_big_minus.f bt134.1 bt134.2).bind fun bt137 => (some (bt137.1, bt137.2))) else (some (bt134.1, bt134.2))))))) = some (r1, r2) := H
 have A3 := Aside0.mk A30
 clear A30
 replace H := Option.bind_eq_some_iff.mp H
 obtain ⟨⟨t126, t127⟩, A40, H⟩ := H
 replace H : ((wide_of.f a1).bind fun bt128 => ((wide_big_size.f bt128.1 bt128.2).bind fun bt130 => ((bits_Mul64.f t127 bt130.2).bind fun bt134 => (if ((decide (a0 < 0)) != (decide (a1 < 0))) = true then ((wide_big_minus.f bt134.1 bt134.2).bind fun bt137 => (some (bt137.1, bt137.2))) else (some (bt134.1, bt134.2)))))) = some (r1, r2) := H
 have A4 := Aside0.mk A40
 clear A40
 replace H := Option.bind_eq_some_iff.mp H
 obtain ⟨⟨t128, t129⟩, A50, H⟩ := H
 replace H : ((wide_big_size.f t128 t129).bind fun bt130 => ((bits_Mul64.f t127 bt130.2).bind fun bt134 => (if ((decide (a0 < 0)) != (decide (a1 < 0))) = true then ((wide_big_minus.f bt134.1 bt134.2).bind fun bt137 => (some (bt137.1, bt137.2))) else (some (bt134.1, bt134.2))))) = some (r1, r2) := H
 have A5 := Aside0.mk A50
 clear A50
 replace H := Option.bind_eq_some_iff.mp H
 obtain ⟨⟨t130, t131⟩, A60, H⟩ := H
 replace H : ((bits_Mul64.f t127 t131).bind fun bt134 => (if ((decide (a0 < 0)) != (decide (a1 < 0))) = true then ((wide_big_minus.f bt134.1 bt134.2).bind fun bt137 => (some (bt137.1, bt137.2))) else (some (bt134.1, bt134.2)))) = some (r1, r2) := H
 have A6 := Aside0.mk A60
 clear A60
 replace H := Option.bind_eq_some_iff.mp H
 obtain ⟨⟨t134, t135⟩, A70, H⟩ := H
 replace H : (if ((decide (a0 < 0)) != (decide (a1 < 0))) = true then ((wide_big_minus.f t134 t135).bind fun bt137 => (some (bt137.1, bt137.2))) else (some (t134, t135))) = some (r1, r2) := H
 have A7 := Aside0.mk A70
 clear A70
 by_cases c8 : ((decide (a0 < 0)) != (decide (a1 < 0))) = true
 ·
  rw [if_pos c8] at H
  have c8b0 : ((decide (a0 < 0)) != (decide (a1 < 0))) = true := c8
  (try (have c8b1 : decide ((decide (a0 < 0)) = (decide (a1 < 0))) = false := by simpa using c8))
  (try (have c8b2 : ((decide (a0 < 0)) == (decide (a1 < 0))) = false := by simpa using c8))
  (try (have c8b3 : ¬ ((decide (a0 < 0)) = (decide (a1 < 0))) := by simpa using c8))
  clear c8
  replace H := Option.bind_eq_some_iff.mp H
  obtain ⟨⟨t137, t138⟩, A90, H⟩ := H
  replace H : (some (t137, t138)) = some (r1, r2) := H
  have A9 := Aside0.mk A90
  clear A90
  simp only [Option.some.injEq, Prod.mk.injEq] at H
  obtain ⟨rfl, rfl⟩ := H
  go_enter Tryd.func37, Tryd.ntmps37
  go_wp2_with (first | ((with_reducible refine gate_dst (N := 4) rfl ?_); refine box_event ?hg (N := 4) ?hd (cs := #[.int .u64 0, .int .u64 0]) (t := 69) ?hr ?_; (case hd => rfl); (case hg => rfl); (case hr => first | (go_simp; done) | (go_simp; rfl)); intro gb123 hg w10 hbox hb; have n0_ := Aside0.mk (below_step (wq HB.out) hb); have n1_ := Aside0.mk (hbox); have n2_ := Aside0.mk ((by rw [hg]; exact (below_size (wq HB.out)) : w.heap.size ≤ gb123)); have n3_ := n2_; clear HB; have HB := n0_; have BK123 := n1_; have GW123 := n2_; have GE123 := n3_; clear n0_ n1_ n2_ n3_ hb hbox hg) | ((with_reducible refine gate_callee (f := 41) rfl ?_); refine goesL_ (some 11) rfl rfl Tryd.func41 (by kernel_rfl) rfl #[.int .i64 a0] rfl (by (try simp only [List.map_toArray, List.map_cons, List.map_nil]); first | done | rfl | (simp only [List.length_drop, List.length_take]; rfl)) ?_; (with_reducible refine (wide_of.calls a0 t124 t125 _ A3.out).mono ?_); rintro e w11 ⟨rfl, hb⟩; refine ⟨_, rfl, ?_⟩; have n0_ := Aside0.mk (blk_below (bq BK123.out) hb); have n1_ := Aside0.mk (below_step (wq HB.out) hb); clear BK123 HB; have BK123 := n0_; have HB := n1_; clear n0_ n1_; (try clear hb); (try clear hb2); (try clear hk); (try clear hi)) | ((with_reducible refine gate_callee (f := 47) rfl ?_); refine goesL_ (some 12) rfl rfl Tryd.func47 (by kernel_rfl) rfl #[.agg #[.int .u64 t124, .int .u64 t125]] rfl (by (try simp only [List.map_toArray, List.map_cons, List.map_nil]); first | done | rfl | (simp only [List.length_drop, List.length_take]; rfl)) ?_; (with_reducible refine (wide_big_size.calls t124 t125 t126 t127 _ A4.out).mono ?_); rintro e w12 ⟨rfl, hb⟩; refine ⟨_, rfl, ?_⟩; have n0_ := Aside0.mk (blk_below (bq BK123.out) hb); have n1_ := Aside0.mk (below_step (wq HB.out) hb); clear BK123 HB; have BK123 := n0_; have HB := n1_; clear n0_ n1_; (try clear hb); (try clear hb2); (try clear hk); (try clear hi)) | ((with_reducible refine gate_callee (f := 41) rfl ?_); refine goesL_ (some 14) rfl rfl Tryd.func41 (by kernel_rfl) rfl #[.int .i64 a1] rfl (by (try simp only [List.map_toArray, List.map_cons, List.map_nil]); first | done | rfl | (simp only [List.length_drop, List.length_take]; rfl)) ?_; (with_reducible refine (wide_of.calls a1 t128 t129 _ A5.out).mono ?_); rintro e w13 ⟨rfl, hb⟩; refine ⟨_, rfl, ?_⟩; have n0_ := Aside0.mk (blk_below (bq BK123.out) hb); have n1_ := Aside0.mk (below_step (wq HB.out) hb); clear BK123 HB; have BK123 := n0_; have HB := n1_; clear n0_ n1_; (try clear hb); (try clear hb2); (try clear hk); (try clear hi)) | ((with_reducible refine gate_callee (f := 47) rfl ?_); refine goesL_ (some 15) rfl rfl Tryd.func47 (by kernel_rfl) rfl #[.agg #[.int .u64 t128, .int .u64 t129]] rfl (by (try simp only [List.map_toArray, List.map_cons, List.map_nil]); first | done | rfl | (simp only [List.length_drop, List.length_take]; rfl)) ?_; (with_reducible refine (wide_big_size.calls t128 t129 t130 t131 _ A6.out).mono ?_); rintro e w14 ⟨rfl, hb⟩; refine ⟨_, rfl, ?_⟩; have n0_ := Aside0.mk (blk_below (bq BK123.out) hb); have n1_ := Aside0.mk (below_step (wq HB.out) hb); clear BK123 HB; have BK123 := n0_; have HB := n1_; clear n0_ n1_; (try clear hb); (try clear hb2); (try clear hk); (try clear hi)) | ((with_reducible refine gate_dst (N := 5) rfl ?_); refine box_event ?hg (N := 5) ?hd (cs := #[.int .u64 0, .int .u64 0]) (t := 69) ?hr ?_; (case hd => rfl); (case hg => rfl); (case hr => first | (go_simp; done) | (go_simp; rfl)); intro gb132 hg w15 hbox hb; have n0_ := Aside0.mk (blk_below (bq BK123.out) hb); have n1_ := Aside0.mk (below_step (wq HB.out) hb); have n2_ := Aside0.mk (hbox); have n3_ := Aside0.mk ((by rw [hg]; exact (below_size (wq HB.out)) : w.heap.size ≤ gb132)); have n4_ := n3_; have n5_ := Aside0.mk ((by rw [hg]; exact Nat.ne_of_lt (blk_lt (bq BK123.out)) : gb123 ≠ gb132)); have n6_ := Aside0.mk ((by rw [hg]; exact Nat.ne_of_gt (blk_lt (bq BK123.out)) : gb132 ≠ gb123)); clear BK123 HB; have BK123 := n0_; have HB := n1_; have BK132 := n2_; have GW132 := n3_; have GE132 := n4_; have NB123_132 := n5_; have NB132_123 := n6_; clear n0_ n1_ n2_ n3_ n4_ n5_ n6_ hb hbox hg) | ((with_reducible refine gate_dst (N := 6) rfl ?_); refine box_event ?hg (N := 6) ?hd (cs := #[.int .u64 0, .int .u64 0]) (t := 69) ?hr ?_; (case hd => rfl); (case hg => rfl); (case hr => first | (go_simp; done) | (go_simp; rfl)); intro gb133 hg w16 hbox hb; have n0_ := Aside0.mk (blk_below (bq BK123.out) hb); have n1_ := Aside0.mk (blk_below (bq BK132.out) hb); have n2_ := Aside0.mk (below_step (wq HB.out) hb); have n3_ := Aside0.mk (hbox); have n4_ := Aside0.mk ((by rw [hg]; exact (below_size (wq HB.out)) : w.heap.size ≤ gb133)); have n5_ := n4_; have n6_ := Aside0.mk ((by rw [hg]; exact Nat.ne_of_lt (blk_lt (bq BK123.out)) : gb123 ≠ gb133)); have n7_ := Aside0.mk ((by rw [hg]; exact Nat.ne_of_gt (blk_lt (bq BK123.out)) : gb133 ≠ gb123)); have n8_ := Aside0.mk ((by rw [hg]; exact Nat.ne_of_lt (blk_lt (bq BK132.out)) : gb132 ≠ gb133)); have n9_ := Aside0.mk ((by rw [hg]; exact Nat.ne_of_gt (blk_lt (bq BK132.out)) : gb133 ≠ gb132)); clear BK123 BK132 HB; have BK123 := n0_; have BK132 := n1_; have HB := n2_; have BK133 := n3_; have GW133 := n4_; have GE133 := n5_; have NB123_133 := n6_; have NB133_123 := n7_; have NB132_133 := n8_; have NB133_132 := n9_; clear n0_ n1_ n2_ n3_ n4_ n5_ n6_ n7_ n8_ n9_ hb hbox hg; have hnb17 := NB132_123.out; have hnc17 := NB123_132.out; have hnb18 := NB132_133.out; have hnc18 := NB133_132.out; have hcz19_0 : w16.cell? ⟨gb132, 0, none⟩ = some (.int .u64 0) := (blk_cell BK132.out 0).trans rfl; have hcz19_1 : w16.cell? ⟨gb132, 1, none⟩ = some (.int .u64 0) := (blk_cell BK132.out 1).trans rfl; have hfz19_0 := blk_frozen BK132.out 0; have hfz19_1 := blk_frozen BK132.out 1; have hnb20 := NB133_123.out; have hnc20 := NB123_133.out; have hcz21_0 : w16.cell? ⟨gb133, 0, none⟩ = some (.int .u64 0) := (blk_cell BK133.out 0).trans rfl; have hcz21_1 : w16.cell? ⟨gb133, 1, none⟩ = some (.int .u64 0) := (blk_cell BK133.out 1).trans rfl; have hfz21_0 := blk_frozen BK133.out 0; have hfz21_1 := blk_frozen BK133.out 1) | ((with_reducible refine gate_callee (f := 48) rfl ?_); refine goesL_ (some 21) rfl rfl Tryd.func48 (by kernel_rfl) rfl #[.int .u64 t127, .int .u64 t131] rfl (by (try simp only [List.map_toArray, List.map_cons, List.map_nil]); first | done | rfl | (simp only [List.length_drop, List.length_take]; rfl)) ?_; (with_reducible refine (bits_Mul64.calls t127 t131 t134 t135 _ A7.out).mono ?_); rintro e w' ⟨rfl, ⟨nd, rfl⟩⟩; refine ⟨_, rfl, ?_⟩) | ((with_reducible refine gate_dst (N := 9) rfl ?_); refine box_event ?hg (N := 9) ?hd (cs := #[.int .u64 0, .int .u64 0]) (t := 69) ?hr ?_; (case hd => rfl); (case hg => rfl); (case hr => first | (go_simp; done) | (go_simp; rfl)); intro gb136 hg w22 hbox hb; have n0_ := Aside0.mk (blk_below (g := gb123) (o := .cells #[.int .u64 0, .int .u64 0] 69 (0, 0)) (by refine bq ?_; refine blk_far ?_ NB123_133.out _; refine bq ?_; refine blk_far ?_ NB123_133.out _; refine bq ?_; refine blk_far ?_ NB123_132.out _; refine bq ?_; refine blk_far ?_ NB123_132.out _; refine bq ?_; exact BK123.out) hb); have n1_ := Aside0.mk (blk_below (g := gb132) (o := .cells #[.int .u64 t126, .int .u64 t127] 69 (0, 0)) (by refine bq ?_; refine blk_far ?_ NB132_133.out _; refine bq ?_; refine blk_far ?_ NB132_133.out _; refine bq ?_; refine blk_put (cs := #[.int .u64 t126, .int .u64 0]) ?_ 1 _ rfl; refine bq ?_; refine blk_put (cs := #[.int .u64 0, .int .u64 0]) ?_ 0 _ rfl; refine bq ?_; exact BK132.out) hb); have n2_ := Aside0.mk (blk_below (g := gb133) (o := .cells #[.int .u64 t130, .int .u64 t131] 69 (0, 0)) (by refine bq ?_; refine blk_put (cs := #[.int .u64 t130, .int .u64 0]) ?_ 1 _ rfl; refine bq ?_; refine blk_put (cs := #[.int .u64 0, .int .u64 0]) ?_ 0 _ rfl; refine bq ?_; refine blk_far ?_ NB133_132.out _; refine bq ?_; refine blk_far ?_ NB133_132.out _; refine bq ?_; exact BK133.out) hb); have n3_ := Aside0.mk (below_step (wq HB.out) hb); have n4_ := Aside0.mk (hbox); have n5_ := Aside0.mk ((by rw [hg]; exact (below_size (wq HB.out)) : w.heap.size ≤ gb136)); have n6_ := n5_; have n7_ := Aside0.mk ((by rw [hg]; exact Nat.ne_of_lt (blk_lt (g := gb123) (o := .cells #[.int .u64 0, .int .u64 0] 69 (0, 0)) (by refine bq ?_; refine blk_far ?_ NB123_133.out _; refine bq ?_; refine blk_far ?_ NB123_133.out _; refine bq ?_; refine blk_far ?_ NB123_132.out _; refine bq ?_; refine blk_far ?_ NB123_132.out _; refine bq ?_; exact BK123.out)) : gb123 ≠ gb136)); have n8_ := Aside0.mk ((by rw [hg]; exact Nat.ne_of_gt (blk_lt (g := gb123) (o := .cells #[.int .u64 0, .int .u64 0] 69 (0, 0)) (by refine bq ?_; refine blk_far ?_ NB123_133.out _; refine bq ?_; refine blk_far ?_ NB123_133.out _; refine bq ?_; refine blk_far ?_ NB123_132.out _; refine bq ?_; refine blk_far ?_ NB123_132.out _; refine bq ?_; exact BK123.out)) : gb136 ≠ gb123)); have n9_ := Aside0.mk ((by rw [hg]; exact Nat.ne_of_lt (blk_lt (g := gb132) (o := .cells #[.int .u64 t126, .int .u64 t127] 69 (0, 0)) (by refine bq ?_; refine blk_far ?_ NB132_133.out _; refine bq ?_; refine blk_far ?_ NB132_133.out _; refine bq ?_; refine blk_put (cs := #[.int .u64 t126, .int .u64 0]) ?_ 1 _ rfl; refine bq ?_; refine blk_put (cs := #[.int .u64 0, .int .u64 0]) ?_ 0 _ rfl; refine bq ?_; exact BK132.out)) : gb132 ≠ gb136)); have n10_ := Aside0.mk ((by rw [hg]; exact Nat.ne_of_gt (blk_lt (g := gb132) (o := .cells #[.int .u64 t126, .int .u64 t127] 69 (0, 0)) (by refine bq ?_; refine blk_far ?_ NB132_133.out _; refine bq ?_; refine blk_far ?_ NB132_133.out _; refine bq ?_; refine blk_put (cs := #[.int .u64 t126, .int .u64 0]) ?_ 1 _ rfl; refine bq ?_; refine blk_put (cs := #[.int .u64 0, .int .u64 0]) ?_ 0 _ rfl; refine bq ?_; exact BK132.out)) : gb136 ≠ gb132)); have n11_ := Aside0.mk ((by rw [hg]; exact Nat.ne_of_lt (blk_lt (g := gb133) (o := .cells #[.int .u64 t130, .int .u64 t131] 69 (0, 0)) (by refine bq ?_; refine blk_put (cs := #[.int .u64 t130, .int .u64 0]) ?_ 1 _ rfl; refine bq ?_; refine blk_put (cs := #[.int .u64 0, .int .u64 0]) ?_ 0 _ rfl; refine bq ?_; refine blk_far ?_ NB133_132.out _; refine bq ?_; refine blk_far ?_ NB133_132.out _; refine bq ?_; exact BK133.out)) : gb133 ≠ gb136)); have n12_ := Aside0.mk ((by rw [hg]; exact Nat.ne_of_gt (blk_lt (g := gb133) (o := .cells #[.int .u64 t130, .int .u64 t131] 69 (0, 0)) (by refine bq ?_; refine blk_put (cs := #[.int .u64 t130, .int .u64 0]) ?_ 1 _ rfl; refine bq ?_; refine blk_put (cs := #[.int .u64 0, .int .u64 0]) ?_ 0 _ rfl; refine bq ?_; refine blk_far ?_ NB133_132.out _; refine bq ?_; refine blk_far ?_ NB133_132.out _; refine bq ?_; exact BK133.out)) : gb136 ≠ gb133)); clear BK123 BK132 BK133 HB; have BK123 := n0_; have BK132 := n1_; have BK133 := n2_; have HB := n3_; have BK136 := n4_; have GW136 := n5_; have GE136 := n6_; have NB123_136 := n7_; have NB136_123 := n8_; have NB132_136 := n9_; have NB136_132 := n10_; have NB133_136 := n11_; have NB136_133 := n12_; clear n0_ n1_ n2_ n3_ n4_ n5_ n6_ n7_ n8_ n9_ n10_ n11_ n12_ hb hbox hg; have hnb23 := NB136_123.out; have hnc23 := NB123_136.out; have hnb24 := NB136_132.out; have hnc24 := NB132_136.out; have hnb25 := NB136_133.out; have hnc25 := NB133_136.out; have hcz26_0 : w22.cell? ⟨gb136, 0, none⟩ = some (.int .u64 0) := (blk_cell BK136.out 0).trans rfl; have hcz26_1 : w22.cell? ⟨gb136, 1, none⟩ = some (.int .u64 0) := (blk_cell BK136.out 1).trans rfl; have hfz26_0 := blk_frozen BK136.out 0; have hfz26_1 := blk_frozen BK136.out 1) | ((with_reducible refine gate_callee (f := 49) rfl ?_); refine goesL_ (some 33) rfl rfl Tryd.func49 (by kernel_rfl) rfl #[.agg #[.int .u64 t134, .int .u64 t135]] rfl (by (try simp only [List.map_toArray, List.map_cons, List.map_nil]); first | done | rfl | (simp only [List.length_drop, List.length_take]; rfl)) ?_; (with_reducible refine (wide_big_minus.calls t134 t135 t137 t138 _ A9.out).mono ?_); rintro e w27 ⟨rfl, hb⟩; refine ⟨_, rfl, ?_⟩; have n0_ := Aside0.mk (blk_below (g := gb123) (o := .cells #[.int .u64 0, .int .u64 0] 69 (0, 0)) (by refine bq ?_; refine blk_far ?_ NB123_136.out _; refine bq ?_; refine blk_far ?_ NB123_136.out _; refine bq ?_; exact BK123.out) hb); have n1_ := Aside0.mk (blk_below (g := gb132) (o := .cells #[.int .u64 t126, .int .u64 t127] 69 (0, 0)) (by refine bq ?_; refine blk_far ?_ NB132_136.out _; refine bq ?_; refine blk_far ?_ NB132_136.out _; refine bq ?_; exact BK132.out) hb); have n2_ := Aside0.mk (blk_below (g := gb133) (o := .cells #[.int .u64 t130, .int .u64 t131] 69 (0, 0)) (by refine bq ?_; refine blk_far ?_ NB133_136.out _; refine bq ?_; refine blk_far ?_ NB133_136.out _; refine bq ?_; exact BK133.out) hb); have n3_ := Aside0.mk (blk_below (g := gb136) (o := .cells #[.int .u64 t134, .int .u64 t135] 69 (0, 0)) (by refine bq ?_; refine blk_put (cs := #[.int .u64 t134, .int .u64 0]) ?_ 1 _ rfl; refine bq ?_; refine blk_put (cs := #[.int .u64 0, .int .u64 0]) ?_ 0 _ rfl; refine bq ?_; exact BK136.out) hb); have n4_ := Aside0.mk (below_step (wq HB.out) hb); clear BK123 BK132 BK133 BK136; clear HB; have BK123 := n0_; have BK132 := n1_; have BK133 := n2_; have BK136 := n3_; have HB := n4_; clear n0_ n1_ n2_ n3_ n4_; (try clear hb); (try clear hb2); (try clear hk); (try clear hi); have hcz28_0 : w27.cell? ⟨gb123, 0, none⟩ = some (.int .u64 0) := (blk_cell BK123.out 0).trans rfl; have hcz28_1 : w27.cell? ⟨gb123, 1, none⟩ = some (.int .u64 0) := (blk_cell BK123.out 1).trans rfl; have hfz28_0 := blk_frozen BK123.out 0; have hfz28_1 := blk_frozen BK123.out 1))
  refine bodyPost_ret (results_cell_row rfl _ _ gb123 69 #[.int .u64 t137, .int .u64 t138] (0, 0) _ rfl (by refine bq ?_; refine blk_put (cs := #[.int .u64 t137, .int .u64 0]) ?_ 1 _ rfl; refine bq ?_; refine blk_put (cs := #[.int .u64 0, .int .u64 0]) ?_ 0 _ rfl; refine bq ?_; exact BK123.out) Tryd.underlying69 rfl (by kernel_rfl)) rfl ?_
  exact ⟨by first | rfl | (simp [errW_none, errW_some] <;> rfl) | (simp [*, errW_none, errW_some] <;> rfl), by exact wq HB.out⟩
 ·
  rw [if_neg c8] at H
  have c8b0 : ((decide (a0 < 0)) != (decide (a1 < 0))) = false := by simpa using c8
  (try (have c8b1 : decide ((decide (a0 < 0)) = (decide (a1 < 0))) = true := by simpa using c8))
  (try (have c8b2 : ((decide (a0 < 0)) == (decide (a1 < 0))) = true := by simpa using c8))
  clear c8
  simp only [Option.some.injEq, Prod.mk.injEq] at H
  obtain ⟨rfl, rfl⟩ := H
  go_enter Tryd.func37, Tryd.ntmps37
  go_wp2_with (first | ((with_reducible refine gate_dst (N := 4) rfl ?_); refine box_event ?hg (N := 4) ?hd (cs := #[.int .u64 0, .int .u64 0]) (t := 69) ?hr ?_; (case hd => rfl); (case hg => rfl); (case hr => first | (go_simp; done) | (go_simp; rfl)); intro gb123 hg w29 hbox hb; have n0_ := Aside0.mk (below_step (wq HB.out) hb); have n1_ := Aside0.mk (hbox); have n2_ := Aside0.mk ((by rw [hg]; exact (below_size (wq HB.out)) : w.heap.size ≤ gb123)); have n3_ := n2_; clear HB; have HB := n0_; have BK123 := n1_; have GW123 := n2_; have GE123 := n3_; clear n0_ n1_ n2_ n3_ hb hbox hg) | ((with_reducible refine gate_callee (f := 41) rfl ?_); refine goesL_ (some 11) rfl rfl Tryd.func41 (by kernel_rfl) rfl #[.int .i64 a0] rfl (by (try simp only [List.map_toArray, List.map_cons, List.map_nil]); first | done | rfl | (simp only [List.length_drop, List.length_take]; rfl)) ?_; (with_reducible refine (wide_of.calls a0 t124 t125 _ A3.out).mono ?_); rintro e w30 ⟨rfl, hb⟩; refine ⟨_, rfl, ?_⟩; have n0_ := Aside0.mk (blk_below (bq BK123.out) hb); have n1_ := Aside0.mk (below_step (wq HB.out) hb); clear BK123 HB; have BK123 := n0_; have HB := n1_; clear n0_ n1_; (try clear hb); (try clear hb2); (try clear hk); (try clear hi)) | ((with_reducible refine gate_callee (f := 47) rfl ?_); refine goesL_ (some 12) rfl rfl Tryd.func47 (by kernel_rfl) rfl #[.agg #[.int .u64 t124, .int .u64 t125]] rfl (by (try simp only [List.map_toArray, List.map_cons, List.map_nil]); first | done | rfl | (simp only [List.length_drop, List.length_take]; rfl)) ?_; (with_reducible refine (wide_big_size.calls t124 t125 t126 t127 _ A4.out).mono ?_); rintro e w31 ⟨rfl, hb⟩; refine ⟨_, rfl, ?_⟩; have n0_ := Aside0.mk (blk_below (bq BK123.out) hb); have n1_ := Aside0.mk (below_step (wq HB.out) hb); clear BK123 HB; have BK123 := n0_; have HB := n1_; clear n0_ n1_; (try clear hb); (try clear hb2); (try clear hk); (try clear hi)) | ((with_reducible refine gate_callee (f := 41) rfl ?_); refine goesL_ (some 14) rfl rfl Tryd.func41 (by kernel_rfl) rfl #[.int .i64 a1] rfl (by (try simp only [List.map_toArray, List.map_cons, List.map_nil]); first | done | rfl | (simp only [List.length_drop, List.length_take]; rfl)) ?_; (with_reducible refine (wide_of.calls a1 t128 t129 _ A5.out).mono ?_); rintro e w32 ⟨rfl, hb⟩; refine ⟨_, rfl, ?_⟩; have n0_ := Aside0.mk (blk_below (bq BK123.out) hb); have n1_ := Aside0.mk (below_step (wq HB.out) hb); clear BK123 HB; have BK123 := n0_; have HB := n1_; clear n0_ n1_; (try clear hb); (try clear hb2); (try clear hk); (try clear hi)) | ((with_reducible refine gate_callee (f := 47) rfl ?_); refine goesL_ (some 15) rfl rfl Tryd.func47 (by kernel_rfl) rfl #[.agg #[.int .u64 t128, .int .u64 t129]] rfl (by (try simp only [List.map_toArray, List.map_cons, List.map_nil]); first | done | rfl | (simp only [List.length_drop, List.length_take]; rfl)) ?_; (with_reducible refine (wide_big_size.calls t128 t129 t130 t131 _ A6.out).mono ?_); rintro e w33 ⟨rfl, hb⟩; refine ⟨_, rfl, ?_⟩; have n0_ := Aside0.mk (blk_below (bq BK123.out) hb); have n1_ := Aside0.mk (below_step (wq HB.out) hb); clear BK123 HB; have BK123 := n0_; have HB := n1_; clear n0_ n1_; (try clear hb); (try clear hb2); (try clear hk); (try clear hi)) | ((with_reducible refine gate_dst (N := 5) rfl ?_); refine box_event ?hg (N := 5) ?hd (cs := #[.int .u64 0, .int .u64 0]) (t := 69) ?hr ?_; (case hd => rfl); (case hg => rfl); (case hr => first | (go_simp; done) | (go_simp; rfl)); intro gb132 hg w34 hbox hb; have n0_ := Aside0.mk (blk_below (bq BK123.out) hb); have n1_ := Aside0.mk (below_step (wq HB.out) hb); have n2_ := Aside0.mk (hbox); have n3_ := Aside0.mk ((by rw [hg]; exact (below_size (wq HB.out)) : w.heap.size ≤ gb132)); have n4_ := n3_; have n5_ := Aside0.mk ((by rw [hg]; exact Nat.ne_of_lt (blk_lt (bq BK123.out)) : gb123 ≠ gb132)); have n6_ := Aside0.mk ((by rw [hg]; exact Nat.ne_of_gt (blk_lt (bq BK123.out)) : gb132 ≠ gb123)); clear BK123 HB; have BK123 := n0_; have HB := n1_; have BK132 := n2_; have GW132 := n3_; have GE132 := n4_; have NB123_132 := n5_; have NB132_123 := n6_; clear n0_ n1_ n2_ n3_ n4_ n5_ n6_ hb hbox hg) | ((with_reducible refine gate_dst (N := 6) rfl ?_); refine box_event ?hg (N := 6) ?hd (cs := #[.int .u64 0, .int .u64 0]) (t := 69) ?hr ?_; (case hd => rfl); (case hg => rfl); (case hr => first | (go_simp; done) | (go_simp; rfl)); intro gb133 hg w35 hbox hb; have n0_ := Aside0.mk (blk_below (bq BK123.out) hb); have n1_ := Aside0.mk (blk_below (bq BK132.out) hb); have n2_ := Aside0.mk (below_step (wq HB.out) hb); have n3_ := Aside0.mk (hbox); have n4_ := Aside0.mk ((by rw [hg]; exact (below_size (wq HB.out)) : w.heap.size ≤ gb133)); have n5_ := n4_; have n6_ := Aside0.mk ((by rw [hg]; exact Nat.ne_of_lt (blk_lt (bq BK123.out)) : gb123 ≠ gb133)); have n7_ := Aside0.mk ((by rw [hg]; exact Nat.ne_of_gt (blk_lt (bq BK123.out)) : gb133 ≠ gb123)); have n8_ := Aside0.mk ((by rw [hg]; exact Nat.ne_of_lt (blk_lt (bq BK132.out)) : gb132 ≠ gb133)); have n9_ := Aside0.mk ((by rw [hg]; exact Nat.ne_of_gt (blk_lt (bq BK132.out)) : gb133 ≠ gb132)); clear BK123 BK132 HB; have BK123 := n0_; have BK132 := n1_; have HB := n2_; have BK133 := n3_; have GW133 := n4_; have GE133 := n5_; have NB123_133 := n6_; have NB133_123 := n7_; have NB132_133 := n8_; have NB133_132 := n9_; clear n0_ n1_ n2_ n3_ n4_ n5_ n6_ n7_ n8_ n9_ hb hbox hg; have hnb36 := NB132_123.out; have hnc36 := NB123_132.out; have hnb37 := NB132_133.out; have hnc37 := NB133_132.out; have hcz38_0 : w35.cell? ⟨gb132, 0, none⟩ = some (.int .u64 0) := (blk_cell BK132.out 0).trans rfl; have hcz38_1 : w35.cell? ⟨gb132, 1, none⟩ = some (.int .u64 0) := (blk_cell BK132.out 1).trans rfl; have hfz38_0 := blk_frozen BK132.out 0; have hfz38_1 := blk_frozen BK132.out 1; have hnb39 := NB133_123.out; have hnc39 := NB123_133.out; have hcz40_0 : w35.cell? ⟨gb133, 0, none⟩ = some (.int .u64 0) := (blk_cell BK133.out 0).trans rfl; have hcz40_1 : w35.cell? ⟨gb133, 1, none⟩ = some (.int .u64 0) := (blk_cell BK133.out 1).trans rfl; have hfz40_0 := blk_frozen BK133.out 0; have hfz40_1 := blk_frozen BK133.out 1) | ((with_reducible refine gate_callee (f := 48) rfl ?_); refine goesL_ (some 21) rfl rfl Tryd.func48 (by kernel_rfl) rfl #[.int .u64 t127, .int .u64 t131] rfl (by (try simp only [List.map_toArray, List.map_cons, List.map_nil]); first | done | rfl | (simp only [List.length_drop, List.length_take]; rfl)) ?_; (with_reducible refine (bits_Mul64.calls t127 t131 t134 t135 _ A7.out).mono ?_); rintro e w' ⟨rfl, ⟨nd, rfl⟩⟩; refine ⟨_, rfl, ?_⟩) | ((with_reducible refine gate_dst (N := 9) rfl ?_); refine box_event ?hg (N := 9) ?hd (cs := #[.int .u64 0, .int .u64 0]) (t := 69) ?hr ?_; (case hd => rfl); (case hg => rfl); (case hr => first | (go_simp; done) | (go_simp; rfl)); intro gb136 hg w41 hbox hb; have n0_ := Aside0.mk (blk_below (g := gb123) (o := .cells #[.int .u64 0, .int .u64 0] 69 (0, 0)) (by refine bq ?_; refine blk_far ?_ NB123_133.out _; refine bq ?_; refine blk_far ?_ NB123_133.out _; refine bq ?_; refine blk_far ?_ NB123_132.out _; refine bq ?_; refine blk_far ?_ NB123_132.out _; refine bq ?_; exact BK123.out) hb); have n1_ := Aside0.mk (blk_below (g := gb132) (o := .cells #[.int .u64 t126, .int .u64 t127] 69 (0, 0)) (by refine bq ?_; refine blk_far ?_ NB132_133.out _; refine bq ?_; refine blk_far ?_ NB132_133.out _; refine bq ?_; refine blk_put (cs := #[.int .u64 t126, .int .u64 0]) ?_ 1 _ rfl; refine bq ?_; refine blk_put (cs := #[.int .u64 0, .int .u64 0]) ?_ 0 _ rfl; refine bq ?_; exact BK132.out) hb); have n2_ := Aside0.mk (blk_below (g := gb133) (o := .cells #[.int .u64 t130, .int .u64 t131] 69 (0, 0)) (by refine bq ?_; refine blk_put (cs := #[.int .u64 t130, .int .u64 0]) ?_ 1 _ rfl; refine bq ?_; refine blk_put (cs := #[.int .u64 0, .int .u64 0]) ?_ 0 _ rfl; refine bq ?_; refine blk_far ?_ NB133_132.out _; refine bq ?_; refine blk_far ?_ NB133_132.out _; refine bq ?_; exact BK133.out) hb); have n3_ := Aside0.mk (below_step (wq HB.out) hb); have n4_ := Aside0.mk (hbox); have n5_ := Aside0.mk ((by rw [hg]; exact (below_size (wq HB.out)) : w.heap.size ≤ gb136)); have n6_ := n5_; have n7_ := Aside0.mk ((by rw [hg]; exact Nat.ne_of_lt (blk_lt (g := gb123) (o := .cells #[.int .u64 0, .int .u64 0] 69 (0, 0)) (by refine bq ?_; refine blk_far ?_ NB123_133.out _; refine bq ?_; refine blk_far ?_ NB123_133.out _; refine bq ?_; refine blk_far ?_ NB123_132.out _; refine bq ?_; refine blk_far ?_ NB123_132.out _; refine bq ?_; exact BK123.out)) : gb123 ≠ gb136)); have n8_ := Aside0.mk ((by rw [hg]; exact Nat.ne_of_gt (blk_lt (g := gb123) (o := .cells #[.int .u64 0, .int .u64 0] 69 (0, 0)) (by refine bq ?_; refine blk_far ?_ NB123_133.out _; refine bq ?_; refine blk_far ?_ NB123_133.out _; refine bq ?_; refine blk_far ?_ NB123_132.out _; refine bq ?_; refine blk_far ?_ NB123_132.out _; refine bq ?_; exact BK123.out)) : gb136 ≠ gb123)); have n9_ := Aside0.mk ((by rw [hg]; exact Nat.ne_of_lt (blk_lt (g := gb132) (o := .cells #[.int .u64 t126, .int .u64 t127] 69 (0, 0)) (by refine bq ?_; refine blk_far ?_ NB132_133.out _; refine bq ?_; refine blk_far ?_ NB132_133.out _; refine bq ?_; refine blk_put (cs := #[.int .u64 t126, .int .u64 0]) ?_ 1 _ rfl; refine bq ?_; refine blk_put (cs := #[.int .u64 0, .int .u64 0]) ?_ 0 _ rfl; refine bq ?_; exact BK132.out)) : gb132 ≠ gb136)); have n10_ := Aside0.mk ((by rw [hg]; exact Nat.ne_of_gt (blk_lt (g := gb132) (o := .cells #[.int .u64 t126, .int .u64 t127] 69 (0, 0)) (by refine bq ?_; refine blk_far ?_ NB132_133.out _; refine bq ?_; refine blk_far ?_ NB132_133.out _; refine bq ?_; refine blk_put (cs := #[.int .u64 t126, .int .u64 0]) ?_ 1 _ rfl; refine bq ?_; refine blk_put (cs := #[.int .u64 0, .int .u64 0]) ?_ 0 _ rfl; refine bq ?_; exact BK132.out)) : gb136 ≠ gb132)); have n11_ := Aside0.mk ((by rw [hg]; exact Nat.ne_of_lt (blk_lt (g := gb133) (o := .cells #[.int .u64 t130, .int .u64 t131] 69 (0, 0)) (by refine bq ?_; refine blk_put (cs := #[.int .u64 t130, .int .u64 0]) ?_ 1 _ rfl; refine bq ?_; refine blk_put (cs := #[.int .u64 0, .int .u64 0]) ?_ 0 _ rfl; refine bq ?_; refine blk_far ?_ NB133_132.out _; refine bq ?_; refine blk_far ?_ NB133_132.out _; refine bq ?_; exact BK133.out)) : gb133 ≠ gb136)); have n12_ := Aside0.mk ((by rw [hg]; exact Nat.ne_of_gt (blk_lt (g := gb133) (o := .cells #[.int .u64 t130, .int .u64 t131] 69 (0, 0)) (by refine bq ?_; refine blk_put (cs := #[.int .u64 t130, .int .u64 0]) ?_ 1 _ rfl; refine bq ?_; refine blk_put (cs := #[.int .u64 0, .int .u64 0]) ?_ 0 _ rfl; refine bq ?_; refine blk_far ?_ NB133_132.out _; refine bq ?_; refine blk_far ?_ NB133_132.out _; refine bq ?_; exact BK133.out)) : gb136 ≠ gb133)); clear BK123 BK132 BK133 HB; have BK123 := n0_; have BK132 := n1_; have BK133 := n2_; have HB := n3_; have BK136 := n4_; have GW136 := n5_; have GE136 := n6_; have NB123_136 := n7_; have NB136_123 := n8_; have NB132_136 := n9_; have NB136_132 := n10_; have NB133_136 := n11_; have NB136_133 := n12_; clear n0_ n1_ n2_ n3_ n4_ n5_ n6_ n7_ n8_ n9_ n10_ n11_ n12_ hb hbox hg; have hnb42 := NB136_123.out; have hnc42 := NB123_136.out; have hnb43 := NB136_132.out; have hnc43 := NB132_136.out; have hnb44 := NB136_133.out; have hnc44 := NB133_136.out; have hcz45_0 : w41.cell? ⟨gb136, 0, none⟩ = some (.int .u64 0) := (blk_cell BK136.out 0).trans rfl; have hcz45_1 : w41.cell? ⟨gb136, 1, none⟩ = some (.int .u64 0) := (blk_cell BK136.out 1).trans rfl; have hfz45_0 := blk_frozen BK136.out 0; have hfz45_1 := blk_frozen BK136.out 1; have hcz46_0 : w41.cell? ⟨gb123, 0, none⟩ = some (.int .u64 0) := (blk_cell BK123.out 0).trans rfl; have hcz46_1 : w41.cell? ⟨gb123, 1, none⟩ = some (.int .u64 0) := (blk_cell BK123.out 1).trans rfl; have hfz46_0 := blk_frozen BK123.out 0; have hfz46_1 := blk_frozen BK123.out 1))
  refine bodyPost_ret (results_cell_row rfl _ _ gb123 69 #[.int .u64 t134, .int .u64 t135] (0, 0) _ rfl (by refine bq ?_; refine blk_put (cs := #[.int .u64 t134, .int .u64 0]) ?_ 1 _ rfl; refine bq ?_; refine blk_put (cs := #[.int .u64 0, .int .u64 0]) ?_ 0 _ rfl; refine bq ?_; refine blk_far ?_ NB123_136.out _; refine bq ?_; refine blk_far ?_ NB123_136.out _; refine bq ?_; exact BK123.out) Tryd.underlying69 rfl (by kernel_rfl)) rfl ?_
  exact ⟨by first | rfl | (simp [errW_none, errW_some] <;> rfl) | (simp [*, errW_none, errW_some] <;> rfl), by exact wq HB.out⟩
def wide_big_shifted.f (a0_0 : Int) (a0_1 : Int) (a1 : Int) : Option (Int × Int) := if a1 = 0 then (some (a0_0, a0_1)) else (if 0 ≤ (IntKind.u64.wrap (wrap64 (a1 - 1))) then ((wide_big_add.f a0_0 a0_1 0 (shl .u64 1 (IntKind.u64.wrap (wrap64 (a1 - 1))))).bind fun bt141 => (if 0 ≤ (IntKind.u64.wrap (a1)) then (if 0 ≤ (IntKind.u64.wrap (wrap64 (64 - a1))) then (some (IntKind.u64.wrap (shr .i64 (wrap64 (bt141.1)) (IntKind.u64.wrap (a1))), Go.bits .or .u64 (shl .u64 bt141.1 (IntKind.u64.wrap (wrap64 (64 - a1)))) (shr .u64 bt141.2 (IntKind.u64.wrap (a1))))) else (none)) else (none))) else (none))
set_option maxHeartbeats 8000000 in
set_option maxRecDepth 100000 in
theorem wide_big_shifted.calls (a0_0 : Int) (a0_1 : Int) (a1 : Int) (r1 : Int) (r2 : Int) (w : World) (h : wide_big_shifted.f a0_0 a0_1 a1 = some (r1, r2)) :
  Calls Tryd.prog 39 #[.agg #[.int .u64 a0_0, .int .u64 a0_1], .int .i64 a1] w fun e w' => e = .returned (.agg #[.int .u64 r1, .int .u64 r2]) ∧ Below w.heap.size w w' := by
 have hu69 := Tryd.underlying69
 have HB := Aside0.mk (Below.refl w.heap.size w)
 have H : (if a1 = 0 then (some (a0_0, a0_1)) else (if 0 ≤ (IntKind.u64.wrap (wrap64 (a1 - 1))) then ((wide_big_add.f a0_0 a0_1 0 (shl .u64 1 (IntKind.u64.wrap (wrap64 (a1 - 1))))).bind fun bt141 => (if 0 ≤ (IntKind.u64.wrap (a1)) then (if 0 ≤ (IntKind.u64.wrap (wrap64 (64 - a1))) then (some (IntKind.u64.wrap (shr .i64 (wrap64 (bt141.1)) (IntKind.u64.wrap (a1))), Go.bits .or .u64 (shl .u64 bt141.1 (IntKind.u64.wrap (wrap64 (64 - a1)))) (shr .u64 bt141.2 (IntKind.u64.wrap (a1))))) else (none)) else (none))) else (none))) = some (r1, r2) := h
 clear h
 by_cases c3 : a1 = 0
 ·
  rw [if_pos c3] at H
  have c3b0 : (a1 == 0) = true := beq_iff_eq.mpr c3
  have c3b1 : (a1 != 0) = false := bne_eq_false_iff_eq.mpr c3
  clear c3
  simp only [Option.some.injEq, Prod.mk.injEq] at H
  obtain ⟨rfl, rfl⟩ := H
  go_enter Tryd.func39, Tryd.ntmps39
  go_wp2_with (first | ((with_reducible refine gate_dst (N := 2) rfl ?_); refine box_event ?hg (N := 2) ?hd (cs := #[.int .u64 a0_0, .int .u64 a0_1]) (t := 69) ?hr ?_; (case hd => rfl); (case hg => rfl); (case hr => first | (go_simp; done) | (go_simp; rfl)); intro gb139 hg w4 hbox hb; have n0_ := Aside0.mk (below_step (wq HB.out) hb); have n1_ := Aside0.mk (hbox); have n2_ := Aside0.mk ((by rw [hg]; exact (below_size (wq HB.out)) : w.heap.size ≤ gb139)); have n3_ := n2_; clear HB; have HB := n0_; have BK139 := n1_; have GW139 := n2_; have GE139 := n3_; clear n0_ n1_ n2_ n3_ hb hbox hg) | ((with_reducible refine gate_dst (N := 4) rfl ?_); refine box_event ?hg (N := 4) ?hd (cs := #[.int .u64 0, .int .u64 0]) (t := 69) ?hr ?_; (case hd => rfl); (case hg => rfl); (case hr => first | (go_simp; done) | (go_simp; rfl)); intro gb140 hg w5 hbox hb; have n0_ := Aside0.mk (blk_below (bq BK139.out) hb); have n1_ := Aside0.mk (below_step (wq HB.out) hb); have n2_ := Aside0.mk (hbox); have n3_ := Aside0.mk ((by rw [hg]; exact (below_size (wq HB.out)) : w.heap.size ≤ gb140)); have n4_ := n3_; have n5_ := Aside0.mk ((by rw [hg]; exact Nat.ne_of_lt (blk_lt (bq BK139.out)) : gb139 ≠ gb140)); have n6_ := Aside0.mk ((by rw [hg]; exact Nat.ne_of_gt (blk_lt (bq BK139.out)) : gb140 ≠ gb139)); clear BK139 HB; have BK139 := n0_; have HB := n1_; have BK140 := n2_; have GW140 := n3_; have GE140 := n4_; have NB139_140 := n5_; have NB140_139 := n6_; clear n0_ n1_ n2_ n3_ n4_ n5_ n6_ hb hbox hg; have hnb6 := NB139_140.out; have hnc6 := NB140_139.out; have hcz7_0 : w5.cell? ⟨gb139, 0, none⟩ = some (.int .u64 a0_0) := (blk_cell BK139.out 0).trans rfl; have hcz7_1 : w5.cell? ⟨gb139, 1, none⟩ = some (.int .u64 a0_1) := (blk_cell BK139.out 1).trans rfl; have hfz7_0 := blk_frozen BK139.out 0; have hfz7_1 := blk_frozen BK139.out 1; have hcz8_0 : w5.cell? ⟨gb140, 0, none⟩ = some (.int .u64 0) := (blk_cell BK140.out 0).trans rfl; have hcz8_1 : w5.cell? ⟨gb140, 1, none⟩ = some (.int .u64 0) := (blk_cell BK140.out 1).trans rfl; have hfz8_0 := blk_frozen BK140.out 0; have hfz8_1 := blk_frozen BK140.out 1))
  refine bodyPost_ret (results_cell_row rfl _ _ gb140 69 #[.int .u64 a0_0, .int .u64 a0_1] (0, 0) _ rfl (by refine bq ?_; refine blk_put (cs := #[.int .u64 a0_0, .int .u64 0]) ?_ 1 _ rfl; refine bq ?_; refine blk_put (cs := #[.int .u64 0, .int .u64 0]) ?_ 0 _ rfl; refine bq ?_; exact BK140.out) Tryd.underlying69 rfl (by kernel_rfl)) rfl ?_
  exact ⟨by first | rfl | (simp [errW_none, errW_some] <;> rfl) | (simp [*, errW_none, errW_some] <;> rfl), by exact wq HB.out⟩
 ·
  rw [if_neg c3] at H
  have c3b0 : (a1 == 0) = false := beq_eq_false_iff_ne.mpr c3
  have c3b1 : (a1 != 0) = true := bne_iff_ne.mpr c3
  obtain ⟨ji9, hji9⟩ : ∃ j_ : Int, (IntKind.u64.wrap (wrap64 (a1 - 1))) = j_ := ⟨_, rfl⟩
  replace H : (if 0 ≤ (ji9) then ((wide_big_add.f a0_0 a0_1 0 (shl .u64 1 (ji9))).bind fun bt141 => (if 0 ≤ (IntKind.u64.wrap (a1)) then (if 0 ≤ (IntKind.u64.wrap (wrap64 (64 - a1))) then (some (IntKind.u64.wrap (shr .i64 (wrap64 (bt141.1)) (IntKind.u64.wrap (a1))), Go.bits .or .u64 (shl .u64 bt141.1 (IntKind.u64.wrap (wrap64 (64 - a1)))) (shr .u64 bt141.2 (IntKind.u64.wrap (a1))))) else (none)) else (none))) else (none)) = some (r1, r2) := by first | (rw [hji9] at H; exact H) | (simp only [hji9] at H ⊢; exact H)
  by_cases c10 : 0 ≤ (ji9)
  ·
   rw [if_pos c10] at H
   have c10b0 := eq_true c10
   have c10b1 : decide (0 ≤ (ji9)) = true := decide_eq_true c10
   clear c10
   obtain ⟨ji11, hji11⟩ : ∃ j_ : Int, (shl .u64 1 (ji9)) = j_ := ⟨_, rfl⟩
   replace H : ((wide_big_add.f a0_0 a0_1 0 (ji11)).bind fun bt141 => (if 0 ≤ (IntKind.u64.wrap (a1)) then (if 0 ≤ (IntKind.u64.wrap (wrap64 (64 - a1))) then (some (IntKind.u64.wrap (shr .i64 (wrap64 (bt141.1)) (IntKind.u64.wrap (a1))), Go.bits .or .u64 (shl .u64 bt141.1 (IntKind.u64.wrap (wrap64 (64 - a1)))) (shr .u64 bt141.2 (IntKind.u64.wrap (a1))))) else (none)) else (none))) = some (r1, r2) := by first | (rw [hji11] at H; exact H) | (simp only [hji11] at H ⊢; exact H)
   have hji11_ : (IntKind.u64.wrap (1 * 2 ^ min (ji9).toNat 64)) = ji11 := hji11
   have hji11z : (ji9) ≤ 64 → (IntKind.u64.wrap (1 * 2 ^ (ji9).toNat)) = ji11 := shl_small hji11
   have hji11u : (IntKind.u64.wrap (2 ^ min (ji9).toNat 64)) = ji11 := by have h_ := hji11_; rw [Int.one_mul] at h_; exact h_
   have hji11v : (ji9) ≤ 64 → (IntKind.u64.wrap (2 ^ (ji9).toNat)) = ji11 := fun hle_ => by have h_ := hji11z hle_; rw [Int.one_mul] at h_; exact h_
   replace H := Option.bind_eq_some_iff.mp H
   obtain ⟨⟨t141, t142⟩, A120, H⟩ := H
   replace H : (if 0 ≤ (IntKind.u64.wrap (a1)) then (if 0 ≤ (IntKind.u64.wrap (wrap64 (64 - a1))) then (some (IntKind.u64.wrap (shr .i64 (wrap64 (t141)) (IntKind.u64.wrap (a1))), Go.bits .or .u64 (shl .u64 t141 (IntKind.u64.wrap (wrap64 (64 - a1)))) (shr .u64 t142 (IntKind.u64.wrap (a1))))) else (none)) else (none)) = some (r1, r2) := H
   have A12 := Aside0.mk A120
   clear A120
   obtain ⟨ji13, hji13⟩ : ∃ j_ : Int, (IntKind.u64.wrap (a1)) = j_ := ⟨_, rfl⟩
   replace H : (if 0 ≤ (ji13) then (if 0 ≤ (IntKind.u64.wrap (wrap64 (64 - a1))) then (some (IntKind.u64.wrap (shr .i64 (wrap64 (t141)) (ji13)), Go.bits .or .u64 (shl .u64 t141 (IntKind.u64.wrap (wrap64 (64 - a1)))) (shr .u64 t142 (ji13)))) else (none)) else (none)) = some (r1, r2) := by first | (rw [hji13] at H; exact H) | (simp only [hji13] at H ⊢; exact H)
   (try rw [hji13] at A12)
   by_cases c14 : 0 ≤ (ji13)
   ·
    rw [if_pos c14] at H
    have c14b0 := eq_true c14
    have c14b1 : decide (0 ≤ (ji13)) = true := decide_eq_true c14
    clear c14
    obtain ⟨ji15, hji15⟩ : ∃ j_ : Int, (shr .i64 (wrap64 (t141)) (ji13)) = j_ := ⟨_, rfl⟩
    replace H : (if 0 ≤ (IntKind.u64.wrap (wrap64 (64 - a1))) then (some (IntKind.u64.wrap (ji15), Go.bits .or .u64 (shl .u64 t141 (IntKind.u64.wrap (wrap64 (64 - a1)))) (shr .u64 t142 (ji13)))) else (none)) = some (r1, r2) := by first | (rw [hji15] at H; exact H) | (simp only [hji15] at H ⊢; exact H)
    (try rw [hji15] at A12)
    have hji15_ : ((wrap64 (t141)) / 2 ^ min (ji13).toNat 64) = ji15 := hji15
    have hji15z : (ji13) ≤ 64 → ((wrap64 (t141)) / 2 ^ (ji13).toNat) = ji15 := shr_small hji15
    obtain ⟨ji16, hji16⟩ : ∃ j_ : Int, (IntKind.u64.wrap (wrap64 (64 - a1))) = j_ := ⟨_, rfl⟩
    replace H : (if 0 ≤ (ji16) then (some (IntKind.u64.wrap (ji15), Go.bits .or .u64 (shl .u64 t141 (ji16)) (shr .u64 t142 (ji13)))) else (none)) = some (r1, r2) := by first | (rw [hji16] at H; exact H) | (simp only [hji16] at H ⊢; exact H)
    (try rw [hji16] at A12)
    by_cases c17 : 0 ≤ (ji16)
    ·
     rw [if_pos c17] at H
     have c17b0 := eq_true c17
     have c17b1 : decide (0 ≤ (ji16)) = true := decide_eq_true c17
     clear c17
     obtain ⟨ji18, hji18⟩ : ∃ j_ : Int, (shl .u64 t141 (ji16)) = j_ := ⟨_, rfl⟩
     replace H : (some (IntKind.u64.wrap (ji15), Go.bits .or .u64 (ji18) (shr .u64 t142 (ji13)))) = some (r1, r2) := by first | (rw [hji18] at H; exact H) | (simp only [hji18] at H ⊢; exact H)
     (try rw [hji18] at A12)
     have hji18_ : (IntKind.u64.wrap (t141 * 2 ^ min (ji16).toNat 64)) = ji18 := hji18
     have hji18z : (ji16) ≤ 64 → (IntKind.u64.wrap (t141 * 2 ^ (ji16).toNat)) = ji18 := shl_small hji18
     have c19b0 := eq_true (of_decide_eq_true (by first | (with_reducible assumption) | assumption) : 0 ≤ (ji13))
     obtain ⟨ji20, hji20⟩ : ∃ j_ : Int, (shr .u64 t142 (ji13)) = j_ := ⟨_, rfl⟩
     replace H : (some (IntKind.u64.wrap (ji15), Go.bits .or .u64 (ji18) (ji20))) = some (r1, r2) := by first | (rw [hji20] at H; exact H) | (simp only [hji20] at H ⊢; exact H)
     (try rw [hji20] at A12)
     have hji20_ : (t142 / 2 ^ min (ji13).toNat 64) = ji20 := hji20
     have hji20z : (ji13) ≤ 64 → (t142 / 2 ^ (ji13).toNat) = ji20 := shr_small hji20
     simp only [Option.some.injEq, Prod.mk.injEq] at H
     obtain ⟨rfl, rfl⟩ := H
     go_enter Tryd.func39, Tryd.ntmps39
     go_wp2_with (first | ((with_reducible refine gate_dst (N := 2) rfl ?_); refine box_event ?hg (N := 2) ?hd (cs := #[.int .u64 a0_0, .int .u64 a0_1]) (t := 69) ?hr ?_; (case hd => rfl); (case hg => rfl); (case hr => first | (go_simp; done) | (go_simp; rfl)); intro gb139 hg w21 hbox hb; have n0_ := Aside0.mk (below_step (wq HB.out) hb); have n1_ := Aside0.mk (hbox); have n2_ := Aside0.mk ((by rw [hg]; exact (below_size (wq HB.out)) : w.heap.size ≤ gb139)); have n3_ := n2_; clear HB; have HB := n0_; have BK139 := n1_; have GW139 := n2_; have GE139 := n3_; clear n0_ n1_ n2_ n3_ hb hbox hg) | ((with_reducible refine gate_dst (N := 4) rfl ?_); refine box_event ?hg (N := 4) ?hd (cs := #[.int .u64 0, .int .u64 0]) (t := 69) ?hr ?_; (case hd => rfl); (case hg => rfl); (case hr => first | (go_simp; done) | (go_simp; rfl)); intro gb140 hg w22 hbox hb; have n0_ := Aside0.mk (blk_below (bq BK139.out) hb); have n1_ := Aside0.mk (below_step (wq HB.out) hb); have n2_ := Aside0.mk (hbox); have n3_ := Aside0.mk ((by rw [hg]; exact (below_size (wq HB.out)) : w.heap.size ≤ gb140)); have n4_ := n3_; have n5_ := Aside0.mk ((by rw [hg]; exact Nat.ne_of_lt (blk_lt (bq BK139.out)) : gb139 ≠ gb140)); have n6_ := Aside0.mk ((by rw [hg]; exact Nat.ne_of_gt (blk_lt (bq BK139.out)) : gb140 ≠ gb139)); clear BK139 HB; have BK139 := n0_; have HB := n1_; have BK140 := n2_; have GW140 := n3_; have GE140 := n4_; have NB139_140 := n5_; have NB140_139 := n6_; clear n0_ n1_ n2_ n3_ n4_ n5_ n6_ hb hbox hg; have hnb23 := NB139_140.out; have hnc23 := NB140_139.out; have hcz24_0 : w22.cell? ⟨gb139, 0, none⟩ = some (.int .u64 a0_0) := (blk_cell BK139.out 0).trans rfl; have hcz24_1 : w22.cell? ⟨gb139, 1, none⟩ = some (.int .u64 a0_1) := (blk_cell BK139.out 1).trans rfl; have hfz24_0 := blk_frozen BK139.out 0; have hfz24_1 := blk_frozen BK139.out 1) | ((with_reducible refine gate_callee (f := 38) rfl ?_); refine goesL_ (some 14) rfl rfl Tryd.func38 (by kernel_rfl) rfl #[.agg #[.int .u64 a0_0, .int .u64 a0_1], .agg #[.int .u64 0, .int .u64 ji11]] rfl (by (try simp only [List.map_toArray, List.map_cons, List.map_nil]); first | done | (simp only [hji11]; rfl) | rfl | (simp only [List.length_drop, List.length_take]; rfl)) ?_; (with_reducible refine (wide_big_add.calls a0_0 a0_1 0 ji11 t141 t142 _ A12.out).mono ?_); rintro e w25 ⟨rfl, hb⟩; refine ⟨_, rfl, ?_⟩; have n0_ := Aside0.mk (blk_below (bq BK139.out) hb); have n1_ := Aside0.mk (blk_below (bq BK140.out) hb); have n2_ := Aside0.mk (below_step (wq HB.out) hb); clear BK139 BK140 HB; have BK139 := n0_; have BK140 := n1_; have HB := n2_; clear n0_ n1_ n2_; (try clear hb); (try clear hb2); (try clear hk); (try clear hi); have hcz26_0 : w25.cell? ⟨gb139, 0, none⟩ = some (.int .u64 a0_0) := (blk_cell BK139.out 0).trans rfl; have hcz26_1 : w25.cell? ⟨gb139, 1, none⟩ = some (.int .u64 a0_1) := (blk_cell BK139.out 1).trans rfl; have hfz26_0 := blk_frozen BK139.out 0; have hfz26_1 := blk_frozen BK139.out 1; have hcz27_0 : w25.cell? ⟨gb140, 0, none⟩ = some (.int .u64 0) := (blk_cell BK140.out 0).trans rfl; have hcz27_1 : w25.cell? ⟨gb140, 1, none⟩ = some (.int .u64 0) := (blk_cell BK140.out 1).trans rfl; have hfz27_0 := blk_frozen BK140.out 0; have hfz27_1 := blk_frozen BK140.out 1))
     refine bodyPost_ret (results_cell_row rfl _ _ gb140 69 #[.int .u64 (IntKind.u64.wrap (ji15)), .int .u64 (Go.bits .or .u64 (ji18) (ji20))] (0, 0) _ rfl (by refine bq ?_; refine blk_put (cs := #[.int .u64 (IntKind.u64.wrap (ji15)), .int .u64 0]) ?_ 1 _ rfl; refine bq ?_; refine blk_put (cs := #[.int .u64 0, .int .u64 0]) ?_ 0 _ rfl; refine bq ?_; refine blk_far ?_ NB140_139.out _; refine bq ?_; refine blk_far ?_ NB140_139.out _; refine bq ?_; exact BK140.out) Tryd.underlying69 rfl (by kernel_rfl)) rfl ?_
     exact ⟨by first | rfl | (simp [errW_none, errW_some] <;> rfl) | (simp only [← hji9, ← hji11, ← hji13, ← hji15, ← hji16, ← hji18, ← hji20]; first | rfl | (simp [errW_none, errW_some] <;> rfl)) | (simp [*, errW_none, errW_some] <;> rfl), by exact wq HB.out⟩
    ·
     rw [if_neg c17] at H
     exact absurd H (by simp)
   ·
    rw [if_neg c14] at H
    exact absurd H (by simp)
  ·
   rw [if_neg c10] at H
   exact absurd H (by simp)
def wide_big_plain.f (a0_0 : Int) (a0_1 : Int) : Option (Int × Bool) := (wide_of.f (wrap64 (a0_1))).bind fun bt144 => (if (!(bt144.1 == a0_0) || (!(bt144.2 == a0_1))) = true then (some (0, false)) else (some (wrap64 (a0_1), true)))
set_option maxHeartbeats 8000000 in
set_option maxRecDepth 100000 in
theorem wide_big_plain.calls (a0_0 : Int) (a0_1 : Int) (r1 : Int) (r2 : Bool) (w : World) (h : wide_big_plain.f a0_0 a0_1 = some (r1, r2)) :
  Calls Tryd.prog 40 #[.agg #[.int .u64 a0_0, .int .u64 a0_1]] w fun e w' => e = .returned (.tuple #[.int .i64 r1, .bool r2]) ∧ Below w.heap.size w w' := by
 have hu69 := Tryd.underlying69
 have HB := Aside0.mk (Below.refl w.heap.size w)
 have H : ((wide_of.f (wrap64 (a0_1))).bind fun bt144 => (if (!(bt144.1 == a0_0) || (!(bt144.2 == a0_1))) = true then (some (0, false)) else (some (wrap64 (a0_1), true)))) = some (r1, r2) := h
 clear h
 replace H := Option.bind_eq_some_iff.mp H
 obtain ⟨⟨t144, t145⟩, A20, H⟩ := H
 replace H : (if (!(t144 == a0_0) || (!(t145 == a0_1))) = true then (some (0, false)) else (some (wrap64 (a0_1), true))) = some (r1, r2) := H
 have A2 := Aside0.mk A20
 clear A20
 by_cases c3 : (!(t144 == a0_0) || (!(t145 == a0_1))) = true
 ·
  rw [if_pos c3] at H
  have c3b0 : (!(t144 == a0_0) || (!(t145 == a0_1))) = true := c3
  clear c3
  simp only [Option.some.injEq, Prod.mk.injEq] at H
  obtain ⟨rfl, rfl⟩ := H
  go_enter Tryd.func40, Tryd.ntmps40
  try go_wp2_with (first | ((with_reducible refine gate_dst (N := 1) rfl ?_); refine box_event ?hg (N := 1) ?hd (cs := #[.int .u64 a0_0, .int .u64 a0_1]) (t := 69) ?hr ?_; (case hd => rfl); (case hg => rfl); (case hr => first | (go_simp; done) | (go_simp; rfl)); intro gb143 hg w4 hbox hb; have n0_ := Aside0.mk (below_step (wq HB.out) hb); have n1_ := Aside0.mk (hbox); have n2_ := Aside0.mk ((by rw [hg]; exact (below_size (wq HB.out)) : w.heap.size ≤ gb143)); have n3_ := n2_; clear HB; have HB := n0_; have BK143 := n1_; have GW143 := n2_; have GE143 := n3_; clear n0_ n1_ n2_ n3_ hb hbox hg))
  have n0_ := Aside0.mk (blk_drew BK143.out)
  have n1_ := Aside0.mk (below_drew1 HB.out)
  clear BK143 HB; have BK143 := n0_; have HB := n1_; clear n0_ n1_
  refine start_ (n := 6) (S := fun w' => w'.cell? ⟨gb143, 0, none⟩ = some (.int .u64 a0_0) ∧ w'.cell? ⟨gb143, 1, none⟩ = some (.int .u64 a0_1)) (ds := []) (bt 0 6) (by kernel_rfl) rfl rfl ⟨(blk_cell BK143.out 0).trans rfl, (blk_cell BK143.out 1).trans rfl⟩ (fun hHeld => ?_)
  generalize w4.drew = w5 at BK143 HB hHeld ⊢
  refine pure_ (i := 0) (N := some 4) (v := ?_) (a' := ?_) (bt 1 5) rfl rfl (by kernel_rfl) (fun _ _ _ h => h) (Or.inl ⟨by rfl, ?_⟩) ?_ ?_
  rotate_left; focus (intro w'; go_simp; with_reducible rfl)
  rotate_left; focus (simp only [apz, i64_w, i32_w]; rfl)
  refine take_ (i := 1) (N := some 5) (v := ?_) (a' := ?_) (bt 2 4) rfl rfl (by kernel_rfl) (fun _ _ _ h => h) (Or.inl ⟨by rfl, ?_⟩) hHeld ?_ ?_
  rotate_left
  ·
   rintro w' ⟨s0, s1⟩
   go_simp
   with_reducible rfl
  rotate_left; focus (simp only [apz, i64_w, i32_w]; rfl)
  refine pure_ (i := 2) (N := some 6) (v := ?_) (a' := ?_) (bt 3 3) rfl rfl (by kernel_rfl) (fun _ _ _ h => h) (Or.inl ⟨by rfl, ?_⟩) ?_ ?_
  rotate_left; focus (intro w'; go_simp; with_reducible rfl)
  rotate_left; focus (simp only [apz, i64_w, i32_w]; rfl)
  refine take_ (i := 4) (N := some 8) (v := ?_) (a' := ?_) #[true, true, true, false, true, false] rfl rfl (by kernel_rfl) (fun _ _ _ h => h) (Or.inl ⟨by rfl, ?_⟩) hHeld ?_ ?_
  rotate_left
  ·
   rintro w' ⟨s0, s1⟩
   go_simp
   with_reducible rfl
  rotate_left; focus (simp only [apz, i64_w, i32_w]; rfl)
  refine one_ (i := 3) (N := some 7) (bt 5 1) rfl rfl (by kernel_rfl) (by decide) (fun K hK => ?_)
  refine goes_ Tryd.func41 (by kernel_rfl) rfl #[.int .i64 (wrap64 (a0_1))] (by rfl) rfl rfl (by (try simp only [List.map_toArray, List.map_cons, List.map_nil]); first | done | rfl | (simp only [List.length_drop, List.length_take]; rfl)) ?_
  with_reducible refine (wide_of.calls (wrap64 (a0_1)) t144 t145 _ A2.out).mono ?_
  rintro e w6 ⟨rfl, hb⟩
  refine ⟨_, rfl, ?_⟩
  have n0_ := Aside0.mk (blk_below (bq BK143.out) hb)
  have n1_ := Aside0.mk (below_step (wq HB.out) hb)
  clear BK143 HB; have BK143 := n0_; have HB := n1_; clear n0_ n1_
  (try clear hb)
  (try clear hb2)
  (try clear hk)
  (try clear hi)
  refine hK.out _ _ ⟨(blk_cell BK143.out 0).trans rfl, (blk_cell BK143.out 1).trans rfl⟩ (fun hHeld => ?_)
  clear hK K
  refine norm_ (a' := ?_) ?_ ?_
  rotate_left
  ·
   show Act.put _ (some 7) _ = _
   simp only [apz, i64_w, i32_w]
   rfl
  refine pure_ (i := 5) (N := some 9) (v := ?_) (a' := ?_) (bt 6 0) rfl rfl (by kernel_rfl) (fun _ _ _ h => h) (Or.inl ⟨by rfl, ?_⟩) ?_ ?_
  rotate_left; focus (intro w'; go_simp; with_reducible rfl)
  rotate_left; focus (simp only [apz, i64_w, i32_w]; rfl)
  refine done_ (by kernel_rfl) ?_
  try go_wp2
  go_ret2
  exact ⟨by first | rfl | (simp [errW_none, errW_some] <;> rfl) | (simp [*, errW_none, errW_some] <;> rfl), by exact wq HB.out⟩
 ·
  rw [if_neg c3] at H
  have c3b0 : (!(t144 == a0_0) || (!(t145 == a0_1))) = false := by simpa using c3
  clear c3
  simp only [Option.some.injEq, Prod.mk.injEq] at H
  obtain ⟨rfl, rfl⟩ := H
  go_enter Tryd.func40, Tryd.ntmps40
  try go_wp2_with (first | ((with_reducible refine gate_dst (N := 1) rfl ?_); refine box_event ?hg (N := 1) ?hd (cs := #[.int .u64 a0_0, .int .u64 a0_1]) (t := 69) ?hr ?_; (case hd => rfl); (case hg => rfl); (case hr => first | (go_simp; done) | (go_simp; rfl)); intro gb143 hg w7 hbox hb; have n0_ := Aside0.mk (below_step (wq HB.out) hb); have n1_ := Aside0.mk (hbox); have n2_ := Aside0.mk ((by rw [hg]; exact (below_size (wq HB.out)) : w.heap.size ≤ gb143)); have n3_ := n2_; clear HB; have HB := n0_; have BK143 := n1_; have GW143 := n2_; have GE143 := n3_; clear n0_ n1_ n2_ n3_ hb hbox hg))
  have n0_ := Aside0.mk (blk_drew BK143.out)
  have n1_ := Aside0.mk (below_drew1 HB.out)
  clear BK143 HB; have BK143 := n0_; have HB := n1_; clear n0_ n1_
  refine start_ (n := 6) (S := fun w' => w'.cell? ⟨gb143, 0, none⟩ = some (.int .u64 a0_0) ∧ w'.cell? ⟨gb143, 1, none⟩ = some (.int .u64 a0_1)) (ds := []) (bt 0 6) (by kernel_rfl) rfl rfl ⟨(blk_cell BK143.out 0).trans rfl, (blk_cell BK143.out 1).trans rfl⟩ (fun hHeld => ?_)
  generalize w7.drew = w8 at BK143 HB hHeld ⊢
  refine pure_ (i := 0) (N := some 4) (v := ?_) (a' := ?_) (bt 1 5) rfl rfl (by kernel_rfl) (fun _ _ _ h => h) (Or.inl ⟨by rfl, ?_⟩) ?_ ?_
  rotate_left; focus (intro w'; go_simp; with_reducible rfl)
  rotate_left; focus (simp only [apz, i64_w, i32_w]; rfl)
  refine take_ (i := 1) (N := some 5) (v := ?_) (a' := ?_) (bt 2 4) rfl rfl (by kernel_rfl) (fun _ _ _ h => h) (Or.inl ⟨by rfl, ?_⟩) hHeld ?_ ?_
  rotate_left
  ·
   rintro w' ⟨s0, s1⟩
   go_simp
   with_reducible rfl
  rotate_left; focus (simp only [apz, i64_w, i32_w]; rfl)
  refine pure_ (i := 2) (N := some 6) (v := ?_) (a' := ?_) (bt 3 3) rfl rfl (by kernel_rfl) (fun _ _ _ h => h) (Or.inl ⟨by rfl, ?_⟩) ?_ ?_
  rotate_left; focus (intro w'; go_simp; with_reducible rfl)
  rotate_left; focus (simp only [apz, i64_w, i32_w]; rfl)
  refine take_ (i := 4) (N := some 8) (v := ?_) (a' := ?_) #[true, true, true, false, true, false] rfl rfl (by kernel_rfl) (fun _ _ _ h => h) (Or.inl ⟨by rfl, ?_⟩) hHeld ?_ ?_
  rotate_left
  ·
   rintro w' ⟨s0, s1⟩
   go_simp
   with_reducible rfl
  rotate_left; focus (simp only [apz, i64_w, i32_w]; rfl)
  refine one_ (i := 3) (N := some 7) (bt 5 1) rfl rfl (by kernel_rfl) (by decide) (fun K hK => ?_)
  refine goes_ Tryd.func41 (by kernel_rfl) rfl #[.int .i64 (wrap64 (a0_1))] (by rfl) rfl rfl (by (try simp only [List.map_toArray, List.map_cons, List.map_nil]); first | done | rfl | (simp only [List.length_drop, List.length_take]; rfl)) ?_
  with_reducible refine (wide_of.calls (wrap64 (a0_1)) t144 t145 _ A2.out).mono ?_
  rintro e w9 ⟨rfl, hb⟩
  refine ⟨_, rfl, ?_⟩
  have n0_ := Aside0.mk (blk_below (bq BK143.out) hb)
  have n1_ := Aside0.mk (below_step (wq HB.out) hb)
  clear BK143 HB; have BK143 := n0_; have HB := n1_; clear n0_ n1_
  (try clear hb)
  (try clear hb2)
  (try clear hk)
  (try clear hi)
  refine hK.out _ _ ⟨(blk_cell BK143.out 0).trans rfl, (blk_cell BK143.out 1).trans rfl⟩ (fun hHeld => ?_)
  clear hK K
  refine norm_ (a' := ?_) ?_ ?_
  rotate_left
  ·
   show Act.put _ (some 7) _ = _
   simp only [apz, i64_w, i32_w]
   rfl
  refine pure_ (i := 5) (N := some 9) (v := ?_) (a' := ?_) (bt 6 0) rfl rfl (by kernel_rfl) (fun _ _ _ h => h) (Or.inl ⟨by rfl, ?_⟩) ?_ ?_
  rotate_left; focus (intro w'; go_simp; with_reducible rfl)
  rotate_left; focus (simp only [apz, i64_w, i32_w]; rfl)
  refine done_ (by kernel_rfl) ?_
  have hcz10_0 : w9.cell? ⟨gb143, 0, none⟩ = some (.int .u64 a0_0) := (blk_cell BK143.out 0).trans rfl
  have hcz10_1 : w9.cell? ⟨gb143, 1, none⟩ = some (.int .u64 a0_1) := (blk_cell BK143.out 1).trans rfl
  have hfz10_0 := blk_frozen BK143.out 0
  have hfz10_1 := blk_frozen BK143.out 1
  try go_wp2
  go_ret2
  exact ⟨by first | rfl | (simp [errW_none, errW_some] <;> rfl) | (simp [*, errW_none, errW_some] <;> rfl), by exact wq HB.out⟩
end Go.Proofs.YtbnjgaeeojcjbaaDoor.PR
namespace Go.Proofs.YtbnjgaeeojcjbaaDoor.PR
open Go.RowKit Go.Proofs.YtbnjgaeeojcjbaaDoorW.PrintWords Go.Proofs.YtbnjgaeeojcjbaaDoorW.PrintLast Go.Proofs.YtbnjgaeeojcjbaaDoorW.PrintMore
attribute [local go_sem] max2_int min2_int max_two min_two max_three min_three max_four min_four
set_option linter.unusedVariables false
set_option linter.unusedSimpArgs false
mutual
def wide_Dot.j0 : Nat → Int → Int → Int → Int → Int → Bool → Option (Int × Bool)
 | 0, _, _, _, _, _, _ => none
 | k + 1, x0, x1, x2, x3, x4, x17 => if x17 = true then (some (0, false)) else (if x0 = (-9223372036854775808) then (if x1 = x0 then (if x2 = x0 then (wide_Dot.j1 k x0 x1 x2 x3 x4 (x3 == x0)) else (wide_Dot.j1 k x0 x1 x2 x3 x4 false)) else (wide_Dot.j1 k x0 x1 x2 x3 x4 false)) else (wide_Dot.j1 k x0 x1 x2 x3 x4 false))
def wide_Dot.j1 : Nat → Int → Int → Int → Int → Int → Bool → Option (Int × Bool)
 | 0, _, _, _, _, _, _ => none
 | k + 1, x0, x1, x2, x3, x4, x34 => if x34 = true then (some (0, false)) else ((wide_times.f x0 x1).bind fun bt146 => ((wide_times.f x2 x3).bind fun bt148 => ((wide_big_add.f bt146.1 bt146.2 bt148.1 bt148.2).bind fun bt150 => ((wide_big_shifted.f bt150.1 bt150.2 x4).bind fun bt152 => ((wide_big_plain.f bt152.1 bt152.2).bind fun bt154 => (some (bt154.1, bt154.2)))))))
end
def wide_Dot.f (k : Nat) (a0 : Int) (a1 : Int) (a2 : Int) (a3 : Int) (a4 : Int) : Option (Int × Bool) := if a4 < 0 then (wide_Dot.j0 k a0 a1 a2 a3 a4 true) else (wide_Dot.j0 k a0 a1 a2 a3 a4 (decide (a4 > 62)))
theorem wide_Dot.mono_l : ∀ k, (∀ y0 y1 y2 y3 y4 y5, LeO (wide_Dot.j0 k y0 y1 y2 y3 y4 y5) (wide_Dot.j0 (k + 1) y0 y1 y2 y3 y4 y5)) ∧ (∀ y0 y1 y2 y3 y4 y5, LeO (wide_Dot.j1 k y0 y1 y2 y3 y4 y5) (wide_Dot.j1 (k + 1) y0 y1 y2 y3 y4 y5))
 | 0 => ⟨fun _ _ _ _ _ _ r h => by simp [wide_Dot.j0] at h, fun _ _ _ _ _ _ r h => by simp [wide_Dot.j1] at h⟩
 | k + 1 => by
  obtain ⟨ih0, ih1⟩ := wide_Dot.mono_l k
  refine ⟨?_, ?_⟩
  ·
   intro y0 y1 y2 y3 y4 y5
   unfold wide_Dot.j0
   repeat' first
   | (with_reducible exact ih0 _ _ _ _ _ _)
   | (with_reducible exact ih1 _ _ _ _ _ _)
   | (with_reducible exact LeO.refl _)
   | (with_reducible exact LeO.none _)
   | (with_reducible refine LeO.ite ?_ ?_)
   | (with_reducible refine LeO.bind ?_ (fun _ => ?_))
   | exact ih0 _ _ _ _ _ _
   | exact ih1 _ _ _ _ _ _
   | exact LeO.none _
   | refine LeO.ite ?_ ?_
   | refine LeO.bind ?_ (fun _ => ?_)
  ·
   intro y0 y1 y2 y3 y4 y5
   unfold wide_Dot.j1
   repeat' first
   | (with_reducible exact ih0 _ _ _ _ _ _)
   | (with_reducible exact ih1 _ _ _ _ _ _)
   | (with_reducible exact LeO.refl _)
   | (with_reducible exact LeO.none _)
   | (with_reducible refine LeO.ite ?_ ?_)
   | (with_reducible refine LeO.bind ?_ (fun _ => ?_))
   | exact ih0 _ _ _ _ _ _
   | exact ih1 _ _ _ _ _ _
   | exact LeO.none _
   | refine LeO.ite ?_ ?_
   | refine LeO.bind ?_ (fun _ => ?_)
theorem wide_Dot.mono : ∀ a0 a1 a2 a3 a4 k, LeO (wide_Dot.f k a0 a1 a2 a3 a4) (wide_Dot.f (k + 1) a0 a1 a2 a3 a4) := by
 intro a0 a1 a2 a3 a4 k
 obtain ⟨ih0, ih1⟩ := wide_Dot.mono_l k
 unfold wide_Dot.f
 repeat' first
   | (with_reducible exact ih0 _ _ _ _ _ _)
   | (with_reducible exact ih1 _ _ _ _ _ _)
   | (with_reducible exact LeO.refl _)
   | (with_reducible exact LeO.none _)
   | (with_reducible refine LeO.ite ?_ ?_)
   | (with_reducible refine LeO.bind ?_ (fun _ => ?_))
   | exact ih0 _ _ _ _ _ _
   | exact ih1 _ _ _ _ _ _
   | exact LeO.none _
   | refine LeO.ite ?_ ?_
   | refine LeO.bind ?_ (fun _ => ?_)
set_option maxHeartbeats 8000000 in
set_option maxRecDepth 100000 in
theorem wide_Dot.calls (k : Nat) (a0 : Int) (a1 : Int) (a2 : Int) (a3 : Int) (a4 : Int) (r1 : Int) (r2 : Bool) (w : World) (h : wide_Dot.f k a0 a1 a2 a3 a4 = some (r1, r2)) :
  Calls Tryd.prog 29 #[.int .i64 a0, .int .i64 a1, .int .i64 a2, .int .i64 a3, .int .i64 a4] w fun e w' => e = .returned (.tuple #[.int .i64 r1, .bool r2]) ∧ Below w.heap.size w w' := by
 have HB := Aside0.mk (Below.refl w.heap.size w)
 have H : (if a4 < 0 then (wide_Dot.j0 k a0 a1 a2 a3 a4 true) else (wide_Dot.j0 k a0 a1 a2 a3 a4 (decide (a4 > 62)))) = some (r1, r2) := h
 clear h
 have HC6 := Aside0.mk H
 clear H
 go_enter Tryd.func29, Tryd.ntmps29
 go_upto_region 1 with (fail)
 go_cut [17] (fun v17 wc => ∃ (kq : Nat) (x17_5 : Bool), v17 = .bool x17_5 ∧ Aside0 (wide_Dot.j0 kq a0 a1 a2 a3 a4 x17_5 = some (r1, r2)) ∧ Aside0 (kq ≤ k) ∧ Aside0 (Below w.heap.size w wc))
 case first =>
  have H := HC6.out
  clear HC6
  by_cases c7 : a4 < 0
  ·
   rw [if_pos c7] at H
   have c7b0 : decide (a4 < 0) = true := decide_eq_true c7
   clear c7
   (first | rw [c7b0] | (simp only [i64_w, i32_w]; rw [c7b0]) | skip)
   have H' := Aside0.mk H
   clear H
   go_wp2
   go_meet
   case rel => exact ⟨_, (true), (by first | rfl | (simp; done) | (simp [*]; done)), H', ⟨by first | omega | exact Nat.le_refl _⟩, ⟨by exact wq HB.out⟩⟩
  ·
   rw [if_neg c7] at H
   have c7b0 : decide (a4 < 0) = false := decide_eq_false c7
   clear c7
   (first | rw [c7b0] | (simp only [i64_w, i32_w]; rw [c7b0]) | skip)
   have H' := Aside0.mk H
   clear H
   go_wp2
   go_meet
   case rel => exact ⟨_, (decide (a4 > 62)), (by first | rfl | (simp; done) | (simp [*]; done)), H', ⟨by first | omega | exact Nat.le_refl _⟩, ⟨by exact wq HB.out⟩⟩
 case rest =>
  clear HC6
  try clear c2
  try clear p2
  try clear c7
  try clear c7b0
  obtain ⟨kq, x17_5, rfl, HA, HJ5, HB⟩ := hcut
  cases kq with
  | zero => exact absurd HA.out (by simp [wide_Dot.j0])
  | succ kj5 =>
   have H := HA.out
   clear HA
   simp only [wide_Dot.j0] at H
   by_cases c8 : x17_5 = true
   ·
    subst c8
    have H1 : (some (0, false)) = some (r1, r2) := by rw [if_pos rfl] at H; exact H
    clear H
    have H := H1
    clear H1
    simp only [Option.some.injEq, Prod.mk.injEq] at H
    obtain ⟨rfl, rfl⟩ := H
    go_wp2
    go_ret2
    exact ⟨by first | rfl | (simp [errW_none, errW_some] <;> rfl) | (simp [*, errW_none, errW_some] <;> rfl), by exact wq HB.out⟩
   ·
    replace c8 := Bool.eq_false_iff.mpr c8
    subst c8
    have H1 : (if a0 = (-9223372036854775808) then (if a1 = a0 then (if a2 = a0 then (wide_Dot.j1 kj5 a0 a1 a2 a3 a4 (a3 == a0)) else (wide_Dot.j1 kj5 a0 a1 a2 a3 a4 false)) else (wide_Dot.j1 kj5 a0 a1 a2 a3 a4 false)) else (wide_Dot.j1 kj5 a0 a1 a2 a3 a4 false)) = some (r1, r2) := by rw [if_neg (show ¬ (false = true) by decide)] at H; exact H
    clear H
    have H := H1
    clear H1
    have HC9 := Aside0.mk H
    clear H
    go_upto_region 3 with (fail)
    go_cut [34] (fun v34 wc => ∃ (kq : Nat) (x34_8 : Bool), v34 = .bool x34_8 ∧ Aside0 (wide_Dot.j1 kq a0 a1 a2 a3 a4 x34_8 = some (r1, r2)) ∧ Aside0 (kq ≤ kj5) ∧ Aside0 (Below w.heap.size w wc))
    case first =>
     have H := HC9.out
     clear HC9
     by_cases c10 : a0 = (-9223372036854775808)
     ·
      rw [if_pos c10] at H
      have c10b0 : (a0 == (-9223372036854775808)) = true := beq_iff_eq.mpr c10
      have c10b1 : (a0 != (-9223372036854775808)) = false := bne_eq_false_iff_eq.mpr c10
      clear c10
      (first | rw [c10b0] | (simp only [i64_w, i32_w]; rw [c10b0]) | skip)
      by_cases c11 : a1 = a0
      ·
       rw [if_pos c11] at H
       have c11b0 : (a1 == a0) = true := beq_iff_eq.mpr c11
       have c11b1 : (a1 != a0) = false := bne_eq_false_iff_eq.mpr c11
       clear c11
       by_cases c12 : a2 = a0
       ·
        rw [if_pos c12] at H
        have c12b0 : (a2 == a0) = true := beq_iff_eq.mpr c12
        have c12b1 : (a2 != a0) = false := bne_eq_false_iff_eq.mpr c12
        clear c12
        have H' := Aside0.mk H
        clear H
        go_wp2
        go_meet
        case rel => exact ⟨_, ((a3 == a0)), (by first | rfl | (simp; done) | (simp [*]; done)), H', ⟨by have := HJ5.out; first | omega | exact Nat.le_refl _⟩, ⟨by exact wq HB.out⟩⟩
       ·
        rw [if_neg c12] at H
        have c12b0 : (a2 == a0) = false := beq_eq_false_iff_ne.mpr c12
        have c12b1 : (a2 != a0) = true := bne_iff_ne.mpr c12
        have H' := Aside0.mk H
        clear H
        go_wp2
        go_meet
        case rel => exact ⟨_, (false), (by first | rfl | (simp; done) | (simp [*]; done)), H', ⟨by have := HJ5.out; first | omega | exact Nat.le_refl _⟩, ⟨by exact wq HB.out⟩⟩
      ·
       rw [if_neg c11] at H
       have c11b0 : (a1 == a0) = false := beq_eq_false_iff_ne.mpr c11
       have c11b1 : (a1 != a0) = true := bne_iff_ne.mpr c11
       have H' := Aside0.mk H
       clear H
       go_wp2
       go_meet
       case rel => exact ⟨_, (false), (by first | rfl | (simp; done) | (simp [*]; done)), H', ⟨by have := HJ5.out; first | omega | exact Nat.le_refl _⟩, ⟨by exact wq HB.out⟩⟩
     ·
      rw [if_neg c10] at H
      have c10b0 : (a0 == (-9223372036854775808)) = false := beq_eq_false_iff_ne.mpr c10
      have c10b1 : (a0 != (-9223372036854775808)) = true := bne_iff_ne.mpr c10
      (first | rw [c10b0] | (simp only [i64_w, i32_w]; rw [c10b0]) | skip)
      have H' := Aside0.mk H
      clear H
      go_wp2
      go_meet
      case rel => exact ⟨_, (false), (by first | rfl | (simp; done) | (simp [*]; done)), H', ⟨by have := HJ5.out; first | omega | exact Nat.le_refl _⟩, ⟨by exact wq HB.out⟩⟩
    case rest =>
     clear HC9
     try clear c1
     try clear c2
     try clear p2
     try clear c7
     try clear c7b0
     try clear c8
     try clear c10
     try clear c10b0
     try clear c10b1
     try clear c11
     try clear c11b0
     try clear c11b1
     try clear c12
     try clear c12b0
     try clear c12b1
     try clear p2
     obtain ⟨kq, x34_8, rfl, HA, HJ8, HB⟩ := hcut
     cases kq with
     | zero => exact absurd HA.out (by simp [wide_Dot.j1])
     | succ kj8 =>
      have H := HA.out
      clear HA
      simp only [wide_Dot.j1] at H
      by_cases c13 : x34_8 = true
      ·
       subst c13
       have H1 : (some (0, false)) = some (r1, r2) := by rw [if_pos rfl] at H; exact H
       clear H
       have H := H1
       clear H1
       simp only [Option.some.injEq, Prod.mk.injEq] at H
       obtain ⟨rfl, rfl⟩ := H
       go_wp2
       go_ret2
       exact ⟨by first | rfl | (simp [errW_none, errW_some] <;> rfl) | (simp [*, errW_none, errW_some] <;> rfl), by exact wq HB.out⟩
      ·
       replace c13 := Bool.eq_false_iff.mpr c13
       subst c13
       have H1 : ((wide_times.f a0 a1).bind fun bt146 => ((wide_times.f a2 a3).bind fun bt148 => ((wide_big_add.f bt146.1 bt146.2 bt148.1 bt148.2).bind fun bt150 => ((wide_big_shifted.f bt150.1 bt150.2 a4).bind fun bt152 => ((wide_big_plain.f bt152.1 bt152.2).bind fun bt154 => (some (bt154.1, bt154.2))))))) = some (r1, r2) := by rw [if_neg (show ¬ (false = true) by decide)] at H; exact H
       clear H
       have H := H1
       clear H1
       replace H := Option.bind_eq_some_iff.mp H
       obtain ⟨⟨t146, t147⟩, A140, H⟩ := H
       replace H : ((wide_times.f a2 a3).bind fun bt148 => ((wide_big_add.f t146 t147 bt148.1 bt148.2).bind fun bt150 => ((wide_big_shifted.f bt150.1 bt150.2 a4).bind fun bt152 => ((wide_big_plain.f bt152.1 bt152.2).bind fun bt154 => (some (bt154.1, bt154.2)))))) = some (r1, r2) := H
       have A14 := Aside0.mk A140
       clear A140
       replace H := Option.bind_eq_some_iff.mp H
       obtain ⟨⟨t148, t149⟩, A150, H⟩ := H
       replace H : ((wide_big_add.f t146 t147 t148 t149).bind fun bt150 => ((wide_big_shifted.f bt150.1 bt150.2 a4).bind fun bt152 => ((wide_big_plain.f bt152.1 bt152.2).bind fun bt154 => (some (bt154.1, bt154.2))))) = some (r1, r2) := H
       have A15 := Aside0.mk A150
       clear A150
       replace H := Option.bind_eq_some_iff.mp H
       obtain ⟨⟨t150, t151⟩, A160, H⟩ := H
       replace H : ((wide_big_shifted.f t150 t151 a4).bind fun bt152 => ((wide_big_plain.f bt152.1 bt152.2).bind fun bt154 => (some (bt154.1, bt154.2)))) = some (r1, r2) := H
       have A16 := Aside0.mk A160
       clear A160
       replace H := Option.bind_eq_some_iff.mp H
       obtain ⟨⟨t152, t153⟩, A170, H⟩ := H
       replace H : ((wide_big_plain.f t152 t153).bind fun bt154 => (some (bt154.1, bt154.2))) = some (r1, r2) := H
       have A17 := Aside0.mk A170
       clear A170
       replace H := Option.bind_eq_some_iff.mp H
       obtain ⟨⟨t154, t155⟩, A180, H⟩ := H
       replace H : (some (t154, t155)) = some (r1, r2) := H
       have A18 := Aside0.mk A180
       clear A180
       simp only [Option.some.injEq, Prod.mk.injEq] at H
       obtain ⟨rfl, rfl⟩ := H
       go_wp2_with (first | ((with_reducible refine gate_callee (f := 37) rfl ?_); refine goesL_ (some 37) rfl rfl Tryd.func37 (by kernel_rfl) rfl #[.int .i64 a0, .int .i64 a1] rfl (by (try simp only [List.map_toArray, List.map_cons, List.map_nil]); first | done | rfl | (simp only [List.length_drop, List.length_take]; rfl)) ?_; (with_reducible refine (wide_times.calls a0 a1 t146 t147 _ A14.out).mono ?_); rintro e w19 ⟨rfl, hb⟩; refine ⟨_, rfl, ?_⟩; have n0_ := Aside0.mk (below_step (wq HB.out) hb); clear HB; have HB := n0_; clear n0_; (try clear hb); (try clear hb2); (try clear hk); (try clear hi)) | ((with_reducible refine gate_callee (f := 37) rfl ?_); refine goesL_ (some 40) rfl rfl Tryd.func37 (by kernel_rfl) rfl #[.int .i64 a2, .int .i64 a3] rfl (by (try simp only [List.map_toArray, List.map_cons, List.map_nil]); first | done | rfl | (simp only [List.length_drop, List.length_take]; rfl)) ?_; (with_reducible refine (wide_times.calls a2 a3 t148 t149 _ A15.out).mono ?_); rintro e w20 ⟨rfl, hb⟩; refine ⟨_, rfl, ?_⟩; have n0_ := Aside0.mk (below_step (wq HB.out) hb); clear HB; have HB := n0_; clear n0_; (try clear hb); (try clear hb2); (try clear hk); (try clear hi)) | ((with_reducible refine gate_callee (f := 38) rfl ?_); refine goesL_ (some 41) rfl rfl Tryd.func38 (by kernel_rfl) rfl #[.agg #[.int .u64 t146, .int .u64 t147], .agg #[.int .u64 t148, .int .u64 t149]] rfl (by (try simp only [List.map_toArray, List.map_cons, List.map_nil]); first | done | rfl | (simp only [List.length_drop, List.length_take]; rfl)) ?_; (with_reducible refine (wide_big_add.calls t146 t147 t148 t149 t150 t151 _ A16.out).mono ?_); rintro e w21 ⟨rfl, hb⟩; refine ⟨_, rfl, ?_⟩; have n0_ := Aside0.mk (below_step (wq HB.out) hb); clear HB; have HB := n0_; clear n0_; (try clear hb); (try clear hb2); (try clear hk); (try clear hi)) | ((with_reducible refine gate_callee (f := 39) rfl ?_); refine goesL_ (some 43) rfl rfl Tryd.func39 (by kernel_rfl) rfl #[.agg #[.int .u64 t150, .int .u64 t151], .int .i64 a4] rfl (by (try simp only [List.map_toArray, List.map_cons, List.map_nil]); first | done | rfl | (simp only [List.length_drop, List.length_take]; rfl)) ?_; (with_reducible refine (wide_big_shifted.calls t150 t151 a4 t152 t153 _ A17.out).mono ?_); rintro e w22 ⟨rfl, hb⟩; refine ⟨_, rfl, ?_⟩; have n0_ := Aside0.mk (below_step (wq HB.out) hb); clear HB; have HB := n0_; clear n0_; (try clear hb); (try clear hb2); (try clear hk); (try clear hi)) | ((with_reducible refine gate_callee (f := 40) rfl ?_); refine goesL_ (some 44) rfl rfl Tryd.func40 (by kernel_rfl) rfl #[.agg #[.int .u64 t152, .int .u64 t153]] rfl (by (try simp only [List.map_toArray, List.map_cons, List.map_nil]); first | done | rfl | (simp only [List.length_drop, List.length_take]; rfl)) ?_; (with_reducible refine (wide_big_plain.calls t152 t153 t154 t155 _ A18.out).mono ?_); rintro e w23 ⟨rfl, hb⟩; refine ⟨_, rfl, ?_⟩; have n0_ := Aside0.mk (below_step (wq HB.out) hb); clear HB; have HB := n0_; clear n0_; (try clear hb); (try clear hb2); (try clear hk); (try clear hi)))
       go_ret2
       exact ⟨by first | rfl | (simp [errW_none, errW_some] <;> rfl) | (simp [*, errW_none, errW_some] <;> rfl), by exact wq HB.out⟩
def wide_Add.l0 : Nat → List Int → Int → Int → Int → Int → Option (Int × Bool)
 | 0, _, _, _, _, _ => none
 | k + 1, x8, x9, x10, x158000, x158001 => if x10 < x9 then (if 0 ≤ x10 then (if x10 < (x8.length : Int) then ((wide_of.f (rd x8 x10)).bind fun bt159 => ((wide_big_add.f x158000 x158001 bt159.1 bt159.2).bind fun bt161 => (wide_Add.l0 k x8 x9 (wrap64 (x10 + 1)) bt161.1 bt161.2))) else (none)) else (none)) else ((wide_big_plain.f x158000 x158001).bind fun bt163 => (some (bt163.1, bt163.2)))
def wide_Add.f (k : Nat) (l0 : List Int) : Option (Int × Bool) := wide_Add.l0 k l0 (l0.length : Int) 0 0 0
theorem wide_Add.mono_l : ∀ k, (∀ y0 y1 y2 y3 y4, LeO (wide_Add.l0 k y0 y1 y2 y3 y4) (wide_Add.l0 (k + 1) y0 y1 y2 y3 y4))
 | 0 => fun _ _ _ _ _ r h => by simp [wide_Add.l0] at h
 | k + 1 => by
  have ih0 := wide_Add.mono_l k
  ·
   intro y0 y1 y2 y3 y4
   unfold wide_Add.l0
   repeat' first
   | (with_reducible exact ih0 _ _ _ _ _)
   | (with_reducible exact LeO.refl _)
   | (with_reducible exact LeO.none _)
   | (with_reducible refine LeO.ite ?_ ?_)
   | (with_reducible refine LeO.bind ?_ (fun _ => ?_))
   | exact ih0 _ _ _ _ _
   | exact LeO.none _
   | refine LeO.ite ?_ ?_
   | refine LeO.bind ?_ (fun _ => ?_)
theorem wide_Add.mono : ∀ a0 k, LeO (wide_Add.f k a0) (wide_Add.f (k + 1) a0) := by
 intro a0 k
 have ih0 := wide_Add.mono_l k
 unfold wide_Add.f
 repeat' first
   | (with_reducible exact ih0 _ _ _ _ _)
   | (with_reducible exact LeO.refl _)
   | (with_reducible exact LeO.none _)
   | (with_reducible refine LeO.ite ?_ ?_)
   | (with_reducible refine LeO.bind ?_ (fun _ => ?_))
   | exact ih0 _ _ _ _ _
   | exact LeO.none _
   | refine LeO.ite ?_ ?_
   | refine LeO.bind ?_ (fun _ => ?_)
set_option maxHeartbeats 8000000 in
set_option maxRecDepth 100000 in
theorem wide_Add.calls (k : Nat) (A0 : Option Addr) (c0 : Nat) (l0 : List Int) (r1 : Int) (r2 : Bool) (w : World) (hr0 : Kd.C (Kd.int .i64) w A0 l0.length l0) (hc0 : l0.length ≤ c0) (hG : Gl w) (h : wide_Add.f k l0 = some (r1, r2)) :
  Calls Tryd.prog 30 #[.slice A0 l0.length c0] w fun e w' => e = .returned (.tuple #[.int .i64 r1, .bool r2]) ∧ Below w.heap.size w w' := by
 have hu69 := Tryd.underlying69
 have HR0 := Aside0.mk hr0
 have HC0 := Aside0.mk hc0
 clear hr0 hc0
 have HG := Aside0.mk hG
 clear hG
 have HB := Aside0.mk (Below.refl w.heap.size w)
 have H : (wide_Add.l0 k l0 (l0.length : Int) 0 0 0) = some (r1, r2) := h
 clear h
 have hgl156_1 := HG.out.c0_1
 have hgl156_0 := HG.out.c0_0
 have H' := Aside0.mk H
 clear H
 go_enter Tryd.func30, Tryd.ntmps30
 go_wp2_with (first | ((with_reducible refine gate_dst (N := 4) rfl ?_); refine box_event ?hg (N := 4) ?hd (cs := #[.int .u64 0, .int .u64 0]) (t := 69) ?hr ?_; (case hd => rfl); (case hg => rfl); (case hr => first | (go_simp; done) | (go_simp; rfl)); intro gb157 hg w2 hbox hb; have n0_ := Aside0.mk (below_step (wq HB.out) hb); have n1_ := Aside0.mk (hbox); have n2_ := Aside0.mk ((by rw [hg]; exact (below_size (wq HB.out)) : w.heap.size ≤ gb157)); have n3_ := n2_; clear HB; have HB := n0_; have BK157 := n1_; have GW157 := n2_; have GE157 := n3_; clear n0_ n1_ n2_ n3_ hb hbox hg; have hcz3_0 : w2.cell? ⟨gb157, 0, none⟩ = some (.int .u64 0) := (blk_cell BK157.out 0).trans rfl; have hcz3_1 : w2.cell? ⟨gb157, 1, none⟩ = some (.int .u64 0) := (blk_cell BK157.out 1).trans rfl; have hfz3_0 := blk_frozen BK157.out 0; have hfz3_1 := blk_frozen BK157.out 1))
 go_loopg [10] k (fun kq v10 w' => ∃ (x10_1 : Int) (x158000_1 : Int) (x158001_1 : Int), v10 = .int .i64 x10_1 ∧ Aside0 (wide_Add.l0 kq l0 (l0.length : Int) x10_1 x158000_1 x158001_1 = some (r1, r2)) ∧ Aside0 (kq ≤ k) ∧ Aside0 (w'.heap[gb157]? = some (.cells #[.int .u64 x158000_1, .int .u64 x158001_1] 69 (0, 0))) ∧ Aside0 (Below w.heap.size w w'))
 case atStart => exact ⟨(0), (0), (0), (by first | rfl | (simp; done) | (simp [*]; done)), H', ⟨Nat.le_refl _⟩, ⟨by refine bq ?_; refine blk_put (cs := #[.int .u64 0, .int .u64 0]) ?_ 1 _ rfl; refine bq ?_; refine blk_put (cs := #[.int .u64 0, .int .u64 0]) ?_ 0 _ rfl; refine bq ?_; exact BK157.out⟩, ⟨by exact wq HB.out⟩⟩
 case round =>
  clear H'
  try clear p2
  try clear c3
  try clear hcz3_0
  try clear hcz3_1
  try clear hfz3_0
  try clear hfz3_1
  obtain ⟨x10_1, x158000_1, x158001_1, rfl, HA, HK1, BK157, HB⟩ := hrel
  cases gk with
  | zero => exact absurd HA.out (by simp [wide_Add.l0])
  | succ k1 =>
   have H := HA.out
   clear HA
   simp only [wide_Add.l0] at H
   by_cases c4 : x10_1 < (l0.length : Int)
   ·
    rw [if_pos c4] at H
    have c4b0 : decide (x10_1 < (l0.length : Int)) = true := decide_eq_true c4
    clear c4
    by_cases c5 : 0 ≤ x10_1
    ·
     rw [if_pos c5] at H
     have c5b0 : decide (0 ≤ x10_1) = true := decide_eq_true c5
     clear c5
     by_cases c6 : x10_1 < (l0.length : Int)
     ·
      rw [if_pos c6] at H
      have c6b0 : decide (x10_1 < (l0.length : Int)) = true := decide_eq_true c6
      clear c6
      replace H := Option.bind_eq_some_iff.mp H
      obtain ⟨⟨t159, t160⟩, A70, H⟩ := H
      replace H : ((wide_big_add.f x158000_1 x158001_1 t159 t160).bind fun bt161 => (wide_Add.l0 k1 l0 (l0.length : Int) (wrap64 (x10_1 + 1)) bt161.1 bt161.2)) = some (r1, r2) := H
      have A7 := Aside0.mk A70
      clear A70
      replace H := Option.bind_eq_some_iff.mp H
      obtain ⟨⟨t161, t162⟩, A80, H⟩ := H
      replace H : (wide_Add.l0 k1 l0 (l0.length : Int) (wrap64 (x10_1 + 1)) t161 t162) = some (r1, r2) := H
      have A8 := Aside0.mk A80
      clear A80
      have H' := Aside0.mk H
      clear H
      have p158 : 0 ≤ (x10_1 : Int) := of_decide_eq_true (by first | (with_reducible assumption) | assumption)
      have q158 : x10_1 < (l0.length : Int) := of_decide_eq_true (by first | (with_reducible assumption) | assumption)
      obtain ⟨ad158, e158, hx158_0⟩ := Kd.at_int HR0.out x10_1 p158 q158
      cases e158
      replace hx158_0 := (HB.out.cell (World.block_lt_of_cell? w _ hx158_0)).trans hx158_0
      replace p158 := eq_true p158
      replace q158 := eq_true q158
      try go_wp2
      have n0_ := Aside0.mk (blk_drew BK157.out)
      have n1_ := Aside0.mk (below_drew1 HB.out)
      clear BK157 HB; have BK157 := n0_; have HB := n1_; clear n0_ n1_
      refine start_ (n := 5) (S := fun w' => w'.cell? ⟨gb157, 0, none⟩ = some (.int .u64 x158000_1) ∧ w'.cell? ⟨gb157, 1, none⟩ = some (.int .u64 x158001_1)) (ds := [4]) (bt 0 5) (by kernel_rfl) rfl rfl ⟨(blk_cell BK157.out 0).trans rfl, (blk_cell BK157.out 1).trans rfl⟩ (fun hHeld => ?_)
      generalize wr.drew = w9 at BK157 HB hHeld ⊢
      refine pure_ (i := 1) (N := some 15) (v := ?_) (a' := ?_) #[false, true, false, false, false] rfl rfl (by kernel_rfl) (fun _ _ _ h => h) (Or.inl ⟨by rfl, ?_⟩) ?_ ?_
      rotate_left; focus (intro w'; go_simp; with_reducible rfl)
      rotate_left; focus (simp only [apz, i64_w, i32_w]; rfl)
      refine take_ (i := 0) (N := some 14) (v := ?_) (a' := ?_) (bt 2 3) rfl rfl (by kernel_rfl) (fun _ _ _ h => h) (Or.inl ⟨by rfl, ?_⟩) hHeld ?_ ?_
      rotate_left
      ·
       rintro w' ⟨s0, s1⟩
       go_simp
       with_reducible rfl
      rotate_left; focus (simp only [apz, i64_w, i32_w]; rfl)
      refine one_ (i := 2) (N := some 16) (bt 3 2) rfl rfl (by kernel_rfl) (by decide) (fun K hK => ?_)
      refine goes_ Tryd.func41 (by kernel_rfl) rfl #[.int .i64 (rd l0 x10_1)] (by rfl) rfl rfl (by (try simp only [List.map_toArray, List.map_cons, List.map_nil]); first | done | rfl | (simp only [List.length_drop, List.length_take]; rfl)) ?_
      with_reducible refine (wide_of.calls (rd l0 x10_1) t159 t160 _ A7.out).mono ?_
      rintro e w10 ⟨rfl, hb⟩
      refine ⟨_, rfl, ?_⟩
      have n0_ := Aside0.mk (blk_below (bq BK157.out) hb)
      have n1_ := Aside0.mk (below_step (wq HB.out) hb)
      clear BK157 HB; have BK157 := n0_; have HB := n1_; clear n0_ n1_
      (try clear hb)
      (try clear hb2)
      (try clear hk)
      (try clear hi)
      refine hK.out _ _ ⟨(blk_cell BK157.out 0).trans rfl, (blk_cell BK157.out 1).trans rfl⟩ (fun hHeld => ?_)
      clear hK K
      refine norm_ (a' := ?_) ?_ ?_
      rotate_left
      ·
       show Act.put _ (some 16) _ = _
       simp only [apz, i64_w, i32_w]
       rfl
      refine one_ (i := 3) (N := some 17) (bt 4 1) rfl rfl (by kernel_rfl) (by decide) (fun K hK => ?_)
      refine goes_ Tryd.func38 (by kernel_rfl) rfl #[.agg #[.int .u64 x158000_1, .int .u64 x158001_1], .agg #[.int .u64 t159, .int .u64 t160]] (by rfl) rfl rfl (by (try simp only [List.map_toArray, List.map_cons, List.map_nil]); first | done | rfl | (simp only [List.length_drop, List.length_take]; rfl)) ?_
      with_reducible refine (wide_big_add.calls x158000_1 x158001_1 t159 t160 t161 t162 _ A8.out).mono ?_
      rintro e w11 ⟨rfl, hb⟩
      refine ⟨_, rfl, ?_⟩
      have n0_ := Aside0.mk (blk_below (bq BK157.out) hb)
      have n1_ := Aside0.mk (below_step (wq HB.out) hb)
      clear BK157 HB; have BK157 := n0_; have HB := n1_; clear n0_ n1_
      (try clear hb)
      (try clear hb2)
      (try clear hk)
      (try clear hi)
      refine hK.out _ _ ⟨(blk_cell BK157.out 0).trans rfl, (blk_cell BK157.out 1).trans rfl⟩ (fun hHeld => ?_)
      clear hK K
      refine norm_ (a' := ?_) ?_ ?_
      rotate_left
      ·
       show Act.put _ (some 17) _ = _
       simp only [apz, i64_w, i32_w]
       rfl
      refine last_ (i := 4) (N := none) (bt 5 0) rfl rfl (by kernel_rfl) (by decide) (fun K hK => ?_)
      have hs12 : w11.cell? ⟨gb157, 0, none⟩ = some (.int .u64 x158000_1) := (blk_cell BK157.out 0).trans rfl
      have hfs12 := blk_frozen BK157.out 0
      have hs13 : w11.cell? ⟨gb157, 1, none⟩ = some (.int .u64 x158001_1) := (blk_cell BK157.out 1).trans rfl
      have hfs13 := blk_frozen BK157.out 1
      refine skip_ (w1 := ?_) (by rfl) rfl ?_ ?_
      rotate_left
      ·
       go_simp
       rfl
      refine hK.out _ _ ?_
      clear hK K
      refine done_ (by kernel_rfl) ?_
      try go_wp2
      go_roundg k1
      case measure => have := HK1.out; omega
      case rel => exact ⟨(wrap64 (x10_1 + 1)), (t161), (t162), (by first | rfl | (simp; done) | (simp [*]; done)), H', ⟨by have := HK1.out; omega⟩, ⟨by refine bq ?_; refine blk_put (cs := #[.int .u64 t161, .int .u64 x158001_1]) ?_ 1 _ rfl; refine bq ?_; refine blk_put (cs := #[.int .u64 x158000_1, .int .u64 x158001_1]) ?_ 0 _ rfl; refine bq ?_; exact BK157.out⟩, ⟨by exact wq HB.out⟩⟩
     ·
      rw [if_neg c6] at H
      exact absurd H (by simp)
    ·
     rw [if_neg c5] at H
     exact absurd H (by simp)
   ·
    rw [if_neg c4] at H
    have c4b0 : decide (x10_1 < (l0.length : Int)) = false := decide_eq_false c4
    clear c4
    replace H := Option.bind_eq_some_iff.mp H
    obtain ⟨⟨t163, t164⟩, A140, H⟩ := H
    replace H : (some (t163, t164)) = some (r1, r2) := H
    have A14 := Aside0.mk A140
    clear A140
    simp only [Option.some.injEq, Prod.mk.injEq] at H
    obtain ⟨rfl, rfl⟩ := H
    have hcz15_0 : wr.cell? ⟨gb157, 0, none⟩ = some (.int .u64 x158000_1) := (blk_cell BK157.out 0).trans rfl
    have hcz15_1 : wr.cell? ⟨gb157, 1, none⟩ = some (.int .u64 x158001_1) := (blk_cell BK157.out 1).trans rfl
    have hfz15_0 := blk_frozen BK157.out 0
    have hfz15_1 := blk_frozen BK157.out 1
    go_wp2_with (first | ((with_reducible refine gate_callee (f := 40) rfl ?_); refine goesL_ (some 20) rfl rfl Tryd.func40 (by kernel_rfl) rfl #[.agg #[.int .u64 x158000_1, .int .u64 x158001_1]] rfl (by (try simp only [List.map_toArray, List.map_cons, List.map_nil]); first | done | rfl | (simp only [List.length_drop, List.length_take]; rfl)) ?_; (with_reducible refine (wide_big_plain.calls x158000_1 x158001_1 t163 t164 _ A14.out).mono ?_); rintro e w16 ⟨rfl, hb⟩; refine ⟨_, rfl, ?_⟩; have n0_ := Aside0.mk (blk_below (bq BK157.out) hb); have n1_ := Aside0.mk (below_step (wq HB.out) hb); clear BK157 HB; have BK157 := n0_; have HB := n1_; clear n0_ n1_; (try clear hb); (try clear hb2); (try clear hk); (try clear hi)))
    go_ret2
    exact ⟨by first | rfl | (simp [errW_none, errW_some] <;> rfl) | (simp [*, errW_none, errW_some] <;> rfl), by exact wq HB.out⟩
def affine_number.r (k : Nat) (a x b y c : Int) : Option (Except Int Int) :=
 (wide_Dot.f k a x b y 16).bind fun d => if d.2 = true then (wide_Add.f k [d.1, c]).bind fun s => if s.2 = true then (wide_Within.f k 4294967296 [s.1]).bind fun t => (if t = true then some (.ok s.1) else some (.error 2)) else some (.error 2) else some (.error 2)
theorem affine_number.mono_r (a x b y c : Int) (k : Nat) : LeO (affine_number.r k a x b y c) (affine_number.r (k + 1) a x b y c) := by
 unfold affine_number.r
 refine LeO.bind (wide_Dot.mono _ _ _ _ _ _) (fun _ => LeO.ite (LeO.bind (wide_Add.mono _ _) (fun _ => LeO.ite (LeO.bind (wide_Within.mono _ _ _) (fun _ => LeO.refl _)) (LeO.refl _))) (LeO.refl _))
def affine_number.f (k : Nat) (a x b y c : Int) : Option Int := (affine_number.r k a x b y c).bind fun r => match r with | .ok n => some n | .error _ => none
theorem affine_number.mono (a x b y c : Int) (k : Nat) : LeO (affine_number.f k a x b y c) (affine_number.f (k + 1) a x b y c) :=
 LeO.bind (affine_number.mono_r _ _ _ _ _ _) (fun _ => LeO.refl _)
def endInt : Except Int Int → Ending
 | .ok n => .returned (.int .i64 n)
 | .error c => .panicked (errP c)
theorem row2 (w : World) (t : Nat) (a b : Int) : Kd.C (Kd.int .i64) (w.alloc (.cells #[.int .i64 a, .int .i64 b] t)) (some ⟨w.heap.size, 0, none⟩) 2 [a, b] := by
 refine ⟨rfl, by decide, fun _ => ⟨_, rfl, fun j p hj => ?_⟩⟩
 refine ⟨[.int .i64 p], rfl, rfl, fun i u hu => ?_⟩
 match j, hj, i, hu with
 | 0, hj, 0, hu => simp at hj hu; subst hj hu; simp [Addr.add, Kd.int, Kd.scalar]
 | 1, hj, 0, hu => simp at hj hu; subst hj hu; simp [Addr.add, Kd.int, Kd.scalar]
theorem row1 (w : World) (t : Nat) (a : Int) : Kd.C (Kd.int .i64) (w.alloc (.cells #[.int .i64 a] t)) (some ⟨w.heap.size, 0, none⟩) 1 [a] := by
 refine ⟨rfl, by decide, fun _ => ⟨_, rfl, fun j p hj => ?_⟩⟩
 refine ⟨[.int .i64 p], rfl, rfl, fun i u hu => ?_⟩
 match j, hj, i, hu with
 | 0, hj, 0, hu => simp at hj hu; subst hj hu; simp [Addr.add, Kd.int, Kd.scalar]
theorem number_dot_no (k : Nat) (a x b y c n : Int) (w : World) (hd : wide_Dot.f k a x b y 16 = some (n, false)) :
  Calls Tryd.prog 27 #[.int .i64 a, .int .i64 x, .int .i64 b, .int .i64 y, .int .i64 c] w fun e w' => e = .panicked (errP 2) ∧ Below w.heap.size w w' := by
 go_enter Tryd.func27, Tryd.ntmps27
 go_wp2_with (first | (go_at_call 29; refine (wide_Dot.calls k _ _ _ _ _ _ _ _ hd).mono ?_; rintro e w1 ⟨rfl, hb⟩) | (go_at_call 25; refine (must_no _ _).mono ?_; rintro e w1 ⟨rfl, rfl⟩))
 exact ⟨rfl, rfl, hb⟩
theorem number_add_no (k : Nat) (a x b y c n m : Int) (w : World) (hG : Gl w) (hd : wide_Dot.f k a x b y 16 = some (n, true)) (ha : wide_Add.f k [n, c] = some (m, false)) :
  Calls Tryd.prog 27 #[.int .i64 a, .int .i64 x, .int .i64 b, .int .i64 y, .int .i64 c] w fun e w' => e = .panicked (errP 2) ∧ Below w.heap.size w w' := by
 have HG := Aside0.mk hG
 clear hG
 go_enter Tryd.func27, Tryd.ntmps27
 go_wp2_with (first | (go_at_call 29; refine (wide_Dot.calls k _ _ _ _ _ _ _ _ hd).mono ?_; rintro e w1 ⟨rfl, hb⟩) | (go_at_call 25; refine (must_ok _ _).mono ?_; rintro e w1 ⟨rfl, rfl⟩))
 refine (wide_Add.calls k _ 2 _ _ _ _ (row2 _ _ _ _) (Nat.le_refl 2) ((HG.out.below hb).below ((Below.refl _ _).alloc (Nat.le_refl _) _)) ha).mono ?_
 rintro e w2 ⟨rfl, hb2⟩
 go_wp2_with (go_at_call 25; refine (must_no _ _).mono ?_; rintro e w1 ⟨rfl, rfl⟩)
 exact ⟨rfl, rfl, (hb.alloc hb.size _).trans (hb2.mono (by have := hb.size; simp; omega))⟩
theorem number_within (k : Nat) (a x b y c n m : Int) (t : Bool) (w : World) (hG : Gl w) (hd : wide_Dot.f k a x b y 16 = some (n, true)) (ha : wide_Add.f k [n, c] = some (m, true)) (hw : wide_Within.f k 4294967296 [m] = some t) :
  Calls Tryd.prog 27 #[.int .i64 a, .int .i64 x, .int .i64 b, .int .i64 y, .int .i64 c] w fun e w' => e = endInt (if t = true then .ok m else .error 2) ∧ Below w.heap.size w w' := by
 have HG := Aside0.mk hG
 clear hG
 go_enter Tryd.func27, Tryd.ntmps27
 go_wp2_with (first | (go_at_call 29; refine (wide_Dot.calls k _ _ _ _ _ _ _ _ hd).mono ?_; rintro e w1 ⟨rfl, hb⟩) | (go_at_call 25; refine (must_ok _ _).mono ?_; rintro e w1 ⟨rfl, rfl⟩))
 refine (wide_Add.calls k _ 2 _ _ _ _ (row2 _ _ _ _) (Nat.le_refl 2) ((HG.out.below hb).below ((Below.refl _ _).alloc (Nat.le_refl _) _)) ha).mono ?_
 rintro e w2 ⟨rfl, hb2⟩
 go_wp2_with (go_at_call 25; refine (must_ok _ _).mono ?_; rintro e w1 ⟨rfl, rfl⟩)
 refine (wide_Within.calls k _ _ 1 _ _ _ (row1 _ _ _) (Nat.le_refl 1) hw).mono ?_
 rintro e w3 ⟨rfl, ⟨n3, rfl⟩⟩
 have hb3 : Below w.heap.size w w2 := (hb.alloc hb.size _).trans (hb2.mono (by have := hb.size; simp; omega))
 cases t
 ·
  go_wp2_with (go_at_call 25; refine (must_no _ _).mono ?_; rintro e w1 ⟨rfl, rfl⟩)
  exact ⟨rfl, rfl, by first | exact (hb3.alloc hb3.size _) | exact pw_below_drewN (hb3.alloc hb3.size _) _⟩
 ·
  go_wp2_with (go_at_call 25; refine (must_ok _ _).mono ?_; rintro e w1 ⟨rfl, rfl⟩)
  go_ret
  exact ⟨rfl, by first | exact (hb3.alloc hb3.size _) | exact pw_below_drewN (hb3.alloc hb3.size _) _⟩
theorem affine_number.calls_r (k : Nat) (a x b y c : Int) (r : Except Int Int) (w : World) (hG : Gl w) (h : affine_number.r k a x b y c = some r) :
  Calls Tryd.prog 27 #[.int .i64 a, .int .i64 x, .int .i64 b, .int .i64 y, .int .i64 c] w fun e w' => e = endInt r ∧ Below w.heap.size w w' := by
 unfold affine_number.r at h
 obtain ⟨⟨n, o⟩, hd, h⟩ := Option.bind_eq_some_iff.mp h
 cases o with
 | false => obtain rfl := Option.some.inj h; exact number_dot_no k a x b y c n w hd
 | true =>
  obtain ⟨⟨m, p⟩, ha, h⟩ := Option.bind_eq_some_iff.mp h
  cases p with
  | false => obtain rfl := Option.some.inj h; exact number_add_no k a x b y c n m w hG hd ha
  | true =>
   obtain ⟨t, hw, h⟩ := Option.bind_eq_some_iff.mp h
   have := number_within k a x b y c n m t w hG hd ha hw
   cases t
   ·
    obtain rfl := Option.some.inj h; exact this
   ·
    obtain rfl := Option.some.inj h; exact this
theorem affine_number.calls (k : Nat) (a x b y c r : Int) (w : World) (hG : Gl w) (h : affine_number.f k a x b y c = some r) :
  Calls Tryd.prog 27 #[.int .i64 a, .int .i64 x, .int .i64 b, .int .i64 y, .int .i64 c] w fun e w' => e = .returned (.int .i64 r) ∧ Below w.heap.size w w' := by
 obtain ⟨q, hq, h⟩ := Option.bind_eq_some_iff.mp h
 cases q with
 | error c => cases h
 | ok n => obtain rfl := Option.some.inj h; exact affine_number.calls_r k a x b y c _ w hG hq
end Go.Proofs.YtbnjgaeeojcjbaaDoor.PR
namespace Go.Proofs.YtbnjgaeeojcjbaaDoor.PR
open Go.RowKit Go.Proofs.YtbnjgaeeojcjbaaDoorW.PrintWords Go.Proofs.YtbnjgaeeojcjbaaDoorW.PrintLast Go.Proofs.YtbnjgaeeojcjbaaDoorW.PrintMore
theorem w64 (n : Int) : wrap64 n = (n + 9223372036854775808) % 18446744073709551616 - 9223372036854775808 := by unfold wrap64; rfl
theorem w64_id (n : Int) (h : -9223372036854775808 ≤ n) (h2 : n < 9223372036854775808) : wrap64 n = n := by rw [w64]; omega
theorem uw (n : Int) : IntKind.u64.wrap n = n % 18446744073709551616 := by simp [IntKind.wrap, IntKind.bits, IntKind.signed]
def I64 (a : Int) : Prop := -9223372036854775808 ≤ a ∧ a < 9223372036854775808
def Bh (x : Int) : Int := (x / 18446744073709551616) % 18446744073709551616
def Bl (x : Int) : Int := x % 18446744073709551616
def In128 (x : Int) : Prop := -170141183460469231731687303715884105728 ≤ x ∧ x < 170141183460469231731687303715884105728
theorem of_B (a : Int) (h : I64 a) : wide_of.f a = some (Bh a, Bl a) := by
  unfold wide_of.f Bh Bl I64 at *
  rw [uw, uw]
  have : (a / 9223372036854775808) % 18446744073709551616 = (a / 18446744073709551616) % 18446744073709551616 := by omega
  rw [this]
theorem Bh_nn (x : Int) : 0 ≤ Bh x ∧ Bh x < 18446744073709551616 := by unfold Bh; omega
theorem Bl_nn (x : Int) : 0 ≤ Bl x ∧ Bl x < 18446744073709551616 := by unfold Bl; omega
theorem add_B (x y : Int) : wide_big_add.f (Bh x) (Bl x) (Bh y) (Bl y) = some (Bh (x + y), Bl (x + y)) := by
  unfold wide_big_add.f add64_hi add64_lo
  rw [if_pos (Bl_nn x).1, if_pos (Bl_nn y).1, if_pos (Bh_nn x).1, if_pos (Bh_nn y).1]
  have h1 : (0 : Int) ≤ (Bl x + Bl y + 0) / 18446744073709551616 := by have := Bl_nn x; have := Bl_nn y; omega
  have h2 : (Bl x + Bl y + 0) / 18446744073709551616 ≤ 1 := by have := Bl_nn x; have := Bl_nn y; omega
  rw [if_pos h1, if_pos h2]
  have e1 : (Bh x + Bh y + (Bl x + Bl y + 0) / 18446744073709551616) % 18446744073709551616 = Bh (x + y) := by unfold Bh Bl; omega
  have e2 : (Bl x + Bl y + 0) % 18446744073709551616 = Bl (x + y) := by unfold Bl; omega
  rw [e1, e2]
theorem not64 (a : Int) (h0 : 0 ≤ a) (h1 : a < 18446744073709551616) : Go.bits .xor .u64 IntKind.u64.max a = 18446744073709551615 - a := by
  obtain ⟨A, rfl⟩ := Int.eq_ofNat_of_zero_le h0
  have hA : A < 18446744073709551616 := by omega
  have hm : IntKind.u64.max = ((18446744073709551615 : Nat) : Int) := by decide
  rw [hm, bits_xor_u64_nat _ _ (by omega) hA]
  have hx : (18446744073709551615 : Nat) ^^^ A = 18446744073709551615 - A := by
    have h := BitVec.allOnes_xor (x := BitVec.ofNat 64 A)
    have h2 := congrArg BitVec.toNat h
    rw [BitVec.toNat_xor, BitVec.toNat_not, BitVec.toNat_allOnes, BitVec.toNat_ofNat, Nat.mod_eq_of_lt (by simpa using hA)] at h2
    simpa using h2
  rw [hx]
  omega
theorem minus_B (x : Int) : wide_big_minus.f (Bh x) (Bl x) = some (Bh (-x), Bl (-x)) := by
  unfold wide_big_minus.f
  rw [not64 _ (Bh_nn x).1 (Bh_nn x).2, not64 _ (Bl_nn x).1 (Bl_nn x).2]
  have e1 : 18446744073709551615 - Bh x = Bh (-1 - x) := by unfold Bh; omega
  have e2 : 18446744073709551615 - Bl x = Bl (-1 - x) := by unfold Bl; omega
  have e3 : (0 : Int) = Bh 1 := by decide
  have e4 : (1 : Int) = Bl 1 := by decide
  have := add_B (-1 - x) 1
  rw [← e3, ← e4] at this
  rw [e1, e2, this]
  simp only [Option.bind_some]
  have : (-1 - x + 1 : Int) = -x := by omega
  rw [this]
theorem below_B (x : Int) (h : In128 x) : wide_big_below.f (Bh x) (Bl x) = some (decide (x < 0)) := by
  unfold wide_big_below.f
  have : (Bh x / 9223372036854775808 == 1) = decide (x < 0) := by
    rw [Bool.eq_iff_iff]
    simp only [beq_iff_eq, decide_eq_true_eq]
    unfold Bh In128 at *
    omega
  rw [this]
def absI (x : Int) : Int := if x < 0 then -x else x
theorem size_B (x : Int) (h : In128 x) : wide_big_size.f (Bh x) (Bl x) = some (Bh (absI x), Bl (absI x)) := by
  unfold wide_big_size.f absI
  rw [below_B x h]
  by_cases hx : x < 0
  · simp [hx, minus_B]
  · simp [hx]
theorem and32 (a : Int) (h0 : 0 ≤ a) (h1 : a < 18446744073709551616) : Go.bits .and .u64 a 4294967295 = a % 4294967296 := by
  obtain ⟨A, rfl⟩ := Int.eq_ofNat_of_zero_le h0
  have := u64_and_nat A 4294967295 (by omega) (by omega)
  have h2 : ((4294967295 : Nat) : Int) = 4294967295 := rfl
  rw [h2] at this
  rw [this]
  have h3 : A &&& 4294967295 = A % 4294967296 := Nat.and_two_pow_sub_one_eq_mod A 32
  rw [h3]
  omega
theorem mul64_B (a b : Int) (ha0 : 0 ≤ a) (ha : a < 18446744073709551616) (hb0 : 0 ≤ b) (hb : b < 18446744073709551616) : bits_Mul64.f a b = some (a * b / 18446744073709551616, a * b % 18446744073709551616) := by
  unfold bits_Mul64.f
  obtain ⟨X, rfl⟩ := Int.eq_ofNat_of_zero_le ha0
  obtain ⟨Y, rfl⟩ := Int.eq_ofNat_of_zero_le hb0
  have hX : X < 18446744073709551616 := by omega
  have hY : Y < 18446744073709551616 := by omega
  obtain ⟨h1, h2, h3, h4⟩ := Lib.mul64_hi X Y hX hY
  have lo : Go.IntKind.u64.wrap ((X : Int) * (Y : Int)) = (X : Int) * Y % 18446744073709551616 := uw _
  rw [and32 _ ha0 ha, and32 _ hb0 hb, lo]
  have z1 := Lib.half_mul_le (a := X / 4294967296) (b := Y / 4294967296) (by omega) (by omega)
  have z2 := Lib.half_mul_le (a := X / 4294967296) (b := Y % 4294967296) (by omega) (by omega)
  have z3 := Lib.half_mul_le (a := X % 4294967296) (b := Y / 4294967296) (by omega) (by omega)
  have q : (X : Int) * Y / 18446744073709551616 = ((X * Y / 18446744073709551616 : Nat) : Int) := by simp
  rw [q, ← h4]
  have c1 : ((X : Int) / 4294967296) * ((Y : Int) % 4294967296) = (((X / 4294967296) * (Y % 4294967296) : Nat) : Int) := by simp
  have c2 : ((X : Int) % 4294967296) * ((Y : Int) % 4294967296) = (((X % 4294967296) * (Y % 4294967296) : Nat) : Int) := by simp
  have c3 : ((X : Int) % 4294967296) * ((Y : Int) / 4294967296) = (((X % 4294967296) * (Y / 4294967296) : Nat) : Int) := by simp
  have c4 : ((X : Int) / 4294967296) * ((Y : Int) / 4294967296) = (((X / 4294967296) * (Y / 4294967296) : Nat) : Int) := by simp
  rw [c1, c2, c3, c4]
  generalize X / 4294967296 * (Y / 4294967296) = p at *
  generalize X / 4294967296 * (Y % 4294967296) = r at *
  generalize X % 4294967296 * (Y / 4294967296) = s at *
  generalize X % 4294967296 * (Y % 4294967296) = t at *
  have e1 : IntKind.u64.wrap (t : Int) = (t : Int) := by rw [uw]; omega
  have e2 : IntKind.u64.wrap (r : Int) = (r : Int) := by rw [uw]; omega
  have e3 : IntKind.u64.wrap (s : Int) = (s : Int) := by rw [uw]; omega
  have e4 : IntKind.u64.wrap (p : Int) = (p : Int) := by rw [uw]; omega
  rw [e1, e2, e3, e4]
  have e5 : IntKind.u64.wrap ((r : Int) + (t : Int) / 4294967296) = ((r + t / 4294967296 : Nat) : Int) := by rw [uw]; omega
  rw [e5]
  generalize r + t / 4294967296 = u at *
  rw [and32 _ (by omega) (by omega)]
  have e6 : IntKind.u64.wrap ((u : Int) % 4294967296 + (s : Int)) = ((u % 4294967296 + s : Nat) : Int) := by rw [uw]; omega
  rw [e6]
  have e7 : IntKind.u64.wrap ((p : Int) + (u : Int) / 4294967296) = ((p + u / 4294967296 : Nat) : Int) := by rw [uw]; omega
  rw [e7]
  generalize u % 4294967296 + s = v at *
  have hq : X * Y / 18446744073709551616 < 18446744073709551616 := by
    have : X * Y < 18446744073709551616 * 18446744073709551616 := Nat.mul_lt_mul'' hX hY
    omega
  have e8 : IntKind.u64.wrap (((p + u / 4294967296 : Nat) : Int) + (v : Int) / 4294967296) = ((p + u / 4294967296 + v / 4294967296 : Nat) : Int) := by
    rw [uw]
    omega
  rw [e8]
theorem absI_le (a : Int) (h : I64 a) : 0 ≤ absI a ∧ absI a ≤ 9223372036854775808 := by unfold absI I64 at *; split <;> omega
theorem i64_128 (a : Int) (h : I64 a) : In128 a := by unfold I64 In128 at *; omega
theorem mul_le_126 (a b : Int) (ha : 0 ≤ a ∧ a ≤ 9223372036854775808) (hb : 0 ≤ b ∧ b ≤ 9223372036854775808) : 0 ≤ a * b ∧ a * b ≤ 85070591730234615865843651857942052864 := by
  refine ⟨Int.mul_nonneg ha.1 hb.1, ?_⟩
  have := Int.mul_le_mul ha.2 hb.2 hb.1 (by omega)
  omega
theorem times_B (a b : Int) (ha : I64 a) (hb : I64 b) : wide_times.f a b = some (Bh (a * b), Bl (a * b)) := by
  unfold wide_times.f
  have xa := absI_le a ha
  have xb := absI_le b hb
  have la : Bl (absI a) = absI a := by unfold Bl; omega
  have lb : Bl (absI b) = absI b := by unfold Bl; omega
  rw [of_B a ha, of_B b hb]
  simp only [Option.bind_some]
  rw [size_B a (i64_128 a ha)]
  simp only [Option.bind_some]
  rw [size_B b (i64_128 b hb)]
  simp only [Option.bind_some, la, lb]
  rw [mul64_B _ _ xa.1 (by omega) xb.1 (by omega)]
  simp only [Option.bind_some]
  obtain ⟨p0, p1⟩ := mul_le_126 _ _ xa xb
  have eh : absI a * absI b / 18446744073709551616 = Bh (absI a * absI b) := by unfold Bh; omega
  have el : absI a * absI b % 18446744073709551616 = Bl (absI a * absI b) := rfl
  rw [eh, el, minus_B]
  simp only [Option.bind_some]
  by_cases h1 : a < 0 <;> by_cases h2 : b < 0
  · have e : absI a * absI b = a * b := by unfold absI; rw [if_pos h1, if_pos h2]; exact Int.neg_mul_neg a b
    simp [h1, h2, e]
  · have e : -(absI a * absI b) = a * b := by unfold absI; rw [if_pos h1, if_neg h2, Int.neg_mul, Int.neg_neg]
    simp [h1, h2, e]
  · have e : -(absI a * absI b) = a * b := by unfold absI; rw [if_neg h1, if_pos h2, Int.mul_neg, Int.neg_neg]
    simp [h1, h2, e]
  · have e : absI a * absI b = a * b := by unfold absI; rw [if_neg h1, if_neg h2]
    simp [h1, h2, e]
def near (x : Int) (s : Nat) : Int := if s = 0 then x else (x + 2 ^ (s - 1)) / 2 ^ s
theorem or_parts (P Q h l : Nat) (i : Nat) (hQ : Q = 2 ^ i) (hP : P * Q = 18446744073709551616) (_hh : h < 18446744073709551616) (hl : l < 18446744073709551616) :
    (h * Q % 18446744073709551616) ||| (l / P) = (h % P) * Q + l / P := by
  have e1 : h * Q % 18446744073709551616 = (h % P) * Q := by rw [← hP, Nat.mul_mod_mul_right]
  have hP0 : 0 < P := Nat.pos_of_ne_zero (by rintro rfl; simp at hP)
  have e2 : l / P < 2 ^ i := by
    rw [← hQ]
    exact Nat.div_lt_of_lt_mul (by rw [hP]; exact hl)
  rw [e1, hQ, Nat.mul_comm (h % P) (2 ^ i), ← Nat.two_pow_add_eq_or_of_lt e2]
theorem shifted_B (x : Int) (s : Nat) (hs : s ≤ 62) (h2 : In128 (x + 2 ^ (s - 1))) : wide_big_shifted.f (Bh x) (Bl x) (s : Int) = some (Bh (near x s), Bl (near x s)) := by
  unfold wide_big_shifted.f near
  by_cases h0 : s = 0
  · subst h0; simp
  · have hs0 : ¬ ((s : Int) = 0) := by omega
    rw [if_neg hs0, if_neg h0]
    have e1 : IntKind.u64.wrap (wrap64 ((s : Int) - 1)) = ((s - 1 : Nat) : Int) := by rw [uw, w64]; omega
    have e2 : IntKind.u64.wrap (s : Int) = (s : Int) := by rw [uw]; omega
    have e3 : IntKind.u64.wrap (wrap64 (64 - (s : Int))) = ((64 - s : Nat) : Int) := by rw [uw, w64]; omega
    rw [e1, e2, e3, if_pos (by omega)]
    have hp : (2 : Int) ^ (s - 1) < 18446744073709551616 := by
      have : (2 : Nat) ^ (s - 1) < 2 ^ 64 := Nat.pow_lt_pow_right (by decide) (by omega)
      have h3 : ((2 ^ (s - 1) : Nat) : Int) < ((2 ^ 64 : Nat) : Int) := by exact_mod_cast this
      simpa using h3
    have hp0 : (0 : Int) ≤ 2 ^ (s - 1) := Int.le_of_lt (Int.pow_pos (by decide))
    have e4 : shl .u64 1 ((s - 1 : Nat) : Int) = 2 ^ (s - 1) := by
      unfold shl
      rw [uw, Int.toNat_natCast, Nat.min_eq_left (by simp [IntKind.bits]; omega), Int.one_mul]
      exact Int.emod_eq_of_lt hp0 hp
    rw [e4]
    have e5 : (0 : Int) = Bh (2 ^ (s - 1)) := by unfold Bh; rw [Int.ediv_eq_zero_of_lt hp0 hp]; rfl
    have e6 : (2 : Int) ^ (s - 1) = Bl (2 ^ (s - 1)) := by unfold Bl; rw [Int.emod_eq_of_lt hp0 hp]
    have ha := add_B x (2 ^ (s - 1))
    rw [← e5, ← e6] at ha
    rw [ha]
    simp only [Option.bind_some]
    rw [if_pos (by omega), if_pos (by omega)]
    generalize x + 2 ^ (s - 1) = y at *

    have hP : (2 : Nat) ^ s * 2 ^ (64 - s) = 18446744073709551616 := by rw [← Nat.pow_add, show s + (64 - s) = 64 by omega]
    have hPZ : (2 : Int) ^ s * 2 ^ (64 - s) = 18446744073709551616 := by
      have h14 := congrArg (fun n : Nat => (n : Int)) hP
      simp only [Int.natCast_mul, Int.natCast_pow] at h14
      exact h14
    have hb := Bh_nn y
    have hl := Bl_nn y
    have hPi : ((2 : Int) ^ s) = ((2 ^ s : Nat) : Int) := by simp
    have f1 : IntKind.u64.wrap (shr .i64 (wrap64 (Bh y)) (s : Int)) = Bh (y / 2 ^ s) := by
      unfold shr Bh
      rw [uw, Int.toNat_natCast, Nat.min_eq_left (by simp [IntKind.bits]; omega)]
      have : wrap64 (y / 18446744073709551616 % 18446744073709551616) = y / 18446744073709551616 := by rw [w64]; unfold In128 at h2; omega
      rw [this, Int.ediv_ediv_of_nonneg (by decide : (0:Int) ≤ 18446744073709551616), Int.ediv_ediv_of_nonneg (Int.le_of_lt (Int.pow_pos (by decide))), Int.mul_comm]
    have f2 : Go.bits .or .u64 (shl .u64 (Bh y) ((64 - s : Nat) : Int)) (shr .u64 (Bl y) (s : Int)) = Bl (y / 2 ^ s) := by
      unfold shl shr
      rw [uw, Int.toNat_natCast, Int.toNat_natCast, Nat.min_eq_left (by simp [IntKind.bits]), Nat.min_eq_left (by simp [IntKind.bits]; omega)]
      obtain ⟨H, hH⟩ := Int.eq_ofNat_of_zero_le hb.1
      obtain ⟨L, hL⟩ := Int.eq_ofNat_of_zero_le hl.1
      have hH2 : H < 18446744073709551616 := by omega
      have hL2 : L < 18446744073709551616 := by omega
      have c1 : Bh y * 2 ^ (64 - s) % 18446744073709551616 = ((H * 2 ^ (64 - s) % 18446744073709551616 : Nat) : Int) := by rw [hH]; simp
      have c2 : Bl y / 2 ^ s = ((L / 2 ^ s : Nat) : Int) := by rw [hL]; simp
      rw [c1, c2, u64_or_nat _ _ (Nat.mod_lt _ (by decide)) (Nat.lt_of_le_of_lt (Nat.div_le_self _ _) hL2), or_parts (2 ^ s) (2 ^ (64 - s)) H L (64 - s) rfl hP hH2 hL2]
      unfold Bl
      have hy : y = Int.ofNat L + 18446744073709551616 * (y / 18446744073709551616) := by
        have h3 : Bl y = (L : Int) := hL
        unfold Bl at h3
        show y = (L : Int) + 18446744073709551616 * (y / 18446744073709551616)
        omega
      have hHm : (y / 18446744073709551616) % (2 ^ s) = ((H % 2 ^ s : Nat) : Int) := by
        have h4 : (y / 18446744073709551616) % 18446744073709551616 = (H : Int) := hH
        have h5 : ((y / 18446744073709551616) % 18446744073709551616) % ((2 ^ s : Nat) : Int) = (y / 18446744073709551616) % ((2 ^ s : Nat) : Int) := by
          apply Int.emod_emod_of_dvd
          exact ⟨((2 ^ (64 - s) : Nat) : Int), by rw [← Int.natCast_mul, hP]; rfl⟩
        rw [h4] at h5
        rw [hPi, ← h5]
        simp
      generalize y / 18446744073709551616 = z at *
      have hy2 : y / 2 ^ s = (L : Int) / 2 ^ s + 2 ^ (64 - s) * z := by
        rw [hy]
        have : (18446744073709551616 : Int) * z = 2 ^ s * (2 ^ (64 - s) * z) := by
          rw [← Int.mul_assoc]
          rw [hPZ]
        rw [this]
        exact Int.add_mul_ediv_left _ _ (Int.ne_of_gt (Int.pow_pos (by decide)))
      rw [hy2]
      have hz : (2 : Int) ^ (64 - s) * z = 2 ^ (64 - s) * (z % 2 ^ s) + 18446744073709551616 * (z / 2 ^ s) := by
        have h6 := Int.emod_add_mul_ediv z (2 ^ s)
        have : (18446744073709551616 : Int) = 2 ^ (64 - s) * 2 ^ s := by rw [Int.mul_comm]; exact hPZ.symm
        rw [this, Int.mul_assoc, ← Int.mul_add, h6]
      rw [hz, hHm]
      have hlt : (H % 2 ^ s) * 2 ^ (64 - s) + L / 2 ^ s < 18446744073709551616 := by
        have h7 : H % 2 ^ s < 2 ^ s := Nat.mod_lt _ (Nat.pow_pos (by decide))
        have h8 : L / 2 ^ s < 2 ^ (64 - s) := Nat.div_lt_of_lt_mul (by rw [hP]; exact hL2)
        have h9 : (H % 2 ^ s + 1) * 2 ^ (64 - s) ≤ 2 ^ s * 2 ^ (64 - s) := Nat.mul_le_mul_right _ h7
        rw [hP, Nat.add_mul] at h9
        omega
      have hcast : (L : Int) / 2 ^ s + (2 ^ (64 - s) * ((H % 2 ^ s : Nat) : Int) + 18446744073709551616 * (z / 2 ^ s)) = (((H % 2 ^ s) * 2 ^ (64 - s) + L / 2 ^ s : Nat) : Int) + 18446744073709551616 * (z / 2 ^ s) := by
        have : ((L / 2 ^ s : Nat) : Int) = (L : Int) / 2 ^ s := by simp
        rw [Int.natCast_add, Int.natCast_mul, this, Int.mul_comm (((H % 2 ^ s : Nat) : Int))]
        have : ((2 ^ (64 - s) : Nat) : Int) = 2 ^ (64 - s) := by simp
        rw [this]
        omega
      rw [hcast]
      generalize (H % 2 ^ s) * 2 ^ (64 - s) + L / 2 ^ s = v at hlt ⊢
      generalize z / 2 ^ s = q
      clear hcast hz hy2 hHm hy
      omega
    rw [f1, f2]
def fit (v : Int) : Int × Bool := if -9223372036854775808 ≤ v ∧ v < 9223372036854775808 then (v, true) else (0, false)
theorem plain_B (x : Int) (h : In128 x) : wide_big_plain.f (Bh x) (Bl x) = some (fit x) := by
  unfold wide_big_plain.f
  have hw : I64 (wrap64 (Bl x)) := by rw [w64]; unfold I64; omega
  rw [of_B _ hw]
  simp only [Option.bind_some]
  unfold fit
  by_cases hx : -9223372036854775808 ≤ x ∧ x < 9223372036854775808
  · have e : wrap64 (Bl x) = x := by rw [w64]; unfold Bl; omega
    rw [e, if_pos hx]
    simp
  · rw [if_neg hx]
    have : (!(Bh (wrap64 (Bl x)) == Bh x) || (!(Bl (wrap64 (Bl x)) == Bl x))) = true := by
      rw [Bool.or_eq_true]
      left
      simp only [Bool.not_eq_true', beq_eq_false_iff_ne, ne_eq]
      intro e
      rw [w64] at e
      unfold Bh Bl In128 at *
      omega
    rw [if_pos this]
theorem dot_eq (k : Nat) (a b c d : Int) (s : Nat) (hs : s ≤ 62) (ha : I64 a) (hb : I64 b) (hc : I64 c) (hd : I64 d) :
    wide_Dot.f (k + 2) a b c d (s : Int) = some (fit (near (a * b + c * d) s)) := by
  unfold wide_Dot.f
  rw [if_neg (by omega), show decide ((s : Int) > 62) = false from decide_eq_false (by omega)]
  simp only [wide_Dot.j0]
  have hab : ∀ u v : Int, I64 u → I64 v → -85070591730234615865843651857942052864 ≤ u * v ∧ u * v ≤ 85070591730234615865843651857942052864 := by
    intro u v hu hv
    obtain ⟨p0, p1⟩ := mul_le_126 _ _ (absI_le u hu) (absI_le v hv)
    have : absI u * absI v = u * v ∨ absI u * absI v = -(u * v) := by
      unfold absI
      split <;> split
      · exact .inl (Int.neg_mul_neg u v)
      · exact .inr (Int.neg_mul u v)
      · exact .inr (Int.mul_neg u v)
      · exact .inl rfl
    omega
  have h1 := hab a b ha hb
  have h2 := hab c d hc hd

  have j1 : wide_Dot.j1 (k + 1) a b c d (s : Int) true = some (0, false) := by simp [wide_Dot.j1]
  have j2 : a * b + c * d < 170141183460469231731687303715884105728 → In128 (a * b + c * d + 2 ^ (s - 1)) → wide_Dot.j1 (k + 1) a b c d (s : Int) false = some (fit (near (a * b + c * d) s)) := by
    intro h3 h4
    have h5 : In128 (a * b + c * d) := by unfold In128; omega
    simp only [wide_Dot.j1, Bool.false_eq_true, if_false]
    rw [times_B a b ha hb, times_B c d hc hd]
    simp only [Option.bind_some]
    rw [add_B]
    simp only [Option.bind_some]
    rw [shifted_B _ s hs h4]
    simp only [Option.bind_some]
    have h6 : In128 (near (a * b + c * d) s) := by
      unfold near
      split
      · exact h5
      · have hp : (0 : Int) < 2 ^ s := Int.pow_pos (by decide)
        unfold In128 at *
        refine ⟨?_, ?_⟩
        · apply Int.le_ediv_of_mul_le hp
          have : (-170141183460469231731687303715884105728 : Int) * 2 ^ s ≤ -170141183460469231731687303715884105728 * 1 := Int.mul_le_mul_of_nonpos_left (by decide) hp
          omega
        · apply Int.ediv_lt_of_lt_mul hp
          have : (170141183460469231731687303715884105728 : Int) * 1 ≤ 170141183460469231731687303715884105728 * 2 ^ s := Int.mul_le_mul_of_nonneg_left hp (by decide)
          omega
    rw [plain_B _ h6]
    rfl
  have hpow : (0 : Int) ≤ 2 ^ (s - 1) ∧ (2 : Int) ^ (s - 1) ≤ 2305843009213693952 := by
    refine ⟨Int.le_of_lt (Int.pow_pos (by decide)), ?_⟩
    have h12 : (2 : Nat) ^ (s - 1) ≤ 2 ^ 61 := Nat.pow_le_pow_right (by decide) (by omega)
    have h13 : ((2 ^ (s - 1) : Nat) : Int) ≤ ((2 ^ 61 : Nat) : Int) := Int.ofNat_le.mpr h12
    rw [Int.natCast_pow] at h13
    exact h13
  by_cases hmin : a = -9223372036854775808 ∧ b = a ∧ c = a ∧ d = a
  · obtain ⟨e1, e2, e3, e4⟩ := hmin
    have e5 : b = -9223372036854775808 := by omega
    have e6 : c = -9223372036854775808 := by omega
    have e7 : d = -9223372036854775808 := by omega
    clear e2 e3 e4
    subst e1 e5 e6 e7
    rw [if_neg (show ¬ (false = true) by decide), if_pos rfl, if_pos rfl, if_pos rfl]
    rw [show ((-9223372036854775808 : Int) == -9223372036854775808) = true from rfl, j1]
    have : fit (near (-9223372036854775808 * -9223372036854775808 + -9223372036854775808 * -9223372036854775808) s) = (0, false) := by
      unfold fit
      rw [if_neg]
      intro h
      have h8 := h.2
      unfold near at h8
      split at h8
      · omega
      · have hp : (0 : Int) < 2 ^ s := Int.pow_pos (by decide)
        have h9 : (2 : Int) ^ s ≤ 4611686018427387904 := by
          have h12 : (2 : Nat) ^ s ≤ 2 ^ 62 := Nat.pow_le_pow_right (by decide) hs
          have h13 : ((2 ^ s : Nat) : Int) ≤ ((2 ^ 62 : Nat) : Int) := Int.ofNat_le.mpr h12
          rw [Int.natCast_pow] at h13
          exact h13
        have h10 := Int.lt_mul_of_ediv_lt hp h8
        omega
    rw [this]
  · have hlt : a * b + c * d ≤ 170141183460469231731687303715884105728 - 9223372036854775808 := by

      have key : ∀ u v : Int, I64 u → I64 v → (u ≠ -9223372036854775808 ∨ v ≠ -9223372036854775808) → u * v ≤ 85070591730234615865843651857942052864 - 9223372036854775808 := by
        intro u v hu hv hne
        unfold I64 at hu hv
        by_cases hu0 : 0 ≤ u <;> by_cases hv0 : 0 ≤ v
        · have := Int.mul_le_mul (show u ≤ 9223372036854775807 by omega) (show v ≤ 9223372036854775807 by omega) hv0 (by omega)
          omega
        · have h11 : u * v ≤ 0 := Int.mul_nonpos_of_nonneg_of_nonpos hu0 (by omega)
          omega
        · have h11 : v * u ≤ 0 := Int.mul_nonpos_of_nonneg_of_nonpos hv0 (by omega)
          rw [Int.mul_comm] at h11
          omega
        · rcases hne with hne | hne
          · have : (-u) * (-v) ≤ 9223372036854775807 * 9223372036854775808 := Int.mul_le_mul (by omega) (by omega) (by omega) (by omega)
            rw [Int.neg_mul_neg] at this
            omega
          · have : (-u) * (-v) ≤ 9223372036854775808 * 9223372036854775807 := Int.mul_le_mul (by omega) (by omega) (by omega) (by omega)
            rw [Int.neg_mul_neg] at this
            omega
      by_cases g1 : a ≠ -9223372036854775808 ∨ b ≠ -9223372036854775808
      · have := key a b ha hb g1; omega
      · by_cases g2 : c ≠ -9223372036854775808 ∨ d ≠ -9223372036854775808
        · have := key c d hc hd g2; omega
        · exfalso
          apply hmin
          refine ⟨?_, ?_, ?_, ?_⟩ <;> omega
    have h4 : In128 (a * b + c * d + 2 ^ (s - 1)) := by unfold In128; omega
    have j3 := j2 (by omega) h4
    rw [if_neg (show ¬ (false = true) by decide)]
    by_cases g1 : a = -9223372036854775808
    · rw [if_pos g1]
      by_cases g2 : b = a
      · rw [if_pos g2]
        by_cases g3 : c = a
        · rw [if_pos g3]
          have g4 : (d == a) = false := by
            rw [beq_eq_false_iff_ne]
            intro e
            exact hmin ⟨g1, g2, g3, e⟩
          rw [g4]
          exact j3
        · rw [if_neg g3]; exact j3
      · rw [if_neg g2]; exact j3
    · rw [if_neg g1]; exact j3
def inB (a : Int) : Bool := decide (-4294967296 < a) && decide (a < 4294967296)
theorem within_from (l : List Int) (hl : l.length < 9223372036854775807) : ∀ (d k i : Nat), i + d = l.length → d < k →
    wide_Within.l0 k 4294967296 l (l.length : Int) (i : Int) = some ((l.drop i).all inB) := by
  intro d
  induction d with
  | zero =>
    intro k i hi hk
    obtain ⟨k, rfl⟩ : ∃ m, k = m + 1 := ⟨k - 1, by omega⟩
    simp only [wide_Within.l0]
    rw [if_neg (by omega), List.drop_eq_nil_of_le (by omega)]
    rfl
  | succ d ih =>
    intro k i hi hk
    obtain ⟨k, rfl⟩ : ∃ m, k = m + 1 := ⟨k - 1, by omega⟩
    simp only [wide_Within.l0]
    rw [if_pos (by omega), if_pos (by omega), if_pos (by omega), if_neg (by decide)]
    have hlt : i < l.length := by omega
    have e : rd l (i : Int) = l[i] := by
      unfold rd
      rw [Int.toNat_natCast, List.getD_eq_getElem?_getD, List.getElem?_eq_getElem hlt]
      rfl
    have e2 : l.drop i = l[i] :: l.drop (i + 1) := List.drop_eq_getElem_cons hlt
    have e3 : wrap64 (-4294967296) = -4294967296 := w64_id _ (by decide) (by decide)
    have e4 : wrap64 ((i : Int) + 1) = ((i + 1 : Nat) : Int) := by rw [w64]; omega
    rw [e, e2, List.all_cons, e3, e4, ih k (i + 1) (by omega) (by omega)]
    unfold inB
    by_cases h1 : l[i] ≥ 4294967296
    · rw [if_pos h1, show decide (l[i] < 4294967296) = false from decide_eq_false (by omega)]
      simp
    · rw [if_neg h1]
      by_cases h2 : l[i] ≤ -4294967296
      · rw [if_pos h2, show decide (-4294967296 < l[i]) = false from decide_eq_false (by omega)]
        simp
      · rw [if_neg h2, show decide (l[i] < 4294967296) = true from decide_eq_true (by omega), show decide (-4294967296 < l[i]) = true from decide_eq_true (by omega)]
        simp
theorem within_eq (l : List Int) (hl : l.length < 9223372036854775807) (k : Nat) (hk : l.length < k) : wide_Within.f k 4294967296 l = some (l.all inB) := by
  have := within_from l hl l.length k 0 (by omega) hk
  simpa [wide_Within.f] using this
theorem add2_eq (k : Nat) (a b : Int) (ha : I64 a) (hb : I64 b) : wide_Add.f (k + 3) [a, b] = some (fit (a + b)) := by
  unfold wide_Add.f
  have e0 : (0 : Int) = Bh 0 := by decide
  have e1 : (0 : Int) = Bl 0 := by decide
  have r0 : rd [a, b] 0 = a := rfl
  have r1 : rd [a, b] 1 = b := rfl
  have w1 : wrap64 (0 + 1) = 1 := w64_id _ (by decide) (by decide)
  have w2 : wrap64 (1 + 1) = 2 := w64_id _ (by decide) (by decide)
  have s0 : wide_big_add.f 0 0 (Bh a) (Bl a) = some (Bh a, Bl a) := by
    have := add_B 0 a
    rw [← e0, ← e1, Int.zero_add] at this
    exact this
  simp only [wide_Add.l0, List.length_cons, List.length_nil]
  rw [if_pos (by decide), if_pos (by decide), if_pos (by decide), r0, of_B a ha]
  simp only [Option.bind_some]
  rw [s0]
  simp only [Option.bind_some, w1]
  rw [if_pos (by decide), if_pos (by decide), if_pos (by decide), r1, of_B b hb]
  simp only [Option.bind_some]
  rw [add_B]
  simp only [Option.bind_some, w2]
  rw [if_neg (by decide), plain_B (a + b) (by unfold I64 In128 at *; omega)]
  rfl
end Go.Proofs.YtbnjgaeeojcjbaaDoor.PR
namespace Go.Proofs.YtbnjgaeeojcjbaaDoor.PR
open Go.RowKit Go.Proofs.YtbnjgaeeojcjbaaDoorW.PrintWords Go.Proofs.YtbnjgaeeojcjbaaDoorW.PrintLast Go.Proofs.YtbnjgaeeojcjbaaDoorW.PrintMore
attribute [local go_sem] max2_int min2_int max_two min_two max_three min_three max_four min_four
set_option linter.unusedVariables false
set_option linter.unusedSimpArgs false
theorem eqA25 (d : Nat) (w : World) (x0 y0 : Int) (x1 y1 : Int) :
    (Op.equalIn (d + 2) 25 (.agg #[.int .i64 x0, .int .i64 x1]) (.agg #[.int .i64 y0, .int .i64 y1])).run Tryd.prog w = .ok (x0 == y0 && (x1 == y1)) w := by
  refine eqA_of Tryd.underlying25 (by kernel_rfl) ?_
  refine eqf_cons (by rfl) (by go_simp; rfl) (by go_simp; rfl) (by go_simp) ?_
  exact eqf_last (by rfl) (by go_simp; rfl) (by go_simp; rfl) (by go_simp)
end Go.Proofs.YtbnjgaeeojcjbaaDoor.PR
namespace Go.Proofs.YtbnjgaeeojcjbaaDoor.PR
open Go.RowKit Go.Proofs.YtbnjgaeeojcjbaaDoorW.PrintWords Go.Proofs.YtbnjgaeeojcjbaaDoorW.PrintLast Go.Proofs.YtbnjgaeeojcjbaaDoorW.PrintMore
attribute [local go_sem] max2_int min2_int max_two min_two max_three min_three max_four min_four
set_option linter.unusedVariables false
set_option linter.unusedSimpArgs false
def affine_moved.f (k : Nat) (a0_0 : Int) (a0_1 : Int) (a0_2 : Int) (a0_3 : Int) (a0_4 : Int) (a0_5 : Int) (a1_0 : Int) (a1_1 : Int) : Option (Int × Int) := (affine_Right.f k a0_0 a0_1 a0_2 a0_3 a0_4 a0_5).bind fun t168 => (if t168 = true then ((wide_Within.f k 4294967296 (([a1_0, a1_1] : List Int))).bind fun t172 => ((affine_must.f t172 1).bind fun _ => ((affine_number.f k a0_0 a1_0 a0_2 a1_1 a0_4).bind fun t173 => ((affine_number.f k a0_1 a1_0 a0_3 a1_1 a0_5).bind fun t174 => (some (t173, t174)))))) else ((affine_must.f false 1).bind fun _ => ((affine_number.f k a0_0 a1_0 a0_2 a1_1 a0_4).bind fun t175 => ((affine_number.f k a0_1 a1_0 a0_3 a1_1 a0_5).bind fun t176 => (some (t175, t176))))))
theorem affine_moved.mono : ∀ a0 a1 a2 a3 a4 a5 a6 a7 k, LeO (affine_moved.f k a0 a1 a2 a3 a4 a5 a6 a7) (affine_moved.f (k + 1) a0 a1 a2 a3 a4 a5 a6 a7) := by
 intro a0 a1 a2 a3 a4 a5 a6 a7 k
 unfold affine_moved.f
 repeat' first
   | (with_reducible exact affine_Right.mono _ _ _ _ _ _ _)
   | (with_reducible exact affine_number.mono _ _ _ _ _ _)
   | (with_reducible exact wide_Within.mono _ _ _)
   | (with_reducible exact LeO.refl _)
   | (with_reducible exact LeO.none _)
   | (with_reducible refine LeO.ite ?_ ?_)
   | (with_reducible refine LeO.bind ?_ (fun _ => ?_))
   | exact affine_Right.mono _ _ _ _ _ _ _
   | exact affine_number.mono _ _ _ _ _ _
   | exact wide_Within.mono _ _ _
   | exact LeO.none _
   | refine LeO.ite ?_ ?_
   | refine LeO.bind ?_ (fun _ => ?_)
def affine_moved.T2 : Bool × List (List Nat × List Nat) := (true, [([], []), ([0], [0]), ([], []), ([2], [2]), ([], []), ([4], [4]), ([], []), ([6], [6]), ([], []), ([8], [8]), ([1, 3, 5, 7, 9], [1, 3, 5, 7, 9]), ([], []), ([11], [11]), ([], []), ([13], [13]), ([], []), ([15], [15]), ([], []), ([17], [17]), ([], []), ([19], [19]), ([12, 14, 16, 18, 20, 10], [12, 14, 16, 18, 20]), ([10, 21], [10, 21]), ([22, 21, 0, 1, 2, 3, 4, 5, 6, 7, 8, 9, 10, 11, 12, 13, 14, 15, 16, 17, 18, 19, 20, 21, 22], [22])])
def affine_moved.B2 : List Nat := [0, 1, 0, 4, 0, 16, 0, 64, 0, 256, 1023, 0, 2048, 0, 8192, 0, 32768, 0, 131072, 0, 524288, 2097151, 4194303, 8388607]
theorem affine_moved.tab2 : rtab .any (opsOf Tryd.f21 2) = affine_moved.T2 := by kernel_rfl
theorem affine_moved.bits2 : waitsOk affine_moved.T2.2 affine_moved.B2 = true := by kernel_rfl
set_option maxHeartbeats 8000000 in
set_option maxRecDepth 100000 in
theorem affine_moved.calls (k : Nat) (a0_0 : Int) (a0_1 : Int) (a0_2 : Int) (a0_3 : Int) (a0_4 : Int) (a0_5 : Int) (a1_0 : Int) (a1_1 : Int) (r1 : Int) (r2 : Int) (w : World) (hG : Gl w) (h : affine_moved.f k a0_0 a0_1 a0_2 a0_3 a0_4 a0_5 a1_0 a1_1 = some (r1, r2)) :
  Calls Tryd.prog 21 #[.agg #[.int .i64 a0_0, .int .i64 a0_1, .int .i64 a0_2, .int .i64 a0_3, .int .i64 a0_4, .int .i64 a0_5], .agg #[.int .i64 a1_0, .int .i64 a1_1]] w fun e w' => e = .returned (.agg #[.int .i64 r1, .int .i64 r2]) ∧ Below w.heap.size w w' := by
 have hu23 := Tryd.underlying23
 have hu25 := Tryd.underlying25
 have HG := Aside0.mk hG
 clear hG
 have HB := Aside0.mk (Below.refl w.heap.size w)
 have H : ((affine_Right.f k a0_0 a0_1 a0_2 a0_3 a0_4 a0_5).bind fun t168 => (if t168 = true then ((wide_Within.f k 4294967296 (([a1_0, a1_1] : List Int))).bind fun t172 => ((affine_must.f t172 1).bind fun _ => ((affine_number.f k a0_0 a1_0 a0_2 a1_1 a0_4).bind fun t173 => ((affine_number.f k a0_1 a1_0 a0_3 a1_1 a0_5).bind fun t174 => (some (t173, t174)))))) else ((affine_must.f false 1).bind fun _ => ((affine_number.f k a0_0 a1_0 a0_2 a1_1 a0_4).bind fun t175 => ((affine_number.f k a0_1 a1_0 a0_3 a1_1 a0_5).bind fun t176 => (some (t175, t176))))))) = some (r1, r2) := h
 clear h
 replace H := Option.bind_eq_some_iff.mp H
 obtain ⟨t168, A30, H⟩ := H
 replace H : (if t168 = true then ((wide_Within.f k 4294967296 (([a1_0, a1_1] : List Int))).bind fun t172 => ((affine_must.f t172 1).bind fun _ => ((affine_number.f k a0_0 a1_0 a0_2 a1_1 a0_4).bind fun t173 => ((affine_number.f k a0_1 a1_0 a0_3 a1_1 a0_5).bind fun t174 => (some (t173, t174)))))) else ((affine_must.f false 1).bind fun _ => ((affine_number.f k a0_0 a1_0 a0_2 a1_1 a0_4).bind fun t175 => ((affine_number.f k a0_1 a1_0 a0_3 a1_1 a0_5).bind fun t176 => (some (t175, t176)))))) = some (r1, r2) := H
 have A3 := Aside0.mk A30
 clear A30
 by_cases c4 : t168 = true
 ·
  subst c4
  have H1 : ((wide_Within.f k 4294967296 (([a1_0, a1_1] : List Int))).bind fun t172 => ((affine_must.f t172 1).bind fun _ => ((affine_number.f k a0_0 a1_0 a0_2 a1_1 a0_4).bind fun t173 => ((affine_number.f k a0_1 a1_0 a0_3 a1_1 a0_5).bind fun t174 => (some (t173, t174)))))) = some (r1, r2) := by rw [if_pos rfl] at H; exact H
  clear H
  have H := H1
  clear H1
  obtain ⟨y169, hy169⟩ : ∃ y_ : List Int, y_ = (([a1_0, a1_1] : List Int)) := ⟨_, rfl⟩
  replace H : ((wide_Within.f k 4294967296 y169).bind fun t172 => ((affine_must.f t172 1).bind fun _ => ((affine_number.f k a0_0 a1_0 a0_2 a1_1 a0_4).bind fun t173 => ((affine_number.f k a0_1 a1_0 a0_3 a1_1 a0_5).bind fun t174 => (some (t173, t174)))))) = some (r1, r2) := by first | (rw [hy169]; with_reducible exact H) | (have H2_ := (Option.bind_some _ _).symm.trans H; rw [hy169]; with_reducible exact H2_) | (have H2_ := (Option.bind_some _ _).symm.trans H; with_reducible exact H2_) | with_reducible exact H | (rw [hy169]; exact H) | exact H
  have Ny169 := Aside0.mk hy169
  clear hy169
  replace H := Option.bind_eq_some_iff.mp H
  obtain ⟨t172, A50, H⟩ := H
  replace H : ((affine_must.f t172 1).bind fun _ => ((affine_number.f k a0_0 a1_0 a0_2 a1_1 a0_4).bind fun t173 => ((affine_number.f k a0_1 a1_0 a0_3 a1_1 a0_5).bind fun t174 => (some (t173, t174))))) = some (r1, r2) := H
  have A5 := Aside0.mk A50
  clear A50
  replace H := Option.bind_eq_some_iff.mp H
  obtain ⟨_, A60, H⟩ := H
  replace H : ((affine_number.f k a0_0 a1_0 a0_2 a1_1 a0_4).bind fun t173 => ((affine_number.f k a0_1 a1_0 a0_3 a1_1 a0_5).bind fun t174 => (some (t173, t174)))) = some (r1, r2) := H
  have A6 := Aside0.mk A60
  clear A60
  replace H := Option.bind_eq_some_iff.mp H
  obtain ⟨t173, A70, H⟩ := H
  replace H : ((affine_number.f k a0_1 a1_0 a0_3 a1_1 a0_5).bind fun t174 => (some (t173, t174))) = some (r1, r2) := H
  have A7 := Aside0.mk A70
  clear A70
  replace H := Option.bind_eq_some_iff.mp H
  obtain ⟨t174, A80, H⟩ := H
  replace H : (some (t173, t174)) = some (r1, r2) := H
  have A8 := Aside0.mk A80
  clear A80
  simp only [Option.some.injEq, Prod.mk.injEq] at H
  obtain ⟨rfl, rfl⟩ := H
  go_enter Tryd.func21, Tryd.ntmps21
  try go_wp2_with (first | ((with_reducible refine gate_dst (N := 2) rfl ?_); (try (refine gate_guard (by rfl) ?_; dsimp only)); refine box_event ?hg (N := 2) ?hd (cs := #[.int .i64 a0_0, .int .i64 a0_1, .int .i64 a0_2, .int .i64 a0_3, .int .i64 a0_4, .int .i64 a0_5]) (t := 23) ?hr ?_; (case hd => rfl); (case hg => rfl); (case hr => first | (go_simp; done) | (go_simp; rfl)); intro gb165 hg w9 hbox hb; have n0_ := Aside0.mk (below_step (wq HB.out) hb); have n1_ := Aside0.mk (hbox); have n2_ := Aside0.mk ((by rw [hg]; exact (below_size (wq HB.out)) : w.heap.size ≤ gb165)); have n3_ := n2_; clear HB; have HB := n0_; have BK165 := n1_; have GW165 := n2_; have GE165 := n3_; clear n0_ n1_ n2_ n3_ hb hbox hg) | ((with_reducible refine gate_dst (N := 3) rfl ?_); (try (refine gate_guard (by rfl) ?_; dsimp only)); refine box_event ?hg (N := 3) ?hd (cs := #[.int .i64 a1_0, .int .i64 a1_1]) (t := 25) ?hr ?_; (case hd => rfl); (case hg => rfl); (case hr => first | (go_simp; done) | (go_simp; rfl)); intro gb166 hg w10 hbox hb; have n0_ := Aside0.mk (blk_below (bq BK165.out) hb); have n1_ := Aside0.mk (below_step (wq HB.out) hb); have n2_ := Aside0.mk (hbox); have n3_ := Aside0.mk ((by rw [hg]; exact (below_size (wq HB.out)) : w.heap.size ≤ gb166)); have n4_ := n3_; have n5_ := Aside0.mk ((by rw [hg]; exact Nat.ne_of_lt (blk_lt (bq BK165.out)) : gb165 ≠ gb166)); have n6_ := Aside0.mk ((by rw [hg]; exact Nat.ne_of_gt (blk_lt (bq BK165.out)) : gb166 ≠ gb165)); clear BK165 HB; have BK165 := n0_; have HB := n1_; have BK166 := n2_; have GW166 := n3_; have GE166 := n4_; have NB165_166 := n5_; have NB166_165 := n6_; clear n0_ n1_ n2_ n3_ n4_ n5_ n6_ hb hbox hg) | ((with_reducible refine gate_dst (N := 4) rfl ?_); (try (refine gate_guard (by rfl) ?_; dsimp only)); refine box_event ?hg (N := 4) ?hd (cs := #[.int .i64 0, .int .i64 0]) (t := 25) ?hr ?_; (case hd => rfl); (case hg => rfl); (case hr => first | (go_simp; done) | (go_simp; rfl)); intro gb167 hg w11 hbox hb; have n0_ := Aside0.mk (blk_below (bq BK165.out) hb); have n1_ := Aside0.mk (blk_below (bq BK166.out) hb); have n2_ := Aside0.mk (below_step (wq HB.out) hb); have n3_ := Aside0.mk (hbox); have n4_ := Aside0.mk ((by rw [hg]; exact (below_size (wq HB.out)) : w.heap.size ≤ gb167)); have n5_ := n4_; have n6_ := Aside0.mk ((by rw [hg]; exact Nat.ne_of_lt (blk_lt (bq BK165.out)) : gb165 ≠ gb167)); have n7_ := Aside0.mk ((by rw [hg]; exact Nat.ne_of_gt (blk_lt (bq BK165.out)) : gb167 ≠ gb165)); have n8_ := Aside0.mk ((by rw [hg]; exact Nat.ne_of_lt (blk_lt (bq BK166.out)) : gb166 ≠ gb167)); have n9_ := Aside0.mk ((by rw [hg]; exact Nat.ne_of_gt (blk_lt (bq BK166.out)) : gb167 ≠ gb166)); clear BK165 BK166 HB; have BK165 := n0_; have BK166 := n1_; have HB := n2_; have BK167 := n3_; have GW167 := n4_; have GE167 := n5_; have NB165_167 := n6_; have NB167_165 := n7_; have NB166_167 := n8_; have NB167_166 := n9_; clear n0_ n1_ n2_ n3_ n4_ n5_ n6_ n7_ n8_ n9_ hb hbox hg; have hnb12 := NB165_166.out; have hnc12 := NB166_165.out; have hnb13 := NB165_167.out; have hnc13 := NB167_165.out; have hcz14_0 : w11.cell? ⟨gb165, 0, none⟩ = some (.int .i64 a0_0) := (blk_cell BK165.out 0).trans rfl; have hcz14_1 : w11.cell? ⟨gb165, 1, none⟩ = some (.int .i64 a0_1) := (blk_cell BK165.out 1).trans rfl; have hcz14_2 : w11.cell? ⟨gb165, 2, none⟩ = some (.int .i64 a0_2) := (blk_cell BK165.out 2).trans rfl; have hcz14_3 : w11.cell? ⟨gb165, 3, none⟩ = some (.int .i64 a0_3) := (blk_cell BK165.out 3).trans rfl; have hcz14_4 : w11.cell? ⟨gb165, 4, none⟩ = some (.int .i64 a0_4) := (blk_cell BK165.out 4).trans rfl; have hcz14_5 : w11.cell? ⟨gb165, 5, none⟩ = some (.int .i64 a0_5) := (blk_cell BK165.out 5).trans rfl; have hfz14_0 := blk_frozen BK165.out 0; have hfz14_1 := blk_frozen BK165.out 1; have hfz14_2 := blk_frozen BK165.out 2; have hfz14_3 := blk_frozen BK165.out 3; have hfz14_4 := blk_frozen BK165.out 4; have hfz14_5 := blk_frozen BK165.out 5) | ((with_reducible refine gate_callee (f := 12) rfl ?_); refine goesL_ (some 6) rfl rfl Tryd.func12 (by kernel_rfl) rfl #[.agg #[.int .i64 a0_0, .int .i64 a0_1, .int .i64 a0_2, .int .i64 a0_3, .int .i64 a0_4, .int .i64 a0_5]] rfl (by (try simp only [List.map_toArray, List.map_cons, List.map_nil]); first | done | rfl | (simp only [List.length_drop, List.length_take]; rfl)) ?_; (with_reducible refine (affine_Right.calls k a0_0 a0_1 a0_2 a0_3 a0_4 a0_5 true _ A3.out).mono ?_); rintro e w15 ⟨rfl, hb⟩; refine ⟨_, rfl, ?_⟩; have n0_ := Aside0.mk (blk_below (bq BK165.out) hb); have n1_ := Aside0.mk (blk_below (bq BK166.out) hb); have n2_ := Aside0.mk (blk_below (bq BK167.out) hb); have n3_ := Aside0.mk (below_step (wq HB.out) hb); clear BK165 BK166 BK167 HB; have BK165 := n0_; have BK166 := n1_; have BK167 := n2_; have HB := n3_; clear n0_ n1_ n2_ n3_; (try clear hb); (try clear hb2); (try clear hk); (try clear hi); have hnb16 := NB166_167.out; have hnc16 := NB167_166.out; have hcz17_0 : w15.cell? ⟨gb166, 0, none⟩ = some (.int .i64 a1_0) := (blk_cell BK166.out 0).trans rfl; have hcz17_1 : w15.cell? ⟨gb166, 1, none⟩ = some (.int .i64 a1_1) := (blk_cell BK166.out 1).trans rfl; have hfz17_0 := blk_frozen BK166.out 0; have hfz17_1 := blk_frozen BK166.out 1) | ((with_reducible refine gate_dst (N := 12) rfl ?_); (try (refine gate_guard (by rfl) ?_; dsimp only)); refine Kd.R_lit (Kd.int .i64) _ 2 ?hg (N := 12) ?hd (xs := ([a1_0, a1_1] : List Int)) (inner := [.int .i64 a1_0, .int .i64 a1_1]) (ok := fun _ => True) (okp := fun _ => True) ?hr ?hp (fun _ hk => hk) trivial (Below.refl _ _) (Nat.le_refl _) (by simp) ?_; (case hd => rfl); (case hg => rfl); (case hr => first | (go_simp; done) | (go_simp; rfl)); (case hp => exact (Reps.one (show Kd.M (Kd.int .i64) _ _ _ a1_0 [.int .i64 a1_0] from rfl) (Reps.one (show Kd.M (Kd.int .i64) _ _ _ a1_1 [.int .i64 a1_1] from rfl) (Reps.none _ _)))); intro v170 w18 ho19 hb hg_ hnew_; clear hg_ hnew_; (first | rw [← Ny169.out] at ho19 | (simp only [Int.reduceToNat] at ho19; rw [← Ny169.out] at ho19)); have n0_ := Aside0.mk (Kd.R_lower ho19 (below_size (wq HB.out))); have n1_ := Aside0.mk (blk_below (bq BK165.out) hb); have n2_ := Aside0.mk (blk_below (bq BK166.out) hb); have n3_ := Aside0.mk (blk_below (bq BK167.out) hb); have n4_ := Aside0.mk (below_step (wq HB.out) hb); clear BK165 BK166 BK167 HB; have HO171 := n0_; have BK165 := n1_; have BK166 := n2_; have BK167 := n3_; have HB := n4_; clear n0_ n1_ n2_ n3_ n4_ hb ho19; obtain ⟨Ao20, co20, eo20⟩ := Kd.R_slice HO171.out; subst eo20) | (go_at_call 23; (with_reducible refine (wide_Within.calls k 4294967296 _ _ y169 t172 _ ?side1 ?side2 A5.out).mono ?_); (case side1 => exact cq (Kd.R_reads' HO171.out).2.2); (case side2 => exact (Kd.R_reads' HO171.out).2.1); rintro e w' ⟨rfl, ⟨nd, rfl⟩⟩; (try (rw [drewN_self w18]; generalize hq_ : World.drewN w18 _ = w18; have n0_ : Aside0 (Kd.R (Kd.int .i64) 2 w18 w.heap.size (fun _ => True) (.slice Ao20 y169.length co20) y169) := ⟨by rw [← hq_]; exact (rq HO171.out)⟩; have n1_ : Aside0 (w18.heap[gb165]? = some (.cells #[.int .i64 a0_0, .int .i64 a0_1, .int .i64 a0_2, .int .i64 a0_3, .int .i64 a0_4, .int .i64 a0_5] 23 (0, 0))) := ⟨by rw [← hq_]; exact (bq BK165.out)⟩; have n2_ : Aside0 (w18.heap[gb166]? = some (.cells #[.int .i64 a1_0, .int .i64 a1_1] 25 (0, 0))) := ⟨by rw [← hq_]; exact (bq BK166.out)⟩; have n3_ : Aside0 (w18.heap[gb167]? = some (.cells #[.int .i64 0, .int .i64 0] 25 (0, 0))) := ⟨by rw [← hq_]; exact (bq BK167.out)⟩; have n4_ : Aside0 (Below w.heap.size w w18) := ⟨by rw [← hq_]; exact (wq HB.out)⟩; clear HO171 BK165 BK166 BK167 HB hq_; have HO171 := n0_; have BK165 := n1_; have BK166 := n2_; have BK167 := n3_; have HB := n4_; clear n0_ n1_ n2_ n3_ n4_))) | ((with_reducible refine gate_callee (f := 25) rfl ?_); refine goesL_ (some 15) rfl rfl Tryd.func25 (by kernel_rfl) rfl #[.bool t172, .int .i64 1] rfl (by (try simp only [List.map_toArray, List.map_cons, List.map_nil]); first | done | rfl | (simp only [List.length_drop, List.length_take]; rfl)) ?_; (with_reducible refine (affine_must.calls t172 1  _ A6.out).mono ?_); rintro e w' ⟨rfl, ⟨nd, rfl⟩⟩; refine ⟨_, rfl, ?_⟩; (try (rw [drewN_self w18]; generalize hq_ : World.drewN w18 _ = w18; have n0_ : Aside0 (Kd.R (Kd.int .i64) 2 w18 w.heap.size (fun _ => True) (.slice Ao20 y169.length co20) y169) := ⟨by rw [← hq_]; exact (rq HO171.out)⟩; have n1_ : Aside0 (w18.heap[gb165]? = some (.cells #[.int .i64 a0_0, .int .i64 a0_1, .int .i64 a0_2, .int .i64 a0_3, .int .i64 a0_4, .int .i64 a0_5] 23 (0, 0))) := ⟨by rw [← hq_]; exact (bq BK165.out)⟩; have n2_ : Aside0 (w18.heap[gb166]? = some (.cells #[.int .i64 a1_0, .int .i64 a1_1] 25 (0, 0))) := ⟨by rw [← hq_]; exact (bq BK166.out)⟩; have n3_ : Aside0 (w18.heap[gb167]? = some (.cells #[.int .i64 0, .int .i64 0] 25 (0, 0))) := ⟨by rw [← hq_]; exact (bq BK167.out)⟩; have n4_ : Aside0 (Below w.heap.size w w18) := ⟨by rw [← hq_]; exact (wq HB.out)⟩; clear HO171 BK165 BK166 BK167 HB hq_; have HO171 := n0_; have BK165 := n1_; have BK166 := n2_; have BK167 := n3_; have HB := n4_; clear n0_ n1_ n2_ n3_ n4_))))
  have n0_ := Aside0.mk (Kd.R_drew HO171.out)
  have n1_ := Aside0.mk (blk_drew BK165.out)
  have n2_ := Aside0.mk (blk_drew BK166.out)
  have n3_ := Aside0.mk (blk_drew BK167.out)
  have n4_ := Aside0.mk (below_drew1 HB.out)
  clear HO171 BK165 BK166 BK167; clear HB; have HO171 := n0_; have BK165 := n1_; have BK166 := n2_; have BK167 := n3_; have HB := n4_; clear n0_ n1_ n2_ n3_ n4_
  refine start_ (n := 24) (S := fun w' => w'.cell? ⟨gb165, 0, none⟩ = some (.int .i64 a0_0) ∧ w'.cell? ⟨gb165, 1, none⟩ = some (.int .i64 a0_1) ∧ w'.cell? ⟨gb165, 2, none⟩ = some (.int .i64 a0_2) ∧ w'.cell? ⟨gb165, 3, none⟩ = some (.int .i64 a0_3) ∧ w'.cell? ⟨gb165, 4, none⟩ = some (.int .i64 a0_4) ∧ w'.cell? ⟨gb165, 5, none⟩ = some (.int .i64 a0_5) ∧ w'.cell? ⟨gb166, 0, none⟩ = some (.int .i64 a1_0) ∧ w'.cell? ⟨gb166, 1, none⟩ = some (.int .i64 a1_1)) (ds := []) (bt 0 24) (by kernel_rfl) rfl rfl ⟨(blk_cell BK165.out 0).trans rfl, (blk_cell BK165.out 1).trans rfl, (blk_cell BK165.out 2).trans rfl, (blk_cell BK165.out 3).trans rfl, (blk_cell BK165.out 4).trans rfl, (blk_cell BK165.out 5).trans rfl, (blk_cell BK166.out 0).trans rfl, (blk_cell BK166.out 1).trans rfl⟩ (fun hHeld => ?_); refine with_tabW affine_moved.tab2 affine_moved.bits2 (fun HT_ HW_ => ?_)
  generalize w18.drew = w21 at HO171 BK165 BK166 BK167 HB hHeld ⊢
  refine pure_ (i := 0) (N := some 16) (v := ?_) (a' := ?_) (bt 1 23) rfl rfl (any_of HT_.out (by kernel_rfl)) (fun _ _ _ h => h) (Or.inl ⟨by rfl, ?_⟩) ?_ ?_
  rotate_left; focus (intro w'; go_simp; with_reducible rfl)
  rotate_left; focus (simp only [apz, i64_w, i32_w]; rfl)
  refine pure_ (i := 2) (N := some 18) (v := ?_) (a' := ?_) (bm 24 5) rfl rfl (any_of HT_.out (by kernel_rfl)) (fun _ _ _ h => h) (Or.inl ⟨by rfl, ?_⟩) ?_ ?_
  rotate_left; focus (intro w'; go_simp; with_reducible rfl)
  rotate_left; focus (simp only [apz, i64_w, i32_w]; rfl)
  refine pure_ (i := 4) (N := some 20) (v := ?_) (a' := ?_) (bm 24 21) rfl rfl (any_of HT_.out (by kernel_rfl)) (fun _ _ _ h => h) (Or.inl ⟨by rfl, ?_⟩) ?_ ?_
  rotate_left; focus (intro w'; go_simp; with_reducible rfl)
  rotate_left; focus (simp only [apz, i64_w, i32_w]; rfl)
  refine pure_ (i := 6) (N := some 22) (v := ?_) (a' := ?_) (bm 24 85) rfl rfl (any_of HT_.out (by kernel_rfl)) (fun _ _ _ h => h) (Or.inl ⟨by rfl, ?_⟩) ?_ ?_
  rotate_left; focus (intro w'; go_simp; with_reducible rfl)
  rotate_left; focus (simp only [apz, i64_w, i32_w]; rfl)
  refine pure_ (i := 8) (N := some 24) (v := ?_) (a' := ?_) (bm 24 341) rfl rfl (any_of HT_.out (by kernel_rfl)) (fun _ _ _ h => h) (Or.inl ⟨by rfl, ?_⟩) ?_ ?_
  rotate_left; focus (intro w'; go_simp; with_reducible rfl)
  rotate_left; focus (simp only [apz, i64_w, i32_w]; rfl)
  refine pure_ (i := 11) (N := some 27) (v := ?_) (a' := ?_) (bm 24 2389) rfl rfl (any_of HT_.out (by kernel_rfl)) (fun _ _ _ h => h) (Or.inl ⟨by rfl, ?_⟩) ?_ ?_
  rotate_left; focus (intro w'; go_simp; with_reducible rfl)
  rotate_left; focus (simp only [apz, i64_w, i32_w]; rfl)
  refine pure_ (i := 13) (N := some 29) (v := ?_) (a' := ?_) (bm 24 10581) rfl rfl (any_of HT_.out (by kernel_rfl)) (fun _ _ _ h => h) (Or.inl ⟨by rfl, ?_⟩) ?_ ?_
  rotate_left; focus (intro w'; go_simp; with_reducible rfl)
  rotate_left; focus (simp only [apz, i64_w, i32_w]; rfl)
  refine pure_ (i := 15) (N := some 31) (v := ?_) (a' := ?_) (bm 24 43349) rfl rfl (any_of HT_.out (by kernel_rfl)) (fun _ _ _ h => h) (Or.inl ⟨by rfl, ?_⟩) ?_ ?_
  rotate_left; focus (intro w'; go_simp; with_reducible rfl)
  rotate_left; focus (simp only [apz, i64_w, i32_w]; rfl)
  refine pure_ (i := 17) (N := some 33) (v := ?_) (a' := ?_) (bm 24 174421) rfl rfl (any_of HT_.out (by kernel_rfl)) (fun _ _ _ h => h) (Or.inl ⟨by rfl, ?_⟩) ?_ ?_
  rotate_left; focus (intro w'; go_simp; with_reducible rfl)
  rotate_left; focus (simp only [apz, i64_w, i32_w]; rfl)
  refine pure_ (i := 19) (N := some 35) (v := ?_) (a' := ?_) (bm 24 698709) rfl rfl (any_of HT_.out (by kernel_rfl)) (fun _ _ _ h => h) (Or.inl ⟨by rfl, ?_⟩) ?_ ?_
  rotate_left; focus (intro w'; go_simp; with_reducible rfl)
  rotate_left; focus (simp only [apz, i64_w, i32_w]; rfl)
  refine take_ (i := 1) (N := some 17) (v := ?_) (a' := ?_) (bm 24 698711) rfl rfl (take_ofW HT_.out HW_.out (by kernel_rfl)) (fun _ _ _ h => h) (Or.inl ⟨by rfl, ?_⟩) hHeld ?_ ?_
  rotate_left
  ·
   rintro w' ⟨s0, s1, s2, s3, s4, s5, s6, s7⟩
   go_simp
   with_reducible rfl
  rotate_left; focus (simp only [apz, i64_w, i32_w]; rfl)
  refine take_ (i := 3) (N := some 19) (v := ?_) (a' := ?_) (bm 24 698719) rfl rfl (take_ofW HT_.out HW_.out (by kernel_rfl)) (fun _ _ _ h => h) (Or.inl ⟨by rfl, ?_⟩) hHeld ?_ ?_
  rotate_left
  ·
   rintro w' ⟨s0, s1, s2, s3, s4, s5, s6, s7⟩
   go_simp
   with_reducible rfl
  rotate_left; focus (simp only [apz, i64_w, i32_w]; rfl)
  refine take_ (i := 5) (N := some 21) (v := ?_) (a' := ?_) (bm 24 698751) rfl rfl (take_ofW HT_.out HW_.out (by kernel_rfl)) (fun _ _ _ h => h) (Or.inl ⟨by rfl, ?_⟩) hHeld ?_ ?_
  rotate_left
  ·
   rintro w' ⟨s0, s1, s2, s3, s4, s5, s6, s7⟩
   go_simp
   with_reducible rfl
  rotate_left; focus (simp only [apz, i64_w, i32_w]; rfl)
  refine take_ (i := 7) (N := some 23) (v := ?_) (a' := ?_) (bm 24 698879) rfl rfl (take_ofW HT_.out HW_.out (by kernel_rfl)) (fun _ _ _ h => h) (Or.inl ⟨by rfl, ?_⟩) hHeld ?_ ?_
  rotate_left
  ·
   rintro w' ⟨s0, s1, s2, s3, s4, s5, s6, s7⟩
   go_simp
   with_reducible rfl
  rotate_left; focus (simp only [apz, i64_w, i32_w]; rfl)
  refine take_ (i := 9) (N := some 25) (v := ?_) (a' := ?_) (bm 24 699391) rfl rfl (take_ofW HT_.out HW_.out (by kernel_rfl)) (fun _ _ _ h => h) (Or.inl ⟨by rfl, ?_⟩) hHeld ?_ ?_
  rotate_left
  ·
   rintro w' ⟨s0, s1, s2, s3, s4, s5, s6, s7⟩
   go_simp
   with_reducible rfl
  rotate_left; focus (simp only [apz, i64_w, i32_w]; rfl)
  refine take_ (i := 12) (N := some 28) (v := ?_) (a' := ?_) (bm 24 703487) rfl rfl (take_ofW HT_.out HW_.out (by kernel_rfl)) (fun _ _ _ h => h) (Or.inl ⟨by rfl, ?_⟩) hHeld ?_ ?_
  rotate_left
  ·
   rintro w' ⟨s0, s1, s2, s3, s4, s5, s6, s7⟩
   go_simp
   with_reducible rfl
  rotate_left; focus (simp only [apz, i64_w, i32_w]; rfl)
  refine take_ (i := 14) (N := some 30) (v := ?_) (a' := ?_) (bm 24 719871) rfl rfl (take_ofW HT_.out HW_.out (by kernel_rfl)) (fun _ _ _ h => h) (Or.inl ⟨by rfl, ?_⟩) hHeld ?_ ?_
  rotate_left
  ·
   rintro w' ⟨s0, s1, s2, s3, s4, s5, s6, s7⟩
   go_simp
   with_reducible rfl
  rotate_left; focus (simp only [apz, i64_w, i32_w]; rfl)
  refine take_ (i := 16) (N := some 32) (v := ?_) (a' := ?_) (bm 24 785407) rfl rfl (take_ofW HT_.out HW_.out (by kernel_rfl)) (fun _ _ _ h => h) (Or.inl ⟨by rfl, ?_⟩) hHeld ?_ ?_
  rotate_left
  ·
   rintro w' ⟨s0, s1, s2, s3, s4, s5, s6, s7⟩
   go_simp
   with_reducible rfl
  rotate_left; focus (simp only [apz, i64_w, i32_w]; rfl)
  refine take_ (i := 18) (N := some 34) (v := ?_) (a' := ?_) (bm 24 1047551) rfl rfl (take_ofW HT_.out HW_.out (by kernel_rfl)) (fun _ _ _ h => h) (Or.inl ⟨by rfl, ?_⟩) hHeld ?_ ?_
  rotate_left
  ·
   rintro w' ⟨s0, s1, s2, s3, s4, s5, s6, s7⟩
   go_simp
   with_reducible rfl
  rotate_left; focus (simp only [apz, i64_w, i32_w]; rfl)
  refine take_ (i := 20) (N := some 36) (v := ?_) (a' := ?_) (bm 24 2096127) rfl rfl (take_ofW HT_.out HW_.out (by kernel_rfl)) (fun _ _ _ h => h) (Or.inl ⟨by rfl, ?_⟩) hHeld ?_ ?_
  rotate_left
  ·
   rintro w' ⟨s0, s1, s2, s3, s4, s5, s6, s7⟩
   go_simp
   with_reducible rfl
  rotate_left; focus (simp only [apz, i64_w, i32_w]; rfl)
  refine one_ (i := 10) (N := some 26) (bt 21 3) rfl rfl (one_of HT_.out (by kernel_rfl)) (by decide) (fun K hK => ?_)
  refine goes_ Tryd.func27 (by kernel_rfl) rfl #[.int .i64 a0_0, .int .i64 a1_0, .int .i64 a0_2, .int .i64 a1_1, .int .i64 a0_4] (by rfl) rfl rfl (by (try simp only [List.map_toArray, List.map_cons, List.map_nil]); first | done | rfl | (simp only [List.length_drop, List.length_take]; rfl)) ?_
  with_reducible refine (affine_number.calls k a0_0 a1_0 a0_2 a1_1 a0_4 t173 _ ?side1 A7.out).mono ?_
  (case side1 => exact Gl.below HG.out (wq HB.out))
  rintro e w22 ⟨rfl, hb⟩
  refine ⟨_, rfl, ?_⟩
  have n0_ := Aside0.mk (Kd.R_below (rq HO171.out) hb)
  have n1_ := Aside0.mk (blk_below (bq BK165.out) hb)
  have n2_ := Aside0.mk (blk_below (bq BK166.out) hb)
  have n3_ := Aside0.mk (blk_below (bq BK167.out) hb)
  have n4_ := Aside0.mk (below_step (wq HB.out) hb)
  clear HO171 BK165 BK166 BK167; clear HB; have HO171 := n0_; have BK165 := n1_; have BK166 := n2_; have BK167 := n3_; have HB := n4_; clear n0_ n1_ n2_ n3_ n4_
  (try clear hb)
  (try clear hb2)
  (try clear hk)
  (try clear hi)
  refine hK.out _ _ ⟨(blk_cell BK165.out 0).trans rfl, (blk_cell BK165.out 1).trans rfl, (blk_cell BK165.out 2).trans rfl, (blk_cell BK165.out 3).trans rfl, (blk_cell BK165.out 4).trans rfl, (blk_cell BK165.out 5).trans rfl, (blk_cell BK166.out 0).trans rfl, (blk_cell BK166.out 1).trans rfl⟩ (fun hHeld => ?_)
  clear hK K
  refine norm_ (a' := ?_) ?_ ?_
  rotate_left
  ·
   show Act.put _ (some 26) _ = _
   simp only [apz, i64_w, i32_w]
   rfl
  refine one_ (i := 21) (N := some 37) (bt 22 2) rfl rfl (one_of HT_.out (by kernel_rfl)) (by decide) (fun K hK => ?_)
  refine goes_ Tryd.func27 (by kernel_rfl) rfl #[.int .i64 a0_1, .int .i64 a1_0, .int .i64 a0_3, .int .i64 a1_1, .int .i64 a0_5] (by rfl) rfl rfl (by (try simp only [List.map_toArray, List.map_cons, List.map_nil]); first | done | rfl | (simp only [List.length_drop, List.length_take]; rfl)) ?_
  with_reducible refine (affine_number.calls k a0_1 a1_0 a0_3 a1_1 a0_5 t174 _ ?side1 A8.out).mono ?_
  (case side1 => exact Gl.below HG.out (wq HB.out))
  rintro e w23 ⟨rfl, hb⟩
  refine ⟨_, rfl, ?_⟩
  have n0_ := Aside0.mk (Kd.R_below (rq HO171.out) hb)
  have n1_ := Aside0.mk (blk_below (bq BK165.out) hb)
  have n2_ := Aside0.mk (blk_below (bq BK166.out) hb)
  have n3_ := Aside0.mk (blk_below (bq BK167.out) hb)
  have n4_ := Aside0.mk (below_step (wq HB.out) hb)
  clear HO171 BK165 BK166 BK167; clear HB; have HO171 := n0_; have BK165 := n1_; have BK166 := n2_; have BK167 := n3_; have HB := n4_; clear n0_ n1_ n2_ n3_ n4_
  (try clear hb)
  (try clear hb2)
  (try clear hk)
  (try clear hi)
  refine hK.out _ _ ⟨(blk_cell BK165.out 0).trans rfl, (blk_cell BK165.out 1).trans rfl, (blk_cell BK165.out 2).trans rfl, (blk_cell BK165.out 3).trans rfl, (blk_cell BK165.out 4).trans rfl, (blk_cell BK165.out 5).trans rfl, (blk_cell BK166.out 0).trans rfl, (blk_cell BK166.out 1).trans rfl⟩ (fun hHeld => ?_)
  clear hK K
  refine norm_ (a' := ?_) ?_ ?_
  rotate_left
  ·
   show Act.put _ (some 37) _ = _
   simp only [apz, i64_w, i32_w]
   rfl
  refine pure_ (i := 22) (N := some 38) (v := ?_) (a' := ?_) (bt 23 1) rfl rfl (any_of HT_.out (by kernel_rfl)) (fun _ _ _ h => h) (Or.inl ⟨by rfl, ?_⟩) ?_ ?_
  rotate_left; focus (intro w'; go_simp; with_reducible rfl)
  rotate_left; focus (simp only [apz, i64_w, i32_w]; rfl)
  refine one_ (i := 23) (N := none) (bt 24 0) rfl rfl (one_of HT_.out (by kernel_rfl)) (by decide) (fun K hK => ?_)
  have hs24 : w23.cell? ⟨gb167, 0, none⟩ = some (.int .i64 0) := (blk_cell BK167.out 0).trans rfl
  have hfs24 := blk_frozen BK167.out 0
  have hns24_0 := NB165_167.out
  have hns24_1 := NB166_167.out
  have hms24_0 := NB167_165.out
  have hms24_1 := NB167_166.out
  have hs25 : w23.cell? ⟨gb167, 1, none⟩ = some (.int .i64 0) := (blk_cell BK167.out 1).trans rfl
  have hfs25 := blk_frozen BK167.out 1
  have hns25_0 := NB165_167.out
  have hns25_1 := NB166_167.out
  have hms25_0 := NB167_165.out
  have hms25_1 := NB167_166.out
  refine skip_ (w1 := ?_) (by rfl) rfl ?_ ?_
  rotate_left
  ·
   go_simp
   rfl
  refine hK.out _ _ ⟨(cf NB165_167.out ((cf NB165_167.out (hHeld.1)))), (cf NB165_167.out ((cf NB165_167.out (hHeld.2.1)))), (cf NB165_167.out ((cf NB165_167.out (hHeld.2.2.1)))), (cf NB165_167.out ((cf NB165_167.out (hHeld.2.2.2.1)))), (cf NB165_167.out ((cf NB165_167.out (hHeld.2.2.2.2.1)))), (cf NB165_167.out ((cf NB165_167.out (hHeld.2.2.2.2.2.1)))), (cf NB166_167.out ((cf NB166_167.out (hHeld.2.2.2.2.2.2.1)))), (cf NB166_167.out ((cf NB166_167.out (hHeld.2.2.2.2.2.2.2))))⟩ (fun hHeld => ?_)
  clear hK K
  refine done_ (done_of HT_.out (by kernel_rfl)) ?_
  try go_wp2
  refine bodyPost_ret (results_cell_row rfl _ _ gb167 25 #[.int .i64 t173, .int .i64 t174] (0, 0) _ rfl (by refine bq ?_; refine blk_put (cs := #[.int .i64 t173, .int .i64 0]) ?_ 1 _ rfl; refine bq ?_; refine blk_put (cs := #[.int .i64 0, .int .i64 0]) ?_ 0 _ rfl; refine bq ?_; exact BK167.out) Tryd.underlying25 rfl (by kernel_rfl)) rfl ?_
  exact ⟨by first | rfl | (simp [errW_none, errW_some] <;> rfl) | (simp [*, errW_none, errW_some] <;> rfl), by exact wq HB.out⟩
 ·
  replace c4 := Bool.eq_false_iff.mpr c4
  subst c4
  have H1 : ((affine_must.f false 1).bind fun _ => ((affine_number.f k a0_0 a1_0 a0_2 a1_1 a0_4).bind fun t175 => ((affine_number.f k a0_1 a1_0 a0_3 a1_1 a0_5).bind fun t176 => (some (t175, t176))))) = some (r1, r2) := by rw [if_neg (show ¬ (false = true) by decide)] at H; exact H
  clear H
  have H := H1
  clear H1
  replace H := Option.bind_eq_some_iff.mp H
  obtain ⟨_, A260, H⟩ := H
  replace H : ((affine_number.f k a0_0 a1_0 a0_2 a1_1 a0_4).bind fun t175 => ((affine_number.f k a0_1 a1_0 a0_3 a1_1 a0_5).bind fun t176 => (some (t175, t176)))) = some (r1, r2) := H
  have A26 := Aside0.mk A260
  clear A260
  replace H := Option.bind_eq_some_iff.mp H
  obtain ⟨t175, A270, H⟩ := H
  replace H : ((affine_number.f k a0_1 a1_0 a0_3 a1_1 a0_5).bind fun t176 => (some (t175, t176))) = some (r1, r2) := H
  have A27 := Aside0.mk A270
  clear A270
  replace H := Option.bind_eq_some_iff.mp H
  obtain ⟨t176, A280, H⟩ := H
  replace H : (some (t175, t176)) = some (r1, r2) := H
  have A28 := Aside0.mk A280
  clear A280
  simp only [Option.some.injEq, Prod.mk.injEq] at H
  obtain ⟨rfl, rfl⟩ := H
  go_enter Tryd.func21, Tryd.ntmps21
  try go_wp2_with (first | ((with_reducible refine gate_dst (N := 2) rfl ?_); (try (refine gate_guard (by rfl) ?_; dsimp only)); refine box_event ?hg (N := 2) ?hd (cs := #[.int .i64 a0_0, .int .i64 a0_1, .int .i64 a0_2, .int .i64 a0_3, .int .i64 a0_4, .int .i64 a0_5]) (t := 23) ?hr ?_; (case hd => rfl); (case hg => rfl); (case hr => first | (go_simp; done) | (go_simp; rfl)); intro gb165 hg w29 hbox hb; have n0_ := Aside0.mk (below_step (wq HB.out) hb); have n1_ := Aside0.mk (hbox); have n2_ := Aside0.mk ((by rw [hg]; exact (below_size (wq HB.out)) : w.heap.size ≤ gb165)); have n3_ := n2_; clear HB; have HB := n0_; have BK165 := n1_; have GW165 := n2_; have GE165 := n3_; clear n0_ n1_ n2_ n3_ hb hbox hg) | ((with_reducible refine gate_dst (N := 3) rfl ?_); (try (refine gate_guard (by rfl) ?_; dsimp only)); refine box_event ?hg (N := 3) ?hd (cs := #[.int .i64 a1_0, .int .i64 a1_1]) (t := 25) ?hr ?_; (case hd => rfl); (case hg => rfl); (case hr => first | (go_simp; done) | (go_simp; rfl)); intro gb166 hg w30 hbox hb; have n0_ := Aside0.mk (blk_below (bq BK165.out) hb); have n1_ := Aside0.mk (below_step (wq HB.out) hb); have n2_ := Aside0.mk (hbox); have n3_ := Aside0.mk ((by rw [hg]; exact (below_size (wq HB.out)) : w.heap.size ≤ gb166)); have n4_ := n3_; have n5_ := Aside0.mk ((by rw [hg]; exact Nat.ne_of_lt (blk_lt (bq BK165.out)) : gb165 ≠ gb166)); have n6_ := Aside0.mk ((by rw [hg]; exact Nat.ne_of_gt (blk_lt (bq BK165.out)) : gb166 ≠ gb165)); clear BK165 HB; have BK165 := n0_; have HB := n1_; have BK166 := n2_; have GW166 := n3_; have GE166 := n4_; have NB165_166 := n5_; have NB166_165 := n6_; clear n0_ n1_ n2_ n3_ n4_ n5_ n6_ hb hbox hg) | ((with_reducible refine gate_dst (N := 4) rfl ?_); (try (refine gate_guard (by rfl) ?_; dsimp only)); refine box_event ?hg (N := 4) ?hd (cs := #[.int .i64 0, .int .i64 0]) (t := 25) ?hr ?_; (case hd => rfl); (case hg => rfl); (case hr => first | (go_simp; done) | (go_simp; rfl)); intro gb167 hg w31 hbox hb; have n0_ := Aside0.mk (blk_below (bq BK165.out) hb); have n1_ := Aside0.mk (blk_below (bq BK166.out) hb); have n2_ := Aside0.mk (below_step (wq HB.out) hb); have n3_ := Aside0.mk (hbox); have n4_ := Aside0.mk ((by rw [hg]; exact (below_size (wq HB.out)) : w.heap.size ≤ gb167)); have n5_ := n4_; have n6_ := Aside0.mk ((by rw [hg]; exact Nat.ne_of_lt (blk_lt (bq BK165.out)) : gb165 ≠ gb167)); have n7_ := Aside0.mk ((by rw [hg]; exact Nat.ne_of_gt (blk_lt (bq BK165.out)) : gb167 ≠ gb165)); have n8_ := Aside0.mk ((by rw [hg]; exact Nat.ne_of_lt (blk_lt (bq BK166.out)) : gb166 ≠ gb167)); have n9_ := Aside0.mk ((by rw [hg]; exact Nat.ne_of_gt (blk_lt (bq BK166.out)) : gb167 ≠ gb166)); clear BK165 BK166 HB; have BK165 := n0_; have BK166 := n1_; have HB := n2_; have BK167 := n3_; have GW167 := n4_; have GE167 := n5_; have NB165_167 := n6_; have NB167_165 := n7_; have NB166_167 := n8_; have NB167_166 := n9_; clear n0_ n1_ n2_ n3_ n4_ n5_ n6_ n7_ n8_ n9_ hb hbox hg; have hnb32 := NB165_166.out; have hnc32 := NB166_165.out; have hnb33 := NB165_167.out; have hnc33 := NB167_165.out; have hcz34_0 : w31.cell? ⟨gb165, 0, none⟩ = some (.int .i64 a0_0) := (blk_cell BK165.out 0).trans rfl; have hcz34_1 : w31.cell? ⟨gb165, 1, none⟩ = some (.int .i64 a0_1) := (blk_cell BK165.out 1).trans rfl; have hcz34_2 : w31.cell? ⟨gb165, 2, none⟩ = some (.int .i64 a0_2) := (blk_cell BK165.out 2).trans rfl; have hcz34_3 : w31.cell? ⟨gb165, 3, none⟩ = some (.int .i64 a0_3) := (blk_cell BK165.out 3).trans rfl; have hcz34_4 : w31.cell? ⟨gb165, 4, none⟩ = some (.int .i64 a0_4) := (blk_cell BK165.out 4).trans rfl; have hcz34_5 : w31.cell? ⟨gb165, 5, none⟩ = some (.int .i64 a0_5) := (blk_cell BK165.out 5).trans rfl; have hfz34_0 := blk_frozen BK165.out 0; have hfz34_1 := blk_frozen BK165.out 1; have hfz34_2 := blk_frozen BK165.out 2; have hfz34_3 := blk_frozen BK165.out 3; have hfz34_4 := blk_frozen BK165.out 4; have hfz34_5 := blk_frozen BK165.out 5) | ((with_reducible refine gate_callee (f := 12) rfl ?_); refine goesL_ (some 6) rfl rfl Tryd.func12 (by kernel_rfl) rfl #[.agg #[.int .i64 a0_0, .int .i64 a0_1, .int .i64 a0_2, .int .i64 a0_3, .int .i64 a0_4, .int .i64 a0_5]] rfl (by (try simp only [List.map_toArray, List.map_cons, List.map_nil]); first | done | rfl | (simp only [List.length_drop, List.length_take]; rfl)) ?_; (with_reducible refine (affine_Right.calls k a0_0 a0_1 a0_2 a0_3 a0_4 a0_5 false _ A3.out).mono ?_); rintro e w35 ⟨rfl, hb⟩; refine ⟨_, rfl, ?_⟩; have n0_ := Aside0.mk (blk_below (bq BK165.out) hb); have n1_ := Aside0.mk (blk_below (bq BK166.out) hb); have n2_ := Aside0.mk (blk_below (bq BK167.out) hb); have n3_ := Aside0.mk (below_step (wq HB.out) hb); clear BK165 BK166 BK167 HB; have BK165 := n0_; have BK166 := n1_; have BK167 := n2_; have HB := n3_; clear n0_ n1_ n2_ n3_; (try clear hb); (try clear hb2); (try clear hk); (try clear hi)) | ((with_reducible refine gate_callee (f := 25) rfl ?_); refine goesL_ (some 15) rfl rfl Tryd.func25 (by kernel_rfl) rfl #[.bool false, .int .i64 1] rfl (by (try simp only [List.map_toArray, List.map_cons, List.map_nil]); first | done | rfl | (simp only [List.length_drop, List.length_take]; rfl)) ?_; (with_reducible refine (affine_must.calls false 1  _ A26.out).mono ?_); rintro e w' ⟨rfl, ⟨nd, rfl⟩⟩; refine ⟨_, rfl, ?_⟩; (try (rw [drewN_self w35]; generalize hq_ : World.drewN w35 _ = w35; have n0_ : Aside0 (w35.heap[gb165]? = some (.cells #[.int .i64 a0_0, .int .i64 a0_1, .int .i64 a0_2, .int .i64 a0_3, .int .i64 a0_4, .int .i64 a0_5] 23 (0, 0))) := ⟨by rw [← hq_]; exact (bq BK165.out)⟩; have n1_ : Aside0 (w35.heap[gb166]? = some (.cells #[.int .i64 a1_0, .int .i64 a1_1] 25 (0, 0))) := ⟨by rw [← hq_]; exact (bq BK166.out)⟩; have n2_ : Aside0 (w35.heap[gb167]? = some (.cells #[.int .i64 0, .int .i64 0] 25 (0, 0))) := ⟨by rw [← hq_]; exact (bq BK167.out)⟩; have n3_ : Aside0 (Below w.heap.size w w35) := ⟨by rw [← hq_]; exact (wq HB.out)⟩; clear BK165 BK166 BK167 HB hq_; have BK165 := n0_; have BK166 := n1_; have BK167 := n2_; have HB := n3_; clear n0_ n1_ n2_ n3_))))
  have n0_ := Aside0.mk (blk_drew BK165.out)
  have n1_ := Aside0.mk (blk_drew BK166.out)
  have n2_ := Aside0.mk (blk_drew BK167.out)
  have n3_ := Aside0.mk (below_drew1 HB.out)
  clear BK165 BK166 BK167 HB; have BK165 := n0_; have BK166 := n1_; have BK167 := n2_; have HB := n3_; clear n0_ n1_ n2_ n3_
  refine start_ (n := 24) (S := fun w' => w'.cell? ⟨gb165, 0, none⟩ = some (.int .i64 a0_0) ∧ w'.cell? ⟨gb165, 1, none⟩ = some (.int .i64 a0_1) ∧ w'.cell? ⟨gb165, 2, none⟩ = some (.int .i64 a0_2) ∧ w'.cell? ⟨gb165, 3, none⟩ = some (.int .i64 a0_3) ∧ w'.cell? ⟨gb165, 4, none⟩ = some (.int .i64 a0_4) ∧ w'.cell? ⟨gb165, 5, none⟩ = some (.int .i64 a0_5) ∧ w'.cell? ⟨gb166, 0, none⟩ = some (.int .i64 a1_0) ∧ w'.cell? ⟨gb166, 1, none⟩ = some (.int .i64 a1_1)) (ds := []) (bt 0 24) (by kernel_rfl) rfl rfl ⟨(blk_cell BK165.out 0).trans rfl, (blk_cell BK165.out 1).trans rfl, (blk_cell BK165.out 2).trans rfl, (blk_cell BK165.out 3).trans rfl, (blk_cell BK165.out 4).trans rfl, (blk_cell BK165.out 5).trans rfl, (blk_cell BK166.out 0).trans rfl, (blk_cell BK166.out 1).trans rfl⟩ (fun hHeld => ?_); refine with_tabW affine_moved.tab2 affine_moved.bits2 (fun HT_ HW_ => ?_)
  generalize w35.drew = w36 at BK165 BK166 BK167 HB hHeld ⊢
  refine pure_ (i := 0) (N := some 16) (v := ?_) (a' := ?_) (bt 1 23) rfl rfl (any_of HT_.out (by kernel_rfl)) (fun _ _ _ h => h) (Or.inl ⟨by rfl, ?_⟩) ?_ ?_
  rotate_left; focus (intro w'; go_simp; with_reducible rfl)
  rotate_left; focus (simp only [apz, i64_w, i32_w]; rfl)
  refine pure_ (i := 2) (N := some 18) (v := ?_) (a' := ?_) (bm 24 5) rfl rfl (any_of HT_.out (by kernel_rfl)) (fun _ _ _ h => h) (Or.inl ⟨by rfl, ?_⟩) ?_ ?_
  rotate_left; focus (intro w'; go_simp; with_reducible rfl)
  rotate_left; focus (simp only [apz, i64_w, i32_w]; rfl)
  refine pure_ (i := 4) (N := some 20) (v := ?_) (a' := ?_) (bm 24 21) rfl rfl (any_of HT_.out (by kernel_rfl)) (fun _ _ _ h => h) (Or.inl ⟨by rfl, ?_⟩) ?_ ?_
  rotate_left; focus (intro w'; go_simp; with_reducible rfl)
  rotate_left; focus (simp only [apz, i64_w, i32_w]; rfl)
  refine pure_ (i := 6) (N := some 22) (v := ?_) (a' := ?_) (bm 24 85) rfl rfl (any_of HT_.out (by kernel_rfl)) (fun _ _ _ h => h) (Or.inl ⟨by rfl, ?_⟩) ?_ ?_
  rotate_left; focus (intro w'; go_simp; with_reducible rfl)
  rotate_left; focus (simp only [apz, i64_w, i32_w]; rfl)
  refine pure_ (i := 8) (N := some 24) (v := ?_) (a' := ?_) (bm 24 341) rfl rfl (any_of HT_.out (by kernel_rfl)) (fun _ _ _ h => h) (Or.inl ⟨by rfl, ?_⟩) ?_ ?_
  rotate_left; focus (intro w'; go_simp; with_reducible rfl)
  rotate_left; focus (simp only [apz, i64_w, i32_w]; rfl)
  refine pure_ (i := 11) (N := some 27) (v := ?_) (a' := ?_) (bm 24 2389) rfl rfl (any_of HT_.out (by kernel_rfl)) (fun _ _ _ h => h) (Or.inl ⟨by rfl, ?_⟩) ?_ ?_
  rotate_left; focus (intro w'; go_simp; with_reducible rfl)
  rotate_left; focus (simp only [apz, i64_w, i32_w]; rfl)
  refine pure_ (i := 13) (N := some 29) (v := ?_) (a' := ?_) (bm 24 10581) rfl rfl (any_of HT_.out (by kernel_rfl)) (fun _ _ _ h => h) (Or.inl ⟨by rfl, ?_⟩) ?_ ?_
  rotate_left; focus (intro w'; go_simp; with_reducible rfl)
  rotate_left; focus (simp only [apz, i64_w, i32_w]; rfl)
  refine pure_ (i := 15) (N := some 31) (v := ?_) (a' := ?_) (bm 24 43349) rfl rfl (any_of HT_.out (by kernel_rfl)) (fun _ _ _ h => h) (Or.inl ⟨by rfl, ?_⟩) ?_ ?_
  rotate_left; focus (intro w'; go_simp; with_reducible rfl)
  rotate_left; focus (simp only [apz, i64_w, i32_w]; rfl)
  refine pure_ (i := 17) (N := some 33) (v := ?_) (a' := ?_) (bm 24 174421) rfl rfl (any_of HT_.out (by kernel_rfl)) (fun _ _ _ h => h) (Or.inl ⟨by rfl, ?_⟩) ?_ ?_
  rotate_left; focus (intro w'; go_simp; with_reducible rfl)
  rotate_left; focus (simp only [apz, i64_w, i32_w]; rfl)
  refine pure_ (i := 19) (N := some 35) (v := ?_) (a' := ?_) (bm 24 698709) rfl rfl (any_of HT_.out (by kernel_rfl)) (fun _ _ _ h => h) (Or.inl ⟨by rfl, ?_⟩) ?_ ?_
  rotate_left; focus (intro w'; go_simp; with_reducible rfl)
  rotate_left; focus (simp only [apz, i64_w, i32_w]; rfl)
  refine take_ (i := 1) (N := some 17) (v := ?_) (a' := ?_) (bm 24 698711) rfl rfl (take_ofW HT_.out HW_.out (by kernel_rfl)) (fun _ _ _ h => h) (Or.inl ⟨by rfl, ?_⟩) hHeld ?_ ?_
  rotate_left
  ·
   rintro w' ⟨s0, s1, s2, s3, s4, s5, s6, s7⟩
   go_simp
   with_reducible rfl
  rotate_left; focus (simp only [apz, i64_w, i32_w]; rfl)
  refine take_ (i := 3) (N := some 19) (v := ?_) (a' := ?_) (bm 24 698719) rfl rfl (take_ofW HT_.out HW_.out (by kernel_rfl)) (fun _ _ _ h => h) (Or.inl ⟨by rfl, ?_⟩) hHeld ?_ ?_
  rotate_left
  ·
   rintro w' ⟨s0, s1, s2, s3, s4, s5, s6, s7⟩
   go_simp
   with_reducible rfl
  rotate_left; focus (simp only [apz, i64_w, i32_w]; rfl)
  refine take_ (i := 5) (N := some 21) (v := ?_) (a' := ?_) (bm 24 698751) rfl rfl (take_ofW HT_.out HW_.out (by kernel_rfl)) (fun _ _ _ h => h) (Or.inl ⟨by rfl, ?_⟩) hHeld ?_ ?_
  rotate_left
  ·
   rintro w' ⟨s0, s1, s2, s3, s4, s5, s6, s7⟩
   go_simp
   with_reducible rfl
  rotate_left; focus (simp only [apz, i64_w, i32_w]; rfl)
  refine take_ (i := 7) (N := some 23) (v := ?_) (a' := ?_) (bm 24 698879) rfl rfl (take_ofW HT_.out HW_.out (by kernel_rfl)) (fun _ _ _ h => h) (Or.inl ⟨by rfl, ?_⟩) hHeld ?_ ?_
  rotate_left
  ·
   rintro w' ⟨s0, s1, s2, s3, s4, s5, s6, s7⟩
   go_simp
   with_reducible rfl
  rotate_left; focus (simp only [apz, i64_w, i32_w]; rfl)
  refine take_ (i := 9) (N := some 25) (v := ?_) (a' := ?_) (bm 24 699391) rfl rfl (take_ofW HT_.out HW_.out (by kernel_rfl)) (fun _ _ _ h => h) (Or.inl ⟨by rfl, ?_⟩) hHeld ?_ ?_
  rotate_left
  ·
   rintro w' ⟨s0, s1, s2, s3, s4, s5, s6, s7⟩
   go_simp
   with_reducible rfl
  rotate_left; focus (simp only [apz, i64_w, i32_w]; rfl)
  refine take_ (i := 12) (N := some 28) (v := ?_) (a' := ?_) (bm 24 703487) rfl rfl (take_ofW HT_.out HW_.out (by kernel_rfl)) (fun _ _ _ h => h) (Or.inl ⟨by rfl, ?_⟩) hHeld ?_ ?_
  rotate_left
  ·
   rintro w' ⟨s0, s1, s2, s3, s4, s5, s6, s7⟩
   go_simp
   with_reducible rfl
  rotate_left; focus (simp only [apz, i64_w, i32_w]; rfl)
  refine take_ (i := 14) (N := some 30) (v := ?_) (a' := ?_) (bm 24 719871) rfl rfl (take_ofW HT_.out HW_.out (by kernel_rfl)) (fun _ _ _ h => h) (Or.inl ⟨by rfl, ?_⟩) hHeld ?_ ?_
  rotate_left
  ·
   rintro w' ⟨s0, s1, s2, s3, s4, s5, s6, s7⟩
   go_simp
   with_reducible rfl
  rotate_left; focus (simp only [apz, i64_w, i32_w]; rfl)
  refine take_ (i := 16) (N := some 32) (v := ?_) (a' := ?_) (bm 24 785407) rfl rfl (take_ofW HT_.out HW_.out (by kernel_rfl)) (fun _ _ _ h => h) (Or.inl ⟨by rfl, ?_⟩) hHeld ?_ ?_
  rotate_left
  ·
   rintro w' ⟨s0, s1, s2, s3, s4, s5, s6, s7⟩
   go_simp
   with_reducible rfl
  rotate_left; focus (simp only [apz, i64_w, i32_w]; rfl)
  refine take_ (i := 18) (N := some 34) (v := ?_) (a' := ?_) (bm 24 1047551) rfl rfl (take_ofW HT_.out HW_.out (by kernel_rfl)) (fun _ _ _ h => h) (Or.inl ⟨by rfl, ?_⟩) hHeld ?_ ?_
  rotate_left
  ·
   rintro w' ⟨s0, s1, s2, s3, s4, s5, s6, s7⟩
   go_simp
   with_reducible rfl
  rotate_left; focus (simp only [apz, i64_w, i32_w]; rfl)
  refine take_ (i := 20) (N := some 36) (v := ?_) (a' := ?_) (bm 24 2096127) rfl rfl (take_ofW HT_.out HW_.out (by kernel_rfl)) (fun _ _ _ h => h) (Or.inl ⟨by rfl, ?_⟩) hHeld ?_ ?_
  rotate_left
  ·
   rintro w' ⟨s0, s1, s2, s3, s4, s5, s6, s7⟩
   go_simp
   with_reducible rfl
  rotate_left; focus (simp only [apz, i64_w, i32_w]; rfl)
  refine one_ (i := 10) (N := some 26) (bt 21 3) rfl rfl (one_of HT_.out (by kernel_rfl)) (by decide) (fun K hK => ?_)
  refine goes_ Tryd.func27 (by kernel_rfl) rfl #[.int .i64 a0_0, .int .i64 a1_0, .int .i64 a0_2, .int .i64 a1_1, .int .i64 a0_4] (by rfl) rfl rfl (by (try simp only [List.map_toArray, List.map_cons, List.map_nil]); first | done | rfl | (simp only [List.length_drop, List.length_take]; rfl)) ?_
  with_reducible refine (affine_number.calls k a0_0 a1_0 a0_2 a1_1 a0_4 t175 _ ?side1 A27.out).mono ?_
  (case side1 => exact Gl.below HG.out (wq HB.out))
  rintro e w37 ⟨rfl, hb⟩
  refine ⟨_, rfl, ?_⟩
  have n0_ := Aside0.mk (blk_below (bq BK165.out) hb)
  have n1_ := Aside0.mk (blk_below (bq BK166.out) hb)
  have n2_ := Aside0.mk (blk_below (bq BK167.out) hb)
  have n3_ := Aside0.mk (below_step (wq HB.out) hb)
  clear BK165 BK166 BK167 HB; have BK165 := n0_; have BK166 := n1_; have BK167 := n2_; have HB := n3_; clear n0_ n1_ n2_ n3_
  (try clear hb)
  (try clear hb2)
  (try clear hk)
  (try clear hi)
  refine hK.out _ _ ⟨(blk_cell BK165.out 0).trans rfl, (blk_cell BK165.out 1).trans rfl, (blk_cell BK165.out 2).trans rfl, (blk_cell BK165.out 3).trans rfl, (blk_cell BK165.out 4).trans rfl, (blk_cell BK165.out 5).trans rfl, (blk_cell BK166.out 0).trans rfl, (blk_cell BK166.out 1).trans rfl⟩ (fun hHeld => ?_)
  clear hK K
  refine norm_ (a' := ?_) ?_ ?_
  rotate_left
  ·
   show Act.put _ (some 26) _ = _
   simp only [apz, i64_w, i32_w]
   rfl
  refine one_ (i := 21) (N := some 37) (bt 22 2) rfl rfl (one_of HT_.out (by kernel_rfl)) (by decide) (fun K hK => ?_)
  refine goes_ Tryd.func27 (by kernel_rfl) rfl #[.int .i64 a0_1, .int .i64 a1_0, .int .i64 a0_3, .int .i64 a1_1, .int .i64 a0_5] (by rfl) rfl rfl (by (try simp only [List.map_toArray, List.map_cons, List.map_nil]); first | done | rfl | (simp only [List.length_drop, List.length_take]; rfl)) ?_
  with_reducible refine (affine_number.calls k a0_1 a1_0 a0_3 a1_1 a0_5 t176 _ ?side1 A28.out).mono ?_
  (case side1 => exact Gl.below HG.out (wq HB.out))
  rintro e w38 ⟨rfl, hb⟩
  refine ⟨_, rfl, ?_⟩
  have n0_ := Aside0.mk (blk_below (bq BK165.out) hb)
  have n1_ := Aside0.mk (blk_below (bq BK166.out) hb)
  have n2_ := Aside0.mk (blk_below (bq BK167.out) hb)
  have n3_ := Aside0.mk (below_step (wq HB.out) hb)
  clear BK165 BK166 BK167 HB; have BK165 := n0_; have BK166 := n1_; have BK167 := n2_; have HB := n3_; clear n0_ n1_ n2_ n3_
  (try clear hb)
  (try clear hb2)
  (try clear hk)
  (try clear hi)
  refine hK.out _ _ ⟨(blk_cell BK165.out 0).trans rfl, (blk_cell BK165.out 1).trans rfl, (blk_cell BK165.out 2).trans rfl, (blk_cell BK165.out 3).trans rfl, (blk_cell BK165.out 4).trans rfl, (blk_cell BK165.out 5).trans rfl, (blk_cell BK166.out 0).trans rfl, (blk_cell BK166.out 1).trans rfl⟩ (fun hHeld => ?_)
  clear hK K
  refine norm_ (a' := ?_) ?_ ?_
  rotate_left
  ·
   show Act.put _ (some 37) _ = _
   simp only [apz, i64_w, i32_w]
   rfl
  refine pure_ (i := 22) (N := some 38) (v := ?_) (a' := ?_) (bt 23 1) rfl rfl (any_of HT_.out (by kernel_rfl)) (fun _ _ _ h => h) (Or.inl ⟨by rfl, ?_⟩) ?_ ?_
  rotate_left; focus (intro w'; go_simp; with_reducible rfl)
  rotate_left; focus (simp only [apz, i64_w, i32_w]; rfl)
  refine one_ (i := 23) (N := none) (bt 24 0) rfl rfl (one_of HT_.out (by kernel_rfl)) (by decide) (fun K hK => ?_)
  have hs39 : w38.cell? ⟨gb167, 0, none⟩ = some (.int .i64 0) := (blk_cell BK167.out 0).trans rfl
  have hfs39 := blk_frozen BK167.out 0
  have hns39_0 := NB165_167.out
  have hns39_1 := NB166_167.out
  have hms39_0 := NB167_165.out
  have hms39_1 := NB167_166.out
  have hs40 : w38.cell? ⟨gb167, 1, none⟩ = some (.int .i64 0) := (blk_cell BK167.out 1).trans rfl
  have hfs40 := blk_frozen BK167.out 1
  have hns40_0 := NB165_167.out
  have hns40_1 := NB166_167.out
  have hms40_0 := NB167_165.out
  have hms40_1 := NB167_166.out
  refine skip_ (w1 := ?_) (by rfl) rfl ?_ ?_
  rotate_left
  ·
   go_simp
   rfl
  refine hK.out _ _ ⟨(cf NB165_167.out ((cf NB165_167.out (hHeld.1)))), (cf NB165_167.out ((cf NB165_167.out (hHeld.2.1)))), (cf NB165_167.out ((cf NB165_167.out (hHeld.2.2.1)))), (cf NB165_167.out ((cf NB165_167.out (hHeld.2.2.2.1)))), (cf NB165_167.out ((cf NB165_167.out (hHeld.2.2.2.2.1)))), (cf NB165_167.out ((cf NB165_167.out (hHeld.2.2.2.2.2.1)))), (cf NB166_167.out ((cf NB166_167.out (hHeld.2.2.2.2.2.2.1)))), (cf NB166_167.out ((cf NB166_167.out (hHeld.2.2.2.2.2.2.2))))⟩ (fun hHeld => ?_)
  clear hK K
  refine done_ (done_of HT_.out (by kernel_rfl)) ?_
  try go_wp2
  refine bodyPost_ret (results_cell_row rfl _ _ gb167 25 #[.int .i64 t175, .int .i64 t176] (0, 0) _ rfl (by refine bq ?_; refine blk_put (cs := #[.int .i64 t175, .int .i64 0]) ?_ 1 _ rfl; refine bq ?_; refine blk_put (cs := #[.int .i64 0, .int .i64 0]) ?_ 0 _ rfl; refine bq ?_; exact BK167.out) Tryd.underlying25 rfl (by kernel_rfl)) rfl ?_
  exact ⟨by first | rfl | (simp [errW_none, errW_some] <;> rfl) | (simp [*, errW_none, errW_some] <;> rfl), by exact wq HB.out⟩
end Go.Proofs.YtbnjgaeeojcjbaaDoor.PR
namespace Go.Proofs.YtbnjgaeeojcjbaaDoor.PR
open Go.RowKit Go.Proofs.YtbnjgaeeojcjbaaDoorW.PrintWords Go.Proofs.YtbnjgaeeojcjbaaDoorW.PrintLast Go.Proofs.YtbnjgaeeojcjbaaDoorW.PrintMore
attribute [local go_sem] max2_int min2_int max_two min_two max_three min_three max_four min_four
set_option linter.unusedVariables false
set_option linter.unusedSimpArgs false
attribute [local go_sem high] eqA25
theorem goesP_ {P : Program} {ops : Array Oper} {Q : Exit → Act → World → Prop} {oi : Oper} {N : Option Tmp} {a : Act} {w : World} {K : Act → World → Prop} {f : FuncId} {fn : Func} {args0 : Array Operand} {ts : Array TypeId} (hf : P.funcs[f]? = some fn) (hname : (fn.name == "runtime.NumGoroutine") = false) (hb : fn.body.isSome = true) (args : Array Value)
  (hw : Region.wanted oi (yielded ops a.tmps) = true) (_hN : oi.dst = N) (hop : oi.op = .call { callee := .value (.func f), args := args0, argTypes := ts }) (hargs : args0.map a.eval = args)
  (h : Calls P f args w fun e w' => ∃ c, e = .panicked c ∧ Q (.panic c) a w') : if Region.wanted oi (yielded ops a.tmps) = true then Oper.wp P oi a w K Q else K (a.put N undef) w := by
 have he := enters_ hf hname hb args w
 have hrun : (execOp a.eval oi).run P w = .ok (.enter f args) w := by
  unfold execOp
  simp [hop, resolve, Deferred.ofValue, invoke, Act.eval, hargs, he]
 rw [if_pos hw]
 unfold Oper.wp
 rw [hrun, Oper.upon_enter]
 refine h.mono fun e w'' hh => ?_
 obtain ⟨c, rfl, hk⟩ := hh
 exact hk
set_option maxHeartbeats 8000000 in
set_option maxRecDepth 100000 in
theorem affine_moved.pan1 (k : Nat) (a0_0 : Int) (a0_1 : Int) (a0_2 : Int) (a0_3 : Int) (a0_4 : Int) (a0_5 : Int) (a1_0 : Int) (a1_1 : Int) (c : Int) (w : World) (hG : Gl w) (A30 : affine_Right.f k a0_0 a0_1 a0_2 a0_3 a0_4 a0_5 = some true) (A50 : wide_Within.f k 4294967296 [a1_0, a1_1] = some true) (A70 : affine_number.r k a0_0 a1_0 a0_2 a1_1 a0_4 = some (.error c)) :
  Calls Tryd.prog 21 #[.agg #[.int .i64 a0_0, .int .i64 a0_1, .int .i64 a0_2, .int .i64 a0_3, .int .i64 a0_4, .int .i64 a0_5], .agg #[.int .i64 a1_0, .int .i64 a1_1]] w fun e w' => e = .panicked (errP c) ∧ Below w.heap.size w w' := by
 have hu23 := Tryd.underlying23
 have hu25 := Tryd.underlying25
 have HG := Aside0.mk hG
 clear hG
 have HB := Aside0.mk (Below.refl w.heap.size w)
 have A3 := Aside0.mk A30
 clear A30
 obtain ⟨y169, hy169⟩ : ∃ y_ : List Int, y_ = (([a1_0, a1_1] : List Int)) := ⟨_, rfl⟩
 rw [← hy169] at A50
 have Ny169 := Aside0.mk hy169
 clear hy169
 have A5 := Aside0.mk A50
 clear A50
 have A6 := Aside0.mk (show affine_must.f true 1 = some () from rfl)
 have A7 := Aside0.mk A70
 clear A70
 go_enter Tryd.func21, Tryd.ntmps21
 try go_wp2_with (first | ((with_reducible refine gate_dst (N := 2) rfl ?_); (try (refine gate_guard (by rfl) ?_; dsimp only)); refine box_event ?hg (N := 2) ?hd (cs := #[.int .i64 a0_0, .int .i64 a0_1, .int .i64 a0_2, .int .i64 a0_3, .int .i64 a0_4, .int .i64 a0_5]) (t := 23) ?hr ?_; (case hd => rfl); (case hg => rfl); (case hr => first | (go_simp; done) | (go_simp; rfl)); intro gb165 hg w9 hbox hb; have n0_ := Aside0.mk (below_step (wq HB.out) hb); have n1_ := Aside0.mk (hbox); have n2_ := Aside0.mk ((by rw [hg]; exact (below_size (wq HB.out)) : w.heap.size ≤ gb165)); have n3_ := n2_; clear HB; have HB := n0_; have BK165 := n1_; have GW165 := n2_; have GE165 := n3_; clear n0_ n1_ n2_ n3_ hb hbox hg) | ((with_reducible refine gate_dst (N := 3) rfl ?_); (try (refine gate_guard (by rfl) ?_; dsimp only)); refine box_event ?hg (N := 3) ?hd (cs := #[.int .i64 a1_0, .int .i64 a1_1]) (t := 25) ?hr ?_; (case hd => rfl); (case hg => rfl); (case hr => first | (go_simp; done) | (go_simp; rfl)); intro gb166 hg w10 hbox hb; have n0_ := Aside0.mk (blk_below (bq BK165.out) hb); have n1_ := Aside0.mk (below_step (wq HB.out) hb); have n2_ := Aside0.mk (hbox); have n3_ := Aside0.mk ((by rw [hg]; exact (below_size (wq HB.out)) : w.heap.size ≤ gb166)); have n4_ := n3_; have n5_ := Aside0.mk ((by rw [hg]; exact Nat.ne_of_lt (blk_lt (bq BK165.out)) : gb165 ≠ gb166)); have n6_ := Aside0.mk ((by rw [hg]; exact Nat.ne_of_gt (blk_lt (bq BK165.out)) : gb166 ≠ gb165)); clear BK165 HB; have BK165 := n0_; have HB := n1_; have BK166 := n2_; have GW166 := n3_; have GE166 := n4_; have NB165_166 := n5_; have NB166_165 := n6_; clear n0_ n1_ n2_ n3_ n4_ n5_ n6_ hb hbox hg) | ((with_reducible refine gate_dst (N := 4) rfl ?_); (try (refine gate_guard (by rfl) ?_; dsimp only)); refine box_event ?hg (N := 4) ?hd (cs := #[.int .i64 0, .int .i64 0]) (t := 25) ?hr ?_; (case hd => rfl); (case hg => rfl); (case hr => first | (go_simp; done) | (go_simp; rfl)); intro gb167 hg w11 hbox hb; have n0_ := Aside0.mk (blk_below (bq BK165.out) hb); have n1_ := Aside0.mk (blk_below (bq BK166.out) hb); have n2_ := Aside0.mk (below_step (wq HB.out) hb); have n3_ := Aside0.mk (hbox); have n4_ := Aside0.mk ((by rw [hg]; exact (below_size (wq HB.out)) : w.heap.size ≤ gb167)); have n5_ := n4_; have n6_ := Aside0.mk ((by rw [hg]; exact Nat.ne_of_lt (blk_lt (bq BK165.out)) : gb165 ≠ gb167)); have n7_ := Aside0.mk ((by rw [hg]; exact Nat.ne_of_gt (blk_lt (bq BK165.out)) : gb167 ≠ gb165)); have n8_ := Aside0.mk ((by rw [hg]; exact Nat.ne_of_lt (blk_lt (bq BK166.out)) : gb166 ≠ gb167)); have n9_ := Aside0.mk ((by rw [hg]; exact Nat.ne_of_gt (blk_lt (bq BK166.out)) : gb167 ≠ gb166)); clear BK165 BK166 HB; have BK165 := n0_; have BK166 := n1_; have HB := n2_; have BK167 := n3_; have GW167 := n4_; have GE167 := n5_; have NB165_167 := n6_; have NB167_165 := n7_; have NB166_167 := n8_; have NB167_166 := n9_; clear n0_ n1_ n2_ n3_ n4_ n5_ n6_ n7_ n8_ n9_ hb hbox hg; have hnb12 := NB165_166.out; have hnc12 := NB166_165.out; have hnb13 := NB165_167.out; have hnc13 := NB167_165.out; have hcz14_0 : w11.cell? ⟨gb165, 0, none⟩ = some (.int .i64 a0_0) := (blk_cell BK165.out 0).trans rfl; have hcz14_1 : w11.cell? ⟨gb165, 1, none⟩ = some (.int .i64 a0_1) := (blk_cell BK165.out 1).trans rfl; have hcz14_2 : w11.cell? ⟨gb165, 2, none⟩ = some (.int .i64 a0_2) := (blk_cell BK165.out 2).trans rfl; have hcz14_3 : w11.cell? ⟨gb165, 3, none⟩ = some (.int .i64 a0_3) := (blk_cell BK165.out 3).trans rfl; have hcz14_4 : w11.cell? ⟨gb165, 4, none⟩ = some (.int .i64 a0_4) := (blk_cell BK165.out 4).trans rfl; have hcz14_5 : w11.cell? ⟨gb165, 5, none⟩ = some (.int .i64 a0_5) := (blk_cell BK165.out 5).trans rfl; have hfz14_0 := blk_frozen BK165.out 0; have hfz14_1 := blk_frozen BK165.out 1; have hfz14_2 := blk_frozen BK165.out 2; have hfz14_3 := blk_frozen BK165.out 3; have hfz14_4 := blk_frozen BK165.out 4; have hfz14_5 := blk_frozen BK165.out 5) | ((with_reducible refine gate_callee (f := 12) rfl ?_); refine goesL_ (some 6) rfl rfl Tryd.func12 (by kernel_rfl) rfl #[.agg #[.int .i64 a0_0, .int .i64 a0_1, .int .i64 a0_2, .int .i64 a0_3, .int .i64 a0_4, .int .i64 a0_5]] rfl (by (try simp only [List.map_toArray, List.map_cons, List.map_nil]); first | done | rfl | (simp only [List.length_drop, List.length_take]; rfl)) ?_; (with_reducible refine (affine_Right.calls k a0_0 a0_1 a0_2 a0_3 a0_4 a0_5 true _ A3.out).mono ?_); rintro e w15 ⟨rfl, hb⟩; refine ⟨_, rfl, ?_⟩; have n0_ := Aside0.mk (blk_below (bq BK165.out) hb); have n1_ := Aside0.mk (blk_below (bq BK166.out) hb); have n2_ := Aside0.mk (blk_below (bq BK167.out) hb); have n3_ := Aside0.mk (below_step (wq HB.out) hb); clear BK165 BK166 BK167 HB; have BK165 := n0_; have BK166 := n1_; have BK167 := n2_; have HB := n3_; clear n0_ n1_ n2_ n3_; (try clear hb); (try clear hb2); (try clear hk); (try clear hi); have hnb16 := NB166_167.out; have hnc16 := NB167_166.out; have hcz17_0 : w15.cell? ⟨gb166, 0, none⟩ = some (.int .i64 a1_0) := (blk_cell BK166.out 0).trans rfl; have hcz17_1 : w15.cell? ⟨gb166, 1, none⟩ = some (.int .i64 a1_1) := (blk_cell BK166.out 1).trans rfl; have hfz17_0 := blk_frozen BK166.out 0; have hfz17_1 := blk_frozen BK166.out 1) | ((with_reducible refine gate_dst (N := 12) rfl ?_); (try (refine gate_guard (by rfl) ?_; dsimp only)); refine Kd.R_lit (Kd.int .i64) _ 2 ?hg (N := 12) ?hd (xs := ([a1_0, a1_1] : List Int)) (inner := [.int .i64 a1_0, .int .i64 a1_1]) (ok := fun _ => True) (okp := fun _ => True) ?hr ?hp (fun _ hk => hk) trivial (Below.refl _ _) (Nat.le_refl _) (by simp) ?_; (case hd => rfl); (case hg => rfl); (case hr => first | (go_simp; done) | (go_simp; rfl)); (case hp => exact (Reps.one (show Kd.M (Kd.int .i64) _ _ _ a1_0 [.int .i64 a1_0] from rfl) (Reps.one (show Kd.M (Kd.int .i64) _ _ _ a1_1 [.int .i64 a1_1] from rfl) (Reps.none _ _)))); intro v170 w18 ho19 hb hg_ hnew_; clear hg_ hnew_; (first | rw [← Ny169.out] at ho19 | (simp only [Int.reduceToNat] at ho19; rw [← Ny169.out] at ho19)); have n0_ := Aside0.mk (Kd.R_lower ho19 (below_size (wq HB.out))); have n1_ := Aside0.mk (blk_below (bq BK165.out) hb); have n2_ := Aside0.mk (blk_below (bq BK166.out) hb); have n3_ := Aside0.mk (blk_below (bq BK167.out) hb); have n4_ := Aside0.mk (below_step (wq HB.out) hb); clear BK165 BK166 BK167 HB; have HO171 := n0_; have BK165 := n1_; have BK166 := n2_; have BK167 := n3_; have HB := n4_; clear n0_ n1_ n2_ n3_ n4_ hb ho19; obtain ⟨Ao20, co20, eo20⟩ := Kd.R_slice HO171.out; subst eo20) | (go_at_call 23; (with_reducible refine (wide_Within.calls k 4294967296 _ _ y169 true _ ?side1 ?side2 A5.out).mono ?_); (case side1 => exact cq (Kd.R_reads' HO171.out).2.2); (case side2 => exact (Kd.R_reads' HO171.out).2.1); rintro e w' ⟨rfl, ⟨nd, rfl⟩⟩; (try (rw [drewN_self w18]; generalize hq_ : World.drewN w18 _ = w18; have n0_ : Aside0 (Kd.R (Kd.int .i64) 2 w18 w.heap.size (fun _ => True) (.slice Ao20 y169.length co20) y169) := ⟨by rw [← hq_]; exact (rq HO171.out)⟩; have n1_ : Aside0 (w18.heap[gb165]? = some (.cells #[.int .i64 a0_0, .int .i64 a0_1, .int .i64 a0_2, .int .i64 a0_3, .int .i64 a0_4, .int .i64 a0_5] 23 (0, 0))) := ⟨by rw [← hq_]; exact (bq BK165.out)⟩; have n2_ : Aside0 (w18.heap[gb166]? = some (.cells #[.int .i64 a1_0, .int .i64 a1_1] 25 (0, 0))) := ⟨by rw [← hq_]; exact (bq BK166.out)⟩; have n3_ : Aside0 (w18.heap[gb167]? = some (.cells #[.int .i64 0, .int .i64 0] 25 (0, 0))) := ⟨by rw [← hq_]; exact (bq BK167.out)⟩; have n4_ : Aside0 (Below w.heap.size w w18) := ⟨by rw [← hq_]; exact (wq HB.out)⟩; clear HO171 BK165 BK166 BK167 HB hq_; have HO171 := n0_; have BK165 := n1_; have BK166 := n2_; have BK167 := n3_; have HB := n4_; clear n0_ n1_ n2_ n3_ n4_))) | ((with_reducible refine gate_callee (f := 25) rfl ?_); refine goesL_ (some 15) rfl rfl Tryd.func25 (by kernel_rfl) rfl #[.bool true, .int .i64 1] rfl (by (try simp only [List.map_toArray, List.map_cons, List.map_nil]); first | done | rfl | (simp only [List.length_drop, List.length_take]; rfl)) ?_; (with_reducible refine (affine_must.calls true 1  _ A6.out).mono ?_); rintro e w' ⟨rfl, ⟨nd, rfl⟩⟩; refine ⟨_, rfl, ?_⟩; (try (rw [drewN_self w18]; generalize hq_ : World.drewN w18 _ = w18; have n0_ : Aside0 (Kd.R (Kd.int .i64) 2 w18 w.heap.size (fun _ => True) (.slice Ao20 y169.length co20) y169) := ⟨by rw [← hq_]; exact (rq HO171.out)⟩; have n1_ : Aside0 (w18.heap[gb165]? = some (.cells #[.int .i64 a0_0, .int .i64 a0_1, .int .i64 a0_2, .int .i64 a0_3, .int .i64 a0_4, .int .i64 a0_5] 23 (0, 0))) := ⟨by rw [← hq_]; exact (bq BK165.out)⟩; have n2_ : Aside0 (w18.heap[gb166]? = some (.cells #[.int .i64 a1_0, .int .i64 a1_1] 25 (0, 0))) := ⟨by rw [← hq_]; exact (bq BK166.out)⟩; have n3_ : Aside0 (w18.heap[gb167]? = some (.cells #[.int .i64 0, .int .i64 0] 25 (0, 0))) := ⟨by rw [← hq_]; exact (bq BK167.out)⟩; have n4_ : Aside0 (Below w.heap.size w w18) := ⟨by rw [← hq_]; exact (wq HB.out)⟩; clear HO171 BK165 BK166 BK167 HB hq_; have HO171 := n0_; have BK165 := n1_; have BK166 := n2_; have BK167 := n3_; have HB := n4_; clear n0_ n1_ n2_ n3_ n4_))))
 have n0_ := Aside0.mk (Kd.R_drew HO171.out)
 have n1_ := Aside0.mk (blk_drew BK165.out)
 have n2_ := Aside0.mk (blk_drew BK166.out)
 have n3_ := Aside0.mk (blk_drew BK167.out)
 have n4_ := Aside0.mk (below_drew1 HB.out)
 clear HO171 BK165 BK166 BK167; clear HB; have HO171 := n0_; have BK165 := n1_; have BK166 := n2_; have BK167 := n3_; have HB := n4_; clear n0_ n1_ n2_ n3_ n4_
 refine start_ (n := 24) (S := fun w' => w'.cell? ⟨gb165, 0, none⟩ = some (.int .i64 a0_0) ∧ w'.cell? ⟨gb165, 1, none⟩ = some (.int .i64 a0_1) ∧ w'.cell? ⟨gb165, 2, none⟩ = some (.int .i64 a0_2) ∧ w'.cell? ⟨gb165, 3, none⟩ = some (.int .i64 a0_3) ∧ w'.cell? ⟨gb165, 4, none⟩ = some (.int .i64 a0_4) ∧ w'.cell? ⟨gb165, 5, none⟩ = some (.int .i64 a0_5) ∧ w'.cell? ⟨gb166, 0, none⟩ = some (.int .i64 a1_0) ∧ w'.cell? ⟨gb166, 1, none⟩ = some (.int .i64 a1_1)) (ds := []) (bt 0 24) (by kernel_rfl) rfl rfl ⟨(blk_cell BK165.out 0).trans rfl, (blk_cell BK165.out 1).trans rfl, (blk_cell BK165.out 2).trans rfl, (blk_cell BK165.out 3).trans rfl, (blk_cell BK165.out 4).trans rfl, (blk_cell BK165.out 5).trans rfl, (blk_cell BK166.out 0).trans rfl, (blk_cell BK166.out 1).trans rfl⟩ (fun hHeld => ?_); refine with_tabW affine_moved.tab2 affine_moved.bits2 (fun HT_ HW_ => ?_)
 generalize w18.drew = w21 at HO171 BK165 BK166 BK167 HB hHeld ⊢
 refine pure_ (i := 0) (N := some 16) (v := ?_) (a' := ?_) (bt 1 23) rfl rfl (any_of HT_.out (by kernel_rfl)) (fun _ _ _ h => h) (Or.inl ⟨by rfl, ?_⟩) ?_ ?_
 rotate_left; focus (intro w'; go_simp; with_reducible rfl)
 rotate_left; focus (simp only [apz, i64_w, i32_w]; rfl)
 refine pure_ (i := 2) (N := some 18) (v := ?_) (a' := ?_) (bm 24 5) rfl rfl (any_of HT_.out (by kernel_rfl)) (fun _ _ _ h => h) (Or.inl ⟨by rfl, ?_⟩) ?_ ?_
 rotate_left; focus (intro w'; go_simp; with_reducible rfl)
 rotate_left; focus (simp only [apz, i64_w, i32_w]; rfl)
 refine pure_ (i := 4) (N := some 20) (v := ?_) (a' := ?_) (bm 24 21) rfl rfl (any_of HT_.out (by kernel_rfl)) (fun _ _ _ h => h) (Or.inl ⟨by rfl, ?_⟩) ?_ ?_
 rotate_left; focus (intro w'; go_simp; with_reducible rfl)
 rotate_left; focus (simp only [apz, i64_w, i32_w]; rfl)
 refine pure_ (i := 6) (N := some 22) (v := ?_) (a' := ?_) (bm 24 85) rfl rfl (any_of HT_.out (by kernel_rfl)) (fun _ _ _ h => h) (Or.inl ⟨by rfl, ?_⟩) ?_ ?_
 rotate_left; focus (intro w'; go_simp; with_reducible rfl)
 rotate_left; focus (simp only [apz, i64_w, i32_w]; rfl)
 refine pure_ (i := 8) (N := some 24) (v := ?_) (a' := ?_) (bm 24 341) rfl rfl (any_of HT_.out (by kernel_rfl)) (fun _ _ _ h => h) (Or.inl ⟨by rfl, ?_⟩) ?_ ?_
 rotate_left; focus (intro w'; go_simp; with_reducible rfl)
 rotate_left; focus (simp only [apz, i64_w, i32_w]; rfl)
 refine pure_ (i := 11) (N := some 27) (v := ?_) (a' := ?_) (bm 24 2389) rfl rfl (any_of HT_.out (by kernel_rfl)) (fun _ _ _ h => h) (Or.inl ⟨by rfl, ?_⟩) ?_ ?_
 rotate_left; focus (intro w'; go_simp; with_reducible rfl)
 rotate_left; focus (simp only [apz, i64_w, i32_w]; rfl)
 refine pure_ (i := 13) (N := some 29) (v := ?_) (a' := ?_) (bm 24 10581) rfl rfl (any_of HT_.out (by kernel_rfl)) (fun _ _ _ h => h) (Or.inl ⟨by rfl, ?_⟩) ?_ ?_
 rotate_left; focus (intro w'; go_simp; with_reducible rfl)
 rotate_left; focus (simp only [apz, i64_w, i32_w]; rfl)
 refine pure_ (i := 15) (N := some 31) (v := ?_) (a' := ?_) (bm 24 43349) rfl rfl (any_of HT_.out (by kernel_rfl)) (fun _ _ _ h => h) (Or.inl ⟨by rfl, ?_⟩) ?_ ?_
 rotate_left; focus (intro w'; go_simp; with_reducible rfl)
 rotate_left; focus (simp only [apz, i64_w, i32_w]; rfl)
 refine pure_ (i := 17) (N := some 33) (v := ?_) (a' := ?_) (bm 24 174421) rfl rfl (any_of HT_.out (by kernel_rfl)) (fun _ _ _ h => h) (Or.inl ⟨by rfl, ?_⟩) ?_ ?_
 rotate_left; focus (intro w'; go_simp; with_reducible rfl)
 rotate_left; focus (simp only [apz, i64_w, i32_w]; rfl)
 refine pure_ (i := 19) (N := some 35) (v := ?_) (a' := ?_) (bm 24 698709) rfl rfl (any_of HT_.out (by kernel_rfl)) (fun _ _ _ h => h) (Or.inl ⟨by rfl, ?_⟩) ?_ ?_
 rotate_left; focus (intro w'; go_simp; with_reducible rfl)
 rotate_left; focus (simp only [apz, i64_w, i32_w]; rfl)
 refine take_ (i := 1) (N := some 17) (v := ?_) (a' := ?_) (bm 24 698711) rfl rfl (take_ofW HT_.out HW_.out (by kernel_rfl)) (fun _ _ _ h => h) (Or.inl ⟨by rfl, ?_⟩) hHeld ?_ ?_
 rotate_left
 ·
  rintro w' ⟨s0, s1, s2, s3, s4, s5, s6, s7⟩
  go_simp
  with_reducible rfl
 rotate_left; focus (simp only [apz, i64_w, i32_w]; rfl)
 refine take_ (i := 3) (N := some 19) (v := ?_) (a' := ?_) (bm 24 698719) rfl rfl (take_ofW HT_.out HW_.out (by kernel_rfl)) (fun _ _ _ h => h) (Or.inl ⟨by rfl, ?_⟩) hHeld ?_ ?_
 rotate_left
 ·
  rintro w' ⟨s0, s1, s2, s3, s4, s5, s6, s7⟩
  go_simp
  with_reducible rfl
 rotate_left; focus (simp only [apz, i64_w, i32_w]; rfl)
 refine take_ (i := 5) (N := some 21) (v := ?_) (a' := ?_) (bm 24 698751) rfl rfl (take_ofW HT_.out HW_.out (by kernel_rfl)) (fun _ _ _ h => h) (Or.inl ⟨by rfl, ?_⟩) hHeld ?_ ?_
 rotate_left
 ·
  rintro w' ⟨s0, s1, s2, s3, s4, s5, s6, s7⟩
  go_simp
  with_reducible rfl
 rotate_left; focus (simp only [apz, i64_w, i32_w]; rfl)
 refine take_ (i := 7) (N := some 23) (v := ?_) (a' := ?_) (bm 24 698879) rfl rfl (take_ofW HT_.out HW_.out (by kernel_rfl)) (fun _ _ _ h => h) (Or.inl ⟨by rfl, ?_⟩) hHeld ?_ ?_
 rotate_left
 ·
  rintro w' ⟨s0, s1, s2, s3, s4, s5, s6, s7⟩
  go_simp
  with_reducible rfl
 rotate_left; focus (simp only [apz, i64_w, i32_w]; rfl)
 refine take_ (i := 9) (N := some 25) (v := ?_) (a' := ?_) (bm 24 699391) rfl rfl (take_ofW HT_.out HW_.out (by kernel_rfl)) (fun _ _ _ h => h) (Or.inl ⟨by rfl, ?_⟩) hHeld ?_ ?_
 rotate_left
 ·
  rintro w' ⟨s0, s1, s2, s3, s4, s5, s6, s7⟩
  go_simp
  with_reducible rfl
 rotate_left; focus (simp only [apz, i64_w, i32_w]; rfl)
 refine take_ (i := 12) (N := some 28) (v := ?_) (a' := ?_) (bm 24 703487) rfl rfl (take_ofW HT_.out HW_.out (by kernel_rfl)) (fun _ _ _ h => h) (Or.inl ⟨by rfl, ?_⟩) hHeld ?_ ?_
 rotate_left
 ·
  rintro w' ⟨s0, s1, s2, s3, s4, s5, s6, s7⟩
  go_simp
  with_reducible rfl
 rotate_left; focus (simp only [apz, i64_w, i32_w]; rfl)
 refine take_ (i := 14) (N := some 30) (v := ?_) (a' := ?_) (bm 24 719871) rfl rfl (take_ofW HT_.out HW_.out (by kernel_rfl)) (fun _ _ _ h => h) (Or.inl ⟨by rfl, ?_⟩) hHeld ?_ ?_
 rotate_left
 ·
  rintro w' ⟨s0, s1, s2, s3, s4, s5, s6, s7⟩
  go_simp
  with_reducible rfl
 rotate_left; focus (simp only [apz, i64_w, i32_w]; rfl)
 refine take_ (i := 16) (N := some 32) (v := ?_) (a' := ?_) (bm 24 785407) rfl rfl (take_ofW HT_.out HW_.out (by kernel_rfl)) (fun _ _ _ h => h) (Or.inl ⟨by rfl, ?_⟩) hHeld ?_ ?_
 rotate_left
 ·
  rintro w' ⟨s0, s1, s2, s3, s4, s5, s6, s7⟩
  go_simp
  with_reducible rfl
 rotate_left; focus (simp only [apz, i64_w, i32_w]; rfl)
 refine take_ (i := 18) (N := some 34) (v := ?_) (a' := ?_) (bm 24 1047551) rfl rfl (take_ofW HT_.out HW_.out (by kernel_rfl)) (fun _ _ _ h => h) (Or.inl ⟨by rfl, ?_⟩) hHeld ?_ ?_
 rotate_left
 ·
  rintro w' ⟨s0, s1, s2, s3, s4, s5, s6, s7⟩
  go_simp
  with_reducible rfl
 rotate_left; focus (simp only [apz, i64_w, i32_w]; rfl)
 refine take_ (i := 20) (N := some 36) (v := ?_) (a' := ?_) (bm 24 2096127) rfl rfl (take_ofW HT_.out HW_.out (by kernel_rfl)) (fun _ _ _ h => h) (Or.inl ⟨by rfl, ?_⟩) hHeld ?_ ?_
 rotate_left
 ·
  rintro w' ⟨s0, s1, s2, s3, s4, s5, s6, s7⟩
  go_simp
  with_reducible rfl
 rotate_left; focus (simp only [apz, i64_w, i32_w]; rfl)
 refine one_ (i := 10) (N := some 26) (bt 21 3) rfl rfl (one_of HT_.out (by kernel_rfl)) (by decide) (fun K hK => ?_)
 refine goesP_ Tryd.func27 (by kernel_rfl) rfl #[.int .i64 a0_0, .int .i64 a1_0, .int .i64 a0_2, .int .i64 a1_1, .int .i64 a0_4] (by rfl) rfl rfl (by (try simp only [List.map_toArray, List.map_cons, List.map_nil]); first | done | rfl | (simp only [List.length_drop, List.length_take]; rfl)) ?_
 with_reducible refine (affine_number.calls_r k a0_0 a1_0 a0_2 a1_1 a0_4 (.error c) _ ?side1 A7.out).mono ?_
 (case side1 => exact Gl.below HG.out (wq HB.out))
 rintro e w22 ⟨rfl, hb⟩
 exact ⟨_, rfl, rfl, rfl, below_step (wq HB.out) hb⟩
set_option maxHeartbeats 8000000 in
set_option maxRecDepth 100000 in
theorem affine_moved.pan2 (k : Nat) (a0_0 : Int) (a0_1 : Int) (a0_2 : Int) (a0_3 : Int) (a0_4 : Int) (a0_5 : Int) (a1_0 : Int) (a1_1 : Int) (t173 c : Int) (w : World) (hG : Gl w) (A30 : affine_Right.f k a0_0 a0_1 a0_2 a0_3 a0_4 a0_5 = some true) (A50 : wide_Within.f k 4294967296 [a1_0, a1_1] = some true) (A70 : affine_number.f k a0_0 a1_0 a0_2 a1_1 a0_4 = some t173) (A80 : affine_number.r k a0_1 a1_0 a0_3 a1_1 a0_5 = some (.error c)) :
  Calls Tryd.prog 21 #[.agg #[.int .i64 a0_0, .int .i64 a0_1, .int .i64 a0_2, .int .i64 a0_3, .int .i64 a0_4, .int .i64 a0_5], .agg #[.int .i64 a1_0, .int .i64 a1_1]] w fun e w' => e = .panicked (errP c) ∧ Below w.heap.size w w' := by
 have hu23 := Tryd.underlying23
 have hu25 := Tryd.underlying25
 have HG := Aside0.mk hG
 clear hG
 have HB := Aside0.mk (Below.refl w.heap.size w)
 have A3 := Aside0.mk A30
 clear A30
 obtain ⟨y169, hy169⟩ : ∃ y_ : List Int, y_ = (([a1_0, a1_1] : List Int)) := ⟨_, rfl⟩
 rw [← hy169] at A50
 have Ny169 := Aside0.mk hy169
 clear hy169
 have A5 := Aside0.mk A50
 clear A50
 have A6 := Aside0.mk (show affine_must.f true 1 = some () from rfl)
 have A7 := Aside0.mk A70
 clear A70
 have A8 := Aside0.mk A80
 clear A80
 go_enter Tryd.func21, Tryd.ntmps21
 try go_wp2_with (first | ((with_reducible refine gate_dst (N := 2) rfl ?_); (try (refine gate_guard (by rfl) ?_; dsimp only)); refine box_event ?hg (N := 2) ?hd (cs := #[.int .i64 a0_0, .int .i64 a0_1, .int .i64 a0_2, .int .i64 a0_3, .int .i64 a0_4, .int .i64 a0_5]) (t := 23) ?hr ?_; (case hd => rfl); (case hg => rfl); (case hr => first | (go_simp; done) | (go_simp; rfl)); intro gb165 hg w9 hbox hb; have n0_ := Aside0.mk (below_step (wq HB.out) hb); have n1_ := Aside0.mk (hbox); have n2_ := Aside0.mk ((by rw [hg]; exact (below_size (wq HB.out)) : w.heap.size ≤ gb165)); have n3_ := n2_; clear HB; have HB := n0_; have BK165 := n1_; have GW165 := n2_; have GE165 := n3_; clear n0_ n1_ n2_ n3_ hb hbox hg) | ((with_reducible refine gate_dst (N := 3) rfl ?_); (try (refine gate_guard (by rfl) ?_; dsimp only)); refine box_event ?hg (N := 3) ?hd (cs := #[.int .i64 a1_0, .int .i64 a1_1]) (t := 25) ?hr ?_; (case hd => rfl); (case hg => rfl); (case hr => first | (go_simp; done) | (go_simp; rfl)); intro gb166 hg w10 hbox hb; have n0_ := Aside0.mk (blk_below (bq BK165.out) hb); have n1_ := Aside0.mk (below_step (wq HB.out) hb); have n2_ := Aside0.mk (hbox); have n3_ := Aside0.mk ((by rw [hg]; exact (below_size (wq HB.out)) : w.heap.size ≤ gb166)); have n4_ := n3_; have n5_ := Aside0.mk ((by rw [hg]; exact Nat.ne_of_lt (blk_lt (bq BK165.out)) : gb165 ≠ gb166)); have n6_ := Aside0.mk ((by rw [hg]; exact Nat.ne_of_gt (blk_lt (bq BK165.out)) : gb166 ≠ gb165)); clear BK165 HB; have BK165 := n0_; have HB := n1_; have BK166 := n2_; have GW166 := n3_; have GE166 := n4_; have NB165_166 := n5_; have NB166_165 := n6_; clear n0_ n1_ n2_ n3_ n4_ n5_ n6_ hb hbox hg) | ((with_reducible refine gate_dst (N := 4) rfl ?_); (try (refine gate_guard (by rfl) ?_; dsimp only)); refine box_event ?hg (N := 4) ?hd (cs := #[.int .i64 0, .int .i64 0]) (t := 25) ?hr ?_; (case hd => rfl); (case hg => rfl); (case hr => first | (go_simp; done) | (go_simp; rfl)); intro gb167 hg w11 hbox hb; have n0_ := Aside0.mk (blk_below (bq BK165.out) hb); have n1_ := Aside0.mk (blk_below (bq BK166.out) hb); have n2_ := Aside0.mk (below_step (wq HB.out) hb); have n3_ := Aside0.mk (hbox); have n4_ := Aside0.mk ((by rw [hg]; exact (below_size (wq HB.out)) : w.heap.size ≤ gb167)); have n5_ := n4_; have n6_ := Aside0.mk ((by rw [hg]; exact Nat.ne_of_lt (blk_lt (bq BK165.out)) : gb165 ≠ gb167)); have n7_ := Aside0.mk ((by rw [hg]; exact Nat.ne_of_gt (blk_lt (bq BK165.out)) : gb167 ≠ gb165)); have n8_ := Aside0.mk ((by rw [hg]; exact Nat.ne_of_lt (blk_lt (bq BK166.out)) : gb166 ≠ gb167)); have n9_ := Aside0.mk ((by rw [hg]; exact Nat.ne_of_gt (blk_lt (bq BK166.out)) : gb167 ≠ gb166)); clear BK165 BK166 HB; have BK165 := n0_; have BK166 := n1_; have HB := n2_; have BK167 := n3_; have GW167 := n4_; have GE167 := n5_; have NB165_167 := n6_; have NB167_165 := n7_; have NB166_167 := n8_; have NB167_166 := n9_; clear n0_ n1_ n2_ n3_ n4_ n5_ n6_ n7_ n8_ n9_ hb hbox hg; have hnb12 := NB165_166.out; have hnc12 := NB166_165.out; have hnb13 := NB165_167.out; have hnc13 := NB167_165.out; have hcz14_0 : w11.cell? ⟨gb165, 0, none⟩ = some (.int .i64 a0_0) := (blk_cell BK165.out 0).trans rfl; have hcz14_1 : w11.cell? ⟨gb165, 1, none⟩ = some (.int .i64 a0_1) := (blk_cell BK165.out 1).trans rfl; have hcz14_2 : w11.cell? ⟨gb165, 2, none⟩ = some (.int .i64 a0_2) := (blk_cell BK165.out 2).trans rfl; have hcz14_3 : w11.cell? ⟨gb165, 3, none⟩ = some (.int .i64 a0_3) := (blk_cell BK165.out 3).trans rfl; have hcz14_4 : w11.cell? ⟨gb165, 4, none⟩ = some (.int .i64 a0_4) := (blk_cell BK165.out 4).trans rfl; have hcz14_5 : w11.cell? ⟨gb165, 5, none⟩ = some (.int .i64 a0_5) := (blk_cell BK165.out 5).trans rfl; have hfz14_0 := blk_frozen BK165.out 0; have hfz14_1 := blk_frozen BK165.out 1; have hfz14_2 := blk_frozen BK165.out 2; have hfz14_3 := blk_frozen BK165.out 3; have hfz14_4 := blk_frozen BK165.out 4; have hfz14_5 := blk_frozen BK165.out 5) | ((with_reducible refine gate_callee (f := 12) rfl ?_); refine goesL_ (some 6) rfl rfl Tryd.func12 (by kernel_rfl) rfl #[.agg #[.int .i64 a0_0, .int .i64 a0_1, .int .i64 a0_2, .int .i64 a0_3, .int .i64 a0_4, .int .i64 a0_5]] rfl (by (try simp only [List.map_toArray, List.map_cons, List.map_nil]); first | done | rfl | (simp only [List.length_drop, List.length_take]; rfl)) ?_; (with_reducible refine (affine_Right.calls k a0_0 a0_1 a0_2 a0_3 a0_4 a0_5 true _ A3.out).mono ?_); rintro e w15 ⟨rfl, hb⟩; refine ⟨_, rfl, ?_⟩; have n0_ := Aside0.mk (blk_below (bq BK165.out) hb); have n1_ := Aside0.mk (blk_below (bq BK166.out) hb); have n2_ := Aside0.mk (blk_below (bq BK167.out) hb); have n3_ := Aside0.mk (below_step (wq HB.out) hb); clear BK165 BK166 BK167 HB; have BK165 := n0_; have BK166 := n1_; have BK167 := n2_; have HB := n3_; clear n0_ n1_ n2_ n3_; (try clear hb); (try clear hb2); (try clear hk); (try clear hi); have hnb16 := NB166_167.out; have hnc16 := NB167_166.out; have hcz17_0 : w15.cell? ⟨gb166, 0, none⟩ = some (.int .i64 a1_0) := (blk_cell BK166.out 0).trans rfl; have hcz17_1 : w15.cell? ⟨gb166, 1, none⟩ = some (.int .i64 a1_1) := (blk_cell BK166.out 1).trans rfl; have hfz17_0 := blk_frozen BK166.out 0; have hfz17_1 := blk_frozen BK166.out 1) | ((with_reducible refine gate_dst (N := 12) rfl ?_); (try (refine gate_guard (by rfl) ?_; dsimp only)); refine Kd.R_lit (Kd.int .i64) _ 2 ?hg (N := 12) ?hd (xs := ([a1_0, a1_1] : List Int)) (inner := [.int .i64 a1_0, .int .i64 a1_1]) (ok := fun _ => True) (okp := fun _ => True) ?hr ?hp (fun _ hk => hk) trivial (Below.refl _ _) (Nat.le_refl _) (by simp) ?_; (case hd => rfl); (case hg => rfl); (case hr => first | (go_simp; done) | (go_simp; rfl)); (case hp => exact (Reps.one (show Kd.M (Kd.int .i64) _ _ _ a1_0 [.int .i64 a1_0] from rfl) (Reps.one (show Kd.M (Kd.int .i64) _ _ _ a1_1 [.int .i64 a1_1] from rfl) (Reps.none _ _)))); intro v170 w18 ho19 hb hg_ hnew_; clear hg_ hnew_; (first | rw [← Ny169.out] at ho19 | (simp only [Int.reduceToNat] at ho19; rw [← Ny169.out] at ho19)); have n0_ := Aside0.mk (Kd.R_lower ho19 (below_size (wq HB.out))); have n1_ := Aside0.mk (blk_below (bq BK165.out) hb); have n2_ := Aside0.mk (blk_below (bq BK166.out) hb); have n3_ := Aside0.mk (blk_below (bq BK167.out) hb); have n4_ := Aside0.mk (below_step (wq HB.out) hb); clear BK165 BK166 BK167 HB; have HO171 := n0_; have BK165 := n1_; have BK166 := n2_; have BK167 := n3_; have HB := n4_; clear n0_ n1_ n2_ n3_ n4_ hb ho19; obtain ⟨Ao20, co20, eo20⟩ := Kd.R_slice HO171.out; subst eo20) | (go_at_call 23; (with_reducible refine (wide_Within.calls k 4294967296 _ _ y169 true _ ?side1 ?side2 A5.out).mono ?_); (case side1 => exact cq (Kd.R_reads' HO171.out).2.2); (case side2 => exact (Kd.R_reads' HO171.out).2.1); rintro e w' ⟨rfl, ⟨nd, rfl⟩⟩; (try (rw [drewN_self w18]; generalize hq_ : World.drewN w18 _ = w18; have n0_ : Aside0 (Kd.R (Kd.int .i64) 2 w18 w.heap.size (fun _ => True) (.slice Ao20 y169.length co20) y169) := ⟨by rw [← hq_]; exact (rq HO171.out)⟩; have n1_ : Aside0 (w18.heap[gb165]? = some (.cells #[.int .i64 a0_0, .int .i64 a0_1, .int .i64 a0_2, .int .i64 a0_3, .int .i64 a0_4, .int .i64 a0_5] 23 (0, 0))) := ⟨by rw [← hq_]; exact (bq BK165.out)⟩; have n2_ : Aside0 (w18.heap[gb166]? = some (.cells #[.int .i64 a1_0, .int .i64 a1_1] 25 (0, 0))) := ⟨by rw [← hq_]; exact (bq BK166.out)⟩; have n3_ : Aside0 (w18.heap[gb167]? = some (.cells #[.int .i64 0, .int .i64 0] 25 (0, 0))) := ⟨by rw [← hq_]; exact (bq BK167.out)⟩; have n4_ : Aside0 (Below w.heap.size w w18) := ⟨by rw [← hq_]; exact (wq HB.out)⟩; clear HO171 BK165 BK166 BK167 HB hq_; have HO171 := n0_; have BK165 := n1_; have BK166 := n2_; have BK167 := n3_; have HB := n4_; clear n0_ n1_ n2_ n3_ n4_))) | ((with_reducible refine gate_callee (f := 25) rfl ?_); refine goesL_ (some 15) rfl rfl Tryd.func25 (by kernel_rfl) rfl #[.bool true, .int .i64 1] rfl (by (try simp only [List.map_toArray, List.map_cons, List.map_nil]); first | done | rfl | (simp only [List.length_drop, List.length_take]; rfl)) ?_; (with_reducible refine (affine_must.calls true 1  _ A6.out).mono ?_); rintro e w' ⟨rfl, ⟨nd, rfl⟩⟩; refine ⟨_, rfl, ?_⟩; (try (rw [drewN_self w18]; generalize hq_ : World.drewN w18 _ = w18; have n0_ : Aside0 (Kd.R (Kd.int .i64) 2 w18 w.heap.size (fun _ => True) (.slice Ao20 y169.length co20) y169) := ⟨by rw [← hq_]; exact (rq HO171.out)⟩; have n1_ : Aside0 (w18.heap[gb165]? = some (.cells #[.int .i64 a0_0, .int .i64 a0_1, .int .i64 a0_2, .int .i64 a0_3, .int .i64 a0_4, .int .i64 a0_5] 23 (0, 0))) := ⟨by rw [← hq_]; exact (bq BK165.out)⟩; have n2_ : Aside0 (w18.heap[gb166]? = some (.cells #[.int .i64 a1_0, .int .i64 a1_1] 25 (0, 0))) := ⟨by rw [← hq_]; exact (bq BK166.out)⟩; have n3_ : Aside0 (w18.heap[gb167]? = some (.cells #[.int .i64 0, .int .i64 0] 25 (0, 0))) := ⟨by rw [← hq_]; exact (bq BK167.out)⟩; have n4_ : Aside0 (Below w.heap.size w w18) := ⟨by rw [← hq_]; exact (wq HB.out)⟩; clear HO171 BK165 BK166 BK167 HB hq_; have HO171 := n0_; have BK165 := n1_; have BK166 := n2_; have BK167 := n3_; have HB := n4_; clear n0_ n1_ n2_ n3_ n4_))))
 have n0_ := Aside0.mk (Kd.R_drew HO171.out)
 have n1_ := Aside0.mk (blk_drew BK165.out)
 have n2_ := Aside0.mk (blk_drew BK166.out)
 have n3_ := Aside0.mk (blk_drew BK167.out)
 have n4_ := Aside0.mk (below_drew1 HB.out)
 clear HO171 BK165 BK166 BK167; clear HB; have HO171 := n0_; have BK165 := n1_; have BK166 := n2_; have BK167 := n3_; have HB := n4_; clear n0_ n1_ n2_ n3_ n4_
 refine start_ (n := 24) (S := fun w' => w'.cell? ⟨gb165, 0, none⟩ = some (.int .i64 a0_0) ∧ w'.cell? ⟨gb165, 1, none⟩ = some (.int .i64 a0_1) ∧ w'.cell? ⟨gb165, 2, none⟩ = some (.int .i64 a0_2) ∧ w'.cell? ⟨gb165, 3, none⟩ = some (.int .i64 a0_3) ∧ w'.cell? ⟨gb165, 4, none⟩ = some (.int .i64 a0_4) ∧ w'.cell? ⟨gb165, 5, none⟩ = some (.int .i64 a0_5) ∧ w'.cell? ⟨gb166, 0, none⟩ = some (.int .i64 a1_0) ∧ w'.cell? ⟨gb166, 1, none⟩ = some (.int .i64 a1_1)) (ds := []) (bt 0 24) (by kernel_rfl) rfl rfl ⟨(blk_cell BK165.out 0).trans rfl, (blk_cell BK165.out 1).trans rfl, (blk_cell BK165.out 2).trans rfl, (blk_cell BK165.out 3).trans rfl, (blk_cell BK165.out 4).trans rfl, (blk_cell BK165.out 5).trans rfl, (blk_cell BK166.out 0).trans rfl, (blk_cell BK166.out 1).trans rfl⟩ (fun hHeld => ?_); refine with_tabW affine_moved.tab2 affine_moved.bits2 (fun HT_ HW_ => ?_)
 generalize w18.drew = w21 at HO171 BK165 BK166 BK167 HB hHeld ⊢
 refine pure_ (i := 0) (N := some 16) (v := ?_) (a' := ?_) (bt 1 23) rfl rfl (any_of HT_.out (by kernel_rfl)) (fun _ _ _ h => h) (Or.inl ⟨by rfl, ?_⟩) ?_ ?_
 rotate_left; focus (intro w'; go_simp; with_reducible rfl)
 rotate_left; focus (simp only [apz, i64_w, i32_w]; rfl)
 refine pure_ (i := 2) (N := some 18) (v := ?_) (a' := ?_) (bm 24 5) rfl rfl (any_of HT_.out (by kernel_rfl)) (fun _ _ _ h => h) (Or.inl ⟨by rfl, ?_⟩) ?_ ?_
 rotate_left; focus (intro w'; go_simp; with_reducible rfl)
 rotate_left; focus (simp only [apz, i64_w, i32_w]; rfl)
 refine pure_ (i := 4) (N := some 20) (v := ?_) (a' := ?_) (bm 24 21) rfl rfl (any_of HT_.out (by kernel_rfl)) (fun _ _ _ h => h) (Or.inl ⟨by rfl, ?_⟩) ?_ ?_
 rotate_left; focus (intro w'; go_simp; with_reducible rfl)
 rotate_left; focus (simp only [apz, i64_w, i32_w]; rfl)
 refine pure_ (i := 6) (N := some 22) (v := ?_) (a' := ?_) (bm 24 85) rfl rfl (any_of HT_.out (by kernel_rfl)) (fun _ _ _ h => h) (Or.inl ⟨by rfl, ?_⟩) ?_ ?_
 rotate_left; focus (intro w'; go_simp; with_reducible rfl)
 rotate_left; focus (simp only [apz, i64_w, i32_w]; rfl)
 refine pure_ (i := 8) (N := some 24) (v := ?_) (a' := ?_) (bm 24 341) rfl rfl (any_of HT_.out (by kernel_rfl)) (fun _ _ _ h => h) (Or.inl ⟨by rfl, ?_⟩) ?_ ?_
 rotate_left; focus (intro w'; go_simp; with_reducible rfl)
 rotate_left; focus (simp only [apz, i64_w, i32_w]; rfl)
 refine pure_ (i := 11) (N := some 27) (v := ?_) (a' := ?_) (bm 24 2389) rfl rfl (any_of HT_.out (by kernel_rfl)) (fun _ _ _ h => h) (Or.inl ⟨by rfl, ?_⟩) ?_ ?_
 rotate_left; focus (intro w'; go_simp; with_reducible rfl)
 rotate_left; focus (simp only [apz, i64_w, i32_w]; rfl)
 refine pure_ (i := 13) (N := some 29) (v := ?_) (a' := ?_) (bm 24 10581) rfl rfl (any_of HT_.out (by kernel_rfl)) (fun _ _ _ h => h) (Or.inl ⟨by rfl, ?_⟩) ?_ ?_
 rotate_left; focus (intro w'; go_simp; with_reducible rfl)
 rotate_left; focus (simp only [apz, i64_w, i32_w]; rfl)
 refine pure_ (i := 15) (N := some 31) (v := ?_) (a' := ?_) (bm 24 43349) rfl rfl (any_of HT_.out (by kernel_rfl)) (fun _ _ _ h => h) (Or.inl ⟨by rfl, ?_⟩) ?_ ?_
 rotate_left; focus (intro w'; go_simp; with_reducible rfl)
 rotate_left; focus (simp only [apz, i64_w, i32_w]; rfl)
 refine pure_ (i := 17) (N := some 33) (v := ?_) (a' := ?_) (bm 24 174421) rfl rfl (any_of HT_.out (by kernel_rfl)) (fun _ _ _ h => h) (Or.inl ⟨by rfl, ?_⟩) ?_ ?_
 rotate_left; focus (intro w'; go_simp; with_reducible rfl)
 rotate_left; focus (simp only [apz, i64_w, i32_w]; rfl)
 refine pure_ (i := 19) (N := some 35) (v := ?_) (a' := ?_) (bm 24 698709) rfl rfl (any_of HT_.out (by kernel_rfl)) (fun _ _ _ h => h) (Or.inl ⟨by rfl, ?_⟩) ?_ ?_
 rotate_left; focus (intro w'; go_simp; with_reducible rfl)
 rotate_left; focus (simp only [apz, i64_w, i32_w]; rfl)
 refine take_ (i := 1) (N := some 17) (v := ?_) (a' := ?_) (bm 24 698711) rfl rfl (take_ofW HT_.out HW_.out (by kernel_rfl)) (fun _ _ _ h => h) (Or.inl ⟨by rfl, ?_⟩) hHeld ?_ ?_
 rotate_left
 ·
  rintro w' ⟨s0, s1, s2, s3, s4, s5, s6, s7⟩
  go_simp
  with_reducible rfl
 rotate_left; focus (simp only [apz, i64_w, i32_w]; rfl)
 refine take_ (i := 3) (N := some 19) (v := ?_) (a' := ?_) (bm 24 698719) rfl rfl (take_ofW HT_.out HW_.out (by kernel_rfl)) (fun _ _ _ h => h) (Or.inl ⟨by rfl, ?_⟩) hHeld ?_ ?_
 rotate_left
 ·
  rintro w' ⟨s0, s1, s2, s3, s4, s5, s6, s7⟩
  go_simp
  with_reducible rfl
 rotate_left; focus (simp only [apz, i64_w, i32_w]; rfl)
 refine take_ (i := 5) (N := some 21) (v := ?_) (a' := ?_) (bm 24 698751) rfl rfl (take_ofW HT_.out HW_.out (by kernel_rfl)) (fun _ _ _ h => h) (Or.inl ⟨by rfl, ?_⟩) hHeld ?_ ?_
 rotate_left
 ·
  rintro w' ⟨s0, s1, s2, s3, s4, s5, s6, s7⟩
  go_simp
  with_reducible rfl
 rotate_left; focus (simp only [apz, i64_w, i32_w]; rfl)
 refine take_ (i := 7) (N := some 23) (v := ?_) (a' := ?_) (bm 24 698879) rfl rfl (take_ofW HT_.out HW_.out (by kernel_rfl)) (fun _ _ _ h => h) (Or.inl ⟨by rfl, ?_⟩) hHeld ?_ ?_
 rotate_left
 ·
  rintro w' ⟨s0, s1, s2, s3, s4, s5, s6, s7⟩
  go_simp
  with_reducible rfl
 rotate_left; focus (simp only [apz, i64_w, i32_w]; rfl)
 refine take_ (i := 9) (N := some 25) (v := ?_) (a' := ?_) (bm 24 699391) rfl rfl (take_ofW HT_.out HW_.out (by kernel_rfl)) (fun _ _ _ h => h) (Or.inl ⟨by rfl, ?_⟩) hHeld ?_ ?_
 rotate_left
 ·
  rintro w' ⟨s0, s1, s2, s3, s4, s5, s6, s7⟩
  go_simp
  with_reducible rfl
 rotate_left; focus (simp only [apz, i64_w, i32_w]; rfl)
 refine take_ (i := 12) (N := some 28) (v := ?_) (a' := ?_) (bm 24 703487) rfl rfl (take_ofW HT_.out HW_.out (by kernel_rfl)) (fun _ _ _ h => h) (Or.inl ⟨by rfl, ?_⟩) hHeld ?_ ?_
 rotate_left
 ·
  rintro w' ⟨s0, s1, s2, s3, s4, s5, s6, s7⟩
  go_simp
  with_reducible rfl
 rotate_left; focus (simp only [apz, i64_w, i32_w]; rfl)
 refine take_ (i := 14) (N := some 30) (v := ?_) (a' := ?_) (bm 24 719871) rfl rfl (take_ofW HT_.out HW_.out (by kernel_rfl)) (fun _ _ _ h => h) (Or.inl ⟨by rfl, ?_⟩) hHeld ?_ ?_
 rotate_left
 ·
  rintro w' ⟨s0, s1, s2, s3, s4, s5, s6, s7⟩
  go_simp
  with_reducible rfl
 rotate_left; focus (simp only [apz, i64_w, i32_w]; rfl)
 refine take_ (i := 16) (N := some 32) (v := ?_) (a' := ?_) (bm 24 785407) rfl rfl (take_ofW HT_.out HW_.out (by kernel_rfl)) (fun _ _ _ h => h) (Or.inl ⟨by rfl, ?_⟩) hHeld ?_ ?_
 rotate_left
 ·
  rintro w' ⟨s0, s1, s2, s3, s4, s5, s6, s7⟩
  go_simp
  with_reducible rfl
 rotate_left; focus (simp only [apz, i64_w, i32_w]; rfl)
 refine take_ (i := 18) (N := some 34) (v := ?_) (a' := ?_) (bm 24 1047551) rfl rfl (take_ofW HT_.out HW_.out (by kernel_rfl)) (fun _ _ _ h => h) (Or.inl ⟨by rfl, ?_⟩) hHeld ?_ ?_
 rotate_left
 ·
  rintro w' ⟨s0, s1, s2, s3, s4, s5, s6, s7⟩
  go_simp
  with_reducible rfl
 rotate_left; focus (simp only [apz, i64_w, i32_w]; rfl)
 refine take_ (i := 20) (N := some 36) (v := ?_) (a' := ?_) (bm 24 2096127) rfl rfl (take_ofW HT_.out HW_.out (by kernel_rfl)) (fun _ _ _ h => h) (Or.inl ⟨by rfl, ?_⟩) hHeld ?_ ?_
 rotate_left
 ·
  rintro w' ⟨s0, s1, s2, s3, s4, s5, s6, s7⟩
  go_simp
  with_reducible rfl
 rotate_left; focus (simp only [apz, i64_w, i32_w]; rfl)
 refine one_ (i := 10) (N := some 26) (bt 21 3) rfl rfl (one_of HT_.out (by kernel_rfl)) (by decide) (fun K hK => ?_)
 refine goes_ Tryd.func27 (by kernel_rfl) rfl #[.int .i64 a0_0, .int .i64 a1_0, .int .i64 a0_2, .int .i64 a1_1, .int .i64 a0_4] (by rfl) rfl rfl (by (try simp only [List.map_toArray, List.map_cons, List.map_nil]); first | done | rfl | (simp only [List.length_drop, List.length_take]; rfl)) ?_
 with_reducible refine (affine_number.calls k a0_0 a1_0 a0_2 a1_1 a0_4 t173 _ ?side1 A7.out).mono ?_
 (case side1 => exact Gl.below HG.out (wq HB.out))
 rintro e w22 ⟨rfl, hb⟩
 refine ⟨_, rfl, ?_⟩
 have n0_ := Aside0.mk (Kd.R_below (rq HO171.out) hb)
 have n1_ := Aside0.mk (blk_below (bq BK165.out) hb)
 have n2_ := Aside0.mk (blk_below (bq BK166.out) hb)
 have n3_ := Aside0.mk (blk_below (bq BK167.out) hb)
 have n4_ := Aside0.mk (below_step (wq HB.out) hb)
 clear HO171 BK165 BK166 BK167; clear HB; have HO171 := n0_; have BK165 := n1_; have BK166 := n2_; have BK167 := n3_; have HB := n4_; clear n0_ n1_ n2_ n3_ n4_
 (try clear hb)
 (try clear hb2)
 (try clear hk)
 (try clear hi)
 refine hK.out _ _ ⟨(blk_cell BK165.out 0).trans rfl, (blk_cell BK165.out 1).trans rfl, (blk_cell BK165.out 2).trans rfl, (blk_cell BK165.out 3).trans rfl, (blk_cell BK165.out 4).trans rfl, (blk_cell BK165.out 5).trans rfl, (blk_cell BK166.out 0).trans rfl, (blk_cell BK166.out 1).trans rfl⟩ (fun hHeld => ?_)
 clear hK K
 refine norm_ (a' := ?_) ?_ ?_
 rotate_left
 ·
  show Act.put _ (some 26) _ = _
  simp only [apz, i64_w, i32_w]
  rfl
 refine one_ (i := 21) (N := some 37) (bt 22 2) rfl rfl (one_of HT_.out (by kernel_rfl)) (by decide) (fun K hK => ?_)
 refine goesP_ Tryd.func27 (by kernel_rfl) rfl #[.int .i64 a0_1, .int .i64 a1_0, .int .i64 a0_3, .int .i64 a1_1, .int .i64 a0_5] (by rfl) rfl rfl (by (try simp only [List.map_toArray, List.map_cons, List.map_nil]); first | done | rfl | (simp only [List.length_drop, List.length_take]; rfl)) ?_
 with_reducible refine (affine_number.calls_r k a0_1 a1_0 a0_3 a1_1 a0_5 (.error c) _ ?side1 A8.out).mono ?_
 (case side1 => exact Gl.below HG.out (wq HB.out))
 rintro e w23 ⟨rfl, hb⟩
 exact ⟨_, rfl, rfl, rfl, below_step (wq HB.out) hb⟩
theorem moved_right_no (k : Nat) (a0 a1 a2 a3 a4 a5 x y : Int) (w : World) (h : affine_Right.f k a0 a1 a2 a3 a4 a5 = some false) :
  Calls Tryd.prog 21 #[.agg #[.int .i64 a0, .int .i64 a1, .int .i64 a2, .int .i64 a3, .int .i64 a4, .int .i64 a5], .agg #[.int .i64 x, .int .i64 y]] w fun e w' => e = .panicked (errP 1) ∧ Below w.heap.size w w' := by
 go_enter Tryd.func21, Tryd.ntmps21
 go_wp2_with fail
 refine (affine_Right.calls k _ _ _ _ _ _ _ _ h).mono ?_
 rintro e w1 ⟨rfl, hb⟩
 have hBw : Below w.heap.size w w1 := ((((Below.refl w.heap.size w).alloc (Nat.le_refl _) _).alloc (by simp) _).alloc (by simp; omega) _).trans (hb.mono (by simp; omega))
 clear hb
 go_wp2_with (go_at_call 25; refine (must_no _ _).mono ?_; rintro e w2 ⟨rfl, rfl⟩)
 exact ⟨rfl, rfl, hBw⟩
theorem bcell {W w1 : World} (hb : Below W.heap.size W w1) : (∀ b o, b < W.heap.size → w1.cell? ⟨b, o, none⟩ = W.cell? ⟨b, o, none⟩) ∧ (∀ b o, b < W.heap.size → w1.frozen? ⟨b, o, none⟩ = W.frozen? ⟨b, o, none⟩) :=
 ⟨fun b o h => hb.cell (p := ⟨b, o, none⟩) h, fun b o h => hb.frozen (p := ⟨b, o, none⟩) h⟩
theorem moved_within_no (k : Nat) (a0 a1 a2 a3 a4 a5 x y : Int) (w : World) (h : affine_Right.f k a0 a1 a2 a3 a4 a5 = some true) (h2 : wide_Within.f k 4294967296 [x, y] = some false) :
  Calls Tryd.prog 21 #[.agg #[.int .i64 a0, .int .i64 a1, .int .i64 a2, .int .i64 a3, .int .i64 a4, .int .i64 a5], .agg #[.int .i64 x, .int .i64 y]] w fun e w' => e = .panicked (errP 1) ∧ Below w.heap.size w w' := by
 go_enter Tryd.func21, Tryd.ntmps21
 go_wp2_with fail
 refine (affine_Right.calls k _ _ _ _ _ _ _ _ h).mono ?_
 rintro e w1 ⟨rfl, hb⟩
 have hBw : Below w.heap.size w w1 := ((((Below.refl w.heap.size w).alloc (Nat.le_refl _) _).alloc (by simp) _).alloc (by simp; omega) _).trans (hb.mono (by simp; omega))
 have hs := hb.size
 obtain ⟨hbc1, _⟩ := bcell hb
 have c0 := hbc1 (w.heap.size + 1) 0 (by simp)
 have c1 := hbc1 (w.heap.size + 1) 1 (by simp)
 clear hbc1 hb
 simp [go_sem] at c0 c1 hs
 go_wp2_with fail
 refine (wide_Within.calls k _ _ 2 _ _ _ (row2 _ _ _ _) (Nat.le_refl 2) h2).mono ?_
 rintro e w3 ⟨rfl, ⟨n3, rfl⟩⟩
 go_wp2_with (go_at_call 25; refine (must_no _ _).mono ?_; rintro e w2 ⟨rfl, rfl⟩)
 exact ⟨rfl, rfl, by first | exact hBw.alloc hBw.size _ | exact pw_below_drewN (hBw.alloc hBw.size _) _⟩
def affine_moved.r (k : Nat) (a0 a1 a2 a3 a4 a5 x y : Int) : Option (Except Int (Int × Int)) :=
 (affine_Right.f k a0 a1 a2 a3 a4 a5).bind fun t => if t = true then (wide_Within.f k 4294967296 [x, y]).bind fun u => if u = true then
  (affine_number.r k a0 x a2 y a4).bind fun p => match p with
   | .error c => some (.error c)
   | .ok m => (affine_number.r k a1 x a3 y a5).bind fun q => match q with
    | .error c => some (.error c)
    | .ok n => some (.ok (m, n))
  else some (.error 1) else some (.error 1)
theorem affine_moved.mono_r (a0 a1 a2 a3 a4 a5 x y : Int) (k : Nat) : LeO (affine_moved.r k a0 a1 a2 a3 a4 a5 x y) (affine_moved.r (k + 1) a0 a1 a2 a3 a4 a5 x y) := by
 unfold affine_moved.r
 refine LeO.bind (affine_Right.mono _ _ _ _ _ _ _) (fun _ => LeO.ite (LeO.bind (wide_Within.mono _ _ _) (fun _ => LeO.ite (LeO.bind (affine_number.mono_r _ _ _ _ _ _) (fun p => ?_)) (LeO.refl _))) (LeO.refl _))
 cases p with
 | error c => exact LeO.refl _
 | ok m => exact LeO.bind (affine_number.mono_r _ _ _ _ _ _) (fun _ => LeO.refl _)
def endPoint : Except Int (Int × Int) → Ending
 | .ok (m, n) => .returned (.agg #[.int .i64 m, .int .i64 n])
 | .error c => .panicked (errP c)
theorem affine_moved.calls_r (k : Nat) (a0 a1 a2 a3 a4 a5 x y : Int) (r : Except Int (Int × Int)) (w : World) (hG : Gl w) (h : affine_moved.r k a0 a1 a2 a3 a4 a5 x y = some r) :
  Calls Tryd.prog 21 #[.agg #[.int .i64 a0, .int .i64 a1, .int .i64 a2, .int .i64 a3, .int .i64 a4, .int .i64 a5], .agg #[.int .i64 x, .int .i64 y]] w fun e w' => e = endPoint r ∧ Below w.heap.size w w' := by
 unfold affine_moved.r at h
 obtain ⟨t, ht, h⟩ := Option.bind_eq_some_iff.mp h
 cases t with
 | false => obtain rfl := Option.some.inj h; exact moved_right_no k a0 a1 a2 a3 a4 a5 x y w ht
 | true =>
  obtain ⟨u, hu, h⟩ := Option.bind_eq_some_iff.mp h
  cases u with
  | false => obtain rfl := Option.some.inj h; exact moved_within_no k a0 a1 a2 a3 a4 a5 x y w ht hu
  | true =>
   obtain ⟨p, hp, h⟩ := Option.bind_eq_some_iff.mp h
   cases p with
   | error c => obtain rfl := Option.some.inj h; exact affine_moved.pan1 k a0 a1 a2 a3 a4 a5 x y c w hG ht hu hp
   | ok m =>
    have hm : affine_number.f k a0 x a2 y a4 = some m := by unfold affine_number.f; rw [hp]; rfl
    obtain ⟨q, hq, h⟩ := Option.bind_eq_some_iff.mp h
    cases q with
    | error c => obtain rfl := Option.some.inj h; exact affine_moved.pan2 k a0 a1 a2 a3 a4 a5 x y m c w hG ht hu hm hq
    | ok n =>
     obtain rfl := Option.some.inj h
     have hn : affine_number.f k a1 x a3 y a5 = some n := by unfold affine_number.f; rw [hq]; rfl
     refine affine_moved.calls k a0 a1 a2 a3 a4 a5 x y m n w hG ?_
     simp only [affine_moved.f, ht, hu, hm, hn, Option.bind_some, if_true, affine_must.f]
theorem caught_nil (p : Addr) (w : World) : Calls Tryd.prog 20 #[.pointer (some p), .nilIface] w fun e w' => e = .returned (.tuple #[]) ∧ w = w' := by
 go_enter Tryd.func20, Tryd.ntmps20
 go_wp2
 go_end0
 exact ⟨rfl, rfl⟩
theorem caught_err (p : Addr) (x c : Int) (w : World) (hc : w.cell? p = some (.int .i64 x)) (hz : w.frozen? p = false) :
  Calls Tryd.prog 20 #[.pointer (some p), .iface 27 (.int .i64 c)] w fun e w' => e = .returned (.tuple #[]) ∧ w.setCell p (.int .i64 c) = w' := by
 have hta : ∀ (v : Value) (W : World), (Instr.typeAssert (.iface 27 v) 20 27 false).run Tryd.prog W = .ok v W := fun v W => by rfl
 go_enter Tryd.func20, Tryd.ntmps20
 go_wp2
 go_end0
 exact ⟨rfl, rfl⟩
theorem apply1_panicking (p : Addr) (x c : Int) (w : World) (hc : w.cell? p = some (.int .i64 x)) (hz : w.frozen? p = false) :
  CallsD Tryd.prog 19 #[.pointer (some p)] (.panicking (errP c)) w fun e u' w' =>
   e = .returned (.tuple #[]) ∧ u' = .panicking [{ v := .iface 27 (.int .i64 c), recovered := true }] ∧ w.setCell p (.int .i64 c) = w' := by
 refine callsD_of_wpS Tryd.func19 rfl fun c₀ cs hu => ?_
 unfold errP at hu
 apply wpS_region
 simp [wpOpsS, go_sem, recoverD, hu, Tryd.ntmps19]
 refine (caught_err p x c w hc hz).mono ?_
 rintro e w' ⟨rfl, rfl⟩
 simp [bodyPostS, results, Tryd.results19, go_sem]
theorem apply1_idle (p : Addr) (w : World) :
  CallsD Tryd.prog 19 #[.pointer (some p)] .returning w fun e u' w' => e = .returned (.tuple #[]) ∧ u' = .returning ∧ w = w' := by
 refine callsD_of_wpS Tryd.func19 rfl fun c₀ cs hu => ?_
 apply wpS_region
 simp [wpOpsS, go_sem, recoverD, hu, Tryd.ntmps19]
 refine (caught_nil p w).mono ?_
 rintro e w' ⟨rfl, rfl⟩
 cases c₀
 simp_all [bodyPostS, results, Tryd.results19, go_sem]
def affine_Apply.f (k : Nat) (a0 a1 a2 a3 a4 a5 x y : Int) : Option (Int × Int × Int) :=
 (affine_moved.r k a0 a1 a2 a3 a4 a5 x y).bind fun r => match r with | .ok (m, n) => some (m, n, 0) | .error c => some (0, 0, c)
theorem affine_Apply.mono (a0 a1 a2 a3 a4 a5 x y : Int) (k : Nat) : LeO (affine_Apply.f k a0 a1 a2 a3 a4 a5 x y) (affine_Apply.f (k + 1) a0 a1 a2 a3 a4 a5 x y) :=
 LeO.bind (affine_moved.mono_r _ _ _ _ _ _ _ _ _) (fun _ => LeO.refl _)
theorem affine_Apply.calls (k : Nat) (a0 a1 a2 a3 a4 a5 x y r1 r2 r3 : Int) (w : World) (hG : Gl w) (h : affine_Apply.f k a0 a1 a2 a3 a4 a5 x y = some (r1, r2, r3)) :
  Calls Tryd.prog 9 #[.agg #[.int .i64 a0, .int .i64 a1, .int .i64 a2, .int .i64 a3, .int .i64 a4, .int .i64 a5], .agg #[.int .i64 x, .int .i64 y]] w fun e w' =>
   e = .returned (.tuple #[.agg #[.int .i64 r1, .int .i64 r2], .int .i64 r3]) ∧ Below w.heap.size w w' := by
 obtain ⟨r, hr, h⟩ := Option.bind_eq_some_iff.mp h
 have HG := Aside0.mk hG
 clear hG
 have hmf : ∀ (fn : Fn) (first cap : Array Value) (w : World), (Instr.makeFunc fn first cap).run Tryd.prog w = .ok (.func fn first cap) w := fun _ _ _ _ => rfl
 go_enter_defers Tryd.func9, Tryd.ntmps9
 go_wp2_with fail
 refine (affine_moved.calls_r k _ _ _ _ _ _ _ _ _ _ (HG.out.below (((((Below.refl w.heap.size w).alloc (Nat.le_refl _) _).alloc (by simp) _).alloc (by simp; omega) _).alloc (by simp; omega) _)) hr).mono ?_
 rintro e w1 ⟨rfl, hb⟩
 have hBw : Below w.heap.size w w1 := ((((((Below.refl w.heap.size w).alloc (Nat.le_refl _) _).alloc (by simp) _).alloc (by simp; omega) _).alloc (by simp; omega) _)).trans (hb.mono (by simp; omega))
 have hs := hb.size
 obtain ⟨hbc1, hbc2⟩ := bcell hb
 have c0 := hbc1 (w.heap.size + 1 + 1) 0 (by simp)
 have c1 := hbc1 (w.heap.size + 1 + 1) 1 (by simp)
 have c2 := hbc1 (w.heap.size + 1 + 1 + 1) 0 (by simp)
 have f0 := hbc2 (w.heap.size + 1 + 1) 0 (by simp)
 have f1 := hbc2 (w.heap.size + 1 + 1) 1 (by simp)
 have f2 := hbc2 (w.heap.size + 1 + 1 + 1) 0 (by simp)
 clear hbc1 hbc2 hb
 simp [go_sem] at c0 c1 c2 f0 f1 f2 hs
 cases r with
 | ok q =>
  obtain ⟨m, n⟩ := q
  simp only [Option.some.injEq, Prod.mk.injEq] at h
  obtain ⟨rfl, rfl, rfl⟩ := h
  simp only [endPoint]
  go_wp2
  have hB3 := (((hBw.setCell (p := ⟨w.heap.size + 1 + 1, 0, none⟩) (by simp; omega) (.int .i64 m)).setCell (p := ⟨w.heap.size + 1 + 1, 1, none⟩) (by simp; omega) (.int .i64 n)).setCell (p := ⟨w.heap.size + 1 + 1 + 1, 0, none⟩) (by simp; omega) (.int .i64 0))
  refine leaves_cons (f := 19) (args := #[.pointer (some ⟨w.heap.size + 1 + 1 + 1, 0, none⟩)]) (by simp) (by simp [go_sem]) ?_
  refine (apply1_idle _ _).mono ?_
  rintro e u' w'' ⟨rfl, rfl, rfl⟩
  simp [Leaves, settle, results, Tryd.results9, go_sem, c0, c1, c2]
  exact hB3
 | error c =>
  simp only [Option.some.injEq, Prod.mk.injEq] at h
  obtain ⟨rfl, rfl, rfl⟩ := h
  simp only [endPoint]
  go_wp2
  have hB3 := hBw.setCell (p := ⟨w.heap.size + 1 + 1 + 1, 0, none⟩) (by simp; omega) (.int .i64 c)
  refine leaves_cons (f := 19) (args := #[.pointer (some ⟨w.heap.size + 1 + 1 + 1, 0, none⟩)]) (by simp) (by simp [go_sem]) ?_
  refine (apply1_panicking ⟨w.heap.size + 1 + 1 + 1, 0, none⟩ 0 c _ c2 f2).mono ?_
  rintro e u' w'' ⟨rfl, rfl, rfl⟩
  simp [Leaves, settle, results, Tryd.results9, go_sem, c0, c1, c2]
  exact hB3
def pointillistlaw08_wakes.f (k : Nat)  : Option (Bool) := (affine_Apply.f k 131072 0 0 196608 65536 0 65536 65536).bind fun bt177 => (if (bt177.1 == 196608 && (bt177.2.1 == 196608)) = true then (some (bt177.2.2 == 0)) else (some false))
theorem pointillistlaw08_wakes.mono : ∀ k, LeO (pointillistlaw08_wakes.f k ) (pointillistlaw08_wakes.f (k + 1) ) := by
 intro  k
 unfold pointillistlaw08_wakes.f
 repeat' first
   | (with_reducible exact affine_Apply.mono _ _ _ _ _ _ _ _ _)
   | (with_reducible exact LeO.refl _)
   | (with_reducible exact LeO.none _)
   | (with_reducible refine LeO.ite ?_ ?_)
   | (with_reducible refine LeO.bind ?_ (fun _ => ?_))
   | exact affine_Apply.mono _ _ _ _ _ _ _ _ _
   | exact LeO.none _
   | refine LeO.ite ?_ ?_
   | refine LeO.bind ?_ (fun _ => ?_)
set_option maxHeartbeats 8000000 in
set_option maxRecDepth 100000 in
theorem pointillistlaw08_wakes.calls (k : Nat)  (r : Bool) (w : World) (hG : Gl w) (h : pointillistlaw08_wakes.f k  = some r) :
  Calls Tryd.prog 8 #[] w fun e w' => e = .returned (.bool r) ∧ Below w.heap.size w w' := by
 have hu23 := Tryd.underlying23
 have hu25 := Tryd.underlying25
 have HG := Aside0.mk hG
 clear hG
 have HB := Aside0.mk (Below.refl w.heap.size w)
 have H : ((affine_Apply.f k 131072 0 0 196608 65536 0 65536 65536).bind fun bt177 => (if (bt177.1 == 196608 && (bt177.2.1 == 196608)) = true then (some (bt177.2.2 == 0)) else (some false))) = some r := h
 clear h
 replace H := Option.bind_eq_some_iff.mp H
 obtain ⟨⟨t177, t178, t179⟩, A10, H⟩ := H
 replace H : (if (t177 == 196608 && (t178 == 196608)) = true then (some (t179 == 0)) else (some false)) = some r := H
 have A1 := Aside0.mk A10
 clear A10
 by_cases c2 : (t177 == 196608 && (t178 == 196608)) = true
 ·
  rw [if_pos c2] at H
  have c2b0 : (t177 == 196608 && (t178 == 196608)) = true := c2
  (try (have c2b1 : decide (t177 = 196608 && (t178 == 196608)) = true := by simpa using c2))
  (try (have c2b2 : (t177 == 196608 && (t178 == 196608)) = true := by simpa using c2))
  clear c2
  obtain rfl := Option.some.inj H
  go_enter Tryd.func8, Tryd.ntmps8
  go_wp2_with (first | ((with_reducible refine gate_callee (f := 9) rfl ?_); refine goesL_ (some 6) rfl rfl Tryd.func9 (by kernel_rfl) rfl #[.agg #[.int .i64 131072, .int .i64 0, .int .i64 0, .int .i64 196608, .int .i64 65536, .int .i64 0], .agg #[.int .i64 65536, .int .i64 65536]] rfl (by (try simp only [List.map_toArray, List.map_cons, List.map_nil]); first | done | rfl | (simp only [List.length_drop, List.length_take]; rfl)) ?_; (with_reducible refine (affine_Apply.calls k 131072 0 0 196608 65536 0 65536 65536 t177 t178 t179 _ ?side1 A1.out).mono ?_); (case side1 => exact Gl.below HG.out (wq HB.out)); rintro e w3 ⟨rfl, hb⟩; refine ⟨_, rfl, ?_⟩; have n0_ := Aside0.mk (below_step (wq HB.out) hb); clear HB; have HB := n0_; clear n0_; (try clear hb); (try clear hb2); (try clear hk); (try clear hi)) | ((with_reducible refine gate_dst (N := 1) rfl ?_); refine box_event ?hg (N := 1) ?hd (cs := #[.int .i64 0, .int .i64 0]) (t := 25) ?hr ?_; (case hd => rfl); (case hg => rfl); (case hr => first | (go_simp; done) | (go_simp; rfl)); intro gb180 hg w4 hbox hb; have n0_ := Aside0.mk (below_step (wq HB.out) hb); have n1_ := Aside0.mk (hbox); have n2_ := Aside0.mk ((by rw [hg]; exact (below_size (wq HB.out)) : w.heap.size ≤ gb180)); have n3_ := n2_; clear HB; have HB := n0_; have BK180 := n1_; have GW180 := n2_; have GE180 := n3_; clear n0_ n1_ n2_ n3_ hb hbox hg; have hcz5_0 : w4.cell? ⟨gb180, 0, none⟩ = some (.int .i64 0) := (blk_cell BK180.out 0).trans rfl; have hcz5_1 : w4.cell? ⟨gb180, 1, none⟩ = some (.int .i64 0) := (blk_cell BK180.out 1).trans rfl; have hfz5_0 := blk_frozen BK180.out 0; have hfz5_1 := blk_frozen BK180.out 1))
  go_ret
  exact ⟨by first | rfl | (simp [errW_none, errW_some] <;> rfl) | (simp [*, errW_none, errW_some] <;> rfl), by exact wq HB.out⟩
 ·
  rw [if_neg c2] at H
  have c2b0 : (t177 == 196608 && (t178 == 196608)) = false := by simpa using c2
  (try (have c2b1 : decide (t177 = 196608 && (t178 == 196608)) = false := by simpa using c2))
  (try (have c2b2 : (t177 == 196608 && (t178 == 196608)) = false := by simpa using c2))
  (try (have c2b3 : ¬ (t177 = 196608 && (t178 == 196608)) := by simpa using c2))
  clear c2
  obtain rfl := Option.some.inj H
  go_enter Tryd.func8, Tryd.ntmps8
  go_wp2_with (first | ((with_reducible refine gate_callee (f := 9) rfl ?_); refine goesL_ (some 6) rfl rfl Tryd.func9 (by kernel_rfl) rfl #[.agg #[.int .i64 131072, .int .i64 0, .int .i64 0, .int .i64 196608, .int .i64 65536, .int .i64 0], .agg #[.int .i64 65536, .int .i64 65536]] rfl (by (try simp only [List.map_toArray, List.map_cons, List.map_nil]); first | done | rfl | (simp only [List.length_drop, List.length_take]; rfl)) ?_; (with_reducible refine (affine_Apply.calls k 131072 0 0 196608 65536 0 65536 65536 t177 t178 t179 _ ?side1 A1.out).mono ?_); (case side1 => exact Gl.below HG.out (wq HB.out)); rintro e w6 ⟨rfl, hb⟩; refine ⟨_, rfl, ?_⟩; have n0_ := Aside0.mk (below_step (wq HB.out) hb); clear HB; have HB := n0_; clear n0_; (try clear hb); (try clear hb2); (try clear hk); (try clear hi)) | ((with_reducible refine gate_dst (N := 1) rfl ?_); refine box_event ?hg (N := 1) ?hd (cs := #[.int .i64 0, .int .i64 0]) (t := 25) ?hr ?_; (case hd => rfl); (case hg => rfl); (case hr => first | (go_simp; done) | (go_simp; rfl)); intro gb180 hg w7 hbox hb; have n0_ := Aside0.mk (below_step (wq HB.out) hb); have n1_ := Aside0.mk (hbox); have n2_ := Aside0.mk ((by rw [hg]; exact (below_size (wq HB.out)) : w.heap.size ≤ gb180)); have n3_ := n2_; clear HB; have HB := n0_; have BK180 := n1_; have GW180 := n2_; have GE180 := n3_; clear n0_ n1_ n2_ n3_ hb hbox hg; have hcz8_0 : w7.cell? ⟨gb180, 0, none⟩ = some (.int .i64 0) := (blk_cell BK180.out 0).trans rfl; have hcz8_1 : w7.cell? ⟨gb180, 1, none⟩ = some (.int .i64 0) := (blk_cell BK180.out 1).trans rfl; have hfz8_0 := blk_frozen BK180.out 0; have hfz8_1 := blk_frozen BK180.out 1))
  go_ret
  exact ⟨by first | rfl | (simp [errW_none, errW_some] <;> rfl) | (simp [*, errW_none, errW_some] <;> rfl), by exact wq HB.out⟩
def pointillistref08_In.f (a0 : Int) : Option (Bool) := if a0 > (-4294967296) then (some (decide (a0 < 4294967296))) else (some false)
set_option maxHeartbeats 8000000 in
set_option maxRecDepth 100000 in
theorem pointillistref08_In.calls (a0 : Int) (r : Bool) (w : World) (h : pointillistref08_In.f a0 = some r) :
  Calls Tryd.prog 14 #[.int .i64 a0] w fun e w' => e = .returned (.bool r) ∧ Drawn0 w w' := by
 have H : (if a0 > (-4294967296) then (some (decide (a0 < 4294967296))) else (some false)) = some r := h
 clear h
 by_cases c2 : a0 > (-4294967296)
 ·
  rw [if_pos c2] at H
  have c2b0 : decide ((-4294967296) < a0) = true := decide_eq_true c2
  clear c2
  obtain rfl := Option.some.inj H
  go_enter Tryd.func14, Tryd.ntmps14
  go_wp2
  go_ret
  exact ⟨by first | rfl | (simp; done) | (simp [*]; done), by repeat (first | exact Drawn0.refl _ | apply Drawn0.step)⟩
 ·
  rw [if_neg c2] at H
  have c2b0 : decide ((-4294967296) < a0) = false := decide_eq_false c2
  clear c2
  obtain rfl := Option.some.inj H
  go_enter Tryd.func14, Tryd.ntmps14
  go_wp2
  go_ret
  exact ⟨by first | rfl | (simp; done) | (simp [*]; done), by repeat (first | exact Drawn0.refl _ | apply Drawn0.step)⟩
def pointillistref08_Right.f (a0_0 : Int) (a0_1 : Int) (a0_2 : Int) (a0_3 : Int) (a0_4 : Int) (a0_5 : Int) : Option (Bool) := (pointillistref08_In.f a0_0).bind fun t182 => (if t182 = true then ((pointillistref08_In.f a0_1).bind fun t183 => (if t183 = true then ((pointillistref08_In.f a0_2).bind fun t184 => (if t184 = true then ((pointillistref08_In.f a0_3).bind fun t185 => (if t185 = true then ((pointillistref08_In.f a0_4).bind fun t186 => (if t186 = true then ((pointillistref08_In.f a0_5).bind fun t187 => (some t187)) else (some false))) else (some false))) else (some false))) else (some false))) else (some false))
end Go.Proofs.YtbnjgaeeojcjbaaDoor.PR
