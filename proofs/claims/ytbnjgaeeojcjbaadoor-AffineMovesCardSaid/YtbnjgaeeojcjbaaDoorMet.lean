/- The listed variable reads as the program's text lays it: so the wide layer's nought is nought. -/
import Derived.Test.YtbnjgaeeojcjbaaDoorRows
import Derived.Test.YtbnjgaeeojcjbaaDoorOpen
import Derived.Test.YtbnjgaeeojcjbaaDoorGl
import Derived.LaidMore
import Derived.Stop.Joined
namespace Go.Proofs.YtbnjgaeeojcjbaaDoor
open Go.ChangeShapes Go.WideShapes Go.ChangeAt Go.RowKit
theorem gNought : Tryd.prog.globalNamed "pointillist/wide.nought" = some 0 := by kernel_rfl
theorem tNought : (Tryd.prog.globals[0]?).map (·.type) = some 69 := by kernel_rfl
theorem of_nought {W : World} (h : laidMetH Tryd.prog [("pointillist/wide.nought", Rows.laid_pointillist_wide_nought)] W) : Gl W := by
  rw [MakeChecks.laidMetH_plain _ _ _ (by kernel_rfl)] at h
  obtain ⟨ps, ⟨g0, t0, cs0, f0, p0, q0, hg0, ht0, hv0, hd0, _, _⟩, _, _⟩ := h
  obtain rfl := Option.some.inj (gNought.symm.trans hg0)
  obtain rfl := Option.some.inj (tNought.symm.trans ht0)
  obtain ⟨ns, hl, hc, _, hx⟩ := trod_struct_ints (k := .u64) Tryd.underlying69 (by kernel_rfl) (by kernel_rfl) hd0
  obtain ⟨a, b, rfl⟩ := list_of_length2 hl
  simp only [Rows.laid_pointillist_wide_nought, List.map_cons, List.map_nil, DataW.agg.injEq, List.cons.injEq, DataW.lit.injEq, Lit.int.injEq, true_and, and_true] at hx
  obtain ⟨rfl, rfl⟩ := hx
  have c : cs0 = #[.int .u64 0, .int .u64 0] := by
    apply Array.ext'
    simpa using hc
  have h0 := World.var?_cell hg0 hv0 0
  have h1 := World.var?_cell hg0 hv0 1
  rw [c] at h0 h1
  exact ⟨by simpa using h0, by simpa using h1⟩
theorem Gl.of_affineApplies {W : World} (h : laidMetH Tryd.prog [("pointillist/wide.nought", Rows.laid_pointillist_wide_nought)] W) : Gl W := of_nought h
theorem Gl.of_affineMoves {W : World} (h : laidMetH Tryd.prog [("pointillist/wide.nought", Rows.laid_pointillist_wide_nought)] W) : Gl W := of_nought h
theorem Gl.of_affineAll {W : World} (h : laidMetH Tryd.prog [("pointillist/wide.nought", Rows.laid_pointillist_wide_nought)] W) : Gl W := of_nought h
theorem Gl.of_affineThen {W : World} (h : laidMetH Tryd.prog [("pointillist/wide.nought", Rows.laid_pointillist_wide_nought)] W) : Gl W := of_nought h
theorem Gl.of_affineTurns {W : World} (h : laidMetH Tryd.prog [("pointillist/wide.nought", Rows.laid_pointillist_wide_nought)] W) : Gl W := of_nought h
end Go.Proofs.YtbnjgaeeojcjbaaDoor
