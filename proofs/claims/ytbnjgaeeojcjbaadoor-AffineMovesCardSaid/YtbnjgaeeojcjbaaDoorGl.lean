/- The package-level variable that the wide layer reads: what it holds, as a fact on a world. -/
import Derived.Test.YtbnjgaeeojcjbaaDoorExt
namespace Go.Proofs.YtbnjgaeeojcjbaaDoor
open Go.RowKit Go.Proofs.YtbnjgaeeojcjbaaDoorW.PrintWords
structure Gl (w : World) : Prop where
  c0_0 : w.cell? ⟨0, 0, none⟩ = some (.int .u64 0)
  c0_1 : w.cell? ⟨0, 1, none⟩ = some (.int .u64 0)
theorem Gl.below {w w' : World} (h : Gl w) (hb : Below w.heap.size w w') : Gl w' :=
  ⟨(hb.cell (World.block_lt_of_cell? _ _ h.1)).trans h.1, (hb.cell (World.block_lt_of_cell? _ _ h.2)).trans h.2⟩
theorem Gl.drawn {w w' : World} (h : Gl w) (hd : Drawn0 w w') : Gl w' := h.below hd.below
end Go.Proofs.YtbnjgaeeojcjbaaDoor
