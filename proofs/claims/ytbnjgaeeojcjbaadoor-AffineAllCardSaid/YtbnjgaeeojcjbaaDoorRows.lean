/-
  NARROWER THAN 'FOR EVERY INPUT', by the rows' own cells (each row's printed sentence says how): AffineApplies: laid · AffineMoves: laid · AffineAll: laid · AffineThen: laid · AffineTurns: laid.
  DERIVED. THE GIVEN ROWS OF THIS SEAT. 5 by the template 'for every input the law returns true; each argument reads behind the call as it read before'; 0 by the template 'total and deterministic' (their statements: YtbnjgaeeojcjbaaDoorTotals.lean).
  GIVEN WITH THE SEED: the statements are not yours to turn. If you find one false, say at which input.
  Laid BY PROGRAM, IN A SANDBOX (cutbox-rows.mjs): the forced cells as the released guide's own fill.sh prints them over the translation cfb9b369302a28ce… (all of the seat's roots in one cut). By AI agents, Wed Nov 11 2026. No macro, syntax, notation, axiom, sorry.
-/
import Derived.Test.YtbnjgaeeojcjbaaDoorChecked
import GoSem.Claim
import GoSem.ClaimJoined
import GoSem.ClaimMapViews
import Derived.JoinedTies
import Derived.KernelRfl
namespace Go.Proofs.YtbnjgaeeojcjbaaDoor
/- THE CELL 'sum', in the pinned program and in every row, IS THE sha256 OF THE DUMP (.gsa) THAT YtbnjgaeeojcjbaaDoorProg.lean LOADS. Nothing in Lean hashes anything: it is a label: what it is worth is what the hold of that sum in a sandbox is worth. -/
noncomputable def Tryd.pinned : Pinned := { name := "ytbnjgaeeojcjbaadoor", sum := "cfb9b369302a28ce1f232e9280a82b08e88311210c9645e225d963c54239cf8b", checked := Tryd.checked }
namespace Rows
def none {H : Type} : Left H := { results := [], args := [] }

/- WHAT THE LISTED PACKAGE-LEVEL VARIABLES READ AS WHEN THE CALL BEGINS. Each datum BY PROGRAM (the guide's laid-datum.mjs) off the statement by which the dump's own 'gosem.cut.vars' lays the variable. In a bare row this is a premise. The card (YtbnjgaeeojcjbaaDoorCards.lean) ties it to the program's text. -/
def laid_pointillist_wide_nought {H : Type} : DataW H := .agg [.lit (.int .u64 0), .lit (.int .u64 0)]

/-- 'pointillistlaw08.AffineApplies': WHATEVER THE INPUT: true; the input reads as it did. -/
def affineAppliesSpec : ChangeSpec := { name := "affineApplies", fn := fun _ => fun
  | [d1, d2] => { results := [.lit (.bool true)], args := [d1, d2] }
  | _ => none }
def affineAppliesRow : OpenClaim := { program := "ytbnjgaeeojcjbaadoor", sum := "cfb9b369302a28ce1f232e9280a82b08e88311210c9645e225d963c54239cf8b", func := "pointillist/pointillistlaw08.AffineApplies", spec := "affineApplies", inPlace := ["math/bits.Add64"], unfollowed := true, recurses := true, named := ["pointillist/wide.nought"], apart := false, laid := [("pointillist/wide.nought", laid_pointillist_wide_nought)] }
def AffineAppliesSaid : Prop := affineAppliesRow.holds Tryd.pinned (OpenSpec.ofChange affineAppliesSpec)

/-- ITS FALSE NEIGHBOUR: 'it returns false'. Refute it at one input. -/
def affineAppliesWrong : ChangeSpec := { name := "affineApplies", fn := fun _ => fun
  | [d1, d2] => { results := [.lit (.bool false)], args := [d1, d2] }
  | _ => none }
def AffineAppliesWrongFalsely : Prop := affineAppliesRow.holds Tryd.pinned (OpenSpec.ofChange affineAppliesWrong)

/-- 'pointillistlaw08.AffineMoves': WHATEVER THE INPUT: true; the input reads as it did. -/
def affineMovesSpec : ChangeSpec := { name := "affineMoves", fn := fun _ => fun
  | [d1, d2, d3] => { results := [.lit (.bool true)], args := [d1, d2, d3] }
  | _ => none }
def affineMovesRow : OpenClaim := { program := "ytbnjgaeeojcjbaadoor", sum := "cfb9b369302a28ce1f232e9280a82b08e88311210c9645e225d963c54239cf8b", func := "pointillist/pointillistlaw08.AffineMoves", spec := "affineMoves", inPlace := ["math/bits.Add64"], unfollowed := true, recurses := true, named := ["pointillist/wide.nought"], apart := false, laid := [("pointillist/wide.nought", laid_pointillist_wide_nought)] }
def AffineMovesSaid : Prop := affineMovesRow.holds Tryd.pinned (OpenSpec.ofChange affineMovesSpec)

/-- ITS FALSE NEIGHBOUR: 'it returns false'. Refute it at one input. -/
def affineMovesWrong : ChangeSpec := { name := "affineMoves", fn := fun _ => fun
  | [d1, d2, d3] => { results := [.lit (.bool false)], args := [d1, d2, d3] }
  | _ => none }
def AffineMovesWrongFalsely : Prop := affineMovesRow.holds Tryd.pinned (OpenSpec.ofChange affineMovesWrong)

/-- 'pointillistlaw08.AffineAll': WHATEVER THE INPUT: true; the input reads as it did. -/
def affineAllSpec : ChangeSpec := { name := "affineAll", fn := fun _ => fun
  | [d1, d2] => { results := [.lit (.bool true)], args := [d1, d2] }
  | _ => none }
def affineAllRow : OpenClaim := { program := "ytbnjgaeeojcjbaadoor", sum := "cfb9b369302a28ce1f232e9280a82b08e88311210c9645e225d963c54239cf8b", func := "pointillist/pointillistlaw08.AffineAll", spec := "affineAll", inPlace := ["math/bits.Add64"], unfollowed := true, recurses := true, named := ["pointillist/wide.nought"], apart := false, laid := [("pointillist/wide.nought", laid_pointillist_wide_nought)] }
def AffineAllSaid : Prop := affineAllRow.holds Tryd.pinned (OpenSpec.ofChange affineAllSpec)

/-- ITS FALSE NEIGHBOUR: 'it returns false'. Refute it at one input. -/
def affineAllWrong : ChangeSpec := { name := "affineAll", fn := fun _ => fun
  | [d1, d2] => { results := [.lit (.bool false)], args := [d1, d2] }
  | _ => none }
def AffineAllWrongFalsely : Prop := affineAllRow.holds Tryd.pinned (OpenSpec.ofChange affineAllWrong)

/-- 'pointillistlaw08.AffineThen': WHATEVER THE INPUT: true; the input reads as it did. -/
def affineThenSpec : ChangeSpec := { name := "affineThen", fn := fun _ => fun
  | [d1, d2] => { results := [.lit (.bool true)], args := [d1, d2] }
  | _ => none }
def affineThenRow : OpenClaim := { program := "ytbnjgaeeojcjbaadoor", sum := "cfb9b369302a28ce1f232e9280a82b08e88311210c9645e225d963c54239cf8b", func := "pointillist/pointillistlaw08.AffineThen", spec := "affineThen", inPlace := ["math/bits.Add64"], unfollowed := true, recurses := true, named := ["pointillist/wide.nought"], apart := false, laid := [("pointillist/wide.nought", laid_pointillist_wide_nought)] }
def AffineThenSaid : Prop := affineThenRow.holds Tryd.pinned (OpenSpec.ofChange affineThenSpec)

/-- ITS FALSE NEIGHBOUR: 'it returns false'. Refute it at one input. -/
def affineThenWrong : ChangeSpec := { name := "affineThen", fn := fun _ => fun
  | [d1, d2] => { results := [.lit (.bool false)], args := [d1, d2] }
  | _ => none }
def AffineThenWrongFalsely : Prop := affineThenRow.holds Tryd.pinned (OpenSpec.ofChange affineThenWrong)

/-- 'pointillistlaw08.AffineTurns': WHATEVER THE INPUT: true; the input reads as it did. -/
def affineTurnsSpec : ChangeSpec := { name := "affineTurns", fn := fun _ => fun
  | [d] => { results := [.lit (.bool true)], args := [d] }
  | _ => none }
def affineTurnsRow : OpenClaim := { program := "ytbnjgaeeojcjbaadoor", sum := "cfb9b369302a28ce1f232e9280a82b08e88311210c9645e225d963c54239cf8b", func := "pointillist/pointillistlaw08.AffineTurns", spec := "affineTurns", inPlace := ["math/bits.Add64"], unfollowed := true, recurses := true, named := ["pointillist/wide.nought"], apart := false, laid := [("pointillist/wide.nought", laid_pointillist_wide_nought)] }
def AffineTurnsSaid : Prop := affineTurnsRow.holds Tryd.pinned (OpenSpec.ofChange affineTurnsSpec)

/-- ITS FALSE NEIGHBOUR: 'it returns false'. Refute it at one input. -/
def affineTurnsWrong : ChangeSpec := { name := "affineTurns", fn := fun _ => fun
  | [d] => { results := [.lit (.bool false)], args := [d] }
  | _ => none }
def AffineTurnsWrongFalsely : Prop := affineTurnsRow.holds Tryd.pinned (OpenSpec.ofChange affineTurnsWrong)

/- THE SECOND FORM. 'bulk': how many values and letters a reading holds, each counted each time it is reached (what is shared counts as often as it is met; a slice's spare places count too). A statement '..UptoSaid' is the law's where the arguments, and the package variables that the reading takes, are together of bulk at most 1048576: NARROWER than '..Said'. Prove '..Said' where nothing that the law and all that it calls make is longer than what came in: it says more and counts as full. Else prove '..UptoSaid'. A law counts once. -/
mutual
def uptoBulk {H : Type} : DataW H → Nat
  | .lit (.string bytes) => bytes.length + 1
  | .lit _ => 1
  | .nil => 1
  | .ptr d => uptoBulk d + 1
  | .slice elems spare => uptoBulkAll elems + uptoBulkAll spare + 1
  | .agg parts => uptoBulkAll parts + 1
  | .iface _ d => uptoBulk d + 1
  | .map entries => uptoBulkEntries entries + 1
  | .held _ => 1
def uptoBulkAll {H : Type} : List (DataW H) → Nat
  | [] => 0
  | d :: r => uptoBulk d + uptoBulkAll r
def uptoBulkEntries {H : Type} : List (Lit × DataW H) → Nat
  | [] => 0
  | x :: r => uptoBulkEntry x + uptoBulkEntries r
def uptoBulkEntry {H : Type} : Lit × DataW H → Nat
  | (.string bytes, d) => bytes.length + uptoBulk d + 1
  | (_, d) => uptoBulk d + 1
 end
def uptoSmall : (H : Type) → List (DataW H) → Bool := fun _ ds => decide (uptoBulkAll ds ≤ 1048576)
def OpenSpec.upto (s : _root_.Go.ChangeSpec) : _root_.Go.OpenSpec := { _root_.Go.OpenSpec.ofChange s with cond := some uptoSmall }

/-- 'pointillistlaw08.AffineApplies', WHERE WHAT IT READS IS OF BULK AT MOST 1048576: true; the input reads as it did. -/
def affineAppliesUptoRow : OpenClaim := { program := "ytbnjgaeeojcjbaadoor", sum := "cfb9b369302a28ce1f232e9280a82b08e88311210c9645e225d963c54239cf8b", func := "pointillist/pointillistlaw08.AffineApplies", spec := "affineApplies", inPlace := ["math/bits.Add64"], unfollowed := true, recurses := true, named := ["pointillist/wide.nought"], apart := false, laid := [("pointillist/wide.nought", laid_pointillist_wide_nought)], narrowed := true }
def AffineAppliesUptoSaid : Prop := affineAppliesUptoRow.holds Tryd.pinned (OpenSpec.upto affineAppliesSpec)

/-- 'pointillistlaw08.AffineMoves', WHERE WHAT IT READS IS OF BULK AT MOST 1048576: true; the input reads as it did. -/
def affineMovesUptoRow : OpenClaim := { program := "ytbnjgaeeojcjbaadoor", sum := "cfb9b369302a28ce1f232e9280a82b08e88311210c9645e225d963c54239cf8b", func := "pointillist/pointillistlaw08.AffineMoves", spec := "affineMoves", inPlace := ["math/bits.Add64"], unfollowed := true, recurses := true, named := ["pointillist/wide.nought"], apart := false, laid := [("pointillist/wide.nought", laid_pointillist_wide_nought)], narrowed := true }
def AffineMovesUptoSaid : Prop := affineMovesUptoRow.holds Tryd.pinned (OpenSpec.upto affineMovesSpec)

/-- 'pointillistlaw08.AffineAll', WHERE WHAT IT READS IS OF BULK AT MOST 1048576: true; the input reads as it did. -/
def affineAllUptoRow : OpenClaim := { program := "ytbnjgaeeojcjbaadoor", sum := "cfb9b369302a28ce1f232e9280a82b08e88311210c9645e225d963c54239cf8b", func := "pointillist/pointillistlaw08.AffineAll", spec := "affineAll", inPlace := ["math/bits.Add64"], unfollowed := true, recurses := true, named := ["pointillist/wide.nought"], apart := false, laid := [("pointillist/wide.nought", laid_pointillist_wide_nought)], narrowed := true }
def AffineAllUptoSaid : Prop := affineAllUptoRow.holds Tryd.pinned (OpenSpec.upto affineAllSpec)

/-- 'pointillistlaw08.AffineThen', WHERE WHAT IT READS IS OF BULK AT MOST 1048576: true; the input reads as it did. -/
def affineThenUptoRow : OpenClaim := { program := "ytbnjgaeeojcjbaadoor", sum := "cfb9b369302a28ce1f232e9280a82b08e88311210c9645e225d963c54239cf8b", func := "pointillist/pointillistlaw08.AffineThen", spec := "affineThen", inPlace := ["math/bits.Add64"], unfollowed := true, recurses := true, named := ["pointillist/wide.nought"], apart := false, laid := [("pointillist/wide.nought", laid_pointillist_wide_nought)], narrowed := true }
def AffineThenUptoSaid : Prop := affineThenUptoRow.holds Tryd.pinned (OpenSpec.upto affineThenSpec)

/-- 'pointillistlaw08.AffineTurns', WHERE WHAT IT READS IS OF BULK AT MOST 1048576: true; the input reads as it did. -/
def affineTurnsUptoRow : OpenClaim := { program := "ytbnjgaeeojcjbaadoor", sum := "cfb9b369302a28ce1f232e9280a82b08e88311210c9645e225d963c54239cf8b", func := "pointillist/pointillistlaw08.AffineTurns", spec := "affineTurns", inPlace := ["math/bits.Add64"], unfollowed := true, recurses := true, named := ["pointillist/wide.nought"], apart := false, laid := [("pointillist/wide.nought", laid_pointillist_wide_nought)], narrowed := true }
def AffineTurnsUptoSaid : Prop := affineTurnsUptoRow.holds Tryd.pinned (OpenSpec.upto affineTurnsSpec)

end Rows
end Go.Proofs.YtbnjgaeeojcjbaaDoor
