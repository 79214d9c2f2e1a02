/-
  NARROWER THAN 'FOR EVERY INPUT', by the rows' own cells (each row's printed sentence says how): DecParses: laid · DecNoughts: laid · DecRises: laid · ScanLists: laid · ScanGaps: laid · ScanActs: laid · ScanNever: laid · DecPrints: laid.
  DERIVED. THE GIVEN ROWS OF THIS SEAT. 8 by the template 'for every input the law returns true; each argument reads behind the call as it read before'; 0 by the template 'total and deterministic' (their statements: YtfpnglgipchjhaaDoorTotals.lean).
  GIVEN WITH THE SEED: the statements are not yours to turn. If you find one false, say at which input.
  Laid BY PROGRAM, IN A SANDBOX (cutbox-rows.mjs): the forced cells as the released guide's own fill.sh prints them over the translation 9672f29403b3ebcc… (all of the seat's roots in one cut). By AI agents, Wed Nov 11 2026. No macro, syntax, notation, axiom, sorry.
-/
import Derived.Test.YtfpnglgipchjhaaDoorChecked
import GoSem.Claim
import GoSem.ClaimJoined
import GoSem.ClaimMapViews
import Derived.JoinedTies
import Derived.KernelRfl
namespace Go.Proofs.YtfpnglgipchjhaaDoor
/- THE CELL 'sum', in the pinned program and in every row, IS THE sha256 OF THE DUMP (.gsa) THAT YtfpnglgipchjhaaDoorProg.lean LOADS. Nothing in Lean hashes anything: it is a label: what it is worth is what the hold of that sum in a sandbox is worth. -/
noncomputable def Tryd.pinned : Pinned := { name := "ytfpnglgipchjhaadoor", sum := "9672f29403b3ebcc45e3320718689696eadad32aab20baabd1e84bba35747320", checked := Tryd.checked }
namespace Rows
def none {H : Type} : Left H := { results := [], args := [] }

/- WHAT THE LISTED PACKAGE-LEVEL VARIABLES READ AS WHEN THE CALL BEGINS. Each datum BY PROGRAM (the guide's laid-datum.mjs) off the statement by which the dump's own 'gosem.cut.vars' lays the variable. In a bare row this is a premise. The card (YtfpnglgipchjhaaDoorCards.lean) ties it to the program's text. -/
def laid_pointillist_dec_next {H : Type} : DataW H := .agg [.agg [.lit (.int .i64 2), .lit (.int .i64 3), .lit (.int .i64 0), .lit (.int .i64 1)], .agg [.lit (.int .i64 2), .lit (.int .i64 3), .lit (.int .i64 0), .lit (.int .i64 0)], .agg [.lit (.int .i64 2), .lit (.int .i64 4), .lit (.int .i64 6), .lit (.int .i64 0)], .agg [.lit (.int .i64 5), .lit (.int .i64 0), .lit (.int .i64 0), .lit (.int .i64 0)], .agg [.lit (.int .i64 5), .lit (.int .i64 0), .lit (.int .i64 6), .lit (.int .i64 0)], .agg [.lit (.int .i64 5), .lit (.int .i64 0), .lit (.int .i64 6), .lit (.int .i64 0)], .agg [.lit (.int .i64 8), .lit (.int .i64 0), .lit (.int .i64 0), .lit (.int .i64 7)], .agg [.lit (.int .i64 8), .lit (.int .i64 0), .lit (.int .i64 0), .lit (.int .i64 0)], .agg [.lit (.int .i64 8), .lit (.int .i64 0), .lit (.int .i64 0), .lit (.int .i64 0)]]
def laid_pointillist_dec_ends {H : Type} : DataW H := .agg [.lit (.int .i64 0), .lit (.int .i64 0), .lit (.int .i64 1), .lit (.int .i64 0), .lit (.int .i64 1), .lit (.int .i64 1), .lit (.int .i64 0), .lit (.int .i64 0), .lit (.int .i64 1)]
def laid_pointillist_scan_blanks {H : Type} : DataW H := .agg [.lit (.int .i64 0), .lit (.int .i64 0), .lit (.int .i64 0), .lit (.int .i64 0), .lit (.int .i64 0), .lit (.int .i64 0), .lit (.int .i64 0), .lit (.int .i64 0), .lit (.int .i64 0), .lit (.int .i64 1), .lit (.int .i64 1), .lit (.int .i64 0), .lit (.int .i64 0), .lit (.int .i64 1), .lit (.int .i64 0), .lit (.int .i64 0), .lit (.int .i64 0), .lit (.int .i64 0), .lit (.int .i64 0), .lit (.int .i64 0), .lit (.int .i64 0), .lit (.int .i64 0), .lit (.int .i64 0), .lit (.int .i64 0), .lit (.int .i64 0), .lit (.int .i64 0), .lit (.int .i64 0), .lit (.int .i64 0), .lit (.int .i64 0), .lit (.int .i64 0), .lit (.int .i64 0), .lit (.int .i64 0), .lit (.int .i64 1)]
def laid_math_bits_deBruijn32tab {H : Type} : DataW H := .agg [.lit (.int .u8 0), .lit (.int .u8 1), .lit (.int .u8 28), .lit (.int .u8 2), .lit (.int .u8 29), .lit (.int .u8 14), .lit (.int .u8 24), .lit (.int .u8 3), .lit (.int .u8 30), .lit (.int .u8 22), .lit (.int .u8 20), .lit (.int .u8 15), .lit (.int .u8 25), .lit (.int .u8 17), .lit (.int .u8 4), .lit (.int .u8 8), .lit (.int .u8 31), .lit (.int .u8 27), .lit (.int .u8 13), .lit (.int .u8 23), .lit (.int .u8 21), .lit (.int .u8 19), .lit (.int .u8 16), .lit (.int .u8 7), .lit (.int .u8 26), .lit (.int .u8 12), .lit (.int .u8 18), .lit (.int .u8 6), .lit (.int .u8 11), .lit (.int .u8 5), .lit (.int .u8 10), .lit (.int .u8 9)]
def laid_math_bits_deBruijn64tab {H : Type} : DataW H := .agg [.lit (.int .u8 0), .lit (.int .u8 1), .lit (.int .u8 56), .lit (.int .u8 2), .lit (.int .u8 57), .lit (.int .u8 49), .lit (.int .u8 28), .lit (.int .u8 3), .lit (.int .u8 61), .lit (.int .u8 58), .lit (.int .u8 42), .lit (.int .u8 50), .lit (.int .u8 38), .lit (.int .u8 29), .lit (.int .u8 17), .lit (.int .u8 4), .lit (.int .u8 62), .lit (.int .u8 47), .lit (.int .u8 59), .lit (.int .u8 36), .lit (.int .u8 45), .lit (.int .u8 43), .lit (.int .u8 51), .lit (.int .u8 22), .lit (.int .u8 53), .lit (.int .u8 39), .lit (.int .u8 33), .lit (.int .u8 30), .lit (.int .u8 24), .lit (.int .u8 18), .lit (.int .u8 12), .lit (.int .u8 5), .lit (.int .u8 63), .lit (.int .u8 55), .lit (.int .u8 48), .lit (.int .u8 27), .lit (.int .u8 60), .lit (.int .u8 41), .lit (.int .u8 37), .lit (.int .u8 16), .lit (.int .u8 46), .lit (.int .u8 35), .lit (.int .u8 44), .lit (.int .u8 21), .lit (.int .u8 52), .lit (.int .u8 32), .lit (.int .u8 23), .lit (.int .u8 11), .lit (.int .u8 54), .lit (.int .u8 26), .lit (.int .u8 40), .lit (.int .u8 15), .lit (.int .u8 34), .lit (.int .u8 20), .lit (.int .u8 31), .lit (.int .u8 10), .lit (.int .u8 25), .lit (.int .u8 14), .lit (.int .u8 19), .lit (.int .u8 9), .lit (.int .u8 13), .lit (.int .u8 8), .lit (.int .u8 7), .lit (.int .u8 6)]
def laid_internal_strconv_uint64pow10 {H : Type} : DataW H := .agg [.lit (.int .u64 1), .lit (.int .u64 10), .lit (.int .u64 100), .lit (.int .u64 1000), .lit (.int .u64 10000), .lit (.int .u64 100000), .lit (.int .u64 1000000), .lit (.int .u64 10000000), .lit (.int .u64 100000000), .lit (.int .u64 1000000000), .lit (.int .u64 10000000000), .lit (.int .u64 100000000000), .lit (.int .u64 1000000000000), .lit (.int .u64 10000000000000), .lit (.int .u64 100000000000000), .lit (.int .u64 1000000000000000), .lit (.int .u64 10000000000000000), .lit (.int .u64 100000000000000000), .lit (.int .u64 1000000000000000000), .lit (.int .u64 10000000000000000000)]

/-- 'pointillistlaw04.DecParses': WHATEVER THE INPUT: true; the input reads as it did. -/
def decParsesSpec : ChangeSpec := { name := "decParses", fn := fun _ => fun
  | [d] => { results := [.lit (.bool true)], args := [d] }
  | _ => none }
def decParsesRow : OpenClaim := { program := "ytfpnglgipchjhaadoor", sum := "9672f29403b3ebcc45e3320718689696eadad32aab20baabd1e84bba35747320", func := "pointillist/pointillistlaw04.DecParses", spec := "decParses", named := ["pointillist/dec.next", "pointillist/dec.ends", "math/bits.divideError", "math/bits.overflowError"], apart := false, laid := [("pointillist/dec.next", laid_pointillist_dec_next), ("pointillist/dec.ends", laid_pointillist_dec_ends)] }
def DecParsesSaid : Prop := decParsesRow.holds Tryd.pinned (OpenSpec.ofChange decParsesSpec)

/-- ITS FALSE NEIGHBOUR: 'it returns false'. Refute it at one input. -/
def decParsesWrong : ChangeSpec := { name := "decParses", fn := fun _ => fun
  | [d] => { results := [.lit (.bool false)], args := [d] }
  | _ => none }
def DecParsesWrongFalsely : Prop := decParsesRow.holds Tryd.pinned (OpenSpec.ofChange decParsesWrong)

/-- 'pointillistlaw04.DecNoughts': WHATEVER THE INPUT: true; the input reads as it did. -/
def decNoughtsSpec : ChangeSpec := { name := "decNoughts", fn := fun _ => fun
  | [d1, d2, d3] => { results := [.lit (.bool true)], args := [d1, d2, d3] }
  | _ => none }
def decNoughtsRow : OpenClaim := { program := "ytfpnglgipchjhaadoor", sum := "9672f29403b3ebcc45e3320718689696eadad32aab20baabd1e84bba35747320", func := "pointillist/pointillistlaw04.DecNoughts", spec := "decNoughts", named := ["pointillist/dec.next", "pointillist/dec.ends", "math/bits.divideError", "math/bits.overflowError"], apart := false, laid := [("pointillist/dec.next", laid_pointillist_dec_next), ("pointillist/dec.ends", laid_pointillist_dec_ends)] }
def DecNoughtsSaid : Prop := decNoughtsRow.holds Tryd.pinned (OpenSpec.ofChange decNoughtsSpec)

/-- ITS FALSE NEIGHBOUR: 'it returns false'. Refute it at one input. -/
def decNoughtsWrong : ChangeSpec := { name := "decNoughts", fn := fun _ => fun
  | [d1, d2, d3] => { results := [.lit (.bool false)], args := [d1, d2, d3] }
  | _ => none }
def DecNoughtsWrongFalsely : Prop := decNoughtsRow.holds Tryd.pinned (OpenSpec.ofChange decNoughtsWrong)

/-- 'pointillistlaw04.DecRises': WHATEVER THE INPUT: true; the input reads as it did. -/
def decRisesSpec : ChangeSpec := { name := "decRises", fn := fun _ => fun
  | [d] => { results := [.lit (.bool true)], args := [d] }
  | _ => none }
def decRisesRow : OpenClaim := { program := "ytfpnglgipchjhaadoor", sum := "9672f29403b3ebcc45e3320718689696eadad32aab20baabd1e84bba35747320", func := "pointillist/pointillistlaw04.DecRises", spec := "decRises", named := ["pointillist/dec.next", "pointillist/dec.ends", "math/bits.divideError", "math/bits.overflowError"], apart := false, laid := [("pointillist/dec.next", laid_pointillist_dec_next), ("pointillist/dec.ends", laid_pointillist_dec_ends)] }
def DecRisesSaid : Prop := decRisesRow.holds Tryd.pinned (OpenSpec.ofChange decRisesSpec)

/-- ITS FALSE NEIGHBOUR: 'it returns false'. Refute it at one input. -/
def decRisesWrong : ChangeSpec := { name := "decRises", fn := fun _ => fun
  | [d] => { results := [.lit (.bool false)], args := [d] }
  | _ => none }
def DecRisesWrongFalsely : Prop := decRisesRow.holds Tryd.pinned (OpenSpec.ofChange decRisesWrong)

/-- 'pointillistlaw05.ScanLists': WHATEVER THE INPUT: true; the input reads as it did. -/
def scanListsSpec : ChangeSpec := { name := "scanLists", fn := fun _ => fun
  | [d1, d2] => { results := [.lit (.bool true)], args := [d1, d2] }
  | _ => none }
def scanListsRow : OpenClaim := { program := "ytfpnglgipchjhaadoor", sum := "9672f29403b3ebcc45e3320718689696eadad32aab20baabd1e84bba35747320", func := "pointillist/pointillistlaw05.ScanLists", spec := "scanLists", unfollowed := true, recurses := true, named := ["pointillist/dec.next", "pointillist/dec.ends", "math/bits.divideError", "math/bits.overflowError", "pointillist/scan.blanks"], apart := false, laid := [("pointillist/dec.next", laid_pointillist_dec_next), ("pointillist/dec.ends", laid_pointillist_dec_ends), ("pointillist/scan.blanks", laid_pointillist_scan_blanks)] }
def ScanListsSaid : Prop := scanListsRow.holds Tryd.pinned (OpenSpec.ofChange scanListsSpec)

/-- ITS FALSE NEIGHBOUR: 'it returns false'. Refute it at one input. -/
def scanListsWrong : ChangeSpec := { name := "scanLists", fn := fun _ => fun
  | [d1, d2] => { results := [.lit (.bool false)], args := [d1, d2] }
  | _ => none }
def ScanListsWrongFalsely : Prop := scanListsRow.holds Tryd.pinned (OpenSpec.ofChange scanListsWrong)

/-- 'pointillistlaw05.ScanGaps': WHATEVER THE INPUT: true; the input reads as it did. -/
def scanGapsSpec : ChangeSpec := { name := "scanGaps", fn := fun _ => fun
  | [d] => { results := [.lit (.bool true)], args := [d] }
  | _ => none }
def scanGapsRow : OpenClaim := { program := "ytfpnglgipchjhaadoor", sum := "9672f29403b3ebcc45e3320718689696eadad32aab20baabd1e84bba35747320", func := "pointillist/pointillistlaw05.ScanGaps", spec := "scanGaps", unfollowed := true, recurses := true, named := ["pointillist/dec.next", "pointillist/dec.ends", "math/bits.divideError", "math/bits.overflowError", "pointillist/scan.blanks"], apart := false, laid := [("pointillist/dec.next", laid_pointillist_dec_next), ("pointillist/dec.ends", laid_pointillist_dec_ends), ("pointillist/scan.blanks", laid_pointillist_scan_blanks)] }
def ScanGapsSaid : Prop := scanGapsRow.holds Tryd.pinned (OpenSpec.ofChange scanGapsSpec)

/-- ITS FALSE NEIGHBOUR: 'it returns false'. Refute it at one input. -/
def scanGapsWrong : ChangeSpec := { name := "scanGaps", fn := fun _ => fun
  | [d] => { results := [.lit (.bool false)], args := [d] }
  | _ => none }
def ScanGapsWrongFalsely : Prop := scanGapsRow.holds Tryd.pinned (OpenSpec.ofChange scanGapsWrong)

/-- 'pointillistlaw05.ScanActs': WHATEVER THE INPUT: true; the input reads as it did. -/
def scanActsSpec : ChangeSpec := { name := "scanActs", fn := fun _ => fun
  | [d1, d2] => { results := [.lit (.bool true)], args := [d1, d2] }
  | _ => none }
def scanActsRow : OpenClaim := { program := "ytfpnglgipchjhaadoor", sum := "9672f29403b3ebcc45e3320718689696eadad32aab20baabd1e84bba35747320", func := "pointillist/pointillistlaw05.ScanActs", spec := "scanActs", unfollowed := true, recurses := true, named := ["pointillist/dec.next", "pointillist/dec.ends", "math/bits.divideError", "math/bits.overflowError", "pointillist/scan.blanks"], apart := false, laid := [("pointillist/dec.next", laid_pointillist_dec_next), ("pointillist/dec.ends", laid_pointillist_dec_ends), ("pointillist/scan.blanks", laid_pointillist_scan_blanks)] }
def ScanActsSaid : Prop := scanActsRow.holds Tryd.pinned (OpenSpec.ofChange scanActsSpec)

/-- ITS FALSE NEIGHBOUR: 'it returns false'. Refute it at one input. -/
def scanActsWrong : ChangeSpec := { name := "scanActs", fn := fun _ => fun
  | [d1, d2] => { results := [.lit (.bool false)], args := [d1, d2] }
  | _ => none }
def ScanActsWrongFalsely : Prop := scanActsRow.holds Tryd.pinned (OpenSpec.ofChange scanActsWrong)

/-- 'pointillistlaw05.ScanNever': WHATEVER THE INPUT: true; the input reads as it did. -/
def scanNeverSpec : ChangeSpec := { name := "scanNever", fn := fun _ => fun
  | [d1, d2] => { results := [.lit (.bool true)], args := [d1, d2] }
  | _ => none }
def scanNeverRow : OpenClaim := { program := "ytfpnglgipchjhaadoor", sum := "9672f29403b3ebcc45e3320718689696eadad32aab20baabd1e84bba35747320", func := "pointillist/pointillistlaw05.ScanNever", spec := "scanNever", unfollowed := true, recurses := true, named := ["pointillist/dec.next", "pointillist/dec.ends", "math/bits.divideError", "math/bits.overflowError", "pointillist/scan.blanks"], apart := false, laid := [("pointillist/dec.next", laid_pointillist_dec_next), ("pointillist/dec.ends", laid_pointillist_dec_ends), ("pointillist/scan.blanks", laid_pointillist_scan_blanks)] }
def ScanNeverSaid : Prop := scanNeverRow.holds Tryd.pinned (OpenSpec.ofChange scanNeverSpec)

/-- ITS FALSE NEIGHBOUR: 'it returns false'. Refute it at one input. -/
def scanNeverWrong : ChangeSpec := { name := "scanNever", fn := fun _ => fun
  | [d1, d2] => { results := [.lit (.bool false)], args := [d1, d2] }
  | _ => none }
def ScanNeverWrongFalsely : Prop := scanNeverRow.holds Tryd.pinned (OpenSpec.ofChange scanNeverWrong)

/-- 'pointillistlaw04.DecPrints': WHATEVER THE INPUT: true; the input reads as it did. -/
def decPrintsSpec : ChangeSpec := { name := "decPrints", fn := fun _ => fun
  | [d] => { results := [.lit (.bool true)], args := [d] }
  | _ => none }
def decPrintsRow : OpenClaim := { program := "ytfpnglgipchjhaadoor", sum := "9672f29403b3ebcc45e3320718689696eadad32aab20baabd1e84bba35747320", func := "pointillist/pointillistlaw04.DecPrints", spec := "decPrints", named := ["pointillist/dec.next", "pointillist/dec.ends", "math/bits.divideError", "math/bits.overflowError", "internal/strconv.uint64pow10", "math/bits.deBruijn32tab", "math/bits.deBruijn64tab"], apart := false, laid := [("math/bits.deBruijn32tab", laid_math_bits_deBruijn32tab), ("math/bits.deBruijn64tab", laid_math_bits_deBruijn64tab), ("internal/strconv.uint64pow10", laid_internal_strconv_uint64pow10), ("pointillist/dec.next", laid_pointillist_dec_next), ("pointillist/dec.ends", laid_pointillist_dec_ends)] }
def DecPrintsSaid : Prop := decPrintsRow.holds Tryd.pinned (OpenSpec.ofChange decPrintsSpec)

/-- ITS FALSE NEIGHBOUR: 'it returns false'. Refute it at one input. -/
def decPrintsWrong : ChangeSpec := { name := "decPrints", fn := fun _ => fun
  | [d] => { results := [.lit (.bool false)], args := [d] }
  | _ => none }
def DecPrintsWrongFalsely : Prop := decPrintsRow.holds Tryd.pinned (OpenSpec.ofChange decPrintsWrong)

/- THE SECOND FORM. 'bulk': how many values and letters a reading holds, each counted each time it is reached (what is shared counts as often as it is met; a slice's spare places count too). A statement '..UptoSaid' is the law's where the arguments, and the package variables that the reading takes, are together of bulk at most 1048576: NARROWER than '..Said'. Prove '..Said' where nothing that the law and all that it calls make is longer than what came in: it says more and counts as full. Else prove '..UptoSaid'. A law counts once. -/
mutual
def uptoBulk {H : Type} : DataW H → Nat
  | .lit (.string bytes) => bytes.length + 1
  | .lit _ => 1
  | .nil => 1
  | .ptr d => uptoBulk d + 1
  | .slice elems spare => uptoBulkAll elems + uptoBulkAll spare + 1
  | .agg parts => uptoBulkAll parts + 1
  | .iface _ d => uptoBulk d + 1
  | .map entries => uptoBulkEntries entries + 1
  | .held _ => 1
def uptoBulkAll {H : Type} : List (DataW H) → Nat
  | [] => 0
  | d :: r => uptoBulk d + uptoBulkAll r
def uptoBulkEntries {H : Type} : List (Lit × DataW H) → Nat
  | [] => 0
  | x :: r => uptoBulkEntry x + uptoBulkEntries r
def uptoBulkEntry {H : Type} : Lit × DataW H → Nat
  | (.string bytes, d) => bytes.length + uptoBulk d + 1
  | (_, d) => uptoBulk d + 1
 end
def uptoSmall : (H : Type) → List (DataW H) → Bool := fun _ ds => decide (uptoBulkAll ds ≤ 1048576)
def OpenSpec.upto (s : _root_.Go.ChangeSpec) : _root_.Go.OpenSpec := { _root_.Go.OpenSpec.ofChange s with cond := some uptoSmall }

/-- 'pointillistlaw04.DecParses', WHERE WHAT IT READS IS OF BULK AT MOST 1048576: true; the input reads as it did. -/
def decParsesUptoRow : OpenClaim := { program := "ytfpnglgipchjhaadoor", sum := "9672f29403b3ebcc45e3320718689696eadad32aab20baabd1e84bba35747320", func := "pointillist/pointillistlaw04.DecParses", spec := "decParses", named := ["pointillist/dec.next", "pointillist/dec.ends", "math/bits.divideError", "math/bits.overflowError"], apart := false, laid := [("pointillist/dec.next", laid_pointillist_dec_next), ("pointillist/dec.ends", laid_pointillist_dec_ends)], narrowed := true }
def DecParsesUptoSaid : Prop := decParsesUptoRow.holds Tryd.pinned (OpenSpec.upto decParsesSpec)

/-- 'pointillistlaw04.DecNoughts', WHERE WHAT IT READS IS OF BULK AT MOST 1048576: true; the input reads as it did. -/
def decNoughtsUptoRow : OpenClaim := { program := "ytfpnglgipchjhaadoor", sum := "9672f29403b3ebcc45e3320718689696eadad32aab20baabd1e84bba35747320", func := "pointillist/pointillistlaw04.DecNoughts", spec := "decNoughts", named := ["pointillist/dec.next", "pointillist/dec.ends", "math/bits.divideError", "math/bits.overflowError"], apart := false, laid := [("pointillist/dec.next", laid_pointillist_dec_next), ("pointillist/dec.ends", laid_pointillist_dec_ends)], narrowed := true }
def DecNoughtsUptoSaid : Prop := decNoughtsUptoRow.holds Tryd.pinned (OpenSpec.upto decNoughtsSpec)

/-- 'pointillistlaw04.DecRises', WHERE WHAT IT READS IS OF BULK AT MOST 1048576: true; the input reads as it did. -/
def decRisesUptoRow : OpenClaim := { program := "ytfpnglgipchjhaadoor", sum := "9672f29403b3ebcc45e3320718689696eadad32aab20baabd1e84bba35747320", func := "pointillist/pointillistlaw04.DecRises", spec := "decRises", named := ["pointillist/dec.next", "pointillist/dec.ends", "math/bits.divideError", "math/bits.overflowError"], apart := false, laid := [("pointillist/dec.next", laid_pointillist_dec_next), ("pointillist/dec.ends", laid_pointillist_dec_ends)], narrowed := true }
def DecRisesUptoSaid : Prop := decRisesUptoRow.holds Tryd.pinned (OpenSpec.upto decRisesSpec)

/-- 'pointillistlaw05.ScanLists', WHERE WHAT IT READS IS OF BULK AT MOST 1048576: true; the input reads as it did. -/
def scanListsUptoRow : OpenClaim := { program := "ytfpnglgipchjhaadoor", sum := "9672f29403b3ebcc45e3320718689696eadad32aab20baabd1e84bba35747320", func := "pointillist/pointillistlaw05.ScanLists", spec := "scanLists", unfollowed := true, recurses := true, named := ["pointillist/dec.next", "pointillist/dec.ends", "math/bits.divideError", "math/bits.overflowError", "pointillist/scan.blanks"], apart := false, laid := [("pointillist/dec.next", laid_pointillist_dec_next), ("pointillist/dec.ends", laid_pointillist_dec_ends), ("pointillist/scan.blanks", laid_pointillist_scan_blanks)], narrowed := true }
def ScanListsUptoSaid : Prop := scanListsUptoRow.holds Tryd.pinned (OpenSpec.upto scanListsSpec)

/-- 'pointillistlaw05.ScanGaps', WHERE WHAT IT READS IS OF BULK AT MOST 1048576: true; the input reads as it did. -/
def scanGapsUptoRow : OpenClaim := { program := "ytfpnglgipchjhaadoor", sum := "9672f29403b3ebcc45e3320718689696eadad32aab20baabd1e84bba35747320", func := "pointillist/pointillistlaw05.ScanGaps", spec := "scanGaps", unfollowed := true, recurses := true, named := ["pointillist/dec.next", "pointillist/dec.ends", "math/bits.divideError", "math/bits.overflowError", "pointillist/scan.blanks"], apart := false, laid := [("pointillist/dec.next", laid_pointillist_dec_next), ("pointillist/dec.ends", laid_pointillist_dec_ends), ("pointillist/scan.blanks", laid_pointillist_scan_blanks)], narrowed := true }
def ScanGapsUptoSaid : Prop := scanGapsUptoRow.holds Tryd.pinned (OpenSpec.upto scanGapsSpec)

/-- 'pointillistlaw05.ScanActs', WHERE WHAT IT READS IS OF BULK AT MOST 1048576: true; the input reads as it did. -/
def scanActsUptoRow : OpenClaim := { program := "ytfpnglgipchjhaadoor", sum := "9672f29403b3ebcc45e3320718689696eadad32aab20baabd1e84bba35747320", func := "pointillist/pointillistlaw05.ScanActs", spec := "scanActs", unfollowed := true, recurses := true, named := ["pointillist/dec.next", "pointillist/dec.ends", "math/bits.divideError", "math/bits.overflowError", "pointillist/scan.blanks"], apart := false, laid := [("pointillist/dec.next", laid_pointillist_dec_next), ("pointillist/dec.ends", laid_pointillist_dec_ends), ("pointillist/scan.blanks", laid_pointillist_scan_blanks)], narrowed := true }
def ScanActsUptoSaid : Prop := scanActsUptoRow.holds Tryd.pinned (OpenSpec.upto scanActsSpec)

/-- 'pointillistlaw05.ScanNever', WHERE WHAT IT READS IS OF BULK AT MOST 1048576: true; the input reads as it did. -/
def scanNeverUptoRow : OpenClaim := { program := "ytfpnglgipchjhaadoor", sum := "9672f29403b3ebcc45e3320718689696eadad32aab20baabd1e84bba35747320", func := "pointillist/pointillistlaw05.ScanNever", spec := "scanNever", unfollowed := true, recurses := true, named := ["pointillist/dec.next", "pointillist/dec.ends", "math/bits.divideError", "math/bits.overflowError", "pointillist/scan.blanks"], apart := false, laid := [("pointillist/dec.next", laid_pointillist_dec_next), ("pointillist/dec.ends", laid_pointillist_dec_ends), ("pointillist/scan.blanks", laid_pointillist_scan_blanks)], narrowed := true }
def ScanNeverUptoSaid : Prop := scanNeverUptoRow.holds Tryd.pinned (OpenSpec.upto scanNeverSpec)

/-- 'pointillistlaw04.DecPrints', WHERE WHAT IT READS IS OF BULK AT MOST 1048576: true; the input reads as it did. -/
def decPrintsUptoRow : OpenClaim := { program := "ytfpnglgipchjhaadoor", sum := "9672f29403b3ebcc45e3320718689696eadad32aab20baabd1e84bba35747320", func := "pointillist/pointillistlaw04.DecPrints", spec := "decPrints", named := ["pointillist/dec.next", "pointillist/dec.ends", "math/bits.divideError", "math/bits.overflowError", "internal/strconv.uint64pow10", "math/bits.deBruijn32tab", "math/bits.deBruijn64tab"], apart := false, laid := [("math/bits.deBruijn32tab", laid_math_bits_deBruijn32tab), ("math/bits.deBruijn64tab", laid_math_bits_deBruijn64tab), ("internal/strconv.uint64pow10", laid_internal_strconv_uint64pow10), ("pointillist/dec.next", laid_pointillist_dec_next), ("pointillist/dec.ends", laid_pointillist_dec_ends)], narrowed := true }
def DecPrintsUptoSaid : Prop := decPrintsUptoRow.holds Tryd.pinned (OpenSpec.upto decPrintsSpec)

end Rows
end Go.Proofs.YtfpnglgipchjhaaDoor
