/-
  NARROWER THAN 'FOR EVERY INPUT', by the rows' own cells (each row's printed sentence says how): BagSums: laid · BagMeans: laid · BagGroupsTurn: laid · BagGroupsInside: laid · BagOneList: laid · BagPages: laid · BagParts: laid · BagGroupsCover: laid.
  DERIVED. THE GIVEN ROWS OF THIS SEAT. 8 by the template 'for every input the law returns true; each argument reads behind the call as it read before'; 0 by the template 'total and deterministic' (their statements: YtecgkcgfeghhgaaDoorTotals.lean).
  GIVEN WITH THE SEED: the statements are not yours to turn. If you find one false, say at which input.
  Laid BY PROGRAM, IN A SANDBOX (cutbox-rows.mjs): the forced cells as the released guide's own fill.sh prints them over the translation 8be6bd3cbb3e9f25… (all of the seat's roots in one cut). By AI agents, Wed Nov 11 2026. No macro, syntax, notation, axiom, sorry.
-/
import Derived.Test.YtecgkcgfeghhgaaDoorChecked
import GoSem.Claim
import GoSem.ClaimJoined
import GoSem.ClaimMapViews
import Derived.JoinedTies
import Derived.KernelRfl
namespace Go.Proofs.YtecgkcgfeghhgaaDoor
/- THE CELL 'sum', in the pinned program and in every row, IS THE sha256 OF THE DUMP (.gsa) THAT YtecgkcgfeghhgaaDoorProg.lean LOADS. Nothing in Lean hashes anything: it is a label: what it is worth is what the hold of that sum in a sandbox is worth. -/
noncomputable def Tryd.pinned : Pinned := { name := "ytecgkcgfeghhgaadoor", sum := "8be6bd3cbb3e9f253b85e98ad3765784888cfedc35f3fc88120f9d0ba826e027", checked := Tryd.checked }
namespace Rows
def none {H : Type} : Left H := { results := [], args := [] }

/- WHAT THE LISTED PACKAGE-LEVEL VARIABLES READ AS WHEN THE CALL BEGINS. Each datum BY PROGRAM (the guide's laid-datum.mjs) off the statement by which the dump's own 'gosem.cut.vars' lays the variable. In a bare row this is a premise. The card (YtecgkcgfeghhgaaDoorCards.lean) ties it to the program's text. -/
def laid_math_bits_deBruijn32tab {H : Type} : DataW H := .agg [.lit (.int .u8 0), .lit (.int .u8 1), .lit (.int .u8 28), .lit (.int .u8 2), .lit (.int .u8 29), .lit (.int .u8 14), .lit (.int .u8 24), .lit (.int .u8 3), .lit (.int .u8 30), .lit (.int .u8 22), .lit (.int .u8 20), .lit (.int .u8 15), .lit (.int .u8 25), .lit (.int .u8 17), .lit (.int .u8 4), .lit (.int .u8 8), .lit (.int .u8 31), .lit (.int .u8 27), .lit (.int .u8 13), .lit (.int .u8 23), .lit (.int .u8 21), .lit (.int .u8 19), .lit (.int .u8 16), .lit (.int .u8 7), .lit (.int .u8 26), .lit (.int .u8 12), .lit (.int .u8 18), .lit (.int .u8 6), .lit (.int .u8 11), .lit (.int .u8 5), .lit (.int .u8 10), .lit (.int .u8 9)]
def laid_math_bits_deBruijn64tab {H : Type} : DataW H := .agg [.lit (.int .u8 0), .lit (.int .u8 1), .lit (.int .u8 56), .lit (.int .u8 2), .lit (.int .u8 57), .lit (.int .u8 49), .lit (.int .u8 28), .lit (.int .u8 3), .lit (.int .u8 61), .lit (.int .u8 58), .lit (.int .u8 42), .lit (.int .u8 50), .lit (.int .u8 38), .lit (.int .u8 29), .lit (.int .u8 17), .lit (.int .u8 4), .lit (.int .u8 62), .lit (.int .u8 47), .lit (.int .u8 59), .lit (.int .u8 36), .lit (.int .u8 45), .lit (.int .u8 43), .lit (.int .u8 51), .lit (.int .u8 22), .lit (.int .u8 53), .lit (.int .u8 39), .lit (.int .u8 33), .lit (.int .u8 30), .lit (.int .u8 24), .lit (.int .u8 18), .lit (.int .u8 12), .lit (.int .u8 5), .lit (.int .u8 63), .lit (.int .u8 55), .lit (.int .u8 48), .lit (.int .u8 27), .lit (.int .u8 60), .lit (.int .u8 41), .lit (.int .u8 37), .lit (.int .u8 16), .lit (.int .u8 46), .lit (.int .u8 35), .lit (.int .u8 44), .lit (.int .u8 21), .lit (.int .u8 52), .lit (.int .u8 32), .lit (.int .u8 23), .lit (.int .u8 11), .lit (.int .u8 54), .lit (.int .u8 26), .lit (.int .u8 40), .lit (.int .u8 15), .lit (.int .u8 34), .lit (.int .u8 20), .lit (.int .u8 31), .lit (.int .u8 10), .lit (.int .u8 25), .lit (.int .u8 14), .lit (.int .u8 19), .lit (.int .u8 9), .lit (.int .u8 13), .lit (.int .u8 8), .lit (.int .u8 7), .lit (.int .u8 6)]
def laid_internal_strconv_uint64pow10 {H : Type} : DataW H := .agg [.lit (.int .u64 1), .lit (.int .u64 10), .lit (.int .u64 100), .lit (.int .u64 1000), .lit (.int .u64 10000), .lit (.int .u64 100000), .lit (.int .u64 1000000), .lit (.int .u64 10000000), .lit (.int .u64 100000000), .lit (.int .u64 1000000000), .lit (.int .u64 10000000000), .lit (.int .u64 100000000000), .lit (.int .u64 1000000000000), .lit (.int .u64 10000000000000), .lit (.int .u64 100000000000000), .lit (.int .u64 1000000000000000), .lit (.int .u64 10000000000000000), .lit (.int .u64 100000000000000000), .lit (.int .u64 1000000000000000000), .lit (.int .u64 10000000000000000000)]

/-- 'jointerlaw06.BagSums': WHATEVER THE INPUT: true; the input reads as it did. -/
def bagSumsSpec : ChangeSpec := { name := "bagSums", fn := fun _ => fun
  | [d1, d2, d3, d4] => { results := [.lit (.bool true)], args := [d1, d2, d3, d4] }
  | _ => none }
def bagSumsRow : OpenClaim := { program := "ytecgkcgfeghhgaadoor", sum := "8be6bd3cbb3e9f253b85e98ad3765784888cfedc35f3fc88120f9d0ba826e027", func := "jointer/jointerlaw06.BagSums", spec := "bagSums", inPlace := ["internal/abi.NoEscape", "internal/bytealg.abigen_runtime_cmpstring"], unfollowed := true, recurses := true, named := ["internal/strconv.uint64pow10", "math/bits.deBruijn32tab", "math/bits.deBruijn64tab"], apart := false, laid := [("math/bits.deBruijn32tab", laid_math_bits_deBruijn32tab), ("math/bits.deBruijn64tab", laid_math_bits_deBruijn64tab), ("internal/strconv.uint64pow10", laid_internal_strconv_uint64pow10)] }
def BagSumsSaid : Prop := bagSumsRow.holds Tryd.pinned (OpenSpec.ofChange bagSumsSpec)

/-- ITS FALSE NEIGHBOUR: 'it returns false'. Refute it at one input. -/
def bagSumsWrong : ChangeSpec := { name := "bagSums", fn := fun _ => fun
  | [d1, d2, d3, d4] => { results := [.lit (.bool false)], args := [d1, d2, d3, d4] }
  | _ => none }
def BagSumsWrongFalsely : Prop := bagSumsRow.holds Tryd.pinned (OpenSpec.ofChange bagSumsWrong)

/-- 'jointerlaw06.BagMeans': WHATEVER THE INPUT: true; the input reads as it did. -/
def bagMeansSpec : ChangeSpec := { name := "bagMeans", fn := fun _ => fun
  | [d1, d2] => { results := [.lit (.bool true)], args := [d1, d2] }
  | _ => none }
def bagMeansRow : OpenClaim := { program := "ytecgkcgfeghhgaadoor", sum := "8be6bd3cbb3e9f253b85e98ad3765784888cfedc35f3fc88120f9d0ba826e027", func := "jointer/jointerlaw06.BagMeans", spec := "bagMeans", inPlace := ["internal/abi.NoEscape", "internal/bytealg.abigen_runtime_cmpstring"], unfollowed := true, recurses := true, named := ["internal/strconv.uint64pow10", "math/bits.deBruijn32tab", "math/bits.deBruijn64tab"], apart := false, laid := [("math/bits.deBruijn32tab", laid_math_bits_deBruijn32tab), ("math/bits.deBruijn64tab", laid_math_bits_deBruijn64tab), ("internal/strconv.uint64pow10", laid_internal_strconv_uint64pow10)] }
def BagMeansSaid : Prop := bagMeansRow.holds Tryd.pinned (OpenSpec.ofChange bagMeansSpec)

/-- ITS FALSE NEIGHBOUR: 'it returns false'. Refute it at one input. -/
def bagMeansWrong : ChangeSpec := { name := "bagMeans", fn := fun _ => fun
  | [d1, d2] => { results := [.lit (.bool false)], args := [d1, d2] }
  | _ => none }
def BagMeansWrongFalsely : Prop := bagMeansRow.holds Tryd.pinned (OpenSpec.ofChange bagMeansWrong)

/-- 'jointerlaw06.BagGroupsTurn': WHATEVER THE INPUT: true; the input reads as it did. -/
def bagGroupsTurnSpec : ChangeSpec := { name := "bagGroupsTurn", fn := fun _ => fun
  | [d1, d2, d3, d4] => { results := [.lit (.bool true)], args := [d1, d2, d3, d4] }
  | _ => none }
def bagGroupsTurnRow : OpenClaim := { program := "ytecgkcgfeghhgaadoor", sum := "8be6bd3cbb3e9f253b85e98ad3765784888cfedc35f3fc88120f9d0ba826e027", func := "jointer/jointerlaw06.BagGroupsTurn", spec := "bagGroupsTurn", inPlace := ["internal/abi.NoEscape", "internal/bytealg.abigen_runtime_cmpstring"], unfollowed := true, recurses := true, named := ["internal/strconv.uint64pow10", "math/bits.deBruijn32tab", "math/bits.deBruijn64tab"], apart := false, laid := [("math/bits.deBruijn32tab", laid_math_bits_deBruijn32tab), ("math/bits.deBruijn64tab", laid_math_bits_deBruijn64tab), ("internal/strconv.uint64pow10", laid_internal_strconv_uint64pow10)] }
def BagGroupsTurnSaid : Prop := bagGroupsTurnRow.holds Tryd.pinned (OpenSpec.ofChange bagGroupsTurnSpec)

/-- ITS FALSE NEIGHBOUR: 'it returns false'. Refute it at one input. -/
def bagGroupsTurnWrong : ChangeSpec := { name := "bagGroupsTurn", fn := fun _ => fun
  | [d1, d2, d3, d4] => { results := [.lit (.bool false)], args := [d1, d2, d3, d4] }
  | _ => none }
def BagGroupsTurnWrongFalsely : Prop := bagGroupsTurnRow.holds Tryd.pinned (OpenSpec.ofChange bagGroupsTurnWrong)

/-- 'jointerlaw06.BagGroupsInside': WHATEVER THE INPUT: true; the input reads as it did. -/
def bagGroupsInsideSpec : ChangeSpec := { name := "bagGroupsInside", fn := fun _ => fun
  | [d1, d2, d3, d4] => { results := [.lit (.bool true)], args := [d1, d2, d3, d4] }
  | _ => none }
def bagGroupsInsideRow : OpenClaim := { program := "ytecgkcgfeghhgaadoor", sum := "8be6bd3cbb3e9f253b85e98ad3765784888cfedc35f3fc88120f9d0ba826e027", func := "jointer/jointerlaw06.BagGroupsInside", spec := "bagGroupsInside", inPlace := ["internal/abi.NoEscape", "internal/bytealg.abigen_runtime_cmpstring"], unfollowed := true, recurses := true, named := ["internal/strconv.uint64pow10", "math/bits.deBruijn32tab", "math/bits.deBruijn64tab"], apart := false, laid := [("math/bits.deBruijn32tab", laid_math_bits_deBruijn32tab), ("math/bits.deBruijn64tab", laid_math_bits_deBruijn64tab), ("internal/strconv.uint64pow10", laid_internal_strconv_uint64pow10)] }
def BagGroupsInsideSaid : Prop := bagGroupsInsideRow.holds Tryd.pinned (OpenSpec.ofChange bagGroupsInsideSpec)

/-- ITS FALSE NEIGHBOUR: 'it returns false'. Refute it at one input. -/
def bagGroupsInsideWrong : ChangeSpec := { name := "bagGroupsInside", fn := fun _ => fun
  | [d1, d2, d3, d4] => { results := [.lit (.bool false)], args := [d1, d2, d3, d4] }
  | _ => none }
def BagGroupsInsideWrongFalsely : Prop := bagGroupsInsideRow.holds Tryd.pinned (OpenSpec.ofChange bagGroupsInsideWrong)

/-- 'jointerlaw06.BagOneList': WHATEVER THE INPUT: true; the input reads as it did. -/
def bagOneListSpec : ChangeSpec := { name := "bagOneList", fn := fun _ => fun
  | [d1, d2, d3, d4] => { results := [.lit (.bool true)], args := [d1, d2, d3, d4] }
  | _ => none }
def bagOneListRow : OpenClaim := { program := "ytecgkcgfeghhgaadoor", sum := "8be6bd3cbb3e9f253b85e98ad3765784888cfedc35f3fc88120f9d0ba826e027", func := "jointer/jointerlaw06.BagOneList", spec := "bagOneList", inPlace := ["internal/bytealg.abigen_runtime_cmpstring", "internal/abi.NoEscape"], unfollowed := true, recurses := true, named := ["internal/strconv.uint64pow10", "math/bits.deBruijn32tab", "math/bits.deBruijn64tab"], apart := false, laid := [("math/bits.deBruijn32tab", laid_math_bits_deBruijn32tab), ("math/bits.deBruijn64tab", laid_math_bits_deBruijn64tab), ("internal/strconv.uint64pow10", laid_internal_strconv_uint64pow10)] }
def BagOneListSaid : Prop := bagOneListRow.holds Tryd.pinned (OpenSpec.ofChange bagOneListSpec)

/-- ITS FALSE NEIGHBOUR: 'it returns false'. Refute it at one input. -/
def bagOneListWrong : ChangeSpec := { name := "bagOneList", fn := fun _ => fun
  | [d1, d2, d3, d4] => { results := [.lit (.bool false)], args := [d1, d2, d3, d4] }
  | _ => none }
def BagOneListWrongFalsely : Prop := bagOneListRow.holds Tryd.pinned (OpenSpec.ofChange bagOneListWrong)

/-- 'jointerlaw06.BagPages': WHATEVER THE INPUT: true; the input reads as it did. -/
def bagPagesSpec : ChangeSpec := { name := "bagPages", fn := fun _ => fun
  | [d1, d2, d3] => { results := [.lit (.bool true)], args := [d1, d2, d3] }
  | _ => none }
def bagPagesRow : OpenClaim := { program := "ytecgkcgfeghhgaadoor", sum := "8be6bd3cbb3e9f253b85e98ad3765784888cfedc35f3fc88120f9d0ba826e027", func := "jointer/jointerlaw06.BagPages", spec := "bagPages", inPlace := ["internal/bytealg.abigen_runtime_cmpstring", "internal/abi.NoEscape"], unfollowed := true, recurses := true, named := ["internal/strconv.uint64pow10", "math/bits.deBruijn32tab", "math/bits.deBruijn64tab"], apart := false, laid := [("math/bits.deBruijn32tab", laid_math_bits_deBruijn32tab), ("math/bits.deBruijn64tab", laid_math_bits_deBruijn64tab), ("internal/strconv.uint64pow10", laid_internal_strconv_uint64pow10)] }
def BagPagesSaid : Prop := bagPagesRow.holds Tryd.pinned (OpenSpec.ofChange bagPagesSpec)

/-- ITS FALSE NEIGHBOUR: 'it returns false'. Refute it at one input. -/
def bagPagesWrong : ChangeSpec := { name := "bagPages", fn := fun _ => fun
  | [d1, d2, d3] => { results := [.lit (.bool false)], args := [d1, d2, d3] }
  | _ => none }
def BagPagesWrongFalsely : Prop := bagPagesRow.holds Tryd.pinned (OpenSpec.ofChange bagPagesWrong)

/-- 'jointerlaw06.BagParts': WHATEVER THE INPUT: true; the input reads as it did. -/
def bagPartsSpec : ChangeSpec := { name := "bagParts", fn := fun _ => fun
  | [d1, d2] => { results := [.lit (.bool true)], args := [d1, d2] }
  | _ => none }
def bagPartsRow : OpenClaim := { program := "ytecgkcgfeghhgaadoor", sum := "8be6bd3cbb3e9f253b85e98ad3765784888cfedc35f3fc88120f9d0ba826e027", func := "jointer/jointerlaw06.BagParts", spec := "bagParts", inPlace := ["internal/abi.NoEscape", "internal/bytealg.abigen_runtime_cmpstring"], unfollowed := true, recurses := true, named := ["internal/strconv.uint64pow10", "math/bits.deBruijn32tab", "math/bits.deBruijn64tab"], apart := false, laid := [("math/bits.deBruijn32tab", laid_math_bits_deBruijn32tab), ("math/bits.deBruijn64tab", laid_math_bits_deBruijn64tab), ("internal/strconv.uint64pow10", laid_internal_strconv_uint64pow10)] }
def BagPartsSaid : Prop := bagPartsRow.holds Tryd.pinned (OpenSpec.ofChange bagPartsSpec)

/-- ITS FALSE NEIGHBOUR: 'it returns false'. Refute it at one input. -/
def bagPartsWrong : ChangeSpec := { name := "bagParts", fn := fun _ => fun
  | [d1, d2] => { results := [.lit (.bool false)], args := [d1, d2] }
  | _ => none }
def BagPartsWrongFalsely : Prop := bagPartsRow.holds Tryd.pinned (OpenSpec.ofChange bagPartsWrong)

/-- 'jointerlaw06.BagGroupsCover': WHATEVER THE INPUT: true; the input reads as it did. -/
def bagGroupsCoverSpec : ChangeSpec := { name := "bagGroupsCover", fn := fun _ => fun
  | [d1, d2] => { results := [.lit (.bool true)], args := [d1, d2] }
  | _ => none }
def bagGroupsCoverRow : OpenClaim := { program := "ytecgkcgfeghhgaadoor", sum := "8be6bd3cbb3e9f253b85e98ad3765784888cfedc35f3fc88120f9d0ba826e027", func := "jointer/jointerlaw06.BagGroupsCover", spec := "bagGroupsCover", inPlace := ["internal/abi.NoEscape", "internal/bytealg.abigen_runtime_cmpstring"], unfollowed := true, recurses := true, named := ["internal/strconv.uint64pow10", "math/bits.deBruijn32tab", "math/bits.deBruijn64tab"], apart := false, laid := [("math/bits.deBruijn32tab", laid_math_bits_deBruijn32tab), ("math/bits.deBruijn64tab", laid_math_bits_deBruijn64tab), ("internal/strconv.uint64pow10", laid_internal_strconv_uint64pow10)] }
def BagGroupsCoverSaid : Prop := bagGroupsCoverRow.holds Tryd.pinned (OpenSpec.ofChange bagGroupsCoverSpec)

/-- ITS FALSE NEIGHBOUR: 'it returns false'. Refute it at one input. -/
def bagGroupsCoverWrong : ChangeSpec := { name := "bagGroupsCover", fn := fun _ => fun
  | [d1, d2] => { results := [.lit (.bool false)], args := [d1, d2] }
  | _ => none }
def BagGroupsCoverWrongFalsely : Prop := bagGroupsCoverRow.holds Tryd.pinned (OpenSpec.ofChange bagGroupsCoverWrong)

/- THE SECOND FORM. 'bulk': how many values and letters a reading holds, each counted each time it is reached (what is shared counts as often as it is met; a slice's spare places count too). A statement '..UptoSaid' is the law's where the arguments, and the package variables that the reading takes, are together of bulk at most 1048576: NARROWER than '..Said'. Prove '..Said' where nothing that the law and all that it calls make is longer than what came in: it says more and counts as full. Else prove '..UptoSaid'. A law counts once. -/
mutual
def uptoBulk {H : Type} : DataW H → Nat
  | .lit (.string bytes) => bytes.length + 1
  | .lit _ => 1
  | .nil => 1
  | .ptr d => uptoBulk d + 1
  | .slice elems spare => uptoBulkAll elems + uptoBulkAll spare + 1
  | .agg parts => uptoBulkAll parts + 1
  | .iface _ d => uptoBulk d + 1
  | .map entries => uptoBulkEntries entries + 1
  | .held _ => 1
def uptoBulkAll {H : Type} : List (DataW H) → Nat
  | [] => 0
  | d :: r => uptoBulk d + uptoBulkAll r
def uptoBulkEntries {H : Type} : List (Lit × DataW H) → Nat
  | [] => 0
  | x :: r => uptoBulkEntry x + uptoBulkEntries r
def uptoBulkEntry {H : Type} : Lit × DataW H → Nat
  | (.string bytes, d) => bytes.length + uptoBulk d + 1
  | (_, d) => uptoBulk d + 1
 end
def uptoSmall : (H : Type) → List (DataW H) → Bool := fun _ ds => decide (uptoBulkAll ds ≤ 1048576)
def OpenSpec.upto (s : _root_.Go.ChangeSpec) : _root_.Go.OpenSpec := { _root_.Go.OpenSpec.ofChange s with cond := some uptoSmall }

/-- 'jointerlaw06.BagSums', WHERE WHAT IT READS IS OF BULK AT MOST 1048576: true; the input reads as it did. -/
def bagSumsUptoRow : OpenClaim := { program := "ytecgkcgfeghhgaadoor", sum := "8be6bd3cbb3e9f253b85e98ad3765784888cfedc35f3fc88120f9d0ba826e027", func := "jointer/jointerlaw06.BagSums", spec := "bagSums", inPlace := ["internal/abi.NoEscape", "internal/bytealg.abigen_runtime_cmpstring"], unfollowed := true, recurses := true, named := ["internal/strconv.uint64pow10", "math/bits.deBruijn32tab", "math/bits.deBruijn64tab"], apart := false, laid := [("math/bits.deBruijn32tab", laid_math_bits_deBruijn32tab), ("math/bits.deBruijn64tab", laid_math_bits_deBruijn64tab), ("internal/strconv.uint64pow10", laid_internal_strconv_uint64pow10)], narrowed := true }
def BagSumsUptoSaid : Prop := bagSumsUptoRow.holds Tryd.pinned (OpenSpec.upto bagSumsSpec)

/-- 'jointerlaw06.BagMeans', WHERE WHAT IT READS IS OF BULK AT MOST 1048576: true; the input reads as it did. -/
def bagMeansUptoRow : OpenClaim := { program := "ytecgkcgfeghhgaadoor", sum := "8be6bd3cbb3e9f253b85e98ad3765784888cfedc35f3fc88120f9d0ba826e027", func := "jointer/jointerlaw06.BagMeans", spec := "bagMeans", inPlace := ["internal/abi.NoEscape", "internal/bytealg.abigen_runtime_cmpstring"], unfollowed := true, recurses := true, named := ["internal/strconv.uint64pow10", "math/bits.deBruijn32tab", "math/bits.deBruijn64tab"], apart := false, laid := [("math/bits.deBruijn32tab", laid_math_bits_deBruijn32tab), ("math/bits.deBruijn64tab", laid_math_bits_deBruijn64tab), ("internal/strconv.uint64pow10", laid_internal_strconv_uint64pow10)], narrowed := true }
def BagMeansUptoSaid : Prop := bagMeansUptoRow.holds Tryd.pinned (OpenSpec.upto bagMeansSpec)

/-- 'jointerlaw06.BagGroupsTurn', WHERE WHAT IT READS IS OF BULK AT MOST 1048576: true; the input reads as it did. -/
def bagGroupsTurnUptoRow : OpenClaim := { program := "ytecgkcgfeghhgaadoor", sum := "8be6bd3cbb3e9f253b85e98ad3765784888cfedc35f3fc88120f9d0ba826e027", func := "jointer/jointerlaw06.BagGroupsTurn", spec := "bagGroupsTurn", inPlace := ["internal/abi.NoEscape", "internal/bytealg.abigen_runtime_cmpstring"], unfollowed := true, recurses := true, named := ["internal/strconv.uint64pow10", "math/bits.deBruijn32tab", "math/bits.deBruijn64tab"], apart := false, laid := [("math/bits.deBruijn32tab", laid_math_bits_deBruijn32tab), ("math/bits.deBruijn64tab", laid_math_bits_deBruijn64tab), ("internal/strconv.uint64pow10", laid_internal_strconv_uint64pow10)], narrowed := true }
def BagGroupsTurnUptoSaid : Prop := bagGroupsTurnUptoRow.holds Tryd.pinned (OpenSpec.upto bagGroupsTurnSpec)

/-- 'jointerlaw06.BagGroupsInside', WHERE WHAT IT READS IS OF BULK AT MOST 1048576: true; the input reads as it did. -/
def bagGroupsInsideUptoRow : OpenClaim := { program := "ytecgkcgfeghhgaadoor", sum := "8be6bd3cbb3e9f253b85e98ad3765784888cfedc35f3fc88120f9d0ba826e027", func := "jointer/jointerlaw06.BagGroupsInside", spec := "bagGroupsInside", inPlace := ["internal/abi.NoEscape", "internal/bytealg.abigen_runtime_cmpstring"], unfollowed := true, recurses := true, named := ["internal/strconv.uint64pow10", "math/bits.deBruijn32tab", "math/bits.deBruijn64tab"], apart := false, laid := [("math/bits.deBruijn32tab", laid_math_bits_deBruijn32tab), ("math/bits.deBruijn64tab", laid_math_bits_deBruijn64tab), ("internal/strconv.uint64pow10", laid_internal_strconv_uint64pow10)], narrowed := true }
def BagGroupsInsideUptoSaid : Prop := bagGroupsInsideUptoRow.holds Tryd.pinned (OpenSpec.upto bagGroupsInsideSpec)

/-- 'jointerlaw06.BagOneList', WHERE WHAT IT READS IS OF BULK AT MOST 1048576: true; the input reads as it did. -/
def bagOneListUptoRow : OpenClaim := { program := "ytecgkcgfeghhgaadoor", sum := "8be6bd3cbb3e9f253b85e98ad3765784888cfedc35f3fc88120f9d0ba826e027", func := "jointer/jointerlaw06.BagOneList", spec := "bagOneList", inPlace := ["internal/bytealg.abigen_runtime_cmpstring", "internal/abi.NoEscape"], unfollowed := true, recurses := true, named := ["internal/strconv.uint64pow10", "math/bits.deBruijn32tab", "math/bits.deBruijn64tab"], apart := false, laid := [("math/bits.deBruijn32tab", laid_math_bits_deBruijn32tab), ("math/bits.deBruijn64tab", laid_math_bits_deBruijn64tab), ("internal/strconv.uint64pow10", laid_internal_strconv_uint64pow10)], narrowed := true }
def BagOneListUptoSaid : Prop := bagOneListUptoRow.holds Tryd.pinned (OpenSpec.upto bagOneListSpec)

/-- 'jointerlaw06.BagPages', WHERE WHAT IT READS IS OF BULK AT MOST 1048576: true; the input reads as it did. -/
def bagPagesUptoRow : OpenClaim := { program := "ytecgkcgfeghhgaadoor", sum := "8be6bd3cbb3e9f253b85e98ad3765784888cfedc35f3fc88120f9d0ba826e027", func := "jointer/jointerlaw06.BagPages", spec := "bagPages", inPlace := ["internal/bytealg.abigen_runtime_cmpstring", "internal/abi.NoEscape"], unfollowed := true, recurses := true, named := ["internal/strconv.uint64pow10", "math/bits.deBruijn32tab", "math/bits.deBruijn64tab"], apart := false, laid := [("math/bits.deBruijn32tab", laid_math_bits_deBruijn32tab), ("math/bits.deBruijn64tab", laid_math_bits_deBruijn64tab), ("internal/strconv.uint64pow10", laid_internal_strconv_uint64pow10)], narrowed := true }
def BagPagesUptoSaid : Prop := bagPagesUptoRow.holds Tryd.pinned (OpenSpec.upto bagPagesSpec)

/-- 'jointerlaw06.BagParts', WHERE WHAT IT READS IS OF BULK AT MOST 1048576: true; the input reads as it did. -/
def bagPartsUptoRow : OpenClaim := { program := "ytecgkcgfeghhgaadoor", sum := "8be6bd3cbb3e9f253b85e98ad3765784888cfedc35f3fc88120f9d0ba826e027", func := "jointer/jointerlaw06.BagParts", spec := "bagParts", inPlace := ["internal/abi.NoEscape", "internal/bytealg.abigen_runtime_cmpstring"], unfollowed := true, recurses := true, named := ["internal/strconv.uint64pow10", "math/bits.deBruijn32tab", "math/bits.deBruijn64tab"], apart := false, laid := [("math/bits.deBruijn32tab", laid_math_bits_deBruijn32tab), ("math/bits.deBruijn64tab", laid_math_bits_deBruijn64tab), ("internal/strconv.uint64pow10", laid_internal_strconv_uint64pow10)], narrowed := true }
def BagPartsUptoSaid : Prop := bagPartsUptoRow.holds Tryd.pinned (OpenSpec.upto bagPartsSpec)

/-- 'jointerlaw06.BagGroupsCover', WHERE WHAT IT READS IS OF BULK AT MOST 1048576: true; the input reads as it did. -/
def bagGroupsCoverUptoRow : OpenClaim := { program := "ytecgkcgfeghhgaadoor", sum := "8be6bd3cbb3e9f253b85e98ad3765784888cfedc35f3fc88120f9d0ba826e027", func := "jointer/jointerlaw06.BagGroupsCover", spec := "bagGroupsCover", inPlace := ["internal/abi.NoEscape", "internal/bytealg.abigen_runtime_cmpstring"], unfollowed := true, recurses := true, named := ["internal/strconv.uint64pow10", "math/bits.deBruijn32tab", "math/bits.deBruijn64tab"], apart := false, laid := [("math/bits.deBruijn32tab", laid_math_bits_deBruijn32tab), ("math/bits.deBruijn64tab", laid_math_bits_deBruijn64tab), ("internal/strconv.uint64pow10", laid_internal_strconv_uint64pow10)], narrowed := true }
def BagGroupsCoverUptoSaid : Prop := bagGroupsCoverUptoRow.holds Tryd.pinned (OpenSpec.upto bagGroupsCoverSpec)

end Rows
end Go.Proofs.YtecgkcgfeghhgaaDoor
