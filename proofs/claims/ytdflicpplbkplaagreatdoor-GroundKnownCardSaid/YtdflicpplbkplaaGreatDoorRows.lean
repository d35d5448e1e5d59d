/-
  NARROWER THAN 'FOR EVERY INPUT', by the rows' own cells (each row's printed sentence says how): GroundMakes: loops, laid · GroundFinds: laid · GroundMeans: laid · GroundEnd: laid · GroundKnown: laid · GroundValid: laid.
  DERIVED. THE GIVEN ROWS OF THIS SEAT. 6 by the template 'for every input the law returns true; each argument reads behind the call as it read before'; 0 by the template 'total and deterministic' (their statements: YtdflicpplbkplaaGreatDoorTotals.lean).
  GIVEN WITH THE SEED: the statements are not yours to turn. If you find one false, say at which input.
  Laid BY PROGRAM, IN A SANDBOX (cutbox-rows.mjs): the forced cells as the released guide's own fill.sh prints them over the translation 9a3f861f3a757609… (all of the seat's roots in one cut). By AI agents, Wed Nov 11 2026. No macro, syntax, notation, axiom, sorry.
-/
import Derived.Test.YtdflicpplbkplaaGreatDoorChecked
import GoSem.Claim
import GoSem.ClaimJoined
import GoSem.ClaimMapViews
import Derived.JoinedTies
import Derived.KernelRfl
namespace Go.Proofs.YtdflicpplbkplaaGreatDoor
/- THE CELL 'sum', in the pinned program and in every row, IS THE sha256 OF THE DUMP (.gsa) THAT YtdflicpplbkplaaGreatDoorProg.lean LOADS. Nothing in Lean hashes anything: it is a label: what it is worth is what the hold of that sum in a sandbox is worth. -/
noncomputable def Tryz.pinned : Pinned := { name := "ytdflicpplbkplaagreatdoor", sum := "9a3f861f3a7576098b2246a35c175f23171ac9037b19d61b1a812d599eb6234e", checked := Tryz.checked }
namespace Rows
def none {H : Type} : Left H := { results := [], args := [] }

/- WHAT THE LISTED PACKAGE-LEVEL VARIABLES READ AS WHEN THE CALL BEGINS. Each datum BY PROGRAM (the guide's laid-datum.mjs) off the statement by which the dump's own 'gosem.cut.vars' lays the variable. In a bare row this is a premise. The card (YtdflicpplbkplaaGreatDoorCards.lean) ties it to the program's text. -/
def laid_math_bits_deBruijn32tab {H : Type} : DataW H := .agg [.lit (.int .u8 0), .lit (.int .u8 1), .lit (.int .u8 28), .lit (.int .u8 2), .lit (.int .u8 29), .lit (.int .u8 14), .lit (.int .u8 24), .lit (.int .u8 3), .lit (.int .u8 30), .lit (.int .u8 22), .lit (.int .u8 20), .lit (.int .u8 15), .lit (.int .u8 25), .lit (.int .u8 17), .lit (.int .u8 4), .lit (.int .u8 8), .lit (.int .u8 31), .lit (.int .u8 27), .lit (.int .u8 13), .lit (.int .u8 23), .lit (.int .u8 21), .lit (.int .u8 19), .lit (.int .u8 16), .lit (.int .u8 7), .lit (.int .u8 26), .lit (.int .u8 12), .lit (.int .u8 18), .lit (.int .u8 6), .lit (.int .u8 11), .lit (.int .u8 5), .lit (.int .u8 10), .lit (.int .u8 9)]
def laid_math_bits_deBruijn64tab {H : Type} : DataW H := .agg [.lit (.int .u8 0), .lit (.int .u8 1), .lit (.int .u8 56), .lit (.int .u8 2), .lit (.int .u8 57), .lit (.int .u8 49), .lit (.int .u8 28), .lit (.int .u8 3), .lit (.int .u8 61), .lit (.int .u8 58), .lit (.int .u8 42), .lit (.int .u8 50), .lit (.int .u8 38), .lit (.int .u8 29), .lit (.int .u8 17), .lit (.int .u8 4), .lit (.int .u8 62), .lit (.int .u8 47), .lit (.int .u8 59), .lit (.int .u8 36), .lit (.int .u8 45), .lit (.int .u8 43), .lit (.int .u8 51), .lit (.int .u8 22), .lit (.int .u8 53), .lit (.int .u8 39), .lit (.int .u8 33), .lit (.int .u8 30), .lit (.int .u8 24), .lit (.int .u8 18), .lit (.int .u8 12), .lit (.int .u8 5), .lit (.int .u8 63), .lit (.int .u8 55), .lit (.int .u8 48), .lit (.int .u8 27), .lit (.int .u8 60), .lit (.int .u8 41), .lit (.int .u8 37), .lit (.int .u8 16), .lit (.int .u8 46), .lit (.int .u8 35), .lit (.int .u8 44), .lit (.int .u8 21), .lit (.int .u8 52), .lit (.int .u8 32), .lit (.int .u8 23), .lit (.int .u8 11), .lit (.int .u8 54), .lit (.int .u8 26), .lit (.int .u8 40), .lit (.int .u8 15), .lit (.int .u8 34), .lit (.int .u8 20), .lit (.int .u8 31), .lit (.int .u8 10), .lit (.int .u8 25), .lit (.int .u8 14), .lit (.int .u8 19), .lit (.int .u8 9), .lit (.int .u8 13), .lit (.int .u8 8), .lit (.int .u8 7), .lit (.int .u8 6)]
def laid_internal_strconv_uint64pow10 {H : Type} : DataW H := .agg [.lit (.int .u64 1), .lit (.int .u64 10), .lit (.int .u64 100), .lit (.int .u64 1000), .lit (.int .u64 10000), .lit (.int .u64 100000), .lit (.int .u64 1000000), .lit (.int .u64 10000000), .lit (.int .u64 100000000), .lit (.int .u64 1000000000), .lit (.int .u64 10000000000), .lit (.int .u64 100000000000), .lit (.int .u64 1000000000000), .lit (.int .u64 10000000000000), .lit (.int .u64 100000000000000), .lit (.int .u64 1000000000000000), .lit (.int .u64 10000000000000000), .lit (.int .u64 100000000000000000), .lit (.int .u64 1000000000000000000), .lit (.int .u64 10000000000000000000)]
def laid_haruspex_lex_keys {H : Type} : DataW H := .agg [.lit (.string [103, 114, 97, 105, 110]), .lit (.string [112, 108, 97, 116, 101]), .lit (.string [110, 111, 100, 101]), .lit (.string [99, 104, 111, 111, 115, 101]), .lit (.string [103, 97, 105, 110]), .lit (.string [102, 114, 111, 109]), .lit (.string [115, 101, 101, 105, 110, 103]), .lit (.string [101, 108, 115, 101]), .lit (.string [97, 110, 100]), .lit (.string [111, 114]), .lit (.string [110, 111, 116]), .lit (.string [105, 110]), .lit (.string [97, 108, 108]), .lit (.string [99, 111, 117, 110, 116])]
def laid_haruspex_lex_marks {H : Type} : DataW H := .agg [.lit (.string [58]), .lit (.string [59]), .lit (.string [44]), .lit (.string [40]), .lit (.string [41]), .lit (.string [91]), .lit (.string [93]), .lit (.string [123]), .lit (.string [125]), .lit (.string [61]), .lit (.string [60]), .lit (.string [43]), .lit (.string [45]), .lit (.string [47, 61]), .lit (.string [60, 61]), .lit (.string [46, 46])]

/-- 'haruspexlaw40.GroundMakes': WHATEVER THE INPUT: true; the input reads as it did. -/
def groundMakesSpec : ChangeSpec := { name := "groundMakes", fn := fun _ => fun
  | [d1, d2, d3, d4] => { results := [.lit (.bool true)], args := [d1, d2, d3, d4] }
  | _ => none }
def groundMakesRow : OpenClaim := { program := "ytdflicpplbkplaagreatdoor", sum := "9a3f861f3a7576098b2246a35c175f23171ac9037b19d61b1a812d599eb6234e", func := "haruspex/haruspexlaw40.GroundMakes", spec := "groundMakes", unfollowed := true, recurses := true, named := ["haruspex/lex.keys", "haruspex/lex.marks", "internal/strconv.uint64pow10", "math/bits.deBruijn32tab", "math/bits.deBruijn64tab"], loops := true, plainKeys := false, apart := false, laid := [("math/bits.deBruijn32tab", laid_math_bits_deBruijn32tab), ("math/bits.deBruijn64tab", laid_math_bits_deBruijn64tab), ("internal/strconv.uint64pow10", laid_internal_strconv_uint64pow10), ("haruspex/lex.keys", laid_haruspex_lex_keys), ("haruspex/lex.marks", laid_haruspex_lex_marks)] }
def GroundMakesSaid : Prop := groundMakesRow.holds Tryz.pinned (OpenSpec.ofChange groundMakesSpec)

/-- ITS FALSE NEIGHBOUR: 'it returns false'. Refute it at one input. -/
def groundMakesWrong : ChangeSpec := { name := "groundMakes", fn := fun _ => fun
  | [d1, d2, d3, d4] => { results := [.lit (.bool false)], args := [d1, d2, d3, d4] }
  | _ => none }
def GroundMakesWrongFalsely : Prop := groundMakesRow.holds Tryz.pinned (OpenSpec.ofChange groundMakesWrong)

/-- 'haruspexlaw40.GroundFinds': WHATEVER THE INPUT: true; the input reads as it did. -/
def groundFindsSpec : ChangeSpec := { name := "groundFinds", fn := fun _ => fun
  | [d1, d2, d3, d4] => { results := [.lit (.bool true)], args := [d1, d2, d3, d4] }
  | _ => none }
def groundFindsRow : OpenClaim := { program := "ytdflicpplbkplaagreatdoor", sum := "9a3f861f3a7576098b2246a35c175f23171ac9037b19d61b1a812d599eb6234e", func := "haruspex/haruspexlaw40.GroundFinds", spec := "groundFinds", unfollowed := true, recurses := true, named := ["haruspex/lex.keys", "haruspex/lex.marks", "internal/strconv.uint64pow10", "math/bits.deBruijn32tab", "math/bits.deBruijn64tab"], plainKeys := false, apart := false, laid := [("math/bits.deBruijn32tab", laid_math_bits_deBruijn32tab), ("math/bits.deBruijn64tab", laid_math_bits_deBruijn64tab), ("internal/strconv.uint64pow10", laid_internal_strconv_uint64pow10), ("haruspex/lex.keys", laid_haruspex_lex_keys), ("haruspex/lex.marks", laid_haruspex_lex_marks)] }
def GroundFindsSaid : Prop := groundFindsRow.holds Tryz.pinned (OpenSpec.ofChange groundFindsSpec)

/-- ITS FALSE NEIGHBOUR: 'it returns false'. Refute it at one input. -/
def groundFindsWrong : ChangeSpec := { name := "groundFinds", fn := fun _ => fun
  | [d1, d2, d3, d4] => { results := [.lit (.bool false)], args := [d1, d2, d3, d4] }
  | _ => none }
def GroundFindsWrongFalsely : Prop := groundFindsRow.holds Tryz.pinned (OpenSpec.ofChange groundFindsWrong)

/-- 'haruspexlaw40.GroundMeans': WHATEVER THE INPUT: true; the input reads as it did. -/
def groundMeansSpec : ChangeSpec := { name := "groundMeans", fn := fun _ => fun
  | [d1, d2, d3] => { results := [.lit (.bool true)], args := [d1, d2, d3] }
  | _ => none }
def groundMeansRow : OpenClaim := { program := "ytdflicpplbkplaagreatdoor", sum := "9a3f861f3a7576098b2246a35c175f23171ac9037b19d61b1a812d599eb6234e", func := "haruspex/haruspexlaw40.GroundMeans", spec := "groundMeans", unfollowed := true, recurses := true, named := ["haruspex/lex.keys", "haruspex/lex.marks", "internal/strconv.uint64pow10", "math/bits.deBruijn32tab", "math/bits.deBruijn64tab"], plainKeys := false, apart := false, laid := [("math/bits.deBruijn32tab", laid_math_bits_deBruijn32tab), ("math/bits.deBruijn64tab", laid_math_bits_deBruijn64tab), ("internal/strconv.uint64pow10", laid_internal_strconv_uint64pow10), ("haruspex/lex.keys", laid_haruspex_lex_keys), ("haruspex/lex.marks", laid_haruspex_lex_marks)] }
def GroundMeansSaid : Prop := groundMeansRow.holds Tryz.pinned (OpenSpec.ofChange groundMeansSpec)

/-- ITS FALSE NEIGHBOUR: 'it returns false'. Refute it at one input. -/
def groundMeansWrong : ChangeSpec := { name := "groundMeans", fn := fun _ => fun
  | [d1, d2, d3] => { results := [.lit (.bool false)], args := [d1, d2, d3] }
  | _ => none }
def GroundMeansWrongFalsely : Prop := groundMeansRow.holds Tryz.pinned (OpenSpec.ofChange groundMeansWrong)

/-- 'haruspexlaw40.GroundEnd': WHATEVER THE INPUT: true; the input reads as it did. -/
def groundEndSpec : ChangeSpec := { name := "groundEnd", fn := fun _ => fun
  | [d1, d2, d3] => { results := [.lit (.bool true)], args := [d1, d2, d3] }
  | _ => none }
def groundEndRow : OpenClaim := { program := "ytdflicpplbkplaagreatdoor", sum := "9a3f861f3a7576098b2246a35c175f23171ac9037b19d61b1a812d599eb6234e", func := "haruspex/haruspexlaw40.GroundEnd", spec := "groundEnd", unfollowed := true, recurses := true, named := ["haruspex/lex.keys", "haruspex/lex.marks", "internal/strconv.uint64pow10", "math/bits.deBruijn32tab", "math/bits.deBruijn64tab"], plainKeys := false, apart := false, laid := [("math/bits.deBruijn32tab", laid_math_bits_deBruijn32tab), ("math/bits.deBruijn64tab", laid_math_bits_deBruijn64tab), ("internal/strconv.uint64pow10", laid_internal_strconv_uint64pow10), ("haruspex/lex.keys", laid_haruspex_lex_keys), ("haruspex/lex.marks", laid_haruspex_lex_marks)] }
def GroundEndSaid : Prop := groundEndRow.holds Tryz.pinned (OpenSpec.ofChange groundEndSpec)

/-- ITS FALSE NEIGHBOUR: 'it returns false'. Refute it at one input. -/
def groundEndWrong : ChangeSpec := { name := "groundEnd", fn := fun _ => fun
  | [d1, d2, d3] => { results := [.lit (.bool false)], args := [d1, d2, d3] }
  | _ => none }
def GroundEndWrongFalsely : Prop := groundEndRow.holds Tryz.pinned (OpenSpec.ofChange groundEndWrong)

/-- 'haruspexlaw40.GroundKnown': WHATEVER THE INPUT: true; the input reads as it did. -/
def groundKnownSpec : ChangeSpec := { name := "groundKnown", fn := fun _ => fun
  | [] => { results := [.lit (.bool true)], args := [] }
  | _ => none }
def groundKnownRow : OpenClaim := { program := "ytdflicpplbkplaagreatdoor", sum := "9a3f861f3a7576098b2246a35c175f23171ac9037b19d61b1a812d599eb6234e", func := "haruspex/haruspexlaw40.GroundKnown", spec := "groundKnown", unfollowed := true, recurses := true, named := ["haruspex/lex.keys", "haruspex/lex.marks", "internal/strconv.uint64pow10", "math/bits.deBruijn32tab", "math/bits.deBruijn64tab"], plainKeys := false, apart := false, laid := [("math/bits.deBruijn32tab", laid_math_bits_deBruijn32tab), ("math/bits.deBruijn64tab", laid_math_bits_deBruijn64tab), ("internal/strconv.uint64pow10", laid_internal_strconv_uint64pow10), ("haruspex/lex.keys", laid_haruspex_lex_keys), ("haruspex/lex.marks", laid_haruspex_lex_marks)] }
def GroundKnownSaid : Prop := groundKnownRow.holds Tryz.pinned (OpenSpec.ofChange groundKnownSpec)

/-- ITS FALSE NEIGHBOUR: 'it returns false'. Refute it at one input. -/
def groundKnownWrong : ChangeSpec := { name := "groundKnown", fn := fun _ => fun
  | [] => { results := [.lit (.bool false)], args := [] }
  | _ => none }
def GroundKnownWrongFalsely : Prop := groundKnownRow.holds Tryz.pinned (OpenSpec.ofChange groundKnownWrong)

/-- 'haruspexlaw40.GroundValid': WHATEVER THE INPUT: true; the input reads as it did. -/
def groundValidSpec : ChangeSpec := { name := "groundValid", fn := fun _ => fun
  | [d1, d2] => { results := [.lit (.bool true)], args := [d1, d2] }
  | _ => none }
def groundValidRow : OpenClaim := { program := "ytdflicpplbkplaagreatdoor", sum := "9a3f861f3a7576098b2246a35c175f23171ac9037b19d61b1a812d599eb6234e", func := "haruspex/haruspexlaw40.GroundValid", spec := "groundValid", unfollowed := true, recurses := true, named := ["haruspex/lex.keys", "haruspex/lex.marks", "internal/strconv.uint64pow10", "math/bits.deBruijn32tab", "math/bits.deBruijn64tab"], plainKeys := false, apart := false, laid := [("math/bits.deBruijn32tab", laid_math_bits_deBruijn32tab), ("math/bits.deBruijn64tab", laid_math_bits_deBruijn64tab), ("internal/strconv.uint64pow10", laid_internal_strconv_uint64pow10), ("haruspex/lex.keys", laid_haruspex_lex_keys), ("haruspex/lex.marks", laid_haruspex_lex_marks)] }
def GroundValidSaid : Prop := groundValidRow.holds Tryz.pinned (OpenSpec.ofChange groundValidSpec)

/-- ITS FALSE NEIGHBOUR: 'it returns false'. Refute it at one input. -/
def groundValidWrong : ChangeSpec := { name := "groundValid", fn := fun _ => fun
  | [d1, d2] => { results := [.lit (.bool false)], args := [d1, d2] }
  | _ => none }
def GroundValidWrongFalsely : Prop := groundValidRow.holds Tryz.pinned (OpenSpec.ofChange groundValidWrong)

/- THE SECOND FORM. 'bulk': how many values and letters a reading holds, each counted each time it is reached (what is shared counts as often as it is met; a slice's spare places count too). A statement '..UptoSaid' is the law's where the arguments, and the package variables that the reading takes, are together of bulk at most 1048576: NARROWER than '..Said'. Prove '..Said' where nothing that the law and all that it calls make is longer than what came in: it says more and counts as full. Else prove '..UptoSaid'. A law counts once. -/
mutual
def uptoBulk {H : Type} : DataW H → Nat
  | .lit (.string bytes) => bytes.length + 1
  | .lit _ => 1
  | .nil => 1
  | .ptr d => uptoBulk d + 1
  | .slice elems spare => uptoBulkAll elems + uptoBulkAll spare + 1
  | .agg parts => uptoBulkAll parts + 1
  | .iface _ d => uptoBulk d + 1
  | .map entries => uptoBulkEntries entries + 1
  | .held _ => 1
def uptoBulkAll {H : Type} : List (DataW H) → Nat
  | [] => 0
  | d :: r => uptoBulk d + uptoBulkAll r
def uptoBulkEntries {H : Type} : List (Lit × DataW H) → Nat
  | [] => 0
  | x :: r => uptoBulkEntry x + uptoBulkEntries r
def uptoBulkEntry {H : Type} : Lit × DataW H → Nat
  | (.string bytes, d) => bytes.length + uptoBulk d + 1
  | (_, d) => uptoBulk d + 1
 end
def uptoSmall : (H : Type) → List (DataW H) → Bool := fun _ ds => decide (uptoBulkAll ds ≤ 1048576)
def OpenSpec.upto (s : _root_.Go.ChangeSpec) : _root_.Go.OpenSpec := { _root_.Go.OpenSpec.ofChange s with cond := some uptoSmall }

/-- 'haruspexlaw40.GroundMakes', WHERE WHAT IT READS IS OF BULK AT MOST 1048576: true; the input reads as it did. -/
def groundMakesUptoRow : OpenClaim := { program := "ytdflicpplbkplaagreatdoor", sum := "9a3f861f3a7576098b2246a35c175f23171ac9037b19d61b1a812d599eb6234e", func := "haruspex/haruspexlaw40.GroundMakes", spec := "groundMakes", unfollowed := true, recurses := true, named := ["haruspex/lex.keys", "haruspex/lex.marks", "internal/strconv.uint64pow10", "math/bits.deBruijn32tab", "math/bits.deBruijn64tab"], loops := true, plainKeys := false, apart := false, laid := [("math/bits.deBruijn32tab", laid_math_bits_deBruijn32tab), ("math/bits.deBruijn64tab", laid_math_bits_deBruijn64tab), ("internal/strconv.uint64pow10", laid_internal_strconv_uint64pow10), ("haruspex/lex.keys", laid_haruspex_lex_keys), ("haruspex/lex.marks", laid_haruspex_lex_marks)], narrowed := true }
def GroundMakesUptoSaid : Prop := groundMakesUptoRow.holds Tryz.pinned (OpenSpec.upto groundMakesSpec)

/-- 'haruspexlaw40.GroundFinds', WHERE WHAT IT READS IS OF BULK AT MOST 1048576: true; the input reads as it did. -/
def groundFindsUptoRow : OpenClaim := { program := "ytdflicpplbkplaagreatdoor", sum := "9a3f861f3a7576098b2246a35c175f23171ac9037b19d61b1a812d599eb6234e", func := "haruspex/haruspexlaw40.GroundFinds", spec := "groundFinds", unfollowed := true, recurses := true, named := ["haruspex/lex.keys", "haruspex/lex.marks", "internal/strconv.uint64pow10", "math/bits.deBruijn32tab", "math/bits.deBruijn64tab"], plainKeys := false, apart := false, laid := [("math/bits.deBruijn32tab", laid_math_bits_deBruijn32tab), ("math/bits.deBruijn64tab", laid_math_bits_deBruijn64tab), ("internal/strconv.uint64pow10", laid_internal_strconv_uint64pow10), ("haruspex/lex.keys", laid_haruspex_lex_keys), ("haruspex/lex.marks", laid_haruspex_lex_marks)], narrowed := true }
def GroundFindsUptoSaid : Prop := groundFindsUptoRow.holds Tryz.pinned (OpenSpec.upto groundFindsSpec)

/-- 'haruspexlaw40.GroundMeans', WHERE WHAT IT READS IS OF BULK AT MOST 1048576: true; the input reads as it did. -/
def groundMeansUptoRow : OpenClaim := { program := "ytdflicpplbkplaagreatdoor", sum := "9a3f861f3a7576098b2246a35c175f23171ac9037b19d61b1a812d599eb6234e", func := "haruspex/haruspexlaw40.GroundMeans", spec := "groundMeans", unfollowed := true, recurses := true, named := ["haruspex/lex.keys", "haruspex/lex.marks", "internal/strconv.uint64pow10", "math/bits.deBruijn32tab", "math/bits.deBruijn64tab"], plainKeys := false, apart := false, laid := [("math/bits.deBruijn32tab", laid_math_bits_deBruijn32tab), ("math/bits.deBruijn64tab", laid_math_bits_deBruijn64tab), ("internal/strconv.uint64pow10", laid_internal_strconv_uint64pow10), ("haruspex/lex.keys", laid_haruspex_lex_keys), ("haruspex/lex.marks", laid_haruspex_lex_marks)], narrowed := true }
def GroundMeansUptoSaid : Prop := groundMeansUptoRow.holds Tryz.pinned (OpenSpec.upto groundMeansSpec)

/-- 'haruspexlaw40.GroundEnd', WHERE WHAT IT READS IS OF BULK AT MOST 1048576: true; the input reads as it did. -/
def groundEndUptoRow : OpenClaim := { program := "ytdflicpplbkplaagreatdoor", sum := "9a3f861f3a7576098b2246a35c175f23171ac9037b19d61b1a812d599eb6234e", func := "haruspex/haruspexlaw40.GroundEnd", spec := "groundEnd", unfollowed := true, recurses := true, named := ["haruspex/lex.keys", "haruspex/lex.marks", "internal/strconv.uint64pow10", "math/bits.deBruijn32tab", "math/bits.deBruijn64tab"], plainKeys := false, apart := false, laid := [("math/bits.deBruijn32tab", laid_math_bits_deBruijn32tab), ("math/bits.deBruijn64tab", laid_math_bits_deBruijn64tab), ("internal/strconv.uint64pow10", laid_internal_strconv_uint64pow10), ("haruspex/lex.keys", laid_haruspex_lex_keys), ("haruspex/lex.marks", laid_haruspex_lex_marks)], narrowed := true }
def GroundEndUptoSaid : Prop := groundEndUptoRow.holds Tryz.pinned (OpenSpec.upto groundEndSpec)

/-- 'haruspexlaw40.GroundKnown', WHERE WHAT IT READS IS OF BULK AT MOST 1048576: true; the input reads as it did. -/
def groundKnownUptoRow : OpenClaim := { program := "ytdflicpplbkplaagreatdoor", sum := "9a3f861f3a7576098b2246a35c175f23171ac9037b19d61b1a812d599eb6234e", func := "haruspex/haruspexlaw40.GroundKnown", spec := "groundKnown", unfollowed := true, recurses := true, named := ["haruspex/lex.keys", "haruspex/lex.marks", "internal/strconv.uint64pow10", "math/bits.deBruijn32tab", "math/bits.deBruijn64tab"], plainKeys := false, apart := false, laid := [("math/bits.deBruijn32tab", laid_math_bits_deBruijn32tab), ("math/bits.deBruijn64tab", laid_math_bits_deBruijn64tab), ("internal/strconv.uint64pow10", laid_internal_strconv_uint64pow10), ("haruspex/lex.keys", laid_haruspex_lex_keys), ("haruspex/lex.marks", laid_haruspex_lex_marks)], narrowed := true }
def GroundKnownUptoSaid : Prop := groundKnownUptoRow.holds Tryz.pinned (OpenSpec.upto groundKnownSpec)

/-- 'haruspexlaw40.GroundValid', WHERE WHAT IT READS IS OF BULK AT MOST 1048576: true; the input reads as it did. -/
def groundValidUptoRow : OpenClaim := { program := "ytdflicpplbkplaagreatdoor", sum := "9a3f861f3a7576098b2246a35c175f23171ac9037b19d61b1a812d599eb6234e", func := "haruspex/haruspexlaw40.GroundValid", spec := "groundValid", unfollowed := true, recurses := true, named := ["haruspex/lex.keys", "haruspex/lex.marks", "internal/strconv.uint64pow10", "math/bits.deBruijn32tab", "math/bits.deBruijn64tab"], plainKeys := false, apart := false, laid := [("math/bits.deBruijn32tab", laid_math_bits_deBruijn32tab), ("math/bits.deBruijn64tab", laid_math_bits_deBruijn64tab), ("internal/strconv.uint64pow10", laid_internal_strconv_uint64pow10), ("haruspex/lex.keys", laid_haruspex_lex_keys), ("haruspex/lex.marks", laid_haruspex_lex_marks)], narrowed := true }
def GroundValidUptoSaid : Prop := groundValidUptoRow.holds Tryz.pinned (OpenSpec.upto groundValidSpec)

end Rows
end Go.Proofs.YtdflicpplbkplaaGreatDoor
