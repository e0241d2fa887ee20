/-
  NARROWER THAN 'FOR EVERY INPUT', by the rows' own cells (each row's printed sentence says how): FnExactShownText: laid · FnExactShowMove: laid · FnExactOldText: laid · FnExactSeenByScript: laid · FnExactParseShown: laid · FnExactStaysInside: laid · FnShown: laid.
  DERIVED. THE GIVEN ROWS OF THIS SEAT. 7 by the template 'for every input the law returns true; each argument reads behind the call as it read before'; 0 by the template 'total and deterministic' (their statements: YtfipolbgkppdjaaDoorTotals.lean).
  GIVEN WITH THE SEED: the statements are not yours to turn. If you find one false, say at which input.
  Laid BY PROGRAM, IN A SANDBOX (cutbox-rows.mjs): the forced cells as the released guide's own fill.sh prints them over the translation db983cdd8912924f… (all of the seat's roots in one cut). By AI agents, Wed Nov 11 2026. No macro, syntax, notation, axiom, sorry.
-/
import Derived.Test.YtfipolbgkppdjaaDoorChecked
import GoSem.Claim
import GoSem.ClaimJoined
import GoSem.ClaimMapViews
import Derived.JoinedTies
import Derived.KernelRfl
namespace Go.Proofs.YtfipolbgkppdjaaDoor
/- THE CELL 'sum', in the pinned program and in every row, IS THE sha256 OF THE DUMP (.gsa) THAT YtfipolbgkppdjaaDoorProg.lean LOADS. Nothing in Lean hashes anything: it is a label: what it is worth is what the hold of that sum in a sandbox is worth. -/
noncomputable def Tryd.pinned : Pinned := { name := "ytfipolbgkppdjaadoor", sum := "db983cdd8912924feb40dadbc72de0a27a9f79d295debc34bbc06d6a5b2c4b31", checked := Tryd.checked }
namespace Rows
def none {H : Type} : Left H := { results := [], args := [] }

/- WHAT THE LISTED PACKAGE-LEVEL VARIABLES READ AS WHEN THE CALL BEGINS. Each datum BY PROGRAM (the guide's laid-datum.mjs) off the statement by which the dump's own 'gosem.cut.vars' lays the variable. In a bare row this is a premise. The card (YtfipolbgkppdjaaDoorCards.lean) ties it to the program's text. -/
def laid_math_bits_deBruijn32tab {H : Type} : DataW H := .agg [.lit (.int .u8 0), .lit (.int .u8 1), .lit (.int .u8 28), .lit (.int .u8 2), .lit (.int .u8 29), .lit (.int .u8 14), .lit (.int .u8 24), .lit (.int .u8 3), .lit (.int .u8 30), .lit (.int .u8 22), .lit (.int .u8 20), .lit (.int .u8 15), .lit (.int .u8 25), .lit (.int .u8 17), .lit (.int .u8 4), .lit (.int .u8 8), .lit (.int .u8 31), .lit (.int .u8 27), .lit (.int .u8 13), .lit (.int .u8 23), .lit (.int .u8 21), .lit (.int .u8 19), .lit (.int .u8 16), .lit (.int .u8 7), .lit (.int .u8 26), .lit (.int .u8 12), .lit (.int .u8 18), .lit (.int .u8 6), .lit (.int .u8 11), .lit (.int .u8 5), .lit (.int .u8 10), .lit (.int .u8 9)]
def laid_math_bits_deBruijn64tab {H : Type} : DataW H := .agg [.lit (.int .u8 0), .lit (.int .u8 1), .lit (.int .u8 56), .lit (.int .u8 2), .lit (.int .u8 57), .lit (.int .u8 49), .lit (.int .u8 28), .lit (.int .u8 3), .lit (.int .u8 61), .lit (.int .u8 58), .lit (.int .u8 42), .lit (.int .u8 50), .lit (.int .u8 38), .lit (.int .u8 29), .lit (.int .u8 17), .lit (.int .u8 4), .lit (.int .u8 62), .lit (.int .u8 47), .lit (.int .u8 59), .lit (.int .u8 36), .lit (.int .u8 45), .lit (.int .u8 43), .lit (.int .u8 51), .lit (.int .u8 22), .lit (.int .u8 53), .lit (.int .u8 39), .lit (.int .u8 33), .lit (.int .u8 30), .lit (.int .u8 24), .lit (.int .u8 18), .lit (.int .u8 12), .lit (.int .u8 5), .lit (.int .u8 63), .lit (.int .u8 55), .lit (.int .u8 48), .lit (.int .u8 27), .lit (.int .u8 60), .lit (.int .u8 41), .lit (.int .u8 37), .lit (.int .u8 16), .lit (.int .u8 46), .lit (.int .u8 35), .lit (.int .u8 44), .lit (.int .u8 21), .lit (.int .u8 52), .lit (.int .u8 32), .lit (.int .u8 23), .lit (.int .u8 11), .lit (.int .u8 54), .lit (.int .u8 26), .lit (.int .u8 40), .lit (.int .u8 15), .lit (.int .u8 34), .lit (.int .u8 20), .lit (.int .u8 31), .lit (.int .u8 10), .lit (.int .u8 25), .lit (.int .u8 14), .lit (.int .u8 19), .lit (.int .u8 9), .lit (.int .u8 13), .lit (.int .u8 8), .lit (.int .u8 7), .lit (.int .u8 6)]
def laid_internal_strconv_uint64pow10 {H : Type} : DataW H := .agg [.lit (.int .u64 1), .lit (.int .u64 10), .lit (.int .u64 100), .lit (.int .u64 1000), .lit (.int .u64 10000), .lit (.int .u64 100000), .lit (.int .u64 1000000), .lit (.int .u64 10000000), .lit (.int .u64 100000000), .lit (.int .u64 1000000000), .lit (.int .u64 10000000000), .lit (.int .u64 100000000000), .lit (.int .u64 1000000000000), .lit (.int .u64 10000000000000), .lit (.int .u64 100000000000000), .lit (.int .u64 1000000000000000), .lit (.int .u64 10000000000000000), .lit (.int .u64 100000000000000000), .lit (.int .u64 1000000000000000000), .lit (.int .u64 10000000000000000000)]

/-- 'laws.FnExactShownText': WHATEVER THE INPUT: true; the input reads as it did. -/
def fnExactShownTextSpec : ChangeSpec := { name := "fnExactShownText", fn := fun _ => fun
  | [d] => { results := [.lit (.bool true)], args := [d] }
  | _ => none }
def fnExactShownTextRow : OpenClaim := { program := "ytfipolbgkppdjaadoor", sum := "db983cdd8912924feb40dadbc72de0a27a9f79d295debc34bbc06d6a5b2c4b31", func := "loop.example/g03002/laws.FnExactShownText", spec := "fnExactShownText", named := ["internal/strconv.uint64pow10", "math/bits.deBruijn32tab", "math/bits.deBruijn64tab"], apart := false, laid := [("math/bits.deBruijn32tab", laid_math_bits_deBruijn32tab), ("math/bits.deBruijn64tab", laid_math_bits_deBruijn64tab), ("internal/strconv.uint64pow10", laid_internal_strconv_uint64pow10)] }
def FnExactShownTextSaid : Prop := fnExactShownTextRow.holds Tryd.pinned (OpenSpec.ofChange fnExactShownTextSpec)

/-- ITS FALSE NEIGHBOUR: 'it returns false'. Refute it at one input. -/
def fnExactShownTextWrong : ChangeSpec := { name := "fnExactShownText", fn := fun _ => fun
  | [d] => { results := [.lit (.bool false)], args := [d] }
  | _ => none }
def FnExactShownTextWrongFalsely : Prop := fnExactShownTextRow.holds Tryd.pinned (OpenSpec.ofChange fnExactShownTextWrong)

/-- 'laws.FnExactShowMove': WHATEVER THE INPUT: true; the input reads as it did. -/
def fnExactShowMoveSpec : ChangeSpec := { name := "fnExactShowMove", fn := fun _ => fun
  | [d1, d2] => { results := [.lit (.bool true)], args := [d1, d2] }
  | _ => none }
def fnExactShowMoveRow : OpenClaim := { program := "ytfipolbgkppdjaadoor", sum := "db983cdd8912924feb40dadbc72de0a27a9f79d295debc34bbc06d6a5b2c4b31", func := "loop.example/g03002/laws.FnExactShowMove", spec := "fnExactShowMove", named := ["internal/strconv.uint64pow10", "math/bits.deBruijn32tab", "math/bits.deBruijn64tab"], apart := false, laid := [("math/bits.deBruijn32tab", laid_math_bits_deBruijn32tab), ("math/bits.deBruijn64tab", laid_math_bits_deBruijn64tab), ("internal/strconv.uint64pow10", laid_internal_strconv_uint64pow10)] }
def FnExactShowMoveSaid : Prop := fnExactShowMoveRow.holds Tryd.pinned (OpenSpec.ofChange fnExactShowMoveSpec)

/-- ITS FALSE NEIGHBOUR: 'it returns false'. Refute it at one input. -/
def fnExactShowMoveWrong : ChangeSpec := { name := "fnExactShowMove", fn := fun _ => fun
  | [d1, d2] => { results := [.lit (.bool false)], args := [d1, d2] }
  | _ => none }
def FnExactShowMoveWrongFalsely : Prop := fnExactShowMoveRow.holds Tryd.pinned (OpenSpec.ofChange fnExactShowMoveWrong)

/-- 'laws.FnExactOldText': WHATEVER THE INPUT: true; the input reads as it did. -/
def fnExactOldTextSpec : ChangeSpec := { name := "fnExactOldText", fn := fun _ => fun
  | [d] => { results := [.lit (.bool true)], args := [d] }
  | _ => none }
def fnExactOldTextRow : OpenClaim := { program := "ytfipolbgkppdjaadoor", sum := "db983cdd8912924feb40dadbc72de0a27a9f79d295debc34bbc06d6a5b2c4b31", func := "loop.example/g03002/laws.FnExactOldText", spec := "fnExactOldText", inPlace := ["internal/abi.NoEscape", "internal/bytealg.MakeNoZero"], named := ["internal/strconv.uint64pow10", "math/bits.deBruijn32tab", "math/bits.deBruijn64tab"], apart := false, laid := [("math/bits.deBruijn32tab", laid_math_bits_deBruijn32tab), ("math/bits.deBruijn64tab", laid_math_bits_deBruijn64tab), ("internal/strconv.uint64pow10", laid_internal_strconv_uint64pow10)] }
def FnExactOldTextSaid : Prop := fnExactOldTextRow.holds Tryd.pinned (OpenSpec.ofChange fnExactOldTextSpec)

/-- ITS FALSE NEIGHBOUR: 'it returns false'. Refute it at one input. -/
def fnExactOldTextWrong : ChangeSpec := { name := "fnExactOldText", fn := fun _ => fun
  | [d] => { results := [.lit (.bool false)], args := [d] }
  | _ => none }
def FnExactOldTextWrongFalsely : Prop := fnExactOldTextRow.holds Tryd.pinned (OpenSpec.ofChange fnExactOldTextWrong)

/-- 'laws.FnExactSeenByScript': WHATEVER THE INPUT: true; the input reads as it did. -/
def fnExactSeenByScriptSpec : ChangeSpec := { name := "fnExactSeenByScript", fn := fun _ => fun
  | [d] => { results := [.lit (.bool true)], args := [d] }
  | _ => none }
def fnExactSeenByScriptRow : OpenClaim := { program := "ytfipolbgkppdjaadoor", sum := "db983cdd8912924feb40dadbc72de0a27a9f79d295debc34bbc06d6a5b2c4b31", func := "loop.example/g03002/laws.FnExactSeenByScript", spec := "fnExactSeenByScript", inPlace := ["internal/bytealg.IndexByteString", "internal/bytealg.IndexString"], named := ["internal/bytealg.MaxLen", "internal/strconv.uint64pow10", "math/bits.deBruijn32tab", "math/bits.deBruijn64tab"], apart := false, laid := [("math/bits.deBruijn32tab", laid_math_bits_deBruijn32tab), ("math/bits.deBruijn64tab", laid_math_bits_deBruijn64tab), ("internal/strconv.uint64pow10", laid_internal_strconv_uint64pow10)] }
def FnExactSeenByScriptSaid : Prop := fnExactSeenByScriptRow.holds Tryd.pinned (OpenSpec.ofChange fnExactSeenByScriptSpec)

/-- ITS FALSE NEIGHBOUR: 'it returns false'. Refute it at one input. -/
def fnExactSeenByScriptWrong : ChangeSpec := { name := "fnExactSeenByScript", fn := fun _ => fun
  | [d] => { results := [.lit (.bool false)], args := [d] }
  | _ => none }
def FnExactSeenByScriptWrongFalsely : Prop := fnExactSeenByScriptRow.holds Tryd.pinned (OpenSpec.ofChange fnExactSeenByScriptWrong)

/-- 'laws.FnExactParseShown': WHATEVER THE INPUT: true; the input reads as it did. -/
def fnExactParseShownSpec : ChangeSpec := { name := "fnExactParseShown", fn := fun _ => fun
  | [d] => { results := [.lit (.bool true)], args := [d] }
  | _ => none }
def fnExactParseShownRow : OpenClaim := { program := "ytfipolbgkppdjaadoor", sum := "db983cdd8912924feb40dadbc72de0a27a9f79d295debc34bbc06d6a5b2c4b31", func := "loop.example/g03002/laws.FnExactParseShown", spec := "fnExactParseShown", inPlace := ["internal/bytealg.IndexByteString", "internal/bytealg.IndexString"], named := ["internal/bytealg.MaxLen", "internal/strconv.uint64pow10", "math/bits.deBruijn32tab", "math/bits.deBruijn64tab"], apart := false, laid := [("math/bits.deBruijn32tab", laid_math_bits_deBruijn32tab), ("math/bits.deBruijn64tab", laid_math_bits_deBruijn64tab), ("internal/strconv.uint64pow10", laid_internal_strconv_uint64pow10)] }
def FnExactParseShownSaid : Prop := fnExactParseShownRow.holds Tryd.pinned (OpenSpec.ofChange fnExactParseShownSpec)

/-- ITS FALSE NEIGHBOUR: 'it returns false'. Refute it at one input. -/
def fnExactParseShownWrong : ChangeSpec := { name := "fnExactParseShown", fn := fun _ => fun
  | [d] => { results := [.lit (.bool false)], args := [d] }
  | _ => none }
def FnExactParseShownWrongFalsely : Prop := fnExactParseShownRow.holds Tryd.pinned (OpenSpec.ofChange fnExactParseShownWrong)

/-- 'laws.FnExactStaysInside': WHATEVER THE INPUT: true; the input reads as it did. -/
def fnExactStaysInsideSpec : ChangeSpec := { name := "fnExactStaysInside", fn := fun _ => fun
  | [d] => { results := [.lit (.bool true)], args := [d] }
  | _ => none }
def fnExactStaysInsideRow : OpenClaim := { program := "ytfipolbgkppdjaadoor", sum := "db983cdd8912924feb40dadbc72de0a27a9f79d295debc34bbc06d6a5b2c4b31", func := "loop.example/g03002/laws.FnExactStaysInside", spec := "fnExactStaysInside", inPlace := ["internal/bytealg.IndexByteString", "internal/bytealg.IndexString"], unfollowed := true, recurses := true, named := ["internal/bytealg.MaxLen", "internal/strconv.uint64pow10", "math/bits.deBruijn32tab", "math/bits.deBruijn64tab"], apart := false, laid := [("math/bits.deBruijn32tab", laid_math_bits_deBruijn32tab), ("math/bits.deBruijn64tab", laid_math_bits_deBruijn64tab), ("internal/strconv.uint64pow10", laid_internal_strconv_uint64pow10)] }
def FnExactStaysInsideSaid : Prop := fnExactStaysInsideRow.holds Tryd.pinned (OpenSpec.ofChange fnExactStaysInsideSpec)

/-- ITS FALSE NEIGHBOUR: 'it returns false'. Refute it at one input. -/
def fnExactStaysInsideWrong : ChangeSpec := { name := "fnExactStaysInside", fn := fun _ => fun
  | [d] => { results := [.lit (.bool false)], args := [d] }
  | _ => none }
def FnExactStaysInsideWrongFalsely : Prop := fnExactStaysInsideRow.holds Tryd.pinned (OpenSpec.ofChange fnExactStaysInsideWrong)

/-- 'laws.FnShown': WHATEVER THE INPUT: true; the input reads as it did. -/
def fnShownSpec : ChangeSpec := { name := "fnShown", fn := fun _ => fun
  | [d] => { results := [.lit (.bool true)], args := [d] }
  | _ => none }
def fnShownRow : OpenClaim := { program := "ytfipolbgkppdjaadoor", sum := "db983cdd8912924feb40dadbc72de0a27a9f79d295debc34bbc06d6a5b2c4b31", func := "loop.example/g03002/laws.FnShown", spec := "fnShown", inPlace := ["internal/bytealg.IndexByteString", "internal/bytealg.IndexString"], unfollowed := true, recurses := true, named := ["internal/strconv.uint64pow10", "math/bits.deBruijn32tab", "math/bits.deBruijn64tab", "internal/bytealg.MaxLen"], apart := false, laid := [("math/bits.deBruijn32tab", laid_math_bits_deBruijn32tab), ("math/bits.deBruijn64tab", laid_math_bits_deBruijn64tab), ("internal/strconv.uint64pow10", laid_internal_strconv_uint64pow10)] }
def FnShownSaid : Prop := fnShownRow.holds Tryd.pinned (OpenSpec.ofChange fnShownSpec)

/-- ITS FALSE NEIGHBOUR: 'it returns false'. Refute it at one input. -/
def fnShownWrong : ChangeSpec := { name := "fnShown", fn := fun _ => fun
  | [d] => { results := [.lit (.bool false)], args := [d] }
  | _ => none }
def FnShownWrongFalsely : Prop := fnShownRow.holds Tryd.pinned (OpenSpec.ofChange fnShownWrong)

/- THE SECOND FORM. 'bulk': how many values and letters a reading holds, each counted each time it is reached (what is shared counts as often as it is met; a slice's spare places count too). A statement '..UptoSaid' is the law's where the arguments, and the package variables that the reading takes, are together of bulk at most 1048576: NARROWER than '..Said'. Prove '..Said' where nothing that the law and all that it calls make is longer than what came in: it says more and counts as full. Else prove '..UptoSaid'. A law counts once. -/
mutual
def uptoBulk {H : Type} : DataW H → Nat
  | .lit (.string bytes) => bytes.length + 1
  | .lit _ => 1
  | .nil => 1
  | .ptr d => uptoBulk d + 1
  | .slice elems spare => uptoBulkAll elems + uptoBulkAll spare + 1
  | .agg parts => uptoBulkAll parts + 1
  | .iface _ d => uptoBulk d + 1
  | .map entries => uptoBulkEntries entries + 1
  | .held _ => 1
def uptoBulkAll {H : Type} : List (DataW H) → Nat
  | [] => 0
  | d :: r => uptoBulk d + uptoBulkAll r
def uptoBulkEntries {H : Type} : List (Lit × DataW H) → Nat
  | [] => 0
  | x :: r => uptoBulkEntry x + uptoBulkEntries r
def uptoBulkEntry {H : Type} : Lit × DataW H → Nat
  | (.string bytes, d) => bytes.length + uptoBulk d + 1
  | (_, d) => uptoBulk d + 1
 end
def uptoSmall : (H : Type) → List (DataW H) → Bool := fun _ ds => decide (uptoBulkAll ds ≤ 1048576)
def OpenSpec.upto (s : _root_.Go.ChangeSpec) : _root_.Go.OpenSpec := { _root_.Go.OpenSpec.ofChange s with cond := some uptoSmall }

/-- 'laws.FnExactShownText', WHERE WHAT IT READS IS OF BULK AT MOST 1048576: true; the input reads as it did. -/
def fnExactShownTextUptoRow : OpenClaim := { program := "ytfipolbgkppdjaadoor", sum := "db983cdd8912924feb40dadbc72de0a27a9f79d295debc34bbc06d6a5b2c4b31", func := "loop.example/g03002/laws.FnExactShownText", spec := "fnExactShownText", named := ["internal/strconv.uint64pow10", "math/bits.deBruijn32tab", "math/bits.deBruijn64tab"], apart := false, laid := [("math/bits.deBruijn32tab", laid_math_bits_deBruijn32tab), ("math/bits.deBruijn64tab", laid_math_bits_deBruijn64tab), ("internal/strconv.uint64pow10", laid_internal_strconv_uint64pow10)], narrowed := true }
def FnExactShownTextUptoSaid : Prop := fnExactShownTextUptoRow.holds Tryd.pinned (OpenSpec.upto fnExactShownTextSpec)

/-- 'laws.FnExactShowMove', WHERE WHAT IT READS IS OF BULK AT MOST 1048576: true; the input reads as it did. -/
def fnExactShowMoveUptoRow : OpenClaim := { program := "ytfipolbgkppdjaadoor", sum := "db983cdd8912924feb40dadbc72de0a27a9f79d295debc34bbc06d6a5b2c4b31", func := "loop.example/g03002/laws.FnExactShowMove", spec := "fnExactShowMove", named := ["internal/strconv.uint64pow10", "math/bits.deBruijn32tab", "math/bits.deBruijn64tab"], apart := false, laid := [("math/bits.deBruijn32tab", laid_math_bits_deBruijn32tab), ("math/bits.deBruijn64tab", laid_math_bits_deBruijn64tab), ("internal/strconv.uint64pow10", laid_internal_strconv_uint64pow10)], narrowed := true }
def FnExactShowMoveUptoSaid : Prop := fnExactShowMoveUptoRow.holds Tryd.pinned (OpenSpec.upto fnExactShowMoveSpec)

/-- 'laws.FnExactOldText', WHERE WHAT IT READS IS OF BULK AT MOST 1048576: true; the input reads as it did. -/
def fnExactOldTextUptoRow : OpenClaim := { program := "ytfipolbgkppdjaadoor", sum := "db983cdd8912924feb40dadbc72de0a27a9f79d295debc34bbc06d6a5b2c4b31", func := "loop.example/g03002/laws.FnExactOldText", spec := "fnExactOldText", inPlace := ["internal/abi.NoEscape", "internal/bytealg.MakeNoZero"], named := ["internal/strconv.uint64pow10", "math/bits.deBruijn32tab", "math/bits.deBruijn64tab"], apart := false, laid := [("math/bits.deBruijn32tab", laid_math_bits_deBruijn32tab), ("math/bits.deBruijn64tab", laid_math_bits_deBruijn64tab), ("internal/strconv.uint64pow10", laid_internal_strconv_uint64pow10)], narrowed := true }
def FnExactOldTextUptoSaid : Prop := fnExactOldTextUptoRow.holds Tryd.pinned (OpenSpec.upto fnExactOldTextSpec)

/-- 'laws.FnExactSeenByScript', WHERE WHAT IT READS IS OF BULK AT MOST 1048576: true; the input reads as it did. -/
def fnExactSeenByScriptUptoRow : OpenClaim := { program := "ytfipolbgkppdjaadoor", sum := "db983cdd8912924feb40dadbc72de0a27a9f79d295debc34bbc06d6a5b2c4b31", func := "loop.example/g03002/laws.FnExactSeenByScript", spec := "fnExactSeenByScript", inPlace := ["internal/bytealg.IndexByteString", "internal/bytealg.IndexString"], named := ["internal/bytealg.MaxLen", "internal/strconv.uint64pow10", "math/bits.deBruijn32tab", "math/bits.deBruijn64tab"], apart := false, laid := [("math/bits.deBruijn32tab", laid_math_bits_deBruijn32tab), ("math/bits.deBruijn64tab", laid_math_bits_deBruijn64tab), ("internal/strconv.uint64pow10", laid_internal_strconv_uint64pow10)], narrowed := true }
def FnExactSeenByScriptUptoSaid : Prop := fnExactSeenByScriptUptoRow.holds Tryd.pinned (OpenSpec.upto fnExactSeenByScriptSpec)

/-- 'laws.FnExactParseShown', WHERE WHAT IT READS IS OF BULK AT MOST 1048576: true; the input reads as it did. -/
def fnExactParseShownUptoRow : OpenClaim := { program := "ytfipolbgkppdjaadoor", sum := "db983cdd8912924feb40dadbc72de0a27a9f79d295debc34bbc06d6a5b2c4b31", func := "loop.example/g03002/laws.FnExactParseShown", spec := "fnExactParseShown", inPlace := ["internal/bytealg.IndexByteString", "internal/bytealg.IndexString"], named := ["internal/bytealg.MaxLen", "internal/strconv.uint64pow10", "math/bits.deBruijn32tab", "math/bits.deBruijn64tab"], apart := false, laid := [("math/bits.deBruijn32tab", laid_math_bits_deBruijn32tab), ("math/bits.deBruijn64tab", laid_math_bits_deBruijn64tab), ("internal/strconv.uint64pow10", laid_internal_strconv_uint64pow10)], narrowed := true }
def FnExactParseShownUptoSaid : Prop := fnExactParseShownUptoRow.holds Tryd.pinned (OpenSpec.upto fnExactParseShownSpec)

/-- 'laws.FnExactStaysInside', WHERE WHAT IT READS IS OF BULK AT MOST 1048576: true; the input reads as it did. -/
def fnExactStaysInsideUptoRow : OpenClaim := { program := "ytfipolbgkppdjaadoor", sum := "db983cdd8912924feb40dadbc72de0a27a9f79d295debc34bbc06d6a5b2c4b31", func := "loop.example/g03002/laws.FnExactStaysInside", spec := "fnExactStaysInside", inPlace := ["internal/bytealg.IndexByteString", "internal/bytealg.IndexString"], unfollowed := true, recurses := true, named := ["internal/bytealg.MaxLen", "internal/strconv.uint64pow10", "math/bits.deBruijn32tab", "math/bits.deBruijn64tab"], apart := false, laid := [("math/bits.deBruijn32tab", laid_math_bits_deBruijn32tab), ("math/bits.deBruijn64tab", laid_math_bits_deBruijn64tab), ("internal/strconv.uint64pow10", laid_internal_strconv_uint64pow10)], narrowed := true }
def FnExactStaysInsideUptoSaid : Prop := fnExactStaysInsideUptoRow.holds Tryd.pinned (OpenSpec.upto fnExactStaysInsideSpec)

/-- 'laws.FnShown', WHERE WHAT IT READS IS OF BULK AT MOST 1048576: true; the input reads as it did. -/
def fnShownUptoRow : OpenClaim := { program := "ytfipolbgkppdjaadoor", sum := "db983cdd8912924feb40dadbc72de0a27a9f79d295debc34bbc06d6a5b2c4b31", func := "loop.example/g03002/laws.FnShown", spec := "fnShown", inPlace := ["internal/bytealg.IndexByteString", "internal/bytealg.IndexString"], unfollowed := true, recurses := true, named := ["internal/strconv.uint64pow10", "math/bits.deBruijn32tab", "math/bits.deBruijn64tab", "internal/bytealg.MaxLen"], apart := false, laid := [("math/bits.deBruijn32tab", laid_math_bits_deBruijn32tab), ("math/bits.deBruijn64tab", laid_math_bits_deBruijn64tab), ("internal/strconv.uint64pow10", laid_internal_strconv_uint64pow10)], narrowed := true }
def FnShownUptoSaid : Prop := fnShownUptoRow.holds Tryd.pinned (OpenSpec.upto fnShownSpec)

end Rows
end Go.Proofs.YtfipolbgkppdjaaDoor
