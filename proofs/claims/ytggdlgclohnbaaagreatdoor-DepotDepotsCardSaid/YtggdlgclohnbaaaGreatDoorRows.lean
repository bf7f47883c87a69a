/-
  NARROWER THAN 'FOR EVERY INPUT', by the rows' own cells (each row's printed sentence says how): DepotFalls: laid · DepotWrites: laid · DepotFall: laid · DepotTexts: laid · DepotCards: laid · DepotJoins: laid · DepotSums: laid · DepotBooks: laid · DepotDepots: laid · DepotMessages: laid · DepotEqual: laid.
  DERIVED. THE GIVEN ROWS OF THIS SEAT. 11 by the template 'for every input the law returns true; each argument reads behind the call as it read before'; 0 by the template 'total and deterministic' (their statements: YtggdlgclohnbaaaGreatDoorTotals.lean).
  GIVEN WITH THE SEED: the statements are not yours to turn. If you find one false, say at which input.
  Laid BY PROGRAM, IN A SANDBOX (cutbox-rows.mjs): the forced cells as the released guide's own fill.sh prints them over the translation 3f4e24c91467482e… (all of the seat's roots in one cut). By AI agents, Wed Nov 11 2026. No macro, syntax, notation, axiom, sorry.
-/
import Derived.Test.YtggdlgclohnbaaaGreatDoorChecked
import GoSem.Claim
import GoSem.ClaimJoined
import GoSem.ClaimMapViews
import Derived.JoinedTies
import Derived.KernelRfl
namespace Go.Proofs.YtggdlgclohnbaaaGreatDoor
/- THE CELL 'sum', in the pinned program and in every row, IS THE sha256 OF THE DUMP (.gsa) THAT YtggdlgclohnbaaaGreatDoorProg.lean LOADS. Nothing in Lean hashes anything: it is a label: what it is worth is what the hold of that sum in a sandbox is worth. -/
noncomputable def Tryz.pinned : Pinned := { name := "ytggdlgclohnbaaagreatdoor", sum := "3f4e24c91467482e804788515c757cad3ba16131de067ab14b280e30dfedb80b", checked := Tryz.checked }
namespace Rows
def none {H : Type} : Left H := { results := [], args := [] }

/- WHAT THE LISTED PACKAGE-LEVEL VARIABLES READ AS WHEN THE CALL BEGINS. Each datum BY PROGRAM (the guide's laid-datum.mjs) off the statement by which the dump's own 'gosem.cut.vars' lays the variable. In a bare row this is a premise. The card (YtggdlgclohnbaaaGreatDoorCards.lean) ties it to the program's text. -/
def laid_math_bits_deBruijn32tab {H : Type} : DataW H := .agg [.lit (.int .u8 0), .lit (.int .u8 1), .lit (.int .u8 28), .lit (.int .u8 2), .lit (.int .u8 29), .lit (.int .u8 14), .lit (.int .u8 24), .lit (.int .u8 3), .lit (.int .u8 30), .lit (.int .u8 22), .lit (.int .u8 20), .lit (.int .u8 15), .lit (.int .u8 25), .lit (.int .u8 17), .lit (.int .u8 4), .lit (.int .u8 8), .lit (.int .u8 31), .lit (.int .u8 27), .lit (.int .u8 13), .lit (.int .u8 23), .lit (.int .u8 21), .lit (.int .u8 19), .lit (.int .u8 16), .lit (.int .u8 7), .lit (.int .u8 26), .lit (.int .u8 12), .lit (.int .u8 18), .lit (.int .u8 6), .lit (.int .u8 11), .lit (.int .u8 5), .lit (.int .u8 10), .lit (.int .u8 9)]
def laid_math_bits_deBruijn64tab {H : Type} : DataW H := .agg [.lit (.int .u8 0), .lit (.int .u8 1), .lit (.int .u8 56), .lit (.int .u8 2), .lit (.int .u8 57), .lit (.int .u8 49), .lit (.int .u8 28), .lit (.int .u8 3), .lit (.int .u8 61), .lit (.int .u8 58), .lit (.int .u8 42), .lit (.int .u8 50), .lit (.int .u8 38), .lit (.int .u8 29), .lit (.int .u8 17), .lit (.int .u8 4), .lit (.int .u8 62), .lit (.int .u8 47), .lit (.int .u8 59), .lit (.int .u8 36), .lit (.int .u8 45), .lit (.int .u8 43), .lit (.int .u8 51), .lit (.int .u8 22), .lit (.int .u8 53), .lit (.int .u8 39), .lit (.int .u8 33), .lit (.int .u8 30), .lit (.int .u8 24), .lit (.int .u8 18), .lit (.int .u8 12), .lit (.int .u8 5), .lit (.int .u8 63), .lit (.int .u8 55), .lit (.int .u8 48), .lit (.int .u8 27), .lit (.int .u8 60), .lit (.int .u8 41), .lit (.int .u8 37), .lit (.int .u8 16), .lit (.int .u8 46), .lit (.int .u8 35), .lit (.int .u8 44), .lit (.int .u8 21), .lit (.int .u8 52), .lit (.int .u8 32), .lit (.int .u8 23), .lit (.int .u8 11), .lit (.int .u8 54), .lit (.int .u8 26), .lit (.int .u8 40), .lit (.int .u8 15), .lit (.int .u8 34), .lit (.int .u8 20), .lit (.int .u8 31), .lit (.int .u8 10), .lit (.int .u8 25), .lit (.int .u8 14), .lit (.int .u8 19), .lit (.int .u8 9), .lit (.int .u8 13), .lit (.int .u8 8), .lit (.int .u8 7), .lit (.int .u8 6)]
def laid_internal_strconv_uint64pow10 {H : Type} : DataW H := .agg [.lit (.int .u64 1), .lit (.int .u64 10), .lit (.int .u64 100), .lit (.int .u64 1000), .lit (.int .u64 10000), .lit (.int .u64 100000), .lit (.int .u64 1000000), .lit (.int .u64 10000000), .lit (.int .u64 100000000), .lit (.int .u64 1000000000), .lit (.int .u64 10000000000), .lit (.int .u64 100000000000), .lit (.int .u64 1000000000000), .lit (.int .u64 10000000000000), .lit (.int .u64 100000000000000), .lit (.int .u64 1000000000000000), .lit (.int .u64 10000000000000000), .lit (.int .u64 100000000000000000), .lit (.int .u64 1000000000000000000), .lit (.int .u64 10000000000000000000)]
def laid_strconv_ErrRange {H : Type} : DataW H := .iface "*errors.errorString" (.ptr (.agg [.lit (.string [118, 97, 108, 117, 101, 32, 111, 117, 116, 32, 111, 102, 32, 114, 97, 110, 103, 101])]))
def laid_strconv_ErrSyntax {H : Type} : DataW H := .iface "*errors.errorString" (.ptr (.agg [.lit (.string [105, 110, 118, 97, 108, 105, 100, 32, 115, 121, 110, 116, 97, 120])]))

/-- 'gasolierlaw08.DepotFalls': WHATEVER THE INPUT: true; the input reads as it did. -/
def depotFallsSpec : ChangeSpec := { name := "depotFalls", fn := fun _ => fun
  | [d1, d2] => { results := [.lit (.bool true)], args := [d1, d2] }
  | _ => none }
def depotFallsRow : OpenClaim := { program := "ytggdlgclohnbaaagreatdoor", sum := "3f4e24c91467482e804788515c757cad3ba16131de067ab14b280e30dfedb80b", func := "gasolier/gasolierlaw08.DepotFalls", spec := "depotFalls", inPlace := ["internal/abi.NoEscape", "slices.overlaps[gasolier/api.Card]", "internal/bytealg.IndexByteString", "internal/bytealg.IndexString"], unfollowed := true, recurses := true, named := ["internal/strconv.uint64pow10", "math/bits.deBruijn32tab", "math/bits.deBruijn64tab", "internal/bytealg.MaxLen", "strconv.ErrSyntax", "strconv.ErrRange"], plainKeys := false, apart := false, laid := [("math/bits.deBruijn32tab", laid_math_bits_deBruijn32tab), ("math/bits.deBruijn64tab", laid_math_bits_deBruijn64tab), ("internal/strconv.uint64pow10", laid_internal_strconv_uint64pow10), ("strconv.ErrRange", laid_strconv_ErrRange), ("strconv.ErrSyntax", laid_strconv_ErrSyntax)] }
def DepotFallsSaid : Prop := depotFallsRow.holds Tryz.pinned (OpenSpec.ofChange depotFallsSpec)

/-- ITS FALSE NEIGHBOUR: 'it returns false'. Refute it at one input. -/
def depotFallsWrong : ChangeSpec := { name := "depotFalls", fn := fun _ => fun
  | [d1, d2] => { results := [.lit (.bool false)], args := [d1, d2] }
  | _ => none }
def DepotFallsWrongFalsely : Prop := depotFallsRow.holds Tryz.pinned (OpenSpec.ofChange depotFallsWrong)

/-- 'gasolierlaw08.DepotWrites': WHATEVER THE INPUT: true; the input reads as it did. -/
def depotWritesSpec : ChangeSpec := { name := "depotWrites", fn := fun _ => fun
  | [d1, d2, d3] => { results := [.lit (.bool true)], args := [d1, d2, d3] }
  | _ => none }
def depotWritesRow : OpenClaim := { program := "ytggdlgclohnbaaagreatdoor", sum := "3f4e24c91467482e804788515c757cad3ba16131de067ab14b280e30dfedb80b", func := "gasolier/gasolierlaw08.DepotWrites", spec := "depotWrites", inPlace := ["internal/abi.NoEscape", "slices.overlaps[gasolier/api.Card]", "internal/bytealg.IndexByteString", "internal/bytealg.IndexString"], unfollowed := true, recurses := true, named := ["internal/strconv.uint64pow10", "math/bits.deBruijn32tab", "math/bits.deBruijn64tab", "internal/bytealg.MaxLen", "strconv.ErrSyntax", "strconv.ErrRange"], plainKeys := false, apart := false, laid := [("math/bits.deBruijn32tab", laid_math_bits_deBruijn32tab), ("math/bits.deBruijn64tab", laid_math_bits_deBruijn64tab), ("internal/strconv.uint64pow10", laid_internal_strconv_uint64pow10), ("strconv.ErrRange", laid_strconv_ErrRange), ("strconv.ErrSyntax", laid_strconv_ErrSyntax)] }
def DepotWritesSaid : Prop := depotWritesRow.holds Tryz.pinned (OpenSpec.ofChange depotWritesSpec)

/-- ITS FALSE NEIGHBOUR: 'it returns false'. Refute it at one input. -/
def depotWritesWrong : ChangeSpec := { name := "depotWrites", fn := fun _ => fun
  | [d1, d2, d3] => { results := [.lit (.bool false)], args := [d1, d2, d3] }
  | _ => none }
def DepotWritesWrongFalsely : Prop := depotWritesRow.holds Tryz.pinned (OpenSpec.ofChange depotWritesWrong)

/-- 'gasolierlaw08.DepotFall': WHATEVER THE INPUT: true; the input reads as it did. -/
def depotFallSpec : ChangeSpec := { name := "depotFall", fn := fun _ => fun
  | [d1, d2] => { results := [.lit (.bool true)], args := [d1, d2] }
  | _ => none }
def depotFallRow : OpenClaim := { program := "ytggdlgclohnbaaagreatdoor", sum := "3f4e24c91467482e804788515c757cad3ba16131de067ab14b280e30dfedb80b", func := "gasolier/gasolierlaw08.DepotFall", spec := "depotFall", inPlace := ["internal/abi.NoEscape", "slices.overlaps[gasolier/api.Card]", "internal/bytealg.IndexByteString", "internal/bytealg.IndexString"], unfollowed := true, recurses := true, named := ["internal/strconv.uint64pow10", "math/bits.deBruijn32tab", "math/bits.deBruijn64tab", "internal/bytealg.MaxLen", "strconv.ErrSyntax", "strconv.ErrRange"], plainKeys := false, apart := false, laid := [("math/bits.deBruijn32tab", laid_math_bits_deBruijn32tab), ("math/bits.deBruijn64tab", laid_math_bits_deBruijn64tab), ("internal/strconv.uint64pow10", laid_internal_strconv_uint64pow10), ("strconv.ErrRange", laid_strconv_ErrRange), ("strconv.ErrSyntax", laid_strconv_ErrSyntax)] }
def DepotFallSaid : Prop := depotFallRow.holds Tryz.pinned (OpenSpec.ofChange depotFallSpec)

/-- ITS FALSE NEIGHBOUR: 'it returns false'. Refute it at one input. -/
def depotFallWrong : ChangeSpec := { name := "depotFall", fn := fun _ => fun
  | [d1, d2] => { results := [.lit (.bool false)], args := [d1, d2] }
  | _ => none }
def DepotFallWrongFalsely : Prop := depotFallRow.holds Tryz.pinned (OpenSpec.ofChange depotFallWrong)

/-- 'gasolierlaw08.DepotTexts': WHATEVER THE INPUT: true; the input reads as it did. -/
def depotTextsSpec : ChangeSpec := { name := "depotTexts", fn := fun _ => fun
  | [d] => { results := [.lit (.bool true)], args := [d] }
  | _ => none }
def depotTextsRow : OpenClaim := { program := "ytggdlgclohnbaaagreatdoor", sum := "3f4e24c91467482e804788515c757cad3ba16131de067ab14b280e30dfedb80b", func := "gasolier/gasolierlaw08.DepotTexts", spec := "depotTexts", inPlace := ["internal/abi.NoEscape", "slices.overlaps[gasolier/api.Card]", "internal/bytealg.IndexByteString", "internal/bytealg.IndexString"], unfollowed := true, recurses := true, named := ["internal/strconv.uint64pow10", "math/bits.deBruijn32tab", "math/bits.deBruijn64tab", "internal/bytealg.MaxLen", "strconv.ErrSyntax", "strconv.ErrRange"], plainKeys := false, apart := false, laid := [("math/bits.deBruijn32tab", laid_math_bits_deBruijn32tab), ("math/bits.deBruijn64tab", laid_math_bits_deBruijn64tab), ("internal/strconv.uint64pow10", laid_internal_strconv_uint64pow10), ("strconv.ErrRange", laid_strconv_ErrRange), ("strconv.ErrSyntax", laid_strconv_ErrSyntax)] }
def DepotTextsSaid : Prop := depotTextsRow.holds Tryz.pinned (OpenSpec.ofChange depotTextsSpec)

/-- ITS FALSE NEIGHBOUR: 'it returns false'. Refute it at one input. -/
def depotTextsWrong : ChangeSpec := { name := "depotTexts", fn := fun _ => fun
  | [d] => { results := [.lit (.bool false)], args := [d] }
  | _ => none }
def DepotTextsWrongFalsely : Prop := depotTextsRow.holds Tryz.pinned (OpenSpec.ofChange depotTextsWrong)

/-- 'gasolierlaw08.DepotCards': WHATEVER THE INPUT: true; the input reads as it did. -/
def depotCardsSpec : ChangeSpec := { name := "depotCards", fn := fun _ => fun
  | [d1, d2] => { results := [.lit (.bool true)], args := [d1, d2] }
  | _ => none }
def depotCardsRow : OpenClaim := { program := "ytggdlgclohnbaaagreatdoor", sum := "3f4e24c91467482e804788515c757cad3ba16131de067ab14b280e30dfedb80b", func := "gasolier/gasolierlaw08.DepotCards", spec := "depotCards", inPlace := ["internal/abi.NoEscape", "slices.overlaps[gasolier/api.Card]", "internal/bytealg.IndexByteString", "internal/bytealg.IndexString"], unfollowed := true, recurses := true, named := ["internal/strconv.uint64pow10", "math/bits.deBruijn32tab", "math/bits.deBruijn64tab", "internal/bytealg.MaxLen", "strconv.ErrSyntax", "strconv.ErrRange"], plainKeys := false, apart := false, laid := [("math/bits.deBruijn32tab", laid_math_bits_deBruijn32tab), ("math/bits.deBruijn64tab", laid_math_bits_deBruijn64tab), ("internal/strconv.uint64pow10", laid_internal_strconv_uint64pow10), ("strconv.ErrRange", laid_strconv_ErrRange), ("strconv.ErrSyntax", laid_strconv_ErrSyntax)] }
def DepotCardsSaid : Prop := depotCardsRow.holds Tryz.pinned (OpenSpec.ofChange depotCardsSpec)

/-- ITS FALSE NEIGHBOUR: 'it returns false'. Refute it at one input. -/
def depotCardsWrong : ChangeSpec := { name := "depotCards", fn := fun _ => fun
  | [d1, d2] => { results := [.lit (.bool false)], args := [d1, d2] }
  | _ => none }
def DepotCardsWrongFalsely : Prop := depotCardsRow.holds Tryz.pinned (OpenSpec.ofChange depotCardsWrong)

/-- 'gasolierlaw08.DepotJoins': WHATEVER THE INPUT: true; the input reads as it did. -/
def depotJoinsSpec : ChangeSpec := { name := "depotJoins", fn := fun _ => fun
  | [d1, d2, d3] => { results := [.lit (.bool true)], args := [d1, d2, d3] }
  | _ => none }
def depotJoinsRow : OpenClaim := { program := "ytggdlgclohnbaaagreatdoor", sum := "3f4e24c91467482e804788515c757cad3ba16131de067ab14b280e30dfedb80b", func := "gasolier/gasolierlaw08.DepotJoins", spec := "depotJoins", inPlace := ["internal/abi.NoEscape", "slices.overlaps[gasolier/api.Card]", "internal/bytealg.IndexByteString", "internal/bytealg.IndexString"], unfollowed := true, recurses := true, named := ["internal/strconv.uint64pow10", "math/bits.deBruijn32tab", "math/bits.deBruijn64tab", "internal/bytealg.MaxLen", "strconv.ErrSyntax", "strconv.ErrRange"], plainKeys := false, apart := false, laid := [("math/bits.deBruijn32tab", laid_math_bits_deBruijn32tab), ("math/bits.deBruijn64tab", laid_math_bits_deBruijn64tab), ("internal/strconv.uint64pow10", laid_internal_strconv_uint64pow10), ("strconv.ErrRange", laid_strconv_ErrRange), ("strconv.ErrSyntax", laid_strconv_ErrSyntax)] }
def DepotJoinsSaid : Prop := depotJoinsRow.holds Tryz.pinned (OpenSpec.ofChange depotJoinsSpec)

/-- ITS FALSE NEIGHBOUR: 'it returns false'. Refute it at one input. -/
def depotJoinsWrong : ChangeSpec := { name := "depotJoins", fn := fun _ => fun
  | [d1, d2, d3] => { results := [.lit (.bool false)], args := [d1, d2, d3] }
  | _ => none }
def DepotJoinsWrongFalsely : Prop := depotJoinsRow.holds Tryz.pinned (OpenSpec.ofChange depotJoinsWrong)

/-- 'gasolierlaw08.DepotSums': WHATEVER THE INPUT: true; the input reads as it did. -/
def depotSumsSpec : ChangeSpec := { name := "depotSums", fn := fun _ => fun
  | [d1, d2, d3] => { results := [.lit (.bool true)], args := [d1, d2, d3] }
  | _ => none }
def depotSumsRow : OpenClaim := { program := "ytggdlgclohnbaaagreatdoor", sum := "3f4e24c91467482e804788515c757cad3ba16131de067ab14b280e30dfedb80b", func := "gasolier/gasolierlaw08.DepotSums", spec := "depotSums", inPlace := ["internal/abi.NoEscape", "slices.overlaps[gasolier/api.Card]", "internal/bytealg.IndexByteString", "internal/bytealg.IndexString"], unfollowed := true, recurses := true, named := ["internal/strconv.uint64pow10", "math/bits.deBruijn32tab", "math/bits.deBruijn64tab", "internal/bytealg.MaxLen", "strconv.ErrSyntax", "strconv.ErrRange"], plainKeys := false, apart := false, laid := [("math/bits.deBruijn32tab", laid_math_bits_deBruijn32tab), ("math/bits.deBruijn64tab", laid_math_bits_deBruijn64tab), ("internal/strconv.uint64pow10", laid_internal_strconv_uint64pow10), ("strconv.ErrRange", laid_strconv_ErrRange), ("strconv.ErrSyntax", laid_strconv_ErrSyntax)] }
def DepotSumsSaid : Prop := depotSumsRow.holds Tryz.pinned (OpenSpec.ofChange depotSumsSpec)

/-- ITS FALSE NEIGHBOUR: 'it returns false'. Refute it at one input. -/
def depotSumsWrong : ChangeSpec := { name := "depotSums", fn := fun _ => fun
  | [d1, d2, d3] => { results := [.lit (.bool false)], args := [d1, d2, d3] }
  | _ => none }
def DepotSumsWrongFalsely : Prop := depotSumsRow.holds Tryz.pinned (OpenSpec.ofChange depotSumsWrong)

/-- 'gasolierlaw08.DepotBooks': WHATEVER THE INPUT: true; the input reads as it did. -/
def depotBooksSpec : ChangeSpec := { name := "depotBooks", fn := fun _ => fun
  | [d1, d2, d3] => { results := [.lit (.bool true)], args := [d1, d2, d3] }
  | _ => none }
def depotBooksRow : OpenClaim := { program := "ytggdlgclohnbaaagreatdoor", sum := "3f4e24c91467482e804788515c757cad3ba16131de067ab14b280e30dfedb80b", func := "gasolier/gasolierlaw08.DepotBooks", spec := "depotBooks", inPlace := ["internal/abi.NoEscape", "slices.overlaps[gasolier/api.Card]", "internal/bytealg.IndexByteString", "internal/bytealg.IndexString"], unfollowed := true, recurses := true, named := ["internal/strconv.uint64pow10", "math/bits.deBruijn32tab", "math/bits.deBruijn64tab", "internal/bytealg.MaxLen", "strconv.ErrSyntax", "strconv.ErrRange"], plainKeys := false, apart := false, laid := [("math/bits.deBruijn32tab", laid_math_bits_deBruijn32tab), ("math/bits.deBruijn64tab", laid_math_bits_deBruijn64tab), ("internal/strconv.uint64pow10", laid_internal_strconv_uint64pow10), ("strconv.ErrRange", laid_strconv_ErrRange), ("strconv.ErrSyntax", laid_strconv_ErrSyntax)] }
def DepotBooksSaid : Prop := depotBooksRow.holds Tryz.pinned (OpenSpec.ofChange depotBooksSpec)

/-- ITS FALSE NEIGHBOUR: 'it returns false'. Refute it at one input. -/
def depotBooksWrong : ChangeSpec := { name := "depotBooks", fn := fun _ => fun
  | [d1, d2, d3] => { results := [.lit (.bool false)], args := [d1, d2, d3] }
  | _ => none }
def DepotBooksWrongFalsely : Prop := depotBooksRow.holds Tryz.pinned (OpenSpec.ofChange depotBooksWrong)

/-- 'gasolierlaw08.DepotDepots': WHATEVER THE INPUT: true; the input reads as it did. -/
def depotDepotsSpec : ChangeSpec := { name := "depotDepots", fn := fun _ => fun
  | [d1, d2] => { results := [.lit (.bool true)], args := [d1, d2] }
  | _ => none }
def depotDepotsRow : OpenClaim := { program := "ytggdlgclohnbaaagreatdoor", sum := "3f4e24c91467482e804788515c757cad3ba16131de067ab14b280e30dfedb80b", func := "gasolier/gasolierlaw08.DepotDepots", spec := "depotDepots", inPlace := ["internal/abi.NoEscape", "slices.overlaps[gasolier/api.Card]", "internal/bytealg.IndexByteString", "internal/bytealg.IndexString"], unfollowed := true, recurses := true, named := ["internal/strconv.uint64pow10", "math/bits.deBruijn32tab", "math/bits.deBruijn64tab", "internal/bytealg.MaxLen", "strconv.ErrSyntax", "strconv.ErrRange"], plainKeys := false, apart := false, laid := [("math/bits.deBruijn32tab", laid_math_bits_deBruijn32tab), ("math/bits.deBruijn64tab", laid_math_bits_deBruijn64tab), ("internal/strconv.uint64pow10", laid_internal_strconv_uint64pow10), ("strconv.ErrRange", laid_strconv_ErrRange), ("strconv.ErrSyntax", laid_strconv_ErrSyntax)] }
def DepotDepotsSaid : Prop := depotDepotsRow.holds Tryz.pinned (OpenSpec.ofChange depotDepotsSpec)

/-- ITS FALSE NEIGHBOUR: 'it returns false'. Refute it at one input. -/
def depotDepotsWrong : ChangeSpec := { name := "depotDepots", fn := fun _ => fun
  | [d1, d2] => { results := [.lit (.bool false)], args := [d1, d2] }
  | _ => none }
def DepotDepotsWrongFalsely : Prop := depotDepotsRow.holds Tryz.pinned (OpenSpec.ofChange depotDepotsWrong)

/-- 'gasolierlaw08.DepotMessages': WHATEVER THE INPUT: true; the input reads as it did. -/
def depotMessagesSpec : ChangeSpec := { name := "depotMessages", fn := fun _ => fun
  | [d1, d2] => { results := [.lit (.bool true)], args := [d1, d2] }
  | _ => none }
def depotMessagesRow : OpenClaim := { program := "ytggdlgclohnbaaagreatdoor", sum := "3f4e24c91467482e804788515c757cad3ba16131de067ab14b280e30dfedb80b", func := "gasolier/gasolierlaw08.DepotMessages", spec := "depotMessages", inPlace := ["internal/abi.NoEscape", "slices.overlaps[gasolier/api.Card]", "internal/bytealg.IndexByteString", "internal/bytealg.IndexString"], unfollowed := true, recurses := true, named := ["internal/strconv.uint64pow10", "math/bits.deBruijn32tab", "math/bits.deBruijn64tab", "internal/bytealg.MaxLen", "strconv.ErrSyntax", "strconv.ErrRange"], plainKeys := false, apart := false, laid := [("math/bits.deBruijn32tab", laid_math_bits_deBruijn32tab), ("math/bits.deBruijn64tab", laid_math_bits_deBruijn64tab), ("internal/strconv.uint64pow10", laid_internal_strconv_uint64pow10), ("strconv.ErrRange", laid_strconv_ErrRange), ("strconv.ErrSyntax", laid_strconv_ErrSyntax)] }
def DepotMessagesSaid : Prop := depotMessagesRow.holds Tryz.pinned (OpenSpec.ofChange depotMessagesSpec)

/-- ITS FALSE NEIGHBOUR: 'it returns false'. Refute it at one input. -/
def depotMessagesWrong : ChangeSpec := { name := "depotMessages", fn := fun _ => fun
  | [d1, d2] => { results := [.lit (.bool false)], args := [d1, d2] }
  | _ => none }
def DepotMessagesWrongFalsely : Prop := depotMessagesRow.holds Tryz.pinned (OpenSpec.ofChange depotMessagesWrong)

/-- 'gasolierlaw08.DepotEqual': WHATEVER THE INPUT: true; the input reads as it did. -/
def depotEqualSpec : ChangeSpec := { name := "depotEqual", fn := fun _ => fun
  | [d1, d2] => { results := [.lit (.bool true)], args := [d1, d2] }
  | _ => none }
def depotEqualRow : OpenClaim := { program := "ytggdlgclohnbaaagreatdoor", sum := "3f4e24c91467482e804788515c757cad3ba16131de067ab14b280e30dfedb80b", func := "gasolier/gasolierlaw08.DepotEqual", spec := "depotEqual", inPlace := ["internal/abi.NoEscape", "slices.overlaps[gasolier/api.Card]", "internal/bytealg.IndexByteString", "internal/bytealg.IndexString"], unfollowed := true, recurses := true, named := ["internal/strconv.uint64pow10", "math/bits.deBruijn32tab", "math/bits.deBruijn64tab", "internal/bytealg.MaxLen", "strconv.ErrSyntax", "strconv.ErrRange"], plainKeys := false, apart := false, laid := [("math/bits.deBruijn32tab", laid_math_bits_deBruijn32tab), ("math/bits.deBruijn64tab", laid_math_bits_deBruijn64tab), ("internal/strconv.uint64pow10", laid_internal_strconv_uint64pow10), ("strconv.ErrRange", laid_strconv_ErrRange), ("strconv.ErrSyntax", laid_strconv_ErrSyntax)] }
def DepotEqualSaid : Prop := depotEqualRow.holds Tryz.pinned (OpenSpec.ofChange depotEqualSpec)

/-- ITS FALSE NEIGHBOUR: 'it returns false'. Refute it at one input. -/
def depotEqualWrong : ChangeSpec := { name := "depotEqual", fn := fun _ => fun
  | [d1, d2] => { results := [.lit (.bool false)], args := [d1, d2] }
  | _ => none }
def DepotEqualWrongFalsely : Prop := depotEqualRow.holds Tryz.pinned (OpenSpec.ofChange depotEqualWrong)

/- THE SECOND FORM. 'bulk': how many values and letters a reading holds, each counted each time it is reached (what is shared counts as often as it is met; a slice's spare places count too). A statement '..UptoSaid' is the law's where the arguments, and the package variables that the reading takes, are together of bulk at most 1048576: NARROWER than '..Said'. Prove '..Said' where nothing that the law and all that it calls make is longer than what came in: it says more and counts as full. Else prove '..UptoSaid'. A law counts once. -/
mutual
def uptoBulk {H : Type} : DataW H → Nat
  | .lit (.string bytes) => bytes.length + 1
  | .lit _ => 1
  | .nil => 1
  | .ptr d => uptoBulk d + 1
  | .slice elems spare => uptoBulkAll elems + uptoBulkAll spare + 1
  | .agg parts => uptoBulkAll parts + 1
  | .iface _ d => uptoBulk d + 1
  | .map entries => uptoBulkEntries entries + 1
  | .held _ => 1
def uptoBulkAll {H : Type} : List (DataW H) → Nat
  | [] => 0
  | d :: r => uptoBulk d + uptoBulkAll r
def uptoBulkEntries {H : Type} : List (Lit × DataW H) → Nat
  | [] => 0
  | x :: r => uptoBulkEntry x + uptoBulkEntries r
def uptoBulkEntry {H : Type} : Lit × DataW H → Nat
  | (.string bytes, d) => bytes.length + uptoBulk d + 1
  | (_, d) => uptoBulk d + 1
 end
def uptoSmall : (H : Type) → List (DataW H) → Bool := fun _ ds => decide (uptoBulkAll ds ≤ 1048576)
def OpenSpec.upto (s : _root_.Go.ChangeSpec) : _root_.Go.OpenSpec := { _root_.Go.OpenSpec.ofChange s with cond := some uptoSmall }

/-- 'gasolierlaw08.DepotFalls', WHERE WHAT IT READS IS OF BULK AT MOST 1048576: true; the input reads as it did. -/
def depotFallsUptoRow : OpenClaim := { program := "ytggdlgclohnbaaagreatdoor", sum := "3f4e24c91467482e804788515c757cad3ba16131de067ab14b280e30dfedb80b", func := "gasolier/gasolierlaw08.DepotFalls", spec := "depotFalls", inPlace := ["internal/abi.NoEscape", "slices.overlaps[gasolier/api.Card]", "internal/bytealg.IndexByteString", "internal/bytealg.IndexString"], unfollowed := true, recurses := true, named := ["internal/strconv.uint64pow10", "math/bits.deBruijn32tab", "math/bits.deBruijn64tab", "internal/bytealg.MaxLen", "strconv.ErrSyntax", "strconv.ErrRange"], plainKeys := false, apart := false, laid := [("math/bits.deBruijn32tab", laid_math_bits_deBruijn32tab), ("math/bits.deBruijn64tab", laid_math_bits_deBruijn64tab), ("internal/strconv.uint64pow10", laid_internal_strconv_uint64pow10), ("strconv.ErrRange", laid_strconv_ErrRange), ("strconv.ErrSyntax", laid_strconv_ErrSyntax)], narrowed := true }
def DepotFallsUptoSaid : Prop := depotFallsUptoRow.holds Tryz.pinned (OpenSpec.upto depotFallsSpec)

/-- 'gasolierlaw08.DepotWrites', WHERE WHAT IT READS IS OF BULK AT MOST 1048576: true; the input reads as it did. -/
def depotWritesUptoRow : OpenClaim := { program := "ytggdlgclohnbaaagreatdoor", sum := "3f4e24c91467482e804788515c757cad3ba16131de067ab14b280e30dfedb80b", func := "gasolier/gasolierlaw08.DepotWrites", spec := "depotWrites", inPlace := ["internal/abi.NoEscape", "slices.overlaps[gasolier/api.Card]", "internal/bytealg.IndexByteString", "internal/bytealg.IndexString"], unfollowed := true, recurses := true, named := ["internal/strconv.uint64pow10", "math/bits.deBruijn32tab", "math/bits.deBruijn64tab", "internal/bytealg.MaxLen", "strconv.ErrSyntax", "strconv.ErrRange"], plainKeys := false, apart := false, laid := [("math/bits.deBruijn32tab", laid_math_bits_deBruijn32tab), ("math/bits.deBruijn64tab", laid_math_bits_deBruijn64tab), ("internal/strconv.uint64pow10", laid_internal_strconv_uint64pow10), ("strconv.ErrRange", laid_strconv_ErrRange), ("strconv.ErrSyntax", laid_strconv_ErrSyntax)], narrowed := true }
def DepotWritesUptoSaid : Prop := depotWritesUptoRow.holds Tryz.pinned (OpenSpec.upto depotWritesSpec)

/-- 'gasolierlaw08.DepotFall', WHERE WHAT IT READS IS OF BULK AT MOST 1048576: true; the input reads as it did. -/
def depotFallUptoRow : OpenClaim := { program := "ytggdlgclohnbaaagreatdoor", sum := "3f4e24c91467482e804788515c757cad3ba16131de067ab14b280e30dfedb80b", func := "gasolier/gasolierlaw08.DepotFall", spec := "depotFall", inPlace := ["internal/abi.NoEscape", "slices.overlaps[gasolier/api.Card]", "internal/bytealg.IndexByteString", "internal/bytealg.IndexString"], unfollowed := true, recurses := true, named := ["internal/strconv.uint64pow10", "math/bits.deBruijn32tab", "math/bits.deBruijn64tab", "internal/bytealg.MaxLen", "strconv.ErrSyntax", "strconv.ErrRange"], plainKeys := false, apart := false, laid := [("math/bits.deBruijn32tab", laid_math_bits_deBruijn32tab), ("math/bits.deBruijn64tab", laid_math_bits_deBruijn64tab), ("internal/strconv.uint64pow10", laid_internal_strconv_uint64pow10), ("strconv.ErrRange", laid_strconv_ErrRange), ("strconv.ErrSyntax", laid_strconv_ErrSyntax)], narrowed := true }
def DepotFallUptoSaid : Prop := depotFallUptoRow.holds Tryz.pinned (OpenSpec.upto depotFallSpec)

/-- 'gasolierlaw08.DepotTexts', WHERE WHAT IT READS IS OF BULK AT MOST 1048576: true; the input reads as it did. -/
def depotTextsUptoRow : OpenClaim := { program := "ytggdlgclohnbaaagreatdoor", sum := "3f4e24c91467482e804788515c757cad3ba16131de067ab14b280e30dfedb80b", func := "gasolier/gasolierlaw08.DepotTexts", spec := "depotTexts", inPlace := ["internal/abi.NoEscape", "slices.overlaps[gasolier/api.Card]", "internal/bytealg.IndexByteString", "internal/bytealg.IndexString"], unfollowed := true, recurses := true, named := ["internal/strconv.uint64pow10", "math/bits.deBruijn32tab", "math/bits.deBruijn64tab", "internal/bytealg.MaxLen", "strconv.ErrSyntax", "strconv.ErrRange"], plainKeys := false, apart := false, laid := [("math/bits.deBruijn32tab", laid_math_bits_deBruijn32tab), ("math/bits.deBruijn64tab", laid_math_bits_deBruijn64tab), ("internal/strconv.uint64pow10", laid_internal_strconv_uint64pow10), ("strconv.ErrRange", laid_strconv_ErrRange), ("strconv.ErrSyntax", laid_strconv_ErrSyntax)], narrowed := true }
def DepotTextsUptoSaid : Prop := depotTextsUptoRow.holds Tryz.pinned (OpenSpec.upto depotTextsSpec)

/-- 'gasolierlaw08.DepotCards', WHERE WHAT IT READS IS OF BULK AT MOST 1048576: true; the input reads as it did. -/
def depotCardsUptoRow : OpenClaim := { program := "ytggdlgclohnbaaagreatdoor", sum := "3f4e24c91467482e804788515c757cad3ba16131de067ab14b280e30dfedb80b", func := "gasolier/gasolierlaw08.DepotCards", spec := "depotCards", inPlace := ["internal/abi.NoEscape", "slices.overlaps[gasolier/api.Card]", "internal/bytealg.IndexByteString", "internal/bytealg.IndexString"], unfollowed := true, recurses := true, named := ["internal/strconv.uint64pow10", "math/bits.deBruijn32tab", "math/bits.deBruijn64tab", "internal/bytealg.MaxLen", "strconv.ErrSyntax", "strconv.ErrRange"], plainKeys := false, apart := false, laid := [("math/bits.deBruijn32tab", laid_math_bits_deBruijn32tab), ("math/bits.deBruijn64tab", laid_math_bits_deBruijn64tab), ("internal/strconv.uint64pow10", laid_internal_strconv_uint64pow10), ("strconv.ErrRange", laid_strconv_ErrRange), ("strconv.ErrSyntax", laid_strconv_ErrSyntax)], narrowed := true }
def DepotCardsUptoSaid : Prop := depotCardsUptoRow.holds Tryz.pinned (OpenSpec.upto depotCardsSpec)

/-- 'gasolierlaw08.DepotJoins', WHERE WHAT IT READS IS OF BULK AT MOST 1048576: true; the input reads as it did. -/
def depotJoinsUptoRow : OpenClaim := { program := "ytggdlgclohnbaaagreatdoor", sum := "3f4e24c91467482e804788515c757cad3ba16131de067ab14b280e30dfedb80b", func := "gasolier/gasolierlaw08.DepotJoins", spec := "depotJoins", inPlace := ["internal/abi.NoEscape", "slices.overlaps[gasolier/api.Card]", "internal/bytealg.IndexByteString", "internal/bytealg.IndexString"], unfollowed := true, recurses := true, named := ["internal/strconv.uint64pow10", "math/bits.deBruijn32tab", "math/bits.deBruijn64tab", "internal/bytealg.MaxLen", "strconv.ErrSyntax", "strconv.ErrRange"], plainKeys := false, apart := false, laid := [("math/bits.deBruijn32tab", laid_math_bits_deBruijn32tab), ("math/bits.deBruijn64tab", laid_math_bits_deBruijn64tab), ("internal/strconv.uint64pow10", laid_internal_strconv_uint64pow10), ("strconv.ErrRange", laid_strconv_ErrRange), ("strconv.ErrSyntax", laid_strconv_ErrSyntax)], narrowed := true }
def DepotJoinsUptoSaid : Prop := depotJoinsUptoRow.holds Tryz.pinned (OpenSpec.upto depotJoinsSpec)

/-- 'gasolierlaw08.DepotSums', WHERE WHAT IT READS IS OF BULK AT MOST 1048576: true; the input reads as it did. -/
def depotSumsUptoRow : OpenClaim := { program := "ytggdlgclohnbaaagreatdoor", sum := "3f4e24c91467482e804788515c757cad3ba16131de067ab14b280e30dfedb80b", func := "gasolier/gasolierlaw08.DepotSums", spec := "depotSums", inPlace := ["internal/abi.NoEscape", "slices.overlaps[gasolier/api.Card]", "internal/bytealg.IndexByteString", "internal/bytealg.IndexString"], unfollowed := true, recurses := true, named := ["internal/strconv.uint64pow10", "math/bits.deBruijn32tab", "math/bits.deBruijn64tab", "internal/bytealg.MaxLen", "strconv.ErrSyntax", "strconv.ErrRange"], plainKeys := false, apart := false, laid := [("math/bits.deBruijn32tab", laid_math_bits_deBruijn32tab), ("math/bits.deBruijn64tab", laid_math_bits_deBruijn64tab), ("internal/strconv.uint64pow10", laid_internal_strconv_uint64pow10), ("strconv.ErrRange", laid_strconv_ErrRange), ("strconv.ErrSyntax", laid_strconv_ErrSyntax)], narrowed := true }
def DepotSumsUptoSaid : Prop := depotSumsUptoRow.holds Tryz.pinned (OpenSpec.upto depotSumsSpec)

/-- 'gasolierlaw08.DepotBooks', WHERE WHAT IT READS IS OF BULK AT MOST 1048576: true; the input reads as it did. -/
def depotBooksUptoRow : OpenClaim := { program := "ytggdlgclohnbaaagreatdoor", sum := "3f4e24c91467482e804788515c757cad3ba16131de067ab14b280e30dfedb80b", func := "gasolier/gasolierlaw08.DepotBooks", spec := "depotBooks", inPlace := ["internal/abi.NoEscape", "slices.overlaps[gasolier/api.Card]", "internal/bytealg.IndexByteString", "internal/bytealg.IndexString"], unfollowed := true, recurses := true, named := ["internal/strconv.uint64pow10", "math/bits.deBruijn32tab", "math/bits.deBruijn64tab", "internal/bytealg.MaxLen", "strconv.ErrSyntax", "strconv.ErrRange"], plainKeys := false, apart := false, laid := [("math/bits.deBruijn32tab", laid_math_bits_deBruijn32tab), ("math/bits.deBruijn64tab", laid_math_bits_deBruijn64tab), ("internal/strconv.uint64pow10", laid_internal_strconv_uint64pow10), ("strconv.ErrRange", laid_strconv_ErrRange), ("strconv.ErrSyntax", laid_strconv_ErrSyntax)], narrowed := true }
def DepotBooksUptoSaid : Prop := depotBooksUptoRow.holds Tryz.pinned (OpenSpec.upto depotBooksSpec)

/-- 'gasolierlaw08.DepotDepots', WHERE WHAT IT READS IS OF BULK AT MOST 1048576: true; the input reads as it did. -/
def depotDepotsUptoRow : OpenClaim := { program := "ytggdlgclohnbaaagreatdoor", sum := "3f4e24c91467482e804788515c757cad3ba16131de067ab14b280e30dfedb80b", func := "gasolier/gasolierlaw08.DepotDepots", spec := "depotDepots", inPlace := ["internal/abi.NoEscape", "slices.overlaps[gasolier/api.Card]", "internal/bytealg.IndexByteString", "internal/bytealg.IndexString"], unfollowed := true, recurses := true, named := ["internal/strconv.uint64pow10", "math/bits.deBruijn32tab", "math/bits.deBruijn64tab", "internal/bytealg.MaxLen", "strconv.ErrSyntax", "strconv.ErrRange"], plainKeys := false, apart := false, laid := [("math/bits.deBruijn32tab", laid_math_bits_deBruijn32tab), ("math/bits.deBruijn64tab", laid_math_bits_deBruijn64tab), ("internal/strconv.uint64pow10", laid_internal_strconv_uint64pow10), ("strconv.ErrRange", laid_strconv_ErrRange), ("strconv.ErrSyntax", laid_strconv_ErrSyntax)], narrowed := true }
def DepotDepotsUptoSaid : Prop := depotDepotsUptoRow.holds Tryz.pinned (OpenSpec.upto depotDepotsSpec)

/-- 'gasolierlaw08.DepotMessages', WHERE WHAT IT READS IS OF BULK AT MOST 1048576: true; the input reads as it did. -/
def depotMessagesUptoRow : OpenClaim := { program := "ytggdlgclohnbaaagreatdoor", sum := "3f4e24c91467482e804788515c757cad3ba16131de067ab14b280e30dfedb80b", func := "gasolier/gasolierlaw08.DepotMessages", spec := "depotMessages", inPlace := ["internal/abi.NoEscape", "slices.overlaps[gasolier/api.Card]", "internal/bytealg.IndexByteString", "internal/bytealg.IndexString"], unfollowed := true, recurses := true, named := ["internal/strconv.uint64pow10", "math/bits.deBruijn32tab", "math/bits.deBruijn64tab", "internal/bytealg.MaxLen", "strconv.ErrSyntax", "strconv.ErrRange"], plainKeys := false, apart := false, laid := [("math/bits.deBruijn32tab", laid_math_bits_deBruijn32tab), ("math/bits.deBruijn64tab", laid_math_bits_deBruijn64tab), ("internal/strconv.uint64pow10", laid_internal_strconv_uint64pow10), ("strconv.ErrRange", laid_strconv_ErrRange), ("strconv.ErrSyntax", laid_strconv_ErrSyntax)], narrowed := true }
def DepotMessagesUptoSaid : Prop := depotMessagesUptoRow.holds Tryz.pinned (OpenSpec.upto depotMessagesSpec)

/-- 'gasolierlaw08.DepotEqual', WHERE WHAT IT READS IS OF BULK AT MOST 1048576: true; the input reads as it did. -/
def depotEqualUptoRow : OpenClaim := { program := "ytggdlgclohnbaaagreatdoor", sum := "3f4e24c91467482e804788515c757cad3ba16131de067ab14b280e30dfedb80b", func := "gasolier/gasolierlaw08.DepotEqual", spec := "depotEqual", inPlace := ["internal/abi.NoEscape", "slices.overlaps[gasolier/api.Card]", "internal/bytealg.IndexByteString", "internal/bytealg.IndexString"], unfollowed := true, recurses := true, named := ["internal/strconv.uint64pow10", "math/bits.deBruijn32tab", "math/bits.deBruijn64tab", "internal/bytealg.MaxLen", "strconv.ErrSyntax", "strconv.ErrRange"], plainKeys := false, apart := false, laid := [("math/bits.deBruijn32tab", laid_math_bits_deBruijn32tab), ("math/bits.deBruijn64tab", laid_math_bits_deBruijn64tab), ("internal/strconv.uint64pow10", laid_internal_strconv_uint64pow10), ("strconv.ErrRange", laid_strconv_ErrRange), ("strconv.ErrSyntax", laid_strconv_ErrSyntax)], narrowed := true }
def DepotEqualUptoSaid : Prop := depotEqualUptoRow.holds Tryz.pinned (OpenSpec.upto depotEqualSpec)

end Rows
end Go.Proofs.YtggdlgclohnbaaaGreatDoor
