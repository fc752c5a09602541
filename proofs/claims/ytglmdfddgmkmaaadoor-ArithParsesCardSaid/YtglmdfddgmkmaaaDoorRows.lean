/-
  NARROWER THAN 'FOR EVERY INPUT', by the rows' own cells (each row's printed sentence says how): ArithParses: laid · ArithShows: loops, laid · ArithValid: loops, laid · ArithSame: loops, laid · ArithBack: loops, laid · ArithAgain: laid · ArithParens: laid · CalcNumbers: laid · CalcFolds: loops, laid · CalcKeeps: loops, laid · CalcAssigns: loops, laid · CalcDivides: laid · CalcCompares: laid.
  DERIVED. THE GIVEN ROWS OF THIS SEAT. 13 by the template 'for every input the law returns true; each argument reads behind the call as it read before'; 0 by the template 'total and deterministic' (their statements: YtglmdfddgmkmaaaDoorTotals.lean).
  GIVEN WITH THE SEED: the statements are not yours to turn. If you find one false, say at which input.
  Laid BY PROGRAM, IN A SANDBOX (cutbox-rows.mjs): the forced cells as the released guide's own fill.sh prints them over the translation 580a5bdd5c2cf130… (all of the seat's roots in one cut). By AI agents, Wed Nov 11 2026. No macro, syntax, notation, axiom, sorry.
-/
import Derived.Test.YtglmdfddgmkmaaaDoorChecked
import GoSem.Claim
import GoSem.ClaimJoined
import GoSem.ClaimMapViews
import Derived.JoinedTies
import Derived.KernelRfl
namespace Go.Proofs.YtglmdfddgmkmaaaDoor
/- THE CELL 'sum', in the pinned program and in every row, IS THE sha256 OF THE DUMP (.gsa) THAT YtglmdfddgmkmaaaDoorProg.lean LOADS. Nothing in Lean hashes anything: it is a label: what it is worth is what the hold of that sum in a sandbox is worth. -/
noncomputable def Tryd.pinned : Pinned := { name := "ytglmdfddgmkmaaadoor", sum := "580a5bdd5c2cf1305aa466c781559e87c503e1dc8fef5a9a17590b0982e7e176", checked := Tryd.checked }
namespace Rows
def none {H : Type} : Left H := { results := [], args := [] }

/- WHAT THE LISTED PACKAGE-LEVEL VARIABLES READ AS WHEN THE CALL BEGINS. Each datum BY PROGRAM (the guide's laid-datum.mjs) off the statement by which the dump's own 'gosem.cut.vars' lays the variable. In a bare row this is a premise. The card (YtglmdfddgmkmaaaDoorCards.lean) ties it to the program's text. -/
def laid_math_bits_deBruijn32tab {H : Type} : DataW H := .agg [.lit (.int .u8 0), .lit (.int .u8 1), .lit (.int .u8 28), .lit (.int .u8 2), .lit (.int .u8 29), .lit (.int .u8 14), .lit (.int .u8 24), .lit (.int .u8 3), .lit (.int .u8 30), .lit (.int .u8 22), .lit (.int .u8 20), .lit (.int .u8 15), .lit (.int .u8 25), .lit (.int .u8 17), .lit (.int .u8 4), .lit (.int .u8 8), .lit (.int .u8 31), .lit (.int .u8 27), .lit (.int .u8 13), .lit (.int .u8 23), .lit (.int .u8 21), .lit (.int .u8 19), .lit (.int .u8 16), .lit (.int .u8 7), .lit (.int .u8 26), .lit (.int .u8 12), .lit (.int .u8 18), .lit (.int .u8 6), .lit (.int .u8 11), .lit (.int .u8 5), .lit (.int .u8 10), .lit (.int .u8 9)]
def laid_math_bits_deBruijn64tab {H : Type} : DataW H := .agg [.lit (.int .u8 0), .lit (.int .u8 1), .lit (.int .u8 56), .lit (.int .u8 2), .lit (.int .u8 57), .lit (.int .u8 49), .lit (.int .u8 28), .lit (.int .u8 3), .lit (.int .u8 61), .lit (.int .u8 58), .lit (.int .u8 42), .lit (.int .u8 50), .lit (.int .u8 38), .lit (.int .u8 29), .lit (.int .u8 17), .lit (.int .u8 4), .lit (.int .u8 62), .lit (.int .u8 47), .lit (.int .u8 59), .lit (.int .u8 36), .lit (.int .u8 45), .lit (.int .u8 43), .lit (.int .u8 51), .lit (.int .u8 22), .lit (.int .u8 53), .lit (.int .u8 39), .lit (.int .u8 33), .lit (.int .u8 30), .lit (.int .u8 24), .lit (.int .u8 18), .lit (.int .u8 12), .lit (.int .u8 5), .lit (.int .u8 63), .lit (.int .u8 55), .lit (.int .u8 48), .lit (.int .u8 27), .lit (.int .u8 60), .lit (.int .u8 41), .lit (.int .u8 37), .lit (.int .u8 16), .lit (.int .u8 46), .lit (.int .u8 35), .lit (.int .u8 44), .lit (.int .u8 21), .lit (.int .u8 52), .lit (.int .u8 32), .lit (.int .u8 23), .lit (.int .u8 11), .lit (.int .u8 54), .lit (.int .u8 26), .lit (.int .u8 40), .lit (.int .u8 15), .lit (.int .u8 34), .lit (.int .u8 20), .lit (.int .u8 31), .lit (.int .u8 10), .lit (.int .u8 25), .lit (.int .u8 14), .lit (.int .u8 19), .lit (.int .u8 9), .lit (.int .u8 13), .lit (.int .u8 8), .lit (.int .u8 7), .lit (.int .u8 6)]
def laid_internal_strconv_uint64pow10 {H : Type} : DataW H := .agg [.lit (.int .u64 1), .lit (.int .u64 10), .lit (.int .u64 100), .lit (.int .u64 1000), .lit (.int .u64 10000), .lit (.int .u64 100000), .lit (.int .u64 1000000), .lit (.int .u64 10000000), .lit (.int .u64 100000000), .lit (.int .u64 1000000000), .lit (.int .u64 10000000000), .lit (.int .u64 100000000000), .lit (.int .u64 1000000000000), .lit (.int .u64 10000000000000), .lit (.int .u64 100000000000000), .lit (.int .u64 1000000000000000), .lit (.int .u64 10000000000000000), .lit (.int .u64 100000000000000000), .lit (.int .u64 1000000000000000000), .lit (.int .u64 10000000000000000000)]
def laid_strconv_ErrRange {H : Type} : DataW H := .iface "*errors.errorString" (.ptr (.agg [.lit (.string [118, 97, 108, 117, 101, 32, 111, 117, 116, 32, 111, 102, 32, 114, 97, 110, 103, 101])]))
def laid_strconv_ErrSyntax {H : Type} : DataW H := .iface "*errors.errorString" (.ptr (.agg [.lit (.string [105, 110, 118, 97, 108, 105, 100, 32, 115, 121, 110, 116, 97, 120])]))

/-- 'jobshelllaw05.ArithParses': WHATEVER THE INPUT: true; the input reads as it did. -/
def arithParsesSpec : ChangeSpec := { name := "arithParses", fn := fun _ => fun
  | [d] => { results := [.lit (.bool true)], args := [d] }
  | _ => none }
def arithParsesRow : OpenClaim := { program := "ytglmdfddgmkmaaadoor", sum := "580a5bdd5c2cf1305aa466c781559e87c503e1dc8fef5a9a17590b0982e7e176", func := "jobshell/jobshelllaw05.ArithParses", spec := "arithParses", unfollowed := true, recurses := true, named := ["internal/strconv.uint64pow10", "math/bits.deBruijn32tab", "math/bits.deBruijn64tab"], apart := false, laid := [("math/bits.deBruijn32tab", laid_math_bits_deBruijn32tab), ("math/bits.deBruijn64tab", laid_math_bits_deBruijn64tab), ("internal/strconv.uint64pow10", laid_internal_strconv_uint64pow10)] }
def ArithParsesSaid : Prop := arithParsesRow.holds Tryd.pinned (OpenSpec.ofChange arithParsesSpec)

/-- ITS FALSE NEIGHBOUR: 'it returns false'. Refute it at one input. -/
def arithParsesWrong : ChangeSpec := { name := "arithParses", fn := fun _ => fun
  | [d] => { results := [.lit (.bool false)], args := [d] }
  | _ => none }
def ArithParsesWrongFalsely : Prop := arithParsesRow.holds Tryd.pinned (OpenSpec.ofChange arithParsesWrong)

/-- 'jobshelllaw05.ArithShows': WHATEVER THE INPUT: true; the input reads as it did. -/
def arithShowsSpec : ChangeSpec := { name := "arithShows", fn := fun _ => fun
  | [d] => { results := [.lit (.bool true)], args := [d] }
  | _ => none }
def arithShowsRow : OpenClaim := { program := "ytglmdfddgmkmaaadoor", sum := "580a5bdd5c2cf1305aa466c781559e87c503e1dc8fef5a9a17590b0982e7e176", func := "jobshell/jobshelllaw05.ArithShows", spec := "arithShows", unfollowed := true, recurses := true, named := ["internal/strconv.uint64pow10", "math/bits.deBruijn32tab", "math/bits.deBruijn64tab"], loops := true, apart := false, laid := [("math/bits.deBruijn32tab", laid_math_bits_deBruijn32tab), ("math/bits.deBruijn64tab", laid_math_bits_deBruijn64tab), ("internal/strconv.uint64pow10", laid_internal_strconv_uint64pow10)] }
def ArithShowsSaid : Prop := arithShowsRow.holds Tryd.pinned (OpenSpec.ofChange arithShowsSpec)

/-- ITS FALSE NEIGHBOUR: 'it returns false'. Refute it at one input. -/
def arithShowsWrong : ChangeSpec := { name := "arithShows", fn := fun _ => fun
  | [d] => { results := [.lit (.bool false)], args := [d] }
  | _ => none }
def ArithShowsWrongFalsely : Prop := arithShowsRow.holds Tryd.pinned (OpenSpec.ofChange arithShowsWrong)

/-- 'jobshelllaw05.ArithValid': WHATEVER THE INPUT: true; the input reads as it did. -/
def arithValidSpec : ChangeSpec := { name := "arithValid", fn := fun _ => fun
  | [d] => { results := [.lit (.bool true)], args := [d] }
  | _ => none }
def arithValidRow : OpenClaim := { program := "ytglmdfddgmkmaaadoor", sum := "580a5bdd5c2cf1305aa466c781559e87c503e1dc8fef5a9a17590b0982e7e176", func := "jobshell/jobshelllaw05.ArithValid", spec := "arithValid", unfollowed := true, recurses := true, named := ["internal/strconv.uint64pow10", "math/bits.deBruijn32tab", "math/bits.deBruijn64tab"], loops := true, apart := false, laid := [("math/bits.deBruijn32tab", laid_math_bits_deBruijn32tab), ("math/bits.deBruijn64tab", laid_math_bits_deBruijn64tab), ("internal/strconv.uint64pow10", laid_internal_strconv_uint64pow10)] }
def ArithValidSaid : Prop := arithValidRow.holds Tryd.pinned (OpenSpec.ofChange arithValidSpec)

/-- ITS FALSE NEIGHBOUR: 'it returns false'. Refute it at one input. -/
def arithValidWrong : ChangeSpec := { name := "arithValid", fn := fun _ => fun
  | [d] => { results := [.lit (.bool false)], args := [d] }
  | _ => none }
def ArithValidWrongFalsely : Prop := arithValidRow.holds Tryd.pinned (OpenSpec.ofChange arithValidWrong)

/-- 'jobshelllaw05.ArithSame': WHATEVER THE INPUT: true; the input reads as it did. -/
def arithSameSpec : ChangeSpec := { name := "arithSame", fn := fun _ => fun
  | [d1, d2] => { results := [.lit (.bool true)], args := [d1, d2] }
  | _ => none }
def arithSameRow : OpenClaim := { program := "ytglmdfddgmkmaaadoor", sum := "580a5bdd5c2cf1305aa466c781559e87c503e1dc8fef5a9a17590b0982e7e176", func := "jobshell/jobshelllaw05.ArithSame", spec := "arithSame", unfollowed := true, recurses := true, named := ["internal/strconv.uint64pow10", "math/bits.deBruijn32tab", "math/bits.deBruijn64tab"], loops := true, apart := false, laid := [("math/bits.deBruijn32tab", laid_math_bits_deBruijn32tab), ("math/bits.deBruijn64tab", laid_math_bits_deBruijn64tab), ("internal/strconv.uint64pow10", laid_internal_strconv_uint64pow10)] }
def ArithSameSaid : Prop := arithSameRow.holds Tryd.pinned (OpenSpec.ofChange arithSameSpec)

/-- ITS FALSE NEIGHBOUR: 'it returns false'. Refute it at one input. -/
def arithSameWrong : ChangeSpec := { name := "arithSame", fn := fun _ => fun
  | [d1, d2] => { results := [.lit (.bool false)], args := [d1, d2] }
  | _ => none }
def ArithSameWrongFalsely : Prop := arithSameRow.holds Tryd.pinned (OpenSpec.ofChange arithSameWrong)

/-- 'jobshelllaw05.ArithBack': WHATEVER THE INPUT: true; the input reads as it did. -/
def arithBackSpec : ChangeSpec := { name := "arithBack", fn := fun _ => fun
  | [d] => { results := [.lit (.bool true)], args := [d] }
  | _ => none }
def arithBackRow : OpenClaim := { program := "ytglmdfddgmkmaaadoor", sum := "580a5bdd5c2cf1305aa466c781559e87c503e1dc8fef5a9a17590b0982e7e176", func := "jobshell/jobshelllaw05.ArithBack", spec := "arithBack", unfollowed := true, recurses := true, named := ["internal/strconv.uint64pow10", "math/bits.deBruijn32tab", "math/bits.deBruijn64tab"], loops := true, apart := false, laid := [("math/bits.deBruijn32tab", laid_math_bits_deBruijn32tab), ("math/bits.deBruijn64tab", laid_math_bits_deBruijn64tab), ("internal/strconv.uint64pow10", laid_internal_strconv_uint64pow10)] }
def ArithBackSaid : Prop := arithBackRow.holds Tryd.pinned (OpenSpec.ofChange arithBackSpec)

/-- ITS FALSE NEIGHBOUR: 'it returns false'. Refute it at one input. -/
def arithBackWrong : ChangeSpec := { name := "arithBack", fn := fun _ => fun
  | [d] => { results := [.lit (.bool false)], args := [d] }
  | _ => none }
def ArithBackWrongFalsely : Prop := arithBackRow.holds Tryd.pinned (OpenSpec.ofChange arithBackWrong)

/-- 'jobshelllaw05.ArithAgain': WHATEVER THE INPUT: true; the input reads as it did. -/
def arithAgainSpec : ChangeSpec := { name := "arithAgain", fn := fun _ => fun
  | [d] => { results := [.lit (.bool true)], args := [d] }
  | _ => none }
def arithAgainRow : OpenClaim := { program := "ytglmdfddgmkmaaadoor", sum := "580a5bdd5c2cf1305aa466c781559e87c503e1dc8fef5a9a17590b0982e7e176", func := "jobshell/jobshelllaw05.ArithAgain", spec := "arithAgain", unfollowed := true, recurses := true, named := ["internal/strconv.uint64pow10", "math/bits.deBruijn32tab", "math/bits.deBruijn64tab"], apart := false, laid := [("math/bits.deBruijn32tab", laid_math_bits_deBruijn32tab), ("math/bits.deBruijn64tab", laid_math_bits_deBruijn64tab), ("internal/strconv.uint64pow10", laid_internal_strconv_uint64pow10)] }
def ArithAgainSaid : Prop := arithAgainRow.holds Tryd.pinned (OpenSpec.ofChange arithAgainSpec)

/-- ITS FALSE NEIGHBOUR: 'it returns false'. Refute it at one input. -/
def arithAgainWrong : ChangeSpec := { name := "arithAgain", fn := fun _ => fun
  | [d] => { results := [.lit (.bool false)], args := [d] }
  | _ => none }
def ArithAgainWrongFalsely : Prop := arithAgainRow.holds Tryd.pinned (OpenSpec.ofChange arithAgainWrong)

/-- 'jobshelllaw05.ArithParens': WHATEVER THE INPUT: true; the input reads as it did. -/
def arithParensSpec : ChangeSpec := { name := "arithParens", fn := fun _ => fun
  | [d] => { results := [.lit (.bool true)], args := [d] }
  | _ => none }
def arithParensRow : OpenClaim := { program := "ytglmdfddgmkmaaadoor", sum := "580a5bdd5c2cf1305aa466c781559e87c503e1dc8fef5a9a17590b0982e7e176", func := "jobshell/jobshelllaw05.ArithParens", spec := "arithParens", unfollowed := true, recurses := true, named := ["internal/strconv.uint64pow10", "math/bits.deBruijn32tab", "math/bits.deBruijn64tab"], apart := false, laid := [("math/bits.deBruijn32tab", laid_math_bits_deBruijn32tab), ("math/bits.deBruijn64tab", laid_math_bits_deBruijn64tab), ("internal/strconv.uint64pow10", laid_internal_strconv_uint64pow10)] }
def ArithParensSaid : Prop := arithParensRow.holds Tryd.pinned (OpenSpec.ofChange arithParensSpec)

/-- ITS FALSE NEIGHBOUR: 'it returns false'. Refute it at one input. -/
def arithParensWrong : ChangeSpec := { name := "arithParens", fn := fun _ => fun
  | [d] => { results := [.lit (.bool false)], args := [d] }
  | _ => none }
def ArithParensWrongFalsely : Prop := arithParensRow.holds Tryd.pinned (OpenSpec.ofChange arithParensWrong)

/-- 'jobshelllaw06.CalcNumbers': WHATEVER THE INPUT: true; the input reads as it did. -/
def calcNumbersSpec : ChangeSpec := { name := "calcNumbers", fn := fun _ => fun
  | [d] => { results := [.lit (.bool true)], args := [d] }
  | _ => none }
def calcNumbersRow : OpenClaim := { program := "ytglmdfddgmkmaaadoor", sum := "580a5bdd5c2cf1305aa466c781559e87c503e1dc8fef5a9a17590b0982e7e176", func := "jobshell/jobshelllaw06.CalcNumbers", spec := "calcNumbers", unfollowed := true, recurses := true, named := ["strconv.ErrSyntax", "strconv.ErrRange", "internal/strconv.uint64pow10", "math/bits.deBruijn32tab", "math/bits.deBruijn64tab"], apart := false, laid := [("math/bits.deBruijn32tab", laid_math_bits_deBruijn32tab), ("math/bits.deBruijn64tab", laid_math_bits_deBruijn64tab), ("internal/strconv.uint64pow10", laid_internal_strconv_uint64pow10), ("strconv.ErrRange", laid_strconv_ErrRange), ("strconv.ErrSyntax", laid_strconv_ErrSyntax)] }
def CalcNumbersSaid : Prop := calcNumbersRow.holds Tryd.pinned (OpenSpec.ofChange calcNumbersSpec)

/-- ITS FALSE NEIGHBOUR: 'it returns false'. Refute it at one input. -/
def calcNumbersWrong : ChangeSpec := { name := "calcNumbers", fn := fun _ => fun
  | [d] => { results := [.lit (.bool false)], args := [d] }
  | _ => none }
def CalcNumbersWrongFalsely : Prop := calcNumbersRow.holds Tryd.pinned (OpenSpec.ofChange calcNumbersWrong)

/-- 'jobshelllaw06.CalcFolds': WHATEVER THE INPUT: true; the input reads as it did. -/
def calcFoldsSpec : ChangeSpec := { name := "calcFolds", fn := fun _ => fun
  | [d] => { results := [.lit (.bool true)], args := [d] }
  | _ => none }
def calcFoldsRow : OpenClaim := { program := "ytglmdfddgmkmaaadoor", sum := "580a5bdd5c2cf1305aa466c781559e87c503e1dc8fef5a9a17590b0982e7e176", func := "jobshell/jobshelllaw06.CalcFolds", spec := "calcFolds", unfollowed := true, recurses := true, named := ["strconv.ErrSyntax", "strconv.ErrRange", "internal/strconv.uint64pow10", "math/bits.deBruijn32tab", "math/bits.deBruijn64tab"], loops := true, apart := false, laid := [("math/bits.deBruijn32tab", laid_math_bits_deBruijn32tab), ("math/bits.deBruijn64tab", laid_math_bits_deBruijn64tab), ("internal/strconv.uint64pow10", laid_internal_strconv_uint64pow10), ("strconv.ErrRange", laid_strconv_ErrRange), ("strconv.ErrSyntax", laid_strconv_ErrSyntax)] }
def CalcFoldsSaid : Prop := calcFoldsRow.holds Tryd.pinned (OpenSpec.ofChange calcFoldsSpec)

/-- ITS FALSE NEIGHBOUR: 'it returns false'. Refute it at one input. -/
def calcFoldsWrong : ChangeSpec := { name := "calcFolds", fn := fun _ => fun
  | [d] => { results := [.lit (.bool false)], args := [d] }
  | _ => none }
def CalcFoldsWrongFalsely : Prop := calcFoldsRow.holds Tryd.pinned (OpenSpec.ofChange calcFoldsWrong)

/-- 'jobshelllaw06.CalcKeeps': WHATEVER THE INPUT: true; the input reads as it did. -/
def calcKeepsSpec : ChangeSpec := { name := "calcKeeps", fn := fun _ => fun
  | [d1, d2] => { results := [.lit (.bool true)], args := [d1, d2] }
  | _ => none }
def calcKeepsRow : OpenClaim := { program := "ytglmdfddgmkmaaadoor", sum := "580a5bdd5c2cf1305aa466c781559e87c503e1dc8fef5a9a17590b0982e7e176", func := "jobshell/jobshelllaw06.CalcKeeps", spec := "calcKeeps", unfollowed := true, recurses := true, named := ["strconv.ErrSyntax", "strconv.ErrRange", "internal/strconv.uint64pow10", "math/bits.deBruijn32tab", "math/bits.deBruijn64tab"], loops := true, apart := false, laid := [("math/bits.deBruijn32tab", laid_math_bits_deBruijn32tab), ("math/bits.deBruijn64tab", laid_math_bits_deBruijn64tab), ("internal/strconv.uint64pow10", laid_internal_strconv_uint64pow10), ("strconv.ErrRange", laid_strconv_ErrRange), ("strconv.ErrSyntax", laid_strconv_ErrSyntax)] }
def CalcKeepsSaid : Prop := calcKeepsRow.holds Tryd.pinned (OpenSpec.ofChange calcKeepsSpec)

/-- ITS FALSE NEIGHBOUR: 'it returns false'. Refute it at one input. -/
def calcKeepsWrong : ChangeSpec := { name := "calcKeeps", fn := fun _ => fun
  | [d1, d2] => { results := [.lit (.bool false)], args := [d1, d2] }
  | _ => none }
def CalcKeepsWrongFalsely : Prop := calcKeepsRow.holds Tryd.pinned (OpenSpec.ofChange calcKeepsWrong)

/-- 'jobshelllaw06.CalcAssigns': WHATEVER THE INPUT: true; the input reads as it did. -/
def calcAssignsSpec : ChangeSpec := { name := "calcAssigns", fn := fun _ => fun
  | [d1, d2, d3] => { results := [.lit (.bool true)], args := [d1, d2, d3] }
  | _ => none }
def calcAssignsRow : OpenClaim := { program := "ytglmdfddgmkmaaadoor", sum := "580a5bdd5c2cf1305aa466c781559e87c503e1dc8fef5a9a17590b0982e7e176", func := "jobshell/jobshelllaw06.CalcAssigns", spec := "calcAssigns", unfollowed := true, recurses := true, named := ["strconv.ErrSyntax", "strconv.ErrRange", "internal/strconv.uint64pow10", "math/bits.deBruijn32tab", "math/bits.deBruijn64tab"], loops := true, apart := false, laid := [("math/bits.deBruijn32tab", laid_math_bits_deBruijn32tab), ("math/bits.deBruijn64tab", laid_math_bits_deBruijn64tab), ("internal/strconv.uint64pow10", laid_internal_strconv_uint64pow10), ("strconv.ErrRange", laid_strconv_ErrRange), ("strconv.ErrSyntax", laid_strconv_ErrSyntax)] }
def CalcAssignsSaid : Prop := calcAssignsRow.holds Tryd.pinned (OpenSpec.ofChange calcAssignsSpec)

/-- ITS FALSE NEIGHBOUR: 'it returns false'. Refute it at one input. -/
def calcAssignsWrong : ChangeSpec := { name := "calcAssigns", fn := fun _ => fun
  | [d1, d2, d3] => { results := [.lit (.bool false)], args := [d1, d2, d3] }
  | _ => none }
def CalcAssignsWrongFalsely : Prop := calcAssignsRow.holds Tryd.pinned (OpenSpec.ofChange calcAssignsWrong)

/-- 'jobshelllaw06.CalcDivides': WHATEVER THE INPUT: true; the input reads as it did. -/
def calcDividesSpec : ChangeSpec := { name := "calcDivides", fn := fun _ => fun
  | [d1, d2] => { results := [.lit (.bool true)], args := [d1, d2] }
  | _ => none }
def calcDividesRow : OpenClaim := { program := "ytglmdfddgmkmaaadoor", sum := "580a5bdd5c2cf1305aa466c781559e87c503e1dc8fef5a9a17590b0982e7e176", func := "jobshell/jobshelllaw06.CalcDivides", spec := "calcDivides", unfollowed := true, recurses := true, named := ["strconv.ErrSyntax", "strconv.ErrRange", "internal/strconv.uint64pow10", "math/bits.deBruijn32tab", "math/bits.deBruijn64tab"], apart := false, laid := [("math/bits.deBruijn32tab", laid_math_bits_deBruijn32tab), ("math/bits.deBruijn64tab", laid_math_bits_deBruijn64tab), ("internal/strconv.uint64pow10", laid_internal_strconv_uint64pow10), ("strconv.ErrRange", laid_strconv_ErrRange), ("strconv.ErrSyntax", laid_strconv_ErrSyntax)] }
def CalcDividesSaid : Prop := calcDividesRow.holds Tryd.pinned (OpenSpec.ofChange calcDividesSpec)

/-- ITS FALSE NEIGHBOUR: 'it returns false'. Refute it at one input. -/
def calcDividesWrong : ChangeSpec := { name := "calcDivides", fn := fun _ => fun
  | [d1, d2] => { results := [.lit (.bool false)], args := [d1, d2] }
  | _ => none }
def CalcDividesWrongFalsely : Prop := calcDividesRow.holds Tryd.pinned (OpenSpec.ofChange calcDividesWrong)

/-- 'jobshelllaw06.CalcCompares': WHATEVER THE INPUT: true; the input reads as it did. -/
def calcComparesSpec : ChangeSpec := { name := "calcCompares", fn := fun _ => fun
  | [d1, d2] => { results := [.lit (.bool true)], args := [d1, d2] }
  | _ => none }
def calcComparesRow : OpenClaim := { program := "ytglmdfddgmkmaaadoor", sum := "580a5bdd5c2cf1305aa466c781559e87c503e1dc8fef5a9a17590b0982e7e176", func := "jobshell/jobshelllaw06.CalcCompares", spec := "calcCompares", unfollowed := true, recurses := true, named := ["strconv.ErrSyntax", "strconv.ErrRange", "internal/strconv.uint64pow10", "math/bits.deBruijn32tab", "math/bits.deBruijn64tab"], apart := false, laid := [("math/bits.deBruijn32tab", laid_math_bits_deBruijn32tab), ("math/bits.deBruijn64tab", laid_math_bits_deBruijn64tab), ("internal/strconv.uint64pow10", laid_internal_strconv_uint64pow10), ("strconv.ErrRange", laid_strconv_ErrRange), ("strconv.ErrSyntax", laid_strconv_ErrSyntax)] }
def CalcComparesSaid : Prop := calcComparesRow.holds Tryd.pinned (OpenSpec.ofChange calcComparesSpec)

/-- ITS FALSE NEIGHBOUR: 'it returns false'. Refute it at one input. -/
def calcComparesWrong : ChangeSpec := { name := "calcCompares", fn := fun _ => fun
  | [d1, d2] => { results := [.lit (.bool false)], args := [d1, d2] }
  | _ => none }
def CalcComparesWrongFalsely : Prop := calcComparesRow.holds Tryd.pinned (OpenSpec.ofChange calcComparesWrong)

/- THE SECOND FORM. 'bulk': how many values and letters a reading holds, each counted each time it is reached (what is shared counts as often as it is met; a slice's spare places count too). A statement '..UptoSaid' is the law's where the arguments, and the package variables that the reading takes, are together of bulk at most 1048576: NARROWER than '..Said'. Prove '..Said' where nothing that the law and all that it calls make is longer than what came in: it says more and counts as full. Else prove '..UptoSaid'. A law counts once. -/
mutual
def uptoBulk {H : Type} : DataW H → Nat
  | .lit (.string bytes) => bytes.length + 1
  | .lit _ => 1
  | .nil => 1
  | .ptr d => uptoBulk d + 1
  | .slice elems spare => uptoBulkAll elems + uptoBulkAll spare + 1
  | .agg parts => uptoBulkAll parts + 1
  | .iface _ d => uptoBulk d + 1
  | .map entries => uptoBulkEntries entries + 1
  | .held _ => 1
def uptoBulkAll {H : Type} : List (DataW H) → Nat
  | [] => 0
  | d :: r => uptoBulk d + uptoBulkAll r
def uptoBulkEntries {H : Type} : List (Lit × DataW H) → Nat
  | [] => 0
  | x :: r => uptoBulkEntry x + uptoBulkEntries r
def uptoBulkEntry {H : Type} : Lit × DataW H → Nat
  | (.string bytes, d) => bytes.length + uptoBulk d + 1
  | (_, d) => uptoBulk d + 1
 end
def uptoSmall : (H : Type) → List (DataW H) → Bool := fun _ ds => decide (uptoBulkAll ds ≤ 1048576)
def OpenSpec.upto (s : _root_.Go.ChangeSpec) : _root_.Go.OpenSpec := { _root_.Go.OpenSpec.ofChange s with cond := some uptoSmall }

/-- 'jobshelllaw05.ArithParses', WHERE WHAT IT READS IS OF BULK AT MOST 1048576: true; the input reads as it did. -/
def arithParsesUptoRow : OpenClaim := { program := "ytglmdfddgmkmaaadoor", sum := "580a5bdd5c2cf1305aa466c781559e87c503e1dc8fef5a9a17590b0982e7e176", func := "jobshell/jobshelllaw05.ArithParses", spec := "arithParses", unfollowed := true, recurses := true, named := ["internal/strconv.uint64pow10", "math/bits.deBruijn32tab", "math/bits.deBruijn64tab"], apart := false, laid := [("math/bits.deBruijn32tab", laid_math_bits_deBruijn32tab), ("math/bits.deBruijn64tab", laid_math_bits_deBruijn64tab), ("internal/strconv.uint64pow10", laid_internal_strconv_uint64pow10)], narrowed := true }
def ArithParsesUptoSaid : Prop := arithParsesUptoRow.holds Tryd.pinned (OpenSpec.upto arithParsesSpec)

/-- 'jobshelllaw05.ArithShows', WHERE WHAT IT READS IS OF BULK AT MOST 1048576: true; the input reads as it did. -/
def arithShowsUptoRow : OpenClaim := { program := "ytglmdfddgmkmaaadoor", sum := "580a5bdd5c2cf1305aa466c781559e87c503e1dc8fef5a9a17590b0982e7e176", func := "jobshell/jobshelllaw05.ArithShows", spec := "arithShows", unfollowed := true, recurses := true, named := ["internal/strconv.uint64pow10", "math/bits.deBruijn32tab", "math/bits.deBruijn64tab"], loops := true, apart := false, laid := [("math/bits.deBruijn32tab", laid_math_bits_deBruijn32tab), ("math/bits.deBruijn64tab", laid_math_bits_deBruijn64tab), ("internal/strconv.uint64pow10", laid_internal_strconv_uint64pow10)], narrowed := true }
def ArithShowsUptoSaid : Prop := arithShowsUptoRow.holds Tryd.pinned (OpenSpec.upto arithShowsSpec)

/-- 'jobshelllaw05.ArithValid', WHERE WHAT IT READS IS OF BULK AT MOST 1048576: true; the input reads as it did. -/
def arithValidUptoRow : OpenClaim := { program := "ytglmdfddgmkmaaadoor", sum := "580a5bdd5c2cf1305aa466c781559e87c503e1dc8fef5a9a17590b0982e7e176", func := "jobshell/jobshelllaw05.ArithValid", spec := "arithValid", unfollowed := true, recurses := true, named := ["internal/strconv.uint64pow10", "math/bits.deBruijn32tab", "math/bits.deBruijn64tab"], loops := true, apart := false, laid := [("math/bits.deBruijn32tab", laid_math_bits_deBruijn32tab), ("math/bits.deBruijn64tab", laid_math_bits_deBruijn64tab), ("internal/strconv.uint64pow10", laid_internal_strconv_uint64pow10)], narrowed := true }
def ArithValidUptoSaid : Prop := arithValidUptoRow.holds Tryd.pinned (OpenSpec.upto arithValidSpec)

/-- 'jobshelllaw05.ArithSame', WHERE WHAT IT READS IS OF BULK AT MOST 1048576: true; the input reads as it did. -/
def arithSameUptoRow : OpenClaim := { program := "ytglmdfddgmkmaaadoor", sum := "580a5bdd5c2cf1305aa466c781559e87c503e1dc8fef5a9a17590b0982e7e176", func := "jobshell/jobshelllaw05.ArithSame", spec := "arithSame", unfollowed := true, recurses := true, named := ["internal/strconv.uint64pow10", "math/bits.deBruijn32tab", "math/bits.deBruijn64tab"], loops := true, apart := false, laid := [("math/bits.deBruijn32tab", laid_math_bits_deBruijn32tab), ("math/bits.deBruijn64tab", laid_math_bits_deBruijn64tab), ("internal/strconv.uint64pow10", laid_internal_strconv_uint64pow10)], narrowed := true }
def ArithSameUptoSaid : Prop := arithSameUptoRow.holds Tryd.pinned (OpenSpec.upto arithSameSpec)

/-- 'jobshelllaw05.ArithBack', WHERE WHAT IT READS IS OF BULK AT MOST 1048576: true; the input reads as it did. -/
def arithBackUptoRow : OpenClaim := { program := "ytglmdfddgmkmaaadoor", sum := "580a5bdd5c2cf1305aa466c781559e87c503e1dc8fef5a9a17590b0982e7e176", func := "jobshell/jobshelllaw05.ArithBack", spec := "arithBack", unfollowed := true, recurses := true, named := ["internal/strconv.uint64pow10", "math/bits.deBruijn32tab", "math/bits.deBruijn64tab"], loops := true, apart := false, laid := [("math/bits.deBruijn32tab", laid_math_bits_deBruijn32tab), ("math/bits.deBruijn64tab", laid_math_bits_deBruijn64tab), ("internal/strconv.uint64pow10", laid_internal_strconv_uint64pow10)], narrowed := true }
def ArithBackUptoSaid : Prop := arithBackUptoRow.holds Tryd.pinned (OpenSpec.upto arithBackSpec)

/-- 'jobshelllaw05.ArithAgain', WHERE WHAT IT READS IS OF BULK AT MOST 1048576: true; the input reads as it did. -/
def arithAgainUptoRow : OpenClaim := { program := "ytglmdfddgmkmaaadoor", sum := "580a5bdd5c2cf1305aa466c781559e87c503e1dc8fef5a9a17590b0982e7e176", func := "jobshell/jobshelllaw05.ArithAgain", spec := "arithAgain", unfollowed := true, recurses := true, named := ["internal/strconv.uint64pow10", "math/bits.deBruijn32tab", "math/bits.deBruijn64tab"], apart := false, laid := [("math/bits.deBruijn32tab", laid_math_bits_deBruijn32tab), ("math/bits.deBruijn64tab", laid_math_bits_deBruijn64tab), ("internal/strconv.uint64pow10", laid_internal_strconv_uint64pow10)], narrowed := true }
def ArithAgainUptoSaid : Prop := arithAgainUptoRow.holds Tryd.pinned (OpenSpec.upto arithAgainSpec)

/-- 'jobshelllaw05.ArithParens', WHERE WHAT IT READS IS OF BULK AT MOST 1048576: true; the input reads as it did. -/
def arithParensUptoRow : OpenClaim := { program := "ytglmdfddgmkmaaadoor", sum := "580a5bdd5c2cf1305aa466c781559e87c503e1dc8fef5a9a17590b0982e7e176", func := "jobshell/jobshelllaw05.ArithParens", spec := "arithParens", unfollowed := true, recurses := true, named := ["internal/strconv.uint64pow10", "math/bits.deBruijn32tab", "math/bits.deBruijn64tab"], apart := false, laid := [("math/bits.deBruijn32tab", laid_math_bits_deBruijn32tab), ("math/bits.deBruijn64tab", laid_math_bits_deBruijn64tab), ("internal/strconv.uint64pow10", laid_internal_strconv_uint64pow10)], narrowed := true }
def ArithParensUptoSaid : Prop := arithParensUptoRow.holds Tryd.pinned (OpenSpec.upto arithParensSpec)

/-- 'jobshelllaw06.CalcNumbers', WHERE WHAT IT READS IS OF BULK AT MOST 1048576: true; the input reads as it did. -/
def calcNumbersUptoRow : OpenClaim := { program := "ytglmdfddgmkmaaadoor", sum := "580a5bdd5c2cf1305aa466c781559e87c503e1dc8fef5a9a17590b0982e7e176", func := "jobshell/jobshelllaw06.CalcNumbers", spec := "calcNumbers", unfollowed := true, recurses := true, named := ["strconv.ErrSyntax", "strconv.ErrRange", "internal/strconv.uint64pow10", "math/bits.deBruijn32tab", "math/bits.deBruijn64tab"], apart := false, laid := [("math/bits.deBruijn32tab", laid_math_bits_deBruijn32tab), ("math/bits.deBruijn64tab", laid_math_bits_deBruijn64tab), ("internal/strconv.uint64pow10", laid_internal_strconv_uint64pow10), ("strconv.ErrRange", laid_strconv_ErrRange), ("strconv.ErrSyntax", laid_strconv_ErrSyntax)], narrowed := true }
def CalcNumbersUptoSaid : Prop := calcNumbersUptoRow.holds Tryd.pinned (OpenSpec.upto calcNumbersSpec)

/-- 'jobshelllaw06.CalcFolds', WHERE WHAT IT READS IS OF BULK AT MOST 1048576: true; the input reads as it did. -/
def calcFoldsUptoRow : OpenClaim := { program := "ytglmdfddgmkmaaadoor", sum := "580a5bdd5c2cf1305aa466c781559e87c503e1dc8fef5a9a17590b0982e7e176", func := "jobshell/jobshelllaw06.CalcFolds", spec := "calcFolds", unfollowed := true, recurses := true, named := ["strconv.ErrSyntax", "strconv.ErrRange", "internal/strconv.uint64pow10", "math/bits.deBruijn32tab", "math/bits.deBruijn64tab"], loops := true, apart := false, laid := [("math/bits.deBruijn32tab", laid_math_bits_deBruijn32tab), ("math/bits.deBruijn64tab", laid_math_bits_deBruijn64tab), ("internal/strconv.uint64pow10", laid_internal_strconv_uint64pow10), ("strconv.ErrRange", laid_strconv_ErrRange), ("strconv.ErrSyntax", laid_strconv_ErrSyntax)], narrowed := true }
def CalcFoldsUptoSaid : Prop := calcFoldsUptoRow.holds Tryd.pinned (OpenSpec.upto calcFoldsSpec)

/-- 'jobshelllaw06.CalcKeeps', WHERE WHAT IT READS IS OF BULK AT MOST 1048576: true; the input reads as it did. -/
def calcKeepsUptoRow : OpenClaim := { program := "ytglmdfddgmkmaaadoor", sum := "580a5bdd5c2cf1305aa466c781559e87c503e1dc8fef5a9a17590b0982e7e176", func := "jobshell/jobshelllaw06.CalcKeeps", spec := "calcKeeps", unfollowed := true, recurses := true, named := ["strconv.ErrSyntax", "strconv.ErrRange", "internal/strconv.uint64pow10", "math/bits.deBruijn32tab", "math/bits.deBruijn64tab"], loops := true, apart := false, laid := [("math/bits.deBruijn32tab", laid_math_bits_deBruijn32tab), ("math/bits.deBruijn64tab", laid_math_bits_deBruijn64tab), ("internal/strconv.uint64pow10", laid_internal_strconv_uint64pow10), ("strconv.ErrRange", laid_strconv_ErrRange), ("strconv.ErrSyntax", laid_strconv_ErrSyntax)], narrowed := true }
def CalcKeepsUptoSaid : Prop := calcKeepsUptoRow.holds Tryd.pinned (OpenSpec.upto calcKeepsSpec)

/-- 'jobshelllaw06.CalcAssigns', WHERE WHAT IT READS IS OF BULK AT MOST 1048576: true; the input reads as it did. -/
def calcAssignsUptoRow : OpenClaim := { program := "ytglmdfddgmkmaaadoor", sum := "580a5bdd5c2cf1305aa466c781559e87c503e1dc8fef5a9a17590b0982e7e176", func := "jobshell/jobshelllaw06.CalcAssigns", spec := "calcAssigns", unfollowed := true, recurses := true, named := ["strconv.ErrSyntax", "strconv.ErrRange", "internal/strconv.uint64pow10", "math/bits.deBruijn32tab", "math/bits.deBruijn64tab"], loops := true, apart := false, laid := [("math/bits.deBruijn32tab", laid_math_bits_deBruijn32tab), ("math/bits.deBruijn64tab", laid_math_bits_deBruijn64tab), ("internal/strconv.uint64pow10", laid_internal_strconv_uint64pow10), ("strconv.ErrRange", laid_strconv_ErrRange), ("strconv.ErrSyntax", laid_strconv_ErrSyntax)], narrowed := true }
def CalcAssignsUptoSaid : Prop := calcAssignsUptoRow.holds Tryd.pinned (OpenSpec.upto calcAssignsSpec)

/-- 'jobshelllaw06.CalcDivides', WHERE WHAT IT READS IS OF BULK AT MOST 1048576: true; the input reads as it did. -/
def calcDividesUptoRow : OpenClaim := { program := "ytglmdfddgmkmaaadoor", sum := "580a5bdd5c2cf1305aa466c781559e87c503e1dc8fef5a9a17590b0982e7e176", func := "jobshell/jobshelllaw06.CalcDivides", spec := "calcDivides", unfollowed := true, recurses := true, named := ["strconv.ErrSyntax", "strconv.ErrRange", "internal/strconv.uint64pow10", "math/bits.deBruijn32tab", "math/bits.deBruijn64tab"], apart := false, laid := [("math/bits.deBruijn32tab", laid_math_bits_deBruijn32tab), ("math/bits.deBruijn64tab", laid_math_bits_deBruijn64tab), ("internal/strconv.uint64pow10", laid_internal_strconv_uint64pow10), ("strconv.ErrRange", laid_strconv_ErrRange), ("strconv.ErrSyntax", laid_strconv_ErrSyntax)], narrowed := true }
def CalcDividesUptoSaid : Prop := calcDividesUptoRow.holds Tryd.pinned (OpenSpec.upto calcDividesSpec)

/-- 'jobshelllaw06.CalcCompares', WHERE WHAT IT READS IS OF BULK AT MOST 1048576: true; the input reads as it did. -/
def calcComparesUptoRow : OpenClaim := { program := "ytglmdfddgmkmaaadoor", sum := "580a5bdd5c2cf1305aa466c781559e87c503e1dc8fef5a9a17590b0982e7e176", func := "jobshell/jobshelllaw06.CalcCompares", spec := "calcCompares", unfollowed := true, recurses := true, named := ["strconv.ErrSyntax", "strconv.ErrRange", "internal/strconv.uint64pow10", "math/bits.deBruijn32tab", "math/bits.deBruijn64tab"], apart := false, laid := [("math/bits.deBruijn32tab", laid_math_bits_deBruijn32tab), ("math/bits.deBruijn64tab", laid_math_bits_deBruijn64tab), ("internal/strconv.uint64pow10", laid_internal_strconv_uint64pow10), ("strconv.ErrRange", laid_strconv_ErrRange), ("strconv.ErrSyntax", laid_strconv_ErrSyntax)], narrowed := true }
def CalcComparesUptoSaid : Prop := calcComparesUptoRow.holds Tryd.pinned (OpenSpec.upto calcComparesSpec)

end Rows
end Go.Proofs.YtglmdfddgmkmaaaDoor
