/-
  NARROWER THAN 'FOR EVERY INPUT', by the rows' own cells (each row's printed sentence says how): RegionPolygons: laid · RegionAreas: laid · RegionSums: laid · RegionMonomials: laid · RegionProves: laid · RegionFits: laid · RegionReduces: laid · RegionIntegrals: laid · RegionForms: laid · RegionTchakaloff: laid · RegionProducts: laid · RegionClouds: laid · RegionSparse: laid · RegionSmolyak: laid.
  DERIVED. THE GIVEN ROWS OF THIS SEAT. 14 by the template 'for every input the law returns true; each argument reads behind the call as it read before'; 0 by the template 'total and deterministic' (their statements: YtidnkcdelnfkjaaGreatDoorTotals.lean).
  GIVEN WITH THE SEED: the statements are not yours to turn. If you find one false, say at which input.
  Laid BY PROGRAM, IN A SANDBOX (cutbox-rows.mjs): the forced cells as the released guide's own fill.sh prints them over the translation a6829ba10d7033d6… (all of the seat's roots in one cut). By AI agents, Wed Nov 11 2026. No macro, syntax, notation, axiom, sorry.
-/
import Derived.Test.YtidnkcdelnfkjaaGreatDoorChecked
import GoSem.Claim
import GoSem.ClaimJoined
import GoSem.ClaimMapViews
import Derived.JoinedTies
import Derived.KernelRfl
namespace Go.Proofs.YtidnkcdelnfkjaaGreatDoor
/- THE CELL 'sum', in the pinned program and in every row, IS THE sha256 OF THE DUMP (.gsa) THAT YtidnkcdelnfkjaaGreatDoorProg.lean LOADS. Nothing in Lean hashes anything: it is a label: what it is worth is what the hold of that sum in a sandbox is worth. -/
noncomputable def Tryz.pinned : Pinned := { name := "ytidnkcdelnfkjaagreatdoor", sum := "a6829ba10d7033d6f784e4dab874a6660bfdcf031b87f4c7b1f3e8b864f1fdde", checked := Tryz.checked }
namespace Rows
def none {H : Type} : Left H := { results := [], args := [] }

/- WHAT THE LISTED PACKAGE-LEVEL VARIABLES READ AS WHEN THE CALL BEGINS. Each datum BY PROGRAM (the guide's laid-datum.mjs) off the statement by which the dump's own 'gosem.cut.vars' lays the variable. In a bare row this is a premise. The card (YtidnkcdelnfkjaaGreatDoorCards.lean) ties it to the program's text. -/
def laid_math_bits_deBruijn32tab {H : Type} : DataW H := .agg [.lit (.int .u8 0), .lit (.int .u8 1), .lit (.int .u8 28), .lit (.int .u8 2), .lit (.int .u8 29), .lit (.int .u8 14), .lit (.int .u8 24), .lit (.int .u8 3), .lit (.int .u8 30), .lit (.int .u8 22), .lit (.int .u8 20), .lit (.int .u8 15), .lit (.int .u8 25), .lit (.int .u8 17), .lit (.int .u8 4), .lit (.int .u8 8), .lit (.int .u8 31), .lit (.int .u8 27), .lit (.int .u8 13), .lit (.int .u8 23), .lit (.int .u8 21), .lit (.int .u8 19), .lit (.int .u8 16), .lit (.int .u8 7), .lit (.int .u8 26), .lit (.int .u8 12), .lit (.int .u8 18), .lit (.int .u8 6), .lit (.int .u8 11), .lit (.int .u8 5), .lit (.int .u8 10), .lit (.int .u8 9)]
def laid_math_bits_deBruijn64tab {H : Type} : DataW H := .agg [.lit (.int .u8 0), .lit (.int .u8 1), .lit (.int .u8 56), .lit (.int .u8 2), .lit (.int .u8 57), .lit (.int .u8 49), .lit (.int .u8 28), .lit (.int .u8 3), .lit (.int .u8 61), .lit (.int .u8 58), .lit (.int .u8 42), .lit (.int .u8 50), .lit (.int .u8 38), .lit (.int .u8 29), .lit (.int .u8 17), .lit (.int .u8 4), .lit (.int .u8 62), .lit (.int .u8 47), .lit (.int .u8 59), .lit (.int .u8 36), .lit (.int .u8 45), .lit (.int .u8 43), .lit (.int .u8 51), .lit (.int .u8 22), .lit (.int .u8 53), .lit (.int .u8 39), .lit (.int .u8 33), .lit (.int .u8 30), .lit (.int .u8 24), .lit (.int .u8 18), .lit (.int .u8 12), .lit (.int .u8 5), .lit (.int .u8 63), .lit (.int .u8 55), .lit (.int .u8 48), .lit (.int .u8 27), .lit (.int .u8 60), .lit (.int .u8 41), .lit (.int .u8 37), .lit (.int .u8 16), .lit (.int .u8 46), .lit (.int .u8 35), .lit (.int .u8 44), .lit (.int .u8 21), .lit (.int .u8 52), .lit (.int .u8 32), .lit (.int .u8 23), .lit (.int .u8 11), .lit (.int .u8 54), .lit (.int .u8 26), .lit (.int .u8 40), .lit (.int .u8 15), .lit (.int .u8 34), .lit (.int .u8 20), .lit (.int .u8 31), .lit (.int .u8 10), .lit (.int .u8 25), .lit (.int .u8 14), .lit (.int .u8 19), .lit (.int .u8 9), .lit (.int .u8 13), .lit (.int .u8 8), .lit (.int .u8 7), .lit (.int .u8 6)]
def laid_internal_strconv_uint64pow10 {H : Type} : DataW H := .agg [.lit (.int .u64 1), .lit (.int .u64 10), .lit (.int .u64 100), .lit (.int .u64 1000), .lit (.int .u64 10000), .lit (.int .u64 100000), .lit (.int .u64 1000000), .lit (.int .u64 10000000), .lit (.int .u64 100000000), .lit (.int .u64 1000000000), .lit (.int .u64 10000000000), .lit (.int .u64 100000000000), .lit (.int .u64 1000000000000), .lit (.int .u64 10000000000000), .lit (.int .u64 100000000000000), .lit (.int .u64 1000000000000000), .lit (.int .u64 10000000000000000), .lit (.int .u64 100000000000000000), .lit (.int .u64 1000000000000000000), .lit (.int .u64 10000000000000000000)]

/-- 'ordinatelaw06.RegionPolygons': WHATEVER THE INPUT: true; the input reads as it did. -/
def regionPolygonsSpec : ChangeSpec := { name := "regionPolygons", fn := fun _ => fun
  | [d] => { results := [.lit (.bool true)], args := [d] }
  | _ => none }
def regionPolygonsRow : OpenClaim := { program := "ytidnkcdelnfkjaagreatdoor", sum := "a6829ba10d7033d6f784e4dab874a6660bfdcf031b87f4c7b1f3e8b864f1fdde", func := "ordinate/ordinatelaw06.RegionPolygons", spec := "regionPolygons", inPlace := ["internal/abi.NoEscape", "internal/bytealg.MakeNoZero"], unfollowed := true, recurses := true, named := ["internal/strconv.uint64pow10", "math/bits.deBruijn32tab", "math/bits.deBruijn64tab"], plainKeys := false, apart := false, laid := [("math/bits.deBruijn32tab", laid_math_bits_deBruijn32tab), ("math/bits.deBruijn64tab", laid_math_bits_deBruijn64tab), ("internal/strconv.uint64pow10", laid_internal_strconv_uint64pow10)] }
def RegionPolygonsSaid : Prop := regionPolygonsRow.holds Tryz.pinned (OpenSpec.ofChange regionPolygonsSpec)

/-- ITS FALSE NEIGHBOUR: 'it returns false'. Refute it at one input. -/
def regionPolygonsWrong : ChangeSpec := { name := "regionPolygons", fn := fun _ => fun
  | [d] => { results := [.lit (.bool false)], args := [d] }
  | _ => none }
def RegionPolygonsWrongFalsely : Prop := regionPolygonsRow.holds Tryz.pinned (OpenSpec.ofChange regionPolygonsWrong)

/-- 'ordinatelaw06.RegionAreas': WHATEVER THE INPUT: true; the input reads as it did. -/
def regionAreasSpec : ChangeSpec := { name := "regionAreas", fn := fun _ => fun
  | [d1, d2, d3] => { results := [.lit (.bool true)], args := [d1, d2, d3] }
  | _ => none }
def regionAreasRow : OpenClaim := { program := "ytidnkcdelnfkjaagreatdoor", sum := "a6829ba10d7033d6f784e4dab874a6660bfdcf031b87f4c7b1f3e8b864f1fdde", func := "ordinate/ordinatelaw06.RegionAreas", spec := "regionAreas", inPlace := ["internal/abi.NoEscape", "internal/bytealg.MakeNoZero"], unfollowed := true, recurses := true, named := ["internal/strconv.uint64pow10", "math/bits.deBruijn32tab", "math/bits.deBruijn64tab"], plainKeys := false, apart := false, laid := [("math/bits.deBruijn32tab", laid_math_bits_deBruijn32tab), ("math/bits.deBruijn64tab", laid_math_bits_deBruijn64tab), ("internal/strconv.uint64pow10", laid_internal_strconv_uint64pow10)] }
def RegionAreasSaid : Prop := regionAreasRow.holds Tryz.pinned (OpenSpec.ofChange regionAreasSpec)

/-- ITS FALSE NEIGHBOUR: 'it returns false'. Refute it at one input. -/
def regionAreasWrong : ChangeSpec := { name := "regionAreas", fn := fun _ => fun
  | [d1, d2, d3] => { results := [.lit (.bool false)], args := [d1, d2, d3] }
  | _ => none }
def RegionAreasWrongFalsely : Prop := regionAreasRow.holds Tryz.pinned (OpenSpec.ofChange regionAreasWrong)

/-- 'ordinatelaw06.RegionSums': WHATEVER THE INPUT: true; the input reads as it did. -/
def regionSumsSpec : ChangeSpec := { name := "regionSums", fn := fun _ => fun
  | [d1, d2, d3, d4, d5] => { results := [.lit (.bool true)], args := [d1, d2, d3, d4, d5] }
  | _ => none }
def regionSumsRow : OpenClaim := { program := "ytidnkcdelnfkjaagreatdoor", sum := "a6829ba10d7033d6f784e4dab874a6660bfdcf031b87f4c7b1f3e8b864f1fdde", func := "ordinate/ordinatelaw06.RegionSums", spec := "regionSums", inPlace := ["internal/abi.NoEscape", "internal/bytealg.MakeNoZero"], unfollowed := true, recurses := true, named := ["internal/strconv.uint64pow10", "math/bits.deBruijn32tab", "math/bits.deBruijn64tab"], plainKeys := false, apart := false, laid := [("math/bits.deBruijn32tab", laid_math_bits_deBruijn32tab), ("math/bits.deBruijn64tab", laid_math_bits_deBruijn64tab), ("internal/strconv.uint64pow10", laid_internal_strconv_uint64pow10)] }
def RegionSumsSaid : Prop := regionSumsRow.holds Tryz.pinned (OpenSpec.ofChange regionSumsSpec)

/-- ITS FALSE NEIGHBOUR: 'it returns false'. Refute it at one input. -/
def regionSumsWrong : ChangeSpec := { name := "regionSums", fn := fun _ => fun
  | [d1, d2, d3, d4, d5] => { results := [.lit (.bool false)], args := [d1, d2, d3, d4, d5] }
  | _ => none }
def RegionSumsWrongFalsely : Prop := regionSumsRow.holds Tryz.pinned (OpenSpec.ofChange regionSumsWrong)

/-- 'ordinatelaw06.RegionMonomials': WHATEVER THE INPUT: true; the input reads as it did. -/
def regionMonomialsSpec : ChangeSpec := { name := "regionMonomials", fn := fun _ => fun
  | [d1, d2] => { results := [.lit (.bool true)], args := [d1, d2] }
  | _ => none }
def regionMonomialsRow : OpenClaim := { program := "ytidnkcdelnfkjaagreatdoor", sum := "a6829ba10d7033d6f784e4dab874a6660bfdcf031b87f4c7b1f3e8b864f1fdde", func := "ordinate/ordinatelaw06.RegionMonomials", spec := "regionMonomials", inPlace := ["internal/abi.NoEscape", "internal/bytealg.MakeNoZero"], unfollowed := true, recurses := true, named := ["internal/strconv.uint64pow10", "math/bits.deBruijn32tab", "math/bits.deBruijn64tab"], plainKeys := false, apart := false, laid := [("math/bits.deBruijn32tab", laid_math_bits_deBruijn32tab), ("math/bits.deBruijn64tab", laid_math_bits_deBruijn64tab), ("internal/strconv.uint64pow10", laid_internal_strconv_uint64pow10)] }
def RegionMonomialsSaid : Prop := regionMonomialsRow.holds Tryz.pinned (OpenSpec.ofChange regionMonomialsSpec)

/-- ITS FALSE NEIGHBOUR: 'it returns false'. Refute it at one input. -/
def regionMonomialsWrong : ChangeSpec := { name := "regionMonomials", fn := fun _ => fun
  | [d1, d2] => { results := [.lit (.bool false)], args := [d1, d2] }
  | _ => none }
def RegionMonomialsWrongFalsely : Prop := regionMonomialsRow.holds Tryz.pinned (OpenSpec.ofChange regionMonomialsWrong)

/-- 'ordinatelaw06.RegionProves': WHATEVER THE INPUT: true; the input reads as it did. -/
def regionProvesSpec : ChangeSpec := { name := "regionProves", fn := fun _ => fun
  | [d1, d2, d3, d4, d5] => { results := [.lit (.bool true)], args := [d1, d2, d3, d4, d5] }
  | _ => none }
def regionProvesRow : OpenClaim := { program := "ytidnkcdelnfkjaagreatdoor", sum := "a6829ba10d7033d6f784e4dab874a6660bfdcf031b87f4c7b1f3e8b864f1fdde", func := "ordinate/ordinatelaw06.RegionProves", spec := "regionProves", inPlace := ["internal/abi.NoEscape", "internal/bytealg.MakeNoZero"], unfollowed := true, recurses := true, named := ["internal/strconv.uint64pow10", "math/bits.deBruijn32tab", "math/bits.deBruijn64tab"], plainKeys := false, apart := false, laid := [("math/bits.deBruijn32tab", laid_math_bits_deBruijn32tab), ("math/bits.deBruijn64tab", laid_math_bits_deBruijn64tab), ("internal/strconv.uint64pow10", laid_internal_strconv_uint64pow10)] }
def RegionProvesSaid : Prop := regionProvesRow.holds Tryz.pinned (OpenSpec.ofChange regionProvesSpec)

/-- ITS FALSE NEIGHBOUR: 'it returns false'. Refute it at one input. -/
def regionProvesWrong : ChangeSpec := { name := "regionProves", fn := fun _ => fun
  | [d1, d2, d3, d4, d5] => { results := [.lit (.bool false)], args := [d1, d2, d3, d4, d5] }
  | _ => none }
def RegionProvesWrongFalsely : Prop := regionProvesRow.holds Tryz.pinned (OpenSpec.ofChange regionProvesWrong)

/-- 'ordinatelaw06.RegionFits': WHATEVER THE INPUT: true; the input reads as it did. -/
def regionFitsSpec : ChangeSpec := { name := "regionFits", fn := fun _ => fun
  | [d1, d2, d3] => { results := [.lit (.bool true)], args := [d1, d2, d3] }
  | _ => none }
def regionFitsRow : OpenClaim := { program := "ytidnkcdelnfkjaagreatdoor", sum := "a6829ba10d7033d6f784e4dab874a6660bfdcf031b87f4c7b1f3e8b864f1fdde", func := "ordinate/ordinatelaw06.RegionFits", spec := "regionFits", inPlace := ["internal/abi.NoEscape", "internal/bytealg.MakeNoZero"], unfollowed := true, recurses := true, named := ["internal/strconv.uint64pow10", "math/bits.deBruijn32tab", "math/bits.deBruijn64tab"], plainKeys := false, apart := false, laid := [("math/bits.deBruijn32tab", laid_math_bits_deBruijn32tab), ("math/bits.deBruijn64tab", laid_math_bits_deBruijn64tab), ("internal/strconv.uint64pow10", laid_internal_strconv_uint64pow10)] }
def RegionFitsSaid : Prop := regionFitsRow.holds Tryz.pinned (OpenSpec.ofChange regionFitsSpec)

/-- ITS FALSE NEIGHBOUR: 'it returns false'. Refute it at one input. -/
def regionFitsWrong : ChangeSpec := { name := "regionFits", fn := fun _ => fun
  | [d1, d2, d3] => { results := [.lit (.bool false)], args := [d1, d2, d3] }
  | _ => none }
def RegionFitsWrongFalsely : Prop := regionFitsRow.holds Tryz.pinned (OpenSpec.ofChange regionFitsWrong)

/-- 'ordinatelaw06.RegionReduces': WHATEVER THE INPUT: true; the input reads as it did. -/
def regionReducesSpec : ChangeSpec := { name := "regionReduces", fn := fun _ => fun
  | [d1, d2] => { results := [.lit (.bool true)], args := [d1, d2] }
  | _ => none }
def regionReducesRow : OpenClaim := { program := "ytidnkcdelnfkjaagreatdoor", sum := "a6829ba10d7033d6f784e4dab874a6660bfdcf031b87f4c7b1f3e8b864f1fdde", func := "ordinate/ordinatelaw06.RegionReduces", spec := "regionReduces", inPlace := ["internal/abi.NoEscape", "internal/bytealg.MakeNoZero"], unfollowed := true, recurses := true, named := ["internal/strconv.uint64pow10", "math/bits.deBruijn32tab", "math/bits.deBruijn64tab"], plainKeys := false, apart := false, laid := [("math/bits.deBruijn32tab", laid_math_bits_deBruijn32tab), ("math/bits.deBruijn64tab", laid_math_bits_deBruijn64tab), ("internal/strconv.uint64pow10", laid_internal_strconv_uint64pow10)] }
def RegionReducesSaid : Prop := regionReducesRow.holds Tryz.pinned (OpenSpec.ofChange regionReducesSpec)

/-- ITS FALSE NEIGHBOUR: 'it returns false'. Refute it at one input. -/
def regionReducesWrong : ChangeSpec := { name := "regionReduces", fn := fun _ => fun
  | [d1, d2] => { results := [.lit (.bool false)], args := [d1, d2] }
  | _ => none }
def RegionReducesWrongFalsely : Prop := regionReducesRow.holds Tryz.pinned (OpenSpec.ofChange regionReducesWrong)

/-- 'ordinatelaw06.RegionIntegrals': WHATEVER THE INPUT: true; the input reads as it did. -/
def regionIntegralsSpec : ChangeSpec := { name := "regionIntegrals", fn := fun _ => fun
  | [d1, d2, d3] => { results := [.lit (.bool true)], args := [d1, d2, d3] }
  | _ => none }
def regionIntegralsRow : OpenClaim := { program := "ytidnkcdelnfkjaagreatdoor", sum := "a6829ba10d7033d6f784e4dab874a6660bfdcf031b87f4c7b1f3e8b864f1fdde", func := "ordinate/ordinatelaw06.RegionIntegrals", spec := "regionIntegrals", inPlace := ["internal/abi.NoEscape", "internal/bytealg.MakeNoZero"], unfollowed := true, recurses := true, named := ["internal/strconv.uint64pow10", "math/bits.deBruijn32tab", "math/bits.deBruijn64tab"], plainKeys := false, apart := false, laid := [("math/bits.deBruijn32tab", laid_math_bits_deBruijn32tab), ("math/bits.deBruijn64tab", laid_math_bits_deBruijn64tab), ("internal/strconv.uint64pow10", laid_internal_strconv_uint64pow10)] }
def RegionIntegralsSaid : Prop := regionIntegralsRow.holds Tryz.pinned (OpenSpec.ofChange regionIntegralsSpec)

/-- ITS FALSE NEIGHBOUR: 'it returns false'. Refute it at one input. -/
def regionIntegralsWrong : ChangeSpec := { name := "regionIntegrals", fn := fun _ => fun
  | [d1, d2, d3] => { results := [.lit (.bool false)], args := [d1, d2, d3] }
  | _ => none }
def RegionIntegralsWrongFalsely : Prop := regionIntegralsRow.holds Tryz.pinned (OpenSpec.ofChange regionIntegralsWrong)

/-- 'ordinatelaw06.RegionForms': WHATEVER THE INPUT: true; the input reads as it did. -/
def regionFormsSpec : ChangeSpec := { name := "regionForms", fn := fun _ => fun
  | [d1, d2, d3, d4] => { results := [.lit (.bool true)], args := [d1, d2, d3, d4] }
  | _ => none }
def regionFormsRow : OpenClaim := { program := "ytidnkcdelnfkjaagreatdoor", sum := "a6829ba10d7033d6f784e4dab874a6660bfdcf031b87f4c7b1f3e8b864f1fdde", func := "ordinate/ordinatelaw06.RegionForms", spec := "regionForms", inPlace := ["internal/abi.NoEscape", "internal/bytealg.MakeNoZero"], unfollowed := true, recurses := true, named := ["internal/strconv.uint64pow10", "math/bits.deBruijn32tab", "math/bits.deBruijn64tab"], plainKeys := false, apart := false, laid := [("math/bits.deBruijn32tab", laid_math_bits_deBruijn32tab), ("math/bits.deBruijn64tab", laid_math_bits_deBruijn64tab), ("internal/strconv.uint64pow10", laid_internal_strconv_uint64pow10)] }
def RegionFormsSaid : Prop := regionFormsRow.holds Tryz.pinned (OpenSpec.ofChange regionFormsSpec)

/-- ITS FALSE NEIGHBOUR: 'it returns false'. Refute it at one input. -/
def regionFormsWrong : ChangeSpec := { name := "regionForms", fn := fun _ => fun
  | [d1, d2, d3, d4] => { results := [.lit (.bool false)], args := [d1, d2, d3, d4] }
  | _ => none }
def RegionFormsWrongFalsely : Prop := regionFormsRow.holds Tryz.pinned (OpenSpec.ofChange regionFormsWrong)

/-- 'ordinatelaw06.RegionTchakaloff': WHATEVER THE INPUT: true; the input reads as it did. -/
def regionTchakaloffSpec : ChangeSpec := { name := "regionTchakaloff", fn := fun _ => fun
  | [d1, d2, d3, d4] => { results := [.lit (.bool true)], args := [d1, d2, d3, d4] }
  | _ => none }
def regionTchakaloffRow : OpenClaim := { program := "ytidnkcdelnfkjaagreatdoor", sum := "a6829ba10d7033d6f784e4dab874a6660bfdcf031b87f4c7b1f3e8b864f1fdde", func := "ordinate/ordinatelaw06.RegionTchakaloff", spec := "regionTchakaloff", inPlace := ["internal/abi.NoEscape", "internal/bytealg.MakeNoZero"], unfollowed := true, recurses := true, named := ["internal/strconv.uint64pow10", "math/bits.deBruijn32tab", "math/bits.deBruijn64tab"], plainKeys := false, apart := false, laid := [("math/bits.deBruijn32tab", laid_math_bits_deBruijn32tab), ("math/bits.deBruijn64tab", laid_math_bits_deBruijn64tab), ("internal/strconv.uint64pow10", laid_internal_strconv_uint64pow10)] }
def RegionTchakaloffSaid : Prop := regionTchakaloffRow.holds Tryz.pinned (OpenSpec.ofChange regionTchakaloffSpec)

/-- ITS FALSE NEIGHBOUR: 'it returns false'. Refute it at one input. -/
def regionTchakaloffWrong : ChangeSpec := { name := "regionTchakaloff", fn := fun _ => fun
  | [d1, d2, d3, d4] => { results := [.lit (.bool false)], args := [d1, d2, d3, d4] }
  | _ => none }
def RegionTchakaloffWrongFalsely : Prop := regionTchakaloffRow.holds Tryz.pinned (OpenSpec.ofChange regionTchakaloffWrong)

/-- 'ordinatelaw06.RegionProducts': WHATEVER THE INPUT: true; the input reads as it did. -/
def regionProductsSpec : ChangeSpec := { name := "regionProducts", fn := fun _ => fun
  | [d1, d2, d3, d4] => { results := [.lit (.bool true)], args := [d1, d2, d3, d4] }
  | _ => none }
def regionProductsRow : OpenClaim := { program := "ytidnkcdelnfkjaagreatdoor", sum := "a6829ba10d7033d6f784e4dab874a6660bfdcf031b87f4c7b1f3e8b864f1fdde", func := "ordinate/ordinatelaw06.RegionProducts", spec := "regionProducts", inPlace := ["internal/abi.NoEscape", "internal/bytealg.MakeNoZero"], unfollowed := true, recurses := true, named := ["internal/strconv.uint64pow10", "math/bits.deBruijn32tab", "math/bits.deBruijn64tab"], plainKeys := false, apart := false, laid := [("math/bits.deBruijn32tab", laid_math_bits_deBruijn32tab), ("math/bits.deBruijn64tab", laid_math_bits_deBruijn64tab), ("internal/strconv.uint64pow10", laid_internal_strconv_uint64pow10)] }
def RegionProductsSaid : Prop := regionProductsRow.holds Tryz.pinned (OpenSpec.ofChange regionProductsSpec)

/-- ITS FALSE NEIGHBOUR: 'it returns false'. Refute it at one input. -/
def regionProductsWrong : ChangeSpec := { name := "regionProducts", fn := fun _ => fun
  | [d1, d2, d3, d4] => { results := [.lit (.bool false)], args := [d1, d2, d3, d4] }
  | _ => none }
def RegionProductsWrongFalsely : Prop := regionProductsRow.holds Tryz.pinned (OpenSpec.ofChange regionProductsWrong)

/-- 'ordinatelaw06.RegionClouds': WHATEVER THE INPUT: true; the input reads as it did. -/
def regionCloudsSpec : ChangeSpec := { name := "regionClouds", fn := fun _ => fun
  | [d1, d2, d3, d4, d5] => { results := [.lit (.bool true)], args := [d1, d2, d3, d4, d5] }
  | _ => none }
def regionCloudsRow : OpenClaim := { program := "ytidnkcdelnfkjaagreatdoor", sum := "a6829ba10d7033d6f784e4dab874a6660bfdcf031b87f4c7b1f3e8b864f1fdde", func := "ordinate/ordinatelaw06.RegionClouds", spec := "regionClouds", inPlace := ["internal/abi.NoEscape", "internal/bytealg.MakeNoZero"], unfollowed := true, recurses := true, named := ["internal/strconv.uint64pow10", "math/bits.deBruijn32tab", "math/bits.deBruijn64tab"], plainKeys := false, apart := false, laid := [("math/bits.deBruijn32tab", laid_math_bits_deBruijn32tab), ("math/bits.deBruijn64tab", laid_math_bits_deBruijn64tab), ("internal/strconv.uint64pow10", laid_internal_strconv_uint64pow10)] }
def RegionCloudsSaid : Prop := regionCloudsRow.holds Tryz.pinned (OpenSpec.ofChange regionCloudsSpec)

/-- ITS FALSE NEIGHBOUR: 'it returns false'. Refute it at one input. -/
def regionCloudsWrong : ChangeSpec := { name := "regionClouds", fn := fun _ => fun
  | [d1, d2, d3, d4, d5] => { results := [.lit (.bool false)], args := [d1, d2, d3, d4, d5] }
  | _ => none }
def RegionCloudsWrongFalsely : Prop := regionCloudsRow.holds Tryz.pinned (OpenSpec.ofChange regionCloudsWrong)

/-- 'ordinatelaw06.RegionSparse': WHATEVER THE INPUT: true; the input reads as it did. -/
def regionSparseSpec : ChangeSpec := { name := "regionSparse", fn := fun _ => fun
  | [d1, d2, d3] => { results := [.lit (.bool true)], args := [d1, d2, d3] }
  | _ => none }
def regionSparseRow : OpenClaim := { program := "ytidnkcdelnfkjaagreatdoor", sum := "a6829ba10d7033d6f784e4dab874a6660bfdcf031b87f4c7b1f3e8b864f1fdde", func := "ordinate/ordinatelaw06.RegionSparse", spec := "regionSparse", inPlace := ["internal/abi.NoEscape", "internal/bytealg.MakeNoZero"], unfollowed := true, recurses := true, named := ["internal/strconv.uint64pow10", "math/bits.deBruijn32tab", "math/bits.deBruijn64tab"], plainKeys := false, apart := false, laid := [("math/bits.deBruijn32tab", laid_math_bits_deBruijn32tab), ("math/bits.deBruijn64tab", laid_math_bits_deBruijn64tab), ("internal/strconv.uint64pow10", laid_internal_strconv_uint64pow10)] }
def RegionSparseSaid : Prop := regionSparseRow.holds Tryz.pinned (OpenSpec.ofChange regionSparseSpec)

/-- ITS FALSE NEIGHBOUR: 'it returns false'. Refute it at one input. -/
def regionSparseWrong : ChangeSpec := { name := "regionSparse", fn := fun _ => fun
  | [d1, d2, d3] => { results := [.lit (.bool false)], args := [d1, d2, d3] }
  | _ => none }
def RegionSparseWrongFalsely : Prop := regionSparseRow.holds Tryz.pinned (OpenSpec.ofChange regionSparseWrong)

/-- 'ordinatelaw06.RegionSmolyak': WHATEVER THE INPUT: true; the input reads as it did. -/
def regionSmolyakSpec : ChangeSpec := { name := "regionSmolyak", fn := fun _ => fun
  | [d1, d2, d3] => { results := [.lit (.bool true)], args := [d1, d2, d3] }
  | _ => none }
def regionSmolyakRow : OpenClaim := { program := "ytidnkcdelnfkjaagreatdoor", sum := "a6829ba10d7033d6f784e4dab874a6660bfdcf031b87f4c7b1f3e8b864f1fdde", func := "ordinate/ordinatelaw06.RegionSmolyak", spec := "regionSmolyak", inPlace := ["internal/abi.NoEscape", "internal/bytealg.MakeNoZero"], unfollowed := true, recurses := true, named := ["internal/strconv.uint64pow10", "math/bits.deBruijn32tab", "math/bits.deBruijn64tab"], plainKeys := false, apart := false, laid := [("math/bits.deBruijn32tab", laid_math_bits_deBruijn32tab), ("math/bits.deBruijn64tab", laid_math_bits_deBruijn64tab), ("internal/strconv.uint64pow10", laid_internal_strconv_uint64pow10)] }
def RegionSmolyakSaid : Prop := regionSmolyakRow.holds Tryz.pinned (OpenSpec.ofChange regionSmolyakSpec)

/-- ITS FALSE NEIGHBOUR: 'it returns false'. Refute it at one input. -/
def regionSmolyakWrong : ChangeSpec := { name := "regionSmolyak", fn := fun _ => fun
  | [d1, d2, d3] => { results := [.lit (.bool false)], args := [d1, d2, d3] }
  | _ => none }
def RegionSmolyakWrongFalsely : Prop := regionSmolyakRow.holds Tryz.pinned (OpenSpec.ofChange regionSmolyakWrong)

/- THE SECOND FORM. 'bulk': how many values and letters a reading holds, each counted each time it is reached (what is shared counts as often as it is met; a slice's spare places count too). A statement '..UptoSaid' is the law's where the arguments, and the package variables that the reading takes, are together of bulk at most 1048576: NARROWER than '..Said'. Prove '..Said' where nothing that the law and all that it calls make is longer than what came in: it says more and counts as full. Else prove '..UptoSaid'. A law counts once. -/
mutual
def uptoBulk {H : Type} : DataW H → Nat
  | .lit (.string bytes) => bytes.length + 1
  | .lit _ => 1
  | .nil => 1
  | .ptr d => uptoBulk d + 1
  | .slice elems spare => uptoBulkAll elems + uptoBulkAll spare + 1
  | .agg parts => uptoBulkAll parts + 1
  | .iface _ d => uptoBulk d + 1
  | .map entries => uptoBulkEntries entries + 1
  | .held _ => 1
def uptoBulkAll {H : Type} : List (DataW H) → Nat
  | [] => 0
  | d :: r => uptoBulk d + uptoBulkAll r
def uptoBulkEntries {H : Type} : List (Lit × DataW H) → Nat
  | [] => 0
  | x :: r => uptoBulkEntry x + uptoBulkEntries r
def uptoBulkEntry {H : Type} : Lit × DataW H → Nat
  | (.string bytes, d) => bytes.length + uptoBulk d + 1
  | (_, d) => uptoBulk d + 1
 end
def uptoSmall : (H : Type) → List (DataW H) → Bool := fun _ ds => decide (uptoBulkAll ds ≤ 1048576)
def OpenSpec.upto (s : _root_.Go.ChangeSpec) : _root_.Go.OpenSpec := { _root_.Go.OpenSpec.ofChange s with cond := some uptoSmall }

/-- 'ordinatelaw06.RegionPolygons', WHERE WHAT IT READS IS OF BULK AT MOST 1048576: true; the input reads as it did. -/
def regionPolygonsUptoRow : OpenClaim := { program := "ytidnkcdelnfkjaagreatdoor", sum := "a6829ba10d7033d6f784e4dab874a6660bfdcf031b87f4c7b1f3e8b864f1fdde", func := "ordinate/ordinatelaw06.RegionPolygons", spec := "regionPolygons", inPlace := ["internal/abi.NoEscape", "internal/bytealg.MakeNoZero"], unfollowed := true, recurses := true, named := ["internal/strconv.uint64pow10", "math/bits.deBruijn32tab", "math/bits.deBruijn64tab"], plainKeys := false, apart := false, laid := [("math/bits.deBruijn32tab", laid_math_bits_deBruijn32tab), ("math/bits.deBruijn64tab", laid_math_bits_deBruijn64tab), ("internal/strconv.uint64pow10", laid_internal_strconv_uint64pow10)], narrowed := true }
def RegionPolygonsUptoSaid : Prop := regionPolygonsUptoRow.holds Tryz.pinned (OpenSpec.upto regionPolygonsSpec)

/-- 'ordinatelaw06.RegionAreas', WHERE WHAT IT READS IS OF BULK AT MOST 1048576: true; the input reads as it did. -/
def regionAreasUptoRow : OpenClaim := { program := "ytidnkcdelnfkjaagreatdoor", sum := "a6829ba10d7033d6f784e4dab874a6660bfdcf031b87f4c7b1f3e8b864f1fdde", func := "ordinate/ordinatelaw06.RegionAreas", spec := "regionAreas", inPlace := ["internal/abi.NoEscape", "internal/bytealg.MakeNoZero"], unfollowed := true, recurses := true, named := ["internal/strconv.uint64pow10", "math/bits.deBruijn32tab", "math/bits.deBruijn64tab"], plainKeys := false, apart := false, laid := [("math/bits.deBruijn32tab", laid_math_bits_deBruijn32tab), ("math/bits.deBruijn64tab", laid_math_bits_deBruijn64tab), ("internal/strconv.uint64pow10", laid_internal_strconv_uint64pow10)], narrowed := true }
def RegionAreasUptoSaid : Prop := regionAreasUptoRow.holds Tryz.pinned (OpenSpec.upto regionAreasSpec)

/-- 'ordinatelaw06.RegionSums', WHERE WHAT IT READS IS OF BULK AT MOST 1048576: true; the input reads as it did. -/
def regionSumsUptoRow : OpenClaim := { program := "ytidnkcdelnfkjaagreatdoor", sum := "a6829ba10d7033d6f784e4dab874a6660bfdcf031b87f4c7b1f3e8b864f1fdde", func := "ordinate/ordinatelaw06.RegionSums", spec := "regionSums", inPlace := ["internal/abi.NoEscape", "internal/bytealg.MakeNoZero"], unfollowed := true, recurses := true, named := ["internal/strconv.uint64pow10", "math/bits.deBruijn32tab", "math/bits.deBruijn64tab"], plainKeys := false, apart := false, laid := [("math/bits.deBruijn32tab", laid_math_bits_deBruijn32tab), ("math/bits.deBruijn64tab", laid_math_bits_deBruijn64tab), ("internal/strconv.uint64pow10", laid_internal_strconv_uint64pow10)], narrowed := true }
def RegionSumsUptoSaid : Prop := regionSumsUptoRow.holds Tryz.pinned (OpenSpec.upto regionSumsSpec)

/-- 'ordinatelaw06.RegionMonomials', WHERE WHAT IT READS IS OF BULK AT MOST 1048576: true; the input reads as it did. -/
def regionMonomialsUptoRow : OpenClaim := { program := "ytidnkcdelnfkjaagreatdoor", sum := "a6829ba10d7033d6f784e4dab874a6660bfdcf031b87f4c7b1f3e8b864f1fdde", func := "ordinate/ordinatelaw06.RegionMonomials", spec := "regionMonomials", inPlace := ["internal/abi.NoEscape", "internal/bytealg.MakeNoZero"], unfollowed := true, recurses := true, named := ["internal/strconv.uint64pow10", "math/bits.deBruijn32tab", "math/bits.deBruijn64tab"], plainKeys := false, apart := false, laid := [("math/bits.deBruijn32tab", laid_math_bits_deBruijn32tab), ("math/bits.deBruijn64tab", laid_math_bits_deBruijn64tab), ("internal/strconv.uint64pow10", laid_internal_strconv_uint64pow10)], narrowed := true }
def RegionMonomialsUptoSaid : Prop := regionMonomialsUptoRow.holds Tryz.pinned (OpenSpec.upto regionMonomialsSpec)

/-- 'ordinatelaw06.RegionProves', WHERE WHAT IT READS IS OF BULK AT MOST 1048576: true; the input reads as it did. -/
def regionProvesUptoRow : OpenClaim := { program := "ytidnkcdelnfkjaagreatdoor", sum := "a6829ba10d7033d6f784e4dab874a6660bfdcf031b87f4c7b1f3e8b864f1fdde", func := "ordinate/ordinatelaw06.RegionProves", spec := "regionProves", inPlace := ["internal/abi.NoEscape", "internal/bytealg.MakeNoZero"], unfollowed := true, recurses := true, named := ["internal/strconv.uint64pow10", "math/bits.deBruijn32tab", "math/bits.deBruijn64tab"], plainKeys := false, apart := false, laid := [("math/bits.deBruijn32tab", laid_math_bits_deBruijn32tab), ("math/bits.deBruijn64tab", laid_math_bits_deBruijn64tab), ("internal/strconv.uint64pow10", laid_internal_strconv_uint64pow10)], narrowed := true }
def RegionProvesUptoSaid : Prop := regionProvesUptoRow.holds Tryz.pinned (OpenSpec.upto regionProvesSpec)

/-- 'ordinatelaw06.RegionFits', WHERE WHAT IT READS IS OF BULK AT MOST 1048576: true; the input reads as it did. -/
def regionFitsUptoRow : OpenClaim := { program := "ytidnkcdelnfkjaagreatdoor", sum := "a6829ba10d7033d6f784e4dab874a6660bfdcf031b87f4c7b1f3e8b864f1fdde", func := "ordinate/ordinatelaw06.RegionFits", spec := "regionFits", inPlace := ["internal/abi.NoEscape", "internal/bytealg.MakeNoZero"], unfollowed := true, recurses := true, named := ["internal/strconv.uint64pow10", "math/bits.deBruijn32tab", "math/bits.deBruijn64tab"], plainKeys := false, apart := false, laid := [("math/bits.deBruijn32tab", laid_math_bits_deBruijn32tab), ("math/bits.deBruijn64tab", laid_math_bits_deBruijn64tab), ("internal/strconv.uint64pow10", laid_internal_strconv_uint64pow10)], narrowed := true }
def RegionFitsUptoSaid : Prop := regionFitsUptoRow.holds Tryz.pinned (OpenSpec.upto regionFitsSpec)

/-- 'ordinatelaw06.RegionReduces', WHERE WHAT IT READS IS OF BULK AT MOST 1048576: true; the input reads as it did. -/
def regionReducesUptoRow : OpenClaim := { program := "ytidnkcdelnfkjaagreatdoor", sum := "a6829ba10d7033d6f784e4dab874a6660bfdcf031b87f4c7b1f3e8b864f1fdde", func := "ordinate/ordinatelaw06.RegionReduces", spec := "regionReduces", inPlace := ["internal/abi.NoEscape", "internal/bytealg.MakeNoZero"], unfollowed := true, recurses := true, named := ["internal/strconv.uint64pow10", "math/bits.deBruijn32tab", "math/bits.deBruijn64tab"], plainKeys := false, apart := false, laid := [("math/bits.deBruijn32tab", laid_math_bits_deBruijn32tab), ("math/bits.deBruijn64tab", laid_math_bits_deBruijn64tab), ("internal/strconv.uint64pow10", laid_internal_strconv_uint64pow10)], narrowed := true }
def RegionReducesUptoSaid : Prop := regionReducesUptoRow.holds Tryz.pinned (OpenSpec.upto regionReducesSpec)

/-- 'ordinatelaw06.RegionIntegrals', WHERE WHAT IT READS IS OF BULK AT MOST 1048576: true; the input reads as it did. -/
def regionIntegralsUptoRow : OpenClaim := { program := "ytidnkcdelnfkjaagreatdoor", sum := "a6829ba10d7033d6f784e4dab874a6660bfdcf031b87f4c7b1f3e8b864f1fdde", func := "ordinate/ordinatelaw06.RegionIntegrals", spec := "regionIntegrals", inPlace := ["internal/abi.NoEscape", "internal/bytealg.MakeNoZero"], unfollowed := true, recurses := true, named := ["internal/strconv.uint64pow10", "math/bits.deBruijn32tab", "math/bits.deBruijn64tab"], plainKeys := false, apart := false, laid := [("math/bits.deBruijn32tab", laid_math_bits_deBruijn32tab), ("math/bits.deBruijn64tab", laid_math_bits_deBruijn64tab), ("internal/strconv.uint64pow10", laid_internal_strconv_uint64pow10)], narrowed := true }
def RegionIntegralsUptoSaid : Prop := regionIntegralsUptoRow.holds Tryz.pinned (OpenSpec.upto regionIntegralsSpec)

/-- 'ordinatelaw06.RegionForms', WHERE WHAT IT READS IS OF BULK AT MOST 1048576: true; the input reads as it did. -/
def regionFormsUptoRow : OpenClaim := { program := "ytidnkcdelnfkjaagreatdoor", sum := "a6829ba10d7033d6f784e4dab874a6660bfdcf031b87f4c7b1f3e8b864f1fdde", func := "ordinate/ordinatelaw06.RegionForms", spec := "regionForms", inPlace := ["internal/abi.NoEscape", "internal/bytealg.MakeNoZero"], unfollowed := true, recurses := true, named := ["internal/strconv.uint64pow10", "math/bits.deBruijn32tab", "math/bits.deBruijn64tab"], plainKeys := false, apart := false, laid := [("math/bits.deBruijn32tab", laid_math_bits_deBruijn32tab), ("math/bits.deBruijn64tab", laid_math_bits_deBruijn64tab), ("internal/strconv.uint64pow10", laid_internal_strconv_uint64pow10)], narrowed := true }
def RegionFormsUptoSaid : Prop := regionFormsUptoRow.holds Tryz.pinned (OpenSpec.upto regionFormsSpec)

/-- 'ordinatelaw06.RegionTchakaloff', WHERE WHAT IT READS IS OF BULK AT MOST 1048576: true; the input reads as it did. -/
def regionTchakaloffUptoRow : OpenClaim := { program := "ytidnkcdelnfkjaagreatdoor", sum := "a6829ba10d7033d6f784e4dab874a6660bfdcf031b87f4c7b1f3e8b864f1fdde", func := "ordinate/ordinatelaw06.RegionTchakaloff", spec := "regionTchakaloff", inPlace := ["internal/abi.NoEscape", "internal/bytealg.MakeNoZero"], unfollowed := true, recurses := true, named := ["internal/strconv.uint64pow10", "math/bits.deBruijn32tab", "math/bits.deBruijn64tab"], plainKeys := false, apart := false, laid := [("math/bits.deBruijn32tab", laid_math_bits_deBruijn32tab), ("math/bits.deBruijn64tab", laid_math_bits_deBruijn64tab), ("internal/strconv.uint64pow10", laid_internal_strconv_uint64pow10)], narrowed := true }
def RegionTchakaloffUptoSaid : Prop := regionTchakaloffUptoRow.holds Tryz.pinned (OpenSpec.upto regionTchakaloffSpec)

/-- 'ordinatelaw06.RegionProducts', WHERE WHAT IT READS IS OF BULK AT MOST 1048576: true; the input reads as it did. -/
def regionProductsUptoRow : OpenClaim := { program := "ytidnkcdelnfkjaagreatdoor", sum := "a6829ba10d7033d6f784e4dab874a6660bfdcf031b87f4c7b1f3e8b864f1fdde", func := "ordinate/ordinatelaw06.RegionProducts", spec := "regionProducts", inPlace := ["internal/abi.NoEscape", "internal/bytealg.MakeNoZero"], unfollowed := true, recurses := true, named := ["internal/strconv.uint64pow10", "math/bits.deBruijn32tab", "math/bits.deBruijn64tab"], plainKeys := false, apart := false, laid := [("math/bits.deBruijn32tab", laid_math_bits_deBruijn32tab), ("math/bits.deBruijn64tab", laid_math_bits_deBruijn64tab), ("internal/strconv.uint64pow10", laid_internal_strconv_uint64pow10)], narrowed := true }
def RegionProductsUptoSaid : Prop := regionProductsUptoRow.holds Tryz.pinned (OpenSpec.upto regionProductsSpec)

/-- 'ordinatelaw06.RegionClouds', WHERE WHAT IT READS IS OF BULK AT MOST 1048576: true; the input reads as it did. -/
def regionCloudsUptoRow : OpenClaim := { program := "ytidnkcdelnfkjaagreatdoor", sum := "a6829ba10d7033d6f784e4dab874a6660bfdcf031b87f4c7b1f3e8b864f1fdde", func := "ordinate/ordinatelaw06.RegionClouds", spec := "regionClouds", inPlace := ["internal/abi.NoEscape", "internal/bytealg.MakeNoZero"], unfollowed := true, recurses := true, named := ["internal/strconv.uint64pow10", "math/bits.deBruijn32tab", "math/bits.deBruijn64tab"], plainKeys := false, apart := false, laid := [("math/bits.deBruijn32tab", laid_math_bits_deBruijn32tab), ("math/bits.deBruijn64tab", laid_math_bits_deBruijn64tab), ("internal/strconv.uint64pow10", laid_internal_strconv_uint64pow10)], narrowed := true }
def RegionCloudsUptoSaid : Prop := regionCloudsUptoRow.holds Tryz.pinned (OpenSpec.upto regionCloudsSpec)

/-- 'ordinatelaw06.RegionSparse', WHERE WHAT IT READS IS OF BULK AT MOST 1048576: true; the input reads as it did. -/
def regionSparseUptoRow : OpenClaim := { program := "ytidnkcdelnfkjaagreatdoor", sum := "a6829ba10d7033d6f784e4dab874a6660bfdcf031b87f4c7b1f3e8b864f1fdde", func := "ordinate/ordinatelaw06.RegionSparse", spec := "regionSparse", inPlace := ["internal/abi.NoEscape", "internal/bytealg.MakeNoZero"], unfollowed := true, recurses := true, named := ["internal/strconv.uint64pow10", "math/bits.deBruijn32tab", "math/bits.deBruijn64tab"], plainKeys := false, apart := false, laid := [("math/bits.deBruijn32tab", laid_math_bits_deBruijn32tab), ("math/bits.deBruijn64tab", laid_math_bits_deBruijn64tab), ("internal/strconv.uint64pow10", laid_internal_strconv_uint64pow10)], narrowed := true }
def RegionSparseUptoSaid : Prop := regionSparseUptoRow.holds Tryz.pinned (OpenSpec.upto regionSparseSpec)

/-- 'ordinatelaw06.RegionSmolyak', WHERE WHAT IT READS IS OF BULK AT MOST 1048576: true; the input reads as it did. -/
def regionSmolyakUptoRow : OpenClaim := { program := "ytidnkcdelnfkjaagreatdoor", sum := "a6829ba10d7033d6f784e4dab874a6660bfdcf031b87f4c7b1f3e8b864f1fdde", func := "ordinate/ordinatelaw06.RegionSmolyak", spec := "regionSmolyak", inPlace := ["internal/abi.NoEscape", "internal/bytealg.MakeNoZero"], unfollowed := true, recurses := true, named := ["internal/strconv.uint64pow10", "math/bits.deBruijn32tab", "math/bits.deBruijn64tab"], plainKeys := false, apart := false, laid := [("math/bits.deBruijn32tab", laid_math_bits_deBruijn32tab), ("math/bits.deBruijn64tab", laid_math_bits_deBruijn64tab), ("internal/strconv.uint64pow10", laid_internal_strconv_uint64pow10)], narrowed := true }
def RegionSmolyakUptoSaid : Prop := regionSmolyakUptoRow.holds Tryz.pinned (OpenSpec.upto regionSmolyakSpec)

end Rows
end Go.Proofs.YtidnkcdelnfkjaaGreatDoor
