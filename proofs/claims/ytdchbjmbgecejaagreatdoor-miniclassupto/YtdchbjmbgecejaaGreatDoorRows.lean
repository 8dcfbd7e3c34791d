/-
  NARROWER THAN 'FOR EVERY INPUT', by the rows' own cells (each row's printed sentence says how): MiniMinimal: laid · MiniSame: laid · MiniLaws: loops, laid · MiniClass: loops, laid · MiniMeans: loops, laid · BooleanMeet: loops, laid · BooleanMinus: loops, laid · BooleanLaws: loops, laid.
  DERIVED. THE GIVEN ROWS OF THIS SEAT. 8 by the template 'for every input the law returns true; each argument reads behind the call as it read before'; 0 by the template 'total and deterministic' (their statements: YtdchbjmbgecejaaGreatDoorTotals.lean).
  GIVEN WITH THE SEED: the statements are not yours to turn. If you find one false, say at which input.
  Laid BY PROGRAM, IN A SANDBOX (cutbox-rows.mjs): the forced cells as the released guide's own fill.sh prints them over the translation 12243b1b6cef9369… (all of the seat's roots in one cut). By AI agents, Wed Nov 11 2026. No macro, syntax, notation, axiom, sorry.
-/
import Derived.Test.YtdchbjmbgecejaaGreatDoorChecked
import GoSem.Claim
import GoSem.ClaimJoined
import GoSem.ClaimMapViews
import Derived.JoinedTies
import Derived.KernelRfl
namespace Go.Proofs.YtdchbjmbgecejaaGreatDoor
/- THE CELL 'sum', in the pinned program and in every row, IS THE sha256 OF THE DUMP (.gsa) THAT YtdchbjmbgecejaaGreatDoorProg.lean LOADS. Nothing in Lean hashes anything: it is a label: what it is worth is what the hold of that sum in a sandbox is worth. -/
noncomputable def Tryz.pinned : Pinned := { name := "ytdchbjmbgecejaagreatdoor", sum := "12243b1b6cef936987932fb589386b7c352cabb989ae51caa4730aa1ca7f9b5e", checked := Tryz.checked }
namespace Rows
def none {H : Type} : Left H := { results := [], args := [] }

/- WHAT THE LISTED PACKAGE-LEVEL VARIABLES READ AS WHEN THE CALL BEGINS. Each datum BY PROGRAM (the guide's laid-datum.mjs) off the statement by which the dump's own 'gosem.cut.vars' lays the variable. In a bare row this is a premise. The card (YtdchbjmbgecejaaGreatDoorCards.lean) ties it to the program's text. -/
def laid_math_bits_deBruijn32tab {H : Type} : DataW H := .agg [.lit (.int .u8 0), .lit (.int .u8 1), .lit (.int .u8 28), .lit (.int .u8 2), .lit (.int .u8 29), .lit (.int .u8 14), .lit (.int .u8 24), .lit (.int .u8 3), .lit (.int .u8 30), .lit (.int .u8 22), .lit (.int .u8 20), .lit (.int .u8 15), .lit (.int .u8 25), .lit (.int .u8 17), .lit (.int .u8 4), .lit (.int .u8 8), .lit (.int .u8 31), .lit (.int .u8 27), .lit (.int .u8 13), .lit (.int .u8 23), .lit (.int .u8 21), .lit (.int .u8 19), .lit (.int .u8 16), .lit (.int .u8 7), .lit (.int .u8 26), .lit (.int .u8 12), .lit (.int .u8 18), .lit (.int .u8 6), .lit (.int .u8 11), .lit (.int .u8 5), .lit (.int .u8 10), .lit (.int .u8 9)]
def laid_math_bits_deBruijn64tab {H : Type} : DataW H := .agg [.lit (.int .u8 0), .lit (.int .u8 1), .lit (.int .u8 56), .lit (.int .u8 2), .lit (.int .u8 57), .lit (.int .u8 49), .lit (.int .u8 28), .lit (.int .u8 3), .lit (.int .u8 61), .lit (.int .u8 58), .lit (.int .u8 42), .lit (.int .u8 50), .lit (.int .u8 38), .lit (.int .u8 29), .lit (.int .u8 17), .lit (.int .u8 4), .lit (.int .u8 62), .lit (.int .u8 47), .lit (.int .u8 59), .lit (.int .u8 36), .lit (.int .u8 45), .lit (.int .u8 43), .lit (.int .u8 51), .lit (.int .u8 22), .lit (.int .u8 53), .lit (.int .u8 39), .lit (.int .u8 33), .lit (.int .u8 30), .lit (.int .u8 24), .lit (.int .u8 18), .lit (.int .u8 12), .lit (.int .u8 5), .lit (.int .u8 63), .lit (.int .u8 55), .lit (.int .u8 48), .lit (.int .u8 27), .lit (.int .u8 60), .lit (.int .u8 41), .lit (.int .u8 37), .lit (.int .u8 16), .lit (.int .u8 46), .lit (.int .u8 35), .lit (.int .u8 44), .lit (.int .u8 21), .lit (.int .u8 52), .lit (.int .u8 32), .lit (.int .u8 23), .lit (.int .u8 11), .lit (.int .u8 54), .lit (.int .u8 26), .lit (.int .u8 40), .lit (.int .u8 15), .lit (.int .u8 34), .lit (.int .u8 20), .lit (.int .u8 31), .lit (.int .u8 10), .lit (.int .u8 25), .lit (.int .u8 14), .lit (.int .u8 19), .lit (.int .u8 9), .lit (.int .u8 13), .lit (.int .u8 8), .lit (.int .u8 7), .lit (.int .u8 6)]
def laid_internal_strconv_uint64pow10 {H : Type} : DataW H := .agg [.lit (.int .u64 1), .lit (.int .u64 10), .lit (.int .u64 100), .lit (.int .u64 1000), .lit (.int .u64 10000), .lit (.int .u64 100000), .lit (.int .u64 1000000), .lit (.int .u64 10000000), .lit (.int .u64 100000000), .lit (.int .u64 1000000000), .lit (.int .u64 10000000000), .lit (.int .u64 100000000000), .lit (.int .u64 1000000000000), .lit (.int .u64 10000000000000), .lit (.int .u64 100000000000000), .lit (.int .u64 1000000000000000), .lit (.int .u64 10000000000000000), .lit (.int .u64 100000000000000000), .lit (.int .u64 1000000000000000000), .lit (.int .u64 10000000000000000000)]
def laid_boskage_boskagelaw07_al {H : Type} : DataW H := .agg [.slice [.lit (.int .i64 0), .lit (.int .i64 0), .lit (.int .i64 2)] []]
def laid_boskage_boskagelaw05_al {H : Type} : DataW H := .agg [.slice [.lit (.int .i64 0), .lit (.int .i64 2)] []]

/-- 'boskagelaw07.MiniMinimal': WHATEVER THE INPUT: true; the input reads as it did. -/
def miniMinimalSpec : ChangeSpec := { name := "miniMinimal", fn := fun _ => fun
  | [d1, d2, d3] => { results := [.lit (.bool true)], args := [d1, d2, d3] }
  | _ => none }
def miniMinimalRow : OpenClaim := { program := "ytdchbjmbgecejaagreatdoor", sum := "12243b1b6cef936987932fb589386b7c352cabb989ae51caa4730aa1ca7f9b5e", func := "boskage/boskagelaw07.MiniMinimal", spec := "miniMinimal", unfollowed := true, recurses := true, named := ["boskage/boskagelaw07.al", "internal/strconv.uint64pow10", "math/bits.deBruijn32tab", "math/bits.deBruijn64tab"], plainKeys := false, apart := false, laid := [("math/bits.deBruijn32tab", laid_math_bits_deBruijn32tab), ("math/bits.deBruijn64tab", laid_math_bits_deBruijn64tab), ("internal/strconv.uint64pow10", laid_internal_strconv_uint64pow10), ("boskage/boskagelaw07.al", laid_boskage_boskagelaw07_al)] }
def MiniMinimalSaid : Prop := miniMinimalRow.holds Tryz.pinned (OpenSpec.ofChange miniMinimalSpec)

/-- ITS FALSE NEIGHBOUR: 'it returns false'. Refute it at one input. -/
def miniMinimalWrong : ChangeSpec := { name := "miniMinimal", fn := fun _ => fun
  | [d1, d2, d3] => { results := [.lit (.bool false)], args := [d1, d2, d3] }
  | _ => none }
def MiniMinimalWrongFalsely : Prop := miniMinimalRow.holds Tryz.pinned (OpenSpec.ofChange miniMinimalWrong)

/-- 'boskagelaw07.MiniSame': WHATEVER THE INPUT: true; the input reads as it did. -/
def miniSameSpec : ChangeSpec := { name := "miniSame", fn := fun _ => fun
  | [d1, d2, d3] => { results := [.lit (.bool true)], args := [d1, d2, d3] }
  | _ => none }
def miniSameRow : OpenClaim := { program := "ytdchbjmbgecejaagreatdoor", sum := "12243b1b6cef936987932fb589386b7c352cabb989ae51caa4730aa1ca7f9b5e", func := "boskage/boskagelaw07.MiniSame", spec := "miniSame", unfollowed := true, recurses := true, named := ["boskage/boskagelaw07.al", "internal/strconv.uint64pow10", "math/bits.deBruijn32tab", "math/bits.deBruijn64tab"], plainKeys := false, apart := false, laid := [("math/bits.deBruijn32tab", laid_math_bits_deBruijn32tab), ("math/bits.deBruijn64tab", laid_math_bits_deBruijn64tab), ("internal/strconv.uint64pow10", laid_internal_strconv_uint64pow10), ("boskage/boskagelaw07.al", laid_boskage_boskagelaw07_al)] }
def MiniSameSaid : Prop := miniSameRow.holds Tryz.pinned (OpenSpec.ofChange miniSameSpec)

/-- ITS FALSE NEIGHBOUR: 'it returns false'. Refute it at one input. -/
def miniSameWrong : ChangeSpec := { name := "miniSame", fn := fun _ => fun
  | [d1, d2, d3] => { results := [.lit (.bool false)], args := [d1, d2, d3] }
  | _ => none }
def MiniSameWrongFalsely : Prop := miniSameRow.holds Tryz.pinned (OpenSpec.ofChange miniSameWrong)

/-- 'boskagelaw07.MiniLaws': WHATEVER THE INPUT: true; the input reads as it did. -/
def miniLawsSpec : ChangeSpec := { name := "miniLaws", fn := fun _ => fun
  | [d1, d2, d3, d4] => { results := [.lit (.bool true)], args := [d1, d2, d3, d4] }
  | _ => none }
def miniLawsRow : OpenClaim := { program := "ytdchbjmbgecejaagreatdoor", sum := "12243b1b6cef936987932fb589386b7c352cabb989ae51caa4730aa1ca7f9b5e", func := "boskage/boskagelaw07.MiniLaws", spec := "miniLaws", unfollowed := true, recurses := true, named := ["boskage/boskagelaw07.al", "internal/strconv.uint64pow10", "math/bits.deBruijn32tab", "math/bits.deBruijn64tab"], loops := true, plainKeys := false, apart := false, laid := [("math/bits.deBruijn32tab", laid_math_bits_deBruijn32tab), ("math/bits.deBruijn64tab", laid_math_bits_deBruijn64tab), ("internal/strconv.uint64pow10", laid_internal_strconv_uint64pow10), ("boskage/boskagelaw07.al", laid_boskage_boskagelaw07_al)] }
def MiniLawsSaid : Prop := miniLawsRow.holds Tryz.pinned (OpenSpec.ofChange miniLawsSpec)

/-- ITS FALSE NEIGHBOUR: 'it returns false'. Refute it at one input. -/
def miniLawsWrong : ChangeSpec := { name := "miniLaws", fn := fun _ => fun
  | [d1, d2, d3, d4] => { results := [.lit (.bool false)], args := [d1, d2, d3, d4] }
  | _ => none }
def MiniLawsWrongFalsely : Prop := miniLawsRow.holds Tryz.pinned (OpenSpec.ofChange miniLawsWrong)

/-- 'boskagelaw07.MiniClass': WHATEVER THE INPUT: true; the input reads as it did. -/
def miniClassSpec : ChangeSpec := { name := "miniClass", fn := fun _ => fun
  | [d1, d2, d3] => { results := [.lit (.bool true)], args := [d1, d2, d3] }
  | _ => none }
def miniClassRow : OpenClaim := { program := "ytdchbjmbgecejaagreatdoor", sum := "12243b1b6cef936987932fb589386b7c352cabb989ae51caa4730aa1ca7f9b5e", func := "boskage/boskagelaw07.MiniClass", spec := "miniClass", unfollowed := true, recurses := true, named := ["boskage/boskagelaw07.al", "internal/strconv.uint64pow10", "math/bits.deBruijn32tab", "math/bits.deBruijn64tab"], loops := true, plainKeys := false, apart := false, laid := [("math/bits.deBruijn32tab", laid_math_bits_deBruijn32tab), ("math/bits.deBruijn64tab", laid_math_bits_deBruijn64tab), ("internal/strconv.uint64pow10", laid_internal_strconv_uint64pow10), ("boskage/boskagelaw07.al", laid_boskage_boskagelaw07_al)] }
def MiniClassSaid : Prop := miniClassRow.holds Tryz.pinned (OpenSpec.ofChange miniClassSpec)

/-- ITS FALSE NEIGHBOUR: 'it returns false'. Refute it at one input. -/
def miniClassWrong : ChangeSpec := { name := "miniClass", fn := fun _ => fun
  | [d1, d2, d3] => { results := [.lit (.bool false)], args := [d1, d2, d3] }
  | _ => none }
def MiniClassWrongFalsely : Prop := miniClassRow.holds Tryz.pinned (OpenSpec.ofChange miniClassWrong)

/-- 'boskagelaw07.MiniMeans': WHATEVER THE INPUT: true; the input reads as it did. -/
def miniMeansSpec : ChangeSpec := { name := "miniMeans", fn := fun _ => fun
  | [d1, d2, d3, d4, d5] => { results := [.lit (.bool true)], args := [d1, d2, d3, d4, d5] }
  | _ => none }
def miniMeansRow : OpenClaim := { program := "ytdchbjmbgecejaagreatdoor", sum := "12243b1b6cef936987932fb589386b7c352cabb989ae51caa4730aa1ca7f9b5e", func := "boskage/boskagelaw07.MiniMeans", spec := "miniMeans", unfollowed := true, recurses := true, named := ["boskage/boskagelaw07.al", "internal/strconv.uint64pow10", "math/bits.deBruijn32tab", "math/bits.deBruijn64tab"], loops := true, plainKeys := false, apart := false, laid := [("math/bits.deBruijn32tab", laid_math_bits_deBruijn32tab), ("math/bits.deBruijn64tab", laid_math_bits_deBruijn64tab), ("internal/strconv.uint64pow10", laid_internal_strconv_uint64pow10), ("boskage/boskagelaw07.al", laid_boskage_boskagelaw07_al)] }
def MiniMeansSaid : Prop := miniMeansRow.holds Tryz.pinned (OpenSpec.ofChange miniMeansSpec)

/-- ITS FALSE NEIGHBOUR: 'it returns false'. Refute it at one input. -/
def miniMeansWrong : ChangeSpec := { name := "miniMeans", fn := fun _ => fun
  | [d1, d2, d3, d4, d5] => { results := [.lit (.bool false)], args := [d1, d2, d3, d4, d5] }
  | _ => none }
def MiniMeansWrongFalsely : Prop := miniMeansRow.holds Tryz.pinned (OpenSpec.ofChange miniMeansWrong)

/-- 'boskagelaw05.BooleanMeet': WHATEVER THE INPUT: true; the input reads as it did. -/
def booleanMeetSpec : ChangeSpec := { name := "booleanMeet", fn := fun _ => fun
  | [d1, d2, d3, d4] => { results := [.lit (.bool true)], args := [d1, d2, d3, d4] }
  | _ => none }
def booleanMeetRow : OpenClaim := { program := "ytdchbjmbgecejaagreatdoor", sum := "12243b1b6cef936987932fb589386b7c352cabb989ae51caa4730aa1ca7f9b5e", func := "boskage/boskagelaw05.BooleanMeet", spec := "booleanMeet", unfollowed := true, recurses := true, named := ["boskage/boskagelaw05.al"], loops := true, plainKeys := false, apart := false, laid := [("boskage/boskagelaw05.al", laid_boskage_boskagelaw05_al)] }
def BooleanMeetSaid : Prop := booleanMeetRow.holds Tryz.pinned (OpenSpec.ofChange booleanMeetSpec)

/-- ITS FALSE NEIGHBOUR: 'it returns false'. Refute it at one input. -/
def booleanMeetWrong : ChangeSpec := { name := "booleanMeet", fn := fun _ => fun
  | [d1, d2, d3, d4] => { results := [.lit (.bool false)], args := [d1, d2, d3, d4] }
  | _ => none }
def BooleanMeetWrongFalsely : Prop := booleanMeetRow.holds Tryz.pinned (OpenSpec.ofChange booleanMeetWrong)

/-- 'boskagelaw05.BooleanMinus': WHATEVER THE INPUT: true; the input reads as it did. -/
def booleanMinusSpec : ChangeSpec := { name := "booleanMinus", fn := fun _ => fun
  | [d1, d2, d3, d4] => { results := [.lit (.bool true)], args := [d1, d2, d3, d4] }
  | _ => none }
def booleanMinusRow : OpenClaim := { program := "ytdchbjmbgecejaagreatdoor", sum := "12243b1b6cef936987932fb589386b7c352cabb989ae51caa4730aa1ca7f9b5e", func := "boskage/boskagelaw05.BooleanMinus", spec := "booleanMinus", unfollowed := true, recurses := true, named := ["boskage/boskagelaw05.al", "internal/strconv.uint64pow10", "math/bits.deBruijn32tab", "math/bits.deBruijn64tab"], loops := true, plainKeys := false, apart := false, laid := [("math/bits.deBruijn32tab", laid_math_bits_deBruijn32tab), ("math/bits.deBruijn64tab", laid_math_bits_deBruijn64tab), ("internal/strconv.uint64pow10", laid_internal_strconv_uint64pow10), ("boskage/boskagelaw05.al", laid_boskage_boskagelaw05_al)] }
def BooleanMinusSaid : Prop := booleanMinusRow.holds Tryz.pinned (OpenSpec.ofChange booleanMinusSpec)

/-- ITS FALSE NEIGHBOUR: 'it returns false'. Refute it at one input. -/
def booleanMinusWrong : ChangeSpec := { name := "booleanMinus", fn := fun _ => fun
  | [d1, d2, d3, d4] => { results := [.lit (.bool false)], args := [d1, d2, d3, d4] }
  | _ => none }
def BooleanMinusWrongFalsely : Prop := booleanMinusRow.holds Tryz.pinned (OpenSpec.ofChange booleanMinusWrong)

/-- 'boskagelaw05.BooleanLaws': WHATEVER THE INPUT: true; the input reads as it did. -/
def booleanLawsSpec : ChangeSpec := { name := "booleanLaws", fn := fun _ => fun
  | [d1, d2, d3, d4, d5] => { results := [.lit (.bool true)], args := [d1, d2, d3, d4, d5] }
  | _ => none }
def booleanLawsRow : OpenClaim := { program := "ytdchbjmbgecejaagreatdoor", sum := "12243b1b6cef936987932fb589386b7c352cabb989ae51caa4730aa1ca7f9b5e", func := "boskage/boskagelaw05.BooleanLaws", spec := "booleanLaws", unfollowed := true, recurses := true, named := ["boskage/boskagelaw05.al", "internal/strconv.uint64pow10", "math/bits.deBruijn32tab", "math/bits.deBruijn64tab"], loops := true, plainKeys := false, apart := false, laid := [("math/bits.deBruijn32tab", laid_math_bits_deBruijn32tab), ("math/bits.deBruijn64tab", laid_math_bits_deBruijn64tab), ("internal/strconv.uint64pow10", laid_internal_strconv_uint64pow10), ("boskage/boskagelaw05.al", laid_boskage_boskagelaw05_al)] }
def BooleanLawsSaid : Prop := booleanLawsRow.holds Tryz.pinned (OpenSpec.ofChange booleanLawsSpec)

/-- ITS FALSE NEIGHBOUR: 'it returns false'. Refute it at one input. -/
def booleanLawsWrong : ChangeSpec := { name := "booleanLaws", fn := fun _ => fun
  | [d1, d2, d3, d4, d5] => { results := [.lit (.bool false)], args := [d1, d2, d3, d4, d5] }
  | _ => none }
def BooleanLawsWrongFalsely : Prop := booleanLawsRow.holds Tryz.pinned (OpenSpec.ofChange booleanLawsWrong)

/- THE SECOND FORM. 'bulk': how many values and letters a reading holds, each counted each time it is reached (what is shared counts as often as it is met; a slice's spare places count too). A statement '..UptoSaid' is the law's where the arguments, and the package variables that the reading takes, are together of bulk at most 1048576: NARROWER than '..Said'. Prove '..Said' where nothing that the law and all that it calls make is longer than what came in: it says more and counts as full. Else prove '..UptoSaid'. A law counts once. -/
mutual
def uptoBulk {H : Type} : DataW H → Nat
  | .lit (.string bytes) => bytes.length + 1
  | .lit _ => 1
  | .nil => 1
  | .ptr d => uptoBulk d + 1
  | .slice elems spare => uptoBulkAll elems + uptoBulkAll spare + 1
  | .agg parts => uptoBulkAll parts + 1
  | .iface _ d => uptoBulk d + 1
  | .map entries => uptoBulkEntries entries + 1
  | .held _ => 1
def uptoBulkAll {H : Type} : List (DataW H) → Nat
  | [] => 0
  | d :: r => uptoBulk d + uptoBulkAll r
def uptoBulkEntries {H : Type} : List (Lit × DataW H) → Nat
  | [] => 0
  | x :: r => uptoBulkEntry x + uptoBulkEntries r
def uptoBulkEntry {H : Type} : Lit × DataW H → Nat
  | (.string bytes, d) => bytes.length + uptoBulk d + 1
  | (_, d) => uptoBulk d + 1
 end
def uptoSmall : (H : Type) → List (DataW H) → Bool := fun _ ds => decide (uptoBulkAll ds ≤ 1048576)
def OpenSpec.upto (s : _root_.Go.ChangeSpec) : _root_.Go.OpenSpec := { _root_.Go.OpenSpec.ofChange s with cond := some uptoSmall }

/-- 'boskagelaw07.MiniMinimal', WHERE WHAT IT READS IS OF BULK AT MOST 1048576: true; the input reads as it did. -/
def miniMinimalUptoRow : OpenClaim := { program := "ytdchbjmbgecejaagreatdoor", sum := "12243b1b6cef936987932fb589386b7c352cabb989ae51caa4730aa1ca7f9b5e", func := "boskage/boskagelaw07.MiniMinimal", spec := "miniMinimal", unfollowed := true, recurses := true, named := ["boskage/boskagelaw07.al", "internal/strconv.uint64pow10", "math/bits.deBruijn32tab", "math/bits.deBruijn64tab"], plainKeys := false, apart := false, laid := [("math/bits.deBruijn32tab", laid_math_bits_deBruijn32tab), ("math/bits.deBruijn64tab", laid_math_bits_deBruijn64tab), ("internal/strconv.uint64pow10", laid_internal_strconv_uint64pow10), ("boskage/boskagelaw07.al", laid_boskage_boskagelaw07_al)], narrowed := true }
def MiniMinimalUptoSaid : Prop := miniMinimalUptoRow.holds Tryz.pinned (OpenSpec.upto miniMinimalSpec)

/-- 'boskagelaw07.MiniSame', WHERE WHAT IT READS IS OF BULK AT MOST 1048576: true; the input reads as it did. -/
def miniSameUptoRow : OpenClaim := { program := "ytdchbjmbgecejaagreatdoor", sum := "12243b1b6cef936987932fb589386b7c352cabb989ae51caa4730aa1ca7f9b5e", func := "boskage/boskagelaw07.MiniSame", spec := "miniSame", unfollowed := true, recurses := true, named := ["boskage/boskagelaw07.al", "internal/strconv.uint64pow10", "math/bits.deBruijn32tab", "math/bits.deBruijn64tab"], plainKeys := false, apart := false, laid := [("math/bits.deBruijn32tab", laid_math_bits_deBruijn32tab), ("math/bits.deBruijn64tab", laid_math_bits_deBruijn64tab), ("internal/strconv.uint64pow10", laid_internal_strconv_uint64pow10), ("boskage/boskagelaw07.al", laid_boskage_boskagelaw07_al)], narrowed := true }
def MiniSameUptoSaid : Prop := miniSameUptoRow.holds Tryz.pinned (OpenSpec.upto miniSameSpec)

/-- 'boskagelaw07.MiniLaws', WHERE WHAT IT READS IS OF BULK AT MOST 1048576: true; the input reads as it did. -/
def miniLawsUptoRow : OpenClaim := { program := "ytdchbjmbgecejaagreatdoor", sum := "12243b1b6cef936987932fb589386b7c352cabb989ae51caa4730aa1ca7f9b5e", func := "boskage/boskagelaw07.MiniLaws", spec := "miniLaws", unfollowed := true, recurses := true, named := ["boskage/boskagelaw07.al", "internal/strconv.uint64pow10", "math/bits.deBruijn32tab", "math/bits.deBruijn64tab"], loops := true, plainKeys := false, apart := false, laid := [("math/bits.deBruijn32tab", laid_math_bits_deBruijn32tab), ("math/bits.deBruijn64tab", laid_math_bits_deBruijn64tab), ("internal/strconv.uint64pow10", laid_internal_strconv_uint64pow10), ("boskage/boskagelaw07.al", laid_boskage_boskagelaw07_al)], narrowed := true }
def MiniLawsUptoSaid : Prop := miniLawsUptoRow.holds Tryz.pinned (OpenSpec.upto miniLawsSpec)

/-- 'boskagelaw07.MiniClass', WHERE WHAT IT READS IS OF BULK AT MOST 1048576: true; the input reads as it did. -/
def miniClassUptoRow : OpenClaim := { program := "ytdchbjmbgecejaagreatdoor", sum := "12243b1b6cef936987932fb589386b7c352cabb989ae51caa4730aa1ca7f9b5e", func := "boskage/boskagelaw07.MiniClass", spec := "miniClass", unfollowed := true, recurses := true, named := ["boskage/boskagelaw07.al", "internal/strconv.uint64pow10", "math/bits.deBruijn32tab", "math/bits.deBruijn64tab"], loops := true, plainKeys := false, apart := false, laid := [("math/bits.deBruijn32tab", laid_math_bits_deBruijn32tab), ("math/bits.deBruijn64tab", laid_math_bits_deBruijn64tab), ("internal/strconv.uint64pow10", laid_internal_strconv_uint64pow10), ("boskage/boskagelaw07.al", laid_boskage_boskagelaw07_al)], narrowed := true }
def MiniClassUptoSaid : Prop := miniClassUptoRow.holds Tryz.pinned (OpenSpec.upto miniClassSpec)

/-- 'boskagelaw07.MiniMeans', WHERE WHAT IT READS IS OF BULK AT MOST 1048576: true; the input reads as it did. -/
def miniMeansUptoRow : OpenClaim := { program := "ytdchbjmbgecejaagreatdoor", sum := "12243b1b6cef936987932fb589386b7c352cabb989ae51caa4730aa1ca7f9b5e", func := "boskage/boskagelaw07.MiniMeans", spec := "miniMeans", unfollowed := true, recurses := true, named := ["boskage/boskagelaw07.al", "internal/strconv.uint64pow10", "math/bits.deBruijn32tab", "math/bits.deBruijn64tab"], loops := true, plainKeys := false, apart := false, laid := [("math/bits.deBruijn32tab", laid_math_bits_deBruijn32tab), ("math/bits.deBruijn64tab", laid_math_bits_deBruijn64tab), ("internal/strconv.uint64pow10", laid_internal_strconv_uint64pow10), ("boskage/boskagelaw07.al", laid_boskage_boskagelaw07_al)], narrowed := true }
def MiniMeansUptoSaid : Prop := miniMeansUptoRow.holds Tryz.pinned (OpenSpec.upto miniMeansSpec)

/-- 'boskagelaw05.BooleanMeet', WHERE WHAT IT READS IS OF BULK AT MOST 1048576: true; the input reads as it did. -/
def booleanMeetUptoRow : OpenClaim := { program := "ytdchbjmbgecejaagreatdoor", sum := "12243b1b6cef936987932fb589386b7c352cabb989ae51caa4730aa1ca7f9b5e", func := "boskage/boskagelaw05.BooleanMeet", spec := "booleanMeet", unfollowed := true, recurses := true, named := ["boskage/boskagelaw05.al"], loops := true, plainKeys := false, apart := false, laid := [("boskage/boskagelaw05.al", laid_boskage_boskagelaw05_al)], narrowed := true }
def BooleanMeetUptoSaid : Prop := booleanMeetUptoRow.holds Tryz.pinned (OpenSpec.upto booleanMeetSpec)

/-- 'boskagelaw05.BooleanMinus', WHERE WHAT IT READS IS OF BULK AT MOST 1048576: true; the input reads as it did. -/
def booleanMinusUptoRow : OpenClaim := { program := "ytdchbjmbgecejaagreatdoor", sum := "12243b1b6cef936987932fb589386b7c352cabb989ae51caa4730aa1ca7f9b5e", func := "boskage/boskagelaw05.BooleanMinus", spec := "booleanMinus", unfollowed := true, recurses := true, named := ["boskage/boskagelaw05.al", "internal/strconv.uint64pow10", "math/bits.deBruijn32tab", "math/bits.deBruijn64tab"], loops := true, plainKeys := false, apart := false, laid := [("math/bits.deBruijn32tab", laid_math_bits_deBruijn32tab), ("math/bits.deBruijn64tab", laid_math_bits_deBruijn64tab), ("internal/strconv.uint64pow10", laid_internal_strconv_uint64pow10), ("boskage/boskagelaw05.al", laid_boskage_boskagelaw05_al)], narrowed := true }
def BooleanMinusUptoSaid : Prop := booleanMinusUptoRow.holds Tryz.pinned (OpenSpec.upto booleanMinusSpec)

/-- 'boskagelaw05.BooleanLaws', WHERE WHAT IT READS IS OF BULK AT MOST 1048576: true; the input reads as it did. -/
def booleanLawsUptoRow : OpenClaim := { program := "ytdchbjmbgecejaagreatdoor", sum := "12243b1b6cef936987932fb589386b7c352cabb989ae51caa4730aa1ca7f9b5e", func := "boskage/boskagelaw05.BooleanLaws", spec := "booleanLaws", unfollowed := true, recurses := true, named := ["boskage/boskagelaw05.al", "internal/strconv.uint64pow10", "math/bits.deBruijn32tab", "math/bits.deBruijn64tab"], loops := true, plainKeys := false, apart := false, laid := [("math/bits.deBruijn32tab", laid_math_bits_deBruijn32tab), ("math/bits.deBruijn64tab", laid_math_bits_deBruijn64tab), ("internal/strconv.uint64pow10", laid_internal_strconv_uint64pow10), ("boskage/boskagelaw05.al", laid_boskage_boskagelaw05_al)], narrowed := true }
def BooleanLawsUptoSaid : Prop := booleanLawsUptoRow.holds Tryz.pinned (OpenSpec.upto booleanLawsSpec)

end Rows
end Go.Proofs.YtdchbjmbgecejaaGreatDoor
