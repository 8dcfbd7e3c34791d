/-
  NARROWER THAN 'FOR EVERY INPUT', by the rows' own cells (each row's printed sentence says how): BooleanUnder: loops, laid · BooleanUnion: loops, laid · BooleanFull: laid · BooleanUnlabels: loops, laid · BooleanRelabels: loops, laid.
  DERIVED. THE GIVEN ROWS OF THIS SEAT. 5 by the template 'for every input the law returns true; each argument reads behind the call as it read before'; 0 by the template 'total and deterministic' (their statements: YtgkobbodicfofaaDoorTotals.lean).
  GIVEN WITH THE SEED: the statements are not yours to turn. If you find one false, say at which input.
  Laid BY PROGRAM, IN A SANDBOX (cutbox-rows.mjs): the forced cells as the released guide's own fill.sh prints them over the translation abf9320a6b94bb33… (all of the seat's roots in one cut). By AI agents, Wed Nov 11 2026. No macro, syntax, notation, axiom, sorry.
-/
import Derived.Test.YtgkobbodicfofaaDoorChecked
import GoSem.Claim
import GoSem.ClaimJoined
import GoSem.ClaimMapViews
import Derived.JoinedTies
import Derived.KernelRfl
namespace Go.Proofs.YtgkobbodicfofaaDoor
/- THE CELL 'sum', in the pinned program and in every row, IS THE sha256 OF THE DUMP (.gsa) THAT YtgkobbodicfofaaDoorProg.lean LOADS. Nothing in Lean hashes anything: it is a label: what it is worth is what the hold of that sum in a sandbox is worth. -/
noncomputable def Tryd.pinned : Pinned := { name := "ytgkobbodicfofaadoor", sum := "abf9320a6b94bb3305701cfd42a3491163cd2017bcab7e5a330d1d25d995d7df", checked := Tryd.checked }
namespace Rows
def none {H : Type} : Left H := { results := [], args := [] }

/- WHAT THE LISTED PACKAGE-LEVEL VARIABLES READ AS WHEN THE CALL BEGINS. Each datum BY PROGRAM (the guide's laid-datum.mjs) off the statement by which the dump's own 'gosem.cut.vars' lays the variable. In a bare row this is a premise. The card (YtgkobbodicfofaaDoorCards.lean) ties it to the program's text. -/
def laid_boskage_boskagelaw05_al {H : Type} : DataW H := .agg [.slice [.lit (.int .i64 0), .lit (.int .i64 2)] []]

/-- 'boskagelaw05.BooleanUnder': WHATEVER THE INPUT: true; the input reads as it did. -/
def booleanUnderSpec : ChangeSpec := { name := "booleanUnder", fn := fun _ => fun
  | [d1, d2, d3, d4] => { results := [.lit (.bool true)], args := [d1, d2, d3, d4] }
  | _ => none }
def booleanUnderRow : OpenClaim := { program := "ytgkobbodicfofaadoor", sum := "abf9320a6b94bb3305701cfd42a3491163cd2017bcab7e5a330d1d25d995d7df", func := "boskage/boskagelaw05.BooleanUnder", spec := "booleanUnder", unfollowed := true, recurses := true, named := ["boskage/boskagelaw05.al"], loops := true, apart := false, laid := [("boskage/boskagelaw05.al", laid_boskage_boskagelaw05_al)] }
def BooleanUnderSaid : Prop := booleanUnderRow.holds Tryd.pinned (OpenSpec.ofChange booleanUnderSpec)

/-- ITS FALSE NEIGHBOUR: 'it returns false'. Refute it at one input. -/
def booleanUnderWrong : ChangeSpec := { name := "booleanUnder", fn := fun _ => fun
  | [d1, d2, d3, d4] => { results := [.lit (.bool false)], args := [d1, d2, d3, d4] }
  | _ => none }
def BooleanUnderWrongFalsely : Prop := booleanUnderRow.holds Tryd.pinned (OpenSpec.ofChange booleanUnderWrong)

/-- 'boskagelaw05.BooleanUnion': WHATEVER THE INPUT: true; the input reads as it did. -/
def booleanUnionSpec : ChangeSpec := { name := "booleanUnion", fn := fun _ => fun
  | [d1, d2, d3, d4] => { results := [.lit (.bool true)], args := [d1, d2, d3, d4] }
  | _ => none }
def booleanUnionRow : OpenClaim := { program := "ytgkobbodicfofaadoor", sum := "abf9320a6b94bb3305701cfd42a3491163cd2017bcab7e5a330d1d25d995d7df", func := "boskage/boskagelaw05.BooleanUnion", spec := "booleanUnion", unfollowed := true, recurses := true, named := ["boskage/boskagelaw05.al"], loops := true, apart := false, laid := [("boskage/boskagelaw05.al", laid_boskage_boskagelaw05_al)] }
def BooleanUnionSaid : Prop := booleanUnionRow.holds Tryd.pinned (OpenSpec.ofChange booleanUnionSpec)

/-- ITS FALSE NEIGHBOUR: 'it returns false'. Refute it at one input. -/
def booleanUnionWrong : ChangeSpec := { name := "booleanUnion", fn := fun _ => fun
  | [d1, d2, d3, d4] => { results := [.lit (.bool false)], args := [d1, d2, d3, d4] }
  | _ => none }
def BooleanUnionWrongFalsely : Prop := booleanUnionRow.holds Tryd.pinned (OpenSpec.ofChange booleanUnionWrong)

/-- 'boskagelaw05.BooleanFull': WHATEVER THE INPUT: true; the input reads as it did. -/
def booleanFullSpec : ChangeSpec := { name := "booleanFull", fn := fun _ => fun
  | [d1, d2, d3, d4] => { results := [.lit (.bool true)], args := [d1, d2, d3, d4] }
  | _ => none }
def booleanFullRow : OpenClaim := { program := "ytgkobbodicfofaadoor", sum := "abf9320a6b94bb3305701cfd42a3491163cd2017bcab7e5a330d1d25d995d7df", func := "boskage/boskagelaw05.BooleanFull", spec := "booleanFull", unfollowed := true, recurses := true, named := ["boskage/boskagelaw05.al"], apart := false, laid := [("boskage/boskagelaw05.al", laid_boskage_boskagelaw05_al)] }
def BooleanFullSaid : Prop := booleanFullRow.holds Tryd.pinned (OpenSpec.ofChange booleanFullSpec)

/-- ITS FALSE NEIGHBOUR: 'it returns false'. Refute it at one input. -/
def booleanFullWrong : ChangeSpec := { name := "booleanFull", fn := fun _ => fun
  | [d1, d2, d3, d4] => { results := [.lit (.bool false)], args := [d1, d2, d3, d4] }
  | _ => none }
def BooleanFullWrongFalsely : Prop := booleanFullRow.holds Tryd.pinned (OpenSpec.ofChange booleanFullWrong)

/-- 'boskagelaw05.BooleanUnlabels': WHATEVER THE INPUT: true; the input reads as it did. -/
def booleanUnlabelsSpec : ChangeSpec := { name := "booleanUnlabels", fn := fun _ => fun
  | [d1, d2, d3, d4, d5] => { results := [.lit (.bool true)], args := [d1, d2, d3, d4, d5] }
  | _ => none }
def booleanUnlabelsRow : OpenClaim := { program := "ytgkobbodicfofaadoor", sum := "abf9320a6b94bb3305701cfd42a3491163cd2017bcab7e5a330d1d25d995d7df", func := "boskage/boskagelaw05.BooleanUnlabels", spec := "booleanUnlabels", unfollowed := true, recurses := true, named := ["boskage/boskagelaw05.al"], loops := true, apart := false, laid := [("boskage/boskagelaw05.al", laid_boskage_boskagelaw05_al)] }
def BooleanUnlabelsSaid : Prop := booleanUnlabelsRow.holds Tryd.pinned (OpenSpec.ofChange booleanUnlabelsSpec)

/-- ITS FALSE NEIGHBOUR: 'it returns false'. Refute it at one input. -/
def booleanUnlabelsWrong : ChangeSpec := { name := "booleanUnlabels", fn := fun _ => fun
  | [d1, d2, d3, d4, d5] => { results := [.lit (.bool false)], args := [d1, d2, d3, d4, d5] }
  | _ => none }
def BooleanUnlabelsWrongFalsely : Prop := booleanUnlabelsRow.holds Tryd.pinned (OpenSpec.ofChange booleanUnlabelsWrong)

/-- 'boskagelaw05.BooleanRelabels': WHATEVER THE INPUT: true; the input reads as it did. -/
def booleanRelabelsSpec : ChangeSpec := { name := "booleanRelabels", fn := fun _ => fun
  | [d1, d2, d3, d4, d5] => { results := [.lit (.bool true)], args := [d1, d2, d3, d4, d5] }
  | _ => none }
def booleanRelabelsRow : OpenClaim := { program := "ytgkobbodicfofaadoor", sum := "abf9320a6b94bb3305701cfd42a3491163cd2017bcab7e5a330d1d25d995d7df", func := "boskage/boskagelaw05.BooleanRelabels", spec := "booleanRelabels", unfollowed := true, recurses := true, named := ["boskage/boskagelaw05.al"], loops := true, apart := false, laid := [("boskage/boskagelaw05.al", laid_boskage_boskagelaw05_al)] }
def BooleanRelabelsSaid : Prop := booleanRelabelsRow.holds Tryd.pinned (OpenSpec.ofChange booleanRelabelsSpec)

/-- ITS FALSE NEIGHBOUR: 'it returns false'. Refute it at one input. -/
def booleanRelabelsWrong : ChangeSpec := { name := "booleanRelabels", fn := fun _ => fun
  | [d1, d2, d3, d4, d5] => { results := [.lit (.bool false)], args := [d1, d2, d3, d4, d5] }
  | _ => none }
def BooleanRelabelsWrongFalsely : Prop := booleanRelabelsRow.holds Tryd.pinned (OpenSpec.ofChange booleanRelabelsWrong)

/- THE SECOND FORM. 'bulk': how many values and letters a reading holds, each counted each time it is reached (what is shared counts as often as it is met; a slice's spare places count too). A statement '..UptoSaid' is the law's where the arguments, and the package variables that the reading takes, are together of bulk at most 1048576: NARROWER than '..Said'. Prove '..Said' where nothing that the law and all that it calls make is longer than what came in: it says more and counts as full. Else prove '..UptoSaid'. A law counts once. -/
mutual
def uptoBulk {H : Type} : DataW H → Nat
  | .lit (.string bytes) => bytes.length + 1
  | .lit _ => 1
  | .nil => 1
  | .ptr d => uptoBulk d + 1
  | .slice elems spare => uptoBulkAll elems + uptoBulkAll spare + 1
  | .agg parts => uptoBulkAll parts + 1
  | .iface _ d => uptoBulk d + 1
  | .map entries => uptoBulkEntries entries + 1
  | .held _ => 1
def uptoBulkAll {H : Type} : List (DataW H) → Nat
  | [] => 0
  | d :: r => uptoBulk d + uptoBulkAll r
def uptoBulkEntries {H : Type} : List (Lit × DataW H) → Nat
  | [] => 0
  | x :: r => uptoBulkEntry x + uptoBulkEntries r
def uptoBulkEntry {H : Type} : Lit × DataW H → Nat
  | (.string bytes, d) => bytes.length + uptoBulk d + 1
  | (_, d) => uptoBulk d + 1
 end
def uptoSmall : (H : Type) → List (DataW H) → Bool := fun _ ds => decide (uptoBulkAll ds ≤ 1048576)
def OpenSpec.upto (s : _root_.Go.ChangeSpec) : _root_.Go.OpenSpec := { _root_.Go.OpenSpec.ofChange s with cond := some uptoSmall }

/-- 'boskagelaw05.BooleanUnder', WHERE WHAT IT READS IS OF BULK AT MOST 1048576: true; the input reads as it did. -/
def booleanUnderUptoRow : OpenClaim := { program := "ytgkobbodicfofaadoor", sum := "abf9320a6b94bb3305701cfd42a3491163cd2017bcab7e5a330d1d25d995d7df", func := "boskage/boskagelaw05.BooleanUnder", spec := "booleanUnder", unfollowed := true, recurses := true, named := ["boskage/boskagelaw05.al"], loops := true, apart := false, laid := [("boskage/boskagelaw05.al", laid_boskage_boskagelaw05_al)], narrowed := true }
def BooleanUnderUptoSaid : Prop := booleanUnderUptoRow.holds Tryd.pinned (OpenSpec.upto booleanUnderSpec)

/-- 'boskagelaw05.BooleanUnion', WHERE WHAT IT READS IS OF BULK AT MOST 1048576: true; the input reads as it did. -/
def booleanUnionUptoRow : OpenClaim := { program := "ytgkobbodicfofaadoor", sum := "abf9320a6b94bb3305701cfd42a3491163cd2017bcab7e5a330d1d25d995d7df", func := "boskage/boskagelaw05.BooleanUnion", spec := "booleanUnion", unfollowed := true, recurses := true, named := ["boskage/boskagelaw05.al"], loops := true, apart := false, laid := [("boskage/boskagelaw05.al", laid_boskage_boskagelaw05_al)], narrowed := true }
def BooleanUnionUptoSaid : Prop := booleanUnionUptoRow.holds Tryd.pinned (OpenSpec.upto booleanUnionSpec)

/-- 'boskagelaw05.BooleanFull', WHERE WHAT IT READS IS OF BULK AT MOST 1048576: true; the input reads as it did. -/
def booleanFullUptoRow : OpenClaim := { program := "ytgkobbodicfofaadoor", sum := "abf9320a6b94bb3305701cfd42a3491163cd2017bcab7e5a330d1d25d995d7df", func := "boskage/boskagelaw05.BooleanFull", spec := "booleanFull", unfollowed := true, recurses := true, named := ["boskage/boskagelaw05.al"], apart := false, laid := [("boskage/boskagelaw05.al", laid_boskage_boskagelaw05_al)], narrowed := true }
def BooleanFullUptoSaid : Prop := booleanFullUptoRow.holds Tryd.pinned (OpenSpec.upto booleanFullSpec)

/-- 'boskagelaw05.BooleanUnlabels', WHERE WHAT IT READS IS OF BULK AT MOST 1048576: true; the input reads as it did. -/
def booleanUnlabelsUptoRow : OpenClaim := { program := "ytgkobbodicfofaadoor", sum := "abf9320a6b94bb3305701cfd42a3491163cd2017bcab7e5a330d1d25d995d7df", func := "boskage/boskagelaw05.BooleanUnlabels", spec := "booleanUnlabels", unfollowed := true, recurses := true, named := ["boskage/boskagelaw05.al"], loops := true, apart := false, laid := [("boskage/boskagelaw05.al", laid_boskage_boskagelaw05_al)], narrowed := true }
def BooleanUnlabelsUptoSaid : Prop := booleanUnlabelsUptoRow.holds Tryd.pinned (OpenSpec.upto booleanUnlabelsSpec)

/-- 'boskagelaw05.BooleanRelabels', WHERE WHAT IT READS IS OF BULK AT MOST 1048576: true; the input reads as it did. -/
def booleanRelabelsUptoRow : OpenClaim := { program := "ytgkobbodicfofaadoor", sum := "abf9320a6b94bb3305701cfd42a3491163cd2017bcab7e5a330d1d25d995d7df", func := "boskage/boskagelaw05.BooleanRelabels", spec := "booleanRelabels", unfollowed := true, recurses := true, named := ["boskage/boskagelaw05.al"], loops := true, apart := false, laid := [("boskage/boskagelaw05.al", laid_boskage_boskagelaw05_al)], narrowed := true }
def BooleanRelabelsUptoSaid : Prop := booleanRelabelsUptoRow.holds Tryd.pinned (OpenSpec.upto booleanRelabelsSpec)

end Rows
end Go.Proofs.YtgkobbodicfofaaDoor
