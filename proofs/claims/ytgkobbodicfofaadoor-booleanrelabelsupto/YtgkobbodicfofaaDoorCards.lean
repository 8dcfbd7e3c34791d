/-
  DERIVED. GIVEN WITH THE SEED: THE CARDS: each row of YtgkobbodicfofaaDoorRows.lean that lists a variable, with what it lists TIED to the program's text (the seventh form; the later family's looks); each row that meets fmt, with fmt's text TOLD by the authors' own Lean function (tested against real Go, not proved from fmt's source: count such statements apart). THE CARD IS WHAT COUNTS. Prove the row's statement (the work); the ties are given (YtgkobbodicfofaaDoorTie.lean); close each card by the builder's one call (the guide's Derived/Test/ToyasCard.lean, 'card_holds'). Laid BY PROGRAM, IN A SANDBOX (cutbox-door.mjs). By AI agents, Wed Nov 11 2026. No macro, syntax, notation, axiom, sorry.
-/
import Derived.Test.YtgkobbodicfofaaDoorRows
import GoSem.ClaimSeven
namespace Go.Proofs.YtgkobbodicfofaaDoor
namespace Rows

/-- THE TIED CARD OF 'boskagelaw05.BooleanUnder'. -/
def booleanUnderCard : Claim7 := { stood := { row := booleanUnderRow, standIns := [], harness := (true, "44f47cd97955fe3293f96291a902b391adf95fe792e8469c68a838b9c387b521"), looks := false }, kinds := [], alts := [], laidByText := true, laidKinds := [.widerDeep], laidTests := true, laidLooks := .later }
def BooleanUnderCardSaid : Prop := Claim7.holds Tryd.pinned (.plain (OpenSpec.ofChange booleanUnderSpec)) booleanUnderCard

/-- THE TIED CARD OF 'boskagelaw05.BooleanUnion'. -/
def booleanUnionCard : Claim7 := { stood := { row := booleanUnionRow, standIns := [], harness := (true, "44f47cd97955fe3293f96291a902b391adf95fe792e8469c68a838b9c387b521"), looks := false }, kinds := [], alts := [], laidByText := true, laidKinds := [.widerDeep], laidTests := true, laidLooks := .later }
def BooleanUnionCardSaid : Prop := Claim7.holds Tryd.pinned (.plain (OpenSpec.ofChange booleanUnionSpec)) booleanUnionCard

/-- THE TIED CARD OF 'boskagelaw05.BooleanFull'. -/
def booleanFullCard : Claim7 := { stood := { row := booleanFullRow, standIns := [], harness := (true, "44f47cd97955fe3293f96291a902b391adf95fe792e8469c68a838b9c387b521"), looks := false }, kinds := [], alts := [], laidByText := true, laidKinds := [.widerDeep], laidTests := true, laidLooks := .later }
def BooleanFullCardSaid : Prop := Claim7.holds Tryd.pinned (.plain (OpenSpec.ofChange booleanFullSpec)) booleanFullCard

/-- THE TIED CARD OF 'boskagelaw05.BooleanUnlabels'. -/
def booleanUnlabelsCard : Claim7 := { stood := { row := booleanUnlabelsRow, standIns := [], harness := (true, "44f47cd97955fe3293f96291a902b391adf95fe792e8469c68a838b9c387b521"), looks := false }, kinds := [], alts := [], laidByText := true, laidKinds := [.widerDeep], laidTests := true, laidLooks := .later }
def BooleanUnlabelsCardSaid : Prop := Claim7.holds Tryd.pinned (.plain (OpenSpec.ofChange booleanUnlabelsSpec)) booleanUnlabelsCard

/-- THE TIED CARD OF 'boskagelaw05.BooleanRelabels'. -/
def booleanRelabelsCard : Claim7 := { stood := { row := booleanRelabelsRow, standIns := [], harness := (true, "44f47cd97955fe3293f96291a902b391adf95fe792e8469c68a838b9c387b521"), looks := false }, kinds := [], alts := [], laidByText := true, laidKinds := [.widerDeep], laidTests := true, laidLooks := .later }
def BooleanRelabelsCardSaid : Prop := Claim7.holds Tryd.pinned (.plain (OpenSpec.ofChange booleanRelabelsSpec)) booleanRelabelsCard

/-- THE SECOND FORM's CARD OF 'boskagelaw05.BooleanUnder'. -/
def booleanUnderUptoCard : Claim7 := { stood := { row := booleanUnderUptoRow, standIns := [], harness := (true, "44f47cd97955fe3293f96291a902b391adf95fe792e8469c68a838b9c387b521"), looks := false }, kinds := [], alts := [], laidByText := true, laidKinds := [.widerDeep], laidTests := true, laidLooks := .later }
def BooleanUnderUptoCardSaid : Prop := Claim7.holds Tryd.pinned (.plain (OpenSpec.upto booleanUnderSpec)) booleanUnderUptoCard

/-- THE SECOND FORM's CARD OF 'boskagelaw05.BooleanUnion'. -/
def booleanUnionUptoCard : Claim7 := { stood := { row := booleanUnionUptoRow, standIns := [], harness := (true, "44f47cd97955fe3293f96291a902b391adf95fe792e8469c68a838b9c387b521"), looks := false }, kinds := [], alts := [], laidByText := true, laidKinds := [.widerDeep], laidTests := true, laidLooks := .later }
def BooleanUnionUptoCardSaid : Prop := Claim7.holds Tryd.pinned (.plain (OpenSpec.upto booleanUnionSpec)) booleanUnionUptoCard

/-- THE SECOND FORM's CARD OF 'boskagelaw05.BooleanFull'. -/
def booleanFullUptoCard : Claim7 := { stood := { row := booleanFullUptoRow, standIns := [], harness := (true, "44f47cd97955fe3293f96291a902b391adf95fe792e8469c68a838b9c387b521"), looks := false }, kinds := [], alts := [], laidByText := true, laidKinds := [.widerDeep], laidTests := true, laidLooks := .later }
def BooleanFullUptoCardSaid : Prop := Claim7.holds Tryd.pinned (.plain (OpenSpec.upto booleanFullSpec)) booleanFullUptoCard

/-- THE SECOND FORM's CARD OF 'boskagelaw05.BooleanUnlabels'. -/
def booleanUnlabelsUptoCard : Claim7 := { stood := { row := booleanUnlabelsUptoRow, standIns := [], harness := (true, "44f47cd97955fe3293f96291a902b391adf95fe792e8469c68a838b9c387b521"), looks := false }, kinds := [], alts := [], laidByText := true, laidKinds := [.widerDeep], laidTests := true, laidLooks := .later }
def BooleanUnlabelsUptoCardSaid : Prop := Claim7.holds Tryd.pinned (.plain (OpenSpec.upto booleanUnlabelsSpec)) booleanUnlabelsUptoCard

/-- THE SECOND FORM's CARD OF 'boskagelaw05.BooleanRelabels'. -/
def booleanRelabelsUptoCard : Claim7 := { stood := { row := booleanRelabelsUptoRow, standIns := [], harness := (true, "44f47cd97955fe3293f96291a902b391adf95fe792e8469c68a838b9c387b521"), looks := false }, kinds := [], alts := [], laidByText := true, laidKinds := [.widerDeep], laidTests := true, laidLooks := .later }
def BooleanRelabelsUptoCardSaid : Prop := Claim7.holds Tryd.pinned (.plain (OpenSpec.upto booleanRelabelsSpec)) booleanRelabelsUptoCard
end Rows
end Go.Proofs.YtgkobbodicfofaaDoor
