/-
  DERIVED. GIVEN WITH THE SEED: THE CARDS: each row of YtdchbjmbgecejaaGreatDoorRows.lean that lists a variable, with what it lists TIED to the program's text (the seventh form; the later family's looks); each row that meets fmt, with fmt's text TOLD by the authors' own Lean function (tested against real Go, not proved from fmt's source: count such statements apart). THE CARD IS WHAT COUNTS. Prove the row's statement (the work); the ties are given (YtdchbjmbgecejaaGreatDoorTie.lean); close each card by the builder's one call (the guide's Derived/Test/ToyasCard.lean, 'card_holds'). Laid BY PROGRAM, IN A SANDBOX (cutbox-door.mjs). By AI agents, Wed Nov 11 2026. No macro, syntax, notation, axiom, sorry.
-/
import Derived.Test.YtdchbjmbgecejaaGreatDoorRows
import GoSem.ClaimSeven
namespace Go.Proofs.YtdchbjmbgecejaaGreatDoor
namespace Rows

/-- THE TIED CARD OF 'boskagelaw07.MiniMinimal'. -/
def miniMinimalCard : Claim7 := { stood := { row := miniMinimalRow, standIns := [], harness := (true, "4c7d9b2afb0c4faf6b9ceeb2b02493f4ad2995cd13be56766ea3684748ee83ea"), looks := false }, kinds := [], alts := [], laidByText := true, laidKinds := [.data, .data, .data, .widerDeep], laidTests := true, laidLooks := .later }
def MiniMinimalCardSaid : Prop := Claim7.holds Tryz.pinned (.plain (OpenSpec.ofChange miniMinimalSpec)) miniMinimalCard

/-- THE TIED CARD OF 'boskagelaw07.MiniSame'. -/
def miniSameCard : Claim7 := { stood := { row := miniSameRow, standIns := [], harness := (true, "4c7d9b2afb0c4faf6b9ceeb2b02493f4ad2995cd13be56766ea3684748ee83ea"), looks := false }, kinds := [], alts := [], laidByText := true, laidKinds := [.data, .data, .data, .widerDeep], laidTests := true, laidLooks := .later }
def MiniSameCardSaid : Prop := Claim7.holds Tryz.pinned (.plain (OpenSpec.ofChange miniSameSpec)) miniSameCard

/-- THE TIED CARD OF 'boskagelaw07.MiniLaws'. -/
def miniLawsCard : Claim7 := { stood := { row := miniLawsRow, standIns := [], harness := (true, "4c7d9b2afb0c4faf6b9ceeb2b02493f4ad2995cd13be56766ea3684748ee83ea"), looks := false }, kinds := [], alts := [], laidByText := true, laidKinds := [.data, .data, .data, .widerDeep], laidTests := true, laidLooks := .later }
def MiniLawsCardSaid : Prop := Claim7.holds Tryz.pinned (.plain (OpenSpec.ofChange miniLawsSpec)) miniLawsCard

/-- THE TIED CARD OF 'boskagelaw07.MiniClass'. -/
def miniClassCard : Claim7 := { stood := { row := miniClassRow, standIns := [], harness := (true, "4c7d9b2afb0c4faf6b9ceeb2b02493f4ad2995cd13be56766ea3684748ee83ea"), looks := false }, kinds := [], alts := [], laidByText := true, laidKinds := [.data, .data, .data, .widerDeep], laidTests := true, laidLooks := .later }
def MiniClassCardSaid : Prop := Claim7.holds Tryz.pinned (.plain (OpenSpec.ofChange miniClassSpec)) miniClassCard

/-- THE TIED CARD OF 'boskagelaw07.MiniMeans'. -/
def miniMeansCard : Claim7 := { stood := { row := miniMeansRow, standIns := [], harness := (true, "4c7d9b2afb0c4faf6b9ceeb2b02493f4ad2995cd13be56766ea3684748ee83ea"), looks := false }, kinds := [], alts := [], laidByText := true, laidKinds := [.data, .data, .data, .widerDeep], laidTests := true, laidLooks := .later }
def MiniMeansCardSaid : Prop := Claim7.holds Tryz.pinned (.plain (OpenSpec.ofChange miniMeansSpec)) miniMeansCard

/-- THE TIED CARD OF 'boskagelaw05.BooleanMeet'. -/
def booleanMeetCard : Claim7 := { stood := { row := booleanMeetRow, standIns := [], harness := (true, "4c7d9b2afb0c4faf6b9ceeb2b02493f4ad2995cd13be56766ea3684748ee83ea"), looks := false }, kinds := [], alts := [], laidByText := true, laidKinds := [.widerDeep], laidTests := true, laidLooks := .later }
def BooleanMeetCardSaid : Prop := Claim7.holds Tryz.pinned (.plain (OpenSpec.ofChange booleanMeetSpec)) booleanMeetCard

/-- THE TIED CARD OF 'boskagelaw05.BooleanMinus'. -/
def booleanMinusCard : Claim7 := { stood := { row := booleanMinusRow, standIns := [], harness := (true, "4c7d9b2afb0c4faf6b9ceeb2b02493f4ad2995cd13be56766ea3684748ee83ea"), looks := false }, kinds := [], alts := [], laidByText := true, laidKinds := [.data, .data, .data, .widerDeep], laidTests := true, laidLooks := .later }
def BooleanMinusCardSaid : Prop := Claim7.holds Tryz.pinned (.plain (OpenSpec.ofChange booleanMinusSpec)) booleanMinusCard

/-- THE TIED CARD OF 'boskagelaw05.BooleanLaws'. -/
def booleanLawsCard : Claim7 := { stood := { row := booleanLawsRow, standIns := [], harness := (true, "4c7d9b2afb0c4faf6b9ceeb2b02493f4ad2995cd13be56766ea3684748ee83ea"), looks := false }, kinds := [], alts := [], laidByText := true, laidKinds := [.data, .data, .data, .widerDeep], laidTests := true, laidLooks := .later }
def BooleanLawsCardSaid : Prop := Claim7.holds Tryz.pinned (.plain (OpenSpec.ofChange booleanLawsSpec)) booleanLawsCard

/-- THE SECOND FORM's CARD OF 'boskagelaw07.MiniMinimal'. -/
def miniMinimalUptoCard : Claim7 := { stood := { row := miniMinimalUptoRow, standIns := [], harness := (true, "4c7d9b2afb0c4faf6b9ceeb2b02493f4ad2995cd13be56766ea3684748ee83ea"), looks := false }, kinds := [], alts := [], laidByText := true, laidKinds := [.data, .data, .data, .widerDeep], laidTests := true, laidLooks := .later }
def MiniMinimalUptoCardSaid : Prop := Claim7.holds Tryz.pinned (.plain (OpenSpec.upto miniMinimalSpec)) miniMinimalUptoCard

/-- THE SECOND FORM's CARD OF 'boskagelaw07.MiniSame'. -/
def miniSameUptoCard : Claim7 := { stood := { row := miniSameUptoRow, standIns := [], harness := (true, "4c7d9b2afb0c4faf6b9ceeb2b02493f4ad2995cd13be56766ea3684748ee83ea"), looks := false }, kinds := [], alts := [], laidByText := true, laidKinds := [.data, .data, .data, .widerDeep], laidTests := true, laidLooks := .later }
def MiniSameUptoCardSaid : Prop := Claim7.holds Tryz.pinned (.plain (OpenSpec.upto miniSameSpec)) miniSameUptoCard

/-- THE SECOND FORM's CARD OF 'boskagelaw07.MiniLaws'. -/
def miniLawsUptoCard : Claim7 := { stood := { row := miniLawsUptoRow, standIns := [], harness := (true, "4c7d9b2afb0c4faf6b9ceeb2b02493f4ad2995cd13be56766ea3684748ee83ea"), looks := false }, kinds := [], alts := [], laidByText := true, laidKinds := [.data, .data, .data, .widerDeep], laidTests := true, laidLooks := .later }
def MiniLawsUptoCardSaid : Prop := Claim7.holds Tryz.pinned (.plain (OpenSpec.upto miniLawsSpec)) miniLawsUptoCard

/-- THE SECOND FORM's CARD OF 'boskagelaw07.MiniClass'. -/
def miniClassUptoCard : Claim7 := { stood := { row := miniClassUptoRow, standIns := [], harness := (true, "4c7d9b2afb0c4faf6b9ceeb2b02493f4ad2995cd13be56766ea3684748ee83ea"), looks := false }, kinds := [], alts := [], laidByText := true, laidKinds := [.data, .data, .data, .widerDeep], laidTests := true, laidLooks := .later }
def MiniClassUptoCardSaid : Prop := Claim7.holds Tryz.pinned (.plain (OpenSpec.upto miniClassSpec)) miniClassUptoCard

/-- THE SECOND FORM's CARD OF 'boskagelaw07.MiniMeans'. -/
def miniMeansUptoCard : Claim7 := { stood := { row := miniMeansUptoRow, standIns := [], harness := (true, "4c7d9b2afb0c4faf6b9ceeb2b02493f4ad2995cd13be56766ea3684748ee83ea"), looks := false }, kinds := [], alts := [], laidByText := true, laidKinds := [.data, .data, .data, .widerDeep], laidTests := true, laidLooks := .later }
def MiniMeansUptoCardSaid : Prop := Claim7.holds Tryz.pinned (.plain (OpenSpec.upto miniMeansSpec)) miniMeansUptoCard

/-- THE SECOND FORM's CARD OF 'boskagelaw05.BooleanMeet'. -/
def booleanMeetUptoCard : Claim7 := { stood := { row := booleanMeetUptoRow, standIns := [], harness := (true, "4c7d9b2afb0c4faf6b9ceeb2b02493f4ad2995cd13be56766ea3684748ee83ea"), looks := false }, kinds := [], alts := [], laidByText := true, laidKinds := [.widerDeep], laidTests := true, laidLooks := .later }
def BooleanMeetUptoCardSaid : Prop := Claim7.holds Tryz.pinned (.plain (OpenSpec.upto booleanMeetSpec)) booleanMeetUptoCard

/-- THE SECOND FORM's CARD OF 'boskagelaw05.BooleanMinus'. -/
def booleanMinusUptoCard : Claim7 := { stood := { row := booleanMinusUptoRow, standIns := [], harness := (true, "4c7d9b2afb0c4faf6b9ceeb2b02493f4ad2995cd13be56766ea3684748ee83ea"), looks := false }, kinds := [], alts := [], laidByText := true, laidKinds := [.data, .data, .data, .widerDeep], laidTests := true, laidLooks := .later }
def BooleanMinusUptoCardSaid : Prop := Claim7.holds Tryz.pinned (.plain (OpenSpec.upto booleanMinusSpec)) booleanMinusUptoCard

/-- THE SECOND FORM's CARD OF 'boskagelaw05.BooleanLaws'. -/
def booleanLawsUptoCard : Claim7 := { stood := { row := booleanLawsUptoRow, standIns := [], harness := (true, "4c7d9b2afb0c4faf6b9ceeb2b02493f4ad2995cd13be56766ea3684748ee83ea"), looks := false }, kinds := [], alts := [], laidByText := true, laidKinds := [.data, .data, .data, .widerDeep], laidTests := true, laidLooks := .later }
def BooleanLawsUptoCardSaid : Prop := Claim7.holds Tryz.pinned (.plain (OpenSpec.upto booleanLawsSpec)) booleanLawsUptoCard
end Rows
end Go.Proofs.YtdchbjmbgecejaaGreatDoor
