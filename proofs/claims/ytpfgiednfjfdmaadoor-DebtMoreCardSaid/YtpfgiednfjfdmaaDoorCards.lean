/-
  DERIVED. GIVEN WITH THE SEED: THE CARDS: each row of YtpfgiednfjfdmaaDoorRows.lean that lists a variable, with what it lists TIED to the program's text (the seventh form; the later family's looks); each row that meets fmt, with fmt's text TOLD by the authors' own Lean function (tested against real Go, not proved from fmt's source: count such statements apart). THE CARD IS WHAT COUNTS. Prove the row's statement (the work); the ties are given (YtpfgiednfjfdmaaDoorTie.lean); close each card by the builder's one call (the guide's Derived/Test/ToyasCard.lean, 'card_holds'). Laid BY PROGRAM, IN A SANDBOX (cutbox-door.mjs). By AI agents, Wed Nov 11 2026. No macro, syntax, notation, axiom, sorry.
-/
import Derived.Test.YtpfgiednfjfdmaaDoorRows
import GoSem.ClaimSeven
namespace Go.Proofs.YtpfgiednfjfdmaaDoor
namespace Rows

/-- THE TIED CARD OF 'bogworkslaw10.DebtReads'. -/
def debtReadsCard : Claim7 := { stood := { row := debtReadsRow, standIns := [], harness := (true, "401e95c7dea4cfabf94b6ff5d8efe43e6a09c9e8561d90c60e3d7a9da4f4220c"), looks := true }, kinds := [], alts := [], laidByText := true, laidKinds := [.wider], laidTests := true, laidLooks := .later }
def DebtReadsCardSaid : Prop := Claim7.holds Tryd.pinned (.plain (OpenSpec.ofChange debtReadsSpec)) debtReadsCard

/-- THE TIED CARD OF 'bogworkslaw10.DebtLooks'. -/
def debtLooksCard : Claim7 := { stood := { row := debtLooksRow, standIns := [], harness := (true, "401e95c7dea4cfabf94b6ff5d8efe43e6a09c9e8561d90c60e3d7a9da4f4220c"), looks := true }, kinds := [], alts := [], laidByText := true, laidKinds := [.wider], laidTests := true, laidLooks := .later }
def DebtLooksCardSaid : Prop := Claim7.holds Tryd.pinned (.plain (OpenSpec.ofChange debtLooksSpec)) debtLooksCard

/-- THE TIED CARD OF 'bogworkslaw10.DebtTrue'. -/
def debtTrueCard : Claim7 := { stood := { row := debtTrueRow, standIns := [], harness := (true, "401e95c7dea4cfabf94b6ff5d8efe43e6a09c9e8561d90c60e3d7a9da4f4220c"), looks := true }, kinds := [], alts := [], laidByText := true, laidKinds := [.wider], laidTests := true, laidLooks := .later }
def DebtTrueCardSaid : Prop := Claim7.holds Tryd.pinned (.plain (OpenSpec.ofChange debtTrueSpec)) debtTrueCard

/-- THE TIED CARD OF 'bogworkslaw10.DebtEnds'. -/
def debtEndsCard : Claim7 := { stood := { row := debtEndsRow, standIns := [], harness := (true, "401e95c7dea4cfabf94b6ff5d8efe43e6a09c9e8561d90c60e3d7a9da4f4220c"), looks := true }, kinds := [], alts := [], laidByText := true, laidKinds := [.wider], laidTests := true, laidLooks := .later }
def DebtEndsCardSaid : Prop := Claim7.holds Tryd.pinned (.plain (OpenSpec.ofChange debtEndsSpec)) debtEndsCard

/-- THE TIED CARD OF 'bogworkslaw10.DebtNeeds'. -/
def debtNeedsCard : Claim7 := { stood := { row := debtNeedsRow, standIns := [], harness := (true, "401e95c7dea4cfabf94b6ff5d8efe43e6a09c9e8561d90c60e3d7a9da4f4220c"), looks := true }, kinds := [], alts := [], laidByText := true, laidKinds := [.wider], laidTests := true, laidLooks := .later }
def DebtNeedsCardSaid : Prop := Claim7.holds Tryd.pinned (.plain (OpenSpec.ofChange debtNeedsSpec)) debtNeedsCard

/-- THE TIED CARD OF 'bogworkslaw10.DebtMost'. -/
def debtMostCard : Claim7 := { stood := { row := debtMostRow, standIns := [], harness := (true, "401e95c7dea4cfabf94b6ff5d8efe43e6a09c9e8561d90c60e3d7a9da4f4220c"), looks := true }, kinds := [], alts := [], laidByText := true, laidKinds := [.wider], laidTests := true, laidLooks := .later }
def DebtMostCardSaid : Prop := Claim7.holds Tryd.pinned (.plain (OpenSpec.ofChange debtMostSpec)) debtMostCard

/-- THE TIED CARD OF 'bogworkslaw10.DebtChecks'. -/
def debtChecksCard : Claim7 := { stood := { row := debtChecksRow, standIns := [], harness := (true, "401e95c7dea4cfabf94b6ff5d8efe43e6a09c9e8561d90c60e3d7a9da4f4220c"), looks := true }, kinds := [], alts := [], laidByText := true, laidKinds := [.wider], laidTests := true, laidLooks := .later }
def DebtChecksCardSaid : Prop := Claim7.holds Tryd.pinned (.plain (OpenSpec.ofChange debtChecksSpec)) debtChecksCard

/-- THE TIED CARD OF 'bogworkslaw10.DebtKept'. -/
def debtKeptCard : Claim7 := { stood := { row := debtKeptRow, standIns := [], harness := (true, "401e95c7dea4cfabf94b6ff5d8efe43e6a09c9e8561d90c60e3d7a9da4f4220c"), looks := true }, kinds := [], alts := [], laidByText := true, laidKinds := [.wider], laidTests := true, laidLooks := .later }
def DebtKeptCardSaid : Prop := Claim7.holds Tryd.pinned (.plain (OpenSpec.ofChange debtKeptSpec)) debtKeptCard

/-- THE TIED CARD OF 'bogworkslaw10.DebtMore'. -/
def debtMoreCard : Claim7 := { stood := { row := debtMoreRow, standIns := [], harness := (true, "401e95c7dea4cfabf94b6ff5d8efe43e6a09c9e8561d90c60e3d7a9da4f4220c"), looks := true }, kinds := [], alts := [], laidByText := true, laidKinds := [.wider], laidTests := true, laidLooks := .later }
def DebtMoreCardSaid : Prop := Claim7.holds Tryd.pinned (.plain (OpenSpec.ofChange debtMoreSpec)) debtMoreCard

/-- THE SECOND FORM's CARD OF 'bogworkslaw10.DebtReads'. -/
def debtReadsUptoCard : Claim7 := { stood := { row := debtReadsUptoRow, standIns := [], harness := (true, "401e95c7dea4cfabf94b6ff5d8efe43e6a09c9e8561d90c60e3d7a9da4f4220c"), looks := true }, kinds := [], alts := [], laidByText := true, laidKinds := [.wider], laidTests := true, laidLooks := .later }
def DebtReadsUptoCardSaid : Prop := Claim7.holds Tryd.pinned (.plain (OpenSpec.upto debtReadsSpec)) debtReadsUptoCard

/-- THE SECOND FORM's CARD OF 'bogworkslaw10.DebtLooks'. -/
def debtLooksUptoCard : Claim7 := { stood := { row := debtLooksUptoRow, standIns := [], harness := (true, "401e95c7dea4cfabf94b6ff5d8efe43e6a09c9e8561d90c60e3d7a9da4f4220c"), looks := true }, kinds := [], alts := [], laidByText := true, laidKinds := [.wider], laidTests := true, laidLooks := .later }
def DebtLooksUptoCardSaid : Prop := Claim7.holds Tryd.pinned (.plain (OpenSpec.upto debtLooksSpec)) debtLooksUptoCard

/-- THE SECOND FORM's CARD OF 'bogworkslaw10.DebtTrue'. -/
def debtTrueUptoCard : Claim7 := { stood := { row := debtTrueUptoRow, standIns := [], harness := (true, "401e95c7dea4cfabf94b6ff5d8efe43e6a09c9e8561d90c60e3d7a9da4f4220c"), looks := true }, kinds := [], alts := [], laidByText := true, laidKinds := [.wider], laidTests := true, laidLooks := .later }
def DebtTrueUptoCardSaid : Prop := Claim7.holds Tryd.pinned (.plain (OpenSpec.upto debtTrueSpec)) debtTrueUptoCard

/-- THE SECOND FORM's CARD OF 'bogworkslaw10.DebtEnds'. -/
def debtEndsUptoCard : Claim7 := { stood := { row := debtEndsUptoRow, standIns := [], harness := (true, "401e95c7dea4cfabf94b6ff5d8efe43e6a09c9e8561d90c60e3d7a9da4f4220c"), looks := true }, kinds := [], alts := [], laidByText := true, laidKinds := [.wider], laidTests := true, laidLooks := .later }
def DebtEndsUptoCardSaid : Prop := Claim7.holds Tryd.pinned (.plain (OpenSpec.upto debtEndsSpec)) debtEndsUptoCard

/-- THE SECOND FORM's CARD OF 'bogworkslaw10.DebtNeeds'. -/
def debtNeedsUptoCard : Claim7 := { stood := { row := debtNeedsUptoRow, standIns := [], harness := (true, "401e95c7dea4cfabf94b6ff5d8efe43e6a09c9e8561d90c60e3d7a9da4f4220c"), looks := true }, kinds := [], alts := [], laidByText := true, laidKinds := [.wider], laidTests := true, laidLooks := .later }
def DebtNeedsUptoCardSaid : Prop := Claim7.holds Tryd.pinned (.plain (OpenSpec.upto debtNeedsSpec)) debtNeedsUptoCard

/-- THE SECOND FORM's CARD OF 'bogworkslaw10.DebtMost'. -/
def debtMostUptoCard : Claim7 := { stood := { row := debtMostUptoRow, standIns := [], harness := (true, "401e95c7dea4cfabf94b6ff5d8efe43e6a09c9e8561d90c60e3d7a9da4f4220c"), looks := true }, kinds := [], alts := [], laidByText := true, laidKinds := [.wider], laidTests := true, laidLooks := .later }
def DebtMostUptoCardSaid : Prop := Claim7.holds Tryd.pinned (.plain (OpenSpec.upto debtMostSpec)) debtMostUptoCard

/-- THE SECOND FORM's CARD OF 'bogworkslaw10.DebtChecks'. -/
def debtChecksUptoCard : Claim7 := { stood := { row := debtChecksUptoRow, standIns := [], harness := (true, "401e95c7dea4cfabf94b6ff5d8efe43e6a09c9e8561d90c60e3d7a9da4f4220c"), looks := true }, kinds := [], alts := [], laidByText := true, laidKinds := [.wider], laidTests := true, laidLooks := .later }
def DebtChecksUptoCardSaid : Prop := Claim7.holds Tryd.pinned (.plain (OpenSpec.upto debtChecksSpec)) debtChecksUptoCard

/-- THE SECOND FORM's CARD OF 'bogworkslaw10.DebtKept'. -/
def debtKeptUptoCard : Claim7 := { stood := { row := debtKeptUptoRow, standIns := [], harness := (true, "401e95c7dea4cfabf94b6ff5d8efe43e6a09c9e8561d90c60e3d7a9da4f4220c"), looks := true }, kinds := [], alts := [], laidByText := true, laidKinds := [.wider], laidTests := true, laidLooks := .later }
def DebtKeptUptoCardSaid : Prop := Claim7.holds Tryd.pinned (.plain (OpenSpec.upto debtKeptSpec)) debtKeptUptoCard

/-- THE SECOND FORM's CARD OF 'bogworkslaw10.DebtMore'. -/
def debtMoreUptoCard : Claim7 := { stood := { row := debtMoreUptoRow, standIns := [], harness := (true, "401e95c7dea4cfabf94b6ff5d8efe43e6a09c9e8561d90c60e3d7a9da4f4220c"), looks := true }, kinds := [], alts := [], laidByText := true, laidKinds := [.wider], laidTests := true, laidLooks := .later }
def DebtMoreUptoCardSaid : Prop := Claim7.holds Tryd.pinned (.plain (OpenSpec.upto debtMoreSpec)) debtMoreUptoCard
end Rows
end Go.Proofs.YtpfgiednfjfdmaaDoor
