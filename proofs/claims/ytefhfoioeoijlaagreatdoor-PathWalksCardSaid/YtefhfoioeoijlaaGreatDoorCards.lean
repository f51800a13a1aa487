/-
  DERIVED. GIVEN WITH THE SEED: THE CARDS: each row of YtefhfoioeoijlaaGreatDoorRows.lean that lists a variable, with what it lists TIED to the program's text (the seventh form; the later family's looks); each row that meets fmt, with fmt's text TOLD by the authors' own Lean function (tested against real Go, not proved from fmt's source: count such statements apart). THE CARD IS WHAT COUNTS. Prove the row's statement (the work); the ties are given (YtefhfoioeoijlaaGreatDoorTie.lean); close each card by the builder's one call (the guide's Derived/Test/ToyasCard.lean, 'card_holds'). Laid BY PROGRAM, IN A SANDBOX (cutbox-door.mjs). By AI agents, Wed Nov 11 2026. No macro, syntax, notation, axiom, sorry.
-/
import Derived.Test.YtefhfoioeoijlaaGreatDoorRows
import GoSem.ClaimSeven
namespace Go.Proofs.YtefhfoioeoijlaaGreatDoor
namespace Rows

/-- THE TIED CARD OF 'cachettelaw18.NamesUnique'. -/
def namesUniqueCard : Claim7 := { stood := { row := namesUniqueRow, standIns := [], harness := (true, "04f8ca48b93739549b576f7517537d228ab879fd35304f54ad5197f904ade082"), looks := false }, kinds := [], alts := [], laidByText := true, laidKinds := [.data, .data, .data], laidTests := true, laidLooks := .later }
def NamesUniqueCardSaid : Prop := Claim7.holds Tryz.pinned (.plain (OpenSpec.ofChange namesUniqueSpec)) namesUniqueCard

/-- THE TIED CARD OF 'cachettelaw20.HistoryChanges'. -/
def historyChangesCard : Claim7 := { stood := { row := historyChangesRow, standIns := [], harness := (true, "04f8ca48b93739549b576f7517537d228ab879fd35304f54ad5197f904ade082"), looks := false }, kinds := [], alts := [], laidByText := true, laidKinds := [.data, .data, .data], laidTests := true, laidLooks := .later }
def HistoryChangesCardSaid : Prop := Claim7.holds Tryz.pinned (.plain (OpenSpec.ofChange historyChangesSpec)) historyChangesCard

/-- THE TIED CARD OF 'cachettelaw20.HistoryTurns'. -/
def historyTurnsCard : Claim7 := { stood := { row := historyTurnsRow, standIns := [], harness := (true, "04f8ca48b93739549b576f7517537d228ab879fd35304f54ad5197f904ade082"), looks := false }, kinds := [], alts := [], laidByText := true, laidKinds := [.data, .data, .data], laidTests := true, laidLooks := .later }
def HistoryTurnsCardSaid : Prop := Claim7.holds Tryz.pinned (.plain (OpenSpec.ofChange historyTurnsSpec)) historyTurnsCard

/-- THE TIED CARD OF 'cachettelaw18.NamesFree'. -/
def namesFreeCard : Claim7 := { stood := { row := namesFreeRow, standIns := [], harness := (true, "04f8ca48b93739549b576f7517537d228ab879fd35304f54ad5197f904ade082"), looks := false }, kinds := [], alts := [], laidByText := true, laidKinds := [.data, .data, .data], laidTests := true, laidLooks := .later }
def NamesFreeCardSaid : Prop := Claim7.holds Tryz.pinned (.plain (OpenSpec.ofChange namesFreeSpec)) namesFreeCard

/-- THE TIED CARD OF 'cachettelaw18.NamesKids'. -/
def namesKidsCard : Claim7 := { stood := { row := namesKidsRow, standIns := [], harness := (true, "04f8ca48b93739549b576f7517537d228ab879fd35304f54ad5197f904ade082"), looks := false }, kinds := [], alts := [], laidByText := true, laidKinds := [.data, .data, .data], laidTests := true, laidLooks := .later }
def NamesKidsCardSaid : Prop := Claim7.holds Tryz.pinned (.plain (OpenSpec.ofChange namesKidsSpec)) namesKidsCard

/-- THE TIED CARD OF 'cachettelaw19.PathLeads'. -/
def pathLeadsCard : Claim7 := { stood := { row := pathLeadsRow, standIns := [], harness := (true, "04f8ca48b93739549b576f7517537d228ab879fd35304f54ad5197f904ade082"), looks := false }, kinds := [], alts := [], laidByText := true, laidKinds := [.data, .data, .data, .data, .pinned], laidTests := true, laidLooks := .later }
def PathLeadsCardSaid : Prop := Claim7.holds Tryz.pinned (.plain (OpenSpec.ofChange pathLeadsSpec)) pathLeadsCard

/-- THE TIED CARD OF 'cachettelaw19.PathTexts'. -/
def pathTextsCard : Claim7 := { stood := { row := pathTextsRow, standIns := [], harness := (true, "04f8ca48b93739549b576f7517537d228ab879fd35304f54ad5197f904ade082"), looks := false }, kinds := [], alts := [], laidByText := true, laidKinds := [.data, .data, .data, .data, .pinned], laidTests := true, laidLooks := .later }
def PathTextsCardSaid : Prop := Claim7.holds Tryz.pinned (.plain (OpenSpec.ofChange pathTextsSpec)) pathTextsCard

/-- THE TIED CARD OF 'cachettelaw19.PathBack'. -/
def pathBackCard : Claim7 := { stood := { row := pathBackRow, standIns := [], harness := (true, "04f8ca48b93739549b576f7517537d228ab879fd35304f54ad5197f904ade082"), looks := false }, kinds := [], alts := [], laidByText := true, laidKinds := [.data, .data, .data, .data, .pinned], laidTests := true, laidLooks := .later }
def PathBackCardSaid : Prop := Claim7.holds Tryz.pinned (.plain (OpenSpec.ofChange pathBackSpec)) pathBackCard

/-- THE TIED CARD OF 'cachettelaw19.PathWalks'. -/
def pathWalksCard : Claim7 := { stood := { row := pathWalksRow, standIns := [], harness := (true, "04f8ca48b93739549b576f7517537d228ab879fd35304f54ad5197f904ade082"), looks := false }, kinds := [], alts := [], laidByText := true, laidKinds := [.data, .data, .data, .data, .pinned], laidTests := true, laidLooks := .later }
def PathWalksCardSaid : Prop := Claim7.holds Tryz.pinned (.plain (OpenSpec.ofChange pathWalksSpec)) pathWalksCard

/-- THE TIED CARD OF 'cachettelaw19.PathAll'. -/
def pathAllCard : Claim7 := { stood := { row := pathAllRow, standIns := [], harness := (true, "04f8ca48b93739549b576f7517537d228ab879fd35304f54ad5197f904ade082"), looks := false }, kinds := [], alts := [], laidByText := true, laidKinds := [.data, .data, .data, .data, .pinned], laidTests := true, laidLooks := .later }
def PathAllCardSaid : Prop := Claim7.holds Tryz.pinned (.plain (OpenSpec.ofChange pathAllSpec)) pathAllCard

/-- THE SECOND FORM's CARD OF 'cachettelaw18.NamesUnique'. -/
def namesUniqueUptoCard : Claim7 := { stood := { row := namesUniqueUptoRow, standIns := [], harness := (true, "04f8ca48b93739549b576f7517537d228ab879fd35304f54ad5197f904ade082"), looks := false }, kinds := [], alts := [], laidByText := true, laidKinds := [.data, .data, .data], laidTests := true, laidLooks := .later }
def NamesUniqueUptoCardSaid : Prop := Claim7.holds Tryz.pinned (.plain (OpenSpec.upto namesUniqueSpec)) namesUniqueUptoCard

/-- THE SECOND FORM's CARD OF 'cachettelaw20.HistoryChanges'. -/
def historyChangesUptoCard : Claim7 := { stood := { row := historyChangesUptoRow, standIns := [], harness := (true, "04f8ca48b93739549b576f7517537d228ab879fd35304f54ad5197f904ade082"), looks := false }, kinds := [], alts := [], laidByText := true, laidKinds := [.data, .data, .data], laidTests := true, laidLooks := .later }
def HistoryChangesUptoCardSaid : Prop := Claim7.holds Tryz.pinned (.plain (OpenSpec.upto historyChangesSpec)) historyChangesUptoCard

/-- THE SECOND FORM's CARD OF 'cachettelaw20.HistoryTurns'. -/
def historyTurnsUptoCard : Claim7 := { stood := { row := historyTurnsUptoRow, standIns := [], harness := (true, "04f8ca48b93739549b576f7517537d228ab879fd35304f54ad5197f904ade082"), looks := false }, kinds := [], alts := [], laidByText := true, laidKinds := [.data, .data, .data], laidTests := true, laidLooks := .later }
def HistoryTurnsUptoCardSaid : Prop := Claim7.holds Tryz.pinned (.plain (OpenSpec.upto historyTurnsSpec)) historyTurnsUptoCard

/-- THE SECOND FORM's CARD OF 'cachettelaw18.NamesFree'. -/
def namesFreeUptoCard : Claim7 := { stood := { row := namesFreeUptoRow, standIns := [], harness := (true, "04f8ca48b93739549b576f7517537d228ab879fd35304f54ad5197f904ade082"), looks := false }, kinds := [], alts := [], laidByText := true, laidKinds := [.data, .data, .data], laidTests := true, laidLooks := .later }
def NamesFreeUptoCardSaid : Prop := Claim7.holds Tryz.pinned (.plain (OpenSpec.upto namesFreeSpec)) namesFreeUptoCard

/-- THE SECOND FORM's CARD OF 'cachettelaw18.NamesKids'. -/
def namesKidsUptoCard : Claim7 := { stood := { row := namesKidsUptoRow, standIns := [], harness := (true, "04f8ca48b93739549b576f7517537d228ab879fd35304f54ad5197f904ade082"), looks := false }, kinds := [], alts := [], laidByText := true, laidKinds := [.data, .data, .data], laidTests := true, laidLooks := .later }
def NamesKidsUptoCardSaid : Prop := Claim7.holds Tryz.pinned (.plain (OpenSpec.upto namesKidsSpec)) namesKidsUptoCard

/-- THE SECOND FORM's CARD OF 'cachettelaw19.PathLeads'. -/
def pathLeadsUptoCard : Claim7 := { stood := { row := pathLeadsUptoRow, standIns := [], harness := (true, "04f8ca48b93739549b576f7517537d228ab879fd35304f54ad5197f904ade082"), looks := false }, kinds := [], alts := [], laidByText := true, laidKinds := [.data, .data, .data, .data, .pinned], laidTests := true, laidLooks := .later }
def PathLeadsUptoCardSaid : Prop := Claim7.holds Tryz.pinned (.plain (OpenSpec.upto pathLeadsSpec)) pathLeadsUptoCard

/-- THE SECOND FORM's CARD OF 'cachettelaw19.PathTexts'. -/
def pathTextsUptoCard : Claim7 := { stood := { row := pathTextsUptoRow, standIns := [], harness := (true, "04f8ca48b93739549b576f7517537d228ab879fd35304f54ad5197f904ade082"), looks := false }, kinds := [], alts := [], laidByText := true, laidKinds := [.data, .data, .data, .data, .pinned], laidTests := true, laidLooks := .later }
def PathTextsUptoCardSaid : Prop := Claim7.holds Tryz.pinned (.plain (OpenSpec.upto pathTextsSpec)) pathTextsUptoCard

/-- THE SECOND FORM's CARD OF 'cachettelaw19.PathBack'. -/
def pathBackUptoCard : Claim7 := { stood := { row := pathBackUptoRow, standIns := [], harness := (true, "04f8ca48b93739549b576f7517537d228ab879fd35304f54ad5197f904ade082"), looks := false }, kinds := [], alts := [], laidByText := true, laidKinds := [.data, .data, .data, .data, .pinned], laidTests := true, laidLooks := .later }
def PathBackUptoCardSaid : Prop := Claim7.holds Tryz.pinned (.plain (OpenSpec.upto pathBackSpec)) pathBackUptoCard

/-- THE SECOND FORM's CARD OF 'cachettelaw19.PathWalks'. -/
def pathWalksUptoCard : Claim7 := { stood := { row := pathWalksUptoRow, standIns := [], harness := (true, "04f8ca48b93739549b576f7517537d228ab879fd35304f54ad5197f904ade082"), looks := false }, kinds := [], alts := [], laidByText := true, laidKinds := [.data, .data, .data, .data, .pinned], laidTests := true, laidLooks := .later }
def PathWalksUptoCardSaid : Prop := Claim7.holds Tryz.pinned (.plain (OpenSpec.upto pathWalksSpec)) pathWalksUptoCard

/-- THE SECOND FORM's CARD OF 'cachettelaw19.PathAll'. -/
def pathAllUptoCard : Claim7 := { stood := { row := pathAllUptoRow, standIns := [], harness := (true, "04f8ca48b93739549b576f7517537d228ab879fd35304f54ad5197f904ade082"), looks := false }, kinds := [], alts := [], laidByText := true, laidKinds := [.data, .data, .data, .data, .pinned], laidTests := true, laidLooks := .later }
def PathAllUptoCardSaid : Prop := Claim7.holds Tryz.pinned (.plain (OpenSpec.upto pathAllSpec)) pathAllUptoCard
end Rows
end Go.Proofs.YtefhfoioeoijlaaGreatDoor
