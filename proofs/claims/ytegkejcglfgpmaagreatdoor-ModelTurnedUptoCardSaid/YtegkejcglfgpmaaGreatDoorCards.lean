/-
  DERIVED. GIVEN WITH THE SEED: THE CARDS: each row of YtegkejcglfgpmaaGreatDoorRows.lean that lists a variable, with what it lists TIED to the program's text (the seventh form; the later family's looks); each row that meets fmt, with fmt's text TOLD by the authors' own Lean function (tested against real Go, not proved from fmt's source: count such statements apart). THE CARD IS WHAT COUNTS. Prove the row's statement (the work); the ties are given (YtegkejcglfgpmaaGreatDoorTie.lean); close each card by the builder's one call (the guide's Derived/Test/ToyasCard.lean, 'card_holds'). Laid BY PROGRAM, IN A SANDBOX (cutbox-door.mjs). By AI agents, Wed Nov 11 2026. No macro, syntax, notation, axiom, sorry.
-/
import Derived.Test.YtegkejcglfgpmaaGreatDoorRows
import GoSem.ClaimSeven
namespace Go.Proofs.YtegkejcglfgpmaaGreatDoor
namespace Rows

/-- THE TIED CARD OF 'munimentlaw23.ModelClean'. -/
def modelCleanCard : Claim7 := { stood := { row := modelCleanRow, standIns := [], harness := (true, "ee4380a8fe37f99f39af67c4f09504c22d45fce55a6dfc5e3c55af83c622e1c4"), looks := false }, kinds := [], alts := [], laidByText := true, laidKinds := [.data], laidTests := true, laidLooks := .later }
def ModelCleanCardSaid : Prop := Claim7.holds Tryz.pinned (.plain (OpenSpec.ofChange modelCleanSpec)) modelCleanCard

/-- THE TIED CARD OF 'munimentlaw23.ModelTurned'. -/
def modelTurnedCard : Claim7 := { stood := { row := modelTurnedRow, standIns := [], harness := (true, "ee4380a8fe37f99f39af67c4f09504c22d45fce55a6dfc5e3c55af83c622e1c4"), looks := false }, kinds := [], alts := [], laidByText := true, laidKinds := [.data], laidTests := true, laidLooks := .later }
def ModelTurnedCardSaid : Prop := Claim7.holds Tryz.pinned (.plain (OpenSpec.ofChange modelTurnedSpec)) modelTurnedCard

/-- THE TIED CARD OF 'munimentlaw23.ModelCounts'. -/
def modelCountsCard : Claim7 := { stood := { row := modelCountsRow, standIns := [], harness := (true, "ee4380a8fe37f99f39af67c4f09504c22d45fce55a6dfc5e3c55af83c622e1c4"), looks := false }, kinds := [], alts := [], laidByText := true, laidKinds := [.data], laidTests := true, laidLooks := .later }
def ModelCountsCardSaid : Prop := Claim7.holds Tryz.pinned (.plain (OpenSpec.ofChange modelCountsSpec)) modelCountsCard

/-- THE TIED CARD OF 'munimentlaw23.ModelPlays'. -/
def modelPlaysCard : Claim7 := { stood := { row := modelPlaysRow, standIns := [], harness := (true, "ee4380a8fe37f99f39af67c4f09504c22d45fce55a6dfc5e3c55af83c622e1c4"), looks := false }, kinds := [], alts := [], laidByText := true, laidKinds := [.data], laidTests := true, laidLooks := .later }
def ModelPlaysCardSaid : Prop := Claim7.holds Tryz.pinned (.plain (OpenSpec.ofChange modelPlaysSpec)) modelPlaysCard

/-- THE TIED CARD OF 'munimentlaw23.ModelClones'. -/
def modelClonesCard : Claim7 := { stood := { row := modelClonesRow, standIns := [], harness := (true, "ee4380a8fe37f99f39af67c4f09504c22d45fce55a6dfc5e3c55af83c622e1c4"), looks := false }, kinds := [], alts := [], laidByText := true, laidKinds := [.data], laidTests := true, laidLooks := .later }
def ModelClonesCardSaid : Prop := Claim7.holds Tryz.pinned (.plain (OpenSpec.ofChange modelClonesSpec)) modelClonesCard

/-- THE TIED CARD OF 'munimentlaw23.ModelKeeps'. -/
def modelKeepsCard : Claim7 := { stood := { row := modelKeepsRow, standIns := [], harness := (true, "ee4380a8fe37f99f39af67c4f09504c22d45fce55a6dfc5e3c55af83c622e1c4"), looks := false }, kinds := [], alts := [], laidByText := true, laidKinds := [.data], laidTests := true, laidLooks := .later }
def ModelKeepsCardSaid : Prop := Claim7.holds Tryz.pinned (.plain (OpenSpec.ofChange modelKeepsSpec)) modelKeepsCard

/-- THE SECOND FORM's CARD OF 'munimentlaw23.ModelClean'. -/
def modelCleanUptoCard : Claim7 := { stood := { row := modelCleanUptoRow, standIns := [], harness := (true, "ee4380a8fe37f99f39af67c4f09504c22d45fce55a6dfc5e3c55af83c622e1c4"), looks := false }, kinds := [], alts := [], laidByText := true, laidKinds := [.data], laidTests := true, laidLooks := .later }
def ModelCleanUptoCardSaid : Prop := Claim7.holds Tryz.pinned (.plain (OpenSpec.upto modelCleanSpec)) modelCleanUptoCard

/-- THE SECOND FORM's CARD OF 'munimentlaw23.ModelTurned'. -/
def modelTurnedUptoCard : Claim7 := { stood := { row := modelTurnedUptoRow, standIns := [], harness := (true, "ee4380a8fe37f99f39af67c4f09504c22d45fce55a6dfc5e3c55af83c622e1c4"), looks := false }, kinds := [], alts := [], laidByText := true, laidKinds := [.data], laidTests := true, laidLooks := .later }
def ModelTurnedUptoCardSaid : Prop := Claim7.holds Tryz.pinned (.plain (OpenSpec.upto modelTurnedSpec)) modelTurnedUptoCard

/-- THE SECOND FORM's CARD OF 'munimentlaw23.ModelCounts'. -/
def modelCountsUptoCard : Claim7 := { stood := { row := modelCountsUptoRow, standIns := [], harness := (true, "ee4380a8fe37f99f39af67c4f09504c22d45fce55a6dfc5e3c55af83c622e1c4"), looks := false }, kinds := [], alts := [], laidByText := true, laidKinds := [.data], laidTests := true, laidLooks := .later }
def ModelCountsUptoCardSaid : Prop := Claim7.holds Tryz.pinned (.plain (OpenSpec.upto modelCountsSpec)) modelCountsUptoCard

/-- THE SECOND FORM's CARD OF 'munimentlaw23.ModelPlays'. -/
def modelPlaysUptoCard : Claim7 := { stood := { row := modelPlaysUptoRow, standIns := [], harness := (true, "ee4380a8fe37f99f39af67c4f09504c22d45fce55a6dfc5e3c55af83c622e1c4"), looks := false }, kinds := [], alts := [], laidByText := true, laidKinds := [.data], laidTests := true, laidLooks := .later }
def ModelPlaysUptoCardSaid : Prop := Claim7.holds Tryz.pinned (.plain (OpenSpec.upto modelPlaysSpec)) modelPlaysUptoCard

/-- THE SECOND FORM's CARD OF 'munimentlaw23.ModelClones'. -/
def modelClonesUptoCard : Claim7 := { stood := { row := modelClonesUptoRow, standIns := [], harness := (true, "ee4380a8fe37f99f39af67c4f09504c22d45fce55a6dfc5e3c55af83c622e1c4"), looks := false }, kinds := [], alts := [], laidByText := true, laidKinds := [.data], laidTests := true, laidLooks := .later }
def ModelClonesUptoCardSaid : Prop := Claim7.holds Tryz.pinned (.plain (OpenSpec.upto modelClonesSpec)) modelClonesUptoCard

/-- THE SECOND FORM's CARD OF 'munimentlaw23.ModelKeeps'. -/
def modelKeepsUptoCard : Claim7 := { stood := { row := modelKeepsUptoRow, standIns := [], harness := (true, "ee4380a8fe37f99f39af67c4f09504c22d45fce55a6dfc5e3c55af83c622e1c4"), looks := false }, kinds := [], alts := [], laidByText := true, laidKinds := [.data], laidTests := true, laidLooks := .later }
def ModelKeepsUptoCardSaid : Prop := Claim7.holds Tryz.pinned (.plain (OpenSpec.upto modelKeepsSpec)) modelKeepsUptoCard
end Rows
end Go.Proofs.YtegkejcglfgpmaaGreatDoor
