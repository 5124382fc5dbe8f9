/-
  DERIVED. GIVEN WITH THE SEED: THE CARDS: each row of YtkjlafiefgbjpaaDoorRows.lean that lists a variable, with what it lists TIED to the program's text (the seventh form; the later family's looks); each row that meets fmt, with fmt's text TOLD by the authors' own Lean function (tested against real Go, not proved from fmt's source: count such statements apart). THE CARD IS WHAT COUNTS. Prove the row's statement (the work); the ties are given (YtkjlafiefgbjpaaDoorTie.lean); close each card by the builder's one call (the guide's Derived/Test/ToyasCard.lean, 'card_holds'). Laid BY PROGRAM, IN A SANDBOX (cutbox-door.mjs). By AI agents, Wed Nov 11 2026. No macro, syntax, notation, axiom, sorry.
-/
import Derived.Test.YtkjlafiefgbjpaaDoorRows
import GoSem.ClaimSeven
namespace Go.Proofs.YtkjlafiefgbjpaaDoor
namespace Rows

/-- THE TIED CARD OF 'munimentlaw07.ChunkCuts'. -/
def chunkCutsCard : Claim7 := { stood := { row := chunkCutsRow, standIns := [], harness := (true, "e7db1b85d14d9c36076f77cbec2baa57e488ffc3a54c70d51ada5ecb6779bbcb"), looks := false }, kinds := [], alts := [], laidByText := true, laidKinds := [.data], laidTests := true, laidLooks := .later }
def ChunkCutsCardSaid : Prop := Claim7.holds Tryd.pinned (.plain (OpenSpec.ofChange chunkCutsSpec)) chunkCutsCard

/-- THE TIED CARD OF 'munimentlaw07.ChunkChecks'. -/
def chunkChecksCard : Claim7 := { stood := { row := chunkChecksRow, standIns := [], harness := (true, "e7db1b85d14d9c36076f77cbec2baa57e488ffc3a54c70d51ada5ecb6779bbcb"), looks := false }, kinds := [], alts := [], laidByText := true, laidKinds := [.data], laidTests := true, laidLooks := .later }
def ChunkChecksCardSaid : Prop := Claim7.holds Tryd.pinned (.plain (OpenSpec.ofChange chunkChecksSpec)) chunkChecksCard

/-- THE TIED CARD OF 'munimentlaw07.ChunkWhole'. -/
def chunkWholeCard : Claim7 := { stood := { row := chunkWholeRow, standIns := [], harness := (true, "e7db1b85d14d9c36076f77cbec2baa57e488ffc3a54c70d51ada5ecb6779bbcb"), looks := false }, kinds := [], alts := [], laidByText := true, laidKinds := [.data], laidTests := true, laidLooks := .later }
def ChunkWholeCardSaid : Prop := Claim7.holds Tryd.pinned (.plain (OpenSpec.ofChange chunkWholeSpec)) chunkWholeCard

/-- THE TIED CARD OF 'munimentlaw07.ChunkBinds'. -/
def chunkBindsCard : Claim7 := { stood := { row := chunkBindsRow, standIns := [], harness := (true, "e7db1b85d14d9c36076f77cbec2baa57e488ffc3a54c70d51ada5ecb6779bbcb"), looks := false }, kinds := [], alts := [], laidByText := true, laidKinds := [.data], laidTests := true, laidLooks := .later }
def ChunkBindsCardSaid : Prop := Claim7.holds Tryd.pinned (.plain (OpenSpec.ofChange chunkBindsSpec)) chunkBindsCard

/-- THE SECOND FORM's CARD OF 'munimentlaw07.ChunkCuts'. -/
def chunkCutsUptoCard : Claim7 := { stood := { row := chunkCutsUptoRow, standIns := [], harness := (true, "e7db1b85d14d9c36076f77cbec2baa57e488ffc3a54c70d51ada5ecb6779bbcb"), looks := false }, kinds := [], alts := [], laidByText := true, laidKinds := [.data], laidTests := true, laidLooks := .later }
def ChunkCutsUptoCardSaid : Prop := Claim7.holds Tryd.pinned (.plain (OpenSpec.upto chunkCutsSpec)) chunkCutsUptoCard

/-- THE SECOND FORM's CARD OF 'munimentlaw07.ChunkChecks'. -/
def chunkChecksUptoCard : Claim7 := { stood := { row := chunkChecksUptoRow, standIns := [], harness := (true, "e7db1b85d14d9c36076f77cbec2baa57e488ffc3a54c70d51ada5ecb6779bbcb"), looks := false }, kinds := [], alts := [], laidByText := true, laidKinds := [.data], laidTests := true, laidLooks := .later }
def ChunkChecksUptoCardSaid : Prop := Claim7.holds Tryd.pinned (.plain (OpenSpec.upto chunkChecksSpec)) chunkChecksUptoCard

/-- THE SECOND FORM's CARD OF 'munimentlaw07.ChunkWhole'. -/
def chunkWholeUptoCard : Claim7 := { stood := { row := chunkWholeUptoRow, standIns := [], harness := (true, "e7db1b85d14d9c36076f77cbec2baa57e488ffc3a54c70d51ada5ecb6779bbcb"), looks := false }, kinds := [], alts := [], laidByText := true, laidKinds := [.data], laidTests := true, laidLooks := .later }
def ChunkWholeUptoCardSaid : Prop := Claim7.holds Tryd.pinned (.plain (OpenSpec.upto chunkWholeSpec)) chunkWholeUptoCard

/-- THE SECOND FORM's CARD OF 'munimentlaw07.ChunkBinds'. -/
def chunkBindsUptoCard : Claim7 := { stood := { row := chunkBindsUptoRow, standIns := [], harness := (true, "e7db1b85d14d9c36076f77cbec2baa57e488ffc3a54c70d51ada5ecb6779bbcb"), looks := false }, kinds := [], alts := [], laidByText := true, laidKinds := [.data], laidTests := true, laidLooks := .later }
def ChunkBindsUptoCardSaid : Prop := Claim7.holds Tryd.pinned (.plain (OpenSpec.upto chunkBindsSpec)) chunkBindsUptoCard
end Rows
end Go.Proofs.YtkjlafiefgbjpaaDoor
