/-
  DERIVED. GIVEN WITH THE SEED: THE CARDS: each row of YtegkejcglfgpmaaDoorRows.lean that lists a variable, with what it lists TIED to the program's text (the seventh form; the later family's looks); each row that meets fmt, with fmt's text TOLD by the authors' own Lean function (tested against real Go, not proved from fmt's source: count such statements apart). THE CARD IS WHAT COUNTS. Prove the row's statement (the work); the ties are given (YtegkejcglfgpmaaDoorTie.lean); close each card by the builder's one call (the guide's Derived/Test/ToyasCard.lean, 'card_holds'). Laid BY PROGRAM, IN A SANDBOX (cutbox-door.mjs). By AI agents, Wed Nov 11 2026. No macro, syntax, notation, axiom, sorry.
-/
import Derived.Test.YtegkejcglfgpmaaDoorRows
import GoSem.ClaimSeven
namespace Go.Proofs.YtegkejcglfgpmaaDoor
namespace Rows

/-- THE TIED CARD OF 'munimentlaw23.ModelApart'. -/
def modelApartCard : Claim7 := { stood := { row := modelApartRow, standIns := [], harness := (true, "7491e2250a592d96eb22901694a247a0aea83910bd96adc50f68b510e9a71d56"), looks := false }, kinds := [], alts := [], laidByText := true, laidKinds := [.data], laidTests := true, laidLooks := .later }
def ModelApartCardSaid : Prop := Claim7.holds Tryd.pinned (.plain (OpenSpec.ofChange modelApartSpec)) modelApartCard

/-- THE TIED CARD OF 'munimentlaw23.ModelAsks'. -/
def modelAsksCard : Claim7 := { stood := { row := modelAsksRow, standIns := [], harness := (true, "7491e2250a592d96eb22901694a247a0aea83910bd96adc50f68b510e9a71d56"), looks := false }, kinds := [], alts := [], laidByText := true, laidKinds := [.data], laidTests := true, laidLooks := .later }
def ModelAsksCardSaid : Prop := Claim7.holds Tryd.pinned (.plain (OpenSpec.ofChange modelAsksSpec)) modelAsksCard

/-- THE SECOND FORM's CARD OF 'munimentlaw23.ModelApart'. -/
def modelApartUptoCard : Claim7 := { stood := { row := modelApartUptoRow, standIns := [], harness := (true, "7491e2250a592d96eb22901694a247a0aea83910bd96adc50f68b510e9a71d56"), looks := false }, kinds := [], alts := [], laidByText := true, laidKinds := [.data], laidTests := true, laidLooks := .later }
def ModelApartUptoCardSaid : Prop := Claim7.holds Tryd.pinned (.plain (OpenSpec.upto modelApartSpec)) modelApartUptoCard

/-- THE SECOND FORM's CARD OF 'munimentlaw23.ModelAsks'. -/
def modelAsksUptoCard : Claim7 := { stood := { row := modelAsksUptoRow, standIns := [], harness := (true, "7491e2250a592d96eb22901694a247a0aea83910bd96adc50f68b510e9a71d56"), looks := false }, kinds := [], alts := [], laidByText := true, laidKinds := [.data], laidTests := true, laidLooks := .later }
def ModelAsksUptoCardSaid : Prop := Claim7.holds Tryd.pinned (.plain (OpenSpec.upto modelAsksSpec)) modelAsksUptoCard
end Rows
end Go.Proofs.YtegkejcglfgpmaaDoor
