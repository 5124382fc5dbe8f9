/-
  DERIVED. GIVEN WITH THE SEED: THE CARDS: each row of YteinikjbaaembaaDoorRows.lean that lists a variable, with what it lists TIED to the program's text (the seventh form; the later family's looks); each row that meets fmt, with fmt's text TOLD by the authors' own Lean function (tested against real Go, not proved from fmt's source: count such statements apart). THE CARD IS WHAT COUNTS. Prove the row's statement (the work); the ties are given (YteinikjbaaembaaDoorTie.lean); close each card by the builder's one call (the guide's Derived/Test/ToyasCard.lean, 'card_holds'). Laid BY PROGRAM, IN A SANDBOX (cutbox-door.mjs). By AI agents, Wed Nov 11 2026. No macro, syntax, notation, axiom, sorry.
-/
import Derived.Test.YteinikjbaaembaaDoorRows
import GoSem.ClaimSeven
namespace Go.Proofs.YteinikjbaaembaaDoor
namespace Rows

/-- THE TIED CARD OF 'munimentlaw06.VerifyInclusion'. -/
def verifyInclusionCard : Claim7 := { stood := { row := verifyInclusionRow, standIns := [], harness := (true, "d971c1bc327cce861900aaa02f23672e0d1e0226efb51ca35c7ece04ff6c0295"), looks := false }, kinds := [], alts := [], laidByText := true, laidKinds := [.data], laidTests := true, laidLooks := .later }
def VerifyInclusionCardSaid : Prop := Claim7.holds Tryd.pinned (.plain (OpenSpec.ofChange verifyInclusionSpec)) verifyInclusionCard

/-- THE TIED CARD OF 'munimentlaw06.VerifyConsistency'. -/
def verifyConsistencyCard : Claim7 := { stood := { row := verifyConsistencyRow, standIns := [], harness := (true, "d971c1bc327cce861900aaa02f23672e0d1e0226efb51ca35c7ece04ff6c0295"), looks := false }, kinds := [], alts := [], laidByText := true, laidKinds := [.data], laidTests := true, laidLooks := .later }
def VerifyConsistencyCardSaid : Prop := Claim7.holds Tryd.pinned (.plain (OpenSpec.ofChange verifyConsistencySpec)) verifyConsistencyCard

/-- THE TIED CARD OF 'munimentlaw06.VerifyForged'. -/
def verifyForgedCard : Claim7 := { stood := { row := verifyForgedRow, standIns := [], harness := (true, "d971c1bc327cce861900aaa02f23672e0d1e0226efb51ca35c7ece04ff6c0295"), looks := false }, kinds := [], alts := [], laidByText := true, laidKinds := [.data], laidTests := true, laidLooks := .later }
def VerifyForgedCardSaid : Prop := Claim7.holds Tryd.pinned (.plain (OpenSpec.ofChange verifyForgedSpec)) verifyForgedCard

/-- THE TIED CARD OF 'munimentlaw06.VerifyBegins'. -/
def verifyBeginsCard : Claim7 := { stood := { row := verifyBeginsRow, standIns := [], harness := (true, "d971c1bc327cce861900aaa02f23672e0d1e0226efb51ca35c7ece04ff6c0295"), looks := false }, kinds := [], alts := [], laidByText := true, laidKinds := [.data], laidTests := true, laidLooks := .later }
def VerifyBeginsCardSaid : Prop := Claim7.holds Tryd.pinned (.plain (OpenSpec.ofChange verifyBeginsSpec)) verifyBeginsCard

/-- THE TIED CARD OF 'munimentlaw06.VerifyProved'. -/
def verifyProvedCard : Claim7 := { stood := { row := verifyProvedRow, standIns := [], harness := (true, "d971c1bc327cce861900aaa02f23672e0d1e0226efb51ca35c7ece04ff6c0295"), looks := false }, kinds := [], alts := [], laidByText := true, laidKinds := [.data], laidTests := true, laidLooks := .later }
def VerifyProvedCardSaid : Prop := Claim7.holds Tryd.pinned (.plain (OpenSpec.ofChange verifyProvedSpec)) verifyProvedCard

/-- THE TIED CARD OF 'munimentlaw06.VerifyOne'. -/
def verifyOneCard : Claim7 := { stood := { row := verifyOneRow, standIns := [], harness := (true, "d971c1bc327cce861900aaa02f23672e0d1e0226efb51ca35c7ece04ff6c0295"), looks := false }, kinds := [], alts := [], laidByText := true, laidKinds := [.data], laidTests := true, laidLooks := .later }
def VerifyOneCardSaid : Prop := Claim7.holds Tryd.pinned (.plain (OpenSpec.ofChange verifyOneSpec)) verifyOneCard

/-- THE TIED CARD OF 'munimentlaw06.VerifyGrows'. -/
def verifyGrowsCard : Claim7 := { stood := { row := verifyGrowsRow, standIns := [], harness := (true, "d971c1bc327cce861900aaa02f23672e0d1e0226efb51ca35c7ece04ff6c0295"), looks := false }, kinds := [], alts := [], laidByText := true, laidKinds := [.data], laidTests := true, laidLooks := .later }
def VerifyGrowsCardSaid : Prop := Claim7.holds Tryd.pinned (.plain (OpenSpec.ofChange verifyGrowsSpec)) verifyGrowsCard

/-- THE SECOND FORM's CARD OF 'munimentlaw06.VerifyInclusion'. -/
def verifyInclusionUptoCard : Claim7 := { stood := { row := verifyInclusionUptoRow, standIns := [], harness := (true, "d971c1bc327cce861900aaa02f23672e0d1e0226efb51ca35c7ece04ff6c0295"), looks := false }, kinds := [], alts := [], laidByText := true, laidKinds := [.data], laidTests := true, laidLooks := .later }
def VerifyInclusionUptoCardSaid : Prop := Claim7.holds Tryd.pinned (.plain (OpenSpec.upto verifyInclusionSpec)) verifyInclusionUptoCard

/-- THE SECOND FORM's CARD OF 'munimentlaw06.VerifyConsistency'. -/
def verifyConsistencyUptoCard : Claim7 := { stood := { row := verifyConsistencyUptoRow, standIns := [], harness := (true, "d971c1bc327cce861900aaa02f23672e0d1e0226efb51ca35c7ece04ff6c0295"), looks := false }, kinds := [], alts := [], laidByText := true, laidKinds := [.data], laidTests := true, laidLooks := .later }
def VerifyConsistencyUptoCardSaid : Prop := Claim7.holds Tryd.pinned (.plain (OpenSpec.upto verifyConsistencySpec)) verifyConsistencyUptoCard

/-- THE SECOND FORM's CARD OF 'munimentlaw06.VerifyForged'. -/
def verifyForgedUptoCard : Claim7 := { stood := { row := verifyForgedUptoRow, standIns := [], harness := (true, "d971c1bc327cce861900aaa02f23672e0d1e0226efb51ca35c7ece04ff6c0295"), looks := false }, kinds := [], alts := [], laidByText := true, laidKinds := [.data], laidTests := true, laidLooks := .later }
def VerifyForgedUptoCardSaid : Prop := Claim7.holds Tryd.pinned (.plain (OpenSpec.upto verifyForgedSpec)) verifyForgedUptoCard

/-- THE SECOND FORM's CARD OF 'munimentlaw06.VerifyBegins'. -/
def verifyBeginsUptoCard : Claim7 := { stood := { row := verifyBeginsUptoRow, standIns := [], harness := (true, "d971c1bc327cce861900aaa02f23672e0d1e0226efb51ca35c7ece04ff6c0295"), looks := false }, kinds := [], alts := [], laidByText := true, laidKinds := [.data], laidTests := true, laidLooks := .later }
def VerifyBeginsUptoCardSaid : Prop := Claim7.holds Tryd.pinned (.plain (OpenSpec.upto verifyBeginsSpec)) verifyBeginsUptoCard

/-- THE SECOND FORM's CARD OF 'munimentlaw06.VerifyProved'. -/
def verifyProvedUptoCard : Claim7 := { stood := { row := verifyProvedUptoRow, standIns := [], harness := (true, "d971c1bc327cce861900aaa02f23672e0d1e0226efb51ca35c7ece04ff6c0295"), looks := false }, kinds := [], alts := [], laidByText := true, laidKinds := [.data], laidTests := true, laidLooks := .later }
def VerifyProvedUptoCardSaid : Prop := Claim7.holds Tryd.pinned (.plain (OpenSpec.upto verifyProvedSpec)) verifyProvedUptoCard

/-- THE SECOND FORM's CARD OF 'munimentlaw06.VerifyOne'. -/
def verifyOneUptoCard : Claim7 := { stood := { row := verifyOneUptoRow, standIns := [], harness := (true, "d971c1bc327cce861900aaa02f23672e0d1e0226efb51ca35c7ece04ff6c0295"), looks := false }, kinds := [], alts := [], laidByText := true, laidKinds := [.data], laidTests := true, laidLooks := .later }
def VerifyOneUptoCardSaid : Prop := Claim7.holds Tryd.pinned (.plain (OpenSpec.upto verifyOneSpec)) verifyOneUptoCard

/-- THE SECOND FORM's CARD OF 'munimentlaw06.VerifyGrows'. -/
def verifyGrowsUptoCard : Claim7 := { stood := { row := verifyGrowsUptoRow, standIns := [], harness := (true, "d971c1bc327cce861900aaa02f23672e0d1e0226efb51ca35c7ece04ff6c0295"), looks := false }, kinds := [], alts := [], laidByText := true, laidKinds := [.data], laidTests := true, laidLooks := .later }
def VerifyGrowsUptoCardSaid : Prop := Claim7.holds Tryd.pinned (.plain (OpenSpec.upto verifyGrowsSpec)) verifyGrowsUptoCard
end Rows
end Go.Proofs.YteinikjbaaembaaDoor
