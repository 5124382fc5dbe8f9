/-
  NARROWER THAN 'FOR EVERY INPUT', by the rows' own cells (each row's printed sentence says how): VerifyInclusion: laid · VerifyConsistency: laid · VerifyForged: laid · VerifyBegins: laid · VerifyProved: laid · VerifyOne: laid · VerifyGrows: laid.
  DERIVED. THE GIVEN ROWS OF THIS SEAT. 7 by the template 'for every input the law returns true; each argument reads behind the call as it read before'; 0 by the template 'total and deterministic' (their statements: YteinikjbaaembaaDoorTotals.lean).
  GIVEN WITH THE SEED: the statements are not yours to turn. If you find one false, say at which input.
  Laid BY PROGRAM, IN A SANDBOX (cutbox-rows.mjs): the forced cells as the released guide's own fill.sh prints them over the translation cddd8d4702773d77… (all of the seat's roots in one cut). By AI agents, Wed Nov 11 2026. No macro, syntax, notation, axiom, sorry.
-/
import Derived.Test.YteinikjbaaembaaDoorChecked
import GoSem.Claim
import GoSem.ClaimJoined
import GoSem.ClaimMapViews
import Derived.JoinedTies
import Derived.KernelRfl
namespace Go.Proofs.YteinikjbaaembaaDoor
/- THE CELL 'sum', in the pinned program and in every row, IS THE sha256 OF THE DUMP (.gsa) THAT YteinikjbaaembaaDoorProg.lean LOADS. Nothing in Lean hashes anything: it is a label: what it is worth is what the hold of that sum in a sandbox is worth. -/
noncomputable def Tryd.pinned : Pinned := { name := "yteinikjbaaembaadoor", sum := "cddd8d4702773d77cc2858427d404280c97280c974c913242c9a6d13c3dda7d4", checked := Tryd.checked }
namespace Rows
def none {H : Type} : Left H := { results := [], args := [] }

/- WHAT THE LISTED PACKAGE-LEVEL VARIABLES READ AS WHEN THE CALL BEGINS. Each datum BY PROGRAM (the guide's laid-datum.mjs) off the statement by which the dump's own 'gosem.cut.vars' lays the variable. In a bare row this is a premise. The card (YteinikjbaaembaaDoorCards.lean) ties it to the program's text. -/
def laid_muniment_sha_k {H : Type} : DataW H := .agg [.lit (.int .u32 1116352408), .lit (.int .u32 1899447441), .lit (.int .u32 3049323471), .lit (.int .u32 3921009573), .lit (.int .u32 961987163), .lit (.int .u32 1508970993), .lit (.int .u32 2453635748), .lit (.int .u32 2870763221), .lit (.int .u32 3624381080), .lit (.int .u32 310598401), .lit (.int .u32 607225278), .lit (.int .u32 1426881987), .lit (.int .u32 1925078388), .lit (.int .u32 2162078206), .lit (.int .u32 2614888103), .lit (.int .u32 3248222580), .lit (.int .u32 3835390401), .lit (.int .u32 4022224774), .lit (.int .u32 264347078), .lit (.int .u32 604807628), .lit (.int .u32 770255983), .lit (.int .u32 1249150122), .lit (.int .u32 1555081692), .lit (.int .u32 1996064986), .lit (.int .u32 2554220882), .lit (.int .u32 2821834349), .lit (.int .u32 2952996808), .lit (.int .u32 3210313671), .lit (.int .u32 3336571891), .lit (.int .u32 3584528711), .lit (.int .u32 113926993), .lit (.int .u32 338241895), .lit (.int .u32 666307205), .lit (.int .u32 773529912), .lit (.int .u32 1294757372), .lit (.int .u32 1396182291), .lit (.int .u32 1695183700), .lit (.int .u32 1986661051), .lit (.int .u32 2177026350), .lit (.int .u32 2456956037), .lit (.int .u32 2730485921), .lit (.int .u32 2820302411), .lit (.int .u32 3259730800), .lit (.int .u32 3345764771), .lit (.int .u32 3516065817), .lit (.int .u32 3600352804), .lit (.int .u32 4094571909), .lit (.int .u32 275423344), .lit (.int .u32 430227734), .lit (.int .u32 506948616), .lit (.int .u32 659060556), .lit (.int .u32 883997877), .lit (.int .u32 958139571), .lit (.int .u32 1322822218), .lit (.int .u32 1537002063), .lit (.int .u32 1747873779), .lit (.int .u32 1955562222), .lit (.int .u32 2024104815), .lit (.int .u32 2227730452), .lit (.int .u32 2361852424), .lit (.int .u32 2428436474), .lit (.int .u32 2756734187), .lit (.int .u32 3204031479), .lit (.int .u32 3329325298)]

/-- 'munimentlaw06.VerifyInclusion': WHATEVER THE INPUT: true; the input reads as it did. -/
def verifyInclusionSpec : ChangeSpec := { name := "verifyInclusion", fn := fun _ => fun
  | [d] => { results := [.lit (.bool true)], args := [d] }
  | _ => none }
def verifyInclusionRow : OpenClaim := { program := "yteinikjbaaembaadoor", sum := "cddd8d4702773d77cc2858427d404280c97280c974c913242c9a6d13c3dda7d4", func := "muniment/munimentlaw06.VerifyInclusion", spec := "verifyInclusion", unfollowed := true, recurses := true, named := ["muniment/sha.k"], apart := false, laid := [("muniment/sha.k", laid_muniment_sha_k)] }
def VerifyInclusionSaid : Prop := verifyInclusionRow.holds Tryd.pinned (OpenSpec.ofChange verifyInclusionSpec)

/-- ITS FALSE NEIGHBOUR: 'it returns false'. Refute it at one input. -/
def verifyInclusionWrong : ChangeSpec := { name := "verifyInclusion", fn := fun _ => fun
  | [d] => { results := [.lit (.bool false)], args := [d] }
  | _ => none }
def VerifyInclusionWrongFalsely : Prop := verifyInclusionRow.holds Tryd.pinned (OpenSpec.ofChange verifyInclusionWrong)

/-- 'munimentlaw06.VerifyConsistency': WHATEVER THE INPUT: true; the input reads as it did. -/
def verifyConsistencySpec : ChangeSpec := { name := "verifyConsistency", fn := fun _ => fun
  | [d] => { results := [.lit (.bool true)], args := [d] }
  | _ => none }
def verifyConsistencyRow : OpenClaim := { program := "yteinikjbaaembaadoor", sum := "cddd8d4702773d77cc2858427d404280c97280c974c913242c9a6d13c3dda7d4", func := "muniment/munimentlaw06.VerifyConsistency", spec := "verifyConsistency", unfollowed := true, recurses := true, named := ["muniment/sha.k"], apart := false, laid := [("muniment/sha.k", laid_muniment_sha_k)] }
def VerifyConsistencySaid : Prop := verifyConsistencyRow.holds Tryd.pinned (OpenSpec.ofChange verifyConsistencySpec)

/-- ITS FALSE NEIGHBOUR: 'it returns false'. Refute it at one input. -/
def verifyConsistencyWrong : ChangeSpec := { name := "verifyConsistency", fn := fun _ => fun
  | [d] => { results := [.lit (.bool false)], args := [d] }
  | _ => none }
def VerifyConsistencyWrongFalsely : Prop := verifyConsistencyRow.holds Tryd.pinned (OpenSpec.ofChange verifyConsistencyWrong)

/-- 'munimentlaw06.VerifyForged': WHATEVER THE INPUT: true; the input reads as it did. -/
def verifyForgedSpec : ChangeSpec := { name := "verifyForged", fn := fun _ => fun
  | [d1, d2, d3, d4] => { results := [.lit (.bool true)], args := [d1, d2, d3, d4] }
  | _ => none }
def verifyForgedRow : OpenClaim := { program := "yteinikjbaaembaadoor", sum := "cddd8d4702773d77cc2858427d404280c97280c974c913242c9a6d13c3dda7d4", func := "muniment/munimentlaw06.VerifyForged", spec := "verifyForged", unfollowed := true, recurses := true, named := ["muniment/sha.k"], apart := false, laid := [("muniment/sha.k", laid_muniment_sha_k)] }
def VerifyForgedSaid : Prop := verifyForgedRow.holds Tryd.pinned (OpenSpec.ofChange verifyForgedSpec)

/-- ITS FALSE NEIGHBOUR: 'it returns false'. Refute it at one input. -/
def verifyForgedWrong : ChangeSpec := { name := "verifyForged", fn := fun _ => fun
  | [d1, d2, d3, d4] => { results := [.lit (.bool false)], args := [d1, d2, d3, d4] }
  | _ => none }
def VerifyForgedWrongFalsely : Prop := verifyForgedRow.holds Tryd.pinned (OpenSpec.ofChange verifyForgedWrong)

/-- 'munimentlaw06.VerifyBegins': WHATEVER THE INPUT: true; the input reads as it did. -/
def verifyBeginsSpec : ChangeSpec := { name := "verifyBegins", fn := fun _ => fun
  | [d1, d2, d3, d4] => { results := [.lit (.bool true)], args := [d1, d2, d3, d4] }
  | _ => none }
def verifyBeginsRow : OpenClaim := { program := "yteinikjbaaembaadoor", sum := "cddd8d4702773d77cc2858427d404280c97280c974c913242c9a6d13c3dda7d4", func := "muniment/munimentlaw06.VerifyBegins", spec := "verifyBegins", unfollowed := true, recurses := true, named := ["muniment/sha.k"], apart := false, laid := [("muniment/sha.k", laid_muniment_sha_k)] }
def VerifyBeginsSaid : Prop := verifyBeginsRow.holds Tryd.pinned (OpenSpec.ofChange verifyBeginsSpec)

/-- ITS FALSE NEIGHBOUR: 'it returns false'. Refute it at one input. -/
def verifyBeginsWrong : ChangeSpec := { name := "verifyBegins", fn := fun _ => fun
  | [d1, d2, d3, d4] => { results := [.lit (.bool false)], args := [d1, d2, d3, d4] }
  | _ => none }
def VerifyBeginsWrongFalsely : Prop := verifyBeginsRow.holds Tryd.pinned (OpenSpec.ofChange verifyBeginsWrong)

/-- 'munimentlaw06.VerifyProved': WHATEVER THE INPUT: true; the input reads as it did. -/
def verifyProvedSpec : ChangeSpec := { name := "verifyProved", fn := fun _ => fun
  | [d1, d2] => { results := [.lit (.bool true)], args := [d1, d2] }
  | _ => none }
def verifyProvedRow : OpenClaim := { program := "yteinikjbaaembaadoor", sum := "cddd8d4702773d77cc2858427d404280c97280c974c913242c9a6d13c3dda7d4", func := "muniment/munimentlaw06.VerifyProved", spec := "verifyProved", unfollowed := true, recurses := true, named := ["muniment/sha.k"], apart := false, laid := [("muniment/sha.k", laid_muniment_sha_k)] }
def VerifyProvedSaid : Prop := verifyProvedRow.holds Tryd.pinned (OpenSpec.ofChange verifyProvedSpec)

/-- ITS FALSE NEIGHBOUR: 'it returns false'. Refute it at one input. -/
def verifyProvedWrong : ChangeSpec := { name := "verifyProved", fn := fun _ => fun
  | [d1, d2] => { results := [.lit (.bool false)], args := [d1, d2] }
  | _ => none }
def VerifyProvedWrongFalsely : Prop := verifyProvedRow.holds Tryd.pinned (OpenSpec.ofChange verifyProvedWrong)

/-- 'munimentlaw06.VerifyOne': WHATEVER THE INPUT: true; the input reads as it did. -/
def verifyOneSpec : ChangeSpec := { name := "verifyOne", fn := fun _ => fun
  | [d1, d2, d3] => { results := [.lit (.bool true)], args := [d1, d2, d3] }
  | _ => none }
def verifyOneRow : OpenClaim := { program := "yteinikjbaaembaadoor", sum := "cddd8d4702773d77cc2858427d404280c97280c974c913242c9a6d13c3dda7d4", func := "muniment/munimentlaw06.VerifyOne", spec := "verifyOne", unfollowed := true, recurses := true, named := ["muniment/sha.k"], apart := false, laid := [("muniment/sha.k", laid_muniment_sha_k)] }
def VerifyOneSaid : Prop := verifyOneRow.holds Tryd.pinned (OpenSpec.ofChange verifyOneSpec)

/-- ITS FALSE NEIGHBOUR: 'it returns false'. Refute it at one input. -/
def verifyOneWrong : ChangeSpec := { name := "verifyOne", fn := fun _ => fun
  | [d1, d2, d3] => { results := [.lit (.bool false)], args := [d1, d2, d3] }
  | _ => none }
def VerifyOneWrongFalsely : Prop := verifyOneRow.holds Tryd.pinned (OpenSpec.ofChange verifyOneWrong)

/-- 'munimentlaw06.VerifyGrows': WHATEVER THE INPUT: true; the input reads as it did. -/
def verifyGrowsSpec : ChangeSpec := { name := "verifyGrows", fn := fun _ => fun
  | [d] => { results := [.lit (.bool true)], args := [d] }
  | _ => none }
def verifyGrowsRow : OpenClaim := { program := "yteinikjbaaembaadoor", sum := "cddd8d4702773d77cc2858427d404280c97280c974c913242c9a6d13c3dda7d4", func := "muniment/munimentlaw06.VerifyGrows", spec := "verifyGrows", unfollowed := true, recurses := true, named := ["muniment/sha.k"], apart := false, laid := [("muniment/sha.k", laid_muniment_sha_k)] }
def VerifyGrowsSaid : Prop := verifyGrowsRow.holds Tryd.pinned (OpenSpec.ofChange verifyGrowsSpec)

/-- ITS FALSE NEIGHBOUR: 'it returns false'. Refute it at one input. -/
def verifyGrowsWrong : ChangeSpec := { name := "verifyGrows", fn := fun _ => fun
  | [d] => { results := [.lit (.bool false)], args := [d] }
  | _ => none }
def VerifyGrowsWrongFalsely : Prop := verifyGrowsRow.holds Tryd.pinned (OpenSpec.ofChange verifyGrowsWrong)

/- THE SECOND FORM. 'bulk': how many values and letters a reading holds, each counted each time it is reached (what is shared counts as often as it is met; a slice's spare places count too). A statement '..UptoSaid' is the law's where the arguments, and the package variables that the reading takes, are together of bulk at most 1048576: NARROWER than '..Said'. Prove '..Said' where nothing that the law and all that it calls make is longer than what came in: it says more and counts as full. Else prove '..UptoSaid'. A law counts once. -/
mutual
def uptoBulk {H : Type} : DataW H → Nat
  | .lit (.string bytes) => bytes.length + 1
  | .lit _ => 1
  | .nil => 1
  | .ptr d => uptoBulk d + 1
  | .slice elems spare => uptoBulkAll elems + uptoBulkAll spare + 1
  | .agg parts => uptoBulkAll parts + 1
  | .iface _ d => uptoBulk d + 1
  | .map entries => uptoBulkEntries entries + 1
  | .held _ => 1
def uptoBulkAll {H : Type} : List (DataW H) → Nat
  | [] => 0
  | d :: r => uptoBulk d + uptoBulkAll r
def uptoBulkEntries {H : Type} : List (Lit × DataW H) → Nat
  | [] => 0
  | x :: r => uptoBulkEntry x + uptoBulkEntries r
def uptoBulkEntry {H : Type} : Lit × DataW H → Nat
  | (.string bytes, d) => bytes.length + uptoBulk d + 1
  | (_, d) => uptoBulk d + 1
 end
def uptoSmall : (H : Type) → List (DataW H) → Bool := fun _ ds => decide (uptoBulkAll ds ≤ 1048576)
def OpenSpec.upto (s : _root_.Go.ChangeSpec) : _root_.Go.OpenSpec := { _root_.Go.OpenSpec.ofChange s with cond := some uptoSmall }

/-- 'munimentlaw06.VerifyInclusion', WHERE WHAT IT READS IS OF BULK AT MOST 1048576: true; the input reads as it did. -/
def verifyInclusionUptoRow : OpenClaim := { program := "yteinikjbaaembaadoor", sum := "cddd8d4702773d77cc2858427d404280c97280c974c913242c9a6d13c3dda7d4", func := "muniment/munimentlaw06.VerifyInclusion", spec := "verifyInclusion", unfollowed := true, recurses := true, named := ["muniment/sha.k"], apart := false, laid := [("muniment/sha.k", laid_muniment_sha_k)], narrowed := true }
def VerifyInclusionUptoSaid : Prop := verifyInclusionUptoRow.holds Tryd.pinned (OpenSpec.upto verifyInclusionSpec)

/-- 'munimentlaw06.VerifyConsistency', WHERE WHAT IT READS IS OF BULK AT MOST 1048576: true; the input reads as it did. -/
def verifyConsistencyUptoRow : OpenClaim := { program := "yteinikjbaaembaadoor", sum := "cddd8d4702773d77cc2858427d404280c97280c974c913242c9a6d13c3dda7d4", func := "muniment/munimentlaw06.VerifyConsistency", spec := "verifyConsistency", unfollowed := true, recurses := true, named := ["muniment/sha.k"], apart := false, laid := [("muniment/sha.k", laid_muniment_sha_k)], narrowed := true }
def VerifyConsistencyUptoSaid : Prop := verifyConsistencyUptoRow.holds Tryd.pinned (OpenSpec.upto verifyConsistencySpec)

/-- 'munimentlaw06.VerifyForged', WHERE WHAT IT READS IS OF BULK AT MOST 1048576: true; the input reads as it did. -/
def verifyForgedUptoRow : OpenClaim := { program := "yteinikjbaaembaadoor", sum := "cddd8d4702773d77cc2858427d404280c97280c974c913242c9a6d13c3dda7d4", func := "muniment/munimentlaw06.VerifyForged", spec := "verifyForged", unfollowed := true, recurses := true, named := ["muniment/sha.k"], apart := false, laid := [("muniment/sha.k", laid_muniment_sha_k)], narrowed := true }
def VerifyForgedUptoSaid : Prop := verifyForgedUptoRow.holds Tryd.pinned (OpenSpec.upto verifyForgedSpec)

/-- 'munimentlaw06.VerifyBegins', WHERE WHAT IT READS IS OF BULK AT MOST 1048576: true; the input reads as it did. -/
def verifyBeginsUptoRow : OpenClaim := { program := "yteinikjbaaembaadoor", sum := "cddd8d4702773d77cc2858427d404280c97280c974c913242c9a6d13c3dda7d4", func := "muniment/munimentlaw06.VerifyBegins", spec := "verifyBegins", unfollowed := true, recurses := true, named := ["muniment/sha.k"], apart := false, laid := [("muniment/sha.k", laid_muniment_sha_k)], narrowed := true }
def VerifyBeginsUptoSaid : Prop := verifyBeginsUptoRow.holds Tryd.pinned (OpenSpec.upto verifyBeginsSpec)

/-- 'munimentlaw06.VerifyProved', WHERE WHAT IT READS IS OF BULK AT MOST 1048576: true; the input reads as it did. -/
def verifyProvedUptoRow : OpenClaim := { program := "yteinikjbaaembaadoor", sum := "cddd8d4702773d77cc2858427d404280c97280c974c913242c9a6d13c3dda7d4", func := "muniment/munimentlaw06.VerifyProved", spec := "verifyProved", unfollowed := true, recurses := true, named := ["muniment/sha.k"], apart := false, laid := [("muniment/sha.k", laid_muniment_sha_k)], narrowed := true }
def VerifyProvedUptoSaid : Prop := verifyProvedUptoRow.holds Tryd.pinned (OpenSpec.upto verifyProvedSpec)

/-- 'munimentlaw06.VerifyOne', WHERE WHAT IT READS IS OF BULK AT MOST 1048576: true; the input reads as it did. -/
def verifyOneUptoRow : OpenClaim := { program := "yteinikjbaaembaadoor", sum := "cddd8d4702773d77cc2858427d404280c97280c974c913242c9a6d13c3dda7d4", func := "muniment/munimentlaw06.VerifyOne", spec := "verifyOne", unfollowed := true, recurses := true, named := ["muniment/sha.k"], apart := false, laid := [("muniment/sha.k", laid_muniment_sha_k)], narrowed := true }
def VerifyOneUptoSaid : Prop := verifyOneUptoRow.holds Tryd.pinned (OpenSpec.upto verifyOneSpec)

/-- 'munimentlaw06.VerifyGrows', WHERE WHAT IT READS IS OF BULK AT MOST 1048576: true; the input reads as it did. -/
def verifyGrowsUptoRow : OpenClaim := { program := "yteinikjbaaembaadoor", sum := "cddd8d4702773d77cc2858427d404280c97280c974c913242c9a6d13c3dda7d4", func := "muniment/munimentlaw06.VerifyGrows", spec := "verifyGrows", unfollowed := true, recurses := true, named := ["muniment/sha.k"], apart := false, laid := [("muniment/sha.k", laid_muniment_sha_k)], narrowed := true }
def VerifyGrowsUptoSaid : Prop := verifyGrowsUptoRow.holds Tryd.pinned (OpenSpec.upto verifyGrowsSpec)

end Rows
end Go.Proofs.YteinikjbaaembaaDoor
