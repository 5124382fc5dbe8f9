/-
  NARROWER THAN 'FOR EVERY INPUT', by the rows' own cells (each row's printed sentence says how): ModelClean: laid · ModelTurned: laid · ModelCounts: laid · ModelPlays: laid · ModelClones: laid · ModelKeeps: laid.
  DERIVED. THE GIVEN ROWS OF THIS SEAT. 6 by the template 'for every input the law returns true; each argument reads behind the call as it read before'; 0 by the template 'total and deterministic' (their statements: YtegkejcglfgpmaaGreatDoorTotals.lean).
  GIVEN WITH THE SEED: the statements are not yours to turn. If you find one false, say at which input.
  Laid BY PROGRAM, IN A SANDBOX (cutbox-rows.mjs): the forced cells as the released guide's own fill.sh prints them over the translation f0a6eac1b6d98a88… (all of the seat's roots in one cut). By AI agents, Wed Nov 11 2026. No macro, syntax, notation, axiom, sorry.
-/
import Derived.Test.YtegkejcglfgpmaaGreatDoorChecked
import GoSem.Claim
import GoSem.ClaimJoined
import GoSem.ClaimMapViews
import Derived.JoinedTies
import Derived.KernelRfl
namespace Go.Proofs.YtegkejcglfgpmaaGreatDoor
/- THE CELL 'sum', in the pinned program and in every row, IS THE sha256 OF THE DUMP (.gsa) THAT YtegkejcglfgpmaaGreatDoorProg.lean LOADS. Nothing in Lean hashes anything: it is a label: what it is worth is what the hold of that sum in a sandbox is worth. -/
noncomputable def Tryz.pinned : Pinned := { name := "ytegkejcglfgpmaagreatdoor", sum := "f0a6eac1b6d98a88b88b67c934f8a554e6d1699d6815e52bcc98fd652e0b0f02", checked := Tryz.checked }
namespace Rows
def none {H : Type} : Left H := { results := [], args := [] }

/- WHAT THE LISTED PACKAGE-LEVEL VARIABLES READ AS WHEN THE CALL BEGINS. Each datum BY PROGRAM (the guide's laid-datum.mjs) off the statement by which the dump's own 'gosem.cut.vars' lays the variable. In a bare row this is a premise. The card (YtegkejcglfgpmaaGreatDoorCards.lean) ties it to the program's text. -/
def laid_muniment_sha_k {H : Type} : DataW H := .agg [.lit (.int .u32 1116352408), .lit (.int .u32 1899447441), .lit (.int .u32 3049323471), .lit (.int .u32 3921009573), .lit (.int .u32 961987163), .lit (.int .u32 1508970993), .lit (.int .u32 2453635748), .lit (.int .u32 2870763221), .lit (.int .u32 3624381080), .lit (.int .u32 310598401), .lit (.int .u32 607225278), .lit (.int .u32 1426881987), .lit (.int .u32 1925078388), .lit (.int .u32 2162078206), .lit (.int .u32 2614888103), .lit (.int .u32 3248222580), .lit (.int .u32 3835390401), .lit (.int .u32 4022224774), .lit (.int .u32 264347078), .lit (.int .u32 604807628), .lit (.int .u32 770255983), .lit (.int .u32 1249150122), .lit (.int .u32 1555081692), .lit (.int .u32 1996064986), .lit (.int .u32 2554220882), .lit (.int .u32 2821834349), .lit (.int .u32 2952996808), .lit (.int .u32 3210313671), .lit (.int .u32 3336571891), .lit (.int .u32 3584528711), .lit (.int .u32 113926993), .lit (.int .u32 338241895), .lit (.int .u32 666307205), .lit (.int .u32 773529912), .lit (.int .u32 1294757372), .lit (.int .u32 1396182291), .lit (.int .u32 1695183700), .lit (.int .u32 1986661051), .lit (.int .u32 2177026350), .lit (.int .u32 2456956037), .lit (.int .u32 2730485921), .lit (.int .u32 2820302411), .lit (.int .u32 3259730800), .lit (.int .u32 3345764771), .lit (.int .u32 3516065817), .lit (.int .u32 3600352804), .lit (.int .u32 4094571909), .lit (.int .u32 275423344), .lit (.int .u32 430227734), .lit (.int .u32 506948616), .lit (.int .u32 659060556), .lit (.int .u32 883997877), .lit (.int .u32 958139571), .lit (.int .u32 1322822218), .lit (.int .u32 1537002063), .lit (.int .u32 1747873779), .lit (.int .u32 1955562222), .lit (.int .u32 2024104815), .lit (.int .u32 2227730452), .lit (.int .u32 2361852424), .lit (.int .u32 2428436474), .lit (.int .u32 2756734187), .lit (.int .u32 3204031479), .lit (.int .u32 3329325298)]

/-- 'munimentlaw23.ModelClean': WHATEVER THE INPUT: true; the input reads as it did. -/
def modelCleanSpec : ChangeSpec := { name := "modelClean", fn := fun _ => fun
  | [d1, d2] => { results := [.lit (.bool true)], args := [d1, d2] }
  | _ => none }
def modelCleanRow : OpenClaim := { program := "ytegkejcglfgpmaagreatdoor", sum := "f0a6eac1b6d98a88b88b67c934f8a554e6d1699d6815e52bcc98fd652e0b0f02", func := "muniment/munimentlaw23.ModelClean", spec := "modelClean", inPlace := ["internal/bytealg.abigen_runtime_cmpstring"], unfollowed := true, recurses := true, named := ["muniment/sha.k"], apart := false, laid := [("muniment/sha.k", laid_muniment_sha_k)] }
def ModelCleanSaid : Prop := modelCleanRow.holds Tryz.pinned (OpenSpec.ofChange modelCleanSpec)

/-- ITS FALSE NEIGHBOUR: 'it returns false'. Refute it at one input. -/
def modelCleanWrong : ChangeSpec := { name := "modelClean", fn := fun _ => fun
  | [d1, d2] => { results := [.lit (.bool false)], args := [d1, d2] }
  | _ => none }
def ModelCleanWrongFalsely : Prop := modelCleanRow.holds Tryz.pinned (OpenSpec.ofChange modelCleanWrong)

/-- 'munimentlaw23.ModelTurned': WHATEVER THE INPUT: true; the input reads as it did. -/
def modelTurnedSpec : ChangeSpec := { name := "modelTurned", fn := fun _ => fun
  | [d1, d2] => { results := [.lit (.bool true)], args := [d1, d2] }
  | _ => none }
def modelTurnedRow : OpenClaim := { program := "ytegkejcglfgpmaagreatdoor", sum := "f0a6eac1b6d98a88b88b67c934f8a554e6d1699d6815e52bcc98fd652e0b0f02", func := "muniment/munimentlaw23.ModelTurned", spec := "modelTurned", inPlace := ["internal/bytealg.abigen_runtime_cmpstring"], unfollowed := true, recurses := true, named := ["muniment/sha.k"], apart := false, laid := [("muniment/sha.k", laid_muniment_sha_k)] }
def ModelTurnedSaid : Prop := modelTurnedRow.holds Tryz.pinned (OpenSpec.ofChange modelTurnedSpec)

/-- ITS FALSE NEIGHBOUR: 'it returns false'. Refute it at one input. -/
def modelTurnedWrong : ChangeSpec := { name := "modelTurned", fn := fun _ => fun
  | [d1, d2] => { results := [.lit (.bool false)], args := [d1, d2] }
  | _ => none }
def ModelTurnedWrongFalsely : Prop := modelTurnedRow.holds Tryz.pinned (OpenSpec.ofChange modelTurnedWrong)

/-- 'munimentlaw23.ModelCounts': WHATEVER THE INPUT: true; the input reads as it did. -/
def modelCountsSpec : ChangeSpec := { name := "modelCounts", fn := fun _ => fun
  | [d1, d2, d3] => { results := [.lit (.bool true)], args := [d1, d2, d3] }
  | _ => none }
def modelCountsRow : OpenClaim := { program := "ytegkejcglfgpmaagreatdoor", sum := "f0a6eac1b6d98a88b88b67c934f8a554e6d1699d6815e52bcc98fd652e0b0f02", func := "muniment/munimentlaw23.ModelCounts", spec := "modelCounts", inPlace := ["internal/bytealg.abigen_runtime_cmpstring"], unfollowed := true, recurses := true, named := ["muniment/sha.k"], apart := false, laid := [("muniment/sha.k", laid_muniment_sha_k)] }
def ModelCountsSaid : Prop := modelCountsRow.holds Tryz.pinned (OpenSpec.ofChange modelCountsSpec)

/-- ITS FALSE NEIGHBOUR: 'it returns false'. Refute it at one input. -/
def modelCountsWrong : ChangeSpec := { name := "modelCounts", fn := fun _ => fun
  | [d1, d2, d3] => { results := [.lit (.bool false)], args := [d1, d2, d3] }
  | _ => none }
def ModelCountsWrongFalsely : Prop := modelCountsRow.holds Tryz.pinned (OpenSpec.ofChange modelCountsWrong)

/-- 'munimentlaw23.ModelPlays': WHATEVER THE INPUT: true; the input reads as it did. -/
def modelPlaysSpec : ChangeSpec := { name := "modelPlays", fn := fun _ => fun
  | [d] => { results := [.lit (.bool true)], args := [d] }
  | _ => none }
def modelPlaysRow : OpenClaim := { program := "ytegkejcglfgpmaagreatdoor", sum := "f0a6eac1b6d98a88b88b67c934f8a554e6d1699d6815e52bcc98fd652e0b0f02", func := "muniment/munimentlaw23.ModelPlays", spec := "modelPlays", inPlace := ["internal/bytealg.abigen_runtime_cmpstring"], unfollowed := true, recurses := true, named := ["muniment/sha.k"], apart := false, laid := [("muniment/sha.k", laid_muniment_sha_k)] }
def ModelPlaysSaid : Prop := modelPlaysRow.holds Tryz.pinned (OpenSpec.ofChange modelPlaysSpec)

/-- ITS FALSE NEIGHBOUR: 'it returns false'. Refute it at one input. -/
def modelPlaysWrong : ChangeSpec := { name := "modelPlays", fn := fun _ => fun
  | [d] => { results := [.lit (.bool false)], args := [d] }
  | _ => none }
def ModelPlaysWrongFalsely : Prop := modelPlaysRow.holds Tryz.pinned (OpenSpec.ofChange modelPlaysWrong)

/-- 'munimentlaw23.ModelClones': WHATEVER THE INPUT: true; the input reads as it did. -/
def modelClonesSpec : ChangeSpec := { name := "modelClones", fn := fun _ => fun
  | [d1, d2, d3] => { results := [.lit (.bool true)], args := [d1, d2, d3] }
  | _ => none }
def modelClonesRow : OpenClaim := { program := "ytegkejcglfgpmaagreatdoor", sum := "f0a6eac1b6d98a88b88b67c934f8a554e6d1699d6815e52bcc98fd652e0b0f02", func := "muniment/munimentlaw23.ModelClones", spec := "modelClones", inPlace := ["internal/bytealg.abigen_runtime_cmpstring"], unfollowed := true, recurses := true, named := ["muniment/sha.k"], apart := false, laid := [("muniment/sha.k", laid_muniment_sha_k)] }
def ModelClonesSaid : Prop := modelClonesRow.holds Tryz.pinned (OpenSpec.ofChange modelClonesSpec)

/-- ITS FALSE NEIGHBOUR: 'it returns false'. Refute it at one input. -/
def modelClonesWrong : ChangeSpec := { name := "modelClones", fn := fun _ => fun
  | [d1, d2, d3] => { results := [.lit (.bool false)], args := [d1, d2, d3] }
  | _ => none }
def ModelClonesWrongFalsely : Prop := modelClonesRow.holds Tryz.pinned (OpenSpec.ofChange modelClonesWrong)

/-- 'munimentlaw23.ModelKeeps': WHATEVER THE INPUT: true; the input reads as it did. -/
def modelKeepsSpec : ChangeSpec := { name := "modelKeeps", fn := fun _ => fun
  | [d] => { results := [.lit (.bool true)], args := [d] }
  | _ => none }
def modelKeepsRow : OpenClaim := { program := "ytegkejcglfgpmaagreatdoor", sum := "f0a6eac1b6d98a88b88b67c934f8a554e6d1699d6815e52bcc98fd652e0b0f02", func := "muniment/munimentlaw23.ModelKeeps", spec := "modelKeeps", inPlace := ["internal/bytealg.abigen_runtime_cmpstring"], unfollowed := true, recurses := true, named := ["muniment/sha.k"], apart := false, laid := [("muniment/sha.k", laid_muniment_sha_k)] }
def ModelKeepsSaid : Prop := modelKeepsRow.holds Tryz.pinned (OpenSpec.ofChange modelKeepsSpec)

/-- ITS FALSE NEIGHBOUR: 'it returns false'. Refute it at one input. -/
def modelKeepsWrong : ChangeSpec := { name := "modelKeeps", fn := fun _ => fun
  | [d] => { results := [.lit (.bool false)], args := [d] }
  | _ => none }
def ModelKeepsWrongFalsely : Prop := modelKeepsRow.holds Tryz.pinned (OpenSpec.ofChange modelKeepsWrong)

/- THE SECOND FORM. 'bulk': how many values and letters a reading holds, each counted each time it is reached (what is shared counts as often as it is met; a slice's spare places count too). A statement '..UptoSaid' is the law's where the arguments, and the package variables that the reading takes, are together of bulk at most 1048576: NARROWER than '..Said'. Prove '..Said' where nothing that the law and all that it calls make is longer than what came in: it says more and counts as full. Else prove '..UptoSaid'. A law counts once. -/
mutual
def uptoBulk {H : Type} : DataW H → Nat
  | .lit (.string bytes) => bytes.length + 1
  | .lit _ => 1
  | .nil => 1
  | .ptr d => uptoBulk d + 1
  | .slice elems spare => uptoBulkAll elems + uptoBulkAll spare + 1
  | .agg parts => uptoBulkAll parts + 1
  | .iface _ d => uptoBulk d + 1
  | .map entries => uptoBulkEntries entries + 1
  | .held _ => 1
def uptoBulkAll {H : Type} : List (DataW H) → Nat
  | [] => 0
  | d :: r => uptoBulk d + uptoBulkAll r
def uptoBulkEntries {H : Type} : List (Lit × DataW H) → Nat
  | [] => 0
  | x :: r => uptoBulkEntry x + uptoBulkEntries r
def uptoBulkEntry {H : Type} : Lit × DataW H → Nat
  | (.string bytes, d) => bytes.length + uptoBulk d + 1
  | (_, d) => uptoBulk d + 1
 end
def uptoSmall : (H : Type) → List (DataW H) → Bool := fun _ ds => decide (uptoBulkAll ds ≤ 1048576)
def OpenSpec.upto (s : _root_.Go.ChangeSpec) : _root_.Go.OpenSpec := { _root_.Go.OpenSpec.ofChange s with cond := some uptoSmall }

/-- 'munimentlaw23.ModelClean', WHERE WHAT IT READS IS OF BULK AT MOST 1048576: true; the input reads as it did. -/
def modelCleanUptoRow : OpenClaim := { program := "ytegkejcglfgpmaagreatdoor", sum := "f0a6eac1b6d98a88b88b67c934f8a554e6d1699d6815e52bcc98fd652e0b0f02", func := "muniment/munimentlaw23.ModelClean", spec := "modelClean", inPlace := ["internal/bytealg.abigen_runtime_cmpstring"], unfollowed := true, recurses := true, named := ["muniment/sha.k"], apart := false, laid := [("muniment/sha.k", laid_muniment_sha_k)], narrowed := true }
def ModelCleanUptoSaid : Prop := modelCleanUptoRow.holds Tryz.pinned (OpenSpec.upto modelCleanSpec)

/-- 'munimentlaw23.ModelTurned', WHERE WHAT IT READS IS OF BULK AT MOST 1048576: true; the input reads as it did. -/
def modelTurnedUptoRow : OpenClaim := { program := "ytegkejcglfgpmaagreatdoor", sum := "f0a6eac1b6d98a88b88b67c934f8a554e6d1699d6815e52bcc98fd652e0b0f02", func := "muniment/munimentlaw23.ModelTurned", spec := "modelTurned", inPlace := ["internal/bytealg.abigen_runtime_cmpstring"], unfollowed := true, recurses := true, named := ["muniment/sha.k"], apart := false, laid := [("muniment/sha.k", laid_muniment_sha_k)], narrowed := true }
def ModelTurnedUptoSaid : Prop := modelTurnedUptoRow.holds Tryz.pinned (OpenSpec.upto modelTurnedSpec)

/-- 'munimentlaw23.ModelCounts', WHERE WHAT IT READS IS OF BULK AT MOST 1048576: true; the input reads as it did. -/
def modelCountsUptoRow : OpenClaim := { program := "ytegkejcglfgpmaagreatdoor", sum := "f0a6eac1b6d98a88b88b67c934f8a554e6d1699d6815e52bcc98fd652e0b0f02", func := "muniment/munimentlaw23.ModelCounts", spec := "modelCounts", inPlace := ["internal/bytealg.abigen_runtime_cmpstring"], unfollowed := true, recurses := true, named := ["muniment/sha.k"], apart := false, laid := [("muniment/sha.k", laid_muniment_sha_k)], narrowed := true }
def ModelCountsUptoSaid : Prop := modelCountsUptoRow.holds Tryz.pinned (OpenSpec.upto modelCountsSpec)

/-- 'munimentlaw23.ModelPlays', WHERE WHAT IT READS IS OF BULK AT MOST 1048576: true; the input reads as it did. -/
def modelPlaysUptoRow : OpenClaim := { program := "ytegkejcglfgpmaagreatdoor", sum := "f0a6eac1b6d98a88b88b67c934f8a554e6d1699d6815e52bcc98fd652e0b0f02", func := "muniment/munimentlaw23.ModelPlays", spec := "modelPlays", inPlace := ["internal/bytealg.abigen_runtime_cmpstring"], unfollowed := true, recurses := true, named := ["muniment/sha.k"], apart := false, laid := [("muniment/sha.k", laid_muniment_sha_k)], narrowed := true }
def ModelPlaysUptoSaid : Prop := modelPlaysUptoRow.holds Tryz.pinned (OpenSpec.upto modelPlaysSpec)

/-- 'munimentlaw23.ModelClones', WHERE WHAT IT READS IS OF BULK AT MOST 1048576: true; the input reads as it did. -/
def modelClonesUptoRow : OpenClaim := { program := "ytegkejcglfgpmaagreatdoor", sum := "f0a6eac1b6d98a88b88b67c934f8a554e6d1699d6815e52bcc98fd652e0b0f02", func := "muniment/munimentlaw23.ModelClones", spec := "modelClones", inPlace := ["internal/bytealg.abigen_runtime_cmpstring"], unfollowed := true, recurses := true, named := ["muniment/sha.k"], apart := false, laid := [("muniment/sha.k", laid_muniment_sha_k)], narrowed := true }
def ModelClonesUptoSaid : Prop := modelClonesUptoRow.holds Tryz.pinned (OpenSpec.upto modelClonesSpec)

/-- 'munimentlaw23.ModelKeeps', WHERE WHAT IT READS IS OF BULK AT MOST 1048576: true; the input reads as it did. -/
def modelKeepsUptoRow : OpenClaim := { program := "ytegkejcglfgpmaagreatdoor", sum := "f0a6eac1b6d98a88b88b67c934f8a554e6d1699d6815e52bcc98fd652e0b0f02", func := "muniment/munimentlaw23.ModelKeeps", spec := "modelKeeps", inPlace := ["internal/bytealg.abigen_runtime_cmpstring"], unfollowed := true, recurses := true, named := ["muniment/sha.k"], apart := false, laid := [("muniment/sha.k", laid_muniment_sha_k)], narrowed := true }
def ModelKeepsUptoSaid : Prop := modelKeepsUptoRow.holds Tryz.pinned (OpenSpec.upto modelKeepsSpec)

end Rows
end Go.Proofs.YtegkejcglfgpmaaGreatDoor
