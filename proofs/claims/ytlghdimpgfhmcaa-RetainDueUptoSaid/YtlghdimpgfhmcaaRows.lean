/-
  No cell of these rows narrows 'for every input' (looked for: loops, veiled, ifaces, maps, wideKeys, modest, calm, conditions, laid).
  DERIVED. THE GIVEN ROWS OF THIS SEAT. 7 by the template 'for every input the law returns true; each argument reads behind the call as it read before'; 0 by the template 'total and deterministic' (their statements: YtlghdimpgfhmcaaTotals.lean).
  GIVEN WITH THE SEED: the statements are not yours to turn. If you find one false, say at which input.
  Laid BY PROGRAM, IN A SANDBOX (cutbox-rows.mjs): the forced cells as the released guide's own fill.sh prints them over the translation 7c2c837e6ac5b42b… (all of the seat's roots in one cut). By AI agents, Wed Nov 11 2026. No macro, syntax, notation, axiom, sorry.
-/
import Derived.Test.YtlghdimpgfhmcaaChecked
import GoSem.Claim
import GoSem.ClaimJoined
import GoSem.ClaimMapViews
import Derived.JoinedTies
import Derived.KernelRfl
namespace Go.Proofs.Ytlghdimpgfhmcaa
/- THE CELL 'sum', in the pinned program and in every row, IS THE sha256 OF THE DUMP (.gsa) THAT YtlghdimpgfhmcaaProg.lean LOADS. Nothing in Lean hashes anything: it is a label: what it is worth is what the hold of that sum in a sandbox is worth. -/
noncomputable def Try.pinned : Pinned := { name := "ytlghdimpgfhmcaa", sum := "7c2c837e6ac5b42b617793385c209c930c2ba59fc9a2ab44b8b4575339747f86", checked := Try.checked }
namespace Rows
def none {H : Type} : Left H := { results := [], args := [] }

/-- 'munimentlaw18.RetainLocks': WHATEVER THE INPUT: true; the input reads as it did. -/
def retainLocksSpec : ChangeSpec := { name := "retainLocks", fn := fun _ => fun
  | [d1, d2] => { results := [.lit (.bool true)], args := [d1, d2] }
  | _ => none }
def retainLocksRow : OpenClaim := { program := "ytlghdimpgfhmcaa", sum := "7c2c837e6ac5b42b617793385c209c930c2ba59fc9a2ab44b8b4575339747f86", func := "muniment/munimentlaw18.RetainLocks", spec := "retainLocks", inPlace := ["internal/bytealg.abigen_runtime_cmpstring"], unfollowed := true, recurses := true, apart := false }
def RetainLocksSaid : Prop := retainLocksRow.holds Try.pinned (OpenSpec.ofChange retainLocksSpec)

/-- ITS FALSE NEIGHBOUR: 'it returns false'. Refute it at one input. -/
def retainLocksWrong : ChangeSpec := { name := "retainLocks", fn := fun _ => fun
  | [d1, d2] => { results := [.lit (.bool false)], args := [d1, d2] }
  | _ => none }
def RetainLocksWrongFalsely : Prop := retainLocksRow.holds Try.pinned (OpenSpec.ofChange retainLocksWrong)

/-- 'munimentlaw18.RetainHolds': WHATEVER THE INPUT: true; the input reads as it did. -/
def retainHoldsSpec : ChangeSpec := { name := "retainHolds", fn := fun _ => fun
  | [d1, d2] => { results := [.lit (.bool true)], args := [d1, d2] }
  | _ => none }
def retainHoldsRow : OpenClaim := { program := "ytlghdimpgfhmcaa", sum := "7c2c837e6ac5b42b617793385c209c930c2ba59fc9a2ab44b8b4575339747f86", func := "muniment/munimentlaw18.RetainHolds", spec := "retainHolds", inPlace := ["internal/bytealg.abigen_runtime_cmpstring"], unfollowed := true, recurses := true, apart := false }
def RetainHoldsSaid : Prop := retainHoldsRow.holds Try.pinned (OpenSpec.ofChange retainHoldsSpec)

/-- ITS FALSE NEIGHBOUR: 'it returns false'. Refute it at one input. -/
def retainHoldsWrong : ChangeSpec := { name := "retainHolds", fn := fun _ => fun
  | [d1, d2] => { results := [.lit (.bool false)], args := [d1, d2] }
  | _ => none }
def RetainHoldsWrongFalsely : Prop := retainHoldsRow.holds Try.pinned (OpenSpec.ofChange retainHoldsWrong)

/-- 'munimentlaw18.RetainDeletes': WHATEVER THE INPUT: true; the input reads as it did. -/
def retainDeletesSpec : ChangeSpec := { name := "retainDeletes", fn := fun _ => fun
  | [d1, d2] => { results := [.lit (.bool true)], args := [d1, d2] }
  | _ => none }
def retainDeletesRow : OpenClaim := { program := "ytlghdimpgfhmcaa", sum := "7c2c837e6ac5b42b617793385c209c930c2ba59fc9a2ab44b8b4575339747f86", func := "muniment/munimentlaw18.RetainDeletes", spec := "retainDeletes", inPlace := ["internal/bytealg.abigen_runtime_cmpstring"], unfollowed := true, recurses := true, apart := false }
def RetainDeletesSaid : Prop := retainDeletesRow.holds Try.pinned (OpenSpec.ofChange retainDeletesSpec)

/-- ITS FALSE NEIGHBOUR: 'it returns false'. Refute it at one input. -/
def retainDeletesWrong : ChangeSpec := { name := "retainDeletes", fn := fun _ => fun
  | [d1, d2] => { results := [.lit (.bool false)], args := [d1, d2] }
  | _ => none }
def RetainDeletesWrongFalsely : Prop := retainDeletesRow.holds Try.pinned (OpenSpec.ofChange retainDeletesWrong)

/-- 'munimentlaw18.RetainDue': WHATEVER THE INPUT: true; the input reads as it did. -/
def retainDueSpec : ChangeSpec := { name := "retainDue", fn := fun _ => fun
  | [d1, d2] => { results := [.lit (.bool true)], args := [d1, d2] }
  | _ => none }
def retainDueRow : OpenClaim := { program := "ytlghdimpgfhmcaa", sum := "7c2c837e6ac5b42b617793385c209c930c2ba59fc9a2ab44b8b4575339747f86", func := "muniment/munimentlaw18.RetainDue", spec := "retainDue", inPlace := ["internal/bytealg.abigen_runtime_cmpstring"], unfollowed := true, recurses := true, apart := false }
def RetainDueSaid : Prop := retainDueRow.holds Try.pinned (OpenSpec.ofChange retainDueSpec)

/-- ITS FALSE NEIGHBOUR: 'it returns false'. Refute it at one input. -/
def retainDueWrong : ChangeSpec := { name := "retainDue", fn := fun _ => fun
  | [d1, d2] => { results := [.lit (.bool false)], args := [d1, d2] }
  | _ => none }
def RetainDueWrongFalsely : Prop := retainDueRow.holds Try.pinned (OpenSpec.ofChange retainDueWrong)

/-- 'munimentlaw18.RetainGrows': WHATEVER THE INPUT: true; the input reads as it did. -/
def retainGrowsSpec : ChangeSpec := { name := "retainGrows", fn := fun _ => fun
  | [d1, d2] => { results := [.lit (.bool true)], args := [d1, d2] }
  | _ => none }
def retainGrowsRow : OpenClaim := { program := "ytlghdimpgfhmcaa", sum := "7c2c837e6ac5b42b617793385c209c930c2ba59fc9a2ab44b8b4575339747f86", func := "muniment/munimentlaw18.RetainGrows", spec := "retainGrows", inPlace := ["internal/bytealg.abigen_runtime_cmpstring"], unfollowed := true, recurses := true, apart := false }
def RetainGrowsSaid : Prop := retainGrowsRow.holds Try.pinned (OpenSpec.ofChange retainGrowsSpec)

/-- ITS FALSE NEIGHBOUR: 'it returns false'. Refute it at one input. -/
def retainGrowsWrong : ChangeSpec := { name := "retainGrows", fn := fun _ => fun
  | [d1, d2] => { results := [.lit (.bool false)], args := [d1, d2] }
  | _ => none }
def RetainGrowsWrongFalsely : Prop := retainGrowsRow.holds Try.pinned (OpenSpec.ofChange retainGrowsWrong)

/-- 'munimentlaw18.RetainTakes': WHATEVER THE INPUT: true; the input reads as it did. -/
def retainTakesSpec : ChangeSpec := { name := "retainTakes", fn := fun _ => fun
  | [d1, d2] => { results := [.lit (.bool true)], args := [d1, d2] }
  | _ => none }
def retainTakesRow : OpenClaim := { program := "ytlghdimpgfhmcaa", sum := "7c2c837e6ac5b42b617793385c209c930c2ba59fc9a2ab44b8b4575339747f86", func := "muniment/munimentlaw18.RetainTakes", spec := "retainTakes", inPlace := ["internal/bytealg.abigen_runtime_cmpstring"], unfollowed := true, recurses := true, apart := false }
def RetainTakesSaid : Prop := retainTakesRow.holds Try.pinned (OpenSpec.ofChange retainTakesSpec)

/-- ITS FALSE NEIGHBOUR: 'it returns false'. Refute it at one input. -/
def retainTakesWrong : ChangeSpec := { name := "retainTakes", fn := fun _ => fun
  | [d1, d2] => { results := [.lit (.bool false)], args := [d1, d2] }
  | _ => none }
def RetainTakesWrongFalsely : Prop := retainTakesRow.holds Try.pinned (OpenSpec.ofChange retainTakesWrong)

/-- 'munimentlaw18.RetainOrder': WHATEVER THE INPUT: true; the input reads as it did. -/
def retainOrderSpec : ChangeSpec := { name := "retainOrder", fn := fun _ => fun
  | [d1, d2] => { results := [.lit (.bool true)], args := [d1, d2] }
  | _ => none }
def retainOrderRow : OpenClaim := { program := "ytlghdimpgfhmcaa", sum := "7c2c837e6ac5b42b617793385c209c930c2ba59fc9a2ab44b8b4575339747f86", func := "muniment/munimentlaw18.RetainOrder", spec := "retainOrder", inPlace := ["internal/bytealg.abigen_runtime_cmpstring"], unfollowed := true, recurses := true, apart := false }
def RetainOrderSaid : Prop := retainOrderRow.holds Try.pinned (OpenSpec.ofChange retainOrderSpec)

/-- ITS FALSE NEIGHBOUR: 'it returns false'. Refute it at one input. -/
def retainOrderWrong : ChangeSpec := { name := "retainOrder", fn := fun _ => fun
  | [d1, d2] => { results := [.lit (.bool false)], args := [d1, d2] }
  | _ => none }
def RetainOrderWrongFalsely : Prop := retainOrderRow.holds Try.pinned (OpenSpec.ofChange retainOrderWrong)

/- THE SECOND FORM. 'bulk': how many values and letters a reading holds, each counted each time it is reached (what is shared counts as often as it is met; a slice's spare places count too). A statement '..UptoSaid' is the law's where the arguments, and the package variables that the reading takes, are together of bulk at most 1048576: NARROWER than '..Said'. Prove '..Said' where nothing that the law and all that it calls make is longer than what came in: it says more and counts as full. Else prove '..UptoSaid'. A law counts once. -/
mutual
def uptoBulk {H : Type} : DataW H → Nat
  | .lit (.string bytes) => bytes.length + 1
  | .lit _ => 1
  | .nil => 1
  | .ptr d => uptoBulk d + 1
  | .slice elems spare => uptoBulkAll elems + uptoBulkAll spare + 1
  | .agg parts => uptoBulkAll parts + 1
  | .iface _ d => uptoBulk d + 1
  | .map entries => uptoBulkEntries entries + 1
  | .held _ => 1
def uptoBulkAll {H : Type} : List (DataW H) → Nat
  | [] => 0
  | d :: r => uptoBulk d + uptoBulkAll r
def uptoBulkEntries {H : Type} : List (Lit × DataW H) → Nat
  | [] => 0
  | x :: r => uptoBulkEntry x + uptoBulkEntries r
def uptoBulkEntry {H : Type} : Lit × DataW H → Nat
  | (.string bytes, d) => bytes.length + uptoBulk d + 1
  | (_, d) => uptoBulk d + 1
 end
def uptoSmall : (H : Type) → List (DataW H) → Bool := fun _ ds => decide (uptoBulkAll ds ≤ 1048576)
def OpenSpec.upto (s : _root_.Go.ChangeSpec) : _root_.Go.OpenSpec := { _root_.Go.OpenSpec.ofChange s with cond := some uptoSmall }

/-- 'munimentlaw18.RetainLocks', WHERE WHAT IT READS IS OF BULK AT MOST 1048576: true; the input reads as it did. -/
def retainLocksUptoRow : OpenClaim := { program := "ytlghdimpgfhmcaa", sum := "7c2c837e6ac5b42b617793385c209c930c2ba59fc9a2ab44b8b4575339747f86", func := "muniment/munimentlaw18.RetainLocks", spec := "retainLocks", inPlace := ["internal/bytealg.abigen_runtime_cmpstring"], unfollowed := true, recurses := true, apart := false, narrowed := true }
def RetainLocksUptoSaid : Prop := retainLocksUptoRow.holds Try.pinned (OpenSpec.upto retainLocksSpec)

/-- 'munimentlaw18.RetainHolds', WHERE WHAT IT READS IS OF BULK AT MOST 1048576: true; the input reads as it did. -/
def retainHoldsUptoRow : OpenClaim := { program := "ytlghdimpgfhmcaa", sum := "7c2c837e6ac5b42b617793385c209c930c2ba59fc9a2ab44b8b4575339747f86", func := "muniment/munimentlaw18.RetainHolds", spec := "retainHolds", inPlace := ["internal/bytealg.abigen_runtime_cmpstring"], unfollowed := true, recurses := true, apart := false, narrowed := true }
def RetainHoldsUptoSaid : Prop := retainHoldsUptoRow.holds Try.pinned (OpenSpec.upto retainHoldsSpec)

/-- 'munimentlaw18.RetainDeletes', WHERE WHAT IT READS IS OF BULK AT MOST 1048576: true; the input reads as it did. -/
def retainDeletesUptoRow : OpenClaim := { program := "ytlghdimpgfhmcaa", sum := "7c2c837e6ac5b42b617793385c209c930c2ba59fc9a2ab44b8b4575339747f86", func := "muniment/munimentlaw18.RetainDeletes", spec := "retainDeletes", inPlace := ["internal/bytealg.abigen_runtime_cmpstring"], unfollowed := true, recurses := true, apart := false, narrowed := true }
def RetainDeletesUptoSaid : Prop := retainDeletesUptoRow.holds Try.pinned (OpenSpec.upto retainDeletesSpec)

/-- 'munimentlaw18.RetainDue', WHERE WHAT IT READS IS OF BULK AT MOST 1048576: true; the input reads as it did. -/
def retainDueUptoRow : OpenClaim := { program := "ytlghdimpgfhmcaa", sum := "7c2c837e6ac5b42b617793385c209c930c2ba59fc9a2ab44b8b4575339747f86", func := "muniment/munimentlaw18.RetainDue", spec := "retainDue", inPlace := ["internal/bytealg.abigen_runtime_cmpstring"], unfollowed := true, recurses := true, apart := false, narrowed := true }
def RetainDueUptoSaid : Prop := retainDueUptoRow.holds Try.pinned (OpenSpec.upto retainDueSpec)

/-- 'munimentlaw18.RetainGrows', WHERE WHAT IT READS IS OF BULK AT MOST 1048576: true; the input reads as it did. -/
def retainGrowsUptoRow : OpenClaim := { program := "ytlghdimpgfhmcaa", sum := "7c2c837e6ac5b42b617793385c209c930c2ba59fc9a2ab44b8b4575339747f86", func := "muniment/munimentlaw18.RetainGrows", spec := "retainGrows", inPlace := ["internal/bytealg.abigen_runtime_cmpstring"], unfollowed := true, recurses := true, apart := false, narrowed := true }
def RetainGrowsUptoSaid : Prop := retainGrowsUptoRow.holds Try.pinned (OpenSpec.upto retainGrowsSpec)

/-- 'munimentlaw18.RetainTakes', WHERE WHAT IT READS IS OF BULK AT MOST 1048576: true; the input reads as it did. -/
def retainTakesUptoRow : OpenClaim := { program := "ytlghdimpgfhmcaa", sum := "7c2c837e6ac5b42b617793385c209c930c2ba59fc9a2ab44b8b4575339747f86", func := "muniment/munimentlaw18.RetainTakes", spec := "retainTakes", inPlace := ["internal/bytealg.abigen_runtime_cmpstring"], unfollowed := true, recurses := true, apart := false, narrowed := true }
def RetainTakesUptoSaid : Prop := retainTakesUptoRow.holds Try.pinned (OpenSpec.upto retainTakesSpec)

/-- 'munimentlaw18.RetainOrder', WHERE WHAT IT READS IS OF BULK AT MOST 1048576: true; the input reads as it did. -/
def retainOrderUptoRow : OpenClaim := { program := "ytlghdimpgfhmcaa", sum := "7c2c837e6ac5b42b617793385c209c930c2ba59fc9a2ab44b8b4575339747f86", func := "muniment/munimentlaw18.RetainOrder", spec := "retainOrder", inPlace := ["internal/bytealg.abigen_runtime_cmpstring"], unfollowed := true, recurses := true, apart := false, narrowed := true }
def RetainOrderUptoSaid : Prop := retainOrderUptoRow.holds Try.pinned (OpenSpec.upto retainOrderSpec)

end Rows
end Go.Proofs.Ytlghdimpgfhmcaa
