/- Rows of rows of bytes, as arguments. No condition but those that each theorem names. -/
import Derived.Test.YtlghdimpgfhmcaaStL
namespace Go.Sha
open Go Go.Lane
/-- a row of rows of bytes: address, capacity, bytes of each -/
abbrev Sl := Option Addr × Nat × List UInt8
def SV (t : Sl) : Value := .slice t.1 t.2.2.length t.2.1
def Rws (h : Heap) (va : Option Addr) (vc : Nat) (sl : List Sl) : Prop :=
  Row h (.slice va sl.length vc) sl.length 1 (sl.map SV) ∧ ∀ t ∈ sl, Row h (.slice t.1 t.2.2.length t.2.1) t.2.2.length 1 (t.2.2.map bv) ∧ (t.2.2 = [] ∨ ∀ k, blkOf (.slice t.1 t.2.2.length t.2.1) = some k → k < h.size)
def flat (sl : List Sl) : List UInt8 := sl.flatMap (·.2.2)
theorem Rws.some {h : Heap} {va : Option Addr} {vc : Nat} {sl : List Sl} (r : Rws h va vc sl) {i : Nat} (hi : i < sl.length) : ∃ aa, va = some aa := by
  rcases r.1.2 with ⟨e, e1⟩ | ⟨a, cap, e, _⟩
  · omega
  · cases e; exact ⟨_, rfl⟩
theorem flat_le (sl : List Sl) (i : Nat) : (flat (sl.take i)).length ≤ (flat sl).length := by
  have h : flat sl = flat (sl.take i) ++ flat (sl.drop i) := by unfold flat; rw [← List.flatMap_append, List.take_append_drop]
  rw [h, List.length_append]; omega
theorem Rws.at {h : Heap} {aa : Addr} {vc : Nat} {sl : List Sl} (r : Rws h (Option.some aa) vc sl) {i : Nat} (hi : i < sl.length) :
    ∃ t : Sl, sl[i]? = Option.some t ∧ hcell h (aa.add i) = Option.some (.slice t.1 t.2.2.length t.2.1) ∧ Row h (.slice t.1 t.2.2.length t.2.1) t.2.2.length 1 (t.2.2.map bv) ∧ (t.2.2 = [] ∨ ∀ k, blkOf (.slice t.1 t.2.2.length t.2.1) = Option.some k → k < h.size) ∧
      flat (sl.take (i + 1)) = flat (sl.take i) ++ t.2.2 ∧ (flat (sl.take i)).length + t.2.2.length ≤ (flat sl).length := by
  have hf : flat (sl.take (i + 1)) = flat (sl.take i) ++ sl[i].2.2 := by
    unfold flat; rw [List.take_succ_eq_append_getElem hi, List.flatMap_append]; simp
  have hm := r.2 sl[i] (List.getElem_mem hi)
  refine ⟨sl[i], List.getElem?_eq_getElem hi, ?_, hm.1, hm.2, hf, ?_⟩
  · rcases r.1.2 with ⟨e, e1⟩ | ⟨a, cap, e, _, hx⟩
    · omega
    · cases e; exact hx i _ (by rw [List.getElem?_map, List.getElem?_eq_getElem hi]; rfl)
  · have := flat_le sl (i + 1); rw [hf, List.length_append] at this; exact this
theorem flat_over {sl : List Sl} {i : Nat} (hi : sl.length ≤ i) : flat (sl.take (i + 1)) = flat (sl.take i) := by
  rw [List.take_of_length_le hi, List.take_of_length_le (by omega)]
end Go.Sha
