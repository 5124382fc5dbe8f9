/- Arguments of a law as the memory holds them. No condition but those that each theorem names. -/
import Derived.Test.YtlghdimpgfhmcaaEnd
namespace Go.Proofs.Ytlghdimpgfhmcaa
open Go.ChangeShapes Go.WideShapes Go.ChangeAt Go.RowKit
/-- a row of bytes, as the memory holds it -/
def BR (h : Lane.Heap) (s : Sha.Sl) : Prop := Lane.Row h (.slice s.1 s.2.2.length s.2.1) s.2.2.length 1 (s.2.2.map Sha.bv) ∧ (s.2.2 = [] ∨ ∀ k, Lane.blkOf (.slice s.1 s.2.2.length s.2.1) = some k → k < h.size)
theorem bv_of {n : Int} (hw : (Lit.int .u8 n).wf = true) : Value.int .u8 n = Sha.bv (UInt8.ofNat n.toNat) := by
  simp only [Lit.wf, Bool.and_eq_true, decide_eq_true_eq] at hw
  have h0 : (0 : Int) ≤ n ∧ n ≤ 255 := by simpa [IntKind.min, IntKind.max, IntKind.signed, IntKind.bits] using hw
  unfold Sha.bv
  congr 1
  rw [UInt8.toNat_ofNat', Nat.mod_eq_of_lt (by omega)]
  omega
section
variable {H : Type} {enc : TypeId × Value → H}
theorem open_bytes {P : Program} {W : World} {t e : TypeId} {fuel : Nat} {cs : List Value} {x : DataW H × List MemPlace} (ht : P.underlying t = some (.slice e)) (he : P.underlying e = some (.int .u8)) (hc : P.cellsOf e = 1)
    (h : DataW.trod enc P W 0 (fun _ => true) true fuel t cs = some x) : ∃ s : Sha.Sl, cs = [.slice s.1 s.2.2.length s.2.1] ∧ BR W.heap s ∧ s.2.2.length + 1 ≤ Rows.uptoBulk x.1 := by
  rcases open_ints ht he hc h with ⟨rfl, rfl⟩ | ⟨a, len, cap, zs, rfl, _, hle, _, hzl, rfl, hcell, hwf⟩
  · exact ⟨(none, 0, []), rfl, ⟨Lane.Row.nil W.heap 1, .inl rfl⟩, by simp [Rows.uptoBulk]⟩
  · have hzl' : zs.length = cap := hzl
    have hlen : ((zs.take len).map fun z : Int => UInt8.ofNat z.toNat).length = len := by simp; omega
    refine ⟨(some a, cap, (zs.take len).map fun z : Int => UInt8.ofNat z.toNat), by rw [hlen], ⟨⟨by simp, .inr ⟨a, cap, rfl, by rw [hlen]; exact hle, fun j u hu => ?_⟩⟩, ?_⟩, ?_⟩
    · rw [List.getElem?_map, List.getElem?_map] at hu
      have hj : j < len := by
        apply Nat.lt_of_not_le
        intro hh
        rw [List.getElem?_eq_none (by simp; omega)] at hu
        cases hu
      have hjz : j < zs.length := by omega
      rw [List.getElem?_take_of_lt hj, List.getElem?_eq_getElem hjz] at hu
      simp only [Option.map_some, Option.some.injEq] at hu
      subst hu
      rw [← bv_of (hwf _ (List.getElem_mem hjz)), ← Lane.hcell_eq rfl, hcell j hjz]
      simp [List.getD, hjz]
    · by_cases h0 : len = 0
      · left; subst h0; simp
      · right
        intro k hk
        have := hcell 0 (by omega)
        rw [Lane.hcell_eq rfl] at this
        have := Lane.hcell_lt this
        rw [Lane.add_block] at this
        simp only [Lane.blkOf, Option.some.injEq] at hk
        omega
    · have := bulks.slice_le (H := H) (lits .u8 (zs.take len)) (lits .u8 (zs.drop len))
      simp only [lits, List.length_map] at this
      simp only [lits]
      have h2 : (zs.take len).length = len := by simp; omega
      have h3 : ((zs.take len).map fun z : Int => UInt8.ofNat z.toNat).length = len := hlen
      show ((zs.take len).map fun z : Int => UInt8.ofNat z.toNat).length + 1 ≤ _
      rw [h3]
      omega
theorem bulk_sum {f : Nat → Sha.Sl} {D : Nat → DataW H} : ∀ (l : List Nat), (∀ i ∈ l, (f i).2.2.length + 1 ≤ Rows.uptoBulk (D i)) → (Sha.flat (l.map f)).length + l.length ≤ Rows.uptoBulkAll (l.map D)
  | [], _ => by simp [Sha.flat, Rows.uptoBulkAll]
  | i :: l, h => by
    have h1 := h i (List.mem_cons_self ..)
    have h2 := bulk_sum l (fun j hj => h j (List.mem_cons_of_mem _ hj))
    simp only [List.map_cons, Rows.uptoBulkAll, Sha.flat, List.flatMap_cons, List.length_append, List.length_cons] at h2 ⊢
    omega
theorem open_rows {P : Program} {W : World} {b0 : Nat} {r : Reach} {t q e : TypeId} {v : Value} {d : DataW H} {ps : List MemPlace} (ht : P.underlying t = some (.slice q)) (hq : P.underlying q = some (.slice e)) (he : P.underlying e = some (.int .u8)) (cq : P.cellsOf q = 1) (ce : P.cellsOf e = 1)
    (hval : Value.okWide P W r b0 t v) (h : DataW.Trod enc P W 0 (fun _ => true) true t v d ps) : ∃ va vc, ∃ sl : List Sha.Sl, v = .slice va sl.length vc ∧ Sha.Rws W.heap va vc sl ∧ (Sha.flat sl).length + sl.length ≤ Rows.uptoBulk d := by
  obtain ⟨a0, l0, c0, rfl⟩ := okWide_slice ht hval
  obtain ⟨fuel, hf⟩ := h
  rcases Deep.open_slice1 ht cq hf with ⟨e0, e1⟩ | ⟨a, len, cap, m, n, V, D, Pl, e0, _, hle, _, hm, e1, hel⟩
  · simp only [Value.cells, List.cons.injEq, Value.slice.injEq, and_true] at e0
    obtain ⟨rfl, rfl, rfl⟩ := e0
    exact ⟨none, 0, [], rfl, ⟨Lane.Row.nil W.heap 1, fun t h => by cases h⟩, by simp [Sha.flat]⟩
  · simp only [Value.cells, List.cons.injEq, Value.slice.injEq, and_true] at e0
    obtain ⟨rfl, rfl, rfl⟩ := e0
    have hm' : m = c0 := hm
    obtain ⟨f, hF⟩ := Deep.choose_lt (n := l0) (p := fun i s => V i = .slice s.1 s.2.2.length s.2.1 ∧ BR W.heap s ∧ s.2.2.length + 1 ≤ Rows.uptoBulk (D i)) (fun i hi => by
      obtain ⟨s, h1, h2, h3⟩ := open_bytes hq he ce (hel i (by omega)).2
      exact ⟨s, (List.cons.inj h1).1, h2, h3⟩)
    have hl : ((List.range l0).map f).length = l0 := by simp
    refine ⟨some a, c0, (List.range l0).map f, by rw [hl], ⟨⟨by simp, .inr ⟨a, c0, rfl, by rw [hl]; exact hle, fun j u hu => ?_⟩⟩, fun s hs => ?_⟩, ?_⟩
    · rw [List.getElem?_map, List.getElem?_map] at hu
      by_cases hj : j < l0
      · rw [List.getElem?_eq_getElem (by simpa using hj)] at hu
        simp only [Option.map_some, Option.some.injEq, List.getElem_range] at hu
        subst hu
        rw [← Lane.hcell_eq rfl, (hel j (by omega)).1, (hF j hj).1]
        rfl
      · rw [List.getElem?_eq_none (by simpa using hj)] at hu
        cases hu
    · obtain ⟨i, hi, rfl⟩ := List.mem_map.1 hs
      exact (hF i (List.mem_range.1 hi)).2.1
    · have := bulk_sum (f := f) (D := D) (List.range l0) (fun i hi => (hF i (List.mem_range.1 hi)).2.2)
      rw [List.length_range] at this
      rw [hl]
      simp only [Prod.mk.injEq] at e1
      obtain ⟨rfl, _⟩ := e1
      simp only [Rows.uptoBulk]
      omega
theorem open_bytes1 {P : Program} {W : World} {b0 : Nat} {r : Reach} {t e : TypeId} {v : Value} {d : DataW H} {ps : List MemPlace} (ht : P.underlying t = some (.slice e)) (he : P.underlying e = some (.int .u8)) (hc : P.cellsOf e = 1)
    (hval : Value.okWide P W r b0 t v) (h : DataW.Trod enc P W 0 (fun _ => true) true t v d ps) : ∃ va vc, ∃ l : List UInt8, v = .slice va l.length vc ∧ BR W.heap (va, vc, l) ∧ l.length + 1 ≤ Rows.uptoBulk d := by
  obtain ⟨a0, l0, c0, rfl⟩ := okWide_slice ht hval
  obtain ⟨fuel, hf⟩ := h
  obtain ⟨s, h1, h2, h3⟩ := open_bytes ht he hc hf
  simp only [Value.cells, List.cons.injEq, and_true] at h1
  exact ⟨s.1, s.2.1, s.2.2, h1, h2, h3⟩
end
end Go.Proofs.Ytlghdimpgfhmcaa
