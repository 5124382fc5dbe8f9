/- Hashes and numbers, as the memory holds them. No condition but those that each theorem names. -/
import Derived.Test.YtlghdimpgfhmcaaRead
import Derived.Test.YtlghdimpgfhmcaaTreeMath
namespace Go.Proofs.Ytlghdimpgfhmcaa
open Go.ChangeShapes Go.WideShapes Go.ChangeAt Go.RowKit
section
variable {H : Type} {enc : TypeId × Value → H}
theorem open_hash {P : Program} {W : World} {t e : TypeId} {fuel : Nat} {cs : List Value} {x : DataW H × List MemPlace} (ht : P.underlying t = some (.array 32 e)) (he : P.underlying e = some (.int .u8)) (hc : P.cellsOf e = 1) (hc2 : P.cellsOf t = 32)
    (h : DataW.trod enc P W 0 (fun _ => true) true fuel t cs = some x) : ∃ y : Sha.Hs, y.length = 32 ∧ cs = y.map Sha.bv := by
  obtain ⟨xs, m, rfl, rfl, hl, hxl, hel⟩ := DataW.trod_array ht h
  rw [hc2] at hl
  obtain ⟨g, hg⟩ := Deep.choose_lt (n := 32) (p := fun i (b : UInt8) => cs[i]? = some (Sha.bv b)) (fun i hi => by
    have := hel i hi
    rw [hc, Nat.mul_one, List.getElem?_eq_getElem (by omega)] at this
    obtain ⟨n, h1, _, hw⟩ := DataW.trod_int he this
    refine ⟨UInt8.ofNat n.toNat, ?_⟩
    rw [← bv_of hw]
    have h2 : ((cs.drop i).take 1)[0]? = some (.int .u8 n) := by rw [h1]; rfl
    rw [List.getElem?_take_of_lt (by omega), List.getElem?_drop] at h2
    exact h2)
  refine ⟨(List.range 32).map g, by simp, List.ext_getElem? fun i => ?_⟩
  by_cases hi : i < 32
  · rw [hg i hi]; simp [hi]
  · rw [List.getElem?_eq_none (by omega), List.getElem?_eq_none (by simp; omega)]
/-- a row of hashes that an argument hands over -/
def HA (h : Lane.Heap) (va : Option Addr) (vc : Nat) (L : List Sha.Hs) : Prop := Sha.HR h va vc L.length L ∧ ∀ k, va.map (fun (x : Addr) => x.block) = some k → k < h.size
theorem open_hashes {P : Program} {W : World} {t q e : TypeId} {fuel : Nat} {cs : List Value} {x : DataW H × List MemPlace} (ht : P.underlying t = some (.slice q)) (hq : P.underlying q = some (.array 32 e)) (he : P.underlying e = some (.int .u8)) (hc : P.cellsOf e = 1) (hc2 : P.cellsOf q = 32)
    (h : DataW.trod enc P W 0 (fun _ => true) true fuel t cs = some x) : ∃ va vc, ∃ L : List Sha.Hs, cs = [.slice va L.length vc] ∧ Sha.HR W.heap va vc L.length L ∧ (0 < L.length → ∀ k, va.map (fun (x : Addr) => x.block) = some k → k < W.heap.size) ∧ L.length + 1 ≤ Rows.uptoBulk x.1 := by
  rcases Deep.open_slice ht h with ⟨rfl, rfl⟩ | ⟨a, len, cap, m, n, D, Pl, rfl, _, hle, _, hm, rfl, hel⟩
  · exact ⟨none, 0, [], rfl, Sha.HR.nil _, fun h => by simp at h, by simp [Rows.uptoBulk]⟩
  · have hm' : m = cap := hm
    obtain ⟨f, hF⟩ := Deep.choose_lt (n := len) (p := fun i (y : Sha.Hs) => y.length = 32 ∧ ∀ j u, (y.map Sha.bv)[j]? = some u → Lane.hcell W.heap (a.add (i * 32 + j)) = some u) (fun i hi => by
      obtain ⟨cs', h1, h2⟩ := hel i (by omega)
      obtain ⟨y, hy, rfl⟩ := open_hash hq he hc hc2 h2
      rw [hc2] at h1
      refine ⟨y, hy, fun j u hu => ?_⟩
      have hj : j < 32 := by
        apply Nat.lt_of_not_le; intro hh
        rw [List.getElem?_eq_none (by rw [List.length_map, hy]; exact hh)] at hu; cases hu
      have h3 := (World.cells?_some h1).2.2 j hj
      rw [hu, Lane.hcell_eq rfl, Lane.add_add] at h3
      exact h3)
    have hl : ((List.range len).map f).length = len := by simp
    have h32 : Sha.All32 ((List.range len).map f) := fun y hy => by
      obtain ⟨i, hi, rfl⟩ := List.mem_map.1 hy; exact (hF i (List.mem_range.1 hi)).1
    refine ⟨some a, cap, (List.range len).map f, by rw [hl], ⟨⟨by rw [Sha.hcs_length h32], .inr ⟨a, cap, rfl, by rw [hl]; exact hle, fun j u hu => ?_⟩⟩, h32, rfl⟩, ?_, ?_⟩
    · have hj : j < len * 32 := by
        apply Nat.lt_of_not_le; intro hh
        rw [List.getElem?_eq_none (by rw [Sha.hcs_length h32, hl]; omega)] at hu; cases hu
      have hi : j / 32 < len := by omega
      have hd : Sha.hcs (((List.range len).map f).drop (j / 32)) = (f (j / 32)).map Sha.bv ++ Sha.hcs (((List.range len).map f).drop (j / 32 + 1)) := by
        rw [List.drop_eq_getElem_cons (by rw [hl]; exact hi), Sha.hcs, List.flatMap_cons]
        simp [Sha.hcs]
      have hu2 : ((f (j / 32)).map Sha.bv)[j % 32]? = some u := by
        have h4 : (Sha.hcs (((List.range len).map f).drop (j / 32)))[j % 32]? = some u := by
          rw [Sha.hcs_drop h32, List.getElem?_drop, show j / 32 * 32 + j % 32 = j by omega]; exact hu
        rw [hd, List.getElem?_append_left (by rw [List.length_map, (hF _ hi).1]; omega)] at h4
        exact h4
      have := (hF _ hi).2 _ _ hu2
      rw [show j / 32 * 32 + j % 32 = j by omega] at this
      exact this
    · rw [hl]
      intro h0 k hk
      simp only [Option.map_some, Option.some.injEq] at hk
      have hy := (hF 0 h0).1
      have h5 := (hF 0 h0).2 0 (Sha.bv ((f 0).getD 0 0)) (by rw [List.getElem?_map]; simp [List.getD, hy])
      have := Lane.hcell_lt h5
      rw [Lane.add_block] at this
      omega
    · rw [hl]
      have := bulks.slice_le ((List.range len).map D) ((List.range (m - len)).map fun j => D (len + j))
      rw [List.length_map, List.length_range] at this
      refine Nat.le_trans ?_ this
      omega
end
end Go.Proofs.Ytlghdimpgfhmcaa
namespace Go.Proofs.Ytlghdimpgfhmcaa
open Go.ChangeShapes Go.WideShapes Go.ChangeAt Go.RowKit
section
variable {H : Type} {enc : TypeId × Value → H}
def fieldsOf (P : Program) (t : TypeId) : Option (List (TypeId × Nat)) :=
  match P.underlying t with
  | some (.struct fs) => some (fs.toList.map fun f => (f.type, f.offset))
  | _ => none
theorem open_fields {P : Program} {W : World} {t : TypeId} {fuel : Nat} {cs : List Value} {x : DataW H × List MemPlace} {l : List (TypeId × Nat)} (hf : fieldsOf P t = some l) (h : DataW.trod enc P W 0 (fun _ => true) true fuel t cs = some x) :
    ∃ (xs : List (DataW H × List MemPlace)) (n : Nat), cs.length = P.cellsOf t ∧ x.1 = .agg (xs.map (·.1)) ∧ ∀ (i : Nat) (p : TypeId × Nat), l[i]? = some p → ∃ y, xs[i]? = some y ∧ DataW.trod enc P W 0 (fun _ => true) true n p.1 ((cs.drop p.2).take (P.cellsOf p.1)) = some y := by
  unfold fieldsOf at hf
  cases hu : P.underlying t with
  | none => simp [hu] at hf
  | some d =>
    cases d <;> simp only [hu] at hf <;> first | (cases hf; done) | skip
    rename_i fs
    simp only [Option.some.injEq] at hf
    obtain ⟨xs, n, rfl, rfl, hl, hxl, hel⟩ := DataW.trod_struct hu h
    refine ⟨xs, n, hl, rfl, fun i p hp => ?_⟩
    rw [← hf, List.getElem?_map, Option.map_eq_some_iff] at hp
    obtain ⟨f, h1, rfl⟩ := hp
    have h2 := hel i f (by simpa using h1)
    have hi : i < xs.length := by
      rw [hxl]
      apply Nat.lt_of_not_le; intro hh
      rw [List.getElem?_eq_none (by simpa using hh)] at h1; cases h1
    rw [List.getElem?_eq_getElem hi] at h2 ⊢
    exact ⟨_, rfl, h2⟩
theorem struct_of {P : Program} {t : TypeId} {l : List (TypeId × Nat)} (hf : fieldsOf P t = some l) : ∃ fs, P.underlying t = some (.struct fs) := by
  unfold fieldsOf at hf
  cases hu : P.underlying t with
  | none => simp [hu] at hf
  | some d =>
    cases d <;> simp only [hu] at hf <;> first | (cases hf; done) | skip
    exact ⟨_, rfl⟩
theorem cut (l : List Value) (a b : Nat) : l.drop a = (l.drop a).take b ++ l.drop (a + b) := by
  rw [← List.drop_drop, List.take_append_drop]
theorem mem_bulk {l : List (DataW H × List MemPlace)} {i : Nat} {y : DataW H × List MemPlace} (h : l[i]? = some y) : Rows.uptoBulk y.1 ≤ Rows.uptoBulk (DataW.agg (l.map (·.1))) := by
  have : Rows.uptoBulk y.1 ≤ Rows.uptoBulkAll (l.map (·.1)) := by
    induction l generalizing i with
    | nil => simp at h
    | cons x l ih =>
      simp only [List.map_cons, Rows.uptoBulkAll]
      cases i with
      | zero => simp only [List.getElem?_cons_zero, Option.some.injEq] at h; subst h; omega
      | succ i => have := ih (i := i) (by simpa using h); omega
  simp only [Rows.uptoBulk]; omega
theorem i64_of {n : Int} (hw : (Lit.int .i64 n).wf = true) : -9223372036854775808 ≤ n ∧ n ≤ 9223372036854775807 := by
  simp only [Lit.wf, Bool.and_eq_true, decide_eq_true_eq] at hw
  simpa [IntKind.min, IntKind.max, IntKind.signed, IntKind.bits] using hw
theorem open_int {P : Program} {W : World} {b0 : Nat} {rr : Reach} {t : TypeId} {v : Value} {d : DataW H} {ps : List MemPlace} (ht : P.underlying t = some (.int .i64)) (hval : Value.okWide P W rr b0 t v) (h : DataW.Trod enc P W 0 (fun _ => true) true t v d ps) :
    ∃ n : Int, v = .int .i64 n ∧ -9223372036854775808 ≤ n ∧ n ≤ 9223372036854775807 := by
  obtain ⟨n, rfl⟩ := okWide_int ht hval
  obtain ⟨fuel, h⟩ := h
  obtain ⟨m, e0, _, hm⟩ := DataW.trod_int ht h
  have e1 : Value.int .i64 n = .int .i64 m := by simpa [Value.cells] using e0
  cases e1
  exact ⟨_, rfl, i64_of hm⟩
theorem open_hash1 {P : Program} {W : World} {b0 : Nat} {rr : Reach} {t e : TypeId} {v : Value} {d : DataW H} {ps : List MemPlace} (ht : P.underlying t = some (.array 32 e)) (he : P.underlying e = some (.int .u8)) (hc : P.cellsOf e = 1) (hc2 : P.cellsOf t = 32)
    (hval : Value.okWide P W rr b0 t v) (h : DataW.Trod enc P W 0 (fun _ => true) true t v d ps) : ∃ y : Sha.Hs, v = .agg (y.map Sha.bv).toArray ∧ y.length = 32 := by
  simp only [Value.okWide, ht] at hval
  obtain ⟨cs, rfl, _, _⟩ := hval
  obtain ⟨fuel, h⟩ := h
  obtain ⟨y, hy, e⟩ := open_hash ht he hc hc2 h
  refine ⟨y, ?_, hy⟩
  rw [← e]; simp [Value.cells]
theorem open_hashes1 {P : Program} {W : World} {b0 : Nat} {rr : Reach} {t q e : TypeId} {v : Value} {d : DataW H} {ps : List MemPlace} (ht : P.underlying t = some (.slice q)) (hq : P.underlying q = some (.array 32 e)) (he : P.underlying e = some (.int .u8)) (hc : P.cellsOf e = 1) (hc2 : P.cellsOf q = 32)
    (hval : Value.okWide P W rr b0 t v) (h : DataW.Trod enc P W 0 (fun _ => true) true t v d ps) : ∃ va vc, ∃ L : List Sha.Hs, v = .slice va L.length vc ∧ Sha.HR W.heap va vc L.length L ∧ (0 < L.length → ∀ k, va.map (fun (x : Addr) => x.block) = some k → k < W.heap.size) ∧ L.length + 1 ≤ Rows.uptoBulk d := by
  obtain ⟨a0, l0, c0, rfl⟩ := okWide_slice ht hval
  obtain ⟨fuel, h⟩ := h
  obtain ⟨va, vc, L, e0, e1, e2, e3⟩ := open_hashes ht hq he hc hc2 h
  have e : Value.slice a0 l0 c0 = .slice va L.length vc := by simpa [Value.cells] using e0
  cases e
  exact ⟨_, _, L, rfl, e1, e2, e3⟩
end
end Go.Proofs.Ytlghdimpgfhmcaa
