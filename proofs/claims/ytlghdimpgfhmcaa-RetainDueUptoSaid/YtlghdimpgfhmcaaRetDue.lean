/- What is due, one after the other. No condition but those that each theorem names. -/
import Derived.Test.YtlghdimpgfhmcaaRetSort
namespace Go.Sha
open Go Go.Lane
/-! ### the first of those that are left, one after the other -/
theorem cb_eq : ∀ {a b : List UInt8}, Lib.compareBytes a b = 0 → a = b
  | [], [], _ => rfl
  | [], _ :: _, h => by simp [Lib.compareBytes] at h
  | _ :: _, [], h => by simp [Lib.compareBytes] at h
  | x :: a, y :: b, h => by
    unfold Lib.compareBytes at h
    by_cases h1 : x < y
    · simp [h1] at h
    · by_cases h2 : y < x
      · simp [h1, h2] at h
      · simp only [h1, h2, if_false] at h
        rw [UInt8.lt_iff_toNat_lt] at h1 h2
        rw [UInt8.toNat_inj.1 (show x.toNat = y.toNat by omega), cb_eq h]
theorem bl_iff : ∀ a b : List UInt8, Op.bytesLess a b = decide (Lib.compareBytes a b < 0)
  | [], [] => rfl
  | [], _ :: _ => rfl
  | _ :: _, [] => rfl
  | x :: a, y :: b => by
    unfold Lib.compareBytes Op.bytesLess
    by_cases h1 : x < y
    · simp [h1]
    · by_cases h2 : y < x
      · have hne : x ≠ y := by rintro rfl; exact h1 h2
        simp [h1, h2, hne]
      · have he : x = y := by
          rw [UInt8.lt_iff_toNat_lt] at h1 h2
          exact UInt8.toNat_inj.1 (by omega)
        subst he
        simp only [h1, if_false, decide_false, Bool.false_or, beq_self_eq_true, Bool.true_and]
        exact bl_iff a b
theorem str_lt {s t : ByteArray} (h : Lib.compareBytes s.data.toList t.data.toList < 0) : Op.bytesLess s.toList t.toList = true := by
  rw [ByteArray.toList_eq, ByteArray.toList_eq, bl_iff]; exact decide_eq_true h
theorem str_nlt {s t : ByteArray} (h : ¬ Lib.compareBytes s.data.toList t.data.toList < 0) : Op.bytesLess s.toList t.toList = false := by
  rw [ByteArray.toList_eq, ByteArray.toList_eq, bl_iff]; exact decide_eq_false h
theorem leR_e {r s : Rec} (h : r.e < s.e) : leR r s := (leR_iff r s).2 (.inl h)
theorem leR_id {r s : Rec} (h : r.e = s.e) (k : Lib.compareBytes r.b.id.data.toList s.b.id.data.toList ≤ 0) : leR r s := (leR_iff r s).2 (.inr ⟨h, k⟩)
def key (r : Rec) : Int × List UInt8 := (r.e, r.b.id.data.toList)
def leK (a b : Int × List UInt8) : Prop := a.1 < b.1 ∨ (a.1 = b.1 ∧ Lib.compareBytes a.2 b.2 ≤ 0)
theorem leK_anti {a b : Int × List UInt8} (h : leK a b) (k : leK b a) : a = b := by
  obtain ⟨e, s⟩ := a
  obtain ⟨f, t⟩ := b
  unfold leK at h k
  simp only at h k
  rcases h with h | ⟨h, h'⟩ <;> rcases k with k | ⟨k, k'⟩
  · omega
  · omega
  · omega
  · rw [cb_neg s t] at k'
    rw [h, cb_eq (show Lib.compareBytes s t = 0 by omega)]
theorem ids_key {M K : List Rec} (h : M.map key = K.map key) : ids M = ids K := by
  have e : ∀ L : List Rec, ids L = (L.map key).map fun x => ByteArray.mk x.2.toArray := fun L => by
    unfold ids; rw [List.map_map]; exact List.map_congr_left fun r _ => by simp [key]
  rw [e M, e K, h]
theorem pair_of {M : List Rec} (s : SrtOn M 0 M.length) : M.Pairwise leR := by
  rw [List.pairwise_iff_getElem]
  intro i j hi hj hij
  have := s i j (Nat.zero_le _) hij hj
  simpa [List.getD, hi, hj] using this
theorem ids_eq {M K : List Rec} (h : M.Perm K) (s : SrtOn M 0 M.length) (t : K.Pairwise leR) : ids M = ids K := by
  have hk : ∀ {L : List Rec}, L.Pairwise leR → (L.map key).Pairwise leK := fun h => List.Pairwise.map key (fun a b h => (leR_iff a b).1 h) h
  exact ids_key (List.Perm.eq_of_pairwise (fun a b _ _ => leK_anti) (hk (pair_of s)) (hk t) (h.map key))
structure Sel (F O D : List Rec) : Prop where
  perm : (O ++ D).Perm F
  srt : O.Pairwise leR
  cross : ∀ x ∈ O, ∀ y ∈ D, leR x y
theorem Sel.start (F : List Rec) : Sel F [] F := ⟨List.Perm.refl _, List.Pairwise.nil, fun x hx => by cases hx⟩
theorem split_at {D : List Rec} {f : Nat} (hf : f < D.length) : D = D.take f ++ D.getD f rec0 :: D.drop (f + 1) := by
  have e : D.getD f rec0 = D[f] := by simp [List.getD, hf]
  rw [e, ← List.drop_eq_getElem_cons hf, List.take_append_drop]
theorem Sel.step {F O D : List Rec} {f : Nat} (s : Sel F O D) (hf : f < D.length) (hm : ∀ j, j < D.length → leR (D.getD f rec0) (D.getD j rec0)) : Sel F (O ++ [D.getD f rec0]) (D.take f ++ D.drop (f + 1)) := by
  have hd := split_at hf
  have hin : ∀ y ∈ D.take f ++ D.drop (f + 1), y ∈ D := fun y hy => by
    rcases List.mem_append.1 hy with h | h
    · exact List.mem_of_mem_take h
    · exact List.mem_of_mem_drop h
  have hle : ∀ y ∈ D, leR (D.getD f rec0) y := fun y hy => by
    obtain ⟨j, hj, rfl⟩ := List.getElem_of_mem hy
    have := hm j hj
    rwa [show D.getD j rec0 = D[j] by simp [List.getD, hj]] at this
  refine ⟨List.Perm.trans ?_ s.perm, ?_, fun x hx y hy => ?_⟩
  · rw [List.append_assoc]
    refine List.Perm.append_left O ?_
    have : (D.getD f rec0 :: (D.take f ++ D.drop (f + 1))).Perm (D.take f ++ D.getD f rec0 :: D.drop (f + 1)) := List.perm_middle.symm
    rw [← hd] at this
    exact this
  · rw [List.pairwise_append]
    refine ⟨s.srt, List.pairwise_singleton _ _, fun x hx y hy => ?_⟩
    rw [List.mem_singleton.1 hy]
    exact s.cross x hx _ (getD_mem hf)
  · rcases List.mem_append.1 hx with h | h
    · exact s.cross x h y (hin y hy)
    · rw [List.mem_singleton.1 h]; exact hle y (hin y hy)
theorem Sel.end {F O D : List Rec} (s : Sel F O D) (h : D.length = 0) : O.Perm F := by
  have := s.perm
  rwa [List.eq_nil_of_length_eq_zero h, List.append_nil] at this
theorem Sel.len {F O D : List Rec} (s : Sel F O D) : O.length + D.length = F.length := by rw [← s.perm.length_eq, List.length_append]
theorem ids_snoc (O : List Rec) (r : Rec) : ids O ++ [r.b.id] = ids (O ++ [r]) := by simp [ids]
theorem ids_len (O : List Rec) : (ids O).length = O.length := by simp [ids]
theorem len_td {D : List Rec} {f : Nat} (hf : f < D.length) : (D.take f ++ D.drop (f + 1)).length + 1 = D.length := by
  rw [List.length_append, List.length_take, List.length_drop]; omega
end Go.Sha
namespace Go.Lane
open Go Go.Sha
theorem Row.fld {h : Heap} {a : Addr} {n m cap : Nat} {L : List Rec} {i j : Nat} {u : Value} (r : Row h (.slice (some a) n cap) m 39 (rrow L)) (hi : i < L.length) (hu : (rcs (L.getD i rec0))[j]? = some u) : hcell h (a.add (i * 39 + j)) = some u :=
  r.cells _ _ (fm_get (d := rec0) rcs_len hi hu)
theorem Row.str {h : Heap} {a : Addr} {n m cap : Nat} {l : List ByteArray} {i : Nat} (r : Row h (.slice (some a) n cap) m 1 (l.map Value.string)) (hi : i < l.length) : hcell h (a.add i) = some (.string (l.getD i ByteArray.empty)) :=
  r.cells _ _ (by simp [List.getD, hi])
theorem Own.takeR {h : Heap} {ad : Option Addr} {n cap E k : Nat} {L : List Rec} (o : Own h (.slice ad n cap) E n 39 (rrow L)) (hk : k ≤ n) : Row h (.slice ad k cap) k 39 (rrow (L.take k)) := by
  have := (o.take hk).row
  rwa [fm_take rcs_len] at this
theorem Own.dropR {h : Heap} {ad x : Option Addr} {n cap E k : Nat} {L : List Rec} (o : Own h (.slice ad n cap) E n 39 (rrow L)) (hk : k ≤ n) (e : x = if cap = k then ad else ad.map (·.add (k * 39))) : Row h (.slice x (n - k) (cap - k)) (n - k) 39 (rrow (L.drop k)) := by
  have := (o.drop k hk).row
  rw [← e] at this
  rwa [fm_drop rcs_len] at this
end Go.Lane
