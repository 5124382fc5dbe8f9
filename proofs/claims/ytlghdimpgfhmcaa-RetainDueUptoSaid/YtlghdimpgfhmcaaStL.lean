/- Places that are apart. No condition but those that each theorem names. -/
import Derived.Test.YtlghdimpgfhmcaaHashEq
namespace Go.Sha
open Go Go.Lane
/-- a State that has taken l -/
def StL (h : Heap) (b : Nat) (o : Option Nat) (l : List UInt8) : Prop := StA h b o (run H0 l) (rem l) l.length
theorem StL.gr {F : Nat → Prop} {h h' : Heap} {b : Nat} {o : Option Nat} {l : List UInt8} (s : StL h b o l) (g : Gr F h h') (hb : ¬ F b) (ho : ∀ k, o = some k → ¬ F k) : StL h' b o l := StA.gr s g hb ho
theorem StL.ext {h h' : Heap} {b : Nat} {o : Option Nat} {l : List UInt8} (s : StL h b o l) (g : Ext h h') : StL h' b o l := StA.ext s g
theorem StL.put {h h' : Heap} {b : Nat} {o x : Option Nat} {l : List UInt8} (s : StL h b o l) (g : Grew x h h') (hb : some b ≠ x) (ho : o = none ∨ o ≠ x) : StL h' b o l :=
  s.gr (Go.Sha.Grew.gr g) hb (fun k e hk => ho.elim (fun e' => by rw [e'] at e; cases e) (fun hne => hne (e.trans hk)))
theorem StL.lt {h : Heap} {b : Nat} {o : Option Nat} {l : List UInt8} (s : StL h b o l) : b < h.size ∧ ∀ k, o = some k → k < h.size := StA.lt s
theorem StL.ne {h : Heap} {b : Nat} {o : Option Nat} {l : List UInt8} (s : StL h b o l) : o ≠ some b := StA.ne s
theorem Gr.own {F : Nat → Prop} {h h' : Heap} {v : Value} {E : TypeId} {n sz : Nat} {xs : List Value} (g : Gr F h h') (w : Own h v E n sz xs) (hne : ∀ k, blkOf v = some k → ¬ F k) : Own h' v E n sz xs := by
  refine ⟨w.1, w.2.imp id ?_⟩
  rintro ⟨b, off, cap, l, e, hg, r⟩
  exact ⟨b, off, cap, l, e, g.blk hg (hne b (by rw [e]; rfl)), r⟩
theorem rem_le (l : List UInt8) : (rem l).length ≤ l.length := (rem_lt l.length l (Nat.le_refl _)).2.1
theorem sha_len (l : List UInt8) : (sha l).length = 32 := rfl
/-- '==' of two hashes that are the same, or are not -/
theorem eqHT {P : Program} {ops : Array Oper} {base : Nat → Value} {vals : Vals} {i : Nat} {q : Bool} {n : Nat} {l r : List UInt8} (hx : eqOp P ops base vals i = some (q, (l.map bv).toArray, (r.map bv).toArray, n)) (hl : l.length = n) (hr : r.length = n) (e : l = r) (h : Heap) :
    Go.Lane.Calm P ops base vals i h (.bool q) := by
  have := Calm.eqH hx hl hr h
  rwa [decide_eq_true e, show (true == q) = q by cases q <;> rfl] at this
theorem eqHF {P : Program} {ops : Array Oper} {base : Nat → Value} {vals : Vals} {i : Nat} {q : Bool} {n : Nat} {l r : List UInt8} (hx : eqOp P ops base vals i = some (q, (l.map bv).toArray, (r.map bv).toArray, n)) (hl : l.length = n) (hr : r.length = n) (e : l ≠ r) (h : Heap) :
    Go.Lane.Calm P ops base vals i h (.bool !q) := by
  have := Calm.eqH hx hl hr h
  rwa [decide_eq_false e, show (false == q) = !q by cases q <;> rfl] at this
theorem eqH1 {P : Program} {ops : Array Oper} {base : Nat → Value} {vals : Vals} {i : Nat} {n : Nat} {l r : List UInt8} (hx : eqOp P ops base vals i = some (true, (l.map bv).toArray, (r.map bv).toArray, n)) (hl : l.length = n) (hr : r.length = n) (h : Heap) :
    Go.Lane.Calm P ops base vals i h (.bool (decide (l = r))) := by
  have := Calm.eqH hx hl hr h
  rwa [show (decide (l = r) == true) = decide (l = r) by cases decide (l = r) <;> rfl] at this
theorem eqH0 {P : Program} {ops : Array Oper} {base : Nat → Value} {vals : Vals} {i : Nat} {n : Nat} {l r : List UInt8} (hx : eqOp P ops base vals i = some (false, (l.map bv).toArray, (r.map bv).toArray, n)) (hl : l.length = n) (hr : r.length = n) (h : Heap) :
    Go.Lane.Calm P ops base vals i h (.bool (!decide (l = r))) := by
  have := Calm.eqH hx hl hr h
  rwa [show (decide (l = r) == false) = !decide (l = r) by cases decide (l = r) <;> rfl] at this
/-- what of memory may be told apart: places that are all different, at or above lo, below hi -/
def Sep (lo hi : Nat) (l : List (Option Nat)) : Prop := (∀ x ∈ l, ∀ k, x = some k → lo ≤ k ∧ k < hi) ∧ l.Pairwise fun x y => ∀ k, x = some k → y ≠ some k
theorem Sep.nil (lo hi : Nat) : Sep lo hi [] := ⟨by simp, List.Pairwise.nil⟩
theorem Sep.up {lo n m : Nat} {l : List (Option Nat)} (s : Sep lo n l) (h : n ≤ m) : Sep lo m l := ⟨fun x hx k e => ⟨(s.1 x hx k e).1, Nat.lt_of_lt_of_le (s.1 x hx k e).2 h⟩, s.2⟩
theorem Sep.cons {lo n m : Nat} {l : List (Option Nat)} {x : Option Nat} (s : Sep lo n l) (h : n ≤ m) (h0 : lo ≤ n) (hx : ∀ k, x = some k → n ≤ k ∧ k < m) : Sep lo m (x :: l) :=
  ⟨fun y hy k e => by
    rcases List.mem_cons.1 hy with rfl | hy
    · have := hx k e; exact ⟨by omega, this.2⟩
    · exact (s.up h).1 y hy k e,
   List.pairwise_cons.2 ⟨fun y hy k e ey => by have := (s.1 y hy k ey).2; have := (hx k e).1; omega, s.2⟩⟩
theorem Sep.new {lo n m : Nat} {l : List (Option Nat)} (s : Sep lo n l) (h0 : lo ≤ n) (h : n < m) : Sep lo m (some n :: l) :=
  s.cons (Nat.le_of_lt h) h0 (fun k e => by cases e; exact ⟨Nat.le_refl _, h⟩)
theorem Sep.none {lo n : Nat} {l : List (Option Nat)} (s : Sep lo n l) (h0 : lo ≤ n) : Sep lo n (none :: l) := s.cons (Nat.le_refl _) h0 (fun k e => by cases e)
theorem Sep.ne {lo n : Nat} {l : List (Option Nat)} (s : Sep lo n l) {i j : Nat} {x y : Option Nat} (hx : l[i]? = some x) (hy : l[j]? = some y) (hij : i ≠ j) (k : Nat) (e : x = some k) : y ≠ some k := by
  obtain ⟨hi, rfl⟩ := List.getElem?_eq_some_iff.1 hx
  obtain ⟨hj, rfl⟩ := List.getElem?_eq_some_iff.1 hy
  rcases Nat.lt_or_gt_of_ne hij with h | h
  · exact List.pairwise_iff_getElem.1 s.2 i j hi hj h k e
  · intro e'; exact List.pairwise_iff_getElem.1 s.2 j i hj hi h k e' e
/-- one place or none, not the other -/
theorem Sep.ap {lo n : Nat} {l : List (Option Nat)} (s : Sep lo n l) (i j : Nat) {x y : Option Nat} (hx : l[i]? = some x := by rfl) (hy : l[j]? = some y := by rfl) (hij : i ≠ j := by decide) : x = Option.none ∨ x ≠ y := by
  cases x with
  | none => exact .inl rfl
  | some k => exact .inr fun e => s.ne hx hy hij k rfl e.symm
theorem Sep.bp {lo n : Nat} {l : List (Option Nat)} (s : Sep lo n l) (i j : Nat) {b : Nat} {y : Option Nat} (hx : l[i]? = some (some b) := by rfl) (hy : l[j]? = some y := by rfl) (hij : i ≠ j := by decide) : some b ≠ y := fun e => s.ne hx hy hij b rfl e.symm
theorem Sep.gF {lo n : Nat} {l : List (Option Nat)} (s : Sep lo n l) (i j m : Nat) {x o : Option Nat} {b : Nat} (hx : l[i]? = some x) (hb : l[j]? = some (some b)) (ho : l[m]? = some o) (hij : i ≠ j) (him : i ≠ m) : ∀ k, x = some k → ¬ (k = b ∨ some k = o) := by
  rintro k e (rfl | e')
  · exact s.ne hx hb hij _ e rfl
  · exact s.ne hx ho him _ e e'.symm
theorem Sep.low {lo n : Nat} {l : List (Option Nat)} (s : Sep lo n l) (i : Nat) {x : Option Nat} (hx : l[i]? = some x) : ∀ k, x = some k → lo ≤ k := by
  obtain ⟨hi, rfl⟩ := List.getElem?_eq_some_iff.1 hx
  exact fun k e => (s.1 _ (List.getElem_mem hi) k e).1
theorem Sep.lowF {lo n : Nat} {l : List (Option Nat)} (s : Sep lo n l) (j m : Nat) {o : Option Nat} {b : Nat} (hb : l[j]? = some (some b)) (ho : l[m]? = some o) : ∀ k, (k = b ∨ some k = o) → lo ≤ k := by
  rintro k (rfl | e)
  · exact s.low j hb _ rfl
  · exact s.low m ho _ e.symm
theorem Sep.lo_le {lo n : Nat} {l : List (Option Nat)} (s : Sep lo n l) (h : ∃ b, some b ∈ l) : lo ≤ n := by
  obtain ⟨b, hb⟩ := h
  have := s.1 _ hb b rfl
  omega
theorem Sep.zero {lo n : Nat} {l : List (Option Nat)} (s : Sep lo n l) (i : Nat) {x : Option Nat} (hx : l[i]? = some x) (h0 : 0 < lo) : some 0 ≠ x := fun e => by have := s.low i hx 0 e.symm; omega
theorem Sep.zeroF {lo n : Nat} {l : List (Option Nat)} (s : Sep lo n l) (j m : Nat) {o : Option Nat} {b : Nat} (hb : l[j]? = some (some b)) (ho : l[m]? = some o) (h0 : 0 < lo) : ¬ (0 = b ∨ some 0 = o) := fun h => by have := s.lowF j m hb ho 0 h; omega
theorem Sep.set {lo n m : Nat} {l : List (Option Nat)} (s : Sep lo n l) (h : n ≤ m) (h0 : lo ≤ n) (i : Nat) {x y : Option Nat} (hx : l[i]? = some x) (hy : y = x ∨ y = Option.none ∨ ∃ g, y = some g ∧ n ≤ g) (hlt : ∀ k, y = some k → k < m) : Sep lo m (l.set i y) := by
  obtain ⟨hi, rfl⟩ := List.getElem?_eq_some_iff.1 hx
  have up := s.up h
  refine ⟨fun z hz k e => ?_, ?_⟩
  · rcases List.mem_or_eq_of_mem_set hz with hz | rfl
    · exact up.1 z hz k e
    · rcases hy with rfl | rfl | ⟨g, rfl, hg⟩
      · exact up.1 _ (List.getElem_mem hi) k e
      · cases e
      · cases e; exact ⟨by omega, hlt _ rfl⟩
  · rw [List.pairwise_iff_getElem]
    intro a b ha hb hab k e e'
    simp only [List.length_set] at ha hb
    rw [List.getElem_set] at e e'
    have old := List.pairwise_iff_getElem.1 s.2 a b ha hb hab k
    split at e <;> split at e'
    · omega
    · rcases hy with rfl | rfl | ⟨g, rfl, hg⟩
      · subst i; exact old e e'
      · cases e
      · cases e; have := (s.1 _ (List.getElem_mem (l := l) (by omega)) _ e').2; omega
    · rcases hy with rfl | rfl | ⟨g, rfl, hg⟩
      · subst i; exact old e e'
      · cases e'
      · cases e'; have := (s.1 _ (List.getElem_mem (l := l) (by omega)) _ e).2; omega
    · exact old e e'
end Go.Sha
