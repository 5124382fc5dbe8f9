/- The roots of beginnings. No condition but those that each theorem names. -/
import Derived.Test.YteinikjbaaembaaDoorVerProof
namespace Go.Sha
open Go Go.Lane
/-- the roots of the beginnings of K, up to the one of i leaves -/
def rts (K : List Hs) (i : Nat) : List Hs := (List.range (i + 1)).map fun j => root (K.take j)
theorem rts_len (K : List Hs) (i : Nat) : (rts K i).length = i + 1 := by simp [rts]
theorem rts_next (K : List Hs) (i : Nat) : rts K i ++ [root (K.take (i + 1))] = rts K (i + 1) := by
  unfold rts; rw [List.range_succ (n := i + 1), List.map_append]; rfl
theorem rts_get {K : List Hs} {i j : Nat} (h : j ≤ i) : (rts K i).getD j [] = root (K.take j) := by
  simp [rts, List.getD, show j < i + 1 by omega]
theorem rts_32 {K : List Hs} (h : All32 K) (i : Nat) : All32 (rts K i) := fun y hy => by
  obtain ⟨j, _, rfl⟩ := List.mem_map.1 hy; exact root_len (h.take _)
theorem HR.takeE {h : Heap} {va : Option Addr} {vc n k : Nat} {L K : List Hs} (r : HR h va vc n L) (hK : L.take k = K) (hk : k ≤ n) : HR h va vc k K := hK ▸ r.take hk
theorem rts_loads {P : Program} {h : Heap} {T : TypeId} {a : Addr} {vc n k q : Nat} {K : List Hs} {i : Nat} (r : HR h (some a) vc n (rts K i)) (ht : aggTy P T = some (true, 32)) (hn : n = i + 1) (hk : k ≤ i) (hq : q = k * 32) : Loads P h T (a.add q) (.agg ((root (K.take k)).map bv).toArray) := by
  have := r.loads (k := k) (q := q) ht (by omega) hq
  rwa [rts_get hk] at this
theorem cons_heldK {K Q : List Hs} {m n : Nat} (hn : n ≤ K.length) (hm : m ≤ n) (hQ : (consZ (K.take n) m).1 = Q) : consB m n (root (K.take m)) (root (K.take n)) Q = true := by
  have := cons_heldN (L := K.take n) (n := n) (by rw [List.length_take]; omega) hm hQ
  rwa [List.take_take, Nat.min_eq_left hm] at this
theorem incl_heldK {K P : List Hs} {m n : Nat} (hn : n ≤ K.length) (hm : m < n) (hP : incl (K.take n) m = P) : inclB (K.getD m []) m n P (root (K.take n)) = true := by
  have := incl_heldN (L := K.take n) (n := n) (by rw [List.length_take]; omega) hm hP
  have hg : (K.take n).getD m [] = K.getD m [] := by simp [List.getD, List.getElem?_take_of_lt hm]
  rwa [hg] at this
end Go.Sha
