/- The laws of proofs held in plain Lean. No condition but those that each theorem names. -/
import Derived.Test.YtkjlafiefgbjpaaDoorVerMath
namespace Go.Sha
open Go Go.Lane
def rawc (m n : Int) (x y : Hs) (s : Value) : List Value := [.int .i64 m, .int .i64 n] ++ (x.map bv ++ (y.map bv ++ [s]))
theorem rawc_x {P : Program} {h : Heap} {T E : TypeId} {b : Nat} {m n : Int} {x y : Hs} {s : Value} (ht : aggTy P T = some (true, 32)) (hx : x.length = 32) (e : h[b]? = some (.cells (rawc m n x y s).toArray E)) : Loads P h T ⟨b, 2, none⟩ (.agg (x.map bv).toArray) := by
  refine Loads.blk (by rw [hlm hx]; exact ht) e ?_
  show (List.drop 2 (rawc m n x y s)).take _ = _
  show ((x.map bv ++ (y.map bv ++ [s]))).take _ = _
  exact List.take_left
theorem rawc_y {P : Program} {h : Heap} {T E : TypeId} {b : Nat} {m n : Int} {x y : Hs} {s : Value} (ht : aggTy P T = some (true, 32)) (hx : x.length = 32) (hy : y.length = 32) (e : h[b]? = some (.cells (rawc m n x y s).toArray E)) : Loads P h T ⟨b, 34, none⟩ (.agg (y.map bv).toArray) := by
  refine Loads.blk (by rw [hlm hy]; exact ht) e ?_
  show (List.drop 34 (rawc m n x y s)).take _ = _
  show (List.drop 32 (x.map bv ++ (y.map bv ++ [s]))).take _ = _
  rw [show 32 = (x.map bv).length from (hlm hx).symm, List.drop_left]
  exact List.take_left
theorem rawc_s {m n : Int} {x y : Hs} {s : Value} (hx : x.length = 32) (hy : y.length = 32) : (rawc m n x y s).toArray[66]? = some s := by
  rw [List.getElem?_toArray]
  show (x.map bv ++ (y.map bv ++ [s]))[64]? = some s
  rw [List.getElem?_append_right (by rw [hlm hx]; decide), hlm hx, List.getElem?_append_right (by rw [hlm hy]; decide), hlm hy]
  rfl
theorem i_one (x : Hs) : inclB x 0 1 [] x = true := by
  rw [show (0 : Int) = ((0 : Nat) : Int) from rfl, show (1 : Int) = ((1 : Nat) : Int) from rfl, inclB_yes (by decide), show upV x 0 1 [] = (x, true) from rfl]; simp
theorem i_more (x y : Hs) : inclB x 0 1 [y] x = false := by
  rw [show (0 : Int) = ((0 : Nat) : Int) from rfl, show (1 : Int) = ((1 : Nat) : Int) from rfl, inclB_yes (by decide), show upV x 0 1 [y] = (x, false) from rfl]; rfl
theorem i_three (x z : Hs) : inclB z 2 3 [x] (nodeH x z) = true := by
  rw [show (2 : Int) = ((2 : Nat) : Int) from rfl, show (3 : Int) = ((3 : Nat) : Int) from rfl, inclB_yes (by decide), up_hi (by decide) (by simp) (by decide)]
  show (true && decide (nodeH x z = nodeH x z)) = true
  simp
theorem i_first (x y z : Hs) : inclB x 0 3 [y, z] (nodeH (nodeH x y) z) = true := by
  rw [show (0 : Int) = ((0 : Nat) : Int) from rfl, show (3 : Int) = ((3 : Nat) : Int) from rfl, inclB_yes (by decide), up_lo (by decide) (by simp) (by decide), show initH [y, z] = [y] from rfl, half3, up_lo (by decide) (by simp) (by decide), show initH [y] = [] from rfl, half2]
  show (true && decide (nodeH (nodeH x y) z = nodeH (nodeH x y) z)) = true
  simp
theorem half4 : half 4 = 2 := by decide
theorem c_two (a z : Hs) : consB 2 3 a (nodeH a z) [z] = true := by
  rw [show (2 : Int) = ((2 : Nat) : Int) from rfl, show (3 : Int) = ((3 : Nat) : Int) from rfl, consB_yes (by decide) (by decide), tw_lo (by simp) (by decide) (by decide), show initH [z] = [] from rfl, half3, tw_all ⟨rfl, rfl⟩]
  show (true && (decide (a = a) && decide (nodeH a z = nodeH a z))) = true
  simp
theorem c_three (a z w : Hs) : consB 3 4 (nodeH a z) (nodeH a (nodeH z w)) [z, w, a] = true := by
  rw [show (3 : Int) = ((3 : Nat) : Int) from rfl, show (4 : Int) = ((4 : Nat) : Int) from rfl, consB_yes (by decide) (by decide), tw_hi (by simp) (by decide) (by decide), show initH [z, w, a] = [z, w] from rfl, half4, tw_lo (by simp) (by decide) (by decide), show initH [z, w] = [z] from rfl, show half (4 - 2) = 1 from half2, tw_end (by decide) (by simp) (by decide)]
  show (true && (decide (nodeH a z = nodeH a z) && decide (nodeH a (nodeH z w) = nodeH a (nodeH z w)))) = true
  simp
theorem c_same (x : Hs) : consB 3 3 x x [] = true := by
  rw [show (3 : Int) = ((3 : Nat) : Int) from rfl, consB_yes (by decide) (by decide), tw_all ⟨rfl, rfl⟩]
  show (true && (decide (x = x) && decide (x = x))) = true
  simp
theorem c_none (x : Hs) : consB 0 3 (root []) x [] = true := by
  rw [show (0 : Int) = ((0 : Nat) : Int) from rfl, show (3 : Int) = ((3 : Nat) : Int) from rfl, consB_zero]
  simp
theorem c_bad {x : Hs} (h : ¬ x = root []) : consB 0 3 x x [] = false := by
  rw [show (0 : Int) = ((0 : Nat) : Int) from rfl, show (3 : Int) = ((3 : Nat) : Int) from rfl, consB_zero, decide_eq_false h]
  simp
theorem one_ne0 : ¬ ([1, 0, 0, 0, 0, 0, 0, 0, 0, 0, 0, 0, 0, 0, 0, 0, 0, 0, 0, 0, 0, 0, 0, 0, 0, 0, 0, 0, 0, 0, 0, 0] : Hs) = root [] := by
  rw [root_nil]; show ¬ _ = fin H0 [] 0; rw [sha_nil]; decide
end Go.Sha
namespace Go.Sha
def hk1 : Hs := [1, 0, 0, 0, 0, 0, 0, 0, 0, 0, 0, 0, 0, 0, 0, 0, 0, 0, 0, 0, 0, 0, 0, 0, 0, 0, 0, 0, 0, 0, 0, 0]
def hk2 : Hs := [2, 0, 0, 0, 0, 0, 0, 0, 0, 0, 0, 0, 0, 0, 0, 0, 0, 0, 0, 0, 0, 0, 0, 0, 0, 0, 0, 0, 0, 0, 0, 0]
def hk3 : Hs := [3, 0, 0, 0, 0, 0, 0, 0, 0, 0, 0, 0, 0, 0, 0, 0, 0, 0, 0, 0, 0, 0, 0, 0, 0, 0, 0, 0, 0, 0, 0, 0]
def hk4 : Hs := [4, 0, 0, 0, 0, 0, 0, 0, 0, 0, 0, 0, 0, 0, 0, 0, 0, 0, 0, 0, 0, 0, 0, 0, 0, 0, 0, 0, 0, 0, 0, 0]
end Go.Sha
namespace Go.Sha
theorem one_ne : ¬ hk1 = root [] := one_ne0
end Go.Sha
