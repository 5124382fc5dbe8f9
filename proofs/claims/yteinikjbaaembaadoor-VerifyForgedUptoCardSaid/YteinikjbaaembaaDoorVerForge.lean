/- What is held is what stands there, or two pairs with one Node. No condition but those that each theorem names. -/
import Derived.Test.YteinikjbaaembaaDoorVerProof
namespace Go.Sha
open Go Go.Lane
/-- two unlike pairs with one Node, on the way of a proof -/
def colF (x : Hs) : Nat → Nat → List Hs → List Hs → Bool
  | 0, _, _, _ => false
  | f + 1, m, L, r => if L.length < 2 ∨ r.length = 0 then false else
      if m < half L.length then
        if (upV x m (half L.length) (initH r)).1 = root (L.take (half L.length)) ∧ lastH r = root (L.drop (half L.length)) then colF x f m (L.take (half L.length)) (initH r)
        else decide (nodeH (upV x m (half L.length) (initH r)).1 (lastH r) = nodeH (root (L.take (half L.length))) (root (L.drop (half L.length))))
      else
        if (upV x (m - half L.length) (L.length - half L.length) (initH r)).1 = root (L.drop (half L.length)) ∧ lastH r = root (L.take (half L.length)) then colF x f (m - half L.length) (L.drop (half L.length)) (initH r)
        else decide (nodeH (lastH r) (upV x (m - half L.length) (L.length - half L.length) (initH r)).1 = nodeH (root (L.take (half L.length))) (root (L.drop (half L.length))))
def colB (x : Hs) (m : Nat) (L r : List Hs) : Bool := colF x (r.length + 1) m L r
theorem col_no {x : Hs} {m : Nat} {L r : List Hs} (h : L.length < 2 ∨ r.length = 0) : colB x m L r = false := by unfold colB colF; rw [if_pos h]
theorem col_lo {x : Hs} {m : Nat} {L r : List Hs} (h2 : 2 ≤ L.length) (hr : 0 < r.length) (hm : m < half L.length) : colB x m L r =
    if (upV x m (half L.length) (initH r)).1 = root (L.take (half L.length)) ∧ lastH r = root (L.drop (half L.length)) then colB x m (L.take (half L.length)) (initH r)
    else decide (nodeH (upV x m (half L.length) (initH r)).1 (lastH r) = nodeH (root (L.take (half L.length))) (root (L.drop (half L.length)))) := by
  unfold colB
  rw [initH_len, show r.length - 1 + 1 = r.length by omega]
  conv => lhs; unfold colF
  rw [if_neg (by omega), if_pos hm]
theorem col_hi {x : Hs} {m : Nat} {L r : List Hs} (h2 : 2 ≤ L.length) (hr : 0 < r.length) (hm : ¬ m < half L.length) : colB x m L r =
    if (upV x (m - half L.length) (L.length - half L.length) (initH r)).1 = root (L.drop (half L.length)) ∧ lastH r = root (L.take (half L.length)) then colB x (m - half L.length) (L.drop (half L.length)) (initH r)
    else decide (nodeH (lastH r) (upV x (m - half L.length) (L.length - half L.length) (initH r)).1 = nodeH (root (L.take (half L.length))) (root (L.drop (half L.length)))) := by
  unfold colB
  rw [initH_len, show r.length - 1 + 1 = r.length by omega]
  conv => lhs; unfold colF
  rw [if_neg (by omega), if_neg hm]
theorem forged : ∀ (k : Nat) (x : Hs) (L r : List Hs) (m : Nat), L.length ≤ k → m < L.length → upV x m L.length r = (root L, true) → x = L.getD m [] ∨ colB x m L r = true
  | 0, x, L, r, m, hk, hm, h => by omega
  | k + 1, x, L, r, m, hk, hm, h => by
    by_cases h1 : L.length = 1
    · rw [h1, up_one] at h
      have hm0 : m = 0 := by omega
      left; rw [hm0, root_one' h1]; exact congrArg Prod.fst h
    · have hr : 0 < r.length := by
        apply Nat.pos_of_ne_zero; intro e
        rw [up_none h1 e] at h; exact absurd (congrArg Prod.snd h) (by simp)
      have hp := half_pos L.length
      have hl := half_lt (n := L.length) (by omega)
      have htl : (L.take (half L.length)).length = half L.length := by rw [List.length_take]; omega
      have hdl : (L.drop (half L.length)).length = L.length - half L.length := List.length_drop
      have hroot := root_half rfl (by omega : 2 ≤ L.length)
      by_cases hlo : m < half L.length
      · rw [up_lo h1 hr hlo] at h
        have hn : nodeH (upV x m (half L.length) (initH r)).1 (lastH r) = root L := congrArg Prod.fst h
        have ho : (upV x m (half L.length) (initH r)).2 = true := congrArg Prod.snd h
        rw [col_lo (by omega) hr hlo]
        by_cases hc : (upV x m (half L.length) (initH r)).1 = root (L.take (half L.length)) ∧ lastH r = root (L.drop (half L.length))
        · rw [if_pos hc]
          have ih := forged k x (L.take (half L.length)) (initH r) m (by omega) (by omega) (by rw [htl]; exact Prod.ext hc.1 ho)
          have hg : (L.take (half L.length)).getD m [] = L.getD m [] := by simp [List.getD, List.getElem?_take_of_lt hlo]
          rwa [hg] at ih
        · rw [if_neg hc]; right; rw [hn, hroot]; simp
      · rw [up_hi h1 hr hlo] at h
        have hn : nodeH (lastH r) (upV x (m - half L.length) (L.length - half L.length) (initH r)).1 = root L := congrArg Prod.fst h
        have ho : (upV x (m - half L.length) (L.length - half L.length) (initH r)).2 = true := congrArg Prod.snd h
        rw [col_hi (by omega) hr hlo]
        by_cases hc : (upV x (m - half L.length) (L.length - half L.length) (initH r)).1 = root (L.drop (half L.length)) ∧ lastH r = root (L.take (half L.length))
        · rw [if_pos hc]
          have ih := forged k x (L.drop (half L.length)) (initH r) (m - half L.length) (by omega) (by omega) (by rw [hdl]; exact Prod.ext hc.1 ho)
          have hg : (L.drop (half L.length)).getD (m - half L.length) [] = L.getD m [] := by
            simp only [List.getD, List.getElem?_drop]; rw [show half L.length + (m - half L.length) = m by omega]
          rwa [hg] at ih
        · rw [if_neg hc]; right; rw [hn, hroot]; simp
theorem inclB_parts {x t : Hs} {m n : Nat} {r : List Hs} (h : m < n) (hb : inclB x m n r t = true) : upV x m n r = (t, true) := by
  rw [inclB_yes h] at hb
  simp only [Bool.and_eq_true, decide_eq_true_eq] at hb
  exact Prod.ext hb.2 hb.1
end Go.Sha
