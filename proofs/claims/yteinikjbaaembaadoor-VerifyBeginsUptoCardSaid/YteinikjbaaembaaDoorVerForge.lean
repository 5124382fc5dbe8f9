/- What is held is what stands there, or two pairs with one Node. No condition but those that each theorem names. -/
import Derived.Test.YteinikjbaaembaaDoorVerProof
namespace Go.Sha
open Go Go.Lane
/-- two unlike pairs with one Node, on the way of a proof -/
def colF (x : Hs) : Nat → Nat → List Hs → List Hs → Bool
  | 0, _, _, _ => false
  | f + 1, m, L, r => if L.length < 2 ∨ r.length = 0 then false else
      if m < half L.length then
        if (upV x m (half L.length) (initH r)).1 = root (L.take (half L.length)) ∧ lastH r = root (L.drop (half L.length)) then colF x f m (L.take (half L.length)) (initH r)
        else decide (nodeH (upV x m (half L.length) (initH r)).1 (lastH r) = nodeH (root (L.take (half L.length))) (root (L.drop (half L.length))))
      else
        if (upV x (m - half L.length) (L.length - half L.length) (initH r)).1 = root (L.drop (half L.length)) ∧ lastH r = root (L.take (half L.length)) then colF x f (m - half L.length) (L.drop (half L.length)) (initH r)
        else decide (nodeH (lastH r) (upV x (m - half L.length) (L.length - half L.length) (initH r)).1 = nodeH (root (L.take (half L.length))) (root (L.drop (half L.length))))
def colB (x : Hs) (m : Nat) (L r : List Hs) : Bool := colF x (r.length + 1) m L r
theorem col_no {x : Hs} {m : Nat} {L r : List Hs} (h : L.length < 2 ∨ r.length = 0) : colB x m L r = false := by unfold colB colF; rw [if_pos h]
theorem col_lo {x : Hs} {m : Nat} {L r : List Hs} (h2 : 2 ≤ L.length) (hr : 0 < r.length) (hm : m < half L.length) : colB x m L r =
    if (upV x m (half L.length) (initH r)).1 = root (L.take (half L.length)) ∧ lastH r = root (L.drop (half L.length)) then colB x m (L.take (half L.length)) (initH r)
    else decide (nodeH (upV x m (half L.length) (initH r)).1 (lastH r) = nodeH (root (L.take (half L.length))) (root (L.drop (half L.length)))) := by
  unfold colB
  rw [initH_len, show r.length - 1 + 1 = r.length by omega]
  conv => lhs; unfold colF
  rw [if_neg (by omega), if_pos hm]
theorem col_hi {x : Hs} {m : Nat} {L r : List Hs} (h2 : 2 ≤ L.length) (hr : 0 < r.length) (hm : ¬ m < half L.length) : colB x m L r =
    if (upV x (m - half L.length) (L.length - half L.length) (initH r)).1 = root (L.drop (half L.length)) ∧ lastH r = root (L.take (half L.length)) then colB x (m - half L.length) (L.drop (half L.length)) (initH r)
    else decide (nodeH (lastH r) (upV x (m - half L.length) (L.length - half L.length) (initH r)).1 = nodeH (root (L.take (half L.length))) (root (L.drop (half L.length)))) := by
  unfold colB
  rw [initH_len, show r.length - 1 + 1 = r.length by omega]
  conv => lhs; unfold colF
  rw [if_neg (by omega), if_neg hm]
theorem forged : ∀ (k : Nat) (x : Hs) (L r : List Hs) (m : Nat), L.length ≤ k → m < L.length → upV x m L.length r = (root L, true) → x = L.getD m [] ∨ colB x m L r = true
  | 0, x, L, r, m, hk, hm, h => by omega
  | k + 1, x, L, r, m, hk, hm, h => by
    by_cases h1 : L.length = 1
    · rw [h1, up_one] at h
      have hm0 : m = 0 := by omega
      left; rw [hm0, root_one' h1]; exact congrArg Prod.fst h
    · have hr : 0 < r.length := by
        apply Nat.pos_of_ne_zero; intro e
        rw [up_none h1 e] at h; exact absurd (congrArg Prod.snd h) (by simp)
      have hp := half_pos L.length
      have hl := half_lt (n := L.length) (by omega)
      have htl : (L.take (half L.length)).length = half L.length := by rw [List.length_take]; omega
      have hdl : (L.drop (half L.length)).length = L.length - half L.length := List.length_drop
      have hroot := root_half rfl (by omega : 2 ≤ L.length)
      by_cases hlo : m < half L.length
      · rw [up_lo h1 hr hlo] at h
        have hn : nodeH (upV x m (half L.length) (initH r)).1 (lastH r) = root L := congrArg Prod.fst h
        have ho : (upV x m (half L.length) (initH r)).2 = true := congrArg Prod.snd h
        rw [col_lo (by omega) hr hlo]
        by_cases hc : (upV x m (half L.length) (initH r)).1 = root (L.take (half L.length)) ∧ lastH r = root (L.drop (half L.length))
        · rw [if_pos hc]
          have ih := forged k x (L.take (half L.length)) (initH r) m (by omega) (by omega) (by rw [htl]; exact Prod.ext hc.1 ho)
          have hg : (L.take (half L.length)).getD m [] = L.getD m [] := by simp [List.getD, List.getElem?_take_of_lt hlo]
          rwa [hg] at ih
        · rw [if_neg hc]; right; rw [hn, hroot]; simp
      · rw [up_hi h1 hr hlo] at h
        have hn : nodeH (lastH r) (upV x (m - half L.length) (L.length - half L.length) (initH r)).1 = root L := congrArg Prod.fst h
        have ho : (upV x (m - half L.length) (L.length - half L.length) (initH r)).2 = true := congrArg Prod.snd h
        rw [col_hi (by omega) hr hlo]
        by_cases hc : (upV x (m - half L.length) (L.length - half L.length) (initH r)).1 = root (L.drop (half L.length)) ∧ lastH r = root (L.take (half L.length))
        · rw [if_pos hc]
          have ih := forged k x (L.drop (half L.length)) (initH r) (m - half L.length) (by omega) (by omega) (by rw [hdl]; exact Prod.ext hc.1 ho)
          have hg : (L.drop (half L.length)).getD (m - half L.length) [] = L.getD m [] := by
            simp only [List.getD, List.getElem?_drop]; rw [show half L.length + (m - half L.length) = m by omega]
          rwa [hg] at ih
        · rw [if_neg hc]; right; rw [hn, hroot]; simp
theorem inclB_parts {x t : Hs} {m n : Nat} {r : List Hs} (h : m < n) (hb : inclB x m n r t = true) : upV x m n r = (t, true) := by
  rw [inclB_yes h] at hb
  simp only [Bool.and_eq_true, decide_eq_true_eq] at hb
  exact Prod.ext hb.2 hb.1
end Go.Sha
namespace Go.Sha
open Go Go.Lane
/-- the parts of a beginning's proof that are not those of the leaves, with the same Node -/
def prtF (a : Hs) : Nat → Nat → List Hs → List Hs → Bool → Bool
  | 0, _, _, _, _ => false
  | f + 1, m, L, r, w => if L.length ≤ m ∨ r.length = 0 then false else
      if m ≤ half L.length then
        if (twV a m (half L.length) (initH r) w).2.1 = root (L.take (half L.length)) ∧ lastH r = root (L.drop (half L.length)) then prtF a f m (L.take (half L.length)) (initH r) w
        else decide (nodeH (twV a m (half L.length) (initH r) w).2.1 (lastH r) = nodeH (root (L.take (half L.length))) (root (L.drop (half L.length))))
      else
        if (twV a (m - half L.length) (L.length - half L.length) (initH r) false).2.1 = root (L.drop (half L.length)) ∧ lastH r = root (L.take (half L.length)) then prtF a f (m - half L.length) (L.drop (half L.length)) (initH r) false
        else decide (nodeH (lastH r) (twV a (m - half L.length) (L.length - half L.length) (initH r) false).2.1 = nodeH (root (L.take (half L.length))) (root (L.drop (half L.length))))
def prtB (a : Hs) (m : Nat) (L r : List Hs) (w : Bool) : Bool := prtF a (r.length + 1) m L r w
theorem prt_no {a : Hs} {m : Nat} {L r : List Hs} {w : Bool} (h : L.length ≤ m ∨ r.length = 0) : prtB a m L r w = false := by unfold prtB prtF; rw [if_pos h]
theorem prt_lo {a : Hs} {m : Nat} {L r : List Hs} {w : Bool} (h2 : m < L.length) (hr : 0 < r.length) (hm : m ≤ half L.length) : prtB a m L r w =
    if (twV a m (half L.length) (initH r) w).2.1 = root (L.take (half L.length)) ∧ lastH r = root (L.drop (half L.length)) then prtB a m (L.take (half L.length)) (initH r) w
    else decide (nodeH (twV a m (half L.length) (initH r) w).2.1 (lastH r) = nodeH (root (L.take (half L.length))) (root (L.drop (half L.length)))) := by
  unfold prtB
  rw [initH_len, show r.length - 1 + 1 = r.length by omega]
  conv => lhs; unfold prtF
  rw [if_neg (by omega), if_pos hm]
theorem prt_hi {a : Hs} {m : Nat} {L r : List Hs} {w : Bool} (h2 : m < L.length) (hr : 0 < r.length) (hm : ¬ m ≤ half L.length) : prtB a m L r w =
    if (twV a (m - half L.length) (L.length - half L.length) (initH r) false).2.1 = root (L.drop (half L.length)) ∧ lastH r = root (L.take (half L.length)) then prtB a (m - half L.length) (L.drop (half L.length)) (initH r) false
    else decide (nodeH (lastH r) (twV a (m - half L.length) (L.length - half L.length) (initH r) false).2.1 = nodeH (root (L.take (half L.length))) (root (L.drop (half L.length)))) := by
  unfold prtB
  rw [initH_len, show r.length - 1 + 1 = r.length by omega]
  conv => lhs; unfold prtF
  rw [if_neg (by omega), if_neg hm]
theorem begins_at : ∀ (k : Nat) (a A : Hs) (L r : List Hs) (m : Nat) (w : Bool), L.length ≤ k → 0 < m → m ≤ L.length → twV a m L.length r w = (A, root L, true) → A = root (L.take m) ∨ prtB a m L r w = true
  | 0, a, A, L, r, m, w, hk, h0, hm, h => by omega
  | k + 1, a, A, L, r, m, w, hk, h0, hm, h => by
    by_cases hall : m = L.length ∧ w = true
    · rw [tw_all hall] at h
      left; rw [List.take_of_length_le (by omega)]
      have h1 : a = A := congrArg Prod.fst h
      have h2 : a = root L := congrArg (fun z => z.2.1) h
      rw [← h1, h2]
    · have hr : 0 < r.length := by
        apply Nat.pos_of_ne_zero; intro e
        rw [tw_none hall e] at h; exact absurd (congrArg (fun z => z.2.2) h) (by simp)
      by_cases he : m = L.length
      · rw [tw_end hall hr he] at h
        left; rw [List.take_of_length_le (by omega)]
        have h1 : lastH r = A := congrArg Prod.fst h
        have h2 : lastH r = root L := congrArg (fun z => z.2.1) h
        rw [← h1, h2]
      · have hp := half_pos L.length
        have hl := half_lt (n := L.length) (by omega)
        have htl : (L.take (half L.length)).length = half L.length := by rw [List.length_take]; omega
        have hdl : (L.drop (half L.length)).length = L.length - half L.length := List.length_drop
        have hroot := root_half rfl (by omega : 2 ≤ L.length)
        by_cases hlo : m ≤ half L.length
        · rw [tw_lo hr he hlo] at h
          have hA : (twV a m (half L.length) (initH r) w).1 = A := congrArg Prod.fst h
          have hn : nodeH (twV a m (half L.length) (initH r) w).2.1 (lastH r) = root L := congrArg (fun z => z.2.1) h
          have ho : (twV a m (half L.length) (initH r) w).2.2 = true := congrArg (fun z => z.2.2) h
          rw [prt_lo (by omega) hr hlo]
          by_cases hc : (twV a m (half L.length) (initH r) w).2.1 = root (L.take (half L.length)) ∧ lastH r = root (L.drop (half L.length))
          · rw [if_pos hc]
            have ih := begins_at k a A (L.take (half L.length)) (initH r) m w (by omega) h0 (by omega) (by rw [htl]; exact Prod.ext hA (Prod.ext hc.1 ho))
            have htt : (L.take (half L.length)).take m = L.take m := by rw [List.take_take, Nat.min_eq_left hlo]
            rwa [htt] at ih
          · rw [if_neg hc]; right; rw [hn, hroot]; simp
        · rw [tw_hi hr he hlo] at h
          have hA : nodeH (lastH r) (twV a (m - half L.length) (L.length - half L.length) (initH r) false).1 = A := congrArg Prod.fst h
          have hn : nodeH (lastH r) (twV a (m - half L.length) (L.length - half L.length) (initH r) false).2.1 = root L := congrArg (fun z => z.2.1) h
          have ho : (twV a (m - half L.length) (L.length - half L.length) (initH r) false).2.2 = true := congrArg (fun z => z.2.2) h
          rw [prt_hi (by omega) hr hlo]
          by_cases hc : (twV a (m - half L.length) (L.length - half L.length) (initH r) false).2.1 = root (L.drop (half L.length)) ∧ lastH r = root (L.take (half L.length))
          · rw [if_pos hc]
            have ih := begins_at k a (twV a (m - half L.length) (L.length - half L.length) (initH r) false).1 (L.drop (half L.length)) (initH r) (m - half L.length) false (by omega) (by omega) (by omega) (by rw [hdl]; exact Prod.ext rfl (Prod.ext hc.1 ho))
            rcases ih with ih | ih
            · left
              have hml : (L.take m).length = m := by rw [List.length_take]; omega
              have hg := half_ge (n := L.length)
              have hh : half m = half L.length := by
                have : half L.length = 2 ^ (L.length - 1).log2 := rfl
                rw [this] at hlo hg ⊢
                exact half_eq (by omega) (by omega)
              have hr2 : root (L.take m) = nodeH (root (L.take (half L.length))) (root ((L.drop (half L.length)).take (m - half L.length))) := by
                rw [← root_half hml (by omega), hh, List.take_take, Nat.min_eq_left (by omega), List.drop_take]
              rw [← hA, ih, hr2, hc.2]
            · exact .inr ih
          · rw [if_neg hc]; right; rw [hn, hroot]; simp
theorem begins {a : Hs} {L r : List Hs} {m : Nat} (hm : m ≤ L.length) (h : consB m L.length a (root L) r = true) : a = root (L.take m) ∨ (0 < m ∧ prtB a m L r true = true) := by
  rcases Nat.eq_zero_or_pos m with rfl | h0
  · rw [consB_zero] at h
    simp only [Bool.and_eq_true, decide_eq_true_eq] at h
    left; rw [List.take_zero]; exact h.2.1
  · rw [consB_yes h0 hm] at h
    simp only [Bool.and_eq_true, decide_eq_true_eq] at h
    exact (begins_at _ a a L r m true (Nat.le_refl _) h0 hm (Prod.ext h.2.1 (Prod.ext h.2.2 h.1))).imp id fun z => ⟨h0, z⟩
end Go.Sha
namespace Go.Sha
theorem fresh_cases {m n k : Nat} (hmn : m ≤ n) (whole : Bool) : (m = n ∧ whole = true) ∨ (m = n ∧ whole = false ∧ k = 0) ∨ (m = n ∧ whole = false ∧ 0 < k) ∨ (m < n ∧ k = 0) ∨ (m < n ∧ 0 < k) := by
  rcases Nat.lt_or_ge m n with z | z
  · rcases Nat.eq_zero_or_pos k with y | y
    · exact .inr (.inr (.inr (.inl ⟨z, y⟩)))
    · exact .inr (.inr (.inr (.inr ⟨z, y⟩)))
  · cases whole
    · rcases Nat.eq_zero_or_pos k with y | y
      · exact .inr (.inl ⟨by omega, rfl, y⟩)
      · exact .inr (.inr (.inl ⟨by omega, rfl, y⟩))
    · exact .inl ⟨by omega, rfl⟩
end Go.Sha
