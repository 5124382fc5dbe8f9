/- A proof that is told is held. No condition but those that each theorem names. -/
import Derived.Test.YtkjlafiefgbjpaaDoorVerMath
namespace Go.Sha
open Go Go.Lane
theorem last_app (p : List Hs) (r : Hs) : lastH (p ++ [r]) = r := by simp [lastH, List.getD]
theorem init_app (p : List Hs) (r : Hs) : initH (p ++ [r]) = p := by simp [initH]
theorem up_incl : ∀ (k : Nat) (L : List Hs) (m : Nat), L.length ≤ k → m < L.length → upV (L.getD m []) m L.length (incl L m) = (root L, true)
  | 0, L, m, hk, hm => by omega
  | k + 1, L, m, hk, hm => by
    by_cases h1 : L.length = 1
    · rw [incl_one (by omega), h1, up_one]
      have hm0 : m = 0 := by omega
      rw [hm0, root_one' h1]; rfl
    · have hp := half_pos L.length
      have hl := half_lt (n := L.length) (by omega)
      by_cases hlo : m < half L.length
      · rw [incl_lo (by omega) hlo, up_lo h1 (by simp) hlo, init_app, last_app]
        have htl : (L.take (half L.length)).length = half L.length := by rw [List.length_take]; omega
        have ih := up_incl k (L.take (half L.length)) m (by omega) (by omega)
        have hg : (L.take (half L.length)).getD m [] = L.getD m [] := by simp [List.getD, List.getElem?_take_of_lt hlo]
        rw [htl, hg] at ih
        rw [ih, ← root_half rfl (by omega : 2 ≤ L.length)]
      · rw [incl_hi (by omega) (by omega), up_hi h1 (by simp) hlo, init_app, last_app]
        have htl : (L.drop (half L.length)).length = L.length - half L.length := List.length_drop
        have ih := up_incl k (L.drop (half L.length)) (m - half L.length) (by omega) (by omega)
        have hg : (L.drop (half L.length)).getD (m - half L.length) [] = L.getD m [] := by
          simp only [List.getD, List.getElem?_drop]; rw [show half L.length + (m - half L.length) = m by omega]
        rw [htl, hg] at ih
        rw [ih, ← root_half rfl (by omega : 2 ≤ L.length)]
theorem tw_cons : ∀ (k : Nat) (L : List Hs) (m : Nat) (w : Bool) (a : Hs), L.length ≤ k → 0 < m → m ≤ L.length → (w = true → a = root (L.take m)) → twV a m L.length (cons m L w) w = (root (L.take m), root L, true)
  | 0, L, m, w, a, hk, h0, hm, ha => by omega
  | k + 1, L, m, w, a, hk, h0, hm, ha => by
    by_cases he : m = L.length
    · have ht : L.take m = L := List.take_of_length_le (by omega)
      rw [cons_all h0 he]
      cases w with
      | true => rw [tw_all ⟨he, rfl⟩, ha rfl, ht]; rfl
      | false => rw [tw_end (by simp) (by simp) he, ht]; rfl
    · have hp := half_pos L.length
      have hl := half_lt (n := L.length) (by omega)
      have htl : (L.take (half L.length)).length = half L.length := by rw [List.length_take]; omega
      have hdl : (L.drop (half L.length)).length = L.length - half L.length := List.length_drop
      by_cases hlo : m ≤ half L.length
      · rw [cons_lo h0 (by omega) hlo, tw_lo (by simp) he hlo, init_app, last_app]
        have htt : (L.take (half L.length)).take m = L.take m := by rw [List.take_take, Nat.min_eq_left hlo]
        have ih := tw_cons k (L.take (half L.length)) m w a (by omega) h0 (by omega) (fun e => by rw [htt]; exact ha e)
        rw [htl, htt] at ih
        rw [ih, ← root_half rfl (by omega : 2 ≤ L.length)]
      · rw [cons_hi (by omega) (by omega), tw_hi (by simp) he hlo, init_app, last_app]
        have ih := tw_cons k (L.drop (half L.length)) (m - half L.length) false a (by omega) (by omega) (by omega) (fun e => by cases e)
        rw [hdl] at ih
        have hml : (L.take m).length = m := by rw [List.length_take]; omega
        have hg := half_ge (n := L.length)
        have hh : half m = half L.length := by
          have : half L.length = 2 ^ (L.length - 1).log2 := rfl
          rw [this] at hlo hg ⊢
          exact half_eq (by omega) (by omega)
        have hr : root (L.take m) = nodeH (root (L.take (half L.length))) (root ((L.drop (half L.length)).take (m - half L.length))) := by
          rw [← root_half hml (by omega), hh, List.take_take, Nat.min_eq_left (by omega), List.drop_take]
        rw [ih, hr, ← root_half rfl (by omega : 2 ≤ L.length)]
theorem incl_held {L : List Hs} {m : Nat} (hm : m < L.length) : inclB (L.getD m []) m L.length (incl L m) (root L) = true := by
  rw [inclB_yes hm, up_incl _ L m (Nat.le_refl _) hm]; simp
theorem cons_held {L : List Hs} {m : Nat} (hm : m ≤ L.length) : consB m L.length (root (L.take m)) (root L) (consZ L m).1 = true := by
  rcases Nat.eq_zero_or_pos m with h0 | h0
  · subst h0
    rw [consZ_ok (by omega) (.inl rfl), consB_zero]
    rcases Nat.eq_zero_or_pos L.length with h1 | h1
    · rw [List.eq_nil_of_length_eq_zero h1]; simp
    · simp [h1]
  · rcases Nat.lt_or_ge m L.length with h1 | h1
    · rw [consZ_yes h0 h1, consB_yes h0 (by omega), tw_cons _ L m true _ (Nat.le_refl _) h0 (by omega) (fun _ => rfl)]; simp
    · have he : m = L.length := by omega
      rw [consZ_ok (by omega) (.inr he), consB_yes h0 (by omega), tw_all ⟨he, rfl⟩, List.take_of_length_le (by omega)]; simp
end Go.Sha
namespace Go.Sha
open Go Go.Lane
theorem incl_heldN {L P : List Hs} {m n : Nat} (hn : L.length = n) (hm : m < n) (hP : incl L m = P) : inclB (L.getD m []) m n P (root L) = true := by
  subst hn; subst hP; exact incl_held hm
theorem cons_heldN {L Q : List Hs} {m n : Nat} (hn : L.length = n) (hm : m ≤ n) (hQ : (consZ L m).1 = Q) : consB m n (root (L.take m)) (root L) Q = true := by
  subst hn; subst hQ; exact cons_held hm
theorem consZ_pair {L Q : List Hs} {m n : Nat} (hn : L.length = n) (hm : m ≤ n) (hQ : (consZ L m).1 = Q) : consZ L (m : Int) = (Q, 0) := by
  subst hn; subst hQ
  rcases Nat.eq_zero_or_pos m with h0 | h0
  · rw [consZ_ok hm (.inl h0)]
  · rcases Nat.lt_or_ge m L.length with h1 | h1
    · rw [consZ_yes h0 h1]
    · rw [consZ_ok hm (.inr (by omega))]
theorem inclZ_pair {L P : List Hs} {m n : Nat} (hn : L.length = n) (hm : m < n) (hP : incl L m = P) : inclZ L (m : Int) = (P, 0) := by
  subst hn; subst hP; exact inclZ_yes hm
end Go.Sha
