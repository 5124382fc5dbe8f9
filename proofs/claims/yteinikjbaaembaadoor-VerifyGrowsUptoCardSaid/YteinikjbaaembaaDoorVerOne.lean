/- A root has one proof. No condition but those that each theorem names. -/
import Derived.Test.YteinikjbaaembaaDoorVerProof
namespace Go.Sha
open Go Go.Lane
theorem up_len_eq : ∀ (k : Nat) (x y : Hs) (m n : Nat) (r s : List Hs), r.length ≤ k → (upV x m n r).2 = true → (upV y m n s).2 = true → r.length = s.length
  | k, x, y, m, n, r, s, hk, hr, hs => by
    by_cases hn : n = 1
    · subst hn; rw [up_one] at hr hs; have := of_decide_eq_true hr; have := of_decide_eq_true hs; omega
    · by_cases r0 : r.length = 0
      · rw [up_none hn r0] at hr; cases hr
      · by_cases s0 : s.length = 0
        · rw [up_none hn s0] at hs; cases hs
        · cases k with
          | zero => omega
          | succ k =>
            have h1 := initH_len r
            have h2 := initH_len s
            by_cases hm : m < half n
            · rw [up_lo hn (by omega) hm] at hr hs
              have := up_len_eq k x y m (half n) (initH r) (initH s) (by omega) hr hs
              omega
            · rw [up_hi hn (by omega) hm] at hr hs
              have := up_len_eq k x y (m - half n) (n - half n) (initH r) (initH s) (by omega) hr hs
              omega
theorem tw_len_eq : ∀ (k : Nat) (a b : Hs) (m n : Nat) (r s : List Hs) (w : Bool), r.length ≤ k → (twV a m n r w).2.2 = true → (twV b m n s w).2.2 = true → r.length = s.length
  | k, a, b, m, n, r, s, w, hk, hr, hs => by
    by_cases hw : m = n ∧ w = true
    · rw [tw_all hw] at hr hs; have := of_decide_eq_true hr; have := of_decide_eq_true hs; omega
    · by_cases r0 : r.length = 0
      · rw [tw_none hw r0] at hr; cases hr
      · by_cases s0 : s.length = 0
        · rw [tw_none hw s0] at hs; cases hs
        · have h1 := initH_len r
          have h2 := initH_len s
          by_cases he : m = n
          · rw [tw_end hw (by omega) he] at hr hs; have := of_decide_eq_true hr; have := of_decide_eq_true hs; omega
          · cases k with
            | zero => omega
            | succ k =>
              by_cases hm : m ≤ half n
              · rw [tw_lo (by omega) he hm] at hr hs
                have := tw_len_eq k a b m (half n) (initH r) (initH s) w (by omega) hr hs
                omega
              · rw [tw_hi (by omega) he hm] at hr hs
                have := tw_len_eq k a b (m - half n) (n - half n) (initH r) (initH s) false (by omega) hr hs
                omega
section
variable {L P Q : List Hs} {m n : Nat}
theorem incl_wrong {x t : Hs} {r : List Hs} (hn : L.length = n) (hm : m < n) (hP : incl L m = P) (hl : r.length ≠ P.length) : inclB x m n r t = false := by
  subst hn; subst hP
  rw [inclB_yes hm]
  cases hok : (upV x m L.length r).2 with
  | false => rfl
  | true => exact absurd (up_len_eq _ x (L.getD m []) m L.length r _ (Nat.le_refl _) hok (by rw [up_incl _ L m (Nat.le_refl _) hm])) hl
theorem incl_other {t : Hs} (hn : L.length = n) (hm : m < n) (hP : incl L m = P) (ht : t ≠ root L) : inclB (L.getD m []) m n P t = false := by
  subst hn; subst hP
  rw [inclB_yes hm, up_incl _ L m (Nat.le_refl _) hm]
  simp [Ne.symm ht]
theorem incl_some (hn : L.length = n) (hm : m < n) (hP : incl L m = P) (h2 : 2 ≤ n) : 0 < P.length := by
  subst hn; subst hP
  rcases Nat.eq_zero_or_pos (incl L m).length with h | h
  · have := up_incl _ L m (Nat.le_refl _) hm
    rw [up_none (by omega) h] at this
    have := congrArg Prod.snd this
    cases this
  · exact h
theorem cons_at0 (hn : L.length = n) (h0 : 0 < m) (hm : m < n) (hQ : (consZ L m).1 = Q) : Q = cons m L true ∧ twV (root (L.take m)) m n Q true = (root (L.take m), root L, true) := by
  subst hn; subst hQ
  rw [consZ_yes h0 hm]
  exact ⟨rfl, tw_cons _ L m true _ (Nat.le_refl _) h0 (by omega) (fun _ => rfl)⟩
theorem cons_some (hn : L.length = n) (h0 : 0 < m) (hm : m < n) (hQ : (consZ L m).1 = Q) : 0 < Q.length := by
  have h := (cons_at0 hn h0 hm hQ).2
  rcases Nat.eq_zero_or_pos Q.length with h1 | h1
  · rw [tw_none (by omega) h1] at h
    have := congrArg (fun x => x.2.2) h
    cases this
  · exact h1
theorem cons_wrong {a b : Hs} {r : List Hs} (hn : L.length = n) (h0 : 0 < m) (hm : m < n) (hQ : (consZ L m).1 = Q) (hl : r.length ≠ Q.length) : consB m n a b r = false := by
  have h := (cons_at0 hn h0 hm hQ).2
  rw [consB_yes h0 (by omega)]
  cases hok : (twV a m n r true).2.2 with
  | false => rfl
  | true => exact absurd (tw_len_eq _ a _ m n r _ true (Nat.le_refl _) hok (by rw [h])) hl
theorem cons_other {b : Hs} (hn : L.length = n) (h0 : 0 < m) (hm : m < n) (hQ : (consZ L m).1 = Q) (hb : b ≠ root L) : consB m n (root (L.take m)) b Q = false := by
  rw [consB_yes h0 (by omega), (cons_at0 hn h0 hm hQ).2]
  simp [Ne.symm hb]
end
end Go.Sha
