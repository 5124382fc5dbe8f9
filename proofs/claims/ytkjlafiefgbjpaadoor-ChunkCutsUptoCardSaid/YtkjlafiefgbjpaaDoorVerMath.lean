/- The ways of proofs in plain Lean. No condition but those that each theorem names. -/
import Derived.Test.YtkjlafiefgbjpaaDoorLawTree
namespace Go.Sha
open Go Go.Lane
def lastH (r : List Hs) : Hs := r.getD (r.length - 1) []
def initH (r : List Hs) : List Hs := r.take (r.length - 1)
theorem initH_len (r : List Hs) : (initH r).length = r.length - 1 := by unfold initH; rw [List.length_take]; omega
def upF (x : Hs) : Nat → Nat → Nat → List Hs → Hs × Bool
  | 0, _, _, _ => (x, false)
  | f + 1, m, n, r => if n = 1 then (x, decide (r.length = 0)) else if r.length = 0 then (x, false) else
    if m < half n then (nodeH (upF x f m (half n) (initH r)).1 (lastH r), (upF x f m (half n) (initH r)).2)
    else (nodeH (lastH r) (upF x f (m - half n) (n - half n) (initH r)).1, (upF x f (m - half n) (n - half n) (initH r)).2)
def upV (x : Hs) (m n : Nat) (r : List Hs) : Hs × Bool := upF x (r.length + 1) m n r
theorem up_one (x : Hs) (m : Nat) (r : List Hs) : upV x m 1 r = (x, decide (r.length = 0)) := by unfold upV upF; rw [if_pos rfl]
theorem up_none {x : Hs} {m n : Nat} {r : List Hs} (hn : n ≠ 1) (h : r.length = 0) : upV x m n r = (x, false) := by unfold upV upF; rw [if_neg hn, if_pos h]
theorem up_lo {x : Hs} {m n : Nat} {r : List Hs} (hn : n ≠ 1) (h : 0 < r.length) (hm : m < half n) : upV x m n r = (nodeH (upV x m (half n) (initH r)).1 (lastH r), (upV x m (half n) (initH r)).2) := by
  unfold upV
  rw [initH_len, show r.length - 1 + 1 = r.length by omega]
  conv => lhs; unfold upF
  rw [if_neg hn, if_neg (by omega), if_pos hm]
theorem up_hi {x : Hs} {m n : Nat} {r : List Hs} (hn : n ≠ 1) (h : 0 < r.length) (hm : ¬ m < half n) : upV x m n r = (nodeH (lastH r) (upV x (m - half n) (n - half n) (initH r)).1, (upV x (m - half n) (n - half n) (initH r)).2) := by
  unfold upV
  rw [initH_len, show r.length - 1 + 1 = r.length by omega]
  conv => lhs; unfold upF
  rw [if_neg hn, if_neg (by omega), if_neg hm]
theorem half_le_pow {n d : Nat} (h2 : 2 ≤ n) (h : n ≤ 2 ^ (d + 1)) : half n ≤ 2 ^ d ∧ n - half n ≤ 2 ^ d := by
  have hg := half_ge (n := n)
  have hl : (n - 1).log2 < d + 1 := (Nat.log2_lt (by omega)).2 (by omega)
  have hh : half n ≤ 2 ^ d := by unfold half; exact Nat.pow_le_pow_right (by decide) (by omega)
  exact ⟨hh, by omega⟩
theorem up_depth : ∀ (d : Nat) (x : Hs) (m n : Nat) (r : List Hs), 1 ≤ n → n ≤ 2 ^ d → (upV x m n r).2 = true → r.length ≤ d
  | d, x, m, n, r, h1, hd, hok => by
    by_cases hn : n = 1
    · subst hn; rw [up_one] at hok; have := of_decide_eq_true hok; omega
    · by_cases hr : r.length = 0
      · omega
      · match d, hd with
        | 0, hd => simp at hd; omega
        | d + 1, hd =>
          obtain ⟨a1, a2⟩ := half_le_pow (by omega) hd
          have hp := half_pos n
          have hl := half_lt (n := n) (by omega)
          by_cases hm : m < half n
          · rw [up_lo hn (by omega) hm] at hok
            have := up_depth d x m (half n) (initH r) hp a1 hok
            rw [initH_len] at this; omega
          · rw [up_hi hn (by omega) hm] at hok
            have := up_depth d x (m - half n) (n - half n) (initH r) (by omega) a2 hok
            rw [initH_len] at this; omega
theorem up_len {x : Hs} {m n : Nat} {r : List Hs} (hx : x.length = 32) : (upV x m n r).1.length = 32 := by
  by_cases hn : n = 1
  · subst hn; rw [up_one]; exact hx
  · by_cases hr : r.length = 0
    · rw [up_none hn hr]; exact hx
    · by_cases hm : m < half n
      · rw [up_lo hn (by omega) hm]; rfl
      · rw [up_hi hn (by omega) hm]; rfl
/-- what a proof of a leaf says -/
def inclB (x : Hs) (m n : Int) (r : List Hs) (t : Hs) : Bool := decide (0 ≤ m ∧ m < n) && ((upV x m.toNat n.toNat r).2 && decide ((upV x m.toNat n.toNat r).1 = t))
theorem inclB_no {x : Hs} {m n : Int} {r : List Hs} {t : Hs} (h : m < 0 ∨ n ≤ m) : inclB x m n r t = false := by unfold inclB; rw [decide_eq_false (by omega)]; rfl
theorem inclB_yes {x : Hs} {m n : Nat} {r : List Hs} {t : Hs} (h : m < n) : inclB x m n r t = ((upV x m n r).2 && decide ((upV x m n r).1 = t)) := by unfold inclB; rw [decide_eq_true (by omega)]; rfl
theorem inclB_long {x : Hs} {m n : Nat} {r : List Hs} {t : Hs} (h : m < n) (hn : n ≤ 9223372036854775807) (hr : 64 < r.length) : inclB x m n r t = false := by
  rw [inclB_yes h]
  cases hok : (upV x m n r).2 with
  | false => rfl
  | true => have := up_depth 63 x m n r (by omega) (by omega) hok; omega
/-- the two ways -/
def twF (a : Hs) : Nat → Nat → Nat → List Hs → Bool → Hs × Hs × Bool
  | 0, _, _, _, _ => (a, a, false)
  | f + 1, m, n, r, w => if m = n ∧ w = true then (a, a, decide (r.length = 0)) else if r.length = 0 then (a, a, false) else
    if m = n then (lastH r, lastH r, decide ((initH r).length = 0)) else
    if m ≤ half n then ((twF a f m (half n) (initH r) w).1, nodeH (twF a f m (half n) (initH r) w).2.1 (lastH r), (twF a f m (half n) (initH r) w).2.2)
    else (nodeH (lastH r) (twF a f (m - half n) (n - half n) (initH r) false).1, nodeH (lastH r) (twF a f (m - half n) (n - half n) (initH r) false).2.1, (twF a f (m - half n) (n - half n) (initH r) false).2.2)
def twV (a : Hs) (m n : Nat) (r : List Hs) (w : Bool) : Hs × Hs × Bool := twF a (r.length + 1) m n r w
theorem tw_all {a : Hs} {m n : Nat} {r : List Hs} {w : Bool} (h : m = n ∧ w = true) : twV a m n r w = (a, a, decide (r.length = 0)) := by unfold twV twF; rw [if_pos h]
theorem tw_none {a : Hs} {m n : Nat} {r : List Hs} {w : Bool} (h : ¬ (m = n ∧ w = true)) (hr : r.length = 0) : twV a m n r w = (a, a, false) := by unfold twV twF; rw [if_neg h, if_pos hr]
theorem tw_end {a : Hs} {m n : Nat} {r : List Hs} {w : Bool} (h : ¬ (m = n ∧ w = true)) (hr : 0 < r.length) (he : m = n) : twV a m n r w = (lastH r, lastH r, decide ((initH r).length = 0)) := by
  unfold twV twF; rw [if_neg h, if_neg (by omega), if_pos he]
theorem tw_lo {a : Hs} {m n : Nat} {r : List Hs} {w : Bool} (hr : 0 < r.length) (he : m ≠ n) (hk : m ≤ half n) :
    twV a m n r w = ((twV a m (half n) (initH r) w).1, nodeH (twV a m (half n) (initH r) w).2.1 (lastH r), (twV a m (half n) (initH r) w).2.2) := by
  unfold twV
  rw [initH_len, show r.length - 1 + 1 = r.length by omega]
  conv => lhs; unfold twF
  rw [if_neg (fun h => he h.1), if_neg (by omega), if_neg he, if_pos hk]
theorem tw_hi {a : Hs} {m n : Nat} {r : List Hs} {w : Bool} (hr : 0 < r.length) (he : m ≠ n) (hk : ¬ m ≤ half n) :
    twV a m n r w = (nodeH (lastH r) (twV a (m - half n) (n - half n) (initH r) false).1, nodeH (lastH r) (twV a (m - half n) (n - half n) (initH r) false).2.1, (twV a (m - half n) (n - half n) (initH r) false).2.2) := by
  unfold twV
  rw [initH_len, show r.length - 1 + 1 = r.length by omega]
  conv => lhs; unfold twF
  rw [if_neg (fun h => he h.1), if_neg (by omega), if_neg he, if_neg hk]
theorem tw_depth : ∀ (d : Nat) (a : Hs) (m n : Nat) (r : List Hs) (w : Bool), 1 ≤ m → m ≤ n → n ≤ 2 ^ d → (twV a m n r w).2.2 = true → r.length ≤ d + 1
  | d, a, m, n, r, w, h1, hmn, hd, hok => by
    by_cases hr : r.length = 0
    · omega
    · by_cases he : m = n
      · by_cases hw : w = true
        · rw [tw_all ⟨he, hw⟩] at hok; have := of_decide_eq_true hok; omega
        · rw [tw_end (fun h => hw h.2) (by omega) he] at hok; have := of_decide_eq_true hok; rw [initH_len] at this; omega
      · match d, hd with
        | 0, hd => simp at hd; omega
        | d + 1, hd =>
          obtain ⟨a1, a2⟩ := half_le_pow (by omega) hd
          have hp := half_pos n
          have hl := half_lt (n := n) (by omega)
          by_cases hk : m ≤ half n
          · rw [tw_lo (by omega) he hk] at hok
            have := tw_depth d a m (half n) (initH r) w h1 hk a1 hok
            rw [initH_len] at this; omega
          · rw [tw_hi (by omega) he hk] at hok
            have := tw_depth d a (m - half n) (n - half n) (initH r) false (by omega) (by omega) a2 hok
            rw [initH_len] at this; omega
theorem last_len {r : List Hs} (h : All32 r) (hr : 0 < r.length) : (lastH r).length = 32 := h.get (by omega)
theorem init_32 {r : List Hs} (h : All32 r) : All32 (initH r) := h.take _
theorem tw_len : ∀ (k : Nat) {a : Hs} {m n : Nat} {r : List Hs} {w : Bool}, r.length ≤ k → a.length = 32 → All32 r → (twV a m n r w).1.length = 32 ∧ (twV a m n r w).2.1.length = 32
  | k, a, m, n, r, w, hk, ha, h => by
    by_cases hw : m = n ∧ w = true
    · rw [tw_all hw]; exact ⟨ha, ha⟩
    · by_cases hr : r.length = 0
      · rw [tw_none hw hr]; exact ⟨ha, ha⟩
      · match k, hk with
        | 0, hk => omega
        | k + 1, hk =>
          by_cases he : m = n
          · rw [tw_end hw (by omega) he]; exact ⟨last_len h (by omega), last_len h (by omega)⟩
          · by_cases hm : m ≤ half n
            · rw [tw_lo (by omega) he hm]
              exact ⟨(tw_len k (by rw [initH_len]; omega) ha (init_32 h)).1, rfl⟩
            · rw [tw_hi (by omega) he hm]; exact ⟨rfl, rfl⟩
def consB (m n : Int) (a b : Hs) (r : List Hs) : Bool :=
  if m < 0 ∨ n < m then false else if m = 0 then (decide (r.length = 0) && (decide (a = root []) && (decide (0 < n) || decide (a = b)))) else
    ((twV a m.toNat n.toNat r true).2.2 && (decide ((twV a m.toNat n.toNat r true).1 = a) && decide ((twV a m.toNat n.toNat r true).2.1 = b)))
theorem consB_no {m n : Int} {a b : Hs} {r : List Hs} (h : m < 0 ∨ n < m) : consB m n a b r = false := by unfold consB; rw [if_pos h]
theorem consB_zero {n : Nat} {a b : Hs} {r : List Hs} : consB ((0 : Nat) : Int) n a b r = (decide (r.length = 0) && (decide (a = root []) && (decide (0 < n) || decide (a = b)))) := by
  unfold consB; rw [if_neg (by omega), if_pos (by omega)]; congr 3; simp
theorem consB_yes {m n : Nat} {a b : Hs} {r : List Hs} (h0 : 0 < m) (h : m ≤ n) : consB m n a b r = ((twV a m n r true).2.2 && (decide ((twV a m n r true).1 = a) && decide ((twV a m n r true).2.1 = b))) := by
  unfold consB; rw [if_neg (by omega), if_neg (by omega)]; rfl
theorem consB_long {m n : Nat} {a b : Hs} {r : List Hs} (h : m ≤ n) (hn : n ≤ 9223372036854775807) (hr : 64 < r.length) : consB m n a b r = false := by
  rcases Nat.eq_zero_or_pos m with h0 | h0
  · subst h0; rw [consB_zero, decide_eq_false (by omega)]; rfl
  · rw [consB_yes h0 h]
    cases hok : (twV a m n r true).2.2 with
    | false => rfl
    | true => have := tw_depth 63 a m n r true h0 h (by omega) hok; omega
theorem Gr.toGrew {b : Nat} {h h' : Heap} (g : Gr (fun k => k = b) h h') : Grew (some b) h h' := ⟨g.1, fun k hk hne => g.2 k hk (fun e => hne (by rw [e]))⟩
end Go.Sha
namespace Go.Sha
open Go Go.Lane
theorem HR.keepE {h h' : Heap} {va : Option Addr} {vc : Nat} {L : List Hs} {o : Option Nat} (r : HR h va vc L.length L) (g : Grew o h h') (hne : L = [] ∨ va.map (fun (x : Addr) => x.block) ≠ o) : HR h' va vc L.length L := by
  rcases hne with rfl | hne
  · refine ⟨⟨rfl, ?_⟩, r.2⟩
    rcases r.1.2 with ⟨e, e0⟩ | ⟨a, c, e, hc, _⟩
    · exact .inl ⟨e, e0⟩
    · exact .inr ⟨a, c, e, hc, fun j u hu => by simp [hcs] at hu⟩
  · refine ⟨⟨r.1.1, ?_⟩, r.2⟩
    rcases r.1.2 with ⟨e, e0⟩ | ⟨a, c, e, hc, hx⟩
    · exact .inl ⟨e, e0⟩
    · cases e
      exact .inr ⟨a, _, rfl, hc, fun j u hu => g.cell (hx j u hu) (by rw [add_block]; exact hne)⟩
theorem HR.keep {h h' : Heap} {va : Option Addr} {vc n : Nat} {L : List Hs} {o : Option Nat} (r : HR h va vc n L) (g : Grew o h h') (hne : va.map (fun (x : Addr) => x.block) ≠ o) : HR h' va vc n L :=
  ⟨r.1.kept g (by rw [blkOf_slice]; exact .inr hne), r.2⟩
end Go.Sha
namespace Go.Sha
open Go Go.Lane
theorem Sep.pick3' {lo n : Nat} {l : List (Option Nat)} (s : Sep lo n l) (i j k : Nat) {a b c : Nat} (ha : l[i]? = some (some a)) (hb : l[j]? = some (some b)) (hc : l[k]? = some (some c)) (hij : i ≠ j) (hik : i ≠ k) (hjk : j ≠ k) : Sep lo n [some a, some b, some c] := by
  have hle : lo ≤ n := s.lo_le ⟨a, List.mem_of_getElem? ha⟩
  have := s.pick3 hle i j k ha hb hc hij hik hjk
  exact this.sub (.cons _ (List.Sublist.refl _))
end Go.Sha
namespace Go.Sha
theorem zcases (a ni : Nat) (x y t : Hs) : a ≠ 0 ∨ a = 0 ∧ ¬ x = y ∨ a = 0 ∧ x = y ∧ 0 < ni ∨ a = 0 ∧ x = y ∧ ¬ 0 < ni ∧ x = t ∨ a = 0 ∧ x = y ∧ ¬ 0 < ni ∧ ¬ x = t := by
  rcases Decidable.em (a = 0) with h | h
  · rcases Decidable.em (x = y) with b | b
    · rcases Decidable.em (0 < ni) with c | c
      · exact .inr (.inr (.inl ⟨h, b, c⟩))
      · rcases Decidable.em (x = t) with d | d
        · exact .inr (.inr (.inr (.inl ⟨h, b, c, d⟩)))
        · exact .inr (.inr (.inr (.inr ⟨h, b, c, d⟩)))
    · exact .inr (.inl ⟨h, b⟩)
  · exact .inl h
end Go.Sha
namespace Go.Sha
theorem ccases4 (m n : Int) : m < 0 ∨ (0 ≤ m ∧ n < m) ∨ (∃ b : Nat, m = ((0 : Nat) : Int) ∧ n = (b : Int)) ∨ ∃ a b : Nat, m = (a : Int) ∧ n = (b : Int) ∧ a ≤ b ∧ 0 < a := by
  rcases Int.lt_or_le m 0 with h0 | h0
  · exact .inl h0
  · rcases Int.lt_or_le n m with h1 | h1
    · exact .inr (.inl ⟨h0, h1⟩)
    · rcases Int.lt_or_le 0 m with h2 | h2
      · exact .inr (.inr (.inr ⟨m.toNat, n.toNat, by omega, by omega, by omega, by omega⟩))
      · exact .inr (.inr (.inl ⟨n.toNat, by omega, by omega⟩))
theorem ccases (m n : Int) (l : Nat) : m < 0 ∨ (0 ≤ m ∧ n < m) ∨ (∃ a b : Nat, m = (a : Int) ∧ n = (b : Int) ∧ a ≤ b ∧ 64 < l) ∨ (∃ b : Nat, m = ((0 : Nat) : Int) ∧ n = (b : Int) ∧ l ≤ 64) ∨ ∃ a b : Nat, m = (a : Int) ∧ n = (b : Int) ∧ a ≤ b ∧ 0 < a ∧ l ≤ 64 := by
  rcases ccases4 m n with h | h | ⟨b, h1, h2⟩ | ⟨a, b, h1, h2, h3, h4⟩
  · exact .inl h
  · exact .inr (.inl h)
  · rcases Nat.lt_or_ge 64 l with hl | hl
    · exact .inr (.inr (.inl ⟨0, b, h1, h2, by omega, hl⟩))
    · exact .inr (.inr (.inr (.inl ⟨b, h1, h2, hl⟩)))
  · rcases Nat.lt_or_ge 64 l with hl | hl
    · exact .inr (.inr (.inl ⟨a, b, h1, h2, h3, hl⟩))
    · exact .inr (.inr (.inr (.inr ⟨a, b, h1, h2, h3, h4, hl⟩)))
end Go.Sha
namespace Go.Lane
open Go
theorem SimK.effAt {P : Program} {ops : Array Oper} {A : List Nat} {n : Nat} {base : Nat → Value} {K : Exit → Act → Heap → Prop} {D X Wd : Nat} {vals : Vals} {h : Heap} {i : Nat} {R : Value → Heap → Prop} {D' X' : Nat} (hD : D ||| 2 ^ i = D') (hX : X ||| anc A i ||| 2 ^ i = X') (pend : List Nat)
    (hp : pendL ops A D X Wd i = pend) (hd : Does P ops base vals i h R) (hs : ∀ v h', R v h' → (∀ j ∈ pend, Good P ops base vals h' j) ∧ SimK P ops A n base K D' X' Wd (vset vals i v) h') :
    ∃ R, Does P ops base vals i h R ∧ ∀ v h', R v h' → (∀ j ∈ pendL ops A D X Wd i, Good P ops base vals h' j) ∧ SimK P ops A n base K (D ||| 2 ^ i) (X ||| anc A i ||| 2 ^ i) Wd (vset vals i v) h' := by
  subst hD; subst hX; subst hp
  exact ⟨R, hd, hs⟩
end Go.Lane
