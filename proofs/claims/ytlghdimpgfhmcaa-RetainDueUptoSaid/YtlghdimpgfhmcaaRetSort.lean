/- A stable sort: places exchanged, runs made one. No condition but those that each theorem names. -/
import Derived.Test.YtlghdimpgfhmcaaRetOrd
namespace Go.Sha
open Go Go.Lane
/-! ### places exchanged -/
def swp2 (M : List Rec) (x y : Nat) : List Rec := (M.set x (M.getD y rec0)).set y (M.getD x rec0)
theorem swp2_length (M : List Rec) (x y : Nat) : (swp2 M x y).length = M.length := by simp [swp2]
theorem swp2_get {M : List Rec} {x y : Nat} (hx : x < M.length) (hy : y < M.length) (k : Nat) : (swp2 M x y).getD k rec0 = M.getD (if k = y then x else if k = x then y else k) rec0 := by
  unfold swp2; rw [gset (by rw [List.length_set]; exact hy), gset hx]; split
  · rfl
  · split <;> rfl
theorem swp2_perm {M : List Rec} {x y : Nat} (hx : x < M.length) (hy : y < M.length) : (swp2 M x y).Perm M := by
  have h1 : M.getD x rec0 = M[x]'hx := by simp [List.getD, hx]
  have h2 : M.getD y rec0 = M[y]'hy := by simp [List.getD, hy]
  unfold swp2; rw [h1, h2]
  exact List.set_set_perm hx hy
/-- each place of M holds what that place of L held -/
def Idx (M L : List Rec) (f : Nat → Nat) : Prop := ∀ p, M.getD p rec0 = L.getD (f p) rec0
theorem Idx.refl (L : List Rec) {f : Nat → Nat} (h : ∀ p, f p = p) : Idx L L f := fun p => by rw [h]
theorem Idx.step {K M L : List Rec} {f g e : Nat → Nat} (h : Idx M L f) (k : Idx K M g) (he : ∀ p, f (g p) = e p) : Idx K L e := fun p => by rw [k p, h, he]
theorem Idx.swp {M L : List Rec} {f e : Nat → Nat} {x y : Nat} (h : Idx M L f) (hx : x < M.length) (hy : y < M.length) (he : ∀ p, f (if p = y then x else if p = x then y else p) = e p) : Idx (swp2 M x y) L e :=
  h.step (fun p => swp2_get hx hy p) he
def swx (a b c p : Nat) : Nat := if a ≤ p ∧ p < a + c then p - a + b else if b ≤ p ∧ p < b + c then p - b + a else p
theorem swx_0 (a b p : Nat) : swx a b 0 p = p := by unfold swx; rw [if_neg (by omega), if_neg (by omega)]
theorem swx_next {a b c : Nat} (h : a + c < b) (p : Nat) : swx a b c (if p = b + c then a + c else if p = a + c then b + c else p) = swx a b (c + 1) p := by
  unfold swx; (repeat' split) <;> omega
/-- [m-i, m) and [m, m+j) exchanged -/
def rtx (m i j p : Nat) : Nat := if p < m - i then p else if p < m - i + j then p + i else if p < m + j then p - j else p
theorem rtx_big {m i j : Nat} (hj : j < i) (hi : i ≤ m) (p : Nat) : swx (m - i) m j (rtx m (i - j) j p) = rtx m i j p := by
  unfold swx rtx; (repeat' split) <;> omega
theorem rtx_small {m i j : Nat} (hj : i < j) (hi : i ≤ m) (p : Nat) : swx (m - i) (m + j - i) i (rtx m i (j - i) p) = rtx m i j p := by
  unfold swx rtx; (repeat' split) <;> omega
theorem rtx_same {m i : Nat} (hi : i ≤ m) (p : Nat) : swx (m - i) m i p = rtx m i i p := by
  unfold swx rtx; (repeat' split) <;> omega
theorem rtx_none {m i j : Nat} (h : i = 0 ∨ j = 0) (p : Nat) : rtx m i j p = p := by
  unfold rtx; (repeat' split) <;> omega
/-- what is still to be exchanged -/
def RotI (L M : List Rec) (m a b i j : Nat) : Prop := ∀ p, L.getD (rtx m (m - a) (b - m) p) rec0 = M.getD (rtx m i j p) rec0
theorem RotI.start (L : List Rec) (m a b : Nat) : RotI L L m a b (m - a) (b - m) := fun _ => rfl
theorem RotI.big {L M K : List Rec} {m a b i j : Nat} (r : RotI L M m a b i j) (k : Idx K M (swx (m - i) m j)) (hj : j < i) (hi : i ≤ m) : RotI L K m a b (i - j) j := fun p => by rw [r p, k, rtx_big hj hi]
theorem RotI.small {L M K : List Rec} {m a b i j : Nat} (r : RotI L M m a b i j) (k : Idx K M (swx (m - i) (m + j - i) i)) (hj : i < j) (hi : i ≤ m) : RotI L K m a b i (j - i) := fun p => by rw [r p, k, rtx_small hj hi]
theorem RotI.last {L M K : List Rec} {m a b i j : Nat} (r : RotI L M m a b i j) (k : Idx K M (swx (m - i) m i)) (hj : i = j) (hi : i ≤ m) : Idx K L (rtx m (m - a) (b - m)) := fun p => by rw [r p, k, ← hj, rtx_same hi]
/-! ### two runs made one -/
structure Mgd (n a b : Nat) (L M : List Rec) : Prop where
  len : M.length = n
  perm : M.Perm L
  out : ∀ p, p < a ∨ b ≤ p → M.getD p rec0 = L.getD p rec0
  inn : ∀ p, a ≤ p → p < b → ∃ q, a ≤ q ∧ q < b ∧ M.getD p rec0 = L.getD q rec0
  srt : SrtOn M a b
theorem Mgd.self {n a b : Nat} {L : List Rec} (h : L.length = n) (s : SrtOn L a b) : Mgd n a b L L := ⟨h, List.Perm.refl _, fun _ _ => rfl, fun p h1 h2 => ⟨p, h1, h2, rfl⟩, s⟩
theorem leR_self (r : Rec) : leR r r := by unfold leR; have := cbR_neg r r; omega
theorem SrtOn.le {M : List Rec} {a b p q : Nat} (s : SrtOn M a b) (h1 : a ≤ p) (h2 : p ≤ q) (h3 : q < b) : leR (M.getD p rec0) (M.getD q rec0) := by
  rcases Nat.lt_or_ge p q with h | h
  · exact s p q h1 h h3
  · rw [show p = q by omega]; exact leR_self _
theorem SrtOn.sub {M : List Rec} {a b c d : Nat} (s : SrtOn M a b) (h1 : a ≤ c) (h2 : d ≤ b) : SrtOn M c d := fun p q h3 h4 h5 => s p q (by omega) h4 (by omega)
theorem SrtOn.same {M K : List Rec} {a b : Nat} (s : SrtOn M a b) (h : ∀ p, a ≤ p → p < b → K.getD p rec0 = M.getD p rec0) : SrtOn K a b := fun p q h1 h2 h3 => by rw [h p h1 (by omega), h q (by omega) h3]; exact s p q h1 h2 h3
/-- the first alone -/
def lx (a k p : Nat) : Nat := if p < a then p else if p < k then p + 1 else if p = k then a else p
theorem lx_0 (a p : Nat) : lx a a p = p := by unfold lx; (repeat' split) <;> omega
theorem lx_next {a k : Nat} (h : a ≤ k) (p : Nat) : lx a k (if p = k + 1 then k else if p = k then k + 1 else p) = lx a (k + 1) p := by
  unfold lx; (repeat' split) <;> omega
theorem sym1 {n a b i k : Nat} {L M : List Rec} (hl : M.length = n) (hp : M.Perm L) (hx : Idx M L (lx a k)) (hk : k + 1 = i) (s : SrtOn L (a + 1) b) (h1 : a + 1 ≤ i) (h2 : i ≤ b)
    (hlo : i = a + 1 ∨ cbR (L.getD (i - 1) rec0) (L.getD a rec0) < 0) (hhi : i = b ∨ ¬ cbR (L.getD i rec0) (L.getD a rec0) < 0) : Mgd n a b L M := by
  have e : k = i - 1 := by omega
  subst e
  refine ⟨hl, hp, fun p h => ?_, fun p h3 h4 => ⟨lx a (i - 1) p, ?_, ?_, hx p⟩, fun p q h3 h4 h5 => ?_⟩
  · rw [hx p, show lx a (i - 1) p = p by unfold lx; (repeat' split) <;> omega]
  · unfold lx; (repeat' split) <;> omega
  · unfold lx; (repeat' split) <;> omega
  · rw [hx p, hx q]
    rcases Nat.lt_or_ge q (i - 1) with hq | hq
    · rw [show lx a (i - 1) p = p + 1 by unfold lx; (repeat' split) <;> omega, show lx a (i - 1) q = q + 1 by unfold lx; (repeat' split) <;> omega]
      exact s _ _ (by omega) (by omega) (by omega)
    · rcases Nat.lt_or_ge p (i - 1) with hp | hp
      · rw [show lx a (i - 1) p = p + 1 by unfold lx; (repeat' split) <;> omega]
        rcases Nat.lt_or_ge (i - 1) q with hq2 | hq2
        · rw [show lx a (i - 1) q = q by unfold lx; (repeat' split) <;> omega]
          exact s.le (by omega) (by omega) (by omega)
        · rw [show lx a (i - 1) q = a by unfold lx; (repeat' split) <;> omega]
          exact leR_trans (s.le (p := p + 1) (q := i - 1) (by omega) (by omega) (by omega)) (leR_of_lt (hlo.resolve_left (by omega)))
      · rw [show lx a (i - 1) q = q by unfold lx; (repeat' split) <;> omega]
        rcases Nat.lt_or_ge (i - 1) p with hp2 | hp2
        · rw [show lx a (i - 1) p = p by unfold lx; (repeat' split) <;> omega]
          exact s.le (by omega) (by omega) (by omega)
        · rw [show lx a (i - 1) p = a by unfold lx; (repeat' split) <;> omega]
          exact leR_trans (leR_of_not (hhi.resolve_left (by omega))) (s.le (p := i) (q := q) (by omega) (by omega) (by omega))
/-- the last alone -/
def rx (m k p : Nat) : Nat := if p < k then p else if p = k then m else if p ≤ m then p - 1 else p
theorem rx_0 (m p : Nat) : rx m m p = p := by unfold rx; (repeat' split) <;> omega
theorem rx_next {m k : Nat} (h : 0 < k) (h2 : k ≤ m) (p : Nat) : rx m k (if p = k - 1 then k else if p = k then k - 1 else p) = rx m (k - 1) p := by
  unfold rx; (repeat' split) <;> omega
theorem sym2 {n a m i k : Nat} {L M : List Rec} (hl : M.length = n) (hp : M.Perm L) (hx : Idx M L (rx m k)) (hk : k = i) (s : SrtOn L a m) (h1 : a ≤ i) (h2 : i ≤ m)
    (hlo : i = a ∨ ¬ cbR (L.getD m rec0) (L.getD (i - 1) rec0) < 0) (hhi : i = m ∨ cbR (L.getD m rec0) (L.getD i rec0) < 0) : Mgd n a (m + 1) L M := by
  subst hk
  refine ⟨hl, hp, fun p h => ?_, fun p h3 h4 => ⟨rx m k p, ?_, ?_, hx p⟩, fun p q h3 h4 h5 => ?_⟩
  · rw [hx p, show rx m k p = p by unfold rx; (repeat' split) <;> omega]
  · unfold rx; (repeat' split) <;> omega
  · unfold rx; (repeat' split) <;> omega
  · rw [hx p, hx q]
    rcases Nat.lt_or_ge q k with hq | hq
    · rw [show rx m k p = p by unfold rx; (repeat' split) <;> omega, show rx m k q = q by unfold rx; (repeat' split) <;> omega]
      exact s _ _ (by omega) (by omega) (by omega)
    · rcases Nat.lt_or_ge p k with hp | hp
      · rw [show rx m k p = p by unfold rx; (repeat' split) <;> omega]
        rcases Nat.lt_or_ge k q with hq2 | hq2
        · rw [show rx m k q = q - 1 by unfold rx; (repeat' split) <;> omega]
          exact s.le (by omega) (by omega) (by omega)
        · rw [show rx m k q = m by unfold rx; (repeat' split) <;> omega]
          exact leR_trans (s.le (p := p) (q := k - 1) (by omega) (by omega) (by omega)) (leR_of_not (hlo.resolve_left (by omega)))
      · rw [show rx m k q = q - 1 by unfold rx; (repeat' split) <;> omega]
        rcases Nat.lt_or_ge k p with hp2 | hp2
        · rw [show rx m k p = p - 1 by unfold rx; (repeat' split) <;> omega]
          exact s.le (by omega) (by omega) (by omega)
        · rw [show rx m k p = m by unfold rx; (repeat' split) <;> omega]
          exact leR_trans (leR_of_lt (hhi.resolve_left (by omega))) (s.le (p := k) (q := q - 1) (by omega) (by omega) (by omega))
/-- the general case: s from where, e to where the middle is exchanged -/
structure Cut (n a m b mid s e : Nat) (L M : List Rec) : Prop where
  len : M.length = n
  perm : M.Perm L
  idx : Idx M L (rtx m (m - s) (e - m))
  s1 : SrtOn L a m
  s2 : SrtOn L m b
  am : a ≤ s ∧ s ≤ m ∧ m ≤ e ∧ e ≤ b ∧ s ≤ mid ∧ mid ≤ e ∧ s + e = mid + m
  lo : s = a ∨ e = b ∨ leR (L.getD (s - 1) rec0) (L.getD e rec0)
  hi : s = m ∨ s = mid ∨ leR (L.getD (e - 1) rec0) (L.getD s rec0)
section
variable {n a m b mid s e : Nat} {L M : List Rec}
theorem Cut.at1 (c : Cut n a m b mid s e L M) {p : Nat} (h : p < s) : M.getD p rec0 = L.getD p rec0 := by
  have := c.am; rw [c.idx p, show rtx m (m - s) (e - m) p = p by unfold rtx; (repeat' split) <;> omega]
theorem Cut.at2 (c : Cut n a m b mid s e L M) {p : Nat} (h : s ≤ p) (h2 : p < mid) : M.getD p rec0 = L.getD (p + (m - s)) rec0 := by
  have := c.am; rw [c.idx p, show rtx m (m - s) (e - m) p = p + (m - s) by unfold rtx; (repeat' split) <;> omega]
theorem Cut.at3 (c : Cut n a m b mid s e L M) {p : Nat} (h : mid ≤ p) (h2 : p < e) : M.getD p rec0 = L.getD (p - (e - m)) rec0 := by
  have := c.am; rw [c.idx p, show rtx m (m - s) (e - m) p = p - (e - m) by unfold rtx; (repeat' split) <;> omega]
theorem Cut.at4 (c : Cut n a m b mid s e L M) {p : Nat} (h : e ≤ p) : M.getD p rec0 = L.getD p rec0 := by
  have := c.am; rw [c.idx p, show rtx m (m - s) (e - m) p = p by unfold rtx; (repeat' split) <;> omega]
theorem Cut.r1 (c : Cut n a m b mid s e L M) : SrtOn M a s := fun p q h1 h2 h3 => by
  have := c.am; rw [c.at1 (by omega), c.at1 h3]; exact c.s1 p q h1 h2 (by omega)
theorem Cut.r2 (c : Cut n a m b mid s e L M) : SrtOn M s mid := fun p q h1 h2 h3 => by
  have := c.am; rw [c.at2 h1 (by omega), c.at2 (by omega) h3]; exact c.s2 _ _ (by omega) (by omega) (by omega)
theorem Cut.r3 (c : Cut n a m b mid s e L M) : SrtOn M mid e := fun p q h1 h2 h3 => by
  have := c.am; rw [c.at3 h1 (by omega), c.at3 (by omega) h3]; exact c.s1 _ _ (by omega) (by omega) (by omega)
theorem Cut.r4 (c : Cut n a m b mid s e L M) : SrtOn M e b := fun p q h1 h2 h3 => by
  have := c.am; rw [c.at4 h1, c.at4 (by omega)]; exact c.s2 _ _ (by omega) (by omega) (by omega)
theorem Cut.cross (c : Cut n a m b mid s e L M) {p q : Nat} (h1 : a ≤ p) (h2 : p < mid) (h3 : mid ≤ q) (h4 : q < b) : leR (M.getD p rec0) (M.getD q rec0) := by
  have := c.am
  rcases Nat.lt_or_ge p s with hp | hp
  · rw [c.at1 hp]
    rcases Nat.lt_or_ge q e with hq | hq
    · rw [c.at3 h3 hq]; exact c.s1.le h1 (by omega) (by omega)
    · rw [c.at4 hq]
      exact leR_trans (c.s1.le (p := p) (q := s - 1) h1 (by omega) (by omega)) (leR_trans ((c.lo.resolve_left (by omega)).resolve_left (by omega)) (c.s2.le (p := e) (q := q) (by omega) hq h4))
  · rw [c.at2 hp h2]
    rcases Nat.lt_or_ge q e with hq | hq
    · rw [c.at3 h3 hq]
      exact leR_trans (c.s2.le (p := p + (m - s)) (q := e - 1) (by omega) (by omega) (by omega)) (leR_trans ((c.hi.resolve_left (by omega)).resolve_left (by omega)) (c.s1.le (p := s) (q := q - (e - m)) (by omega) (by omega) (by omega)))
    · rw [c.at4 hq]; exact c.s2.le (by omega) (by omega) (by omega)
theorem Cut.in_ (c : Cut n a m b mid s e L M) {p : Nat} (h1 : a ≤ p) (h2 : p < b) : ∃ q, a ≤ q ∧ q < b ∧ M.getD p rec0 = L.getD q rec0 := by
  have := c.am
  exact ⟨rtx m (m - s) (e - m) p, by unfold rtx; (repeat' split) <;> omega, by unfold rtx; (repeat' split) <;> omega, c.idx p⟩
theorem Cut.left (c : Cut n a m b mid s e L M) (h : ¬ (a < s ∧ s < mid)) : Mgd n a mid M M := by
  have := c.am
  refine Mgd.self c.len ?_
  rcases Nat.lt_or_ge a s with h1 | h1
  · have := c.r1; rwa [show s = mid by omega] at this
  · have := c.r2; rwa [show s = a by omega] at this
theorem Cut.sort (c : Cut n a m b mid s e L M) {K : List Rec} (k : Mgd n a mid M K) : SrtOn K mid e ∧ SrtOn K e b := by
  have := c.am
  exact ⟨c.r3.same fun p h1 _ => k.out p (.inr h1), c.r4.same fun p h1 _ => k.out p (.inr (by omega))⟩
theorem Cut.right (c : Cut n a m b mid s e L M) {K : List Rec} (k : Mgd n a mid M K) (h : ¬ (mid < e ∧ e < b)) : Mgd n mid b K K := by
  have := c.am
  refine Mgd.self k.len ?_
  obtain ⟨h1, h2⟩ := c.sort k
  rcases Nat.lt_or_ge mid e with h3 | h3
  · rwa [show e = b by omega] at h1
  · rwa [show e = mid by omega] at h2
theorem Cut.done (c : Cut n a m b mid s e L M) {K J : List Rec} (k : Mgd n a mid M K) (j : Mgd n mid b K J) : Mgd n a b L J := by
  have hm := c.am
  have key : ∀ p, a ≤ p → p < b → ∃ q, a ≤ q ∧ q < b ∧ (p < mid → q < mid) ∧ (mid ≤ p → mid ≤ q) ∧ J.getD p rec0 = M.getD q rec0 := by
    intro p h1 h2
    rcases Nat.lt_or_ge p mid with h3 | h3
    · obtain ⟨q, h4, h5, h6⟩ := k.inn p h1 h3
      exact ⟨q, h4, by omega, fun _ => h5, fun _ => by omega, by rw [j.out p (.inl h3), h6]⟩
    · obtain ⟨q, h4, h5, h6⟩ := j.inn p h3 h2
      exact ⟨q, by omega, h5, fun _ => by omega, fun _ => h4, by rw [h6, k.out q (.inr h4)]⟩
  refine ⟨j.len, (j.perm.trans k.perm).trans c.perm, fun p h => ?_, fun p h1 h2 => ?_, fun p q h1 h2 h3 => ?_⟩
  · rw [j.out p (by omega), k.out p (by omega)]
    rcases h with h | h
    · exact c.at1 (by omega)
    · exact c.at4 (by omega)
  · obtain ⟨q, h3, h4, _, _, h5⟩ := key p h1 h2
    obtain ⟨r, h6, h7, h8⟩ := c.in_ h3 h4
    exact ⟨r, h6, h7, by rw [h5, h8]⟩
  · rcases Nat.lt_or_ge q mid with h4 | h4
    · rw [j.out p (.inl (by omega)), j.out q (.inl h4)]; exact k.srt p q h1 h2 h4
    · rcases Nat.lt_or_ge p mid with h5 | h5
      · obtain ⟨p', h6, _, h7, _, h8⟩ := key p h1 (by omega)
        obtain ⟨q', _, h9, _, h10, h11⟩ := key q (by omega) h3
        rw [h8, h11]; exact c.cross h6 (h7 h5) (h10 h4) h9
      · exact j.srt p q h5 h2 h3
end
/-! ### blocks -/
/-- within [a, b), sorted block by block -/
def Blk (M : List Rec) (s a b : Nat) : Prop := ∀ p q, a ≤ p → p < q → q < b → p / s = q / s → leR (M.getD p rec0) (M.getD q rec0)
theorem Blk.nil (M : List Rec) (s a : Nat) : Blk M s a a := fun p q h1 h2 h3 => by omega
theorem div_at {s c p : Nat} (h1 : c * s ≤ p) (h2 : p < c * s + s) : p / s = c := by
  refine Nat.div_eq_of_lt_le h1 ?_
  rw [Nat.add_mul, Nat.one_mul]; exact h2
/-- one block more is sorted -/
theorem Blk.more {M K : List Rec} {s a b c t : Nat} (h : Blk M s 0 a) (ha : a = t * s) (hout : ∀ p, p < a ∨ c ≤ p → K.getD p rec0 = M.getD p rec0) (hs : SrtOn K a b) (hb : b ≤ a + s) : Blk K s 0 b := by
  intro p q _ h2 h3 h4
  rcases Nat.lt_or_ge q a with h5 | h5
  · rw [hout p (.inl (by omega)), hout q (.inl h5)]; exact h p q (Nat.zero_le _) h2 h5 h4
  · have e : q / s = t := div_at (by omega) (by omega)
    have : t * s ≤ p := by rw [← e, ← h4]; exact Nat.div_mul_le_self p s
    exact hs p q (by omega) h2 h3
theorem Blk.rest {M K : List Rec} {s a b n : Nat} (h : Blk M s a n) (hab : a ≤ b) (hout : ∀ p, p < a ∨ b ≤ p → K.getD p rec0 = M.getD p rec0) : Blk K s b n := fun p q h1 h2 h3 h4 => by
  rw [hout p (.inr h1), hout q (.inr (by omega))]; exact h p q (by omega) h2 h3 h4
theorem Blk.run {M : List Rec} {s a n u x y : Nat} (h : Blk M s a n) (hx : x = u * s) (hax : a ≤ x) (hy : y ≤ x + s) (hn : y ≤ n) : SrtOn M x y := fun p q h1 h2 h3 =>
  h p q (by omega) h2 (by omega) (by rw [div_at (c := u) (by omega) (by omega), div_at (c := u) (by omega) (by omega)])
theorem Blk.all {M : List Rec} {s n : Nat} (h : Blk M s 0 n) (hs : n ≤ s) : SrtOn M 0 n := fun p q h1 h2 h3 => h p q h1 h2 h3 (by rw [Nat.div_eq_of_lt (by omega), Nat.div_eq_of_lt (by omega)])
end Go.Sha
namespace Go.Sha
open Go Go.Lane
theorem Blk.two {M : List Rec} {s a c n t : Nat} (h : Blk M s a n) (ht : a = t * (2 * s)) (h2 : c ≤ a + 2 * s) (h3 : c ≤ n) (h4 : a + s ≤ c) : SrtOn M a (a + s) ∧ SrtOn M (a + s) c := by
  have hu : a = (2 * t) * s := by rw [ht, Nat.mul_comm 2 t, Nat.mul_assoc]
  exact ⟨h.run hu (Nat.le_refl _) (Nat.le_refl _) (by omega), h.run (u := 2 * t + 1) (by rw [Nat.add_mul, Nat.one_mul, ← hu]) (by omega) (by omega) h3⟩
theorem Blk.one {M : List Rec} {s a n t : Nat} (h : Blk M s a n) (ht : a = t * (2 * s)) (h4 : n ≤ a + s) : SrtOn M a n := by
  have hu : a = (2 * t) * s := by rw [ht, Nat.mul_comm 2 t, Nat.mul_assoc]
  exact h.run hu (Nat.le_refl _) h4 (Nat.le_refl _)
end Go.Sha
