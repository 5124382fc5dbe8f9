/- The order of what is due; insertion. No condition but those that each theorem names. -/
import Derived.Test.YtlghdimpgfhmcaaRetMath
namespace Go.Sha
open Go Go.Lane
/-! ### the order of what is due -/
def cmpI (a b : Int) : Int := if a < b then -1 else if b < a then 1 else 0
def cbR (r s : Rec) : Int := if cmpI r.e s.e = 0 then Lib.compareBytes r.b.id.data.toList s.b.id.data.toList else cmpI r.e s.e
def leR (r s : Rec) : Prop := cbR r s ≤ 0
theorem cb_neg : ∀ a b : List UInt8, Lib.compareBytes b a = - Lib.compareBytes a b
  | [], [] => rfl
  | [], _ :: _ => rfl
  | _ :: _, [] => rfl
  | x :: a, y :: b => by
    unfold Lib.compareBytes
    have hlt : ∀ u v : UInt8, u < v → ¬ v < u := fun u v h h' => by
      have h1 := UInt8.lt_iff_toNat_lt.1 h; have h2 := UInt8.lt_iff_toNat_lt.1 h'; omega
    by_cases h1 : x < y
    · simp [h1, hlt _ _ h1]
    · by_cases h2 : y < x
      · simp [h1, h2]
      · simp only [h1, h2, if_false]; exact cb_neg a b
theorem cb_refl (a : List UInt8) : Lib.compareBytes a a = 0 := by have := cb_neg a a; omega
theorem cb_trans : ∀ a b c : List UInt8, Lib.compareBytes a b ≤ 0 → Lib.compareBytes b c ≤ 0 → Lib.compareBytes a c ≤ 0
  | [], _, [], _, _ => by simp [Lib.compareBytes]
  | [], _, _ :: _, _, _ => by simp [Lib.compareBytes]
  | _ :: _, [], _, h, _ => by simp [Lib.compareBytes] at h
  | _ :: _, _ :: _, [], _, h => by simp [Lib.compareBytes] at h
  | x :: a, y :: b, z :: c, h1, h2 => by
    unfold Lib.compareBytes at h1 h2 ⊢
    simp only [UInt8.lt_iff_toNat_lt] at h1 h2 ⊢
    split at h1
    · split at h2
      · rw [if_pos (by omega)]; decide
      · split at h2
        · omega
        · rw [if_pos (by omega)]; decide
    · split at h1
      · omega
      · split at h2
        · rw [if_pos (by omega)]; decide
        · split at h2
          · omega
          · rw [if_neg (by omega), if_neg (by omega)]; exact cb_trans a b c h1 h2
theorem cmpI_neg (a b : Int) : cmpI b a = - cmpI a b := by unfold cmpI; split <;> split <;> first | rfl | omega | (split <;> first | rfl | omega)
theorem cbR_neg (r s : Rec) : cbR s r = - cbR r s := by
  unfold cbR
  rw [cmpI_neg r.e s.e, cb_neg r.b.id.data.toList]
  by_cases h : cmpI r.e s.e = 0
  · rw [if_pos (by omega), if_pos h]
  · rw [if_neg (by omega), if_neg h]
theorem leR_iff (r s : Rec) : leR r s ↔ r.e < s.e ∨ (r.e = s.e ∧ Lib.compareBytes r.b.id.data.toList s.b.id.data.toList ≤ 0) := by
  unfold leR cbR
  have hc : cmpI r.e s.e = 0 ↔ r.e = s.e := by unfold cmpI; split <;> first | omega | (split <;> omega)
  by_cases h : cmpI r.e s.e = 0
  · rw [if_pos h]; have := hc.1 h; constructor
    · intro h1; exact .inr ⟨this, h1⟩
    · rintro (h1 | ⟨_, h1⟩)
      · omega
      · exact h1
  · rw [if_neg h]
    have hne : r.e ≠ s.e := fun e => h (hc.2 e)
    unfold cmpI at h ⊢
    constructor
    · intro h1; left; split at h1
      · assumption
      · split at h1 <;> omega
    · rintro (h1 | ⟨h1, _⟩)
      · rw [if_pos h1]; decide
      · exact absurd h1 hne
theorem leR_trans {r s t : Rec} (h1 : leR r s) (h2 : leR s t) : leR r t := by
  rw [leR_iff] at h1 h2 ⊢
  rcases h1 with h1 | ⟨h1, k1⟩ <;> rcases h2 with h2 | ⟨h2, k2⟩
  · left; omega
  · left; omega
  · left; omega
  · exact .inr ⟨by omega, cb_trans _ _ _ k1 k2⟩
theorem leR_of_not {r s : Rec} (h : ¬ cbR r s < 0) : leR s r := by unfold leR; rw [cbR_neg]; omega
theorem leR_of_lt {r s : Rec} (h : cbR r s < 0) : leR r s := by unfold leR; omega
/-! ### insertion -/
theorem gset {l : List Rec} {i j : Nat} {x : Rec} (hi : i < l.length) : (l.set i x).getD j rec0 = if j = i then x else l.getD j rec0 := by
  simp only [List.getD]
  by_cases e : j = i
  · subst e; simp [hi]
  · rw [if_neg e, List.getElem?_set_ne (Ne.symm e)]
def SrtOn (M : List Rec) (a b : Nat) : Prop := ∀ p q, a ≤ p → p < q → q < b → leR (M.getD p rec0) (M.getD q rec0)
def InsI (M : List Rec) (a i j : Nat) : Prop := ∀ p q, a ≤ p → p < q → q ≤ i → q ≠ j → leR (M.getD p rec0) (M.getD q rec0)
def swp (M : List Rec) (j : Nat) : List Rec := (M.set j (M.getD (j - 1) rec0)).set (j - 1) (M.getD j rec0)
theorem SrtOn.one (M : List Rec) (a : Nat) : SrtOn M a (a + 1) := fun p q h1 h2 h3 => by omega
theorem SrtOn.ins {M : List Rec} {a i : Nat} (s : SrtOn M a i) : InsI M a i i := fun p q h1 h2 h3 h4 => s p q h1 h2 (by omega)
theorem swp_length (M : List Rec) (j : Nat) : (swp M j).length = M.length := by simp [swp]
theorem swp_get {M : List Rec} {j k : Nat} (hj : j < M.length) (h0 : 0 < j) : (swp M j).getD k rec0 = if k = j - 1 then M.getD j rec0 else if k = j then M.getD (j - 1) rec0 else M.getD k rec0 := by
  unfold swp; rw [gset (by rw [List.length_set]; omega), gset hj]
theorem swp_perm {M : List Rec} {j : Nat} (hj : j < M.length) (h0 : 0 < j) : (swp M j).Perm M := by
  have h1 : M.getD (j - 1) rec0 = M[j - 1]'(by omega) := by simp [List.getD, show j - 1 < M.length by omega]
  have h2 : M.getD j rec0 = M[j]'hj := by simp [List.getD, hj]
  unfold swp; rw [h1, h2]
  exact List.set_set_perm hj (by omega)
theorem InsI.step {M : List Rec} {a i j : Nat} (s : InsI M a i j) (h1 : a < j) (h2 : j ≤ i) (h3 : i < M.length) (hlt : cbR (M.getD j rec0) (M.getD (j - 1) rec0) < 0) : InsI (swp M j) a i (j - 1) := by
  intro p q hp hq hqi hne
  have hj : j < M.length := by omega
  have h0 : 0 < j := by omega
  rw [swp_get hj h0, swp_get hj h0, if_neg hne]
  by_cases e1 : q = j
  · rw [if_pos e1]
    by_cases e2 : p = j - 1
    · rw [if_pos e2]; exact leR_of_lt hlt
    · rw [if_neg e2, if_neg (by omega)]; exact s p (j - 1) hp (by omega) (by omega) (by omega)
  · rw [if_neg e1]
    by_cases e2 : p = j - 1
    · rw [if_pos e2]; exact s j q (by omega) (by omega) hqi e1
    · rw [if_neg e2]
      by_cases e3 : p = j
      · rw [if_pos e3]; exact s (j - 1) q (by omega) (by omega) hqi e1
      · rw [if_neg e3]; exact s p q hp hq hqi e1
theorem InsI.done {M : List Rec} {a i j : Nat} (s : InsI M a i j) (h1 : a ≤ j) (h2 : j ≤ i) (hd : j = a ∨ ¬ cbR (M.getD j rec0) (M.getD (j - 1) rec0) < 0) : SrtOn M a (i + 1) := by
  intro p q hp hq hqi
  by_cases e : q = j
  · subst e
    rcases hd with hd | hd
    · omega
    · by_cases e2 : p = q - 1
      · subst e2; exact leR_of_not hd
      · exact leR_trans (s p (q - 1) hp (by omega) (by omega) (by omega)) (leR_of_not hd)
  · exact s p q hp hq (by omega) e
end Go.Sha
namespace Go.Sha
open Go Go.Lane
/-! ### what is due -/
def delB (now : Int) (r : Rec) : Prop := r.go = false ∧ r.ho = false ∧ r.e ≤ now
def dueB (now : Int) (r : Rec) : Bool := decide (0 < r.e) && !r.go && !r.ho && decide (r.e ≤ now)
theorem dueB_iff {now : Int} {r : Rec} : dueB now r = true ↔ 0 < r.e ∧ delB now r := by
  simp [dueB, delB, and_assoc]
theorem dueB_early {now : Int} {r : Rec} (h : ¬ 0 < r.e) : dueB now r = false := Bool.eq_false_iff.2 fun e => h (dueB_iff.1 e).1
theorem dueB_no {now : Int} {r : Rec} (h : ¬ delB now r) : dueB now r = false := Bool.eq_false_iff.2 fun e => h (dueB_iff.1 e).2
def RecOk (h : Heap) (r : Rec) : Prop := ∃ P : List Pl, P.length = r.n ∧ Row h (.slice r.ad r.n r.cap) r.n 4 (prow P) ∧ r.n ≤ 1099511627776
theorem RecOk.ext {h h' : Heap} {r : Rec} (o : RecOk h r) (g : Ext h h') : RecOk h' r := by
  obtain ⟨P, h1, h2, h3⟩ := o; exact ⟨P, h1, h2.ext g, h3⟩
theorem tf_no {now : Int} {L D : List Rec} {i : Nat} (hi : i < L.length) (h : (L.take i).filter (dueB now) = D) (hd : dueB now (L.getD i rec0) = false) : (L.take (i + 1)).filter (dueB now) = D := by
  have e : L.getD i rec0 = L[i] := by simp [List.getD, hi]
  rw [e] at hd
  rw [List.take_succ_eq_append_getElem hi, List.filter_append, h]; simp [hd]
theorem tf_yes {now : Int} {L D : List Rec} {i : Nat} (hi : i < L.length) (h : (L.take i).filter (dueB now) = D) (hd : dueB now (L.getD i rec0) = true) : (L.take (i + 1)).filter (dueB now) = D ++ [L.getD i rec0] := by
  have e : L.getD i rec0 = L[i] := by simp [List.getD, hi]
  rw [e] at hd ⊢
  rw [List.take_succ_eq_append_getElem hi, List.filter_append, h]; simp [hd]
theorem filt_le {now : Int} {L D : List Rec} {i : Nat} (h : (L.take i).filter (dueB now) = D) : D.length ≤ L.length := by
  rw [← h]; exact Nat.le_trans (List.length_filter_le _ _) (by rw [List.length_take]; omega)
theorem ones_str (l : List ByteArray) : ∀ u ∈ l.map Value.string, u.oneCell' = true := fun u hu => by
  obtain ⟨s, _, rfl⟩ := List.mem_map.1 hu; rfl
def ids (M : List Rec) : List ByteArray := M.map fun r => r.b.id
theorem ids_next {M : List Rec} {i : Nat} (hi : i < M.length) : ids (M.take i) ++ [(M.getD i rec0).b.id] = ids (M.take (i + 1)) := by
  have e : M.getD i rec0 = M[i] := by simp [List.getD, hi]
  unfold ids; rw [List.take_succ_eq_append_getElem hi, List.map_append, e]; rfl
/-- what a sort gives -/
def Sorts (P : Program) (f : FuncId) (c : Value) (E : TypeId) (K : Nat) : Prop := ∀ (h : Heap) (ad : Option Addr) (cap n : Nat) (L : List Rec), Own h (.slice ad n cap) E n 39 (rrow L) → L.length = n → n ≤ K → n ≤ 1099511627776 →
  Sat P f #[.slice ad n cap, c] h fun _ h' => ∃ M, M.length = n ∧ M.Perm L ∧ SrtOn M 0 n ∧ Own h' (.slice ad n cap) E n 39 (rrow M) ∧ Grew (ad.map (fun (x : Addr) => x.block)) h h'
end Go.Sha
namespace Go.Sha
theorem getD_mem {L : List Rec} {i : Nat} (hi : i < L.length) : L.getD i rec0 ∈ L := by
  have e : L.getD i rec0 = L[i] := by simp [List.getD, hi]
  rw [e]; exact List.getElem_mem hi
end Go.Sha
namespace Go.Sha
open Go Go.Lane
theorem RecOk.nil (h : Heap) (x : RB) (e : Int) (ho go : Bool) : RecOk h ⟨x, e, ho, go, none, 0, 0⟩ := ⟨[], rfl, Row.nil h 4, Nat.zero_le _⟩
theorem perm_two {α : Type} {M : List α} {x y : α} (h : M.Perm [x, y]) : M = [x, y] ∨ M = [y, x] := by
  have hl := h.length_eq
  match M, hl with
  | [u, v], _ =>
    have hu : u ∈ [x, y] := h.mem_iff.1 (by simp)
    simp only [List.mem_cons, List.not_mem_nil, or_false] at hu
    rcases hu with rfl | rfl
    · left; have := List.Perm.cons_inv h; rw [List.perm_singleton.1 this]
    · right
      have := List.Perm.cons_inv (h.trans (List.Perm.swap _ _ _))
      rw [List.perm_singleton.1 this]
/-- the document's example of what is due -/
def exL : List Rec := [⟨rbs (ByteArray.mk #[97]), 50, false, false, none, 0, 0⟩, ⟨rbs (ByteArray.mk #[98]), 40, false, false, none, 0, 0⟩, ⟨rbs (ByteArray.mk #[99]), 0, false, false, none, 0, 0⟩, ⟨rbs (ByteArray.mk #[100]), 50, true, false, none, 0, 0⟩]
theorem exL_ids {M : List Rec} (h : M.Perm (exL.filter (dueB 50))) (s : SrtOn M 0 M.length) : ids M = [ByteArray.mk #[98], ByteArray.mk #[97]] := by
  have e : exL.filter (dueB 50) = [⟨rbs (ByteArray.mk #[97]), 50, false, false, none, 0, 0⟩, ⟨rbs (ByteArray.mk #[98]), 40, false, false, none, 0, 0⟩] := rfl
  rw [e] at h
  rcases perm_two h with rfl | rfl
  · have := s 0 1 (by omega) (by omega) (by simp)
    exfalso
    unfold leR at this
    revert this
    decide
  · rfl
theorem exL_ok (h : Heap) : ∀ r ∈ exL, RecOk h r := fun r hr => by
  simp only [exL, List.mem_cons, List.not_mem_nil, or_false] at hr
  rcases hr with rfl | rfl | rfl | rfl <;> exact RecOk.nil _ _ _ _ _
end Go.Sha
namespace Go.Sha
open Go Go.Lane
/-! ### locks in whatever order -/
def mxs (m u : Int) : Int := if 0 ≤ u ∧ u ≤ 1099511627776 then max m u else m
def mx (e : Int) (l : List Int) : Int := l.foldl mxs e
theorem mxs_comm (m u v : Int) : mxs (mxs m u) v = mxs (mxs m v) u := by
  unfold mxs; simp only [Int.max_def]; repeat' split
  all_goals first | rfl | omega
theorem mx_swap (u : Int) : ∀ (l : List Int) (e : Int), mx (mxs e u) l = mxs (mx e l) u
  | [], _ => rfl
  | v :: l, e => by
    show mx (mxs (mxs e u) v) l = mxs (mx (mxs e v) l) u
    rw [mxs_comm, mx_swap u l]
theorem mx_snoc (e u : Int) (l : List Int) : mx e (l ++ [u]) = mxs (mx e l) u := by simp [mx, List.foldl_append]
theorem mx_rev : ∀ (l : List Int) (e : Int), mx e l.reverse = mx e l
  | [], _ => rfl
  | u :: l, e => by rw [List.reverse_cons, mx_snoc, mx_rev l e]; exact (mx_swap u l e).symm
theorem take_getD {l : List Int} {i : Nat} (hi : i < l.length) : l.take (i + 1) = l.take i ++ [l.getD i 0] := by
  rw [List.take_succ_eq_append_getElem hi]; simp [List.getD, hi]
theorem rev_getD {l : List Int} {i : Nat} (hi : i < l.length) : l.reverse.getD i 0 = l.getD (l.length - 1 - i) 0 := by
  simp only [List.getD]; rw [List.getElem?_reverse hi]
theorem mx_ok {e m : Int} {l : List Int} {i : Nat} (hi : i < l.length) (h : m = mx e (l.take i)) (h0 : 0 ≤ l.getD i 0) (h1 : l.getD i 0 ≤ 1099511627776) : max m (l.getD i 0) = mx e (l.take (i + 1)) := by
  rw [take_getD hi, mx_snoc, ← h, mxs, if_pos ⟨h0, h1⟩]
theorem mx_no {e m : Int} {l : List Int} {i : Nat} (hi : i < l.length) (h : m = mx e (l.take i)) (hu : l.getD i 0 < 0 ∨ 1099511627776 < l.getD i 0) : m = mx e (l.take (i + 1)) := by
  rw [take_getD hi, mx_snoc, ← h, mxs, if_neg (by omega)]
@[reducible] def ics (n : Int) : List Value := [.int .i64 n]
theorem ics_len (n : Int) : (ics n).length = 1 := rfl
@[reducible] def irow (l : List Int) : List Value := l.flatMap ics
/-- places that are apart, some of them, in whatever order -/
theorem Sep.pick {lo n : Nat} {l l' : List (Option Nat)} (s : Sep lo n l) (is : List Nat) (hx : is.map (fun i => l[i]?) = l'.map some) (hn : is.Nodup) : Sep lo n l' := by
  have hl : is.length = l'.length := by simpa using congrArg List.length hx
  have key : ∀ k (hk : k < l'.length), l[is[k]'(by omega)]? = some (l'[k]) := fun k hk => by
    have h1 : (is.map (fun i => l[i]?))[k]? = (l'.map some)[k]? := by rw [hx]
    rw [List.getElem?_map, List.getElem?_map, List.getElem?_eq_getElem (by omega), List.getElem?_eq_getElem hk] at h1
    simpa using h1
  refine ⟨fun x hx' k e => ?_, ?_⟩
  · obtain ⟨j, hj, rfl⟩ := List.getElem_of_mem hx'
    exact s.1 _ (List.mem_of_getElem? (key j hj)) k e
  · rw [List.pairwise_iff_getElem]
    intro a b ha hb hab k e
    exact s.ne (key a ha) (key b hb) (fun h => by have := (List.getElem_inj hn).1 h; omega) k e
end Go.Sha
namespace Go.Lane
open Go Go.Sha
theorem Row.cell1 {h : Heap} {a : Addr} {n cap : Nat} {L : List Int} {i : Nat} (r : Row h (.slice (some a) n cap) L.length 1 (irow L)) (hi : i < L.length) : hcell h (a.add i) = some (.int .i64 (L.getD i 0)) := by
  have := r.cells i (.int .i64 (L.getD i 0)) (by have := fm_get (f := ics) (k := 1) ics_len (d := 0) (j := 0) (u := .int .i64 (L.getD i 0)) hi rfl; rwa [Nat.mul_one] at this)
  exact this
end Go.Lane
namespace Go.Lane
open Go Go.Sha
theorem SimK.effAt {P : Program} {ops : Array Oper} {A : List Nat} {n : Nat} {base : Nat → Value} {K : Exit → Act → Heap → Prop} {D X Wd : Nat} {vals : Vals} {h : Heap} {i : Nat} {R : Value → Heap → Prop} {D' X' : Nat} (hD : D ||| 2 ^ i = D') (hX : X ||| anc A i ||| 2 ^ i = X') (pend : List Nat)
    (hp : pendL ops A D X Wd i = pend) (hd : Does P ops base vals i h R) (hs : ∀ v h', R v h' → (∀ j ∈ pend, Good P ops base vals h' j) ∧ SimK P ops A n base K D' X' Wd (vset vals i v) h') :
    ∃ R, Does P ops base vals i h R ∧ ∀ v h', R v h' → (∀ j ∈ pendL ops A D X Wd i, Good P ops base vals h' j) ∧ SimK P ops A n base K (D ||| 2 ^ i) (X ||| anc A i ||| 2 ^ i) Wd (vset vals i v) h' := by
  subst hD; subst hX; subst hp
  exact ⟨R, hd, hs⟩
end Go.Lane
namespace Go.Sha
open Go Go.Lane
/-! ### what is done to a record -/
structure Op2 where
  kd : Int
  n : Int
@[reducible] def ocs (o : Op2) : List Value := [.int .i64 o.kd, .int .i64 o.n]
def op0 : Op2 := ⟨0, 0⟩
theorem ocs_len (o : Op2) : (ocs o).length = 2 := rfl
@[reducible] def orow (l : List Op2) : List Value := l.flatMap ocs
def kindZ (n : Int) : Int := Int.tmod (if n < 0 then -(n + 1) else n) 3
theorem grow_cases (kd u ex : Int) (hx gx : Bool) :
    (kindZ kd = 0 ∧ (u < 0 ∨ 1099511627776 < u) ∧ gx = true) ∨ (kindZ kd = 0 ∧ (u < 0 ∨ 1099511627776 < u) ∧ gx = false) ∨ (kindZ kd = 0 ∧ (0 ≤ u ∧ u ≤ 1099511627776) ∧ gx = true) ∨
    (kindZ kd = 0 ∧ (0 ≤ u ∧ u ≤ 1099511627776 ∧ u ≤ ex) ∧ gx = false) ∨ (kindZ kd = 0 ∧ (0 ≤ u ∧ u ≤ 1099511627776 ∧ ex < u) ∧ gx = false) ∨ (kindZ kd = 1 ∧ gx = true) ∨ (kindZ kd = 1 ∧ gx = false) ∨
    ((kindZ kd ≠ 0 ∧ kindZ kd ≠ 1) ∧ gx = true) ∨ ((kindZ kd ≠ 0 ∧ kindZ kd ≠ 1) ∧ gx = false ∧ hx = true) ∨ ((kindZ kd ≠ 0 ∧ kindZ kd ≠ 1) ∧ u < ex ∧ gx = false ∧ hx = false) ∨ ((kindZ kd ≠ 0 ∧ kindZ kd ≠ 1) ∧ ex ≤ u ∧ gx = false ∧ hx = false) := by
  by_cases h0 : kindZ kd = 0
  · by_cases hu : u < 0 ∨ 1099511627776 < u
    · cases gx
      · exact .inr (.inl ⟨h0, hu, rfl⟩)
      · exact .inl ⟨h0, hu, rfl⟩
    · cases gx
      · by_cases he : u ≤ ex
        · exact .inr (.inr (.inr (.inl ⟨h0, ⟨by omega, by omega, he⟩, rfl⟩)))
        · exact .inr (.inr (.inr (.inr (.inl ⟨h0, ⟨by omega, by omega, by omega⟩, rfl⟩))))
      · exact .inr (.inr (.inl ⟨h0, ⟨by omega, by omega⟩, rfl⟩))
  · right; right; right; right; right
    by_cases h1 : kindZ kd = 1
    · cases gx
      · exact .inr (.inl ⟨h1, rfl⟩)
      · exact .inl ⟨h1, rfl⟩
    · right; right
      cases gx
      · cases hx
        · by_cases he : ex ≤ u
          · exact .inr (.inr (.inr ⟨⟨h0, h1⟩, he, rfl, rfl⟩))
          · exact .inr (.inr (.inl ⟨⟨h0, h1⟩, by omega, rfl, rfl⟩))
        · exact .inr (.inl ⟨⟨h0, h1⟩, rfl, rfl⟩)
      · exact .inl ⟨⟨h0, h1⟩, rfl⟩
theorem _root_.Go.Lane.Row.op {h : Heap} {a : Addr} {n cap : Nat} {L : List Op2} {i : Nat} {kd u : Int} (r : Row h (.slice (some a) n cap) L.length 2 (orow L)) (hi : i < L.length) (ho : L.getD i op0 = ⟨kd, u⟩) :
    hcell h (a.add (i * 2)) = some (.int .i64 kd) ∧ hcell h (a.add (i * 2 + 1)) = some (.int .i64 u) :=
  ⟨r.cells _ _ (fm_get (d := op0) (j := 0) ocs_len hi (by rw [ho]; rfl)), r.cells _ _ (fm_get (d := op0) (j := 1) ocs_len hi (by rw [ho]; rfl))⟩
end Go.Sha
