/- Chunks in plain Lean. No condition but those that each theorem names. -/
import Derived.Test.YtkjlafiefgbjpaaDoorVerProof
namespace Go.Sha
open Go Go.Lane
/-! ### chunks -/
def nch (n : Nat) : Nat := (n + 63) / 64
def ck (b : List UInt8) (i : Nat) : List UInt8 := (b.drop (i * 64)).take 64
theorem ck_len (b : List UInt8) (i : Nat) : (ck b i).length = min 64 (b.length - i * 64) := by simp [ck]
theorem ck_pos {b : List UInt8} {i : Nat} (h : i < nch b.length) : 0 < (ck b i).length := by rw [ck_len]; unfold nch at h; omega
theorem nch_le (n : Nat) : nch n ≤ n := by unfold nch; omega
theorem nch_pos {n : Nat} (h : 0 < n) : nch n = (n - 1) / 64 + 1 := by unfold nch; omega
def lch (b : List UInt8) (k : Nat) : List Hs := (List.range k).map fun i => leafH (ck b i)
theorem lch_len (b : List UInt8) (k : Nat) : (lch b k).length = k := by simp [lch]
theorem lch_32 (b : List UInt8) (k : Nat) : All32 (lch b k) := fun y hy => by
  obtain ⟨i, _, rfl⟩ := List.mem_map.1 hy; exact leaf_len _
theorem lch_next (b : List UInt8) (k : Nat) : lch b k ++ [leafH (ck b k)] = lch b (k + 1) := by
  unfold lch; rw [List.range_succ, List.map_append]; rfl
theorem lch_get {b : List UInt8} {k i : Nat} (h : i < k) : (lch b k).getD i [] = leafH (ck b i) := by simp [lch, List.getD, h]
/-- the chunks as the memory tells them: slices of one row -/
def cad (dat : Option Addr) (i : Nat) : Option Addr := dat.map fun (x : Addr) => x.add (i * 64)
def csl (dat : Option Addr) (b : List UInt8) (i : Nat) : Value := .slice (cad dat i) (ck b i).length (ck b i).length
def sls (dat : Option Addr) (b : List UInt8) (k : Nat) : List Value := (List.range k).map fun i => csl dat b i
theorem sls_len (dat : Option Addr) (b : List UInt8) (k : Nat) : (sls dat b k).length = k := by simp [sls]
theorem sls_next (dat : Option Addr) (b : List UInt8) (k : Nat) : sls dat b k ++ [csl dat b k] = sls dat b (k + 1) := by
  unfold sls; rw [List.range_succ, List.map_append]; rfl
theorem sls_get {dat : Option Addr} {b : List UInt8} {k i : Nat} (h : i < k) : (sls dat b k)[i]? = some (csl dat b i) := by simp [sls, h]
theorem sls_ones (dat : Option Addr) (b : List UInt8) (k : Nat) : ∀ u ∈ sls dat b k, u.oneCell' = true := fun u hu => by
  obtain ⟨i, _, rfl⟩ := List.mem_map.1 hu; rfl
/-- one chunk's row, out of the row of all bytes -/
theorem ck_row {h : Heap} {dat : Option Addr} {dc : Nat} {b : List UInt8} {i : Nat} (r : Row h (.slice dat b.length dc) b.length 1 (b.map bv)) (hi : i < nch b.length) : Row h (csl dat b i) (ck b i).length 1 ((ck b i).map bv) := by
  obtain ⟨a, cap, e, hc, hx⟩ := r.at (by unfold nch at hi; omega)
  cases e
  refine ⟨by simp, .inr ⟨a.add (i * 64), _, rfl, Nat.le_refl _, fun j u hu => ?_⟩⟩
  rw [add_add]
  refine hx _ _ ?_
  have hj : j < (ck b i).length := by
    apply Nat.lt_of_not_le; intro hh
    rw [List.getElem?_eq_none (by rw [List.length_map]; exact hh)] at hu; cases hu
  rw [ck_len] at hj
  rw [← hu, List.getElem?_map, List.getElem?_map, ck, List.getElem?_take_of_lt (by omega), List.getElem?_drop]
/-- the law of Check -/
def chkB (c : List UInt8) (i n : Int) (r : List Hs) (t : Hs) : Bool :=
  if n < 1 then false else if i < 0 ∨ Int.tdiv (n - 1) 64 + 1 ≤ i ∨ (c.length : Int) ≠ min 64 (n - i * 64) then false else inclB (leafH c) i (Int.tdiv (n - 1) 64 + 1) r t
theorem chk_held {b : List UInt8} {i : Nat} (hi : i < nch b.length) : chkB (ck b i) i b.length (incl (lch b (nch b.length)) i) (root (lch b (nch b.length))) = true := by
  have hb : 0 < b.length := by unfold nch at hi; omega
  have hn : Int.tdiv ((b.length : Int) - 1) 64 + 1 = ((nch b.length : Nat) : Int) := by
    rw [nch_pos hb, show (b.length : Int) - 1 = ((b.length - 1 : Nat) : Int) by omega, show (64 : Int) = ((64 : Nat) : Int) from rfl, tdivN]; omega
  unfold chkB
  rw [if_neg (by omega), hn, if_neg]
  · have := incl_held (L := lch b (nch b.length)) (m := i) (by rw [lch_len]; exact hi)
    rw [lch_get hi, lch_len] at this
    exact this
  · rw [ck_len]; unfold nch at hi ⊢; omega
theorem chk_not {c : List UInt8} {b : List UInt8} {i : Nat} {r : List Hs} {t : Hs} (hc : c.length ≠ min 64 (b.length - i * 64)) (hi : i * 64 ≤ b.length) : chkB c i b.length r t = false := by
  unfold chkB
  by_cases h1 : (b.length : Int) < 1
  · rw [if_pos h1]
  · rw [if_neg h1, if_pos]; omega
theorem chk_none (n : Nat) (t : Hs) : chkB [] 0 n [] t = false := by
  unfold chkB
  by_cases h1 : (n : Int) < 1
  · rw [if_pos h1]
  · rw [if_neg h1, if_pos]; right; right; simp; omega
/-- all chunks together -/
theorem ck_all (b : List UInt8) : ∀ k, (List.range k).flatMap (fun i => ck b i) = b.take (k * 64)
  | 0 => by simp
  | k + 1 => by
    rw [List.range_succ, List.flatMap_append, ck_all b k]
    simp only [List.flatMap_cons, List.flatMap_nil, List.append_nil, ck]
    rw [show (k + 1) * 64 = k * 64 + 64 by omega, List.take_add]
theorem ck_eq {a b : List UInt8} (hl : a.length = b.length) (h : ∀ i, i < nch a.length → ck a i = ck b i) : a = b := by
  have ha := ck_all a (nch a.length)
  have hb := ck_all b (nch a.length)
  rw [List.take_of_length_le (by unfold nch; omega)] at ha
  rw [List.take_of_length_le (by unfold nch; omega)] at hb
  rw [← ha, ← hb]
  have : ∀ l : List Nat, (∀ i ∈ l, i < nch a.length) → l.flatMap (fun i => ck a i) = l.flatMap (fun i => ck b i) := by
    intro l
    induction l with
    | nil => intro _; rfl
    | cons x l ih => intro hx; rw [List.flatMap_cons, List.flatMap_cons, h x (hx x (List.mem_cons_self ..)), ih (fun i hi => hx i (List.mem_cons_of_mem _ hi))]
  exact this _ fun i hi => List.mem_range.1 hi
end Go.Sha
namespace Go.Sha
open Go Go.Lane
theorem Sep.app {lo n m : Nat} {l l' : List (Option Nat)} (s : Sep lo n l) (t : Sep n m l') (h : n ≤ m) (h0 : lo ≤ n) : Sep lo m (l' ++ l) := by
  refine ⟨fun x hx k e => ?_, ?_⟩
  · rcases List.mem_append.1 hx with hx | hx
    · have := t.1 x hx k e; omega
    · have := s.1 x hx k e; omega
  · rw [List.pairwise_append]
    refine ⟨t.2, s.2, fun x hx y hy k e e' => ?_⟩
    have h1 := t.1 x hx k e
    have h2 := s.1 y hy k e'
    omega
def SplitR (h h' : Heap) (T U : TypeId) (v : Value) (b : List UInt8) : Prop :=
  ∃ va vc dat dc, v = .slice va (nch b.length) vc ∧ Own h' (.slice va (nch b.length) vc) T (nch b.length) 1 (sls dat b (nch b.length)) ∧ Own h' (.slice dat b.length dc) U b.length 1 (b.map bv) ∧
    Sep h.size h'.size [va.map (fun (x : Addr) => x.block), dat.map (fun (x : Addr) => x.block)] ∧ Ext h h'
theorem csl_lt {h : Heap} {dat : Option Addr} {dc E n i : Nat} {b : List UInt8} {xs : List Value} (o : Own h (.slice dat n dc) E n 1 xs) {k : Nat} (e : blkOf (csl dat b i) = some k) : k < h.size := by
  refine o.lt (k := k) ?_
  unfold csl cad at e
  rw [blkOf_slice] at e ⊢
  cases dat with
  | none => cases e
  | some a => simpa [add_block] using e
theorem sls_cell {h : Heap} {a dat : Option Addr} {aa : Addr} {vc E n i : Nat} {b : List UInt8} (o : Own h (.slice a n vc) E n 1 (sls dat b n)) (ha : a = some aa) (hi : i < n) : hcell h (aa.add i) = some (csl dat b i) := by
  subst ha; exact o.cell (sls_get hi)
theorem chk_small {c : List UInt8} {i n : Int} {r : List Hs} {t : Hs} (h : n < 1) : chkB c i n r t = false := by unfold chkB; rw [if_pos h]
theorem chk_no {c : List UInt8} {i : Int} {n : Nat} {r : List Hs} {t : Hs} (hn : 1 ≤ n) (h : i < 0 ∨ (((n - 1) / 64 + 1 : Nat) : Int) ≤ i ∨ (c.length : Int) ≠ min 64 ((n : Int) - i * 64)) : chkB c i n r t = false := by
  unfold chkB
  have hd : Int.tdiv ((n : Int) - 1) 64 = (((n - 1) / 64 : Nat) : Int) := by
    rw [show (n : Int) - 1 = ((n - 1 : Nat) : Int) by omega, show (64 : Int) = ((64 : Nat) : Int) from rfl, tdivN]
  rw [if_neg (by omega), hd, if_pos]
  rcases h with h | h | h
  · exact .inl h
  · exact .inr (.inl (by omega))
  · exact .inr (.inr h)
theorem chk_yes {c : List UInt8} {i n : Nat} {r : List Hs} {t : Hs} (hn : 1 ≤ n) (hi : i < (n - 1) / 64 + 1) (hc : c.length = min 64 (n - i * 64)) : chkB c i n r t = inclB (leafH c) i (((n - 1) / 64 + 1 : Nat) : Int) r t := by
  unfold chkB
  have hd : Int.tdiv ((n : Int) - 1) 64 = (((n - 1) / 64 : Nat) : Int) := by
    rw [show (n : Int) - 1 = ((n - 1 : Nat) : Int) by omega, show (64 : Int) = ((64 : Nat) : Int) from rfl, tdivN]
  rw [if_neg (by omega), hd, if_neg (by omega)]
  congr 1
end Go.Sha
namespace Go.Lane
open Go Go.Sha
theorem Own.caple {h : Heap} {ad : Option Addr} {n cap E sz : Nat} {xs : List Value} (o : Own h (.slice ad n cap) E n sz xs) : n ≤ cap := by
  rcases o.2 with ⟨e, h0⟩ | ⟨g, off, c, l, e, _, hc, _⟩
  · omega
  · cases e; exact hc
end Go.Lane
namespace Go.Sha
open Go Go.Lane
/-- 130 bytes of nought -/
def zb : List UInt8 := List.replicate 130 0
theorem zb_len : zb.length = 130 := List.length_replicate
theorem zb_nch : nch zb.length = 3 := by rw [zb_len]; rfl
theorem zb_held {P : List Hs} (hP : incl (lch zb 3) 2 = P) : chkB (ck zb 2) 2 130 P (root (lch zb 3)) = true := by
  subst hP
  have := chk_held (b := zb) (i := 2) (by rw [zb_nch]; decide)
  rw [zb_nch, zb_len] at this
  exact this
theorem zb_not {P : List Hs} {t : Hs} : chkB (ck zb 0) 2 130 P t = false :=
  chk_no (n := 130) (by decide) (.inr (.inr (by rw [ck_len, zb_len]; decide)))
theorem zb_ck2 : (ck zb 2).length = 2 := by rw [ck_len, zb_len]; rfl
theorem zb_ck0 : (ck zb 0).length = 64 := by rw [ck_len, zb_len]; rfl
def SplitN (h h' : Heap) (T U : TypeId) (v : Value) (b : List UInt8) (m N : Nat) : Prop :=
  ∃ va vc dat dc, v = .slice va N vc ∧ Own h' (.slice va N vc) T N 1 (sls dat b N) ∧ Own h' (.slice dat m dc) U m 1 (b.map bv) ∧
    Sep h.size h'.size [va.map (fun (x : Addr) => x.block), dat.map (fun (x : Addr) => x.block)] ∧ Ext h h'
end Go.Sha
namespace Go.Sha
open Go Go.Lane
theorem ck_rowN {h : Heap} {dat : Option Addr} {dc m N : Nat} {b : List UInt8} {i : Nat} (hm : b.length = m) (hN : nch m = N) (r : Row h (.slice dat m dc) m 1 (b.map bv)) (hi : i < N) : Row h (csl dat b i) (ck b i).length 1 ((ck b i).map bv) := by
  subst hm; subst hN; exact ck_row r hi
end Go.Sha
namespace Go.Sha
open Go Go.Lane
theorem toList_loop (bs : ByteArray) : ∀ (m i : Nat) (r : List UInt8), bs.size - i = m → ByteArray.toList.loop bs i r = r.reverse ++ bs.data.toList.drop i
  | 0, i, r, hm => by
    have hsz : bs.size = bs.data.toList.length := by rw [Array.length_toList]; rfl
    unfold ByteArray.toList.loop
    rw [if_neg (by omega), List.drop_of_length_le (by omega), List.append_nil]
  | m + 1, i, r, hm => by
    have hsz : bs.size = bs.data.toList.length := by rw [Array.length_toList]; rfl
    have hi : i < bs.data.toList.length := by omega
    unfold ByteArray.toList.loop
    rw [if_pos (by omega), toList_loop bs m (i + 1) _ (by omega), List.drop_eq_getElem_cons hi, List.reverse_cons, List.append_assoc]
    congr 1
    simp only [List.singleton_append]
    congr 1
    have : i < bs.data.size := by simpa using hi
    simp only [ByteArray.get!, Array.getElem_toList]
    exact getElem!_pos bs.data i this
theorem toList_mk (l : List UInt8) : (ByteArray.mk l.toArray).toList = l := by
  unfold ByteArray.toList; rw [toList_loop _ _ 0 [] rfl]; simp
theorem str_eq {a b : List UInt8} (h : a = b) : ((ByteArray.mk a.toArray).toList == (ByteArray.mk b.toArray).toList) = true := by subst h; simp
theorem str_ne {a b : List UInt8} (h : a ≠ b) : ((ByteArray.mk a.toArray).toList == (ByteArray.mk b.toArray).toList) = false := by
  rw [toList_mk, toList_mk]; simpa using h
theorem Calm.strN {P : Program} {ops : Array Oper} {base : Nat → Value} {vals : Vals} {i : Nat} {h : Heap} {va : Option Addr} {vc m : Nat} {l : List UInt8} (hm : l.length = m) (hx : csOp P ops base vals i = some (.slice va m vc)) (hr : Row h (.slice va m vc) m 1 (l.map bv)) :
    Go.Lane.Calm P ops base vals i h (.string (ByteArray.mk l.toArray)) := by
  subst hm; exact Go.Sha.Calm.str hx hr
theorem _root_.Go.Lane.Row.takeB {h : Heap} {va : Option Addr} {vc n : Nat} {l A : List UInt8} (r : Row h (.slice va l.length vc) l.length 1 (l.map bv)) (hn : n ≤ l.length) (hA : l.take n = A) : Row h (.slice va n vc) n 1 (A.map bv) := by
  subst hA
  refine ⟨by simp; omega, ?_⟩
  rcases r.2 with ⟨e, h0⟩ | ⟨a, c, e, hc, hx⟩
  · simp only [Value.slice.injEq] at e
    obtain ⟨rfl, _, rfl⟩ := e
    left; exact ⟨by rw [show n = 0 by omega], by omega⟩
  · cases e
    refine .inr ⟨a, vc, rfl, by omega, fun j u hu => hx j u ?_⟩
    rw [List.map_take, List.getElem?_take] at hu
    split at hu
    · exact hu
    · cases hu
theorem _root_.Go.Lane.Row.caple {h : Heap} {va : Option Addr} {vc n sz : Nat} {xs : List Value} (r : Row h (.slice va n vc) n sz xs) : n ≤ vc := by
  rcases r.2 with ⟨_, h0⟩ | ⟨a, c, e, hc, _⟩
  · omega
  · cases e; exact hc
theorem binds_end {A B : List UInt8} {n N : Nat} {un : Bool} (hA : A.length = n) (hB : B.length = n) (hN : nch n = N) (hne : A ≠ B) (hun : (∀ j, j < N → ck A j = ck B j) ∨ un = true) : un = true := by
  refine hun.resolve_left fun h => hne (ck_eq (by omega) fun i hi => h i (by rw [hA] at hi; omega))
end Go.Sha
namespace Go.Sha
open Go Go.Lane
def heldc (i n : Int) (s : Value) (t : Hs) : List Value := [.int .i64 i, .int .i64 n, s] ++ t.map bv
theorem heldc_t {P : Program} {h : Heap} {T E : TypeId} {b : Nat} {i n : Int} {s : Value} {t : Hs} (ht : aggTy P T = some (true, 32)) (hx : t.length = 32) (e : h[b]? = some (.cells (heldc i n s t).toArray E)) : Loads P h T ⟨b, 3, none⟩ (.agg (t.map bv).toArray) := by
  refine Loads.blk (by rw [List.length_map, hx]; exact ht) e ?_
  show (t.map bv).take _ = _
  exact List.take_of_length_le (by simp)
end Go.Sha
namespace Go.Sha
open Go Go.Lane
theorem ck_take (b : List UInt8) (i : Nat) : b.take (i * 64) ++ ck b i = b.take ((i + 1) * 64) := by
  rw [ck, show (i + 1) * 64 = i * 64 + 64 by omega, List.take_add]
theorem chk_heldN {b : List UInt8} {n N i : Nat} {P : List Hs} (hn : b.length = n) (hN : nch n = N) (hi : i < N) (hP : incl (lch b N) i = P) : chkB (ck b i) i n P (root (lch b N)) = true := by
  subst hn; subst hN; subst hP; exact chk_held hi
theorem _root_.Go.Lane.Row.ltB {h : Heap} {va : Option Addr} {vc m : Nat} {c : List UInt8} (r : Row h (.slice va m vc) m 1 (c.map bv)) : c = [] ∨ ∀ k, blkOf (.slice va m vc) = some k → k < h.size := by
  by_cases h0 : c = []
  · exact .inl h0
  · right
    intro k hk
    have hp : 0 < c.length := List.length_pos_iff.2 h0
    have hl := r.1
    rw [List.length_map] at hl
    obtain ⟨a, cap, e, _, hx⟩ := r.at (by omega)
    cases e
    have := hcell_lt (hx 0 (bv c[0]) (by simp [hp]))
    rw [add_block] at this
    simp only [blkOf, Option.some.injEq] at hk
    omega
theorem _root_.Go.Lane.Row.dropB {h : Heap} {va x : Option Addr} {vc m k : Nat} {c C : List UInt8} (r : Row h (.slice va m vc) m 1 (c.map bv)) (hk : k ≤ m) (hk2 : m ≤ vc) (e : x = if vc = k then va else va.map (fun (x : Addr) => x.add (k * 1))) (hC : c.drop k = C) : Row h (.slice x (m - k) (vc - k)) (m - k) 1 (C.map bv) := by
  subst hC
  have hl := r.1
  rw [List.length_map, Nat.mul_one] at hl
  refine ⟨by simp; omega, ?_⟩
  rcases r.2 with ⟨e1, h0⟩ | ⟨a, cap, e1, hc, hx⟩
  · simp only [Value.slice.injEq] at e1
    obtain ⟨rfl, _, rfl⟩ := e1
    left; refine ⟨?_, by omega⟩
    rw [e, show k = 0 by omega, h0]; simp
  · cases e1
    by_cases hvk : vc = k
    · rw [if_pos hvk] at e
      refine .inr ⟨a, vc - k, by rw [e], by omega, fun j u hu => ?_⟩
      rw [List.getElem?_eq_none (by simp; omega)] at hu; cases hu
    · rw [if_neg hvk] at e
      refine .inr ⟨a.add (k * 1), vc - k, by rw [e]; rfl, by omega, fun j u hu => ?_⟩
      rw [add_add]
      refine hx _ _ ?_
      rw [← hu, List.map_drop, List.getElem?_drop, Nat.mul_one]
end Go.Sha
