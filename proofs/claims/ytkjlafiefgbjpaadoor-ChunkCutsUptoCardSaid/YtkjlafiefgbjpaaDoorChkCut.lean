/- Chunks, each in a row of its own. No condition but those that each theorem names. -/
import Derived.Test.YtkjlafiefgbjpaaDoorChkMath
namespace Go.Lane
open Go Go.Sha
section
variable {P : Program} {ops : Array Oper} {base : Nat → Value} {vals : Vals} {h : Heap} {i : Nat}
/-- append to a slice that is full: a new row, and nothing old is touched -/
theorem Does.appendFull {t E : TypeId} {sz by_ n m : Nat} {a : Addr} {x : Value} {xs ys : List Value} (hx : apOp ops base vals i = some (t, t, .slice (some a) n n, x)) (he : elF P t = some (E, sz, by_, true))
    (ho : Row h (.slice (some a) n n) n sz xs) (hr : Row h x m sz ys) (hm : 0 < m) (hlen : n + m ≤ maxLen) (hbytes : (n + m) * by_ ≤ 140737488355328) :
    Does P ops base vals i h fun v' h' => ∃ ad cap, v' = .slice (some ad) (n + m) cap ∧ Own h' (.slice (some ad) (n + m) cap) E (n + m) sz (xs ++ ys) ∧ ad.block = h.size ∧ Ext h h' := by
  obtain ⟨hu, inf, z, hi, hz, hsize, hby, hzs, hpos⟩ := elF_spec he
  subst hsize; subst hby
  have hlen' : (xs ++ ys).length = (n + m) * inf.size := by rw [List.length_append, ho.1, hr.1, Nat.add_mul]
  have h63 : n + m ≤ 9223372036854775807 := by simp only [maxLen] at hlen; omega
  refine does_split hx fun o hop w hw => ?_
  subst hw
  obtain ⟨a', c', e', _, holds⟩ := ho.2.resolve_left (by simp)
  cases e'
  obtain ⟨b, c, hxv, _, hcells⟩ := hr.at hm
  subst hxv
  have hrun := run_append_grow (P := P) w t o.type E inf z hu hi hz a n n xs ho.1 holds b m c ys hr.1 (fun j u hu => hcells j u hu) (by omega) (by omega) (growslice_fits (by omega) hbytes)
  have hge := grownCap_ge w (n + m) n E
  have hcm := grownCap_le_maxLen w (n + m) n E hlen
  rw [apF_run hop w hrun]
  refine ⟨⟨rfl, rfl, rfl⟩, ⟨w.heap.size, 0, none⟩, _, rfl, ⟨hlen', .inr ⟨w.heap.size, 0, _, _, rfl, heap_alloc_new w.drew _, hge, hcm, ?_, ?_⟩⟩, rfl, Ext.push _ _⟩
  · simp only [Array.size_append, List.size_toArray, size_zeroCells, hzs, ho.1, hr.1, ← Nat.add_mul]
    apply Nat.le_of_eq
    rw [Nat.zero_add]
    congr 1
    omega
  · simp only [Array.toList_append, List.append_assoc, List.drop_zero]
    rw [← List.append_assoc, ← hlen']
    exact List.take_left
end
end Go.Lane
namespace Go.Sha
open Go Go.Lane
theorem hop_ge {n : Nat} {x : Option Nat} (h : x = none ∨ ∃ g, x = some g ∧ n ≤ g) : ∀ k, x = some k → n ≤ k := by
  intro k e
  rcases h with h | ⟨g, h, hg⟩
  · rw [h] at e; cases e
  · rw [h] at e; cases e; exact hg
/-- the first k chunks, each in a row of its own; the rows lie in blocks from lo to hi, and not in x -/
structure RC (lo hi : Nat) (x : Option Nat) (h : Heap) (ys : List Value) (b : List UInt8) (k : Nat) : Prop where
  len : ys.length = k
  top : hi ≤ h.size
  at_ : ∀ i, i < k → ∃ a cap, ys[i]? = some (.slice (some a) (ck b i).length cap) ∧ Row h (.slice (some a) (ck b i).length cap) (ck b i).length 1 ((ck b i).map bv) ∧ lo ≤ a.block ∧ a.block < hi ∧ some a.block ≠ x
section
variable {lo hi : Nat} {x y o : Option Nat} {h h' : Heap} {ys : List Value} {b : List UInt8} {k : Nat}
theorem RC.nil (lo : Nat) (x : Option Nat) (h : Heap) (b : List UInt8) : RC lo h.size x h [] b 0 := ⟨rfl, Nat.le_refl _, fun i hi => by omega⟩
theorem RC.grew (r : RC lo hi x h ys b k) (g : Grew o h h') (ho : ∀ j, o = some j → hi ≤ j ∨ j < lo) : RC lo hi x h' ys b k := by
  refine ⟨r.len, Nat.le_trans r.top g.size, fun i hk => ?_⟩
  obtain ⟨a, cap, e, hr, h1, h2, h3⟩ := r.at_ i hk
  refine ⟨a, cap, e, hr.kept g (.inr ?_), h1, h2, h3⟩
  intro e2
  simp only [blkOf] at e2
  have := ho _ e2.symm
  omega
theorem RC.ext (r : RC lo hi x h ys b k) (g : Ext h h') : RC lo hi x h' ys b k := r.grew g fun j e => by cases e
theorem RC.out (r : RC lo hi x h ys b k) (g : Grew x h h') (hb : y = x ∨ y = some h.size) : RC lo hi y h' ys b k := by
  refine ⟨r.len, Nat.le_trans r.top g.size, fun i hk => ?_⟩
  obtain ⟨a, cap, e, hr, h1, h2, h3⟩ := r.at_ i hk
  refine ⟨a, cap, e, hr.kept g (.inr ?_), h1, h2, ?_⟩
  · simpa [blkOf] using h3
  · have := r.top
    rcases hb with hb | hb
    · rw [hb]; exact h3
    · rw [hb]; intro e2; have e3 := Option.some.inj e2; omega
theorem RC.snoc (r : RC lo hi x h ys b k) {a : Option Addr} {m cap : Nat} (hm : m = (ck b k).length) (hp : 0 < (ck b k).length) (hr : Row h (.slice a (ck b k).length cap) (ck b k).length 1 ((ck b k).map bv)) (h1 : ∀ j, a.map (fun (x : Addr) => x.block) = some j → lo ≤ j ∧ j < h.size) (h3 : a.map (fun (x : Addr) => x.block) = Option.none ∨ a.map (fun (x : Addr) => x.block) ≠ x) : RC lo h.size x h (ys ++ [.slice a m cap]) b (k + 1) := by
  subst hm
  obtain ⟨a', c', e', _, _⟩ := hr.at hp
  cases e'
  refine ⟨by simp [r.len], Nat.le_refl _, fun i hi => ?_⟩
  rcases Nat.lt_or_ge i k with hk | hk
  · obtain ⟨a, cap, e, hr, h1, h2, h3⟩ := r.at_ i hk
    exact ⟨a, cap, by rw [List.getElem?_append_left (by rw [r.len]; exact hk)]; exact e, hr, h1, Nat.lt_of_lt_of_le h2 r.top, h3⟩
  · obtain rfl : i = k := by omega
    refine ⟨a', cap, by rw [List.getElem?_append_right (by rw [r.len]; exact Nat.le_refl _), r.len, Nat.sub_self]; rfl, hr, (h1 _ rfl).1, (h1 _ rfl).2, ?_⟩
    rcases h3 with h3 | h3
    · cases h3
    · exact h3
theorem RC.wide (r : RC lo hi x h ys b k) : RC lo h.size x h ys b k :=
  ⟨r.len, Nat.le_refl _, fun i hk => by obtain ⟨a, cap, e, hr, h1, h2, h3⟩ := r.at_ i hk; exact ⟨a, cap, e, hr, h1, Nat.lt_of_lt_of_le h2 r.top, h3⟩⟩
end
/-- what the document's Split tells -/
def RSplitN (h h' : Heap) (T : TypeId) (v : Value) (b : List UInt8) (N : Nat) : Prop :=
  ∃ va vc ys, v = .slice va N vc ∧ Own h' (.slice va N vc) T N 1 ys ∧ RC h.size h'.size (va.map fun (x : Addr) => x.block) h' ys b N ∧ (∀ k, va.map (fun (x : Addr) => x.block) = some k → h.size ≤ k) ∧ Ext h h'
/-- the bytes of a chunk, cut out of a row -/
theorem ck_rowC {h : Heap} {va : Option Addr} {vc n k m c : Nat} {b : List UInt8} (hr : Row h (.slice va n vc) n 1 (b.map bv)) (hbn : b.length = n) (hk : k * 64 < n) (hm : m = (ck b k).length) (hc : m ≤ c) : Row h (.slice (cad va k) m c) m 1 ((ck b k).map bv) := by
  subst hm; subst hbn
  have := ck_row hr (i := k) (by unfold nch; omega)
  obtain ⟨a, cap, e, hcc, hx⟩ := this.at (by rw [ck_len]; omega)
  unfold csl at e
  simp only [Value.slice.injEq] at e
  refine ⟨this.1, .inr ⟨a, c, by rw [e.1], hc, hx⟩⟩
/-- what stands behind the k-th chunk is still the old -/
def Behind (b b' : List UInt8) (q : Nat) : Prop := b'.length = b.length ∧ b'.drop q = b.drop q
theorem Behind.refl (b : List UInt8) (q : Nat) : Behind b b q := ⟨rfl, rfl⟩
theorem Behind.mono {b b' : List UInt8} {q r : Nat} (h : Behind b b' q) (hr : q ≤ r) : Behind b b' r := ⟨h.1, by
  have := congrArg (List.drop (r - q)) h.2
  rwa [List.drop_drop, List.drop_drop, show q + (r - q) = r by omega] at this⟩
theorem Behind.set {b b' : List UInt8} {q j : Nat} (h : Behind b b' q) (hj : j < q) (x : UInt8) : Behind b (b'.set j x) q := ⟨by rw [List.length_set]; exact h.1, by rw [List.drop_set_of_lt hj]; exact h.2⟩
theorem Behind.same {b b' : List UInt8} {k : Nat} (h : Behind b b' (k * 64)) : ck b' k = ck b k := by unfold Go.Sha.ck; rw [h.2]
theorem splice_one {l : List UInt8} {q : Nat} (x : UInt8) (h : q < l.length) : splice (l.map bv) q [bv x] = (l.set q x).map bv := by
  unfold splice
  rw [List.map_set, List.set_eq_take_append_cons_drop, if_pos (by rw [List.length_map]; exact h)]
  simp
theorem splice_val {l : List Value} {q : Nat} (x : Value) (h : q < l.length) : splice l q [x] = l.set q x := by
  unfold splice
  rw [List.set_eq_take_append_cons_drop, if_pos h]
  simp
/-- the chunk's row out of the turned bytes -/
theorem Behind.row {h : Heap} {dat : Option Addr} {dc n N k : Nat} {b b' : List UInt8} (hbn : b.length = n) (hN : nch n = N) (B : Behind b b' (k * 64)) (r : Row h (.slice dat n dc) n 1 (b'.map bv)) (hk : k < N) : Row h (csl dat b k) (ck b k).length 1 ((ck b k).map bv) := by
  have := ck_rowN (by rw [B.1]; exact hbn) hN r hk
  unfold csl at this
  rwa [B.same] at this
/-- the heads of the chunks from the k-th on are still the old -/
def Heads (dat : Option Addr) (b : List UInt8) (xs : List Value) (k N : Nat) : Prop := xs.length = N ∧ ∀ i, k ≤ i → i < N → xs[i]? = some (csl dat b i)
theorem Heads.start (dat : Option Addr) (b : List UInt8) (N : Nat) : Heads dat b (sls dat b N) 0 N := ⟨sls_len _ _ _, fun _ _ hi => sls_get hi⟩
theorem Heads.set {dat : Option Addr} {b : List UInt8} {xs : List Value} {k N : Nat} (h : Heads dat b xs k N) (x : Value) : Heads dat b (xs.set k x) (k + 1) N := ⟨by rw [List.length_set]; exact h.1, fun i hi hN => by rw [List.getElem?_set_ne (by omega)]; exact h.2 i (by omega) hN⟩
theorem Heads.cell {h : Heap} {dat : Option Addr} {b : List UInt8} {xs : List Value} {k N : Nat} {aa : Addr} {vc E : Nat} (H : Heads dat b xs k N) (o : Own h (.slice (some aa) N vc) E N 1 xs) (hk : k < N) : hcell h (aa.add k) = some (csl dat b k) := o.cell (H.2 k (Nat.le_refl _) hk)
theorem RC.cell {h : Heap} {N : Nat} {ys : List Value} {aa : Addr} {vc E i : Nat} {v : Value} (o : Own h (.slice (some aa) N vc) E N 1 ys) (e : ys[i]? = some v) : hcell h (aa.add i) = some v := o.cell e
end Go.Sha
namespace Go.Sha
open Go Go.Lane
/-- a chunk's place, whatever stands there now -/
theorem row_any {h : Heap} {dat : Option Addr} {dc n N k : Nat} {b b' : List UInt8} (hbn : b.length = n) (hN : nch n = N) (hl : b'.length = b.length) (r : Row h (.slice dat n dc) n 1 (b'.map bv)) (hk : k < N) : Row h (csl dat b k) (ck b k).length 1 ((ck b' k).map bv) := by
  have := ck_rowN (by rw [hl]; exact hbn) hN r hk
  have e : (ck b' k).length = (ck b k).length := by rw [ck_len, ck_len, hl]
  unfold csl at this
  rwa [e] at this
end Go.Sha
