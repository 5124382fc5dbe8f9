/- The document's SHA-256 in plain Lean; small laws on own slices. No condition. -/
import Derived.Test.YtlghdimpgfhmcaaStL
import Derived.Laws.BytesString
namespace Go.Sha
open Go Go.Lane
def s8l (s : S8) : List W := [s.a, s.b, s.c, s.d, s.e, s.f, s.g, s.h]
theorem s8l_map (s : S8) : (s8l s).map wv = sv s := rfl
def refN (l : List W) (k : Nat) : W := (rr (l.getD (k - 2) 0) 17 ^^^ rr (l.getD (k - 2) 0) 19 ^^^ (l.getD (k - 2) 0) >>> 10) + l.getD (k - 7) 0 + (rr (l.getD (k - 15) 0) 7 ^^^ rr (l.getD (k - 15) 0) 18 ^^^ (l.getD (k - 15) 0) >>> 3) + l.getD (k - 16) 0
def refW (p : List UInt8) : Nat → List W
  | 0 => []
  | k + 1 => refW p k ++ [if k < 16 then word p (4 * k) else refN (refW p k) k]
theorem refW_length (p : List UInt8) : ∀ k, (refW p k).length = k
  | 0 => rfl
  | k + 1 => by simp [refW, refW_length p k]
theorem refW_lo {p : List UInt8} {k : Nat} (h : k < 16) : refW p k ++ [word p (4 * k)] = refW p (k + 1) := by simp [refW, h]
theorem refW_hi {p : List UInt8} {k : Nat} (h : 16 ≤ k) : refW p k ++ [refN (refW p k) k] = refW p (k + 1) := by simp [refW, Nat.not_lt.2 h]
theorem refW_first (p : List UInt8) : ∀ k, k ≤ 16 → refW p k = first p k
  | 0, _ => rfl
  | k + 1, h => by rw [← refW_lo (by omega), refW_first p k (by omega)]; rfl
theorem refW_sched (p : List UInt8) : ∀ k, refW p (16 + k) = sched p k
  | 0 => refW_first p 16 (Nat.le_refl _)
  | k + 1 => by
    rw [← Nat.add_assoc, ← refW_hi (by omega), refW_sched p k, sched_step]
    congr 2
    unfold refN
    generalize (sched p k).getD (16 + k - 2) 0 = x2
    generalize (sched p k).getD (16 + k - 7) 0 = x7
    generalize (sched p k).getD (16 + k - 15) 0 = x15
    generalize (sched p k).getD (16 + k - 16) 0 = x16
    rw [BitVec.add_comm (rr x2 17 ^^^ rr x2 19 ^^^ x2 >>> 10) x7, BitVec.add_comm _ x16, BitVec.add_comm (x7 + _) _, ← BitVec.add_assoc, ← BitVec.add_assoc]
theorem refW_all (p : List UInt8) : refW p 64 = sched p 48 := refW_sched p 48
theorem ones_wvs (l : List W) : ∀ u ∈ l.map wv, u.oneCell' = true := fun u hu => by
  obtain ⟨x, _, rfl⟩ := List.mem_map.1 hu; rfl
theorem _root_.Go.Lane.Own.blk {h : Heap} {g n sz E : Nat} {l : List Value} (m : h[g]? = some (.cells l.toArray E)) (hl : l.length = n * sz) (hn : n ≤ maxLen) : Own h (.slice (some ⟨g, 0, none⟩) n n) E n sz l :=
  ⟨hl, .inr ⟨g, 0, n, _, rfl, m, Nat.le_refl _, hn, by simp [hl], by rw [← hl]; simp⟩⟩
theorem _root_.Go.Lane.Own.cell {h : Heap} {a : Addr} {n m cap sz E : Nat} {xs : List Value} (o : Own h (.slice (some a) n cap) E m sz xs) {j : Nat} {u : Value} (hu : xs[j]? = some u) : hcell h (a.add j) = some u := o.row.cells j u hu
theorem _root_.Go.Lane.Own.someA {h : Heap} {ad : Option Addr} {n cap E sz : Nat} {xs : List Value} (o : Own h (.slice ad n cap) E n sz xs) (hn : 0 < n) : ∃ a, ad = some a ∧ n ≤ cap := by
  obtain ⟨g, off, e, hc⟩ := o.some_at hn; exact ⟨_, e, hc⟩
theorem _root_.Go.Lane.Own.appG {h : Heap} {ad : Option Addr} {n m c sz k : Nat} {E : TypeId} {X Y Z : List Value} (o : Own h (.slice ad (n + m) c) E (n + m) sz (X ++ Y)) (hX : X ++ Y = Z) (hn : n + m = k) : Own h (.slice ad k c) E k sz Z := by
  subst hX; subst hn; exact o
theorem Sep.sub {lo n : Nat} {l l' : List (Option Nat)} (s : Sep lo n l) (h : l'.Sublist l) : Sep lo n l' := ⟨fun x hx => s.1 x (h.subset hx), s.2.sublist h⟩
theorem kget {k : Nat} (h : k < 64) : (K64.map wv).toArray[k]? = some (wv (K64.getD k 0)) := by
  have h2 : k < K64.length := h
  simp [List.getD, h2]
theorem wget {l : List W} {n j : Nat} (hl : l.length = n) (h : j < n) : (l.map wv)[j]? = some (wv (l.getD j 0)) := by
  subst hl; simp [List.getD, h]
theorem run_at {T : List UInt8} {st : S8} {i : Nat} (h : i + 64 ≤ T.length) : run st (T.drop i) = run (piece st ((T.drop i).take 64)) (T.drop (i + 64)) := by
  rw [run_step (by rw [List.length_drop]; omega), List.drop_drop]
end Go.Sha
namespace Go.Sha
open Go Go.Lane
/-- bytes to a string -/
def csF (P : Program) (e : Operand → Value) (o : Oper) : Option Value :=
  match o.op with
  | .convert s d x => match P.underlying s, P.underlying d with
    | some (.slice el), some .string => match P.underlying el with
      | some (.int .u8) => some (e x)
      | _ => none
    | _, _ => none
  | _ => none
def csOp (P : Program) (ops : Array Oper) (base : Nat → Value) (vals : Vals) (i : Nat) := (opE ops base vals i).bind (csF P (env ops base vals i))
theorem fold_push (l : List UInt8) : ∀ (s : ByteArray), (l.map fun b => (b.toNat : Int)).foldl (fun r n => r.push (UInt8.ofNat n.toNat)) s = ⟨s.data ++ l.toArray⟩ := by
  induction l with
  | nil => intro s; simp
  | cons b l ih =>
    intro s
    simp only [List.map_cons, List.foldl_cons]
    rw [ih]
    simp [ByteArray.push]
theorem Calm.str {P : Program} {ops : Array Oper} {base : Nat → Value} {vals : Vals} {i : Nat} {h : Heap} {v : Value} {l : List UInt8} (hx : csOp P ops base vals i = some v) (hr : Row h v l.length 1 (l.map bv)) :
    Go.Lane.Calm P ops base vals i h (.string ⟨l.toArray⟩) := by
  refine does_split hx fun o ho w hw => ?_
  unfold csF at ho
  cases hop : o.op with
  | convert s d x =>
    simp only [hop] at ho
    cases hs : P.underlying s with
    | none => simp [hs] at ho
    | some ds =>
      cases hd : P.underlying d with
      | none => simp [hs, hd] at ho
      | some dd =>
        cases ds <;> simp only [hs, hd] at ho <;> first | (cases ho; done) | skip
        rename_i el
        cases dd <;> simp only at ho <;> first | (cases ho; done) | skip
        cases he : P.underlying el with
        | none => simp [he] at ho
        | some de =>
          cases de <;> simp only [he] at ho <;> first | (cases ho; done) | skip
          rename_i k
          cases k <;> simp only [Option.some.injEq] at ho <;> first | (cases ho; done) | skip
          subst ho
          have hr2 : (Conv.bytesToString (env ops base vals i x)).run P w = .ok (.string ⟨l.toArray⟩) w := by
            rcases hr.2 with ⟨e, hn⟩ | ⟨a, cap, e, _, hc⟩
            · rw [e]
              have : l = [] := List.eq_nil_of_length_eq_zero hn
              subst this
              rfl
            · rw [e]
              have hl := run_loadCells_list (P := P) w a (l.map bv) (fun j u hu => by rw [hcell_eq hw]; exact hc j u hu)
              rw [List.length_map] at hl
              have hm : (l.map bv) = (l.map fun b => (b.toNat : Int)).map (Value.int .u8) := by simp [bv, List.map_map, Function.comp_def]
              rw [run_bytesToString w a l.length cap (l.map fun b => (b.toNat : Int)) (by rw [← hm]; exact hl), fold_push]
              simp
          have hv : ∃ a b c, env ops base vals i x = .slice a b c := by
            rcases hr.2 with ⟨e, _⟩ | ⟨a, cap, e, _⟩ <;> exact ⟨_, _, _, e⟩
          obtain ⟨a, b, c, hv⟩ := hv
          have hrun : (execOp (env ops base vals i) o).run P w = .ok (.value (.string ⟨l.toArray⟩)) w := by
            unfold execOp
            rw [hv] at hr2
            simp [hop, hv, run_convert_bytes_string w s d el a b c hs he hd, hr2]
          rw [hrun]
          exact ⟨Same.refl w, rfl, hw⟩
  | _ => simp [hop] at ho
end Go.Sha
namespace Go.Sha
open Go Go.Lane
/-- the block of 32 bytes of which the first are told -/
def ol (xs : List UInt8) : List Value := xs.map bv ++ List.replicate (32 - xs.length) (bv 0)
theorem ol_length {xs : List UInt8} (h : xs.length ≤ 32) : (ol xs).length = 32 := by simp [ol]; omega
theorem ol_put {xs : List UInt8} {v : UInt8} {off : Nat} (h : xs.length = off) (h2 : off < 32) : Lane.splice (ol xs) off [bv v] = ol (xs ++ [v]) := by
  subst h
  obtain ⟨m, hm⟩ : ∃ m, 32 - xs.length = m + 1 := ⟨31 - xs.length, by omega⟩
  have h2 : 32 - (xs ++ [v]).length = m := by simp; omega
  have hx : xs.length = (xs.map bv).length := by simp
  unfold Lane.splice ol
  rw [hm, h2]
  conv => lhs; rw [hx]
  simp [List.replicate_succ, List.drop_append]
theorem ol_fit {xs : List UInt8} {v : Value} {off : Nat} (h : xs.length = off) (h2 : off < 32) : off + [v].length ≤ (ol xs).length := by rw [ol_length (by omega)]; simp; omega
theorem ol_full {xs : List UInt8} (h : xs.length = 32) : ol xs = xs.map bv := by simp [ol, h]
def outW (ws : List W) : Nat → List UInt8
  | 0 => []
  | k + 1 => outW ws k ++ [b32 (ws.getD (k / 4) 0 >>> (24 - 8 * (k % 4)))]
theorem outW_length (ws : List W) : ∀ k, (outW ws k).length = k
  | 0 => rfl
  | k + 1 => by simp [outW, outW_length ws k]
theorem outW_told (s : S8) : outW (s8l s) 32 = told s := by kernel_rfl
end Go.Sha
namespace Go.Lane
open Go
theorem Does.mono {P : Program} {ops : Array Oper} {base : Nat → Value} {vals : Vals} {i : Nat} {h : Heap} {R R' : Value → Heap → Prop} (d : Does P ops base vals i h R) (hr : ∀ v h', R v h' → R' v h') : Does P ops base vals i h R' := by
  obtain ⟨o, ho, hw, hf⟩ := d.does
  refine ⟨o, ho, hw, fun w e => ?_⟩
  have := hf w e
  revert this
  cases (execOp (env ops base vals i) o).run P w with
  | ok s w' =>
    cases s with
    | value v => exact fun ⟨a, b⟩ => ⟨a, hr _ _ b⟩
    | skip => exact fun ⟨a, b⟩ => ⟨a, hr _ _ b⟩
    | enter f args => exact fun ⟨a, b⟩ => ⟨a, b.mono hr⟩
    | _ => exact id
  | _ => exact id
theorem splice_length {l vs : List Value} {o : Nat} (h : o + vs.length ≤ l.length) : (splice l o vs).length = l.length := by
  simp only [splice, List.length_append, List.length_take, List.length_drop]; omega
theorem splice_drop {l vs : List Value} {o q : Nat} (h : o + q ≤ l.length) : (splice l (o + q) vs).drop o = splice (l.drop o) q vs := by
  unfold splice
  rw [List.append_assoc, List.drop_append, List.length_take, show o - min (o + q) l.length = 0 by omega, List.drop_zero, List.drop_take, show o + q - o = q by omega, List.drop_drop, List.append_assoc, Nat.add_assoc]
theorem splice_take {l vs : List Value} {q N : Nat} (h : q + vs.length ≤ N) (hN : N ≤ l.length) : (splice l q vs).take N = splice (l.take N) q vs := by
  unfold splice
  rw [List.take_append, List.length_append, List.length_take, show min q l.length = q by omega, List.take_of_length_le (by rw [List.length_append, List.length_take]; omega), List.take_take, show min q N = q by omega, List.drop_take]
theorem Does.storeOwn {P : Program} {ops : Array Oper} {base : Nat → Value} {vals : Vals} {h : Heap} {i : Nat} {a : Addr} {q n cap sz E : Nat} {vs xs : List Value} (hx : storeOp P ops base vals i = some (a.add q, vs))
    (o : Own h (.slice (some a) n cap) E n sz xs) (hq : q + vs.length ≤ n * sz) (h1 : ∀ v ∈ vs, v.oneCell' = true) :
    Does P ops base vals i h fun v h' => v = undef ∧ Own h' (.slice (some a) n cap) E n sz (splice xs q vs) ∧ Grew (some a.block) h h' := by
  rcases o with ⟨hxl, ⟨e, _⟩ | ⟨g, off, cap', l, e, hg, hc, hm, hl, hxs⟩⟩
  · cases e
  · cases e
    rw [add_lit] at hx
    have hle : n * sz ≤ cap * sz := Nat.mul_le_mul_right _ hc
    have hf : off + q + vs.length ≤ l.toList.length := by rw [show l.toList.length = l.size from Array.length_toList]; omega
    refine Does.mono (Does.store (l := l.toList) (E := E) hx (by rw [Array.toArray_toList]; exact hg) hf h1) ?_
    rintro v h' ⟨rfl, hh⟩
    refine ⟨rfl, ⟨by rw [splice_length (by omega)]; exact hxl, .inr ⟨g, off, cap, _, rfl, hput_at hh rfl hg, hc, hm, ?_, ?_⟩⟩, hput_gr hh⟩
    · rw [List.size_toArray, splice_length hf, show l.toList.length = l.size from Array.length_toList]; exact hl
    · show ((splice l.toList (off + q) vs).drop off).take (n * sz) = _
      rw [splice_drop (by omega), splice_take hq (by rw [List.length_drop, show l.toList.length = l.size from Array.length_toList]; omega), hxs]
end Go.Lane
namespace Go.Sha
open Go Go.Lane
theorem Calm.shr32 {P : Program} {ops : Array Oper} {base : Nat → Value} {vals : Vals} {i : Nat} {e : W} (n : Nat) (hx : shOp ops base vals i = some (true, .u32, (e.toNat : Int), ((n : Nat) : Int))) (hn : n ≤ 32) (h : Heap) :
    Go.Lane.Calm P ops base vals i h (wv (e >>> n)) := by
  have := Go.Lane.Calm.shr (P := P) n hx rfl (show n ≤ IntKind.u32.bits from hn) h
  rwa [Sha.shr32] at this
end Go.Sha
