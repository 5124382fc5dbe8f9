/- SHA-256 in plain Lean, and the small laws that its walks use. No condition. -/
import Derived.Test.YtlghdimpgfhmcaaLane
namespace Go.Sha
open Go
abbrev W := BitVec 32
def wv (b : W) : Value := .int .u32 (b.toNat : Int)
def bv (b : UInt8) : Value := .int .u8 (b.toNat : Int)

theorem wrap32_nat (x : Nat) : IntKind.u32.wrap (x : Int) = ((x % 4294967296 : Nat) : Int) := by
  simp only [IntKind.wrap, IntKind.bits, IntKind.signed]
  simp
theorem ofInt32 (b : W) : BitVec.ofInt 32 (b.toNat : Int) = b := by simp
theorem wrap32_toNat (b : W) : IntKind.u32.wrap (b.toNat : Int) = (b.toNat : Int) := by
  rw [wrap32_nat, Nat.mod_eq_of_lt b.isLt]
theorem add32 (a b : W) : Value.int .u32 (IntKind.u32.wrap ((a.toNat : Int) + (b.toNat : Int))) = wv (a + b) := by
  unfold wv
  rw [← Int.natCast_add, wrap32_nat, BitVec.toNat_add]
theorem and32 (a b : W) : Value.int .u32 (IntKind.u32.wrap ((BitVec.ofInt 32 (a.toNat : Int) &&& BitVec.ofInt 32 (b.toNat : Int)).toNat : Int)) = wv (a &&& b) := by
  unfold wv; rw [ofInt32, ofInt32, wrap32_toNat]
theorem or32 (a b : W) : Value.int .u32 (IntKind.u32.wrap ((BitVec.ofInt 32 (a.toNat : Int) ||| BitVec.ofInt 32 (b.toNat : Int)).toNat : Int)) = wv (a ||| b) := by
  unfold wv; rw [ofInt32, ofInt32, wrap32_toNat]
theorem xor32 (a b : W) : Value.int .u32 (IntKind.u32.wrap ((BitVec.ofInt 32 (a.toNat : Int) ^^^ BitVec.ofInt 32 (b.toNat : Int)).toNat : Int)) = wv (a ^^^ b) := by
  unfold wv; rw [ofInt32, ofInt32, wrap32_toNat]
theorem shl32 (a : W) (n : Nat) : Value.int .u32 (IntKind.u32.wrap ((a.toNat : Int) * 2 ^ n)) = wv (a <<< n) := by
  unfold wv
  have : ((a.toNat : Int) * 2 ^ n) = ((a.toNat * 2 ^ n : Nat) : Int) := by simp
  rw [this, wrap32_nat, BitVec.toNat_shiftLeft, Nat.shiftLeft_eq]
theorem shr32 (a : W) (n : Nat) : Value.int .u32 (Int.fdiv (a.toNat : Int) (2 ^ n)) = wv (a >>> n) := by
  unfold wv
  rw [BitVec.toNat_ushiftRight, Nat.shiftRight_eq_div_pow]
  congr 1
  have : ((2 : Int) ^ n) = ((2 ^ n : Nat) : Int) := by simp
  rw [this, Int.fdiv_eq_ediv_of_nonneg _ (Int.natCast_nonneg _), Int.natCast_ediv]
theorem not32 (a : W) : Value.int .u32 (IntKind.u32.wrap ((BitVec.ofInt 32 4294967295 ^^^ BitVec.ofInt 32 (a.toNat : Int)).toNat : Int)) = wv (~~~a) := by
  unfold wv
  rw [ofInt32, wrap32_toNat]
  have : BitVec.ofInt 32 4294967295 = BitVec.allOnes 32 := by decide
  rw [this, BitVec.allOnes_xor]
def w8 (b : UInt8) : W := BitVec.ofNat 32 b.toNat
theorem conv8 (b : UInt8) : Value.int .u32 (IntKind.u32.wrap (b.toNat : Int)) = wv (w8 b) := by
  unfold wv w8
  rw [wrap32_nat, BitVec.toNat_ofNat]
def b32 (a : W) : UInt8 := UInt8.ofNat a.toNat
theorem wrap8_nat (x : Nat) : IntKind.u8.wrap (x : Int) = ((x % 256 : Nat) : Int) := by
  simp only [IntKind.wrap, IntKind.bits, IntKind.signed]
  simp
theorem conv32 (a : W) : Value.int .u8 (IntKind.u8.wrap (a.toNat : Int)) = bv (b32 a) := by
  unfold bv b32
  rw [wrap8_nat]; simp
end Go.Sha
namespace Go.Sha
open Go
def rr (x : W) (n : Nat) : W := (x >>> n) ||| (x <<< (32 - n))
def word (p : List UInt8) (i : Nat) : W := w8 (p.getD i 0) <<< 24 ||| w8 (p.getD (i + 1) 0) <<< 16 ||| w8 (p.getD (i + 2) 0) <<< 8 ||| w8 (p.getD (i + 3) 0)
def sg0 (x : W) : W := rr x 7 ^^^ rr x 18 ^^^ (x >>> 3)
def sg1 (x : W) : W := rr x 17 ^^^ rr x 19 ^^^ (x >>> 10)
def nextW (l : List W) : W := l.getD (l.length - 16) 0 + sg0 (l.getD (l.length - 15) 0) + l.getD (l.length - 7) 0 + sg1 (l.getD (l.length - 2) 0)
def first (p : List UInt8) : Nat → List W
  | 0 => []
  | k + 1 => first p k ++ [word p (4 * k)]
def sched (p : List UInt8) : Nat → List W
  | 0 => first p 16
  | k + 1 => sched p k ++ [nextW (sched p k)]
theorem first_length (p : List UInt8) : ∀ k, (first p k).length = k
  | 0 => rfl
  | k + 1 => by simp [first, first_length p k]
theorem sched_length (p : List UInt8) : ∀ k, (sched p k).length = 16 + k
  | 0 => first_length p 16
  | k + 1 => by simp [sched, sched_length p k]; omega
structure S8 where
  a : W
  b : W
  c : W
  d : W
  e : W
  f : W
  g : W
  h : W
def rnd (k w : W) (s : S8) : S8 :=
  ⟨(s.h + (rr s.e 6 ^^^ rr s.e 11 ^^^ rr s.e 25) + ((s.e &&& s.f) ^^^ ((~~~s.e) &&& s.g)) + k + w) + ((rr s.a 2 ^^^ rr s.a 13 ^^^ rr s.a 22) + ((s.a &&& s.b) ^^^ (s.a &&& s.c) ^^^ (s.b &&& s.c))), s.a, s.b, s.c,
    s.d + (s.h + (rr s.e 6 ^^^ rr s.e 11 ^^^ rr s.e 25) + ((s.e &&& s.f) ^^^ ((~~~s.e) &&& s.g)) + k + w), s.e, s.f, s.g⟩
def K64 : List W := [0x428a2f98, 0x71374491, 0xb5c0fbcf, 0xe9b5dba5, 0x3956c25b, 0x59f111f1, 0x923f82a4, 0xab1c5ed5,
  0xd807aa98, 0x12835b01, 0x243185be, 0x550c7dc3, 0x72be5d74, 0x80deb1fe, 0x9bdc06a7, 0xc19bf174,
  0xe49b69c1, 0xefbe4786, 0x0fc19dc6, 0x240ca1cc, 0x2de92c6f, 0x4a7484aa, 0x5cb0a9dc, 0x76f988da,
  0x983e5152, 0xa831c66d, 0xb00327c8, 0xbf597fc7, 0xc6e00bf3, 0xd5a79147, 0x06ca6351, 0x14292967,
  0x27b70a85, 0x2e1b2138, 0x4d2c6dfc, 0x53380d13, 0x650a7354, 0x766a0abb, 0x81c2c92e, 0x92722c85,
  0xa2bfe8a1, 0xa81a664b, 0xc24b8b70, 0xc76c51a3, 0xd192e819, 0xd6990624, 0xf40e3585, 0x106aa070,
  0x19a4c116, 0x1e376c08, 0x2748774c, 0x34b0bcb5, 0x391c0cb3, 0x4ed8aa4a, 0x5b9cca4f, 0x682e6ff3,
  0x748f82ee, 0x78a5636f, 0x84c87814, 0x8cc70208, 0x90befffa, 0xa4506ceb, 0xbef9a3f7, 0xc67178f2]
def rounds (ws : List W) (s : S8) : Nat → S8
  | 0 => s
  | k + 1 => rnd (K64.getD k 0) (ws.getD k 0) (rounds ws s k)
def addS (x y : S8) : S8 := ⟨x.a + y.a, x.b + y.b, x.c + y.c, x.d + y.d, x.e + y.e, x.f + y.f, x.g + y.g, x.h + y.h⟩
def piece (s : S8) (p : List UInt8) : S8 := addS s (rounds (sched p 48) s 64)
def sv (s : S8) : List Value := [wv s.a, wv s.b, wv s.c, wv s.d, wv s.e, wv s.f, wv s.g, wv s.h]
def H0 : S8 := ⟨0x6a09e667, 0xbb67ae85, 0x3c6ef372, 0xa54ff53a, 0x510e527f, 0x9b05688c, 0x1f83d9ab, 0x5be0cd19⟩

/-- the block of 64 words of which the first are told -/
def wl (xs : List W) : List Value := xs.map wv ++ List.replicate (64 - xs.length) (wv 0)
theorem wl_length {xs : List W} (h : xs.length ≤ 64) : (wl xs).length = 64 := by simp [wl]; omega
theorem wl_get {xs : List W} {j : Nat} (h : j < xs.length) : (wl xs).toArray[j]? = some (wv (xs.getD j 0)) := by
  simp [wl, List.getElem?_append, h, List.getD]
theorem wl_put {xs : List W} {v : W} (h : xs.length < 64) : Lane.splice (wl xs) xs.length [wv v] = wl (xs ++ [v]) := by
  obtain ⟨m, hm⟩ : ∃ m, 64 - xs.length = m + 1 := ⟨63 - xs.length, by omega⟩
  have h2 : 64 - (xs ++ [v]).length = m := by simp; omega
  have hx : xs.length = (xs.map wv).length := by simp
  unfold Lane.splice wl
  rw [hm, h2]
  conv => lhs; rw [hx]
  simp [List.replicate_succ, List.drop_append]
theorem one_wv (v : W) : (wv v).oneCell' = true := rfl
theorem one_bv (v : UInt8) : (bv v).oneCell' = true := rfl
end Go.Sha
namespace Go.Sha
open Go
theorem wl_put' {xs : List W} {v : W} {off : Nat} (h : xs.length = off) (h2 : off < 64) : Lane.splice (wl xs) off [wv v] = wl (xs ++ [v]) := by subst h; exact wl_put h2
theorem wl_fit {xs : List W} {v : Value} {off : Nat} (h : xs.length = off) (h2 : off < 64) : off + [v].length ≤ (wl xs).length := by rw [wl_length (by omega)]; simp; omega
theorem wl_get' {xs : List W} {n j : Nat} (h : xs.length = n) (hj : j < n) : (wl xs).toArray[j]? = some (wv (xs.getD j 0)) := wl_get (by omega)
theorem ones_wv (v : W) : ∀ u ∈ [wv v], u.oneCell' = true := fun u hu => by
  rw [List.mem_singleton] at hu; subst hu; rfl
end Go.Sha
namespace Go.Sha
open Go
theorem sched_step (p : List UInt8) (k : Nat) : sched p (k + 1) = sched p k ++ [(sched p k).getD (16 + k - 16) 0 + (rr ((sched p k).getD (16 + k - 15) 0) 7 ^^^ rr ((sched p k).getD (16 + k - 15) 0) 18 ^^^ ((sched p k).getD (16 + k - 15) 0) >>> 3) +
    (sched p k).getD (16 + k - 7) 0 + (rr ((sched p k).getD (16 + k - 2) 0) 17 ^^^ rr ((sched p k).getD (16 + k - 2) 0) 19 ^^^ ((sched p k).getD (16 + k - 2) 0) >>> 10)] := by
  rw [sched, nextW, sched_length]; rfl
end Go.Sha
namespace Go.Sha
open Go Go.Lane
def runF : Nat → S8 → List UInt8 → S8
  | 0, st, _ => st
  | f + 1, st, l => if 64 ≤ l.length then runF f (piece st (l.take 64)) (l.drop 64) else st
def run (st : S8) (l : List UInt8) : S8 := runF l.length st l
def remF : Nat → List UInt8 → List UInt8
  | 0, l => l
  | f + 1, l => if 64 ≤ l.length then remF f (l.drop 64) else l
def rem (l : List UInt8) : List UInt8 := remF l.length l
theorem runF_fuel : ∀ (f g : Nat) (st : S8) (l : List UInt8), l.length ≤ f → l.length ≤ g → runF f st l = runF g st l
  | 0, 0, _, _, _, _ => rfl
  | 0, g + 1, st, l, h, _ => by simp only [runF]; rw [if_neg (by omega)]
  | f + 1, 0, st, l, _, h => by simp only [runF]; rw [if_neg (by omega)]
  | f + 1, g + 1, st, l, h1, h2 => by
    simp only [runF]
    by_cases hl : 64 ≤ l.length
    · rw [if_pos hl, if_pos hl]
      exact runF_fuel f g _ _ (by rw [List.length_drop]; omega) (by rw [List.length_drop]; omega)
    · rw [if_neg hl, if_neg hl]
theorem run_step {st : S8} {l : List UInt8} (h : 64 ≤ l.length) : run st l = run (piece st (l.take 64)) (l.drop 64) := by
  unfold run
  obtain ⟨n, hn⟩ : ∃ n, l.length = n + 1 := ⟨l.length - 1, by omega⟩
  rw [hn]
  conv => lhs; unfold runF
  rw [if_pos h]
  exact runF_fuel _ _ _ _ (by rw [List.length_drop]; omega) (Nat.le_refl _)
theorem run_end {st : S8} {l : List UInt8} (h : l.length < 64) : run st l = st := by
  unfold run
  cases l.length with
  | zero => rfl
  | succ n => unfold runF; rw [if_neg (by omega)]
theorem remF_fuel : ∀ (f g : Nat) (l : List UInt8), l.length ≤ f → l.length ≤ g → remF f l = remF g l
  | 0, 0, _, _, _ => rfl
  | 0, g + 1, l, h, _ => by simp only [remF]; rw [if_neg (by omega)]
  | f + 1, 0, l, _, h => by simp only [remF]; rw [if_neg (by omega)]
  | f + 1, g + 1, l, h1, h2 => by
    simp only [remF]
    by_cases hl : 64 ≤ l.length
    · rw [if_pos hl, if_pos hl]
      exact remF_fuel f g _ (by rw [List.length_drop]; omega) (by rw [List.length_drop]; omega)
    · rw [if_neg hl, if_neg hl]
theorem rem_step {l : List UInt8} (h : 64 ≤ l.length) : rem l = rem (l.drop 64) := by
  unfold rem
  obtain ⟨n, hn⟩ : ∃ n, l.length = n + 1 := ⟨l.length - 1, by omega⟩
  rw [hn]
  conv => lhs; unfold remF
  rw [if_pos h]
  exact remF_fuel _ _ _ (by rw [List.length_drop]; omega) (Nat.le_refl _)
theorem rem_end {l : List UInt8} (h : l.length < 64) : rem l = l := by
  unfold rem
  cases l.length with
  | zero => rfl
  | succ n => unfold remF; rw [if_neg (by omega)]
theorem rem_lt : ∀ (m : Nat) (l : List UInt8), l.length ≤ m → (rem l).length < 64 ∧ (rem l).length ≤ l.length ∧ (rem l).length % 64 = l.length % 64
  | m, l, h => by
    by_cases hl : 64 ≤ l.length
    · rw [rem_step hl]
      match m, h with
      | 0, h => omega
      | m + 1, h =>
        obtain ⟨a, b, c⟩ := rem_lt m (l.drop 64) (by rw [List.length_drop]; omega)
        rw [List.length_drop] at b c
        exact ⟨a, by omega, by omega⟩
    · rw [rem_end (by omega)]
      exact ⟨by omega, by omega, rfl⟩
theorem run_append : ∀ (m : Nat) (st : S8) (l r : List UInt8), l.length ≤ m → run st (l ++ r) = run (run st l) (rem l ++ r)
  | m, st, l, r, h => by
    by_cases hl : 64 ≤ l.length
    · match m, h with
      | 0, h => omega
      | m + 1, h =>
        rw [run_step (st := st) (l := l) hl, rem_step hl, run_step (st := st) (l := l ++ r) (by rw [List.length_append]; omega), List.take_append_of_le_length hl, List.drop_append_of_le_length hl]
        exact run_append m _ _ _ (by rw [List.length_drop]; omega)
    · rw [run_end (st := st) (l := l) (by omega), rem_end (by omega)]
theorem rem_append : ∀ (m : Nat) (l r : List UInt8), l.length ≤ m → rem (l ++ r) = rem (rem l ++ r)
  | m, l, r, h => by
    by_cases hl : 64 ≤ l.length
    · match m, h with
      | 0, h => omega
      | m + 1, h =>
        rw [rem_step (l := l) hl, rem_step (l := l ++ r) (by rw [List.length_append]; omega), List.drop_append_of_le_length hl]
        exact rem_append m _ _ (by rw [List.length_drop]; omega)
    · rw [rem_end (l := l) (by omega)]

def told (s : S8) : List UInt8 := [b32 (s.a >>> 24), b32 (s.a >>> 16), b32 (s.a >>> 8), b32 (s.a >>> 0), b32 (s.b >>> 24), b32 (s.b >>> 16), b32 (s.b >>> 8), b32 (s.b >>> 0),
  b32 (s.c >>> 24), b32 (s.c >>> 16), b32 (s.c >>> 8), b32 (s.c >>> 0), b32 (s.d >>> 24), b32 (s.d >>> 16), b32 (s.d >>> 8), b32 (s.d >>> 0),
  b32 (s.e >>> 24), b32 (s.e >>> 16), b32 (s.e >>> 8), b32 (s.e >>> 0), b32 (s.f >>> 24), b32 (s.f >>> 16), b32 (s.f >>> 8), b32 (s.f >>> 0),
  b32 (s.g >>> 24), b32 (s.g >>> 16), b32 (s.g >>> 8), b32 (s.g >>> 0), b32 (s.h >>> 24), b32 (s.h >>> 16), b32 (s.h >>> 8), b32 (s.h >>> 0)]
/-- the first j bytes told, zeros behind -/
def tk (s : S8) (j : Nat) : List Value := ((told s).map bv).take j ++ List.replicate (32 - j) (.int .u8 0)
def hv (l : List UInt8) : Value := .agg (l.map bv).toArray
/-- the zeros behind the one bit; the length's eight bytes -/
def zlen (n : Nat) : Nat := (120 - n % 64) % 64
def lenB (n : Nat) : List UInt8 := [UInt8.ofNat (8 * n / 2 ^ 56), UInt8.ofNat (8 * n / 2 ^ 48), UInt8.ofNat (8 * n / 2 ^ 40), UInt8.ofNat (8 * n / 2 ^ 32), UInt8.ofNat (8 * n / 2 ^ 24), UInt8.ofNat (8 * n / 2 ^ 16), UInt8.ofNat (8 * n / 2 ^ 8), UInt8.ofNat (8 * n / 2 ^ 0)]
def padded (r : List UInt8) (n : Nat) : List UInt8 := r ++ [0x80] ++ List.replicate (zlen (r.length + 1)) 0 ++ lenB n
def fin (st : S8) (r : List UInt8) (n : Nat) : List UInt8 := told (run st (padded r n))
def sha (l : List UInt8) : List UInt8 := fin H0 l l.length
theorem zlen_congr {a b : Nat} (h : a % 64 = b % 64) : zlen a = zlen b := by unfold zlen; rw [h]
theorem sha_rem (l : List UInt8) : fin (run H0 l) (rem l) l.length = sha l := by
  unfold sha fin padded
  obtain ⟨_, _, hm⟩ := rem_lt l.length l (Nat.le_refl _)
  have hz : zlen ((rem l).length + 1) = zlen (l.length + 1) := zlen_congr (by omega)
  rw [hz]
  simp only [List.append_assoc]
  rw [run_append l.length H0 l _ (Nat.le_refl _)]
theorem padded_len (r : List UInt8) (n : Nat) : (padded r n).length % 64 = 0 := by
  simp only [padded, List.length_append, List.length_replicate, lenB, List.length_cons, List.length_nil, zlen]
  omega

/-- a State at block b, its rest in block o -/
def StA (h : Heap) (b : Nat) (o : Option Nat) (st : S8) (r : List UInt8) (n : Nat) : Prop :=
  ∃ ad cap, o = ad.map (·.block) ∧ o ≠ some b ∧ h[b]? = some (.cells (sv st ++ [Value.slice ad r.length cap, Value.int .u64 ((n : Nat) : Int)]).toArray 0) ∧
    Own h (.slice ad r.length cap) 5 r.length 1 (r.map bv)
def Gr (F : Nat → Prop) (h h' : Heap) : Prop := h.size ≤ h'.size ∧ ∀ k, k < h.size → ¬ F k → h'[k]? = h[k]?
theorem Gr.refl (F : Nat → Prop) (h : Heap) : Gr F h h := ⟨Nat.le_refl _, fun _ _ _ => rfl⟩
theorem Gr.trans {F : Nat → Prop} {a b c : Heap} (h : Gr F a b) (k : Gr F b c) : Gr F a c := ⟨Nat.le_trans h.1 k.1, fun i hi hF => (k.2 i (Nat.lt_of_lt_of_le hi h.1) hF).trans (h.2 i hi hF)⟩
theorem Gr.grew {F : Nat → Prop} {a b c : Heap} {o : Option Nat} (h : Gr F a b) (k : Grew o b c) (ho : ∀ i, o = some i → F i ∨ a.size ≤ i) : Gr F a c :=
  ⟨Nat.le_trans h.1 k.size, fun i hi hF => (k.get i (Nat.lt_of_lt_of_le hi h.1) (fun e => by rcases ho i e.symm with h | h; exact hF h; omega)).trans (h.2 i hi hF)⟩
theorem Gr.ext {F : Nat → Prop} {a b c : Heap} (h : Gr F a b) (k : Ext b c) : Gr F a c := h.grew k (by simp)
theorem Gr.blk {F : Nat → Prop} {h h' : Heap} {b : Nat} {x : Obj} (g : Gr F h h') (e : h[b]? = some x) (hF : ¬ F b) : h'[b]? = some x := by rw [g.2 b (blk_lt e) hF]; exact e
theorem Gr.toExt {F : Nat → Prop} {h0 h h' : Heap} (e : Ext h0 h) (g : Gr F h h') (hF : ∀ k, F k → h0.size ≤ k) : Ext h0 h' :=
  ⟨Nat.le_trans e.size g.1, fun k hk _ => (g.2 k (Nat.lt_of_lt_of_le hk e.size) (fun hf => by have := hF k hf; omega)).trans (e.get k hk (by simp))⟩
/-- the constants' table -/
def Ktab (h : Heap) : Prop := ∀ j, j < 64 → hcell h ⟨0, j, none⟩ = some (wv (K64.getD j 0))
theorem Ktab.ext {h h' : Heap} (k : Ktab h) (g : Ext h h') : Ktab h' := fun j hj => g.cell (k j hj)
theorem Ktab.grew {o : Option Nat} {h h' : Heap} (k : Ktab h) (g : Grew o h h') (hne : some 0 ≠ o) : Ktab h' := fun j hj => g.cell (k j hj) hne
theorem Ktab.gr {F : Nat → Prop} {h h' : Heap} (k : Ktab h) (g : Gr F h h') (hF : ¬ F 0) : Ktab h' := fun j hj => by
  rw [hcell_congr (g.2 0 (hcell_lt (k j hj)) hF)]; exact k j hj
theorem Ktab.lt {h : Heap} (k : Ktab h) : 0 < h.size := hcell_lt (k 0 (by decide))
theorem u64n {x : Nat} (h : x < 18446744073709551616) : IntKind.u64.wrap (x : Int) = (x : Int) := by
  simp only [IntKind.wrap, IntKind.bits, IntKind.signed]
  simp
  omega
theorem u64e {x : Int} {y : Nat} (e : x = (y : Int)) (h : y < 18446744073709551616) : IntKind.u64.wrap x = (y : Int) := by rw [e]; exact u64n h
theorem len_bv (l : List UInt8) : (l.map bv).length = l.length * 1 := by simp
theorem ones_map (l : List UInt8) : ∀ u ∈ l.map bv, u.oneCell' = true := fun u hu => by
  obtain ⟨x, _, rfl⟩ := List.mem_map.1 hu; rfl
theorem get_bv {l : List UInt8} {j : Nat} (h : j < l.length) : (l.map bv)[j]? = some (bv (l.getD j 0)) := by simp [h, List.getD]

end Go.Sha
namespace Go.Lane
open Go
section
variable {P : Program} {ops : Array Oper} {base : Nat → Value} {vals : Vals} {h : Heap} {i : Nat}
theorem blkOf_slice (ad : Option Addr) (n c : Nat) : blkOf (.slice ad n c) = ad.map (·.block) := by cases ad <;> rfl
theorem Calm.sliceO {a x : Option Addr} {len cap sz : Nat} {lo hi mx : Option Int} (l r m n' c' : Nat) (hx : slOp P ops base vals i = some (a, len, cap, sz, lo, hi, mx))
    (hm : mx = none ∧ m = cap ∨ mx = some (m : Int) ∧ m ≤ cap ∧ hi.isSome = true) (hr : hi = none ∧ r = len ∨ hi = some (r : Int)) (hl : lo = none ∧ l = 0 ∨ lo = some (l : Int)) (hlr : l ≤ r) (hrm : r ≤ m)
    (e1 : x = if m = l then a else a.map (·.add (l * sz))) (e2 : r - l = n') (e3 : m - l = c') (h : Heap) :
    Calm P ops base vals i h (.slice x n' c') := by
  subst e1; subst e2; subst e3
  exact Calm.slice l r m hx hm hr hl hlr hrm h
theorem Own.drop {ad : Option Addr} {n cap E sz : Nat} {xs : List Value} (o : Own h (.slice ad n cap) E n sz xs) (k : Nat) (hk : k ≤ n) :
    Own h (.slice (if cap = k then ad else ad.map (·.add (k * sz))) (n - k) (cap - k)) E (n - k) sz (xs.drop (k * sz)) := by
  refine ⟨by rw [List.length_drop, o.1, Nat.sub_mul], ?_⟩
  rcases o.2 with ⟨e, hn⟩ | ⟨g, off, cap', l, e, hg, hnc, hcm, hfit, hx⟩
  · simp only [Value.slice.injEq] at e
    obtain ⟨rfl, rfl, rfl⟩ := e
    have : k = 0 := by omega
    subst this
    exact .inl (by simp)
  · simp only [Value.slice.injEq] at e
    obtain ⟨rfl, _, rfl⟩ := e
    refine .inr ?_
    by_cases hck : cap = k
    · have hnk : n = k := by omega
      subst hck; subst hnk
      refine ⟨g, off, 0, l, by simp, hg, by omega, by simp [maxLen], by omega, ?_⟩
      rw [Nat.sub_self, Nat.zero_mul, List.take_zero, List.drop_eq_nil_of_le (by rw [o.1]; exact Nat.le_refl _)]
    · refine ⟨g, off + k * sz, cap - k, l, ?_, hg, by omega, by omega, ?_, ?_⟩
      · rw [if_neg hck]; simp [add_lit]
      · have h1 : k * sz + (cap - k) * sz = cap * sz := by rw [← Nat.add_mul]; congr 1; omega
        omega
      · rw [← hx, List.drop_take, List.drop_drop, ← Nat.sub_mul]
theorem Own.some_at {ad : Option Addr} {n cap E sz : Nat} {xs : List Value} (o : Own h (.slice ad n cap) E n sz xs) (hn : 0 < n) : ∃ g off, ad = some ⟨g, off, none⟩ ∧ n ≤ cap := by
  rcases o.2 with ⟨_, h0⟩ | ⟨g, off, cap', l, e, hg, hnc, _⟩
  · omega
  · simp only [Value.slice.injEq] at e
    exact ⟨g, off, e.1, by omega⟩
theorem Row.cells {ad : Addr} {n m cap sz : Nat} {xs : List Value} (r : Row h (.slice (some ad) n cap) m sz xs) : ∀ j u, xs[j]? = some u → hcell h (ad.add j) = some u := by
  rcases r.2 with ⟨e, _⟩ | ⟨a, c, e, _, hx⟩
  · cases e
  · simp only [Value.slice.injEq, Option.some.injEq] at e
    obtain ⟨rfl, _, _⟩ := e
    exact hx
end
end Go.Lane
namespace Go.Sha
open Go Go.Lane
theorem pre64 {h : Heap} {ad : Addr} {cap E : Nat} {r : List UInt8} (o : Own h (.slice (some ad) r.length cap) E r.length 1 (r.map bv)) (hl : 64 ≤ r.length) : ∀ j, j < 64 → hcell h (ad.add j) = some (bv ((r.take 64).getD j 0)) := by
  intro j hj
  refine o.row.cells j _ ?_
  rw [get_bv (by omega)]
  congr 2
  simp [List.getD, hj]
theorem blk_drop {c : Prop} [Decidable c] {a : Addr} {k : Nat} {x : Option Addr} (e : x = if c then some a else (some a).map (·.add k)) : x.map (·.block) = some a.block := by
  subst e; split <;> simp [add_block]
theorem fdivN (x k : Nat) : Int.fdiv (x : Int) (2 ^ k) = ((x / 2 ^ k : Nat) : Int) := by
  have : ((2 : Int) ^ k) = ((2 ^ k : Nat) : Int) := by simp
  rw [this, Int.fdiv_eq_ediv_of_nonneg _ (Int.natCast_nonneg _), Int.natCast_ediv]
theorem conv64 (x : Nat) : Value.int .u8 (IntKind.u8.wrap (x : Int)) = bv (UInt8.ofNat x) := by
  unfold bv
  rw [wrap8_nat]; simp
theorem some_add0 {c : Prop} [Decidable c] (a : Addr) : some a = if c then some a else (some a).map (·.add (0 * 1)) := by
  split <;> simp [Addr.add]
end Go.Sha
namespace Go.Lane
open Go
section
variable {P : Program} {ops : Array Oper} {base : Nat → Value} {vals : Vals} {h : Heap} {i : Nat}
theorem Row.kept {o : Option Nat} {h h' : Heap} {v : Value} {n sz : Nat} {xs : List Value} (r : Row h v n sz xs) (g : Grew o h h') (hne : blkOf v = none ∨ blkOf v ≠ o) : Row h' v n sz xs := by
  refine ⟨r.1, r.2.imp id ?_⟩
  rintro ⟨a, cap, e, hc, hx⟩
  refine ⟨a, cap, e, hc, fun j u hu => g.cell (hx j u hu) ?_⟩
  rw [add_block]
  subst e
  simpa [blkOf] using hne
theorem Row.kept' {o : Option Nat} {h h' : Heap} {v : Value} {n sz : Nat} {xs : List Value} (r : Row h v n sz xs) (g : Grew o h h') (hne : xs = [] ∨ blkOf v = none ∨ blkOf v ≠ o) : Row h' v n sz xs := by
  rcases hne with e0 | hne
  · exact ⟨r.1, r.2.imp id fun ⟨a, cap, e, hc, _⟩ => ⟨a, cap, e, hc, fun j u hu => by rw [e0] at hu; cases hu⟩⟩
  · exact r.kept g hne
theorem Does.append2 {t E : TypeId} {sz by_ n m : Nat} {v x : Value} {xs ys : List Value} (hx : apOp ops base vals i = some (t, t, v, x)) (he : elF P t = some (E, sz, by_, true))
    (ho : Own h v E n sz xs) (hr : Row h x m sz ys) (h1 : ∀ u ∈ ys, u.oneCell' = true) (hlen : n + m ≤ maxLen) (hbytes : (n + m) * by_ ≤ 140737488355328) :
    Does P ops base vals i h fun v' h' => ∃ ad cap, v' = .slice ad (n + m) cap ∧ Own h' (.slice ad (n + m) cap) E (n + m) sz (xs ++ ys) ∧ Grew (blkOf v) h h' ∧ (ad.map (·.block) = blkOf v ∨ ad.map (·.block) = some h.size) := by
  obtain ⟨o, h1', h2', hf⟩ := (Does.append hx he ho hr h1 hlen hbytes).does
  refine ⟨o, h1', h2', fun w hw => ?_⟩
  have key : ∀ v' h', (Own h' v' E (n + m) sz (xs ++ ys) ∧ Grew (blkOf v) h h' ∧ (blkOf v' = blkOf v ∨ blkOf v' = some h.size) ∧ (v' = .slice none 0 0 ∨ ∃ a c, v' = .slice (some a) (n + m) c)) →
      ∃ ad cap, v' = .slice ad (n + m) cap ∧ Own h' (.slice ad (n + m) cap) E (n + m) sz (xs ++ ys) ∧ Grew (blkOf v) h h' ∧ (ad.map (·.block) = blkOf v ∨ ad.map (·.block) = some h.size) := by
    rintro v' h' ⟨a, b, c, d⟩
    rcases d with d | ⟨q, k, d⟩
    · have hz : n + m = 0 := by
        rcases a.2 with ⟨_, e⟩ | ⟨_, _, _, _, e, _⟩
        · exact e
        · rw [d] at e; cases e
      have e : Value.slice none (n + m) 0 = v' := by rw [hz]; exact d.symm
      refine ⟨none, 0, e.symm, by rw [e]; exact a, b, ?_⟩
      rw [d] at c; exact c
    · refine ⟨some q, k, d, by rw [← d]; exact a, b, ?_⟩
      rw [d] at c; exact c
  have := hf w hw
  generalize (execOp (env ops base vals i) o).run P w = r at this ⊢
  cases r with
  | halt x w' => exact this
  | ok x w' =>
    cases x <;> first | exact ⟨this.1, key _ _ this.2⟩ | exact ⟨this.1, this.2.mono key⟩ | exact this
end
end Go.Lane
