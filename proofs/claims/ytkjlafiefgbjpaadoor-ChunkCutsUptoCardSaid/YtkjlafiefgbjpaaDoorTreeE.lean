/- Walks of trees of hashes: what each function computes, as a law of its calls. No condition but those that each theorem names. -/
import Derived.Test.YtkjlafiefgbjpaaDoorTreeMath
namespace Go.Proofs.YtkjlafiefgbjpaaDoor
open Go Go.Lane Go.Sha
noncomputable def b54 : Code := Tryd.f54.body.getD .skip
def len8 : ByteArray := ⟨#[0,1,2,2,3,3,3,3,4,4,4,4,4,4,4,4,5,5,5,5,5,5,5,5,5,5,5,5,5,5,5,5,6,6,6,6,6,6,6,6,6,6,6,6,6,6,6,6,6,6,6,6,6,6,6,6,6,6,6,6,6,6,6,6,7,7,7,7,7,7,7,7,7,7,7,7,7,7,7,7,7,7,7,7,7,7,7,7,7,7,7,7,7,7,7,7,7,7,7,7,7,7,7,7,7,7,7,7,7,7,7,7,7,7,7,7,7,7,7,7,7,7,7,7,7,7,7,7,8,8,8,8,8,8,8,8,8,8,8,8,8,8,8,8,8,8,8,8,8,8,8,8,8,8,8,8,8,8,8,8,8,8,8,8,8,8,8,8,8,8,8,8,8,8,8,8,8,8,8,8,8,8,8,8,8,8,8,8,8,8,8,8,8,8,8,8,8,8,8,8,8,8,8,8,8,8,8,8,8,8,8,8,8,8,8,8,8,8,8,8,8,8,8,8,8,8,8,8,8,8,8,8,8,8,8,8,8,8,8,8,8,8,8,8,8,8,8,8,8,8,8,8,8,8,8,8]⟩
theorem len8_get : ∀ y,y < 256 → len8[y]? = some (UInt8.ofNat (bitlen y)) := by decide +kernel
theorem len64_sat (h : Heap) (x : Nat) (hx : x < 18446744073709551616) : Sat Tryd.prog 54 #[.int .u64 ((x : Nat) : Int)] h fun v h' => v = .int .i64 ((bitlen x : Nat) : Int) ∧ h' = h := by
 refine sat_of (args := [.int .u64 ((x : Nat) : Int)]) (fn := Tryd.f54) (B := b54) (n := 25) (L := [(0,.int .u64 ((x : Nat) : Int))]) Tryd.func54 rfl (by kernel_rfl) rfl ?_
 intro a hF
 refine cS ?_
 refine cP 0 hF ?_
 refine sP 1 [.int .i64 0] ?_
 refine sD [(0,.int .u64 ((x : Nat) : Int)),(2,.int .i64 0)] ?_
 clear hF a; intro a hF
 refine tK ?_
 refine cS ?_
 refine cS ?_
 refine cP 1 hF ?_
 refine sP 2 [.int .u64 ((x : Nat) : Int),.bool (decide ((4294967296 : Int) ≤ ((x : Nat) : Int)))] ?_
 refine sD [(0,.int .u64 ((x : Nat) : Int)),(2,.int .i64 0),(4,.bool (decide ((4294967296 : Int) ≤ ((x : Nat) : Int))))] ?_
 clear hF a; intro a hF
 refine tK ?_
 refine cC 4 (decide ((4294967296 : Int) ≤ ((x : Nat) : Int))) hF (fun hc1 => ?_) (fun hc1 => ?_)
 ·skip
  replace hc1 := of_decide_eq_true hc1
  have hq32 : 2 ^ 32 ≤ (x) := by omega
  refine cS ?_
  refine cP 2 hF ?_
  refine sP 1 [.int .u64 ((x : Nat) : Int)] ?_
  refine s1 2 (.int .u64 ((x / 2 ^ 32 : Nat) : Int)) (.int .u64 (Int.fdiv ((x : Nat) : Int) (2 ^ 32))) (congrArg (Value.int .u64) (fdivN (x) 32)) ?_
  refine sP 3 [.int .u64 ((x / 2 ^ 32 : Nat) : Int)] ?_
  refine sD [(0,.int .u64 ((x / 2 ^ 32 : Nat) : Int))] ?_
  clear hF a; intro a hF
  refine tK ?_
  refine cP 3 hF ?_
  refine sP 1 [.int .i64 32] ?_
  refine sD [(0,.int .u64 ((x / 2 ^ 32 : Nat) : Int)),(2,.int .i64 32)] ?_
  clear hF a; intro a hF
  refine tK ?_
  refine cS ?_
  refine cS ?_
  refine cP 4 hF ?_
  refine sP 2 [.int .u64 ((x / 2 ^ 32 : Nat) : Int),.bool (decide ((65536 : Int) ≤ ((x / 2 ^ 32 : Nat) : Int)))] ?_
  refine sD [(0,.int .u64 ((x / 2 ^ 32 : Nat) : Int)),(2,.int .i64 32),(8,.bool (decide ((65536 : Int) ≤ ((x / 2 ^ 32 : Nat) : Int))))] ?_
  clear hF a; intro a hF
  refine tK ?_
  refine cC 8 (decide ((65536 : Int) ≤ ((x / 2 ^ 32 : Nat) : Int))) hF (fun hc2 => ?_) (fun hc2 => ?_)
  ·skip
   replace hc2 := of_decide_eq_true hc2
   have hq16 : 2 ^ 16 ≤ (x / 2 ^ 32) := by omega
   refine cS ?_
   refine cP 5 hF ?_
   refine sP 1 [.int .u64 ((x / 2 ^ 32 : Nat) : Int)] ?_
   refine s1 2 (.int .u64 (((x / 2 ^ 32) / 2 ^ 16 : Nat) : Int)) (.int .u64 (Int.fdiv ((x / 2 ^ 32 : Nat) : Int) (2 ^ 16))) (congrArg (Value.int .u64) (fdivN (x / 2 ^ 32) 16)) ?_
   refine sP 3 [.int .u64 (((x / 2 ^ 32) / 2 ^ 16 : Nat) : Int)] ?_
   refine sD [(0,.int .u64 (((x / 2 ^ 32) / 2 ^ 16 : Nat) : Int)),(2,.int .i64 32)] ?_
   clear hF a; intro a hF
   refine tK ?_
   refine cP 6 hF ?_
   refine sP 3 [.int .i64 32,.int .i64 48,.int .i64 48] ?_
   refine sD [(0,.int .u64 (((x / 2 ^ 32) / 2 ^ 16 : Nat) : Int)),(2,.int .i64 48)] ?_
   clear hF a; intro a hF
   refine tK ?_
   refine cS ?_
   refine cS ?_
   refine cP 7 hF ?_
   refine sP 2 [.int .u64 (((x / 2 ^ 32) / 2 ^ 16 : Nat) : Int),.bool (decide ((256 : Int) ≤ (((x / 2 ^ 32) / 2 ^ 16 : Nat) : Int)))] ?_
   refine sD [(0,.int .u64 (((x / 2 ^ 32) / 2 ^ 16 : Nat) : Int)),(2,.int .i64 48),(14,.bool (decide ((256 : Int) ≤ (((x / 2 ^ 32) / 2 ^ 16 : Nat) : Int))))] ?_
   clear hF a; intro a hF
   refine tK ?_
   refine cC 14 (decide ((256 : Int) ≤ (((x / 2 ^ 32) / 2 ^ 16 : Nat) : Int))) hF (fun hc3 => ?_) (fun hc3 => ?_)
   ·skip
    replace hc3 := of_decide_eq_true hc3
    have hq8 : 2 ^ 8 ≤ ((x / 2 ^ 32) / 2 ^ 16) := by omega
    refine cS ?_
    refine cP 8 hF ?_
    refine sP 1 [.int .u64 (((x / 2 ^ 32) / 2 ^ 16 : Nat) : Int)] ?_
    refine s1 2 (.int .u64 ((((x / 2 ^ 32) / 2 ^ 16) / 2 ^ 8 : Nat) : Int)) (.int .u64 (Int.fdiv (((x / 2 ^ 32) / 2 ^ 16 : Nat) : Int) (2 ^ 8))) (congrArg (Value.int .u64) (fdivN ((x / 2 ^ 32) / 2 ^ 16) 8)) ?_
    refine sP 3 [.int .u64 ((((x / 2 ^ 32) / 2 ^ 16) / 2 ^ 8 : Nat) : Int)] ?_
    refine sD [(0,.int .u64 ((((x / 2 ^ 32) / 2 ^ 16) / 2 ^ 8 : Nat) : Int)),(2,.int .i64 48)] ?_
    clear hF a; intro a hF
    refine tK ?_
    refine cP 9 hF ?_
    refine sP 3 [.int .i64 48,.int .i64 56,.int .i64 56] ?_
    refine sD [(0,.int .u64 ((((x / 2 ^ 32) / 2 ^ 16) / 2 ^ 8 : Nat) : Int)),(2,.int .i64 56)] ?_
    clear hF a; intro a hF
    refine tK ?_
    refine cS ?_
    refine cP 10 hF ?_
    refine sP 2 [.int .i64 56,.int .u64 ((((x / 2 ^ 32) / 2 ^ 16) / 2 ^ 8 : Nat) : Int)] ?_
    refine s1 3 (bv (UInt8.ofNat (((x / 2 ^ 32) / 2 ^ 16) / 2 ^ 8))) (.int .u8 (IntKind.u8.wrap ((((x / 2 ^ 32) / 2 ^ 16) / 2 ^ 8 : Nat) : Int))) (conv64 _) ?_
    refine sC 4 (bv (UInt8.ofNat (bitlen (((x / 2 ^ 32) / 2 ^ 16) / 2 ^ 8)))) ((Calm.strIx (t := 9) (n := (((x / 2 ^ 32) / 2 ^ 16) / 2 ^ 8)) (s := len8) (by rw [show ((((x / 2 ^ 32) / 2 ^ 16) / 2 ^ 8 : Nat) : Int) = ((UInt8.ofNat (((x / 2 ^ 32) / 2 ^ 16) / 2 ^ 8)).toNat : Int) by rw [conv8n (by omega)]]; kernel_rfl) (by kernel_rfl) (len8_get _ (by omega))) _) ?_
    refine s1 5 (.int .i64 ((bitlen (((x / 2 ^ 32) / 2 ^ 16) / 2 ^ 8) : Nat) : Int)) (.int .i64 (IntKind.i64.wrap ((UInt8.ofNat (bitlen (((x / 2 ^ 32) / 2 ^ 16) / 2 ^ 8))).toNat : Int))) (conv8i (y := ((x / 2 ^ 32) / 2 ^ 16) / 2 ^ 8) (by omega)) ?_
    have hbl := bitlen_le (((x / 2 ^ 32) / 2 ^ 16) / 2 ^ 8) (by omega)
    refine s1 6 (.int .i64 ((56 + (bitlen (((x / 2 ^ 32) / 2 ^ 16) / 2 ^ 8)) : Nat) : Int)) (.int .i64 (IntKind.i64.wrap (56 + ((bitlen (((x / 2 ^ 32) / 2 ^ 16) / 2 ^ 8) : Nat) : Int)))) (congrArg (Value.int .i64) (w64' (by omega) (by omega) (by omega))) ?_
    refine sP 7 [nV (56 + (bitlen (((x / 2 ^ 32) / 2 ^ 16) / 2 ^ 8)))] ?_
    refine sD [(2,nV (56 + (bitlen (((x / 2 ^ 32) / 2 ^ 16) / 2 ^ 8))))] ?_
    clear hF a; intro a hF
    refine tK ?_
    refine cR ?_
    show retK Tryd.prog Tryd.f54 (fun v h' => v = .int .i64 ((bitlen x : Nat) : Int) ∧ h' = h) .ret a h
    refine ret_ok [.tmp 2] [.int .i64 ((56 + (bitlen (((x / 2 ^ 32) / 2 ^ 16) / 2 ^ 8)) : Nat) : Int)] (.int .i64 ((56 + (bitlen (((x / 2 ^ 32) / 2 ^ 16) / 2 ^ 8)) : Nat) : Int)) rfl hF ⟨rfl,trivial⟩ rfl ?_
    have hs32 := bitlen_shift (x := x) (k := 32) (by omega)
    have hs16 := bitlen_shift (x := x / 2 ^ 32) (k := 16) (by omega)
    have hs8 := bitlen_shift (x := (x / 2 ^ 32) / 2 ^ 16) (k := 8) (by omega)
    exact ⟨congrArg (fun z : Nat => Value.int .i64 (z : Int)) (by omega),rfl⟩
   ·skip
    replace hc3 := of_decide_eq_false hc3
    have hq8 : ¬ 2 ^ 8 ≤ ((x / 2 ^ 32) / 2 ^ 16) := by omega
    refine cN ?_
    refine tK ?_
    refine cS ?_
    refine cP 10 hF ?_
    refine sP 2 [.int .i64 48,.int .u64 (((x / 2 ^ 32) / 2 ^ 16 : Nat) : Int)] ?_
    refine s1 3 (bv (UInt8.ofNat ((x / 2 ^ 32) / 2 ^ 16))) (.int .u8 (IntKind.u8.wrap (((x / 2 ^ 32) / 2 ^ 16 : Nat) : Int))) (conv64 _) ?_
    refine sC 4 (bv (UInt8.ofNat (bitlen ((x / 2 ^ 32) / 2 ^ 16)))) ((Calm.strIx (t := 9) (n := ((x / 2 ^ 32) / 2 ^ 16)) (s := len8) (by rw [show (((x / 2 ^ 32) / 2 ^ 16 : Nat) : Int) = ((UInt8.ofNat ((x / 2 ^ 32) / 2 ^ 16)).toNat : Int) by rw [conv8n (by omega)]]; kernel_rfl) (by kernel_rfl) (len8_get _ (by omega))) _) ?_
    refine s1 5 (.int .i64 ((bitlen ((x / 2 ^ 32) / 2 ^ 16) : Nat) : Int)) (.int .i64 (IntKind.i64.wrap ((UInt8.ofNat (bitlen ((x / 2 ^ 32) / 2 ^ 16))).toNat : Int))) (conv8i (y := (x / 2 ^ 32) / 2 ^ 16) (by omega)) ?_
    have hbl := bitlen_le ((x / 2 ^ 32) / 2 ^ 16) (by omega)
    refine s1 6 (.int .i64 ((48 + (bitlen ((x / 2 ^ 32) / 2 ^ 16)) : Nat) : Int)) (.int .i64 (IntKind.i64.wrap (48 + ((bitlen ((x / 2 ^ 32) / 2 ^ 16) : Nat) : Int)))) (congrArg (Value.int .i64) (w64' (by omega) (by omega) (by omega))) ?_
    refine sP 7 [nV (48 + (bitlen ((x / 2 ^ 32) / 2 ^ 16)))] ?_
    refine sD [(2,nV (48 + (bitlen ((x / 2 ^ 32) / 2 ^ 16))))] ?_
    clear hF a; intro a hF
    refine tK ?_
    refine cR ?_
    show retK Tryd.prog Tryd.f54 (fun v h' => v = .int .i64 ((bitlen x : Nat) : Int) ∧ h' = h) .ret a h
    refine ret_ok [.tmp 2] [.int .i64 ((48 + (bitlen ((x / 2 ^ 32) / 2 ^ 16)) : Nat) : Int)] (.int .i64 ((48 + (bitlen ((x / 2 ^ 32) / 2 ^ 16)) : Nat) : Int)) rfl hF ⟨rfl,trivial⟩ rfl ?_
    have hs32 := bitlen_shift (x := x) (k := 32) (by omega)
    have hs16 := bitlen_shift (x := x / 2 ^ 32) (k := 16) (by omega)
    exact ⟨congrArg (fun z : Nat => Value.int .i64 (z : Int)) (by omega),rfl⟩
  ·skip
   replace hc2 := of_decide_eq_false hc2
   have hq16 : ¬ 2 ^ 16 ≤ (x / 2 ^ 32) := by omega
   refine cN ?_
   refine tK ?_
   refine cS ?_
   refine cS ?_
   refine cP 7 hF ?_
   refine sP 2 [.int .u64 ((x / 2 ^ 32 : Nat) : Int),.bool (decide ((256 : Int) ≤ ((x / 2 ^ 32 : Nat) : Int)))] ?_
   refine sD [(0,.int .u64 ((x / 2 ^ 32 : Nat) : Int)),(2,.int .i64 32),(14,.bool (decide ((256 : Int) ≤ ((x / 2 ^ 32 : Nat) : Int))))] ?_
   clear hF a; intro a hF
   refine tK ?_
   refine cC 14 (decide ((256 : Int) ≤ ((x / 2 ^ 32 : Nat) : Int))) hF (fun hc4 => ?_) (fun hc4 => ?_)
   ·skip
    replace hc4 := of_decide_eq_true hc4
    have hq8 : 2 ^ 8 ≤ (x / 2 ^ 32) := by omega
    refine cS ?_
    refine cP 8 hF ?_
    refine sP 1 [.int .u64 ((x / 2 ^ 32 : Nat) : Int)] ?_
    refine s1 2 (.int .u64 (((x / 2 ^ 32) / 2 ^ 8 : Nat) : Int)) (.int .u64 (Int.fdiv ((x / 2 ^ 32 : Nat) : Int) (2 ^ 8))) (congrArg (Value.int .u64) (fdivN (x / 2 ^ 32) 8)) ?_
    refine sP 3 [.int .u64 (((x / 2 ^ 32) / 2 ^ 8 : Nat) : Int)] ?_
    refine sD [(0,.int .u64 (((x / 2 ^ 32) / 2 ^ 8 : Nat) : Int)),(2,.int .i64 32)] ?_
    clear hF a; intro a hF
    refine tK ?_
    refine cP 9 hF ?_
    refine sP 3 [.int .i64 32,.int .i64 40,.int .i64 40] ?_
    refine sD [(0,.int .u64 (((x / 2 ^ 32) / 2 ^ 8 : Nat) : Int)),(2,.int .i64 40)] ?_
    clear hF a; intro a hF
    refine tK ?_
    refine cS ?_
    refine cP 10 hF ?_
    refine sP 2 [.int .i64 40,.int .u64 (((x / 2 ^ 32) / 2 ^ 8 : Nat) : Int)] ?_
    refine s1 3 (bv (UInt8.ofNat ((x / 2 ^ 32) / 2 ^ 8))) (.int .u8 (IntKind.u8.wrap (((x / 2 ^ 32) / 2 ^ 8 : Nat) : Int))) (conv64 _) ?_
    refine sC 4 (bv (UInt8.ofNat (bitlen ((x / 2 ^ 32) / 2 ^ 8)))) ((Calm.strIx (t := 9) (n := ((x / 2 ^ 32) / 2 ^ 8)) (s := len8) (by rw [show (((x / 2 ^ 32) / 2 ^ 8 : Nat) : Int) = ((UInt8.ofNat ((x / 2 ^ 32) / 2 ^ 8)).toNat : Int) by rw [conv8n (by omega)]]; kernel_rfl) (by kernel_rfl) (len8_get _ (by omega))) _) ?_
    refine s1 5 (.int .i64 ((bitlen ((x / 2 ^ 32) / 2 ^ 8) : Nat) : Int)) (.int .i64 (IntKind.i64.wrap ((UInt8.ofNat (bitlen ((x / 2 ^ 32) / 2 ^ 8))).toNat : Int))) (conv8i (y := (x / 2 ^ 32) / 2 ^ 8) (by omega)) ?_
    have hbl := bitlen_le ((x / 2 ^ 32) / 2 ^ 8) (by omega)
    refine s1 6 (.int .i64 ((40 + (bitlen ((x / 2 ^ 32) / 2 ^ 8)) : Nat) : Int)) (.int .i64 (IntKind.i64.wrap (40 + ((bitlen ((x / 2 ^ 32) / 2 ^ 8) : Nat) : Int)))) (congrArg (Value.int .i64) (w64' (by omega) (by omega) (by omega))) ?_
    refine sP 7 [nV (40 + (bitlen ((x / 2 ^ 32) / 2 ^ 8)))] ?_
    refine sD [(2,nV (40 + (bitlen ((x / 2 ^ 32) / 2 ^ 8))))] ?_
    clear hF a; intro a hF
    refine tK ?_
    refine cR ?_
    show retK Tryd.prog Tryd.f54 (fun v h' => v = .int .i64 ((bitlen x : Nat) : Int) ∧ h' = h) .ret a h
    refine ret_ok [.tmp 2] [.int .i64 ((40 + (bitlen ((x / 2 ^ 32) / 2 ^ 8)) : Nat) : Int)] (.int .i64 ((40 + (bitlen ((x / 2 ^ 32) / 2 ^ 8)) : Nat) : Int)) rfl hF ⟨rfl,trivial⟩ rfl ?_
    have hs32 := bitlen_shift (x := x) (k := 32) (by omega)
    have hs8 := bitlen_shift (x := x / 2 ^ 32) (k := 8) (by omega)
    exact ⟨congrArg (fun z : Nat => Value.int .i64 (z : Int)) (by omega),rfl⟩
   ·skip
    replace hc4 := of_decide_eq_false hc4
    have hq8 : ¬ 2 ^ 8 ≤ (x / 2 ^ 32) := by omega
    refine cN ?_
    refine tK ?_
    refine cS ?_
    refine cP 10 hF ?_
    refine sP 2 [.int .i64 32,.int .u64 ((x / 2 ^ 32 : Nat) : Int)] ?_
    refine s1 3 (bv (UInt8.ofNat (x / 2 ^ 32))) (.int .u8 (IntKind.u8.wrap ((x / 2 ^ 32 : Nat) : Int))) (conv64 _) ?_
    refine sC 4 (bv (UInt8.ofNat (bitlen (x / 2 ^ 32)))) ((Calm.strIx (t := 9) (n := (x / 2 ^ 32)) (s := len8) (by rw [show ((x / 2 ^ 32 : Nat) : Int) = ((UInt8.ofNat (x / 2 ^ 32)).toNat : Int) by rw [conv8n (by omega)]]; kernel_rfl) (by kernel_rfl) (len8_get _ (by omega))) _) ?_
    refine s1 5 (.int .i64 ((bitlen (x / 2 ^ 32) : Nat) : Int)) (.int .i64 (IntKind.i64.wrap ((UInt8.ofNat (bitlen (x / 2 ^ 32))).toNat : Int))) (conv8i (y := x / 2 ^ 32) (by omega)) ?_
    have hbl := bitlen_le (x / 2 ^ 32) (by omega)
    refine s1 6 (.int .i64 ((32 + (bitlen (x / 2 ^ 32)) : Nat) : Int)) (.int .i64 (IntKind.i64.wrap (32 + ((bitlen (x / 2 ^ 32) : Nat) : Int)))) (congrArg (Value.int .i64) (w64' (by omega) (by omega) (by omega))) ?_
    refine sP 7 [nV (32 + (bitlen (x / 2 ^ 32)))] ?_
    refine sD [(2,nV (32 + (bitlen (x / 2 ^ 32))))] ?_
    clear hF a; intro a hF
    refine tK ?_
    refine cR ?_
    show retK Tryd.prog Tryd.f54 (fun v h' => v = .int .i64 ((bitlen x : Nat) : Int) ∧ h' = h) .ret a h
    refine ret_ok [.tmp 2] [.int .i64 ((32 + (bitlen (x / 2 ^ 32)) : Nat) : Int)] (.int .i64 ((32 + (bitlen (x / 2 ^ 32)) : Nat) : Int)) rfl hF ⟨rfl,trivial⟩ rfl ?_
    have hs32 := bitlen_shift (x := x) (k := 32) (by omega)
    exact ⟨congrArg (fun z : Nat => Value.int .i64 (z : Int)) (by omega),rfl⟩
 ·skip
  replace hc1 := of_decide_eq_false hc1
  have hq32 : ¬ 2 ^ 32 ≤ (x) := by omega
  refine cN ?_
  refine tK ?_
  refine cS ?_
  refine cS ?_
  refine cP 4 hF ?_
  refine sP 2 [.int .u64 ((x : Nat) : Int),.bool (decide ((65536 : Int) ≤ ((x : Nat) : Int)))] ?_
  refine sD [(0,.int .u64 ((x : Nat) : Int)),(2,.int .i64 0),(8,.bool (decide ((65536 : Int) ≤ ((x : Nat) : Int))))] ?_
  clear hF a; intro a hF
  refine tK ?_
  refine cC 8 (decide ((65536 : Int) ≤ ((x : Nat) : Int))) hF (fun hc5 => ?_) (fun hc5 => ?_)
  ·skip
   replace hc5 := of_decide_eq_true hc5
   have hq16 : 2 ^ 16 ≤ (x) := by omega
   refine cS ?_
   refine cP 5 hF ?_
   refine sP 1 [.int .u64 ((x : Nat) : Int)] ?_
   refine s1 2 (.int .u64 ((x / 2 ^ 16 : Nat) : Int)) (.int .u64 (Int.fdiv ((x : Nat) : Int) (2 ^ 16))) (congrArg (Value.int .u64) (fdivN (x) 16)) ?_
   refine sP 3 [.int .u64 ((x / 2 ^ 16 : Nat) : Int)] ?_
   refine sD [(0,.int .u64 ((x / 2 ^ 16 : Nat) : Int)),(2,.int .i64 0)] ?_
   clear hF a; intro a hF
   refine tK ?_
   refine cP 6 hF ?_
   refine sP 3 [.int .i64 0,.int .i64 16,.int .i64 16] ?_
   refine sD [(0,.int .u64 ((x / 2 ^ 16 : Nat) : Int)),(2,.int .i64 16)] ?_
   clear hF a; intro a hF
   refine tK ?_
   refine cS ?_
   refine cS ?_
   refine cP 7 hF ?_
   refine sP 2 [.int .u64 ((x / 2 ^ 16 : Nat) : Int),.bool (decide ((256 : Int) ≤ ((x / 2 ^ 16 : Nat) : Int)))] ?_
   refine sD [(0,.int .u64 ((x / 2 ^ 16 : Nat) : Int)),(2,.int .i64 16),(14,.bool (decide ((256 : Int) ≤ ((x / 2 ^ 16 : Nat) : Int))))] ?_
   clear hF a; intro a hF
   refine tK ?_
   refine cC 14 (decide ((256 : Int) ≤ ((x / 2 ^ 16 : Nat) : Int))) hF (fun hc6 => ?_) (fun hc6 => ?_)
   ·skip
    replace hc6 := of_decide_eq_true hc6
    have hq8 : 2 ^ 8 ≤ (x / 2 ^ 16) := by omega
    refine cS ?_
    refine cP 8 hF ?_
    refine sP 1 [.int .u64 ((x / 2 ^ 16 : Nat) : Int)] ?_
    refine s1 2 (.int .u64 (((x / 2 ^ 16) / 2 ^ 8 : Nat) : Int)) (.int .u64 (Int.fdiv ((x / 2 ^ 16 : Nat) : Int) (2 ^ 8))) (congrArg (Value.int .u64) (fdivN (x / 2 ^ 16) 8)) ?_
    refine sP 3 [.int .u64 (((x / 2 ^ 16) / 2 ^ 8 : Nat) : Int)] ?_
    refine sD [(0,.int .u64 (((x / 2 ^ 16) / 2 ^ 8 : Nat) : Int)),(2,.int .i64 16)] ?_
    clear hF a; intro a hF
    refine tK ?_
    refine cP 9 hF ?_
    refine sP 3 [.int .i64 16,.int .i64 24,.int .i64 24] ?_
    refine sD [(0,.int .u64 (((x / 2 ^ 16) / 2 ^ 8 : Nat) : Int)),(2,.int .i64 24)] ?_
    clear hF a; intro a hF
    refine tK ?_
    refine cS ?_
    refine cP 10 hF ?_
    refine sP 2 [.int .i64 24,.int .u64 (((x / 2 ^ 16) / 2 ^ 8 : Nat) : Int)] ?_
    refine s1 3 (bv (UInt8.ofNat ((x / 2 ^ 16) / 2 ^ 8))) (.int .u8 (IntKind.u8.wrap (((x / 2 ^ 16) / 2 ^ 8 : Nat) : Int))) (conv64 _) ?_
    refine sC 4 (bv (UInt8.ofNat (bitlen ((x / 2 ^ 16) / 2 ^ 8)))) ((Calm.strIx (t := 9) (n := ((x / 2 ^ 16) / 2 ^ 8)) (s := len8) (by rw [show (((x / 2 ^ 16) / 2 ^ 8 : Nat) : Int) = ((UInt8.ofNat ((x / 2 ^ 16) / 2 ^ 8)).toNat : Int) by rw [conv8n (by omega)]]; kernel_rfl) (by kernel_rfl) (len8_get _ (by omega))) _) ?_
    refine s1 5 (.int .i64 ((bitlen ((x / 2 ^ 16) / 2 ^ 8) : Nat) : Int)) (.int .i64 (IntKind.i64.wrap ((UInt8.ofNat (bitlen ((x / 2 ^ 16) / 2 ^ 8))).toNat : Int))) (conv8i (y := (x / 2 ^ 16) / 2 ^ 8) (by omega)) ?_
    have hbl := bitlen_le ((x / 2 ^ 16) / 2 ^ 8) (by omega)
    refine s1 6 (.int .i64 ((24 + (bitlen ((x / 2 ^ 16) / 2 ^ 8)) : Nat) : Int)) (.int .i64 (IntKind.i64.wrap (24 + ((bitlen ((x / 2 ^ 16) / 2 ^ 8) : Nat) : Int)))) (congrArg (Value.int .i64) (w64' (by omega) (by omega) (by omega))) ?_
    refine sP 7 [nV (24 + (bitlen ((x / 2 ^ 16) / 2 ^ 8)))] ?_
    refine sD [(2,nV (24 + (bitlen ((x / 2 ^ 16) / 2 ^ 8))))] ?_
    clear hF a; intro a hF
    refine tK ?_
    refine cR ?_
    show retK Tryd.prog Tryd.f54 (fun v h' => v = .int .i64 ((bitlen x : Nat) : Int) ∧ h' = h) .ret a h
    refine ret_ok [.tmp 2] [.int .i64 ((24 + (bitlen ((x / 2 ^ 16) / 2 ^ 8)) : Nat) : Int)] (.int .i64 ((24 + (bitlen ((x / 2 ^ 16) / 2 ^ 8)) : Nat) : Int)) rfl hF ⟨rfl,trivial⟩ rfl ?_
    have hs16 := bitlen_shift (x := x) (k := 16) (by omega)
    have hs8 := bitlen_shift (x := x / 2 ^ 16) (k := 8) (by omega)
    exact ⟨congrArg (fun z : Nat => Value.int .i64 (z : Int)) (by omega),rfl⟩
   ·skip
    replace hc6 := of_decide_eq_false hc6
    have hq8 : ¬ 2 ^ 8 ≤ (x / 2 ^ 16) := by omega
    refine cN ?_
    refine tK ?_
    refine cS ?_
    refine cP 10 hF ?_
    refine sP 2 [.int .i64 16,.int .u64 ((x / 2 ^ 16 : Nat) : Int)] ?_
    refine s1 3 (bv (UInt8.ofNat (x / 2 ^ 16))) (.int .u8 (IntKind.u8.wrap ((x / 2 ^ 16 : Nat) : Int))) (conv64 _) ?_
    refine sC 4 (bv (UInt8.ofNat (bitlen (x / 2 ^ 16)))) ((Calm.strIx (t := 9) (n := (x / 2 ^ 16)) (s := len8) (by rw [show ((x / 2 ^ 16 : Nat) : Int) = ((UInt8.ofNat (x / 2 ^ 16)).toNat : Int) by rw [conv8n (by omega)]]; kernel_rfl) (by kernel_rfl) (len8_get _ (by omega))) _) ?_
    refine s1 5 (.int .i64 ((bitlen (x / 2 ^ 16) : Nat) : Int)) (.int .i64 (IntKind.i64.wrap ((UInt8.ofNat (bitlen (x / 2 ^ 16))).toNat : Int))) (conv8i (y := x / 2 ^ 16) (by omega)) ?_
    have hbl := bitlen_le (x / 2 ^ 16) (by omega)
    refine s1 6 (.int .i64 ((16 + (bitlen (x / 2 ^ 16)) : Nat) : Int)) (.int .i64 (IntKind.i64.wrap (16 + ((bitlen (x / 2 ^ 16) : Nat) : Int)))) (congrArg (Value.int .i64) (w64' (by omega) (by omega) (by omega))) ?_
    refine sP 7 [nV (16 + (bitlen (x / 2 ^ 16)))] ?_
    refine sD [(2,nV (16 + (bitlen (x / 2 ^ 16))))] ?_
    clear hF a; intro a hF
    refine tK ?_
    refine cR ?_
    show retK Tryd.prog Tryd.f54 (fun v h' => v = .int .i64 ((bitlen x : Nat) : Int) ∧ h' = h) .ret a h
    refine ret_ok [.tmp 2] [.int .i64 ((16 + (bitlen (x / 2 ^ 16)) : Nat) : Int)] (.int .i64 ((16 + (bitlen (x / 2 ^ 16)) : Nat) : Int)) rfl hF ⟨rfl,trivial⟩ rfl ?_
    have hs16 := bitlen_shift (x := x) (k := 16) (by omega)
    exact ⟨congrArg (fun z : Nat => Value.int .i64 (z : Int)) (by omega),rfl⟩
  ·skip
   replace hc5 := of_decide_eq_false hc5
   have hq16 : ¬ 2 ^ 16 ≤ (x) := by omega
   refine cN ?_
   refine tK ?_
   refine cS ?_
   refine cS ?_
   refine cP 7 hF ?_
   refine sP 2 [.int .u64 ((x : Nat) : Int),.bool (decide ((256 : Int) ≤ ((x : Nat) : Int)))] ?_
   refine sD [(0,.int .u64 ((x : Nat) : Int)),(2,.int .i64 0),(14,.bool (decide ((256 : Int) ≤ ((x : Nat) : Int))))] ?_
   clear hF a; intro a hF
   refine tK ?_
   refine cC 14 (decide ((256 : Int) ≤ ((x : Nat) : Int))) hF (fun hc7 => ?_) (fun hc7 => ?_)
   ·skip
    replace hc7 := of_decide_eq_true hc7
    have hq8 : 2 ^ 8 ≤ (x) := by omega
    refine cS ?_
    refine cP 8 hF ?_
    refine sP 1 [.int .u64 ((x : Nat) : Int)] ?_
    refine s1 2 (.int .u64 ((x / 2 ^ 8 : Nat) : Int)) (.int .u64 (Int.fdiv ((x : Nat) : Int) (2 ^ 8))) (congrArg (Value.int .u64) (fdivN (x) 8)) ?_
    refine sP 3 [.int .u64 ((x / 2 ^ 8 : Nat) : Int)] ?_
    refine sD [(0,.int .u64 ((x / 2 ^ 8 : Nat) : Int)),(2,.int .i64 0)] ?_
    clear hF a; intro a hF
    refine tK ?_
    refine cP 9 hF ?_
    refine sP 3 [.int .i64 0,.int .i64 8,.int .i64 8] ?_
    refine sD [(0,.int .u64 ((x / 2 ^ 8 : Nat) : Int)),(2,.int .i64 8)] ?_
    clear hF a; intro a hF
    refine tK ?_
    refine cS ?_
    refine cP 10 hF ?_
    refine sP 2 [.int .i64 8,.int .u64 ((x / 2 ^ 8 : Nat) : Int)] ?_
    refine s1 3 (bv (UInt8.ofNat (x / 2 ^ 8))) (.int .u8 (IntKind.u8.wrap ((x / 2 ^ 8 : Nat) : Int))) (conv64 _) ?_
    refine sC 4 (bv (UInt8.ofNat (bitlen (x / 2 ^ 8)))) ((Calm.strIx (t := 9) (n := (x / 2 ^ 8)) (s := len8) (by rw [show ((x / 2 ^ 8 : Nat) : Int) = ((UInt8.ofNat (x / 2 ^ 8)).toNat : Int) by rw [conv8n (by omega)]]; kernel_rfl) (by kernel_rfl) (len8_get _ (by omega))) _) ?_
    refine s1 5 (.int .i64 ((bitlen (x / 2 ^ 8) : Nat) : Int)) (.int .i64 (IntKind.i64.wrap ((UInt8.ofNat (bitlen (x / 2 ^ 8))).toNat : Int))) (conv8i (y := x / 2 ^ 8) (by omega)) ?_
    have hbl := bitlen_le (x / 2 ^ 8) (by omega)
    refine s1 6 (.int .i64 ((8 + (bitlen (x / 2 ^ 8)) : Nat) : Int)) (.int .i64 (IntKind.i64.wrap (8 + ((bitlen (x / 2 ^ 8) : Nat) : Int)))) (congrArg (Value.int .i64) (w64' (by omega) (by omega) (by omega))) ?_
    refine sP 7 [nV (8 + (bitlen (x / 2 ^ 8)))] ?_
    refine sD [(2,nV (8 + (bitlen (x / 2 ^ 8))))] ?_
    clear hF a; intro a hF
    refine tK ?_
    refine cR ?_
    show retK Tryd.prog Tryd.f54 (fun v h' => v = .int .i64 ((bitlen x : Nat) : Int) ∧ h' = h) .ret a h
    refine ret_ok [.tmp 2] [.int .i64 ((8 + (bitlen (x / 2 ^ 8)) : Nat) : Int)] (.int .i64 ((8 + (bitlen (x / 2 ^ 8)) : Nat) : Int)) rfl hF ⟨rfl,trivial⟩ rfl ?_
    have hs8 := bitlen_shift (x := x) (k := 8) (by omega)
    exact ⟨congrArg (fun z : Nat => Value.int .i64 (z : Int)) (by omega),rfl⟩
   ·skip
    replace hc7 := of_decide_eq_false hc7
    have hq8 : ¬ 2 ^ 8 ≤ (x) := by omega
    refine cN ?_
    refine tK ?_
    refine cS ?_
    refine cP 10 hF ?_
    refine sP 2 [.int .i64 0,.int .u64 ((x : Nat) : Int)] ?_
    refine s1 3 (bv (UInt8.ofNat x)) (.int .u8 (IntKind.u8.wrap ((x : Nat) : Int))) (conv64 _) ?_
    refine sC 4 (bv (UInt8.ofNat (bitlen x))) ((Calm.strIx (t := 9) (n := x) (s := len8) (by rw [show ((x : Nat) : Int) = ((UInt8.ofNat x).toNat : Int) by rw [conv8n (by omega)]]; kernel_rfl) (by kernel_rfl) (len8_get _ (by omega))) _) ?_
    refine s1 5 (.int .i64 ((bitlen x : Nat) : Int)) (.int .i64 (IntKind.i64.wrap ((UInt8.ofNat (bitlen x)).toNat : Int))) (conv8i (y := x) (by omega)) ?_
    have hbl := bitlen_le (x) (by omega)
    refine s1 6 (.int .i64 ((bitlen x : Nat) : Int)) (.int .i64 (IntKind.i64.wrap (0 + ((bitlen x : Nat) : Int)))) (congrArg (Value.int .i64) (w64' (by omega) (by omega) (by omega))) ?_
    refine sP 7 [nV (bitlen x)] ?_
    refine sD [(2,nV (bitlen x))] ?_
    clear hF a; intro a hF
    refine tK ?_
    refine cR ?_
    show retK Tryd.prog Tryd.f54 (fun v h' => v = .int .i64 ((bitlen x : Nat) : Int) ∧ h' = h) .ret a h
    refine ret_ok [.tmp 2] [.int .i64 ((bitlen x : Nat) : Int)] (.int .i64 ((bitlen x : Nat) : Int)) rfl hF ⟨rfl,trivial⟩ rfl ?_
    exact ⟨congrArg (fun z : Nat => Value.int .i64 (z : Int)) (by omega),rfl⟩
noncomputable def b44 : Code := Tryd.f44.body.getD .skip
theorem len_sat (h : Heap) (x : Nat) (hx : x < 18446744073709551616) : Sat Tryd.prog 44 #[.int .u64 ((x : Nat) : Int)] h fun v h' => v = .int .i64 ((bitlen x : Nat) : Int) ∧ h' = h := by
 refine sat_of (args := [.int .u64 ((x : Nat) : Int)]) (fn := Tryd.f44) (B := b44) (n := 8) (L := [(0,.int .u64 ((x : Nat) : Int))]) Tryd.func44 rfl (by kernel_rfl) rfl ?_
 intro a hF
 refine cS ?_
 refine cP 0 hF ?_
 refine sP 1 [.int .i64 0] ?_
 refine sD [(0,.int .u64 ((x : Nat) : Int))] ?_
 clear hF a; intro a hF
 refine tK ?_
 refine cS ?_
 refine C.condCF [1,0,0] [1,0,1] (by kernel_rfl) ?_
 refine cN ?_
 refine tK ?_
 refine cS ?_
 refine cP 2 hF ?_
 refine sP 1 [.int .u64 ((x : Nat) : Int)] ?_
 refine sC 2 (.int .i64 ((bitlen x : Nat) : Int)) (Does.call (f := 54) (args := #[.int .u64 ((x : Nat) : Int)]) (by kernel_rfl) (len64_sat _ x hx)) ?_
 refine sP 3 [nV (bitlen x)] ?_
 refine sD [(2,nV (bitlen x))] ?_
 clear hF a; intro a hF
 refine tK ?_
 refine cR ?_
 show retK Tryd.prog Tryd.f44 (fun v h' => v = .int .i64 ((bitlen x : Nat) : Int) ∧ h' = h) .ret a h
 refine ret_ok [.tmp 2] [.int .i64 ((bitlen x : Nat) : Int)] (.int .i64 ((bitlen x : Nat) : Int)) rfl hF ⟨rfl,trivial⟩ rfl ?_
 exact ⟨rfl,rfl⟩
noncomputable def b27 : Code := Tryd.f27.body.getD .skip
theorem split_sat (h : Heap) (n : Nat) (hn : 2 ≤ n) (hn2 : n ≤ 9223372036854775807) : Sat Tryd.prog 27 #[.int .i64 ((n : Nat) : Int)] h fun v h' => v = .int .i64 ((half n : Nat) : Int) ∧ h' = h := by
 have hbl := bitlen_lt (x := n - 1) (k := 63) (by omega)
 have hbl2 : 1 ≤ bitlen (n - 1) := by unfold bitlen; rw [if_neg (by omega)]; omega
 refine sat_of (args := [.int .i64 ((n : Nat) : Int)]) (fn := Tryd.f27) (B := b27) (n := 9) (L := [(0,.int .i64 ((n : Nat) : Int))]) Tryd.func27 rfl (by kernel_rfl) rfl ?_
 intro a hF
 refine cS ?_
 refine cP 0 hF ?_
 refine sP 1 [.int .i64 0] ?_
 refine sD [(0,nV n)] ?_
 clear hF a; intro a hF
 refine tK ?_
 refine cS ?_
 refine cP 1 hF ?_
 refine sP 1 [nV n] ?_
 refine s1 2 (.int .i64 ((n - 1 : Nat) : Int)) (.int .i64 (IntKind.i64.wrap (((n : Nat) : Int) - 1))) (congrArg (Value.int .i64) (w64' (by omega) (by omega) (by omega))) ?_
 refine s1 3 (.int .u64 ((n - 1 : Nat) : Int)) (.int .u64 (IntKind.u64.wrap ((n - 1 : Nat) : Int))) (congrArg (Value.int .u64) (u64n (by omega))) ?_
 refine sC 4 (.int .i64 ((bitlen (n - 1) : Nat) : Int)) (Does.call (f := 44) (args := #[.int .u64 ((n - 1 : Nat) : Int)]) (by kernel_rfl) (len_sat _ (n - 1) (by omega))) ?_
 refine s1 5 (.int .i64 (((bitlen (n - 1)) - 1 : Nat) : Int)) (.int .i64 (IntKind.i64.wrap (((bitlen (n - 1) : Nat) : Int) - 1))) (congrArg (Value.int .i64) (w64' (by omega) (by omega) (by omega))) ?_
 refine sC 6 (.int .i64 ((2 ^ ((bitlen (n - 1)) - 1) : Nat) : Int)) ((Calm.shl1 ((bitlen (n - 1)) - 1) (by kernel_rfl) (by omega)) _) ?_
 refine sP 7 [nV (2 ^ ((bitlen (n - 1)) - 1))] ?_
 refine sD [(2,nV (2 ^ ((bitlen (n - 1)) - 1)))] ?_
 clear hF a; intro a hF
 refine tK ?_
 refine cR ?_
 show retK Tryd.prog Tryd.f27 (fun v h' => v = .int .i64 ((half n : Nat) : Int) ∧ h' = h) .ret a h
 refine ret_ok [.tmp 2] [.int .i64 ((2 ^ ((bitlen (n - 1)) - 1) : Nat) : Int)] (.int .i64 ((2 ^ ((bitlen (n - 1)) - 1) : Nat) : Int)) rfl hF ⟨rfl,trivial⟩ rfl ?_
 exact ⟨congrArg (fun z : Nat => Value.int .i64 (z : Int)) (half_shift hn),rfl⟩
noncomputable def b33 : Code := Tryd.f33.body.getD .skip
theorem rhalf_sat (h : Heap) (n : Nat) (hn : 2 ≤ n) (hn2 : n ≤ 1099511627776) : Sat Tryd.prog 33 #[.int .i64 ((n : Nat) : Int)] h fun v h' => v = .int .i64 ((half n : Nat) : Int) ∧ h' = h := by
 refine sat_of (args := [.int .i64 ((n : Nat) : Int)]) (fn := Tryd.f33) (B := b33) (n := 11) (L := [(0,.int .i64 ((n : Nat) : Int))]) Tryd.func33 rfl (by kernel_rfl) rfl ?_
 intro a hF
 refine cS ?_
 refine cP 0 hF ?_
 refine sP 1 [.int .i64 0] ?_
 refine sD [(0,nV n)] ?_
 clear hF a; intro a hF
 refine tK ?_
 refine cS ?_
 refine cP 1 hF ?_
 refine sP 1 [.int .i64 1] ?_
 refine sD [(0,nV n),(3,.int .i64 1)] ?_
 clear hF a; intro a hF
 refine tK ?_
 refine cS ?_
 refine cB 0 ?_
 refine C.loop (fun m a h' => ∃ j : Nat,m = n - 2 ^ j ∧ (2 ^ j < n) ∧ (h = h') ∧ (Fr a 11 [(0,.int .i64 ((n : Nat) : Int)),(3,.int .i64 ((2 ^ j : Nat) : Int))])) (n - 1) [1,1,0,0,0] (by kernel_rfl) ⟨0,rfl,(by omega),rfl,hF⟩ ?_
 clear hF a
 rintro m a h1 ⟨j,rfl,hj,hh,hF⟩
 have hp := Nat.two_pow_pos j
 refine cS ?_
 refine cS ?_
 refine cP 2 hF ?_
 refine sP 1 [nV (2 ^ j)] ?_
 refine s1 2 (.int .i64 ((2 * (2 ^ j) : Nat) : Int)) (.int .i64 (IntKind.i64.wrap (2 * ((2 ^ j : Nat) : Int)))) (congrArg (Value.int .i64) (w64' (by omega) (by omega) (by omega))) ?_
 refine sP 4 [nV n,.bool (decide (((2 * (2 ^ j) : Nat) : Int) < ((n : Nat) : Int)))] ?_
 refine sD [(0,nV n),(3,nV (2 ^ j)),(7,.bool (decide (((2 * (2 ^ j) : Nat) : Int) < ((n : Nat) : Int))))] ?_
 clear hF a; intro a hF
 refine tK ?_
 refine cC 7 (decide (((2 * (2 ^ j) : Nat) : Int) < ((n : Nat) : Int))) hF (fun hc2 => ?_) (fun hc2 => ?_)
 ·skip
  replace hc2 := of_decide_eq_true hc2
  refine cN ?_
  refine tK ?_
  refine cB 1 ?_
  refine cP 3 hF ?_
  refine sP 1 [nV (2 ^ j)] ?_
  refine s1 2 (.int .i64 ((2 * (2 ^ j) : Nat) : Int)) (.int .i64 (IntKind.i64.wrap (2 * ((2 ^ j : Nat) : Int)))) (congrArg (Value.int .i64) (w64' (by omega) (by omega) (by omega))) ?_
  refine sP 3 [nV (2 * (2 ^ j))] ?_
  refine sD [(0,nV n),(3,nV (2 * (2 ^ j)))] ?_
  clear hF a; intro a hF
  have hk2 : 2 * 2 ^ j = 2 ^ (j + 1) := by rw [Nat.pow_succ,Nat.mul_comm]
  rw [hk2] at hF
  show ∃ m',m' < _ ∧ _
  refine ⟨_,?_,(j + 1),rfl,(by rw [Nat.pow_succ]; omega),hh,hF⟩
  omega
 ·skip
  replace hc2 := of_decide_eq_false hc2
  refine cX 0 ?_
  show C Tryd.prog (sub b33 [1,1,1]) _ a h1
  refine cS ?_
  refine cP 4 hF ?_
  refine sP 2 [nV (2 ^ j),nV (2 ^ j)] ?_
  refine sD [(2,nV (2 ^ j))] ?_
  clear hF a; intro a hF
  refine tK ?_
  refine cR ?_
  show retK Tryd.prog Tryd.f33 (fun v h' => v = .int .i64 ((half n : Nat) : Int) ∧ h' = h) .ret a h1
  refine ret_ok [.tmp 2] [.int .i64 ((2 ^ j : Nat) : Int)] (.int .i64 ((2 ^ j : Nat) : Int)) rfl hF ⟨rfl,trivial⟩ rfl ?_
  exact ⟨congrArg (fun z : Nat => Value.int .i64 (z : Int)) (half_eq hj (by omega)).symm,hh.symm⟩
end Go.Proofs.YtkjlafiefgbjpaaDoor
