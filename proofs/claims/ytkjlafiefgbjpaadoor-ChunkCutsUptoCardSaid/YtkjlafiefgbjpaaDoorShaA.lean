/- Walks of package sha: what each function computes, as a law of its calls. No condition but those that each theorem names. -/
import Derived.Test.YtkjlafiefgbjpaaDoorShaMath
namespace Go.Proofs.YtkjlafiefgbjpaaDoor
open Go Go.Lane Go.Sha
theorem mixed : Tryd.prog.follows .mixedOrders = true := by kernel_rfl
noncomputable def b55 : Code := Tryd.f55.body.getD .skip
theorem rotl_7 (h : Heap) (x : W) : Sat Tryd.prog 55 #[wv x,.int .i64 (-7)] h fun v h' => v = wv (rr x 7) ∧ h' = h := by
 refine sat_of (args := [wv x,.int .i64 (-7)]) (fn := Tryd.f55) (B := b55) (n := 17) (L := [(0,wv x),(1,.int .i64 (-7))]) Tryd.func55 rfl (by kernel_rfl) rfl ?_
 intro a hF
 refine cS ?_
 refine cP 0 hF ?_
 refine sP 1 [.int .u32 0] ?_
 refine sD [(0,wv x),(1,.int .i64 (-7))] ?_
 clear hF a; intro a hF
 refine tK ?_
 refine cS ?_
 refine cP 1 hF ?_
 refine sP 4 [.int .i64 (-7),.int .u64 18446744073709551609,.int .u64 25,.int .u64 25] ?_
 refine sD [(0,wv x),(5,.int .u64 25)] ?_
 clear hF a; intro a hF
 refine tK ?_
 refine cS ?_
 refine cP 2 hF ?_
 refine sP 2 [wv x,.int .u64 25] ?_
 refine s1 3 (wv (x <<< 25)) (.int .u32 (IntKind.u32.wrap ((x.toNat : Int) * 2 ^ 25))) (shl32 x 25) ?_
 refine sP 6 [wv x,.int .u64 25,.int .u64 7] ?_
 refine s1 7 (wv (x >>> 7)) (.int .u32 (Int.fdiv (x.toNat : Int) (2 ^ 7))) (shr32 x 7) ?_
 refine s1 8 (wv ((x <<< 25) ||| (x >>> 7))) (.int .u32 (IntKind.u32.wrap ((BitVec.ofInt 32 ((x <<< 25).toNat : Int) ||| BitVec.ofInt 32 ((x >>> 7).toNat : Int)).toNat : Int))) (or32 (x <<< 25) (x >>> 7)) ?_
 refine sP 9 [wv ((x <<< 25) ||| (x >>> 7))] ?_
 refine sD [(4,wv ((x <<< 25) ||| (x >>> 7)))] ?_
 clear hF a; intro a hF
 refine tK ?_
 refine cR ?_
 refine ret_ok [.tmp 4] [wv ((x <<< 25) ||| (x >>> 7))] (wv ((x <<< 25) ||| (x >>> 7))) rfl hF ⟨rfl,trivial⟩ rfl ?_
 exact ⟨congrArg wv (BitVec.or_comm _ _),rfl⟩
theorem rotl_18 (h : Heap) (x : W) : Sat Tryd.prog 55 #[wv x,.int .i64 (-18)] h fun v h' => v = wv (rr x 18) ∧ h' = h := by
 refine sat_of (args := [wv x,.int .i64 (-18)]) (fn := Tryd.f55) (B := b55) (n := 17) (L := [(0,wv x),(1,.int .i64 (-18))]) Tryd.func55 rfl (by kernel_rfl) rfl ?_
 intro a hF
 refine cS ?_
 refine cP 0 hF ?_
 refine sP 1 [.int .u32 0] ?_
 refine sD [(0,wv x),(1,.int .i64 (-18))] ?_
 clear hF a; intro a hF
 refine tK ?_
 refine cS ?_
 refine cP 1 hF ?_
 refine sP 4 [.int .i64 (-18),.int .u64 18446744073709551598,.int .u64 14,.int .u64 14] ?_
 refine sD [(0,wv x),(5,.int .u64 14)] ?_
 clear hF a; intro a hF
 refine tK ?_
 refine cS ?_
 refine cP 2 hF ?_
 refine sP 2 [wv x,.int .u64 14] ?_
 refine s1 3 (wv (x <<< 14)) (.int .u32 (IntKind.u32.wrap ((x.toNat : Int) * 2 ^ 14))) (shl32 x 14) ?_
 refine sP 6 [wv x,.int .u64 14,.int .u64 18] ?_
 refine s1 7 (wv (x >>> 18)) (.int .u32 (Int.fdiv (x.toNat : Int) (2 ^ 18))) (shr32 x 18) ?_
 refine s1 8 (wv ((x <<< 14) ||| (x >>> 18))) (.int .u32 (IntKind.u32.wrap ((BitVec.ofInt 32 ((x <<< 14).toNat : Int) ||| BitVec.ofInt 32 ((x >>> 18).toNat : Int)).toNat : Int))) (or32 (x <<< 14) (x >>> 18)) ?_
 refine sP 9 [wv ((x <<< 14) ||| (x >>> 18))] ?_
 refine sD [(4,wv ((x <<< 14) ||| (x >>> 18)))] ?_
 clear hF a; intro a hF
 refine tK ?_
 refine cR ?_
 refine ret_ok [.tmp 4] [wv ((x <<< 14) ||| (x >>> 18))] (wv ((x <<< 14) ||| (x >>> 18))) rfl hF ⟨rfl,trivial⟩ rfl ?_
 exact ⟨congrArg wv (BitVec.or_comm _ _),rfl⟩
theorem rotl_17 (h : Heap) (x : W) : Sat Tryd.prog 55 #[wv x,.int .i64 (-17)] h fun v h' => v = wv (rr x 17) ∧ h' = h := by
 refine sat_of (args := [wv x,.int .i64 (-17)]) (fn := Tryd.f55) (B := b55) (n := 17) (L := [(0,wv x),(1,.int .i64 (-17))]) Tryd.func55 rfl (by kernel_rfl) rfl ?_
 intro a hF
 refine cS ?_
 refine cP 0 hF ?_
 refine sP 1 [.int .u32 0] ?_
 refine sD [(0,wv x),(1,.int .i64 (-17))] ?_
 clear hF a; intro a hF
 refine tK ?_
 refine cS ?_
 refine cP 1 hF ?_
 refine sP 4 [.int .i64 (-17),.int .u64 18446744073709551599,.int .u64 15,.int .u64 15] ?_
 refine sD [(0,wv x),(5,.int .u64 15)] ?_
 clear hF a; intro a hF
 refine tK ?_
 refine cS ?_
 refine cP 2 hF ?_
 refine sP 2 [wv x,.int .u64 15] ?_
 refine s1 3 (wv (x <<< 15)) (.int .u32 (IntKind.u32.wrap ((x.toNat : Int) * 2 ^ 15))) (shl32 x 15) ?_
 refine sP 6 [wv x,.int .u64 15,.int .u64 17] ?_
 refine s1 7 (wv (x >>> 17)) (.int .u32 (Int.fdiv (x.toNat : Int) (2 ^ 17))) (shr32 x 17) ?_
 refine s1 8 (wv ((x <<< 15) ||| (x >>> 17))) (.int .u32 (IntKind.u32.wrap ((BitVec.ofInt 32 ((x <<< 15).toNat : Int) ||| BitVec.ofInt 32 ((x >>> 17).toNat : Int)).toNat : Int))) (or32 (x <<< 15) (x >>> 17)) ?_
 refine sP 9 [wv ((x <<< 15) ||| (x >>> 17))] ?_
 refine sD [(4,wv ((x <<< 15) ||| (x >>> 17)))] ?_
 clear hF a; intro a hF
 refine tK ?_
 refine cR ?_
 refine ret_ok [.tmp 4] [wv ((x <<< 15) ||| (x >>> 17))] (wv ((x <<< 15) ||| (x >>> 17))) rfl hF ⟨rfl,trivial⟩ rfl ?_
 exact ⟨congrArg wv (BitVec.or_comm _ _),rfl⟩
theorem rotl_19 (h : Heap) (x : W) : Sat Tryd.prog 55 #[wv x,.int .i64 (-19)] h fun v h' => v = wv (rr x 19) ∧ h' = h := by
 refine sat_of (args := [wv x,.int .i64 (-19)]) (fn := Tryd.f55) (B := b55) (n := 17) (L := [(0,wv x),(1,.int .i64 (-19))]) Tryd.func55 rfl (by kernel_rfl) rfl ?_
 intro a hF
 refine cS ?_
 refine cP 0 hF ?_
 refine sP 1 [.int .u32 0] ?_
 refine sD [(0,wv x),(1,.int .i64 (-19))] ?_
 clear hF a; intro a hF
 refine tK ?_
 refine cS ?_
 refine cP 1 hF ?_
 refine sP 4 [.int .i64 (-19),.int .u64 18446744073709551597,.int .u64 13,.int .u64 13] ?_
 refine sD [(0,wv x),(5,.int .u64 13)] ?_
 clear hF a; intro a hF
 refine tK ?_
 refine cS ?_
 refine cP 2 hF ?_
 refine sP 2 [wv x,.int .u64 13] ?_
 refine s1 3 (wv (x <<< 13)) (.int .u32 (IntKind.u32.wrap ((x.toNat : Int) * 2 ^ 13))) (shl32 x 13) ?_
 refine sP 6 [wv x,.int .u64 13,.int .u64 19] ?_
 refine s1 7 (wv (x >>> 19)) (.int .u32 (Int.fdiv (x.toNat : Int) (2 ^ 19))) (shr32 x 19) ?_
 refine s1 8 (wv ((x <<< 13) ||| (x >>> 19))) (.int .u32 (IntKind.u32.wrap ((BitVec.ofInt 32 ((x <<< 13).toNat : Int) ||| BitVec.ofInt 32 ((x >>> 19).toNat : Int)).toNat : Int))) (or32 (x <<< 13) (x >>> 19)) ?_
 refine sP 9 [wv ((x <<< 13) ||| (x >>> 19))] ?_
 refine sD [(4,wv ((x <<< 13) ||| (x >>> 19)))] ?_
 clear hF a; intro a hF
 refine tK ?_
 refine cR ?_
 refine ret_ok [.tmp 4] [wv ((x <<< 13) ||| (x >>> 19))] (wv ((x <<< 13) ||| (x >>> 19))) rfl hF ⟨rfl,trivial⟩ rfl ?_
 exact ⟨congrArg wv (BitVec.or_comm _ _),rfl⟩
theorem rotl_6 (h : Heap) (x : W) : Sat Tryd.prog 55 #[wv x,.int .i64 (-6)] h fun v h' => v = wv (rr x 6) ∧ h' = h := by
 refine sat_of (args := [wv x,.int .i64 (-6)]) (fn := Tryd.f55) (B := b55) (n := 17) (L := [(0,wv x),(1,.int .i64 (-6))]) Tryd.func55 rfl (by kernel_rfl) rfl ?_
 intro a hF
 refine cS ?_
 refine cP 0 hF ?_
 refine sP 1 [.int .u32 0] ?_
 refine sD [(0,wv x),(1,.int .i64 (-6))] ?_
 clear hF a; intro a hF
 refine tK ?_
 refine cS ?_
 refine cP 1 hF ?_
 refine sP 4 [.int .i64 (-6),.int .u64 18446744073709551610,.int .u64 26,.int .u64 26] ?_
 refine sD [(0,wv x),(5,.int .u64 26)] ?_
 clear hF a; intro a hF
 refine tK ?_
 refine cS ?_
 refine cP 2 hF ?_
 refine sP 2 [wv x,.int .u64 26] ?_
 refine s1 3 (wv (x <<< 26)) (.int .u32 (IntKind.u32.wrap ((x.toNat : Int) * 2 ^ 26))) (shl32 x 26) ?_
 refine sP 6 [wv x,.int .u64 26,.int .u64 6] ?_
 refine s1 7 (wv (x >>> 6)) (.int .u32 (Int.fdiv (x.toNat : Int) (2 ^ 6))) (shr32 x 6) ?_
 refine s1 8 (wv ((x <<< 26) ||| (x >>> 6))) (.int .u32 (IntKind.u32.wrap ((BitVec.ofInt 32 ((x <<< 26).toNat : Int) ||| BitVec.ofInt 32 ((x >>> 6).toNat : Int)).toNat : Int))) (or32 (x <<< 26) (x >>> 6)) ?_
 refine sP 9 [wv ((x <<< 26) ||| (x >>> 6))] ?_
 refine sD [(4,wv ((x <<< 26) ||| (x >>> 6)))] ?_
 clear hF a; intro a hF
 refine tK ?_
 refine cR ?_
 refine ret_ok [.tmp 4] [wv ((x <<< 26) ||| (x >>> 6))] (wv ((x <<< 26) ||| (x >>> 6))) rfl hF ⟨rfl,trivial⟩ rfl ?_
 exact ⟨congrArg wv (BitVec.or_comm _ _),rfl⟩
theorem rotl_11 (h : Heap) (x : W) : Sat Tryd.prog 55 #[wv x,.int .i64 (-11)] h fun v h' => v = wv (rr x 11) ∧ h' = h := by
 refine sat_of (args := [wv x,.int .i64 (-11)]) (fn := Tryd.f55) (B := b55) (n := 17) (L := [(0,wv x),(1,.int .i64 (-11))]) Tryd.func55 rfl (by kernel_rfl) rfl ?_
 intro a hF
 refine cS ?_
 refine cP 0 hF ?_
 refine sP 1 [.int .u32 0] ?_
 refine sD [(0,wv x),(1,.int .i64 (-11))] ?_
 clear hF a; intro a hF
 refine tK ?_
 refine cS ?_
 refine cP 1 hF ?_
 refine sP 4 [.int .i64 (-11),.int .u64 18446744073709551605,.int .u64 21,.int .u64 21] ?_
 refine sD [(0,wv x),(5,.int .u64 21)] ?_
 clear hF a; intro a hF
 refine tK ?_
 refine cS ?_
 refine cP 2 hF ?_
 refine sP 2 [wv x,.int .u64 21] ?_
 refine s1 3 (wv (x <<< 21)) (.int .u32 (IntKind.u32.wrap ((x.toNat : Int) * 2 ^ 21))) (shl32 x 21) ?_
 refine sP 6 [wv x,.int .u64 21,.int .u64 11] ?_
 refine s1 7 (wv (x >>> 11)) (.int .u32 (Int.fdiv (x.toNat : Int) (2 ^ 11))) (shr32 x 11) ?_
 refine s1 8 (wv ((x <<< 21) ||| (x >>> 11))) (.int .u32 (IntKind.u32.wrap ((BitVec.ofInt 32 ((x <<< 21).toNat : Int) ||| BitVec.ofInt 32 ((x >>> 11).toNat : Int)).toNat : Int))) (or32 (x <<< 21) (x >>> 11)) ?_
 refine sP 9 [wv ((x <<< 21) ||| (x >>> 11))] ?_
 refine sD [(4,wv ((x <<< 21) ||| (x >>> 11)))] ?_
 clear hF a; intro a hF
 refine tK ?_
 refine cR ?_
 refine ret_ok [.tmp 4] [wv ((x <<< 21) ||| (x >>> 11))] (wv ((x <<< 21) ||| (x >>> 11))) rfl hF ⟨rfl,trivial⟩ rfl ?_
 exact ⟨congrArg wv (BitVec.or_comm _ _),rfl⟩
theorem rotl_25 (h : Heap) (x : W) : Sat Tryd.prog 55 #[wv x,.int .i64 (-25)] h fun v h' => v = wv (rr x 25) ∧ h' = h := by
 refine sat_of (args := [wv x,.int .i64 (-25)]) (fn := Tryd.f55) (B := b55) (n := 17) (L := [(0,wv x),(1,.int .i64 (-25))]) Tryd.func55 rfl (by kernel_rfl) rfl ?_
 intro a hF
 refine cS ?_
 refine cP 0 hF ?_
 refine sP 1 [.int .u32 0] ?_
 refine sD [(0,wv x),(1,.int .i64 (-25))] ?_
 clear hF a; intro a hF
 refine tK ?_
 refine cS ?_
 refine cP 1 hF ?_
 refine sP 4 [.int .i64 (-25),.int .u64 18446744073709551591,.int .u64 7,.int .u64 7] ?_
 refine sD [(0,wv x),(5,.int .u64 7)] ?_
 clear hF a; intro a hF
 refine tK ?_
 refine cS ?_
 refine cP 2 hF ?_
 refine sP 2 [wv x,.int .u64 7] ?_
 refine s1 3 (wv (x <<< 7)) (.int .u32 (IntKind.u32.wrap ((x.toNat : Int) * 2 ^ 7))) (shl32 x 7) ?_
 refine sP 6 [wv x,.int .u64 7,.int .u64 25] ?_
 refine s1 7 (wv (x >>> 25)) (.int .u32 (Int.fdiv (x.toNat : Int) (2 ^ 25))) (shr32 x 25) ?_
 refine s1 8 (wv ((x <<< 7) ||| (x >>> 25))) (.int .u32 (IntKind.u32.wrap ((BitVec.ofInt 32 ((x <<< 7).toNat : Int) ||| BitVec.ofInt 32 ((x >>> 25).toNat : Int)).toNat : Int))) (or32 (x <<< 7) (x >>> 25)) ?_
 refine sP 9 [wv ((x <<< 7) ||| (x >>> 25))] ?_
 refine sD [(4,wv ((x <<< 7) ||| (x >>> 25)))] ?_
 clear hF a; intro a hF
 refine tK ?_
 refine cR ?_
 refine ret_ok [.tmp 4] [wv ((x <<< 7) ||| (x >>> 25))] (wv ((x <<< 7) ||| (x >>> 25))) rfl hF ⟨rfl,trivial⟩ rfl ?_
 exact ⟨congrArg wv (BitVec.or_comm _ _),rfl⟩
theorem rotl_2 (h : Heap) (x : W) : Sat Tryd.prog 55 #[wv x,.int .i64 (-2)] h fun v h' => v = wv (rr x 2) ∧ h' = h := by
 refine sat_of (args := [wv x,.int .i64 (-2)]) (fn := Tryd.f55) (B := b55) (n := 17) (L := [(0,wv x),(1,.int .i64 (-2))]) Tryd.func55 rfl (by kernel_rfl) rfl ?_
 intro a hF
 refine cS ?_
 refine cP 0 hF ?_
 refine sP 1 [.int .u32 0] ?_
 refine sD [(0,wv x),(1,.int .i64 (-2))] ?_
 clear hF a; intro a hF
 refine tK ?_
 refine cS ?_
 refine cP 1 hF ?_
 refine sP 4 [.int .i64 (-2),.int .u64 18446744073709551614,.int .u64 30,.int .u64 30] ?_
 refine sD [(0,wv x),(5,.int .u64 30)] ?_
 clear hF a; intro a hF
 refine tK ?_
 refine cS ?_
 refine cP 2 hF ?_
 refine sP 2 [wv x,.int .u64 30] ?_
 refine s1 3 (wv (x <<< 30)) (.int .u32 (IntKind.u32.wrap ((x.toNat : Int) * 2 ^ 30))) (shl32 x 30) ?_
 refine sP 6 [wv x,.int .u64 30,.int .u64 2] ?_
 refine s1 7 (wv (x >>> 2)) (.int .u32 (Int.fdiv (x.toNat : Int) (2 ^ 2))) (shr32 x 2) ?_
 refine s1 8 (wv ((x <<< 30) ||| (x >>> 2))) (.int .u32 (IntKind.u32.wrap ((BitVec.ofInt 32 ((x <<< 30).toNat : Int) ||| BitVec.ofInt 32 ((x >>> 2).toNat : Int)).toNat : Int))) (or32 (x <<< 30) (x >>> 2)) ?_
 refine sP 9 [wv ((x <<< 30) ||| (x >>> 2))] ?_
 refine sD [(4,wv ((x <<< 30) ||| (x >>> 2)))] ?_
 clear hF a; intro a hF
 refine tK ?_
 refine cR ?_
 refine ret_ok [.tmp 4] [wv ((x <<< 30) ||| (x >>> 2))] (wv ((x <<< 30) ||| (x >>> 2))) rfl hF ⟨rfl,trivial⟩ rfl ?_
 exact ⟨congrArg wv (BitVec.or_comm _ _),rfl⟩
theorem rotl_13 (h : Heap) (x : W) : Sat Tryd.prog 55 #[wv x,.int .i64 (-13)] h fun v h' => v = wv (rr x 13) ∧ h' = h := by
 refine sat_of (args := [wv x,.int .i64 (-13)]) (fn := Tryd.f55) (B := b55) (n := 17) (L := [(0,wv x),(1,.int .i64 (-13))]) Tryd.func55 rfl (by kernel_rfl) rfl ?_
 intro a hF
 refine cS ?_
 refine cP 0 hF ?_
 refine sP 1 [.int .u32 0] ?_
 refine sD [(0,wv x),(1,.int .i64 (-13))] ?_
 clear hF a; intro a hF
 refine tK ?_
 refine cS ?_
 refine cP 1 hF ?_
 refine sP 4 [.int .i64 (-13),.int .u64 18446744073709551603,.int .u64 19,.int .u64 19] ?_
 refine sD [(0,wv x),(5,.int .u64 19)] ?_
 clear hF a; intro a hF
 refine tK ?_
 refine cS ?_
 refine cP 2 hF ?_
 refine sP 2 [wv x,.int .u64 19] ?_
 refine s1 3 (wv (x <<< 19)) (.int .u32 (IntKind.u32.wrap ((x.toNat : Int) * 2 ^ 19))) (shl32 x 19) ?_
 refine sP 6 [wv x,.int .u64 19,.int .u64 13] ?_
 refine s1 7 (wv (x >>> 13)) (.int .u32 (Int.fdiv (x.toNat : Int) (2 ^ 13))) (shr32 x 13) ?_
 refine s1 8 (wv ((x <<< 19) ||| (x >>> 13))) (.int .u32 (IntKind.u32.wrap ((BitVec.ofInt 32 ((x <<< 19).toNat : Int) ||| BitVec.ofInt 32 ((x >>> 13).toNat : Int)).toNat : Int))) (or32 (x <<< 19) (x >>> 13)) ?_
 refine sP 9 [wv ((x <<< 19) ||| (x >>> 13))] ?_
 refine sD [(4,wv ((x <<< 19) ||| (x >>> 13)))] ?_
 clear hF a; intro a hF
 refine tK ?_
 refine cR ?_
 refine ret_ok [.tmp 4] [wv ((x <<< 19) ||| (x >>> 13))] (wv ((x <<< 19) ||| (x >>> 13))) rfl hF ⟨rfl,trivial⟩ rfl ?_
 exact ⟨congrArg wv (BitVec.or_comm _ _),rfl⟩
theorem rotl_22 (h : Heap) (x : W) : Sat Tryd.prog 55 #[wv x,.int .i64 (-22)] h fun v h' => v = wv (rr x 22) ∧ h' = h := by
 refine sat_of (args := [wv x,.int .i64 (-22)]) (fn := Tryd.f55) (B := b55) (n := 17) (L := [(0,wv x),(1,.int .i64 (-22))]) Tryd.func55 rfl (by kernel_rfl) rfl ?_
 intro a hF
 refine cS ?_
 refine cP 0 hF ?_
 refine sP 1 [.int .u32 0] ?_
 refine sD [(0,wv x),(1,.int .i64 (-22))] ?_
 clear hF a; intro a hF
 refine tK ?_
 refine cS ?_
 refine cP 1 hF ?_
 refine sP 4 [.int .i64 (-22),.int .u64 18446744073709551594,.int .u64 10,.int .u64 10] ?_
 refine sD [(0,wv x),(5,.int .u64 10)] ?_
 clear hF a; intro a hF
 refine tK ?_
 refine cS ?_
 refine cP 2 hF ?_
 refine sP 2 [wv x,.int .u64 10] ?_
 refine s1 3 (wv (x <<< 10)) (.int .u32 (IntKind.u32.wrap ((x.toNat : Int) * 2 ^ 10))) (shl32 x 10) ?_
 refine sP 6 [wv x,.int .u64 10,.int .u64 22] ?_
 refine s1 7 (wv (x >>> 22)) (.int .u32 (Int.fdiv (x.toNat : Int) (2 ^ 22))) (shr32 x 22) ?_
 refine s1 8 (wv ((x <<< 10) ||| (x >>> 22))) (.int .u32 (IntKind.u32.wrap ((BitVec.ofInt 32 ((x <<< 10).toNat : Int) ||| BitVec.ofInt 32 ((x >>> 22).toNat : Int)).toNat : Int))) (or32 (x <<< 10) (x >>> 22)) ?_
 refine sP 9 [wv ((x <<< 10) ||| (x >>> 22))] ?_
 refine sD [(4,wv ((x <<< 10) ||| (x >>> 22)))] ?_
 clear hF a; intro a hF
 refine tK ?_
 refine cR ?_
 refine ret_ok [.tmp 4] [wv ((x <<< 10) ||| (x >>> 22))] (wv ((x <<< 10) ||| (x >>> 22))) rfl hF ⟨rfl,trivial⟩ rfl ?_
 exact ⟨congrArg wv (BitVec.or_comm _ _),rfl⟩
noncomputable def b47 : Code := Tryd.f47.body.getD .skip
theorem piece_sat (h : Heap) (s : S8) (pa : Addr) (pc : Nat) (p : List UInt8) (hp : ∀ j,j < 64 → hcell h (pa.add j) = some (bv (p.getD j 0))) (hK : Ktab h) : Sat Tryd.prog 47 #[.agg #[wv s.a,wv s.b,wv s.c,wv s.d,wv s.e,wv s.f,wv s.g,wv s.h],.slice (some pa) 64 pc] h fun v h' => v = .agg (sv (piece s p)).toArray ∧ Ext h h' := by
 have e0 := Ext.refl h
 refine sat_of (args := [.agg #[wv s.a,wv s.b,wv s.c,wv s.d,wv s.e,wv s.f,wv s.g,wv s.h],.slice (some pa) 64 pc]) (fn := Tryd.f47) (B := b47) (n := 211) (L := [(0,.agg #[wv s.a,wv s.b,wv s.c,wv s.d,wv s.e,wv s.f,wv s.g,wv s.h]),(1,.slice (some pa) 64 pc)]) Tryd.func47 rfl (by kernel_rfl) rfl ?_
 intro a hF
 refine cS ?_
 refine cP 0 hF ?_
 refine SeqK.eff (k' := 1) (Does.new (v := .pointer (some ⟨h.size,0,none⟩)) (o := .cells #[wv s.a,wv s.b,wv s.c,wv s.d,wv s.e,wv s.f,wv s.g,wv s.h] 69) (by kernel_rfl)) rfl ?_
 rintro _ h1 ⟨rfl,hh⟩
 have g2 : Ext h h1 := push_ext hh
 have m3 : h1[h.size]? = some (.cells #[wv s.a,wv s.b,wv s.c,wv s.d,wv s.e,wv s.f,wv s.g,wv s.h] 69) := push_at hh
 clear hh
 have lt4 := blk_lt m3
 have zs5 := e0.size
 replace e0 := e0.ext g2
 refine SeqK.eff (k' := 2) (Does.new (v := .pointer (some ⟨h1.size,0,none⟩)) (o := .cells #[.int .u32 0,.int .u32 0,.int .u32 0,.int .u32 0,.int .u32 0,.int .u32 0,.int .u32 0,.int .u32 0] 69) (by kernel_rfl)) rfl ?_
 rintro _ h6 ⟨rfl,hh⟩
 have g7 : Ext h1 h6 := push_ext hh
 have m8 : h6[h1.size]? = some (.cells #[.int .u32 0,.int .u32 0,.int .u32 0,.int .u32 0,.int .u32 0,.int .u32 0,.int .u32 0,.int .u32 0] 69) := push_at hh
 clear hh
 have lt9 := blk_lt m8
 have zs10 := e0.size
 replace e0 := e0.ext g7
 replace m3 := Ext.blk g7 m3
 refine sD [(1,.slice (some pa) 64 pc),(2,pV h.size),(4,pV h1.size)] ?_
 clear hF a; intro a hF
 refine tK ?_
 refine cS ?_
 refine cP 1 hF ?_
 refine SeqK.eff (k' := 1) (Does.new (v := .pointer (some ⟨h6.size,0,none⟩)) (o := .cells #[.int .u32 0,.int .u32 0,.int .u32 0,.int .u32 0,.int .u32 0,.int .u32 0,.int .u32 0,.int .u32 0,.int .u32 0,.int .u32 0,.int .u32 0,.int .u32 0,.int .u32 0,.int .u32 0,.int .u32 0,.int .u32 0,.int .u32 0,.int .u32 0,.int .u32 0,.int .u32 0,.int .u32 0,.int .u32 0,.int .u32 0,.int .u32 0,.int .u32 0,.int .u32 0,.int .u32 0,.int .u32 0,.int .u32 0,.int .u32 0,.int .u32 0,.int .u32 0,.int .u32 0,.int .u32 0,.int .u32 0,.int .u32 0,.int .u32 0,.int .u32 0,.int .u32 0,.int .u32 0,.int .u32 0,.int .u32 0,.int .u32 0,.int .u32 0,.int .u32 0,.int .u32 0,.int .u32 0,.int .u32 0,.int .u32 0,.int .u32 0,.int .u32 0,.int .u32 0,.int .u32 0,.int .u32 0,.int .u32 0,.int .u32 0,.int .u32 0,.int .u32 0,.int .u32 0,.int .u32 0,.int .u32 0,.int .u32 0,.int .u32 0,.int .u32 0] 79) (by kernel_rfl)) rfl ?_
 rintro _ h11 ⟨rfl,hh⟩
 have g12 : Ext h6 h11 := push_ext hh
 have m13 : h11[h6.size]? = some (.cells #[.int .u32 0,.int .u32 0,.int .u32 0,.int .u32 0,.int .u32 0,.int .u32 0,.int .u32 0,.int .u32 0,.int .u32 0,.int .u32 0,.int .u32 0,.int .u32 0,.int .u32 0,.int .u32 0,.int .u32 0,.int .u32 0,.int .u32 0,.int .u32 0,.int .u32 0,.int .u32 0,.int .u32 0,.int .u32 0,.int .u32 0,.int .u32 0,.int .u32 0,.int .u32 0,.int .u32 0,.int .u32 0,.int .u32 0,.int .u32 0,.int .u32 0,.int .u32 0,.int .u32 0,.int .u32 0,.int .u32 0,.int .u32 0,.int .u32 0,.int .u32 0,.int .u32 0,.int .u32 0,.int .u32 0,.int .u32 0,.int .u32 0,.int .u32 0,.int .u32 0,.int .u32 0,.int .u32 0,.int .u32 0,.int .u32 0,.int .u32 0,.int .u32 0,.int .u32 0,.int .u32 0,.int .u32 0,.int .u32 0,.int .u32 0,.int .u32 0,.int .u32 0,.int .u32 0,.int .u32 0,.int .u32 0,.int .u32 0,.int .u32 0,.int .u32 0] 79) := push_at hh
 clear hh
 have lt14 := blk_lt m13
 have zs15 := e0.size
 replace e0 := e0.ext g12
 replace m3 := Ext.blk g12 m3
 replace m8 := Ext.blk g12 m8
 refine sD [(1,.slice (some pa) 64 pc),(2,pV h.size),(4,pV h1.size),(5,pV h6.size)] ?_
 clear hF a; intro a hF
 refine tK ?_
 refine cS ?_
 refine cS ?_
 refine cP 2 hF ?_
 refine sP 1 [.int .i64 0] ?_
 refine sD [(1,.slice (some pa) 64 pc),(2,pV h.size),(4,pV h1.size),(5,pV h6.size),(27,.int .i64 0)] ?_
 clear hF a; intro a hF
 refine tK ?_
 refine cB 0 ?_
 refine C.loop (fun m a h' => ∃ k : Nat,m = 16 - k ∧ (Ext h h') ∧ (h'[h.size]? = some (.cells #[wv s.a,wv s.b,wv s.c,wv s.d,wv s.e,wv s.f,wv s.g,wv s.h] 69)) ∧ (h'[h1.size]? = some (.cells #[.int .u32 0,.int .u32 0,.int .u32 0,.int .u32 0,.int .u32 0,.int .u32 0,.int .u32 0,.int .u32 0] 69)) ∧ (k ≤ 16) ∧ (h'[h6.size]? = some (.cells (wl (first p k)).toArray 79)) ∧ (Fr a 211 [(1,.slice (some pa) 64 pc),(2,.pointer (some ⟨h.size,0,none⟩)),(4,.pointer (some ⟨h1.size,0,none⟩)),(5,.pointer (some ⟨h6.size,0,none⟩)),(27,.int .i64 ((k : Nat) : Int))])) (16 - 0) [1,1,0,1,0,0] (by kernel_rfl) ⟨0,rfl,e0,m3,m8,(by omega),m13,hF⟩ ?_
 clear hF a
 clear e0
 clear m3
 clear m8
 clear m13
 rintro m a h16 ⟨k,rfl,e0,m3,m8,hk,m13,hF⟩
 refine cS ?_
 refine cP 3 hF ?_
 refine sP 1 [.bool (decide (((k : Nat) : Int) < (16 : Int)))] ?_
 refine sD [(1,.slice (some pa) 64 pc),(2,pV h.size),(4,pV h1.size),(5,pV h6.size),(27,nV k),(28,.bool (decide (((k : Nat) : Int) < (16 : Int))))] ?_
 clear hF a; intro a hF
 refine tK ?_
 refine cS ?_
 refine cC 28 (decide (((k : Nat) : Int) < (16 : Int))) hF (fun hc17 => ?_) (fun hc17 => ?_)
 ·skip
  replace hc17 := of_decide_eq_true hc17
  refine cN ?_
  refine tK ?_
  refine cS ?_
  refine cB 1 ?_
  refine cS ?_
  refine cP 4 hF ?_
  refine sP 2 [nV k,nV k] ?_
  refine sD [(1,.slice (some pa) 64 pc),(2,pV h.size),(4,pV h1.size),(5,pV h6.size),(6,nV k),(27,nV k)] ?_
  clear hF a; intro a hF
  refine tK ?_
  refine cD [0,0,0,4,14,30,62,126,0,0,512,1536,3840,7936,16128,32512,65534,0,0,262144,786432,1966080,4063232,8257536,16646144,33554430,0,0,134217728,402653184,1006632960,2080374784,4227858432,8589934590,17179869183,34359738367] 5 mixed hF ?_
  refine mP 7 [0,1,2] [nV k,.slice (some pa) 64 pc,nV k] ?_
  refine m1 15 3 (.int .i64 ((4 * k : Nat) : Int)) (.int .i64 (IntKind.i64.wrap (4 * ((k : Nat) : Int)))) (congrArg (Value.int .i64) (w64' (by omega) (by omega) (by omega))) ?_
  refine mF 31 4 (.pointer (some (Addr.add pa (4 * k)))) (Calm.indexA (a := pa) (len := 64) (sz := 1) (k := ((4 * k : Nat) : Int)) (4 * k) (4 * k) (by kernel_rfl) rfl (by omega) (by omega)) ?_
  refine mL 63 32 5 (bv (p.getD (4 * k) 0)) (Calm.load (T := 5) (p := (Addr.add pa (4 * k))) (by kernel_rfl) (Loads.one (k := 1) (by kernel_rfl) (e0.cell (hp (4 * k) (by omega))))) ?_
  refine m1 127 6 (wv (w8 (p.getD (4 * k) 0))) (.int .u32 (IntKind.u32.wrap ((p.getD (4 * k) 0).toNat : Int))) (conv8 (p.getD (4 * k) 0)) ?_
  refine m1 255 7 (wv ((w8 (p.getD (4 * k) 0)) <<< 24)) (.int .u32 (IntKind.u32.wrap (((w8 (p.getD (4 * k) 0)).toNat : Int) * 2 ^ 24))) (shl32 (w8 (p.getD (4 * k) 0)) 24) ?_
  refine mP 1023 [8,9] [.slice (some pa) 64 pc,nV k] ?_
  refine m1 2047 10 (.int .i64 ((4 * k : Nat) : Int)) (.int .i64 (IntKind.i64.wrap (4 * ((k : Nat) : Int)))) (congrArg (Value.int .i64) (w64' (by omega) (by omega) (by omega))) ?_
  refine m1 4095 11 (.int .i64 (((4 * k) + 1 : Nat) : Int)) (.int .i64 (IntKind.i64.wrap (((4 * k : Nat) : Int) + 1))) (congrArg (Value.int .i64) (w64' (by omega) (by omega) (by omega))) ?_
  refine mF 8191 12 (.pointer (some (Addr.add pa ((4 * k) + 1)))) (Calm.indexA (a := pa) (len := 64) (sz := 1) (k := (((4 * k) + 1 : Nat) : Int)) ((4 * k) + 1) ((4 * k) + 1) (by kernel_rfl) rfl (by omega) (by omega)) ?_
  refine mL 16383 8224 13 (bv (p.getD ((4 * k) + 1) 0)) (Calm.load (T := 5) (p := (Addr.add pa ((4 * k) + 1))) (by kernel_rfl) (Loads.one (k := 1) (by kernel_rfl) (e0.cell (hp ((4 * k) + 1) (by omega))))) ?_
  refine m1 32767 14 (wv (w8 (p.getD ((4 * k) + 1) 0))) (.int .u32 (IntKind.u32.wrap ((p.getD ((4 * k) + 1) 0).toNat : Int))) (conv8 (p.getD ((4 * k) + 1) 0)) ?_
  refine m1 65535 15 (wv ((w8 (p.getD ((4 * k) + 1) 0)) <<< 16)) (.int .u32 (IntKind.u32.wrap (((w8 (p.getD ((4 * k) + 1) 0)).toNat : Int) * 2 ^ 16))) (shl32 (w8 (p.getD ((4 * k) + 1) 0)) 16) ?_
  refine m1 131071 16 (wv (((w8 (p.getD (4 * k) 0)) <<< 24) ||| ((w8 (p.getD ((4 * k) + 1) 0)) <<< 16))) (.int .u32 (IntKind.u32.wrap ((BitVec.ofInt 32 (((w8 (p.getD (4 * k) 0)) <<< 24).toNat : Int) ||| BitVec.ofInt 32 (((w8 (p.getD ((4 * k) + 1) 0)) <<< 16).toNat : Int)).toNat : Int))) (or32 ((w8 (p.getD (4 * k) 0)) <<< 24) ((w8 (p.getD ((4 * k) + 1) 0)) <<< 16)) ?_
  refine mP 524287 [17,18] [.slice (some pa) 64 pc,nV k] ?_
  refine m1 1048575 19 (.int .i64 ((4 * k : Nat) : Int)) (.int .i64 (IntKind.i64.wrap (4 * ((k : Nat) : Int)))) (congrArg (Value.int .i64) (w64' (by omega) (by omega) (by omega))) ?_
  refine m1 2097151 20 (.int .i64 (((4 * k) + 2 : Nat) : Int)) (.int .i64 (IntKind.i64.wrap (((4 * k : Nat) : Int) + 2))) (congrArg (Value.int .i64) (w64' (by omega) (by omega) (by omega))) ?_
  refine mF 4194303 21 (.pointer (some (Addr.add pa ((4 * k) + 2)))) (Calm.indexA (a := pa) (len := 64) (sz := 1) (k := (((4 * k) + 2 : Nat) : Int)) ((4 * k) + 2) ((4 * k) + 2) (by kernel_rfl) rfl (by omega) (by omega)) ?_
  refine mL 8388607 4202528 22 (bv (p.getD ((4 * k) + 2) 0)) (Calm.load (T := 5) (p := (Addr.add pa ((4 * k) + 2))) (by kernel_rfl) (Loads.one (k := 1) (by kernel_rfl) (e0.cell (hp ((4 * k) + 2) (by omega))))) ?_
  refine m1 16777215 23 (wv (w8 (p.getD ((4 * k) + 2) 0))) (.int .u32 (IntKind.u32.wrap ((p.getD ((4 * k) + 2) 0).toNat : Int))) (conv8 (p.getD ((4 * k) + 2) 0)) ?_
  refine m1 33554431 24 (wv ((w8 (p.getD ((4 * k) + 2) 0)) <<< 8)) (.int .u32 (IntKind.u32.wrap (((w8 (p.getD ((4 * k) + 2) 0)).toNat : Int) * 2 ^ 8))) (shl32 (w8 (p.getD ((4 * k) + 2) 0)) 8) ?_
  refine m1 67108863 25 (wv ((((w8 (p.getD (4 * k) 0)) <<< 24) ||| ((w8 (p.getD ((4 * k) + 1) 0)) <<< 16)) ||| ((w8 (p.getD ((4 * k) + 2) 0)) <<< 8))) (.int .u32 (IntKind.u32.wrap ((BitVec.ofInt 32 ((((w8 (p.getD (4 * k) 0)) <<< 24) ||| ((w8 (p.getD ((4 * k) + 1) 0)) <<< 16)).toNat : Int) ||| BitVec.ofInt 32 (((w8 (p.getD ((4 * k) + 2) 0)) <<< 8).toNat : Int)).toNat : Int))) (or32 (((w8 (p.getD (4 * k) 0)) <<< 24) ||| ((w8 (p.getD ((4 * k) + 1) 0)) <<< 16)) ((w8 (p.getD ((4 * k) + 2) 0)) <<< 8)) ?_
  refine mP 268435455 [26,27] [.slice (some pa) 64 pc,nV k] ?_
  refine m1 536870911 28 (.int .i64 ((4 * k : Nat) : Int)) (.int .i64 (IntKind.i64.wrap (4 * ((k : Nat) : Int)))) (congrArg (Value.int .i64) (w64' (by omega) (by omega) (by omega))) ?_
  refine m1 1073741823 29 (.int .i64 (((4 * k) + 3 : Nat) : Int)) (.int .i64 (IntKind.i64.wrap (((4 * k : Nat) : Int) + 3))) (congrArg (Value.int .i64) (w64' (by omega) (by omega) (by omega))) ?_
  refine mF 2147483647 30 (.pointer (some (Addr.add pa ((4 * k) + 3)))) (Calm.indexA (a := pa) (len := 64) (sz := 1) (k := (((4 * k) + 3 : Nat) : Int)) ((4 * k) + 3) ((4 * k) + 3) (by kernel_rfl) rfl (by omega) (by omega)) ?_
  refine mL 4294967295 2151686176 31 (bv (p.getD ((4 * k) + 3) 0)) (Calm.load (T := 5) (p := (Addr.add pa ((4 * k) + 3))) (by kernel_rfl) (Loads.one (k := 1) (by kernel_rfl) (e0.cell (hp ((4 * k) + 3) (by omega))))) ?_
  refine m1 8589934591 32 (wv (w8 (p.getD ((4 * k) + 3) 0))) (.int .u32 (IntKind.u32.wrap ((p.getD ((4 * k) + 3) 0).toNat : Int))) (conv8 (p.getD ((4 * k) + 3) 0)) ?_
  refine m1 17179869183 33 (wv (((((w8 (p.getD (4 * k) 0)) <<< 24) ||| ((w8 (p.getD ((4 * k) + 1) 0)) <<< 16)) ||| ((w8 (p.getD ((4 * k) + 2) 0)) <<< 8)) ||| (w8 (p.getD ((4 * k) + 3) 0)))) (.int .u32 (IntKind.u32.wrap ((BitVec.ofInt 32 (((((w8 (p.getD (4 * k) 0)) <<< 24) ||| ((w8 (p.getD ((4 * k) + 1) 0)) <<< 16)) ||| ((w8 (p.getD ((4 * k) + 2) 0)) <<< 8)).toNat : Int) ||| BitVec.ofInt 32 ((w8 (p.getD ((4 * k) + 3) 0)).toNat : Int)).toNat : Int))) (or32 ((((w8 (p.getD (4 * k) 0)) <<< 24) ||| ((w8 (p.getD ((4 * k) + 1) 0)) <<< 16)) ||| ((w8 (p.getD ((4 * k) + 2) 0)) <<< 8)) (w8 (p.getD ((4 * k) + 3) 0))) ?_
  refine mF 34359738367 34 (.pointer (some ⟨h6.size,k,none⟩)) (Calm.indexB (b := h6.size) (off := 0) (len := 64) (sz := 1) (k := ((k : Nat) : Int)) k k (by kernel_rfl) rfl (by omega) (by omega)) ?_
  refine SimK.eff0 (i := 35) (D' := 68719476735) (X' := 68719476735) (by kernel_rfl) (by kernel_rfl) (by kernel_rfl) (by kernel_rfl) (Does.store (b := h6.size) (off := k) (vs := [wv (((((w8 (p.getD (4 * k) 0)) <<< 24) ||| ((w8 (p.getD ((4 * k) + 1) 0)) <<< 16)) ||| ((w8 (p.getD ((4 * k) + 2) 0)) <<< 8)) ||| (w8 (p.getD ((4 * k) + 3) 0)))]) (l := wl (first p k)) (by kernel_rfl) m13 (wl_fit (first_length p k) (by omega)) (ones_wv _)) ?_
  rintro _ h18 ⟨rfl,hh⟩
  have g19 : Grew (some (h6.size)) h16 h18 := hput_gr hh
  replace m13 : h18[h6.size]? = some (.cells (wl (first p k ++ [(((((w8 (p.getD (4 * k) 0)) <<< 24) ||| ((w8 (p.getD ((4 * k) + 1) 0)) <<< 16)) ||| ((w8 (p.getD ((4 * k) + 2) 0)) <<< 8)) ||| (w8 (p.getD ((4 * k) + 3) 0)))])).toArray 79) := hput_at (off := k) (vs := [wv (((((w8 (p.getD (4 * k) 0)) <<< 24) ||| ((w8 (p.getD ((4 * k) + 1) 0)) <<< 16)) ||| ((w8 (p.getD ((4 * k) + 2) 0)) <<< 8)) ||| (w8 (p.getD ((4 * k) + 3) 0)))]) (l := (wl (first p k))) hh (wl_put' (first_length p k) (by omega)) m13
  clear hh
  replace e0 := e0.grew g19 (by rintro _ ⟨⟩; omega)
  replace m3 := Grew.blk g19 m3 (by simp; omega)
  replace m8 := Grew.blk g19 m8 (by simp; omega)
  refine mD [(1,.slice (some pa) 64 pc),(2,pV h.size),(4,pV h1.size),(5,pV h6.size),(27,nV k)] ?_
  clear hF a; intro a hF
  show C Tryd.prog (sub b47 [1,1,0,1,0,0,1,1,1]) _ a h18
  refine cP 6 hF ?_
  refine s1 1 (.int .i64 ((k + 1 : Nat) : Int)) (.int .i64 (IntKind.i64.wrap (((k : Nat) : Int) + 1))) (congrArg (Value.int .i64) (w64' (by omega) (by omega) (by omega))) ?_
  refine sP 2 [nV (k + 1)] ?_
  refine sD [(1,.slice (some pa) 64 pc),(2,pV h.size),(4,pV h1.size),(5,pV h6.size),(27,nV (k + 1))] ?_
  clear hF a; intro a hF
  show ∃ m',m' < _ ∧ _
  refine ⟨_,?_,k + 1,rfl,e0,m3,m8,(by omega),m13,hF⟩
  omega
 ·skip
  replace hc17 := of_decide_eq_false hc17
  refine cX 0 ?_
  show C Tryd.prog (sub b47 [1,1,1]) _ a h16
  refine cS ?_
  refine cS ?_
  refine cP 7 hF ?_
  refine sP 1 [.int .i64 16] ?_
  refine sD [(2,pV h.size),(4,pV h1.size),(5,pV h6.size),(7,.int .i64 16)] ?_
  clear hF a; intro a hF
  refine tK ?_
  refine cB 2 ?_
  refine C.loop (fun m a h' => ∃ k : Nat,m = 48 - k ∧ (Ext h h') ∧ (h'[h.size]? = some (.cells #[wv s.a,wv s.b,wv s.c,wv s.d,wv s.e,wv s.f,wv s.g,wv s.h] 69)) ∧ (h'[h1.size]? = some (.cells #[.int .u32 0,.int .u32 0,.int .u32 0,.int .u32 0,.int .u32 0,.int .u32 0,.int .u32 0,.int .u32 0] 69)) ∧ (k ≤ 48) ∧ (h'[h6.size]? = some (.cells (wl (sched p k)).toArray 79)) ∧ (Fr a 211 [(2,.pointer (some ⟨h.size,0,none⟩)),(4,.pointer (some ⟨h1.size,0,none⟩)),(5,.pointer (some ⟨h6.size,0,none⟩)),(7,.int .i64 ((16 + k : Nat) : Int))])) (48 - 0) [1,1,1,0,1,0,0] (by kernel_rfl) ⟨0,rfl,e0,m3,m8,(by omega),(by have e : k = 16 := (by omega); subst e; exact m13),hF⟩ ?_
  clear hF a
  clear e0
  clear m3
  clear m8
  rintro m a h20 ⟨k,rfl,e0,m3,m8,hk,m13,hF⟩
  refine cS ?_
  refine cS ?_
  refine cP 8 hF ?_
  refine sP 2 [nV (16 + k),.bool (decide (((16 + k : Nat) : Int) < (64 : Int)))] ?_
  refine sD [(2,pV h.size),(4,pV h1.size),(5,pV h6.size),(7,nV (16 + k)),(67,.bool (decide (((16 + k : Nat) : Int) < (64 : Int))))] ?_
  clear hF a; intro a hF
  refine tK ?_
  refine cC 67 (decide (((16 + k : Nat) : Int) < (64 : Int))) hF (fun hc21 => ?_) (fun hc21 => ?_)
  ·skip
   replace hc21 := of_decide_eq_true hc21
   refine cN ?_
   refine tK ?_
   refine cS ?_
   refine cB 3 ?_
   refine cS ?_
   refine cD [0,1,3,7,0,16,48,112,15,511] 10 mixed hF ?_
   refine mP 1 [0] [nV (16 + k)] ?_
   refine m1 3 1 (.int .i64 (((16 + k) - 15 : Nat) : Int)) (.int .i64 (IntKind.i64.wrap (((16 + k : Nat) : Int) - 15))) (congrArg (Value.int .i64) (w64' (by omega) (by omega) (by omega))) ?_
   refine mF 7 2 (.pointer (some ⟨h6.size,(16 + k) - 15,none⟩)) (Calm.indexB (b := h6.size) (off := 0) (len := 64) (sz := 1) (k := (((16 + k) - 15 : Nat) : Int)) ((16 + k) - 15) ((16 + k) - 15) (by kernel_rfl) rfl (by omega) (by omega)) ?_
   refine mL 15 8 3 (wv ((sched p k).getD ((16 + k) - 15) 0)) (Calm.load (T := 61) (p := ⟨h6.size,(16 + k) - 15,none⟩) (by kernel_rfl) (Loads.one (k := 1) (by kernel_rfl) ((hcell_blk m13).trans (wl_get' (sched_length p k) (by omega))))) ?_
   refine mP 31 [4] [nV (16 + k)] ?_
   refine m1 63 5 (.int .i64 (((16 + k) - 2 : Nat) : Int)) (.int .i64 (IntKind.i64.wrap (((16 + k : Nat) : Int) - 2))) (congrArg (Value.int .i64) (w64' (by omega) (by omega) (by omega))) ?_
   refine mF 127 6 (.pointer (some ⟨h6.size,(16 + k) - 2,none⟩)) (Calm.indexB (b := h6.size) (off := 0) (len := 64) (sz := 1) (k := (((16 + k) - 2 : Nat) : Int)) ((16 + k) - 2) ((16 + k) - 2) (by kernel_rfl) rfl (by omega) (by omega)) ?_
   refine mL 255 136 7 (wv ((sched p k).getD ((16 + k) - 2) 0)) (Calm.load (T := 61) (p := ⟨h6.size,(16 + k) - 2,none⟩) (by kernel_rfl) (Loads.one (k := 1) (by kernel_rfl) ((hcell_blk m13).trans (wl_get' (sched_length p k) (by omega))))) ?_
   refine mP 1023 [8,9] [wv ((sched p k).getD ((16 + k) - 15) 0),wv ((sched p k).getD ((16 + k) - 2) 0)] ?_
   refine mD [(2,pV h.size),(4,pV h1.size),(5,pV h6.size),(7,nV (16 + k)),(8,wv ((sched p k).getD ((16 + k) - 15) 0)),(9,wv ((sched p k).getD ((16 + k) - 2) 0))] ?_
   clear hF a; intro a hF
   refine tK ?_
   refine cS ?_
   refine cP 11 hF ?_
   refine sP 1 [wv ((sched p k).getD ((16 + k) - 15) 0)] ?_
   refine sC 2 (wv (rr ((sched p k).getD ((16 + k) - 15) 0) 7)) (Does.call (f := 55) (args := #[wv ((sched p k).getD ((16 + k) - 15) 0),.int .i64 (-7)]) (by kernel_rfl) (rotl_7 _ ((sched p k).getD ((16 + k) - 15) 0))) ?_
   refine sP 3 [wv ((sched p k).getD ((16 + k) - 15) 0)] ?_
   refine sC 4 (wv (rr ((sched p k).getD ((16 + k) - 15) 0) 18)) (Does.call (f := 55) (args := #[wv ((sched p k).getD ((16 + k) - 15) 0),.int .i64 (-18)]) (by kernel_rfl) (rotl_18 _ ((sched p k).getD ((16 + k) - 15) 0))) ?_
   refine s1 5 (wv ((rr ((sched p k).getD ((16 + k) - 15) 0) 7) ^^^ (rr ((sched p k).getD ((16 + k) - 15) 0) 18))) (.int .u32 (IntKind.u32.wrap ((BitVec.ofInt 32 ((rr ((sched p k).getD ((16 + k) - 15) 0) 7).toNat : Int) ^^^ BitVec.ofInt 32 ((rr ((sched p k).getD ((16 + k) - 15) 0) 18).toNat : Int)).toNat : Int))) (xor32 (rr ((sched p k).getD ((16 + k) - 15) 0) 7) (rr ((sched p k).getD ((16 + k) - 15) 0) 18)) ?_
   refine sP 6 [wv ((sched p k).getD ((16 + k) - 15) 0)] ?_
   refine s1 7 (wv (((sched p k).getD ((16 + k) - 15) 0) >>> 3)) (.int .u32 (Int.fdiv (((sched p k).getD ((16 + k) - 15) 0).toNat : Int) (2 ^ 3))) (shr32 ((sched p k).getD ((16 + k) - 15) 0) 3) ?_
   refine s1 8 (wv (((rr ((sched p k).getD ((16 + k) - 15) 0) 7) ^^^ (rr ((sched p k).getD ((16 + k) - 15) 0) 18)) ^^^ (((sched p k).getD ((16 + k) - 15) 0) >>> 3))) (.int .u32 (IntKind.u32.wrap ((BitVec.ofInt 32 (((rr ((sched p k).getD ((16 + k) - 15) 0) 7) ^^^ (rr ((sched p k).getD ((16 + k) - 15) 0) 18)).toNat : Int) ^^^ BitVec.ofInt 32 ((((sched p k).getD ((16 + k) - 15) 0) >>> 3).toNat : Int)).toNat : Int))) (xor32 ((rr ((sched p k).getD ((16 + k) - 15) 0) 7) ^^^ (rr ((sched p k).getD ((16 + k) - 15) 0) 18)) (((sched p k).getD ((16 + k) - 15) 0) >>> 3)) ?_
   refine sP 9 [wv (((rr ((sched p k).getD ((16 + k) - 15) 0) 7) ^^^ (rr ((sched p k).getD ((16 + k) - 15) 0) 18)) ^^^ (((sched p k).getD ((16 + k) - 15) 0) >>> 3))] ?_
   refine sD [(2,pV h.size),(4,pV h1.size),(5,pV h6.size),(7,nV (16 + k)),(9,wv ((sched p k).getD ((16 + k) - 2) 0)),(10,wv (((rr ((sched p k).getD ((16 + k) - 15) 0) 7) ^^^ (rr ((sched p k).getD ((16 + k) - 15) 0) 18)) ^^^ (((sched p k).getD ((16 + k) - 15) 0) >>> 3)))] ?_
   clear hF a; intro a hF
   refine tK ?_
   refine cS ?_
   refine cP 12 hF ?_
   refine sP 1 [wv ((sched p k).getD ((16 + k) - 2) 0)] ?_
   refine sC 2 (wv (rr ((sched p k).getD ((16 + k) - 2) 0) 17)) (Does.call (f := 55) (args := #[wv ((sched p k).getD ((16 + k) - 2) 0),.int .i64 (-17)]) (by kernel_rfl) (rotl_17 _ ((sched p k).getD ((16 + k) - 2) 0))) ?_
   refine sP 3 [wv ((sched p k).getD ((16 + k) - 2) 0)] ?_
   refine sC 4 (wv (rr ((sched p k).getD ((16 + k) - 2) 0) 19)) (Does.call (f := 55) (args := #[wv ((sched p k).getD ((16 + k) - 2) 0),.int .i64 (-19)]) (by kernel_rfl) (rotl_19 _ ((sched p k).getD ((16 + k) - 2) 0))) ?_
   refine s1 5 (wv ((rr ((sched p k).getD ((16 + k) - 2) 0) 17) ^^^ (rr ((sched p k).getD ((16 + k) - 2) 0) 19))) (.int .u32 (IntKind.u32.wrap ((BitVec.ofInt 32 ((rr ((sched p k).getD ((16 + k) - 2) 0) 17).toNat : Int) ^^^ BitVec.ofInt 32 ((rr ((sched p k).getD ((16 + k) - 2) 0) 19).toNat : Int)).toNat : Int))) (xor32 (rr ((sched p k).getD ((16 + k) - 2) 0) 17) (rr ((sched p k).getD ((16 + k) - 2) 0) 19)) ?_
   refine sP 6 [wv ((sched p k).getD ((16 + k) - 2) 0)] ?_
   refine s1 7 (wv (((sched p k).getD ((16 + k) - 2) 0) >>> 10)) (.int .u32 (Int.fdiv (((sched p k).getD ((16 + k) - 2) 0).toNat : Int) (2 ^ 10))) (shr32 ((sched p k).getD ((16 + k) - 2) 0) 10) ?_
   refine s1 8 (wv (((rr ((sched p k).getD ((16 + k) - 2) 0) 17) ^^^ (rr ((sched p k).getD ((16 + k) - 2) 0) 19)) ^^^ (((sched p k).getD ((16 + k) - 2) 0) >>> 10))) (.int .u32 (IntKind.u32.wrap ((BitVec.ofInt 32 (((rr ((sched p k).getD ((16 + k) - 2) 0) 17) ^^^ (rr ((sched p k).getD ((16 + k) - 2) 0) 19)).toNat : Int) ^^^ BitVec.ofInt 32 ((((sched p k).getD ((16 + k) - 2) 0) >>> 10).toNat : Int)).toNat : Int))) (xor32 ((rr ((sched p k).getD ((16 + k) - 2) 0) 17) ^^^ (rr ((sched p k).getD ((16 + k) - 2) 0) 19)) (((sched p k).getD ((16 + k) - 2) 0) >>> 10)) ?_
   refine sP 9 [wv (((rr ((sched p k).getD ((16 + k) - 2) 0) 17) ^^^ (rr ((sched p k).getD ((16 + k) - 2) 0) 19)) ^^^ (((sched p k).getD ((16 + k) - 2) 0) >>> 10))] ?_
   refine sD [(2,pV h.size),(4,pV h1.size),(5,pV h6.size),(7,nV (16 + k)),(10,wv (((rr ((sched p k).getD ((16 + k) - 15) 0) 7) ^^^ (rr ((sched p k).getD ((16 + k) - 15) 0) 18)) ^^^ (((sched p k).getD ((16 + k) - 15) 0) >>> 3))),(11,wv (((rr ((sched p k).getD ((16 + k) - 2) 0) 17) ^^^ (rr ((sched p k).getD ((16 + k) - 2) 0) 19)) ^^^ (((sched p k).getD ((16 + k) - 2) 0) >>> 10)))] ?_
   clear hF a; intro a hF
   refine tK ?_
   refine cD [0,0,2,6,14,0,62,0,128,384,896,2046,0,8190,16383,32767] 13 mixed hF ?_
   refine mP 3 [0,1] [nV (16 + k),nV (16 + k)] ?_
   refine m1 7 2 (.int .i64 (((16 + k) - 16 : Nat) : Int)) (.int .i64 (IntKind.i64.wrap (((16 + k : Nat) : Int) - 16))) (congrArg (Value.int .i64) (w64' (by omega) (by omega) (by omega))) ?_
   refine mF 15 3 (.pointer (some ⟨h6.size,(16 + k) - 16,none⟩)) (Calm.indexB (b := h6.size) (off := 0) (len := 64) (sz := 1) (k := (((16 + k) - 16 : Nat) : Int)) ((16 + k) - 16) ((16 + k) - 16) (by kernel_rfl) rfl (by omega) (by omega)) ?_
   refine mL 31 16 4 (wv ((sched p k).getD ((16 + k) - 16) 0)) (Calm.load (T := 61) (p := ⟨h6.size,(16 + k) - 16,none⟩) (by kernel_rfl) (Loads.one (k := 1) (by kernel_rfl) ((hcell_blk m13).trans (wl_get' (sched_length p k) (by omega))))) ?_
   refine mP 63 [5] [wv (((rr ((sched p k).getD ((16 + k) - 15) 0) 7) ^^^ (rr ((sched p k).getD ((16 + k) - 15) 0) 18)) ^^^ (((sched p k).getD ((16 + k) - 15) 0) >>> 3))] ?_
   refine m1 127 6 (wv (((sched p k).getD ((16 + k) - 16) 0) + (((rr ((sched p k).getD ((16 + k) - 15) 0) 7) ^^^ (rr ((sched p k).getD ((16 + k) - 15) 0) 18)) ^^^ (((sched p k).getD ((16 + k) - 15) 0) >>> 3)))) (.int .u32 (IntKind.u32.wrap ((((sched p k).getD ((16 + k) - 16) 0).toNat : Int) + ((((rr ((sched p k).getD ((16 + k) - 15) 0) 7) ^^^ (rr ((sched p k).getD ((16 + k) - 15) 0) 18)) ^^^ (((sched p k).getD ((16 + k) - 15) 0) >>> 3)).toNat : Int)))) (add32 ((sched p k).getD ((16 + k) - 16) 0) (((rr ((sched p k).getD ((16 + k) - 15) 0) 7) ^^^ (rr ((sched p k).getD ((16 + k) - 15) 0) 18)) ^^^ (((sched p k).getD ((16 + k) - 15) 0) >>> 3))) ?_
   refine mP 255 [7] [nV (16 + k)] ?_
   refine m1 511 8 (.int .i64 (((16 + k) - 7 : Nat) : Int)) (.int .i64 (IntKind.i64.wrap (((16 + k : Nat) : Int) - 7))) (congrArg (Value.int .i64) (w64' (by omega) (by omega) (by omega))) ?_
   refine mF 1023 9 (.pointer (some ⟨h6.size,(16 + k) - 7,none⟩)) (Calm.indexB (b := h6.size) (off := 0) (len := 64) (sz := 1) (k := (((16 + k) - 7 : Nat) : Int)) ((16 + k) - 7) ((16 + k) - 7) (by kernel_rfl) rfl (by omega) (by omega)) ?_
   refine mL 2047 1040 10 (wv ((sched p k).getD ((16 + k) - 7) 0)) (Calm.load (T := 61) (p := ⟨h6.size,(16 + k) - 7,none⟩) (by kernel_rfl) (Loads.one (k := 1) (by kernel_rfl) ((hcell_blk m13).trans (wl_get' (sched_length p k) (by omega))))) ?_
   refine m1 4095 11 (wv ((((sched p k).getD ((16 + k) - 16) 0) + (((rr ((sched p k).getD ((16 + k) - 15) 0) 7) ^^^ (rr ((sched p k).getD ((16 + k) - 15) 0) 18)) ^^^ (((sched p k).getD ((16 + k) - 15) 0) >>> 3))) + ((sched p k).getD ((16 + k) - 7) 0))) (.int .u32 (IntKind.u32.wrap (((((sched p k).getD ((16 + k) - 16) 0) + (((rr ((sched p k).getD ((16 + k) - 15) 0) 7) ^^^ (rr ((sched p k).getD ((16 + k) - 15) 0) 18)) ^^^ (((sched p k).getD ((16 + k) - 15) 0) >>> 3))).toNat : Int) + (((sched p k).getD ((16 + k) - 7) 0).toNat : Int)))) (add32 (((sched p k).getD ((16 + k) - 16) 0) + (((rr ((sched p k).getD ((16 + k) - 15) 0) 7) ^^^ (rr ((sched p k).getD ((16 + k) - 15) 0) 18)) ^^^ (((sched p k).getD ((16 + k) - 15) 0) >>> 3))) ((sched p k).getD ((16 + k) - 7) 0)) ?_
   refine mP 8191 [12] [wv (((rr ((sched p k).getD ((16 + k) - 2) 0) 17) ^^^ (rr ((sched p k).getD ((16 + k) - 2) 0) 19)) ^^^ (((sched p k).getD ((16 + k) - 2) 0) >>> 10))] ?_
   refine m1 16383 13 (wv (((((sched p k).getD ((16 + k) - 16) 0) + (((rr ((sched p k).getD ((16 + k) - 15) 0) 7) ^^^ (rr ((sched p k).getD ((16 + k) - 15) 0) 18)) ^^^ (((sched p k).getD ((16 + k) - 15) 0) >>> 3))) + ((sched p k).getD ((16 + k) - 7) 0)) + (((rr ((sched p k).getD ((16 + k) - 2) 0) 17) ^^^ (rr ((sched p k).getD ((16 + k) - 2) 0) 19)) ^^^ (((sched p k).getD ((16 + k) - 2) 0) >>> 10)))) (.int .u32 (IntKind.u32.wrap ((((((sched p k).getD ((16 + k) - 16) 0) + (((rr ((sched p k).getD ((16 + k) - 15) 0) 7) ^^^ (rr ((sched p k).getD ((16 + k) - 15) 0) 18)) ^^^ (((sched p k).getD ((16 + k) - 15) 0) >>> 3))) + ((sched p k).getD ((16 + k) - 7) 0)).toNat : Int) + ((((rr ((sched p k).getD ((16 + k) - 2) 0) 17) ^^^ (rr ((sched p k).getD ((16 + k) - 2) 0) 19)) ^^^ (((sched p k).getD ((16 + k) - 2) 0) >>> 10)).toNat : Int)))) (add32 ((((sched p k).getD ((16 + k) - 16) 0) + (((rr ((sched p k).getD ((16 + k) - 15) 0) 7) ^^^ (rr ((sched p k).getD ((16 + k) - 15) 0) 18)) ^^^ (((sched p k).getD ((16 + k) - 15) 0) >>> 3))) + ((sched p k).getD ((16 + k) - 7) 0)) (((rr ((sched p k).getD ((16 + k) - 2) 0) 17) ^^^ (rr ((sched p k).getD ((16 + k) - 2) 0) 19)) ^^^ (((sched p k).getD ((16 + k) - 2) 0) >>> 10))) ?_
   refine mF 32767 14 (.pointer (some ⟨h6.size,16 + k,none⟩)) (Calm.indexB (b := h6.size) (off := 0) (len := 64) (sz := 1) (k := ((16 + k : Nat) : Int)) (16 + k) (16 + k) (by kernel_rfl) rfl (by omega) (by omega)) ?_
   refine SimK.eff0 (i := 15) (D' := 65535) (X' := 65535) (by kernel_rfl) (by kernel_rfl) (by kernel_rfl) (by kernel_rfl) (Does.store (b := h6.size) (off := 16 + k) (vs := [wv (((((sched p k).getD ((16 + k) - 16) 0) + (((rr ((sched p k).getD ((16 + k) - 15) 0) 7) ^^^ (rr ((sched p k).getD ((16 + k) - 15) 0) 18)) ^^^ (((sched p k).getD ((16 + k) - 15) 0) >>> 3))) + ((sched p k).getD ((16 + k) - 7) 0)) + (((rr ((sched p k).getD ((16 + k) - 2) 0) 17) ^^^ (rr ((sched p k).getD ((16 + k) - 2) 0) 19)) ^^^ (((sched p k).getD ((16 + k) - 2) 0) >>> 10)))]) (l := wl (sched p k)) (by kernel_rfl) m13 (wl_fit (sched_length p k) (by omega)) (ones_wv _)) ?_
   rintro _ h22 ⟨rfl,hh⟩
   have g23 : Grew (some (h6.size)) h20 h22 := hput_gr hh
   replace m13 : h22[h6.size]? = some (.cells (wl (sched p k ++ [(((((sched p k).getD ((16 + k) - 16) 0) + (((rr ((sched p k).getD ((16 + k) - 15) 0) 7) ^^^ (rr ((sched p k).getD ((16 + k) - 15) 0) 18)) ^^^ (((sched p k).getD ((16 + k) - 15) 0) >>> 3))) + ((sched p k).getD ((16 + k) - 7) 0)) + (((rr ((sched p k).getD ((16 + k) - 2) 0) 17) ^^^ (rr ((sched p k).getD ((16 + k) - 2) 0) 19)) ^^^ (((sched p k).getD ((16 + k) - 2) 0) >>> 10)))])).toArray 79) := hput_at (off := (16 + k)) (vs := [wv (((((sched p k).getD ((16 + k) - 16) 0) + (((rr ((sched p k).getD ((16 + k) - 15) 0) 7) ^^^ (rr ((sched p k).getD ((16 + k) - 15) 0) 18)) ^^^ (((sched p k).getD ((16 + k) - 15) 0) >>> 3))) + ((sched p k).getD ((16 + k) - 7) 0)) + (((rr ((sched p k).getD ((16 + k) - 2) 0) 17) ^^^ (rr ((sched p k).getD ((16 + k) - 2) 0) 19)) ^^^ (((sched p k).getD ((16 + k) - 2) 0) >>> 10)))]) (l := (wl (sched p k))) hh (wl_put' (sched_length p k) (by omega)) m13
   clear hh
   replace e0 := e0.grew g23 (by rintro _ ⟨⟩; omega)
   replace m3 := Grew.blk g23 m3 (by simp; omega)
   replace m8 := Grew.blk g23 m8 (by simp; omega)
   refine mD [(2,pV h.size),(4,pV h1.size),(5,pV h6.size),(7,nV (16 + k))] ?_
   clear hF a; intro a hF
   show C Tryd.prog (sub b47 [1,1,1,0,1,0,0,1,1]) _ a h22
   refine cP 9 hF ?_
   refine sP 1 [nV (16 + k)] ?_
   refine s1 2 (.int .i64 (((16 + k) + 1 : Nat) : Int)) (.int .i64 (IntKind.i64.wrap (((16 + k : Nat) : Int) + 1))) (congrArg (Value.int .i64) (w64' (by omega) (by omega) (by omega))) ?_
   refine sP 3 [nV ((16 + k) + 1)] ?_
   refine sD [(2,pV h.size),(4,pV h1.size),(5,pV h6.size),(7,nV ((16 + k) + 1))] ?_
   clear hF a; intro a hF
   show ∃ m',m' < _ ∧ _
   refine ⟨_,?_,k + 1,rfl,e0,m3,m8,(by omega),(by rw [show sched p (k + 1) = _ from sched_step p k]; exact m13),hF⟩
   omega
  ·skip
   replace hc21 := of_decide_eq_false hc21
   refine cX 2 ?_
   show C Tryd.prog (sub b47 [1,1,1,1]) _ a h20
   refine cS ?_
   refine cD [0,1,0,4,0,16,0,64,0,256,0,1024,0,4096,0,16384,3,65551,196671,459007,984063,2035711,4145151,8388607] 14 mixed hF ?_
   refine mP 1 [0] [pV h.size] ?_
   refine mL 3 2 1 (wv s.a) (Calm.load (T := 61) (p := ⟨h.size,0,none⟩) (by kernel_rfl) (Loads.one (k := 1) (by kernel_rfl) ((hcell_blk m3).trans rfl))) ?_
   refine mP 7 [2] [.pointer (some ⟨h.size,1,none⟩)] ?_
   refine mL 15 10 3 (wv s.b) (Calm.load (T := 61) (p := ⟨h.size,1,none⟩) (by kernel_rfl) (Loads.one (k := 1) (by kernel_rfl) ((hcell_blk m3).trans rfl))) ?_
   refine mP 31 [4] [.pointer (some ⟨h.size,2,none⟩)] ?_
   refine mL 63 42 5 (wv s.c) (Calm.load (T := 61) (p := ⟨h.size,2,none⟩) (by kernel_rfl) (Loads.one (k := 1) (by kernel_rfl) ((hcell_blk m3).trans rfl))) ?_
   refine mP 127 [6] [.pointer (some ⟨h.size,3,none⟩)] ?_
   refine mL 255 170 7 (wv s.d) (Calm.load (T := 61) (p := ⟨h.size,3,none⟩) (by kernel_rfl) (Loads.one (k := 1) (by kernel_rfl) ((hcell_blk m3).trans rfl))) ?_
   refine mP 511 [8] [.pointer (some ⟨h.size,4,none⟩)] ?_
   refine mL 1023 682 9 (wv s.e) (Calm.load (T := 61) (p := ⟨h.size,4,none⟩) (by kernel_rfl) (Loads.one (k := 1) (by kernel_rfl) ((hcell_blk m3).trans rfl))) ?_
   refine mP 2047 [10] [.pointer (some ⟨h.size,5,none⟩)] ?_
   refine mL 4095 2730 11 (wv s.f) (Calm.load (T := 61) (p := ⟨h.size,5,none⟩) (by kernel_rfl) (Loads.one (k := 1) (by kernel_rfl) ((hcell_blk m3).trans rfl))) ?_
   refine mP 8191 [12] [.pointer (some ⟨h.size,6,none⟩)] ?_
   refine mL 16383 10922 13 (wv s.g) (Calm.load (T := 61) (p := ⟨h.size,6,none⟩) (by kernel_rfl) (Loads.one (k := 1) (by kernel_rfl) ((hcell_blk m3).trans rfl))) ?_
   refine mP 32767 [14] [.pointer (some ⟨h.size,7,none⟩)] ?_
   refine mL 65535 43690 15 (wv s.h) (Calm.load (T := 61) (p := ⟨h.size,7,none⟩) (by kernel_rfl) (Loads.one (k := 1) (by kernel_rfl) ((hcell_blk m3).trans rfl))) ?_
   refine mP 16777215 [16,17,18,19,20,21,22,23] [wv s.a,wv s.b,wv s.c,wv s.d,wv s.e,wv s.f,wv s.g,wv s.h] ?_
   refine mD [(2,pV h.size),(4,pV h1.size),(5,pV h6.size),(12,wv s.a),(13,wv s.b),(14,wv s.c),(15,wv s.d),(16,wv s.e),(17,wv s.f),(18,wv s.g),(19,wv s.h)] ?_
   clear hF a; intro a hF
   refine tK ?_
   refine cS ?_
   refine cS ?_
   refine cP 15 hF ?_
   refine sP 1 [.int .i64 0] ?_
   refine sD [(2,pV h.size),(4,pV h1.size),(5,pV h6.size),(12,wv s.a),(13,wv s.b),(14,wv s.c),(15,wv s.d),(16,wv s.e),(17,wv s.f),(18,wv s.g),(19,wv s.h),(125,.int .i64 0)] ?_
   clear hF a; intro a hF
   refine tK ?_
   refine cB 4 ?_
   refine C.loop (fun m a h' => ∃ k : Nat,m = 64 - k ∧ (Ext h h') ∧ (h'[h.size]? = some (.cells #[wv s.a,wv s.b,wv s.c,wv s.d,wv s.e,wv s.f,wv s.g,wv s.h] 69)) ∧ (h'[h1.size]? = some (.cells #[.int .u32 0,.int .u32 0,.int .u32 0,.int .u32 0,.int .u32 0,.int .u32 0,.int .u32 0,.int .u32 0] 69)) ∧ (k ≤ 64) ∧ (h'[h6.size]? = some (.cells (wl (sched p 48)).toArray 79)) ∧ (Fr a 211 [(2,.pointer (some ⟨h.size,0,none⟩)),(4,.pointer (some ⟨h1.size,0,none⟩)),(5,.pointer (some ⟨h6.size,0,none⟩)),(12,wv ((rounds (sched p 48) s k).a)),(13,wv ((rounds (sched p 48) s k).b)),(14,wv ((rounds (sched p 48) s k).c)),(15,wv ((rounds (sched p 48) s k).d)),(16,wv ((rounds (sched p 48) s k).e)),(17,wv ((rounds (sched p 48) s k).f)),(18,wv ((rounds (sched p 48) s k).g)),(19,wv ((rounds (sched p 48) s k).h)),(125,.int .i64 ((k : Nat) : Int))])) (64 - 0) [1,1,1,1,1,0,1,0,0] (by kernel_rfl) ⟨0,rfl,e0,m3,m8,(by omega),(by have e : k = 48 := (by omega); subst e; exact m13),hF⟩ ?_
   clear hF a
   clear e0
   clear m3
   clear m8
   rintro m a h24 ⟨k,rfl,e0,m3,m8,hk,m13,hF⟩
   refine cS ?_
   refine cP 16 hF ?_
   refine sP 1 [.bool (decide (((k : Nat) : Int) < (64 : Int)))] ?_
   refine sD [(2,pV h.size),(4,pV h1.size),(5,pV h6.size),(12,wv ((rounds (sched p 48) s k).a)),(13,wv ((rounds (sched p 48) s k).b)),(14,wv ((rounds (sched p 48) s k).c)),(15,wv ((rounds (sched p 48) s k).d)),(16,wv ((rounds (sched p 48) s k).e)),(17,wv ((rounds (sched p 48) s k).f)),(18,wv ((rounds (sched p 48) s k).g)),(19,wv ((rounds (sched p 48) s k).h)),(125,nV k),(126,.bool (decide (((k : Nat) : Int) < (64 : Int))))] ?_
   clear hF a; intro a hF
   refine tK ?_
   refine cS ?_
   refine cC 126 (decide (((k : Nat) : Int) < (64 : Int))) hF (fun hc25 => ?_) (fun hc25 => ?_)
   ·skip
    replace hc25 := of_decide_eq_true hc25
    refine cN ?_
    refine tK ?_
    refine cS ?_
    refine cB 5 ?_
    refine cS ?_
    refine cP 17 hF ?_
    refine sP 2 [nV k,nV k] ?_
    refine sD [(2,pV h.size),(4,pV h1.size),(5,pV h6.size),(12,wv ((rounds (sched p 48) s k).a)),(13,wv ((rounds (sched p 48) s k).b)),(14,wv ((rounds (sched p 48) s k).c)),(15,wv ((rounds (sched p 48) s k).d)),(16,wv ((rounds (sched p 48) s k).e)),(17,wv ((rounds (sched p 48) s k).f)),(18,wv ((rounds (sched p 48) s k).g)),(19,wv ((rounds (sched p 48) s k).h)),(20,nV k),(125,nV k)] ?_
    clear hF a; intro a hF
    refine tK ?_
    refine cS ?_
    refine cP 18 hF ?_
    refine sP 1 [wv ((rounds (sched p 48) s k).e)] ?_
    refine sC 2 (wv (rr ((rounds (sched p 48) s k).e) 6)) (Does.call (f := 55) (args := #[wv ((rounds (sched p 48) s k).e),.int .i64 (-6)]) (by kernel_rfl) (rotl_6 _ ((rounds (sched p 48) s k).e))) ?_
    refine sP 3 [wv ((rounds (sched p 48) s k).e)] ?_
    refine sC 4 (wv (rr ((rounds (sched p 48) s k).e) 11)) (Does.call (f := 55) (args := #[wv ((rounds (sched p 48) s k).e),.int .i64 (-11)]) (by kernel_rfl) (rotl_11 _ ((rounds (sched p 48) s k).e))) ?_
    refine s1 5 (wv ((rr ((rounds (sched p 48) s k).e) 6) ^^^ (rr ((rounds (sched p 48) s k).e) 11))) (.int .u32 (IntKind.u32.wrap ((BitVec.ofInt 32 ((rr ((rounds (sched p 48) s k).e) 6).toNat : Int) ^^^ BitVec.ofInt 32 ((rr ((rounds (sched p 48) s k).e) 11).toNat : Int)).toNat : Int))) (xor32 (rr ((rounds (sched p 48) s k).e) 6) (rr ((rounds (sched p 48) s k).e) 11)) ?_
    refine sP 6 [wv ((rounds (sched p 48) s k).e)] ?_
    refine sC 7 (wv (rr ((rounds (sched p 48) s k).e) 25)) (Does.call (f := 55) (args := #[wv ((rounds (sched p 48) s k).e),.int .i64 (-25)]) (by kernel_rfl) (rotl_25 _ ((rounds (sched p 48) s k).e))) ?_
    refine s1 8 (wv (((rr ((rounds (sched p 48) s k).e) 6) ^^^ (rr ((rounds (sched p 48) s k).e) 11)) ^^^ (rr ((rounds (sched p 48) s k).e) 25))) (.int .u32 (IntKind.u32.wrap ((BitVec.ofInt 32 (((rr ((rounds (sched p 48) s k).e) 6) ^^^ (rr ((rounds (sched p 48) s k).e) 11)).toNat : Int) ^^^ BitVec.ofInt 32 ((rr ((rounds (sched p 48) s k).e) 25).toNat : Int)).toNat : Int))) (xor32 ((rr ((rounds (sched p 48) s k).e) 6) ^^^ (rr ((rounds (sched p 48) s k).e) 11)) (rr ((rounds (sched p 48) s k).e) 25)) ?_
    refine sP 9 [wv (((rr ((rounds (sched p 48) s k).e) 6) ^^^ (rr ((rounds (sched p 48) s k).e) 11)) ^^^ (rr ((rounds (sched p 48) s k).e) 25))] ?_
    refine sD [(2,pV h.size),(4,pV h1.size),(5,pV h6.size),(12,wv ((rounds (sched p 48) s k).a)),(13,wv ((rounds (sched p 48) s k).b)),(14,wv ((rounds (sched p 48) s k).c)),(15,wv ((rounds (sched p 48) s k).d)),(16,wv ((rounds (sched p 48) s k).e)),(17,wv ((rounds (sched p 48) s k).f)),(18,wv ((rounds (sched p 48) s k).g)),(19,wv ((rounds (sched p 48) s k).h)),(20,nV k),(21,wv (((rr ((rounds (sched p 48) s k).e) 6) ^^^ (rr ((rounds (sched p 48) s k).e) 11)) ^^^ (rr ((rounds (sched p 48) s k).e) 25))),(125,nV k)] ?_
    clear hF a; intro a hF
    refine tK ?_
    refine cS ?_
    refine cD [0,0,3,0,0,24,0,64,0,448,1016,2047,0,4096,12288,32767,0,65536,196608,524287,1048575] 19 mixed hF ?_
    refine mP 3 [0,1] [wv ((rounds (sched p 48) s k).h),wv (((rr ((rounds (sched p 48) s k).e) 6) ^^^ (rr ((rounds (sched p 48) s k).e) 11)) ^^^ (rr ((rounds (sched p 48) s k).e) 25))] ?_
    refine m1 7 2 (wv (((rounds (sched p 48) s k).h) + (((rr ((rounds (sched p 48) s k).e) 6) ^^^ (rr ((rounds (sched p 48) s k).e) 11)) ^^^ (rr ((rounds (sched p 48) s k).e) 25)))) (.int .u32 (IntKind.u32.wrap ((((rounds (sched p 48) s k).h).toNat : Int) + ((((rr ((rounds (sched p 48) s k).e) 6) ^^^ (rr ((rounds (sched p 48) s k).e) 11)) ^^^ (rr ((rounds (sched p 48) s k).e) 25)).toNat : Int)))) (add32 ((rounds (sched p 48) s k).h) (((rr ((rounds (sched p 48) s k).e) 6) ^^^ (rr ((rounds (sched p 48) s k).e) 11)) ^^^ (rr ((rounds (sched p 48) s k).e) 25))) ?_
    refine mP 31 [3,4] [wv ((rounds (sched p 48) s k).e),wv ((rounds (sched p 48) s k).f)] ?_
    refine m1 63 5 (wv (((rounds (sched p 48) s k).e) &&& ((rounds (sched p 48) s k).f))) (.int .u32 (IntKind.u32.wrap ((BitVec.ofInt 32 (((rounds (sched p 48) s k).e).toNat : Int) &&& BitVec.ofInt 32 (((rounds (sched p 48) s k).f).toNat : Int)).toNat : Int))) (and32 ((rounds (sched p 48) s k).e) ((rounds (sched p 48) s k).f)) ?_
    refine mP 127 [6] [wv ((rounds (sched p 48) s k).e)] ?_
    refine m1 255 7 (wv (~~~((rounds (sched p 48) s k).e))) (.int .u32 (IntKind.u32.wrap ((BitVec.ofInt 32 4294967295 ^^^ BitVec.ofInt 32 (((rounds (sched p 48) s k).e).toNat : Int)).toNat : Int))) (not32 ((rounds (sched p 48) s k).e)) ?_
    refine mP 511 [8] [wv ((rounds (sched p 48) s k).g)] ?_
    refine m1 1023 9 (wv ((~~~((rounds (sched p 48) s k).e)) &&& ((rounds (sched p 48) s k).g))) (.int .u32 (IntKind.u32.wrap ((BitVec.ofInt 32 ((~~~((rounds (sched p 48) s k).e)).toNat : Int) &&& BitVec.ofInt 32 (((rounds (sched p 48) s k).g).toNat : Int)).toNat : Int))) (and32 (~~~((rounds (sched p 48) s k).e)) ((rounds (sched p 48) s k).g)) ?_
    refine m1 2047 10 (wv ((((rounds (sched p 48) s k).e) &&& ((rounds (sched p 48) s k).f)) ^^^ ((~~~((rounds (sched p 48) s k).e)) &&& ((rounds (sched p 48) s k).g)))) (.int .u32 (IntKind.u32.wrap ((BitVec.ofInt 32 ((((rounds (sched p 48) s k).e) &&& ((rounds (sched p 48) s k).f)).toNat : Int) ^^^ BitVec.ofInt 32 (((~~~((rounds (sched p 48) s k).e)) &&& ((rounds (sched p 48) s k).g)).toNat : Int)).toNat : Int))) (xor32 (((rounds (sched p 48) s k).e) &&& ((rounds (sched p 48) s k).f)) ((~~~((rounds (sched p 48) s k).e)) &&& ((rounds (sched p 48) s k).g))) ?_
    refine m1 4095 11 (wv ((((rounds (sched p 48) s k).h) + (((rr ((rounds (sched p 48) s k).e) 6) ^^^ (rr ((rounds (sched p 48) s k).e) 11)) ^^^ (rr ((rounds (sched p 48) s k).e) 25))) + ((((rounds (sched p 48) s k).e) &&& ((rounds (sched p 48) s k).f)) ^^^ ((~~~((rounds (sched p 48) s k).e)) &&& ((rounds (sched p 48) s k).g))))) (.int .u32 (IntKind.u32.wrap (((((rounds (sched p 48) s k).h) + (((rr ((rounds (sched p 48) s k).e) 6) ^^^ (rr ((rounds (sched p 48) s k).e) 11)) ^^^ (rr ((rounds (sched p 48) s k).e) 25))).toNat : Int) + (((((rounds (sched p 48) s k).e) &&& ((rounds (sched p 48) s k).f)) ^^^ ((~~~((rounds (sched p 48) s k).e)) &&& ((rounds (sched p 48) s k).g))).toNat : Int)))) (add32 (((rounds (sched p 48) s k).h) + (((rr ((rounds (sched p 48) s k).e) 6) ^^^ (rr ((rounds (sched p 48) s k).e) 11)) ^^^ (rr ((rounds (sched p 48) s k).e) 25))) ((((rounds (sched p 48) s k).e) &&& ((rounds (sched p 48) s k).f)) ^^^ ((~~~((rounds (sched p 48) s k).e)) &&& ((rounds (sched p 48) s k).g)))) ?_
    refine mP 8191 [12] [nV k] ?_
    refine mF 16383 13 (.pointer (some ⟨0,k,none⟩)) (Calm.indexB (b := 0) (off := 0) (len := 64) (sz := 1) (k := ((k : Nat) : Int)) k k (by kernel_rfl) rfl (by omega) (by omega)) ?_
    refine mL 32767 16384 14 (wv (K64.getD k 0)) (Calm.load (T := 61) (p := ⟨0,k,none⟩) (by kernel_rfl) (Loads.one (k := 1) (by kernel_rfl) (e0.cell (hK k (by omega))))) ?_
    refine m1 65535 15 (wv (((((rounds (sched p 48) s k).h) + (((rr ((rounds (sched p 48) s k).e) 6) ^^^ (rr ((rounds (sched p 48) s k).e) 11)) ^^^ (rr ((rounds (sched p 48) s k).e) 25))) + ((((rounds (sched p 48) s k).e) &&& ((rounds (sched p 48) s k).f)) ^^^ ((~~~((rounds (sched p 48) s k).e)) &&& ((rounds (sched p 48) s k).g)))) + (K64.getD k 0))) (.int .u32 (IntKind.u32.wrap ((((((rounds (sched p 48) s k).h) + (((rr ((rounds (sched p 48) s k).e) 6) ^^^ (rr ((rounds (sched p 48) s k).e) 11)) ^^^ (rr ((rounds (sched p 48) s k).e) 25))) + ((((rounds (sched p 48) s k).e) &&& ((rounds (sched p 48) s k).f)) ^^^ ((~~~((rounds (sched p 48) s k).e)) &&& ((rounds (sched p 48) s k).g)))).toNat : Int) + ((K64.getD k 0).toNat : Int)))) (add32 ((((rounds (sched p 48) s k).h) + (((rr ((rounds (sched p 48) s k).e) 6) ^^^ (rr ((rounds (sched p 48) s k).e) 11)) ^^^ (rr ((rounds (sched p 48) s k).e) 25))) + ((((rounds (sched p 48) s k).e) &&& ((rounds (sched p 48) s k).f)) ^^^ ((~~~((rounds (sched p 48) s k).e)) &&& ((rounds (sched p 48) s k).g)))) (K64.getD k 0)) ?_
    refine mP 131071 [16] [nV k] ?_
    refine mF 262143 17 (.pointer (some ⟨h6.size,k,none⟩)) (Calm.indexB (b := h6.size) (off := 0) (len := 64) (sz := 1) (k := ((k : Nat) : Int)) k k (by kernel_rfl) rfl (by omega) (by omega)) ?_
    refine mL 524287 278528 18 (wv ((sched p 48).getD k 0)) (Calm.load (T := 61) (p := ⟨h6.size,k,none⟩) (by kernel_rfl) (Loads.one (k := 1) (by kernel_rfl) ((hcell_blk m13).trans (wl_get' (sched_length p 48) (by omega))))) ?_
    refine m1 1048575 19 (wv ((((((rounds (sched p 48) s k).h) + (((rr ((rounds (sched p 48) s k).e) 6) ^^^ (rr ((rounds (sched p 48) s k).e) 11)) ^^^ (rr ((rounds (sched p 48) s k).e) 25))) + ((((rounds (sched p 48) s k).e) &&& ((rounds (sched p 48) s k).f)) ^^^ ((~~~((rounds (sched p 48) s k).e)) &&& ((rounds (sched p 48) s k).g)))) + (K64.getD k 0)) + ((sched p 48).getD k 0))) (.int .u32 (IntKind.u32.wrap (((((((rounds (sched p 48) s k).h) + (((rr ((rounds (sched p 48) s k).e) 6) ^^^ (rr ((rounds (sched p 48) s k).e) 11)) ^^^ (rr ((rounds (sched p 48) s k).e) 25))) + ((((rounds (sched p 48) s k).e) &&& ((rounds (sched p 48) s k).f)) ^^^ ((~~~((rounds (sched p 48) s k).e)) &&& ((rounds (sched p 48) s k).g)))) + (K64.getD k 0)).toNat : Int) + (((sched p 48).getD k 0).toNat : Int)))) (add32 (((((rounds (sched p 48) s k).h) + (((rr ((rounds (sched p 48) s k).e) 6) ^^^ (rr ((rounds (sched p 48) s k).e) 11)) ^^^ (rr ((rounds (sched p 48) s k).e) 25))) + ((((rounds (sched p 48) s k).e) &&& ((rounds (sched p 48) s k).f)) ^^^ ((~~~((rounds (sched p 48) s k).e)) &&& ((rounds (sched p 48) s k).g)))) + (K64.getD k 0)) ((sched p 48).getD k 0)) ?_
    refine mP 2097151 [20] [wv ((((((rounds (sched p 48) s k).h) + (((rr ((rounds (sched p 48) s k).e) 6) ^^^ (rr ((rounds (sched p 48) s k).e) 11)) ^^^ (rr ((rounds (sched p 48) s k).e) 25))) + ((((rounds (sched p 48) s k).e) &&& ((rounds (sched p 48) s k).f)) ^^^ ((~~~((rounds (sched p 48) s k).e)) &&& ((rounds (sched p 48) s k).g)))) + (K64.getD k 0)) + ((sched p 48).getD k 0))] ?_
    refine mD [(2,pV h.size),(4,pV h1.size),(5,pV h6.size),(12,wv ((rounds (sched p 48) s k).a)),(13,wv ((rounds (sched p 48) s k).b)),(14,wv ((rounds (sched p 48) s k).c)),(15,wv ((rounds (sched p 48) s k).d)),(16,wv ((rounds (sched p 48) s k).e)),(17,wv ((rounds (sched p 48) s k).f)),(18,wv ((rounds (sched p 48) s k).g)),(22,wv ((((((rounds (sched p 48) s k).h) + (((rr ((rounds (sched p 48) s k).e) 6) ^^^ (rr ((rounds (sched p 48) s k).e) 11)) ^^^ (rr ((rounds (sched p 48) s k).e) 25))) + ((((rounds (sched p 48) s k).e) &&& ((rounds (sched p 48) s k).f)) ^^^ ((~~~((rounds (sched p 48) s k).e)) &&& ((rounds (sched p 48) s k).g)))) + (K64.getD k 0)) + ((sched p 48).getD k 0))),(125,nV k)] ?_
    clear hF a; intro a hF
    refine tK ?_
    refine cS ?_
    refine cP 20 hF ?_
    refine sP 1 [wv ((rounds (sched p 48) s k).a)] ?_
    refine sC 2 (wv (rr ((rounds (sched p 48) s k).a) 2)) (Does.call (f := 55) (args := #[wv ((rounds (sched p 48) s k).a),.int .i64 (-2)]) (by kernel_rfl) (rotl_2 _ ((rounds (sched p 48) s k).a))) ?_
    refine sP 3 [wv ((rounds (sched p 48) s k).a)] ?_
    refine sC 4 (wv (rr ((rounds (sched p 48) s k).a) 13)) (Does.call (f := 55) (args := #[wv ((rounds (sched p 48) s k).a),.int .i64 (-13)]) (by kernel_rfl) (rotl_13 _ ((rounds (sched p 48) s k).a))) ?_
    refine s1 5 (wv ((rr ((rounds (sched p 48) s k).a) 2) ^^^ (rr ((rounds (sched p 48) s k).a) 13))) (.int .u32 (IntKind.u32.wrap ((BitVec.ofInt 32 ((rr ((rounds (sched p 48) s k).a) 2).toNat : Int) ^^^ BitVec.ofInt 32 ((rr ((rounds (sched p 48) s k).a) 13).toNat : Int)).toNat : Int))) (xor32 (rr ((rounds (sched p 48) s k).a) 2) (rr ((rounds (sched p 48) s k).a) 13)) ?_
    refine sP 6 [wv ((rounds (sched p 48) s k).a)] ?_
    refine sC 7 (wv (rr ((rounds (sched p 48) s k).a) 22)) (Does.call (f := 55) (args := #[wv ((rounds (sched p 48) s k).a),.int .i64 (-22)]) (by kernel_rfl) (rotl_22 _ ((rounds (sched p 48) s k).a))) ?_
    refine s1 8 (wv (((rr ((rounds (sched p 48) s k).a) 2) ^^^ (rr ((rounds (sched p 48) s k).a) 13)) ^^^ (rr ((rounds (sched p 48) s k).a) 22))) (.int .u32 (IntKind.u32.wrap ((BitVec.ofInt 32 (((rr ((rounds (sched p 48) s k).a) 2) ^^^ (rr ((rounds (sched p 48) s k).a) 13)).toNat : Int) ^^^ BitVec.ofInt 32 ((rr ((rounds (sched p 48) s k).a) 22).toNat : Int)).toNat : Int))) (xor32 ((rr ((rounds (sched p 48) s k).a) 2) ^^^ (rr ((rounds (sched p 48) s k).a) 13)) (rr ((rounds (sched p 48) s k).a) 22)) ?_
    refine sP 9 [wv (((rr ((rounds (sched p 48) s k).a) 2) ^^^ (rr ((rounds (sched p 48) s k).a) 13)) ^^^ (rr ((rounds (sched p 48) s k).a) 22))] ?_
    refine sD [(2,pV h.size),(4,pV h1.size),(5,pV h6.size),(12,wv ((rounds (sched p 48) s k).a)),(13,wv ((rounds (sched p 48) s k).b)),(14,wv ((rounds (sched p 48) s k).c)),(15,wv ((rounds (sched p 48) s k).d)),(16,wv ((rounds (sched p 48) s k).e)),(17,wv ((rounds (sched p 48) s k).f)),(18,wv ((rounds (sched p 48) s k).g)),(22,wv ((((((rounds (sched p 48) s k).h) + (((rr ((rounds (sched p 48) s k).e) 6) ^^^ (rr ((rounds (sched p 48) s k).e) 11)) ^^^ (rr ((rounds (sched p 48) s k).e) 25))) + ((((rounds (sched p 48) s k).e) &&& ((rounds (sched p 48) s k).f)) ^^^ ((~~~((rounds (sched p 48) s k).e)) &&& ((rounds (sched p 48) s k).g)))) + (K64.getD k 0)) + ((sched p 48).getD k 0))),(23,wv (((rr ((rounds (sched p 48) s k).a) 2) ^^^ (rr ((rounds (sched p 48) s k).a) 13)) ^^^ (rr ((rounds (sched p 48) s k).a) 22))),(125,nV k)] ?_
    clear hF a; intro a hF
    refine tK ?_
    refine cS ?_
    refine cP 21 hF ?_
    refine sP 3 [wv (((rr ((rounds (sched p 48) s k).a) 2) ^^^ (rr ((rounds (sched p 48) s k).a) 13)) ^^^ (rr ((rounds (sched p 48) s k).a) 22)),wv ((rounds (sched p 48) s k).a),wv ((rounds (sched p 48) s k).b)] ?_
    refine s1 4 (wv (((rounds (sched p 48) s k).a) &&& ((rounds (sched p 48) s k).b))) (.int .u32 (IntKind.u32.wrap ((BitVec.ofInt 32 (((rounds (sched p 48) s k).a).toNat : Int) &&& BitVec.ofInt 32 (((rounds (sched p 48) s k).b).toNat : Int)).toNat : Int))) (and32 ((rounds (sched p 48) s k).a) ((rounds (sched p 48) s k).b)) ?_
    refine sP 6 [wv ((rounds (sched p 48) s k).a),wv ((rounds (sched p 48) s k).c)] ?_
    refine s1 7 (wv (((rounds (sched p 48) s k).a) &&& ((rounds (sched p 48) s k).c))) (.int .u32 (IntKind.u32.wrap ((BitVec.ofInt 32 (((rounds (sched p 48) s k).a).toNat : Int) &&& BitVec.ofInt 32 (((rounds (sched p 48) s k).c).toNat : Int)).toNat : Int))) (and32 ((rounds (sched p 48) s k).a) ((rounds (sched p 48) s k).c)) ?_
    refine s1 8 (wv ((((rounds (sched p 48) s k).a) &&& ((rounds (sched p 48) s k).b)) ^^^ (((rounds (sched p 48) s k).a) &&& ((rounds (sched p 48) s k).c)))) (.int .u32 (IntKind.u32.wrap ((BitVec.ofInt 32 ((((rounds (sched p 48) s k).a) &&& ((rounds (sched p 48) s k).b)).toNat : Int) ^^^ BitVec.ofInt 32 ((((rounds (sched p 48) s k).a) &&& ((rounds (sched p 48) s k).c)).toNat : Int)).toNat : Int))) (xor32 (((rounds (sched p 48) s k).a) &&& ((rounds (sched p 48) s k).b)) (((rounds (sched p 48) s k).a) &&& ((rounds (sched p 48) s k).c))) ?_
    refine sP 10 [wv ((rounds (sched p 48) s k).b),wv ((rounds (sched p 48) s k).c)] ?_
    refine s1 11 (wv (((rounds (sched p 48) s k).b) &&& ((rounds (sched p 48) s k).c))) (.int .u32 (IntKind.u32.wrap ((BitVec.ofInt 32 (((rounds (sched p 48) s k).b).toNat : Int) &&& BitVec.ofInt 32 (((rounds (sched p 48) s k).c).toNat : Int)).toNat : Int))) (and32 ((rounds (sched p 48) s k).b) ((rounds (sched p 48) s k).c)) ?_
    refine s1 12 (wv (((((rounds (sched p 48) s k).a) &&& ((rounds (sched p 48) s k).b)) ^^^ (((rounds (sched p 48) s k).a) &&& ((rounds (sched p 48) s k).c))) ^^^ (((rounds (sched p 48) s k).b) &&& ((rounds (sched p 48) s k).c)))) (.int .u32 (IntKind.u32.wrap ((BitVec.ofInt 32 (((((rounds (sched p 48) s k).a) &&& ((rounds (sched p 48) s k).b)) ^^^ (((rounds (sched p 48) s k).a) &&& ((rounds (sched p 48) s k).c))).toNat : Int) ^^^ BitVec.ofInt 32 ((((rounds (sched p 48) s k).b) &&& ((rounds (sched p 48) s k).c)).toNat : Int)).toNat : Int))) (xor32 ((((rounds (sched p 48) s k).a) &&& ((rounds (sched p 48) s k).b)) ^^^ (((rounds (sched p 48) s k).a) &&& ((rounds (sched p 48) s k).c))) (((rounds (sched p 48) s k).b) &&& ((rounds (sched p 48) s k).c))) ?_
    refine s1 13 (wv ((((rr ((rounds (sched p 48) s k).a) 2) ^^^ (rr ((rounds (sched p 48) s k).a) 13)) ^^^ (rr ((rounds (sched p 48) s k).a) 22)) + (((((rounds (sched p 48) s k).a) &&& ((rounds (sched p 48) s k).b)) ^^^ (((rounds (sched p 48) s k).a) &&& ((rounds (sched p 48) s k).c))) ^^^ (((rounds (sched p 48) s k).b) &&& ((rounds (sched p 48) s k).c))))) (.int .u32 (IntKind.u32.wrap (((((rr ((rounds (sched p 48) s k).a) 2) ^^^ (rr ((rounds (sched p 48) s k).a) 13)) ^^^ (rr ((rounds (sched p 48) s k).a) 22)).toNat : Int) + ((((((rounds (sched p 48) s k).a) &&& ((rounds (sched p 48) s k).b)) ^^^ (((rounds (sched p 48) s k).a) &&& ((rounds (sched p 48) s k).c))) ^^^ (((rounds (sched p 48) s k).b) &&& ((rounds (sched p 48) s k).c))).toNat : Int)))) (add32 (((rr ((rounds (sched p 48) s k).a) 2) ^^^ (rr ((rounds (sched p 48) s k).a) 13)) ^^^ (rr ((rounds (sched p 48) s k).a) 22)) (((((rounds (sched p 48) s k).a) &&& ((rounds (sched p 48) s k).b)) ^^^ (((rounds (sched p 48) s k).a) &&& ((rounds (sched p 48) s k).c))) ^^^ (((rounds (sched p 48) s k).b) &&& ((rounds (sched p 48) s k).c)))) ?_
    refine sP 14 [wv ((((rr ((rounds (sched p 48) s k).a) 2) ^^^ (rr ((rounds (sched p 48) s k).a) 13)) ^^^ (rr ((rounds (sched p 48) s k).a) 22)) + (((((rounds (sched p 48) s k).a) &&& ((rounds (sched p 48) s k).b)) ^^^ (((rounds (sched p 48) s k).a) &&& ((rounds (sched p 48) s k).c))) ^^^ (((rounds (sched p 48) s k).b) &&& ((rounds (sched p 48) s k).c))))] ?_
    refine sD [(2,pV h.size),(4,pV h1.size),(5,pV h6.size),(12,wv ((rounds (sched p 48) s k).a)),(13,wv ((rounds (sched p 48) s k).b)),(14,wv ((rounds (sched p 48) s k).c)),(15,wv ((rounds (sched p 48) s k).d)),(16,wv ((rounds (sched p 48) s k).e)),(17,wv ((rounds (sched p 48) s k).f)),(18,wv ((rounds (sched p 48) s k).g)),(22,wv ((((((rounds (sched p 48) s k).h) + (((rr ((rounds (sched p 48) s k).e) 6) ^^^ (rr ((rounds (sched p 48) s k).e) 11)) ^^^ (rr ((rounds (sched p 48) s k).e) 25))) + ((((rounds (sched p 48) s k).e) &&& ((rounds (sched p 48) s k).f)) ^^^ ((~~~((rounds (sched p 48) s k).e)) &&& ((rounds (sched p 48) s k).g)))) + (K64.getD k 0)) + ((sched p 48).getD k 0))),(24,wv ((((rr ((rounds (sched p 48) s k).a) 2) ^^^ (rr ((rounds (sched p 48) s k).a) 13)) ^^^ (rr ((rounds (sched p 48) s k).a) 22)) + (((((rounds (sched p 48) s k).a) &&& ((rounds (sched p 48) s k).b)) ^^^ (((rounds (sched p 48) s k).a) &&& ((rounds (sched p 48) s k).c))) ^^^ (((rounds (sched p 48) s k).b) &&& ((rounds (sched p 48) s k).c))))),(125,nV k)] ?_
    clear hF a; intro a hF
    refine tK ?_
    refine cP 22 hF ?_
    refine sP 5 [wv ((rounds (sched p 48) s k).g),wv ((rounds (sched p 48) s k).f),wv ((rounds (sched p 48) s k).e),wv ((rounds (sched p 48) s k).d),wv ((((((rounds (sched p 48) s k).h) + (((rr ((rounds (sched p 48) s k).e) 6) ^^^ (rr ((rounds (sched p 48) s k).e) 11)) ^^^ (rr ((rounds (sched p 48) s k).e) 25))) + ((((rounds (sched p 48) s k).e) &&& ((rounds (sched p 48) s k).f)) ^^^ ((~~~((rounds (sched p 48) s k).e)) &&& ((rounds (sched p 48) s k).g)))) + (K64.getD k 0)) + ((sched p 48).getD k 0))] ?_
    refine s1 6 (wv (((rounds (sched p 48) s k).d) + ((((((rounds (sched p 48) s k).h) + (((rr ((rounds (sched p 48) s k).e) 6) ^^^ (rr ((rounds (sched p 48) s k).e) 11)) ^^^ (rr ((rounds (sched p 48) s k).e) 25))) + ((((rounds (sched p 48) s k).e) &&& ((rounds (sched p 48) s k).f)) ^^^ ((~~~((rounds (sched p 48) s k).e)) &&& ((rounds (sched p 48) s k).g)))) + (K64.getD k 0)) + ((sched p 48).getD k 0)))) (.int .u32 (IntKind.u32.wrap ((((rounds (sched p 48) s k).d).toNat : Int) + (((((((rounds (sched p 48) s k).h) + (((rr ((rounds (sched p 48) s k).e) 6) ^^^ (rr ((rounds (sched p 48) s k).e) 11)) ^^^ (rr ((rounds (sched p 48) s k).e) 25))) + ((((rounds (sched p 48) s k).e) &&& ((rounds (sched p 48) s k).f)) ^^^ ((~~~((rounds (sched p 48) s k).e)) &&& ((rounds (sched p 48) s k).g)))) + (K64.getD k 0)) + ((sched p 48).getD k 0)).toNat : Int)))) (add32 ((rounds (sched p 48) s k).d) ((((((rounds (sched p 48) s k).h) + (((rr ((rounds (sched p 48) s k).e) 6) ^^^ (rr ((rounds (sched p 48) s k).e) 11)) ^^^ (rr ((rounds (sched p 48) s k).e) 25))) + ((((rounds (sched p 48) s k).e) &&& ((rounds (sched p 48) s k).f)) ^^^ ((~~~((rounds (sched p 48) s k).e)) &&& ((rounds (sched p 48) s k).g)))) + (K64.getD k 0)) + ((sched p 48).getD k 0))) ?_
    refine sP 11 [wv ((rounds (sched p 48) s k).c),wv ((rounds (sched p 48) s k).b),wv ((rounds (sched p 48) s k).a),wv ((((((rounds (sched p 48) s k).h) + (((rr ((rounds (sched p 48) s k).e) 6) ^^^ (rr ((rounds (sched p 48) s k).e) 11)) ^^^ (rr ((rounds (sched p 48) s k).e) 25))) + ((((rounds (sched p 48) s k).e) &&& ((rounds (sched p 48) s k).f)) ^^^ ((~~~((rounds (sched p 48) s k).e)) &&& ((rounds (sched p 48) s k).g)))) + (K64.getD k 0)) + ((sched p 48).getD k 0)),wv ((((rr ((rounds (sched p 48) s k).a) 2) ^^^ (rr ((rounds (sched p 48) s k).a) 13)) ^^^ (rr ((rounds (sched p 48) s k).a) 22)) + (((((rounds (sched p 48) s k).a) &&& ((rounds (sched p 48) s k).b)) ^^^ (((rounds (sched p 48) s k).a) &&& ((rounds (sched p 48) s k).c))) ^^^ (((rounds (sched p 48) s k).b) &&& ((rounds (sched p 48) s k).c))))] ?_
    refine s1 12 (wv (((((((rounds (sched p 48) s k).h) + (((rr ((rounds (sched p 48) s k).e) 6) ^^^ (rr ((rounds (sched p 48) s k).e) 11)) ^^^ (rr ((rounds (sched p 48) s k).e) 25))) + ((((rounds (sched p 48) s k).e) &&& ((rounds (sched p 48) s k).f)) ^^^ ((~~~((rounds (sched p 48) s k).e)) &&& ((rounds (sched p 48) s k).g)))) + (K64.getD k 0)) + ((sched p 48).getD k 0)) + ((((rr ((rounds (sched p 48) s k).a) 2) ^^^ (rr ((rounds (sched p 48) s k).a) 13)) ^^^ (rr ((rounds (sched p 48) s k).a) 22)) + (((((rounds (sched p 48) s k).a) &&& ((rounds (sched p 48) s k).b)) ^^^ (((rounds (sched p 48) s k).a) &&& ((rounds (sched p 48) s k).c))) ^^^ (((rounds (sched p 48) s k).b) &&& ((rounds (sched p 48) s k).c)))))) (.int .u32 (IntKind.u32.wrap ((((((((rounds (sched p 48) s k).h) + (((rr ((rounds (sched p 48) s k).e) 6) ^^^ (rr ((rounds (sched p 48) s k).e) 11)) ^^^ (rr ((rounds (sched p 48) s k).e) 25))) + ((((rounds (sched p 48) s k).e) &&& ((rounds (sched p 48) s k).f)) ^^^ ((~~~((rounds (sched p 48) s k).e)) &&& ((rounds (sched p 48) s k).g)))) + (K64.getD k 0)) + ((sched p 48).getD k 0)).toNat : Int) + (((((rr ((rounds (sched p 48) s k).a) 2) ^^^ (rr ((rounds (sched p 48) s k).a) 13)) ^^^ (rr ((rounds (sched p 48) s k).a) 22)) + (((((rounds (sched p 48) s k).a) &&& ((rounds (sched p 48) s k).b)) ^^^ (((rounds (sched p 48) s k).a) &&& ((rounds (sched p 48) s k).c))) ^^^ (((rounds (sched p 48) s k).b) &&& ((rounds (sched p 48) s k).c)))).toNat : Int)))) (add32 ((((((rounds (sched p 48) s k).h) + (((rr ((rounds (sched p 48) s k).e) 6) ^^^ (rr ((rounds (sched p 48) s k).e) 11)) ^^^ (rr ((rounds (sched p 48) s k).e) 25))) + ((((rounds (sched p 48) s k).e) &&& ((rounds (sched p 48) s k).f)) ^^^ ((~~~((rounds (sched p 48) s k).e)) &&& ((rounds (sched p 48) s k).g)))) + (K64.getD k 0)) + ((sched p 48).getD k 0)) ((((rr ((rounds (sched p 48) s k).a) 2) ^^^ (rr ((rounds (sched p 48) s k).a) 13)) ^^^ (rr ((rounds (sched p 48) s k).a) 22)) + (((((rounds (sched p 48) s k).a) &&& ((rounds (sched p 48) s k).b)) ^^^ (((rounds (sched p 48) s k).a) &&& ((rounds (sched p 48) s k).c))) ^^^ (((rounds (sched p 48) s k).b) &&& ((rounds (sched p 48) s k).c))))) ?_
    refine sP 20 [wv ((rounds (sched p 48) s k).g),wv ((rounds (sched p 48) s k).f),wv ((rounds (sched p 48) s k).e),wv (((rounds (sched p 48) s k).d) + ((((((rounds (sched p 48) s k).h) + (((rr ((rounds (sched p 48) s k).e) 6) ^^^ (rr ((rounds (sched p 48) s k).e) 11)) ^^^ (rr ((rounds (sched p 48) s k).e) 25))) + ((((rounds (sched p 48) s k).e) &&& ((rounds (sched p 48) s k).f)) ^^^ ((~~~((rounds (sched p 48) s k).e)) &&& ((rounds (sched p 48) s k).g)))) + (K64.getD k 0)) + ((sched p 48).getD k 0))),wv ((rounds (sched p 48) s k).c),wv ((rounds (sched p 48) s k).b),wv ((rounds (sched p 48) s k).a),wv (((((((rounds (sched p 48) s k).h) + (((rr ((rounds (sched p 48) s k).e) 6) ^^^ (rr ((rounds (sched p 48) s k).e) 11)) ^^^ (rr ((rounds (sched p 48) s k).e) 25))) + ((((rounds (sched p 48) s k).e) &&& ((rounds (sched p 48) s k).f)) ^^^ ((~~~((rounds (sched p 48) s k).e)) &&& ((rounds (sched p 48) s k).g)))) + (K64.getD k 0)) + ((sched p 48).getD k 0)) + ((((rr ((rounds (sched p 48) s k).a) 2) ^^^ (rr ((rounds (sched p 48) s k).a) 13)) ^^^ (rr ((rounds (sched p 48) s k).a) 22)) + (((((rounds (sched p 48) s k).a) &&& ((rounds (sched p 48) s k).b)) ^^^ (((rounds (sched p 48) s k).a) &&& ((rounds (sched p 48) s k).c))) ^^^ (((rounds (sched p 48) s k).b) &&& ((rounds (sched p 48) s k).c)))))] ?_
    refine sD [(2,pV h.size),(4,pV h1.size),(5,pV h6.size),(12,wv (((((((rounds (sched p 48) s k).h) + (((rr ((rounds (sched p 48) s k).e) 6) ^^^ (rr ((rounds (sched p 48) s k).e) 11)) ^^^ (rr ((rounds (sched p 48) s k).e) 25))) + ((((rounds (sched p 48) s k).e) &&& ((rounds (sched p 48) s k).f)) ^^^ ((~~~((rounds (sched p 48) s k).e)) &&& ((rounds (sched p 48) s k).g)))) + (K64.getD k 0)) + ((sched p 48).getD k 0)) + ((((rr ((rounds (sched p 48) s k).a) 2) ^^^ (rr ((rounds (sched p 48) s k).a) 13)) ^^^ (rr ((rounds (sched p 48) s k).a) 22)) + (((((rounds (sched p 48) s k).a) &&& ((rounds (sched p 48) s k).b)) ^^^ (((rounds (sched p 48) s k).a) &&& ((rounds (sched p 48) s k).c))) ^^^ (((rounds (sched p 48) s k).b) &&& ((rounds (sched p 48) s k).c)))))),(13,wv ((rounds (sched p 48) s k).a)),(14,wv ((rounds (sched p 48) s k).b)),(15,wv ((rounds (sched p 48) s k).c)),(16,wv (((rounds (sched p 48) s k).d) + ((((((rounds (sched p 48) s k).h) + (((rr ((rounds (sched p 48) s k).e) 6) ^^^ (rr ((rounds (sched p 48) s k).e) 11)) ^^^ (rr ((rounds (sched p 48) s k).e) 25))) + ((((rounds (sched p 48) s k).e) &&& ((rounds (sched p 48) s k).f)) ^^^ ((~~~((rounds (sched p 48) s k).e)) &&& ((rounds (sched p 48) s k).g)))) + (K64.getD k 0)) + ((sched p 48).getD k 0)))),(17,wv ((rounds (sched p 48) s k).e)),(18,wv ((rounds (sched p 48) s k).f)),(19,wv ((rounds (sched p 48) s k).g)),(125,nV k)] ?_
    clear hF a; intro a hF
    show C Tryd.prog (sub b47 [1,1,1,1,1,0,1,0,0,1,1,1]) _ a h24
    refine cP 23 hF ?_
    refine s1 1 (.int .i64 ((k + 1 : Nat) : Int)) (.int .i64 (IntKind.i64.wrap (((k : Nat) : Int) + 1))) (congrArg (Value.int .i64) (w64' (by omega) (by omega) (by omega))) ?_
    refine sP 2 [nV (k + 1)] ?_
    refine sD [(2,pV h.size),(4,pV h1.size),(5,pV h6.size),(12,wv (((((((rounds (sched p 48) s k).h) + (((rr ((rounds (sched p 48) s k).e) 6) ^^^ (rr ((rounds (sched p 48) s k).e) 11)) ^^^ (rr ((rounds (sched p 48) s k).e) 25))) + ((((rounds (sched p 48) s k).e) &&& ((rounds (sched p 48) s k).f)) ^^^ ((~~~((rounds (sched p 48) s k).e)) &&& ((rounds (sched p 48) s k).g)))) + (K64.getD k 0)) + ((sched p 48).getD k 0)) + ((((rr ((rounds (sched p 48) s k).a) 2) ^^^ (rr ((rounds (sched p 48) s k).a) 13)) ^^^ (rr ((rounds (sched p 48) s k).a) 22)) + (((((rounds (sched p 48) s k).a) &&& ((rounds (sched p 48) s k).b)) ^^^ (((rounds (sched p 48) s k).a) &&& ((rounds (sched p 48) s k).c))) ^^^ (((rounds (sched p 48) s k).b) &&& ((rounds (sched p 48) s k).c)))))),(13,wv ((rounds (sched p 48) s k).a)),(14,wv ((rounds (sched p 48) s k).b)),(15,wv ((rounds (sched p 48) s k).c)),(16,wv (((rounds (sched p 48) s k).d) + ((((((rounds (sched p 48) s k).h) + (((rr ((rounds (sched p 48) s k).e) 6) ^^^ (rr ((rounds (sched p 48) s k).e) 11)) ^^^ (rr ((rounds (sched p 48) s k).e) 25))) + ((((rounds (sched p 48) s k).e) &&& ((rounds (sched p 48) s k).f)) ^^^ ((~~~((rounds (sched p 48) s k).e)) &&& ((rounds (sched p 48) s k).g)))) + (K64.getD k 0)) + ((sched p 48).getD k 0)))),(17,wv ((rounds (sched p 48) s k).e)),(18,wv ((rounds (sched p 48) s k).f)),(19,wv ((rounds (sched p 48) s k).g)),(125,nV (k + 1))] ?_
    clear hF a; intro a hF
    show ∃ m',m' < _ ∧ _
    refine ⟨_,?_,k + 1,rfl,e0,m3,m8,(by omega),m13,hF⟩
    omega
   ·skip
    replace hc25 := of_decide_eq_false hc25
    refine cX 4 ?_
    show C Tryd.prog (sub b47 [1,1,1,1,1,1]) _ a h24
    refine cS ?_
    refine cS ?_
    refine cP 24 hF ?_
    refine sP 10 [wv ((rounds (sched p 48) s k).a),wv ((rounds (sched p 48) s k).b),wv ((rounds (sched p 48) s k).c),wv ((rounds (sched p 48) s k).d),wv ((rounds (sched p 48) s k).e),wv ((rounds (sched p 48) s k).f),wv ((rounds (sched p 48) s k).g),wv ((rounds (sched p 48) s k).h),.agg #[wv ((rounds (sched p 48) s k).a),wv ((rounds (sched p 48) s k).b),wv ((rounds (sched p 48) s k).c),wv ((rounds (sched p 48) s k).d),wv ((rounds (sched p 48) s k).e),wv ((rounds (sched p 48) s k).f),wv ((rounds (sched p 48) s k).g),wv ((rounds (sched p 48) s k).h)],.int .i64 0] ?_
    refine sD [(2,pV h.size),(4,pV h1.size),(198,.agg #[wv ((rounds (sched p 48) s k).a),wv ((rounds (sched p 48) s k).b),wv ((rounds (sched p 48) s k).c),wv ((rounds (sched p 48) s k).d),wv ((rounds (sched p 48) s k).e),wv ((rounds (sched p 48) s k).f),wv ((rounds (sched p 48) s k).g),wv ((rounds (sched p 48) s k).h)]),(199,.int .i64 0)] ?_
    clear hF a; intro a hF
    refine tK ?_
    refine cB 6 ?_
    refine C.unroll 9 [1,1,1,1,1,1,0,1,0,0] (by kernel_rfl) ?_
    refine Cround.step ?_
    refine cS ?_
    refine cP 25 hF ?_
    refine sP 1 [.bool true] ?_
    refine sD [(2,pV h.size),(4,pV h1.size),(198,.agg #[wv ((rounds (sched p 48) s k).a),wv ((rounds (sched p 48) s k).b),wv ((rounds (sched p 48) s k).c),wv ((rounds (sched p 48) s k).d),wv ((rounds (sched p 48) s k).e),wv ((rounds (sched p 48) s k).f),wv ((rounds (sched p 48) s k).g),wv ((rounds (sched p 48) s k).h)]),(199,.int .i64 0),(200,.bool true)] ?_
    clear hF a; intro a hF
    refine tK ?_
    refine cS ?_
    refine cT 200 hF ?_
    refine cN ?_
    refine tK ?_
    refine cS ?_
    refine cB 7 ?_
    refine cS ?_
    refine cP 26 hF ?_
    refine sP 4 [.int .i64 0,wv ((rounds (sched p 48) s k).a),.int .i64 0,wv ((rounds (sched p 48) s k).a)] ?_
    refine sD [(2,pV h.size),(4,pV h1.size),(25,.int .i64 0),(26,wv ((rounds (sched p 48) s k).a)),(198,.agg #[wv ((rounds (sched p 48) s k).a),wv ((rounds (sched p 48) s k).b),wv ((rounds (sched p 48) s k).c),wv ((rounds (sched p 48) s k).d),wv ((rounds (sched p 48) s k).e),wv ((rounds (sched p 48) s k).f),wv ((rounds (sched p 48) s k).g),wv ((rounds (sched p 48) s k).h)]),(199,.int .i64 0)] ?_
    clear hF a; intro a hF
    refine tK ?_
    refine cP 27 hF ?_
    refine sP 2 [.int .i64 0,pV h.size] ?_
    refine sC 3 (wv s.a) (Calm.load (T := 61) (p := ⟨h.size,0,none⟩) (by kernel_rfl) (Loads.one (k := 1) (by kernel_rfl) ((hcell_blk m3).trans rfl))) ?_
    refine sP 4 [wv ((rounds (sched p 48) s k).a)] ?_
    refine s1 5 (wv (s.a + ((rounds (sched p 48) s k).a))) (.int .u32 (IntKind.u32.wrap ((s.a.toNat : Int) + (((rounds (sched p 48) s k).a).toNat : Int)))) (add32 s.a ((rounds (sched p 48) s k).a)) ?_
    refine sP 6 [pV h.size] ?_
    refine SeqK.eff (k' := 7) (Does.store (b := h.size) (off := 0) (vs := [wv (s.a + ((rounds (sched p 48) s k).a))]) (l := [wv s.a,wv s.b,wv s.c,wv s.d,wv s.e,wv s.f,wv s.g,wv s.h]) (by kernel_rfl) m3 (of_decide_eq_true (by kernel_rfl)) (List.all_eq_true.1 (by kernel_rfl))) rfl ?_
    rintro _ h26 ⟨rfl,hh⟩
    have g27 : Grew (some (h.size)) h24 h26 := hput_gr hh
    replace m3 : h26[h.size]? = some (.cells ([wv (s.a + ((rounds (sched p 48) s k).a)),wv s.b,wv s.c,wv s.d,wv s.e,wv s.f,wv s.g,wv s.h]).toArray 69) := hput_at (off := 0) (vs := [wv (s.a + ((rounds (sched p 48) s k).a))]) (l := ([wv s.a,wv s.b,wv s.c,wv s.d,wv s.e,wv s.f,wv s.g,wv s.h])) hh (by kernel_rfl) m3
    clear hh
    replace e0 := e0.grew g27 (by rintro _ ⟨⟩; omega)
    replace m8 := Grew.blk g27 m8 (by simp; omega)
    replace m13 := Grew.blk g27 m13 (by simp; omega)
    refine sD [(2,pV h.size),(4,pV h1.size),(198,.agg #[wv ((rounds (sched p 48) s k).a),wv ((rounds (sched p 48) s k).b),wv ((rounds (sched p 48) s k).c),wv ((rounds (sched p 48) s k).d),wv ((rounds (sched p 48) s k).e),wv ((rounds (sched p 48) s k).f),wv ((rounds (sched p 48) s k).g),wv ((rounds (sched p 48) s k).h)]),(199,.int .i64 0)] ?_
    clear hF a; intro a hF
    show C Tryd.prog (sub b47 [1,1,1,1,1,1,0,1,0,0,1,1,1]) _ a h26
    refine cP 28 hF ?_
    refine sP 2 [.int .i64 1,.int .i64 1] ?_
    refine sD [(2,pV h.size),(4,pV h1.size),(198,.agg #[wv ((rounds (sched p 48) s k).a),wv ((rounds (sched p 48) s k).b),wv ((rounds (sched p 48) s k).c),wv ((rounds (sched p 48) s k).d),wv ((rounds (sched p 48) s k).e),wv ((rounds (sched p 48) s k).f),wv ((rounds (sched p 48) s k).g),wv ((rounds (sched p 48) s k).h)]),(199,.int .i64 1)] ?_
    clear hF a; intro a hF
    show Crounds _ _ _ _ 8 a h26
    refine Cround.step ?_
    refine cS ?_
    refine cP 25 hF ?_
    refine sP 1 [.bool true] ?_
    refine sD [(2,pV h.size),(4,pV h1.size),(198,.agg #[wv ((rounds (sched p 48) s k).a),wv ((rounds (sched p 48) s k).b),wv ((rounds (sched p 48) s k).c),wv ((rounds (sched p 48) s k).d),wv ((rounds (sched p 48) s k).e),wv ((rounds (sched p 48) s k).f),wv ((rounds (sched p 48) s k).g),wv ((rounds (sched p 48) s k).h)]),(199,.int .i64 1),(200,.bool true)] ?_
    clear hF a; intro a hF
    refine tK ?_
    refine cS ?_
    refine cT 200 hF ?_
    refine cN ?_
    refine tK ?_
    refine cS ?_
    refine cB 7 ?_
    refine cS ?_
    refine cP 26 hF ?_
    refine sP 4 [.int .i64 1,wv ((rounds (sched p 48) s k).b),.int .i64 1,wv ((rounds (sched p 48) s k).b)] ?_
    refine sD [(2,pV h.size),(4,pV h1.size),(25,.int .i64 1),(26,wv ((rounds (sched p 48) s k).b)),(198,.agg #[wv ((rounds (sched p 48) s k).a),wv ((rounds (sched p 48) s k).b),wv ((rounds (sched p 48) s k).c),wv ((rounds (sched p 48) s k).d),wv ((rounds (sched p 48) s k).e),wv ((rounds (sched p 48) s k).f),wv ((rounds (sched p 48) s k).g),wv ((rounds (sched p 48) s k).h)]),(199,.int .i64 1)] ?_
    clear hF a; intro a hF
    refine tK ?_
    refine cP 27 hF ?_
    refine sP 2 [.int .i64 1,.pointer (some ⟨h.size,1,none⟩)] ?_
    refine sC 3 (wv s.b) (Calm.load (T := 61) (p := ⟨h.size,1,none⟩) (by kernel_rfl) (Loads.one (k := 1) (by kernel_rfl) ((hcell_blk m3).trans rfl))) ?_
    refine sP 4 [wv ((rounds (sched p 48) s k).b)] ?_
    refine s1 5 (wv (s.b + ((rounds (sched p 48) s k).b))) (.int .u32 (IntKind.u32.wrap ((s.b.toNat : Int) + (((rounds (sched p 48) s k).b).toNat : Int)))) (add32 s.b ((rounds (sched p 48) s k).b)) ?_
    refine sP 6 [.pointer (some ⟨h.size,1,none⟩)] ?_
    refine SeqK.eff (k' := 7) (Does.store (b := h.size) (off := 1) (vs := [wv (s.b + ((rounds (sched p 48) s k).b))]) (l := [wv (s.a + ((rounds (sched p 48) s k).a)),wv s.b,wv s.c,wv s.d,wv s.e,wv s.f,wv s.g,wv s.h]) (by kernel_rfl) m3 (of_decide_eq_true (by kernel_rfl)) (List.all_eq_true.1 (by kernel_rfl))) rfl ?_
    rintro _ h28 ⟨rfl,hh⟩
    have g29 : Grew (some (h.size)) h26 h28 := hput_gr hh
    replace m3 : h28[h.size]? = some (.cells ([wv (s.a + ((rounds (sched p 48) s k).a)),wv (s.b + ((rounds (sched p 48) s k).b)),wv s.c,wv s.d,wv s.e,wv s.f,wv s.g,wv s.h]).toArray 69) := hput_at (off := 1) (vs := [wv (s.b + ((rounds (sched p 48) s k).b))]) (l := ([wv (s.a + ((rounds (sched p 48) s k).a)),wv s.b,wv s.c,wv s.d,wv s.e,wv s.f,wv s.g,wv s.h])) hh (by kernel_rfl) m3
    clear hh
    replace e0 := e0.grew g29 (by rintro _ ⟨⟩; omega)
    replace m8 := Grew.blk g29 m8 (by simp; omega)
    replace m13 := Grew.blk g29 m13 (by simp; omega)
    refine sD [(2,pV h.size),(4,pV h1.size),(198,.agg #[wv ((rounds (sched p 48) s k).a),wv ((rounds (sched p 48) s k).b),wv ((rounds (sched p 48) s k).c),wv ((rounds (sched p 48) s k).d),wv ((rounds (sched p 48) s k).e),wv ((rounds (sched p 48) s k).f),wv ((rounds (sched p 48) s k).g),wv ((rounds (sched p 48) s k).h)]),(199,.int .i64 1)] ?_
    clear hF a; intro a hF
    show C Tryd.prog (sub b47 [1,1,1,1,1,1,0,1,0,0,1,1,1]) _ a h28
    refine cP 28 hF ?_
    refine sP 2 [.int .i64 2,.int .i64 2] ?_
    refine sD [(2,pV h.size),(4,pV h1.size),(198,.agg #[wv ((rounds (sched p 48) s k).a),wv ((rounds (sched p 48) s k).b),wv ((rounds (sched p 48) s k).c),wv ((rounds (sched p 48) s k).d),wv ((rounds (sched p 48) s k).e),wv ((rounds (sched p 48) s k).f),wv ((rounds (sched p 48) s k).g),wv ((rounds (sched p 48) s k).h)]),(199,.int .i64 2)] ?_
    clear hF a; intro a hF
    show Crounds _ _ _ _ 7 a h28
    refine Cround.step ?_
    refine cS ?_
    refine cP 25 hF ?_
    refine sP 1 [.bool true] ?_
    refine sD [(2,pV h.size),(4,pV h1.size),(198,.agg #[wv ((rounds (sched p 48) s k).a),wv ((rounds (sched p 48) s k).b),wv ((rounds (sched p 48) s k).c),wv ((rounds (sched p 48) s k).d),wv ((rounds (sched p 48) s k).e),wv ((rounds (sched p 48) s k).f),wv ((rounds (sched p 48) s k).g),wv ((rounds (sched p 48) s k).h)]),(199,.int .i64 2),(200,.bool true)] ?_
    clear hF a; intro a hF
    refine tK ?_
    refine cS ?_
    refine cT 200 hF ?_
    refine cN ?_
    refine tK ?_
    refine cS ?_
    refine cB 7 ?_
    refine cS ?_
    refine cP 26 hF ?_
    refine sP 4 [.int .i64 2,wv ((rounds (sched p 48) s k).c),.int .i64 2,wv ((rounds (sched p 48) s k).c)] ?_
    refine sD [(2,pV h.size),(4,pV h1.size),(25,.int .i64 2),(26,wv ((rounds (sched p 48) s k).c)),(198,.agg #[wv ((rounds (sched p 48) s k).a),wv ((rounds (sched p 48) s k).b),wv ((rounds (sched p 48) s k).c),wv ((rounds (sched p 48) s k).d),wv ((rounds (sched p 48) s k).e),wv ((rounds (sched p 48) s k).f),wv ((rounds (sched p 48) s k).g),wv ((rounds (sched p 48) s k).h)]),(199,.int .i64 2)] ?_
    clear hF a; intro a hF
    refine tK ?_
    refine cP 27 hF ?_
    refine sP 2 [.int .i64 2,.pointer (some ⟨h.size,2,none⟩)] ?_
    refine sC 3 (wv s.c) (Calm.load (T := 61) (p := ⟨h.size,2,none⟩) (by kernel_rfl) (Loads.one (k := 1) (by kernel_rfl) ((hcell_blk m3).trans rfl))) ?_
    refine sP 4 [wv ((rounds (sched p 48) s k).c)] ?_
    refine s1 5 (wv (s.c + ((rounds (sched p 48) s k).c))) (.int .u32 (IntKind.u32.wrap ((s.c.toNat : Int) + (((rounds (sched p 48) s k).c).toNat : Int)))) (add32 s.c ((rounds (sched p 48) s k).c)) ?_
    refine sP 6 [.pointer (some ⟨h.size,2,none⟩)] ?_
    refine SeqK.eff (k' := 7) (Does.store (b := h.size) (off := 2) (vs := [wv (s.c + ((rounds (sched p 48) s k).c))]) (l := [wv (s.a + ((rounds (sched p 48) s k).a)),wv (s.b + ((rounds (sched p 48) s k).b)),wv s.c,wv s.d,wv s.e,wv s.f,wv s.g,wv s.h]) (by kernel_rfl) m3 (of_decide_eq_true (by kernel_rfl)) (List.all_eq_true.1 (by kernel_rfl))) rfl ?_
    rintro _ h30 ⟨rfl,hh⟩
    have g31 : Grew (some (h.size)) h28 h30 := hput_gr hh
    replace m3 : h30[h.size]? = some (.cells ([wv (s.a + ((rounds (sched p 48) s k).a)),wv (s.b + ((rounds (sched p 48) s k).b)),wv (s.c + ((rounds (sched p 48) s k).c)),wv s.d,wv s.e,wv s.f,wv s.g,wv s.h]).toArray 69) := hput_at (off := 2) (vs := [wv (s.c + ((rounds (sched p 48) s k).c))]) (l := ([wv (s.a + ((rounds (sched p 48) s k).a)),wv (s.b + ((rounds (sched p 48) s k).b)),wv s.c,wv s.d,wv s.e,wv s.f,wv s.g,wv s.h])) hh (by kernel_rfl) m3
    clear hh
    replace e0 := e0.grew g31 (by rintro _ ⟨⟩; omega)
    replace m8 := Grew.blk g31 m8 (by simp; omega)
    replace m13 := Grew.blk g31 m13 (by simp; omega)
    refine sD [(2,pV h.size),(4,pV h1.size),(198,.agg #[wv ((rounds (sched p 48) s k).a),wv ((rounds (sched p 48) s k).b),wv ((rounds (sched p 48) s k).c),wv ((rounds (sched p 48) s k).d),wv ((rounds (sched p 48) s k).e),wv ((rounds (sched p 48) s k).f),wv ((rounds (sched p 48) s k).g),wv ((rounds (sched p 48) s k).h)]),(199,.int .i64 2)] ?_
    clear hF a; intro a hF
    show C Tryd.prog (sub b47 [1,1,1,1,1,1,0,1,0,0,1,1,1]) _ a h30
    refine cP 28 hF ?_
    refine sP 2 [.int .i64 3,.int .i64 3] ?_
    refine sD [(2,pV h.size),(4,pV h1.size),(198,.agg #[wv ((rounds (sched p 48) s k).a),wv ((rounds (sched p 48) s k).b),wv ((rounds (sched p 48) s k).c),wv ((rounds (sched p 48) s k).d),wv ((rounds (sched p 48) s k).e),wv ((rounds (sched p 48) s k).f),wv ((rounds (sched p 48) s k).g),wv ((rounds (sched p 48) s k).h)]),(199,.int .i64 3)] ?_
    clear hF a; intro a hF
    show Crounds _ _ _ _ 6 a h30
    refine Cround.step ?_
    refine cS ?_
    refine cP 25 hF ?_
    refine sP 1 [.bool true] ?_
    refine sD [(2,pV h.size),(4,pV h1.size),(198,.agg #[wv ((rounds (sched p 48) s k).a),wv ((rounds (sched p 48) s k).b),wv ((rounds (sched p 48) s k).c),wv ((rounds (sched p 48) s k).d),wv ((rounds (sched p 48) s k).e),wv ((rounds (sched p 48) s k).f),wv ((rounds (sched p 48) s k).g),wv ((rounds (sched p 48) s k).h)]),(199,.int .i64 3),(200,.bool true)] ?_
    clear hF a; intro a hF
    refine tK ?_
    refine cS ?_
    refine cT 200 hF ?_
    refine cN ?_
    refine tK ?_
    refine cS ?_
    refine cB 7 ?_
    refine cS ?_
    refine cP 26 hF ?_
    refine sP 4 [.int .i64 3,wv ((rounds (sched p 48) s k).d),.int .i64 3,wv ((rounds (sched p 48) s k).d)] ?_
    refine sD [(2,pV h.size),(4,pV h1.size),(25,.int .i64 3),(26,wv ((rounds (sched p 48) s k).d)),(198,.agg #[wv ((rounds (sched p 48) s k).a),wv ((rounds (sched p 48) s k).b),wv ((rounds (sched p 48) s k).c),wv ((rounds (sched p 48) s k).d),wv ((rounds (sched p 48) s k).e),wv ((rounds (sched p 48) s k).f),wv ((rounds (sched p 48) s k).g),wv ((rounds (sched p 48) s k).h)]),(199,.int .i64 3)] ?_
    clear hF a; intro a hF
    refine tK ?_
    refine cP 27 hF ?_
    refine sP 2 [.int .i64 3,.pointer (some ⟨h.size,3,none⟩)] ?_
    refine sC 3 (wv s.d) (Calm.load (T := 61) (p := ⟨h.size,3,none⟩) (by kernel_rfl) (Loads.one (k := 1) (by kernel_rfl) ((hcell_blk m3).trans rfl))) ?_
    refine sP 4 [wv ((rounds (sched p 48) s k).d)] ?_
    refine s1 5 (wv (s.d + ((rounds (sched p 48) s k).d))) (.int .u32 (IntKind.u32.wrap ((s.d.toNat : Int) + (((rounds (sched p 48) s k).d).toNat : Int)))) (add32 s.d ((rounds (sched p 48) s k).d)) ?_
    refine sP 6 [.pointer (some ⟨h.size,3,none⟩)] ?_
    refine SeqK.eff (k' := 7) (Does.store (b := h.size) (off := 3) (vs := [wv (s.d + ((rounds (sched p 48) s k).d))]) (l := [wv (s.a + ((rounds (sched p 48) s k).a)),wv (s.b + ((rounds (sched p 48) s k).b)),wv (s.c + ((rounds (sched p 48) s k).c)),wv s.d,wv s.e,wv s.f,wv s.g,wv s.h]) (by kernel_rfl) m3 (of_decide_eq_true (by kernel_rfl)) (List.all_eq_true.1 (by kernel_rfl))) rfl ?_
    rintro _ h32 ⟨rfl,hh⟩
    have g33 : Grew (some (h.size)) h30 h32 := hput_gr hh
    replace m3 : h32[h.size]? = some (.cells ([wv (s.a + ((rounds (sched p 48) s k).a)),wv (s.b + ((rounds (sched p 48) s k).b)),wv (s.c + ((rounds (sched p 48) s k).c)),wv (s.d + ((rounds (sched p 48) s k).d)),wv s.e,wv s.f,wv s.g,wv s.h]).toArray 69) := hput_at (off := 3) (vs := [wv (s.d + ((rounds (sched p 48) s k).d))]) (l := ([wv (s.a + ((rounds (sched p 48) s k).a)),wv (s.b + ((rounds (sched p 48) s k).b)),wv (s.c + ((rounds (sched p 48) s k).c)),wv s.d,wv s.e,wv s.f,wv s.g,wv s.h])) hh (by kernel_rfl) m3
    clear hh
    replace e0 := e0.grew g33 (by rintro _ ⟨⟩; omega)
    replace m8 := Grew.blk g33 m8 (by simp; omega)
    replace m13 := Grew.blk g33 m13 (by simp; omega)
    refine sD [(2,pV h.size),(4,pV h1.size),(198,.agg #[wv ((rounds (sched p 48) s k).a),wv ((rounds (sched p 48) s k).b),wv ((rounds (sched p 48) s k).c),wv ((rounds (sched p 48) s k).d),wv ((rounds (sched p 48) s k).e),wv ((rounds (sched p 48) s k).f),wv ((rounds (sched p 48) s k).g),wv ((rounds (sched p 48) s k).h)]),(199,.int .i64 3)] ?_
    clear hF a; intro a hF
    show C Tryd.prog (sub b47 [1,1,1,1,1,1,0,1,0,0,1,1,1]) _ a h32
    refine cP 28 hF ?_
    refine sP 2 [.int .i64 4,.int .i64 4] ?_
    refine sD [(2,pV h.size),(4,pV h1.size),(198,.agg #[wv ((rounds (sched p 48) s k).a),wv ((rounds (sched p 48) s k).b),wv ((rounds (sched p 48) s k).c),wv ((rounds (sched p 48) s k).d),wv ((rounds (sched p 48) s k).e),wv ((rounds (sched p 48) s k).f),wv ((rounds (sched p 48) s k).g),wv ((rounds (sched p 48) s k).h)]),(199,.int .i64 4)] ?_
    clear hF a; intro a hF
    show Crounds _ _ _ _ 5 a h32
    refine Cround.step ?_
    refine cS ?_
    refine cP 25 hF ?_
    refine sP 1 [.bool true] ?_
    refine sD [(2,pV h.size),(4,pV h1.size),(198,.agg #[wv ((rounds (sched p 48) s k).a),wv ((rounds (sched p 48) s k).b),wv ((rounds (sched p 48) s k).c),wv ((rounds (sched p 48) s k).d),wv ((rounds (sched p 48) s k).e),wv ((rounds (sched p 48) s k).f),wv ((rounds (sched p 48) s k).g),wv ((rounds (sched p 48) s k).h)]),(199,.int .i64 4),(200,.bool true)] ?_
    clear hF a; intro a hF
    refine tK ?_
    refine cS ?_
    refine cT 200 hF ?_
    refine cN ?_
    refine tK ?_
    refine cS ?_
    refine cB 7 ?_
    refine cS ?_
    refine cP 26 hF ?_
    refine sP 4 [.int .i64 4,wv ((rounds (sched p 48) s k).e),.int .i64 4,wv ((rounds (sched p 48) s k).e)] ?_
    refine sD [(2,pV h.size),(4,pV h1.size),(25,.int .i64 4),(26,wv ((rounds (sched p 48) s k).e)),(198,.agg #[wv ((rounds (sched p 48) s k).a),wv ((rounds (sched p 48) s k).b),wv ((rounds (sched p 48) s k).c),wv ((rounds (sched p 48) s k).d),wv ((rounds (sched p 48) s k).e),wv ((rounds (sched p 48) s k).f),wv ((rounds (sched p 48) s k).g),wv ((rounds (sched p 48) s k).h)]),(199,.int .i64 4)] ?_
    clear hF a; intro a hF
    refine tK ?_
    refine cP 27 hF ?_
    refine sP 2 [.int .i64 4,.pointer (some ⟨h.size,4,none⟩)] ?_
    refine sC 3 (wv s.e) (Calm.load (T := 61) (p := ⟨h.size,4,none⟩) (by kernel_rfl) (Loads.one (k := 1) (by kernel_rfl) ((hcell_blk m3).trans rfl))) ?_
    refine sP 4 [wv ((rounds (sched p 48) s k).e)] ?_
    refine s1 5 (wv (s.e + ((rounds (sched p 48) s k).e))) (.int .u32 (IntKind.u32.wrap ((s.e.toNat : Int) + (((rounds (sched p 48) s k).e).toNat : Int)))) (add32 s.e ((rounds (sched p 48) s k).e)) ?_
    refine sP 6 [.pointer (some ⟨h.size,4,none⟩)] ?_
    refine SeqK.eff (k' := 7) (Does.store (b := h.size) (off := 4) (vs := [wv (s.e + ((rounds (sched p 48) s k).e))]) (l := [wv (s.a + ((rounds (sched p 48) s k).a)),wv (s.b + ((rounds (sched p 48) s k).b)),wv (s.c + ((rounds (sched p 48) s k).c)),wv (s.d + ((rounds (sched p 48) s k).d)),wv s.e,wv s.f,wv s.g,wv s.h]) (by kernel_rfl) m3 (of_decide_eq_true (by kernel_rfl)) (List.all_eq_true.1 (by kernel_rfl))) rfl ?_
    rintro _ h34 ⟨rfl,hh⟩
    have g35 : Grew (some (h.size)) h32 h34 := hput_gr hh
    replace m3 : h34[h.size]? = some (.cells ([wv (s.a + ((rounds (sched p 48) s k).a)),wv (s.b + ((rounds (sched p 48) s k).b)),wv (s.c + ((rounds (sched p 48) s k).c)),wv (s.d + ((rounds (sched p 48) s k).d)),wv (s.e + ((rounds (sched p 48) s k).e)),wv s.f,wv s.g,wv s.h]).toArray 69) := hput_at (off := 4) (vs := [wv (s.e + ((rounds (sched p 48) s k).e))]) (l := ([wv (s.a + ((rounds (sched p 48) s k).a)),wv (s.b + ((rounds (sched p 48) s k).b)),wv (s.c + ((rounds (sched p 48) s k).c)),wv (s.d + ((rounds (sched p 48) s k).d)),wv s.e,wv s.f,wv s.g,wv s.h])) hh (by kernel_rfl) m3
    clear hh
    replace e0 := e0.grew g35 (by rintro _ ⟨⟩; omega)
    replace m8 := Grew.blk g35 m8 (by simp; omega)
    replace m13 := Grew.blk g35 m13 (by simp; omega)
    refine sD [(2,pV h.size),(4,pV h1.size),(198,.agg #[wv ((rounds (sched p 48) s k).a),wv ((rounds (sched p 48) s k).b),wv ((rounds (sched p 48) s k).c),wv ((rounds (sched p 48) s k).d),wv ((rounds (sched p 48) s k).e),wv ((rounds (sched p 48) s k).f),wv ((rounds (sched p 48) s k).g),wv ((rounds (sched p 48) s k).h)]),(199,.int .i64 4)] ?_
    clear hF a; intro a hF
    show C Tryd.prog (sub b47 [1,1,1,1,1,1,0,1,0,0,1,1,1]) _ a h34
    refine cP 28 hF ?_
    refine sP 2 [.int .i64 5,.int .i64 5] ?_
    refine sD [(2,pV h.size),(4,pV h1.size),(198,.agg #[wv ((rounds (sched p 48) s k).a),wv ((rounds (sched p 48) s k).b),wv ((rounds (sched p 48) s k).c),wv ((rounds (sched p 48) s k).d),wv ((rounds (sched p 48) s k).e),wv ((rounds (sched p 48) s k).f),wv ((rounds (sched p 48) s k).g),wv ((rounds (sched p 48) s k).h)]),(199,.int .i64 5)] ?_
    clear hF a; intro a hF
    show Crounds _ _ _ _ 4 a h34
    refine Cround.step ?_
    refine cS ?_
    refine cP 25 hF ?_
    refine sP 1 [.bool true] ?_
    refine sD [(2,pV h.size),(4,pV h1.size),(198,.agg #[wv ((rounds (sched p 48) s k).a),wv ((rounds (sched p 48) s k).b),wv ((rounds (sched p 48) s k).c),wv ((rounds (sched p 48) s k).d),wv ((rounds (sched p 48) s k).e),wv ((rounds (sched p 48) s k).f),wv ((rounds (sched p 48) s k).g),wv ((rounds (sched p 48) s k).h)]),(199,.int .i64 5),(200,.bool true)] ?_
    clear hF a; intro a hF
    refine tK ?_
    refine cS ?_
    refine cT 200 hF ?_
    refine cN ?_
    refine tK ?_
    refine cS ?_
    refine cB 7 ?_
    refine cS ?_
    refine cP 26 hF ?_
    refine sP 4 [.int .i64 5,wv ((rounds (sched p 48) s k).f),.int .i64 5,wv ((rounds (sched p 48) s k).f)] ?_
    refine sD [(2,pV h.size),(4,pV h1.size),(25,.int .i64 5),(26,wv ((rounds (sched p 48) s k).f)),(198,.agg #[wv ((rounds (sched p 48) s k).a),wv ((rounds (sched p 48) s k).b),wv ((rounds (sched p 48) s k).c),wv ((rounds (sched p 48) s k).d),wv ((rounds (sched p 48) s k).e),wv ((rounds (sched p 48) s k).f),wv ((rounds (sched p 48) s k).g),wv ((rounds (sched p 48) s k).h)]),(199,.int .i64 5)] ?_
    clear hF a; intro a hF
    refine tK ?_
    refine cP 27 hF ?_
    refine sP 2 [.int .i64 5,.pointer (some ⟨h.size,5,none⟩)] ?_
    refine sC 3 (wv s.f) (Calm.load (T := 61) (p := ⟨h.size,5,none⟩) (by kernel_rfl) (Loads.one (k := 1) (by kernel_rfl) ((hcell_blk m3).trans rfl))) ?_
    refine sP 4 [wv ((rounds (sched p 48) s k).f)] ?_
    refine s1 5 (wv (s.f + ((rounds (sched p 48) s k).f))) (.int .u32 (IntKind.u32.wrap ((s.f.toNat : Int) + (((rounds (sched p 48) s k).f).toNat : Int)))) (add32 s.f ((rounds (sched p 48) s k).f)) ?_
    refine sP 6 [.pointer (some ⟨h.size,5,none⟩)] ?_
    refine SeqK.eff (k' := 7) (Does.store (b := h.size) (off := 5) (vs := [wv (s.f + ((rounds (sched p 48) s k).f))]) (l := [wv (s.a + ((rounds (sched p 48) s k).a)),wv (s.b + ((rounds (sched p 48) s k).b)),wv (s.c + ((rounds (sched p 48) s k).c)),wv (s.d + ((rounds (sched p 48) s k).d)),wv (s.e + ((rounds (sched p 48) s k).e)),wv s.f,wv s.g,wv s.h]) (by kernel_rfl) m3 (of_decide_eq_true (by kernel_rfl)) (List.all_eq_true.1 (by kernel_rfl))) rfl ?_
    rintro _ h36 ⟨rfl,hh⟩
    have g37 : Grew (some (h.size)) h34 h36 := hput_gr hh
    replace m3 : h36[h.size]? = some (.cells ([wv (s.a + ((rounds (sched p 48) s k).a)),wv (s.b + ((rounds (sched p 48) s k).b)),wv (s.c + ((rounds (sched p 48) s k).c)),wv (s.d + ((rounds (sched p 48) s k).d)),wv (s.e + ((rounds (sched p 48) s k).e)),wv (s.f + ((rounds (sched p 48) s k).f)),wv s.g,wv s.h]).toArray 69) := hput_at (off := 5) (vs := [wv (s.f + ((rounds (sched p 48) s k).f))]) (l := ([wv (s.a + ((rounds (sched p 48) s k).a)),wv (s.b + ((rounds (sched p 48) s k).b)),wv (s.c + ((rounds (sched p 48) s k).c)),wv (s.d + ((rounds (sched p 48) s k).d)),wv (s.e + ((rounds (sched p 48) s k).e)),wv s.f,wv s.g,wv s.h])) hh (by kernel_rfl) m3
    clear hh
    replace e0 := e0.grew g37 (by rintro _ ⟨⟩; omega)
    replace m8 := Grew.blk g37 m8 (by simp; omega)
    replace m13 := Grew.blk g37 m13 (by simp; omega)
    refine sD [(2,pV h.size),(4,pV h1.size),(198,.agg #[wv ((rounds (sched p 48) s k).a),wv ((rounds (sched p 48) s k).b),wv ((rounds (sched p 48) s k).c),wv ((rounds (sched p 48) s k).d),wv ((rounds (sched p 48) s k).e),wv ((rounds (sched p 48) s k).f),wv ((rounds (sched p 48) s k).g),wv ((rounds (sched p 48) s k).h)]),(199,.int .i64 5)] ?_
    clear hF a; intro a hF
    show C Tryd.prog (sub b47 [1,1,1,1,1,1,0,1,0,0,1,1,1]) _ a h36
    refine cP 28 hF ?_
    refine sP 2 [.int .i64 6,.int .i64 6] ?_
    refine sD [(2,pV h.size),(4,pV h1.size),(198,.agg #[wv ((rounds (sched p 48) s k).a),wv ((rounds (sched p 48) s k).b),wv ((rounds (sched p 48) s k).c),wv ((rounds (sched p 48) s k).d),wv ((rounds (sched p 48) s k).e),wv ((rounds (sched p 48) s k).f),wv ((rounds (sched p 48) s k).g),wv ((rounds (sched p 48) s k).h)]),(199,.int .i64 6)] ?_
    clear hF a; intro a hF
    show Crounds _ _ _ _ 3 a h36
    refine Cround.step ?_
    refine cS ?_
    refine cP 25 hF ?_
    refine sP 1 [.bool true] ?_
    refine sD [(2,pV h.size),(4,pV h1.size),(198,.agg #[wv ((rounds (sched p 48) s k).a),wv ((rounds (sched p 48) s k).b),wv ((rounds (sched p 48) s k).c),wv ((rounds (sched p 48) s k).d),wv ((rounds (sched p 48) s k).e),wv ((rounds (sched p 48) s k).f),wv ((rounds (sched p 48) s k).g),wv ((rounds (sched p 48) s k).h)]),(199,.int .i64 6),(200,.bool true)] ?_
    clear hF a; intro a hF
    refine tK ?_
    refine cS ?_
    refine cT 200 hF ?_
    refine cN ?_
    refine tK ?_
    refine cS ?_
    refine cB 7 ?_
    refine cS ?_
    refine cP 26 hF ?_
    refine sP 4 [.int .i64 6,wv ((rounds (sched p 48) s k).g),.int .i64 6,wv ((rounds (sched p 48) s k).g)] ?_
    refine sD [(2,pV h.size),(4,pV h1.size),(25,.int .i64 6),(26,wv ((rounds (sched p 48) s k).g)),(198,.agg #[wv ((rounds (sched p 48) s k).a),wv ((rounds (sched p 48) s k).b),wv ((rounds (sched p 48) s k).c),wv ((rounds (sched p 48) s k).d),wv ((rounds (sched p 48) s k).e),wv ((rounds (sched p 48) s k).f),wv ((rounds (sched p 48) s k).g),wv ((rounds (sched p 48) s k).h)]),(199,.int .i64 6)] ?_
    clear hF a; intro a hF
    refine tK ?_
    refine cP 27 hF ?_
    refine sP 2 [.int .i64 6,.pointer (some ⟨h.size,6,none⟩)] ?_
    refine sC 3 (wv s.g) (Calm.load (T := 61) (p := ⟨h.size,6,none⟩) (by kernel_rfl) (Loads.one (k := 1) (by kernel_rfl) ((hcell_blk m3).trans rfl))) ?_
    refine sP 4 [wv ((rounds (sched p 48) s k).g)] ?_
    refine s1 5 (wv (s.g + ((rounds (sched p 48) s k).g))) (.int .u32 (IntKind.u32.wrap ((s.g.toNat : Int) + (((rounds (sched p 48) s k).g).toNat : Int)))) (add32 s.g ((rounds (sched p 48) s k).g)) ?_
    refine sP 6 [.pointer (some ⟨h.size,6,none⟩)] ?_
    refine SeqK.eff (k' := 7) (Does.store (b := h.size) (off := 6) (vs := [wv (s.g + ((rounds (sched p 48) s k).g))]) (l := [wv (s.a + ((rounds (sched p 48) s k).a)),wv (s.b + ((rounds (sched p 48) s k).b)),wv (s.c + ((rounds (sched p 48) s k).c)),wv (s.d + ((rounds (sched p 48) s k).d)),wv (s.e + ((rounds (sched p 48) s k).e)),wv (s.f + ((rounds (sched p 48) s k).f)),wv s.g,wv s.h]) (by kernel_rfl) m3 (of_decide_eq_true (by kernel_rfl)) (List.all_eq_true.1 (by kernel_rfl))) rfl ?_
    rintro _ h38 ⟨rfl,hh⟩
    have g39 : Grew (some (h.size)) h36 h38 := hput_gr hh
    replace m3 : h38[h.size]? = some (.cells ([wv (s.a + ((rounds (sched p 48) s k).a)),wv (s.b + ((rounds (sched p 48) s k).b)),wv (s.c + ((rounds (sched p 48) s k).c)),wv (s.d + ((rounds (sched p 48) s k).d)),wv (s.e + ((rounds (sched p 48) s k).e)),wv (s.f + ((rounds (sched p 48) s k).f)),wv (s.g + ((rounds (sched p 48) s k).g)),wv s.h]).toArray 69) := hput_at (off := 6) (vs := [wv (s.g + ((rounds (sched p 48) s k).g))]) (l := ([wv (s.a + ((rounds (sched p 48) s k).a)),wv (s.b + ((rounds (sched p 48) s k).b)),wv (s.c + ((rounds (sched p 48) s k).c)),wv (s.d + ((rounds (sched p 48) s k).d)),wv (s.e + ((rounds (sched p 48) s k).e)),wv (s.f + ((rounds (sched p 48) s k).f)),wv s.g,wv s.h])) hh (by kernel_rfl) m3
    clear hh
    replace e0 := e0.grew g39 (by rintro _ ⟨⟩; omega)
    replace m8 := Grew.blk g39 m8 (by simp; omega)
    replace m13 := Grew.blk g39 m13 (by simp; omega)
    refine sD [(2,pV h.size),(4,pV h1.size),(198,.agg #[wv ((rounds (sched p 48) s k).a),wv ((rounds (sched p 48) s k).b),wv ((rounds (sched p 48) s k).c),wv ((rounds (sched p 48) s k).d),wv ((rounds (sched p 48) s k).e),wv ((rounds (sched p 48) s k).f),wv ((rounds (sched p 48) s k).g),wv ((rounds (sched p 48) s k).h)]),(199,.int .i64 6)] ?_
    clear hF a; intro a hF
    show C Tryd.prog (sub b47 [1,1,1,1,1,1,0,1,0,0,1,1,1]) _ a h38
    refine cP 28 hF ?_
    refine sP 2 [.int .i64 7,.int .i64 7] ?_
    refine sD [(2,pV h.size),(4,pV h1.size),(198,.agg #[wv ((rounds (sched p 48) s k).a),wv ((rounds (sched p 48) s k).b),wv ((rounds (sched p 48) s k).c),wv ((rounds (sched p 48) s k).d),wv ((rounds (sched p 48) s k).e),wv ((rounds (sched p 48) s k).f),wv ((rounds (sched p 48) s k).g),wv ((rounds (sched p 48) s k).h)]),(199,.int .i64 7)] ?_
    clear hF a; intro a hF
    show Crounds _ _ _ _ 2 a h38
    refine Cround.step ?_
    refine cS ?_
    refine cP 25 hF ?_
    refine sP 1 [.bool true] ?_
    refine sD [(2,pV h.size),(4,pV h1.size),(198,.agg #[wv ((rounds (sched p 48) s k).a),wv ((rounds (sched p 48) s k).b),wv ((rounds (sched p 48) s k).c),wv ((rounds (sched p 48) s k).d),wv ((rounds (sched p 48) s k).e),wv ((rounds (sched p 48) s k).f),wv ((rounds (sched p 48) s k).g),wv ((rounds (sched p 48) s k).h)]),(199,.int .i64 7),(200,.bool true)] ?_
    clear hF a; intro a hF
    refine tK ?_
    refine cS ?_
    refine cT 200 hF ?_
    refine cN ?_
    refine tK ?_
    refine cS ?_
    refine cB 7 ?_
    refine cS ?_
    refine cP 26 hF ?_
    refine sP 4 [.int .i64 7,wv ((rounds (sched p 48) s k).h),.int .i64 7,wv ((rounds (sched p 48) s k).h)] ?_
    refine sD [(2,pV h.size),(4,pV h1.size),(25,.int .i64 7),(26,wv ((rounds (sched p 48) s k).h)),(198,.agg #[wv ((rounds (sched p 48) s k).a),wv ((rounds (sched p 48) s k).b),wv ((rounds (sched p 48) s k).c),wv ((rounds (sched p 48) s k).d),wv ((rounds (sched p 48) s k).e),wv ((rounds (sched p 48) s k).f),wv ((rounds (sched p 48) s k).g),wv ((rounds (sched p 48) s k).h)]),(199,.int .i64 7)] ?_
    clear hF a; intro a hF
    refine tK ?_
    refine cP 27 hF ?_
    refine sP 2 [.int .i64 7,.pointer (some ⟨h.size,7,none⟩)] ?_
    refine sC 3 (wv s.h) (Calm.load (T := 61) (p := ⟨h.size,7,none⟩) (by kernel_rfl) (Loads.one (k := 1) (by kernel_rfl) ((hcell_blk m3).trans rfl))) ?_
    refine sP 4 [wv ((rounds (sched p 48) s k).h)] ?_
    refine s1 5 (wv (s.h + ((rounds (sched p 48) s k).h))) (.int .u32 (IntKind.u32.wrap ((s.h.toNat : Int) + (((rounds (sched p 48) s k).h).toNat : Int)))) (add32 s.h ((rounds (sched p 48) s k).h)) ?_
    refine sP 6 [.pointer (some ⟨h.size,7,none⟩)] ?_
    refine SeqK.eff (k' := 7) (Does.store (b := h.size) (off := 7) (vs := [wv (s.h + ((rounds (sched p 48) s k).h))]) (l := [wv (s.a + ((rounds (sched p 48) s k).a)),wv (s.b + ((rounds (sched p 48) s k).b)),wv (s.c + ((rounds (sched p 48) s k).c)),wv (s.d + ((rounds (sched p 48) s k).d)),wv (s.e + ((rounds (sched p 48) s k).e)),wv (s.f + ((rounds (sched p 48) s k).f)),wv (s.g + ((rounds (sched p 48) s k).g)),wv s.h]) (by kernel_rfl) m3 (of_decide_eq_true (by kernel_rfl)) (List.all_eq_true.1 (by kernel_rfl))) rfl ?_
    rintro _ h40 ⟨rfl,hh⟩
    have g41 : Grew (some (h.size)) h38 h40 := hput_gr hh
    replace m3 : h40[h.size]? = some (.cells ([wv (s.a + ((rounds (sched p 48) s k).a)),wv (s.b + ((rounds (sched p 48) s k).b)),wv (s.c + ((rounds (sched p 48) s k).c)),wv (s.d + ((rounds (sched p 48) s k).d)),wv (s.e + ((rounds (sched p 48) s k).e)),wv (s.f + ((rounds (sched p 48) s k).f)),wv (s.g + ((rounds (sched p 48) s k).g)),wv (s.h + ((rounds (sched p 48) s k).h))]).toArray 69) := hput_at (off := 7) (vs := [wv (s.h + ((rounds (sched p 48) s k).h))]) (l := ([wv (s.a + ((rounds (sched p 48) s k).a)),wv (s.b + ((rounds (sched p 48) s k).b)),wv (s.c + ((rounds (sched p 48) s k).c)),wv (s.d + ((rounds (sched p 48) s k).d)),wv (s.e + ((rounds (sched p 48) s k).e)),wv (s.f + ((rounds (sched p 48) s k).f)),wv (s.g + ((rounds (sched p 48) s k).g)),wv s.h])) hh (by kernel_rfl) m3
    clear hh
    replace e0 := e0.grew g41 (by rintro _ ⟨⟩; omega)
    replace m8 := Grew.blk g41 m8 (by simp; omega)
    replace m13 := Grew.blk g41 m13 (by simp; omega)
    refine sD [(2,pV h.size),(4,pV h1.size),(198,.agg #[wv ((rounds (sched p 48) s k).a),wv ((rounds (sched p 48) s k).b),wv ((rounds (sched p 48) s k).c),wv ((rounds (sched p 48) s k).d),wv ((rounds (sched p 48) s k).e),wv ((rounds (sched p 48) s k).f),wv ((rounds (sched p 48) s k).g),wv ((rounds (sched p 48) s k).h)]),(199,.int .i64 7)] ?_
    clear hF a; intro a hF
    show C Tryd.prog (sub b47 [1,1,1,1,1,1,0,1,0,0,1,1,1]) _ a h40
    refine cP 28 hF ?_
    refine sP 2 [.int .i64 8,.int .i64 8] ?_
    refine sD [(2,pV h.size),(4,pV h1.size),(198,.agg #[wv ((rounds (sched p 48) s k).a),wv ((rounds (sched p 48) s k).b),wv ((rounds (sched p 48) s k).c),wv ((rounds (sched p 48) s k).d),wv ((rounds (sched p 48) s k).e),wv ((rounds (sched p 48) s k).f),wv ((rounds (sched p 48) s k).g),wv ((rounds (sched p 48) s k).h)]),(199,.int .i64 8)] ?_
    clear hF a; intro a hF
    show Crounds _ _ _ _ 1 a h40
    refine Cround.step ?_
    refine cS ?_
    refine cP 25 hF ?_
    refine sP 1 [.bool false] ?_
    refine sD [(2,pV h.size),(4,pV h1.size),(198,.agg #[wv ((rounds (sched p 48) s k).a),wv ((rounds (sched p 48) s k).b),wv ((rounds (sched p 48) s k).c),wv ((rounds (sched p 48) s k).d),wv ((rounds (sched p 48) s k).e),wv ((rounds (sched p 48) s k).f),wv ((rounds (sched p 48) s k).g),wv ((rounds (sched p 48) s k).h)]),(199,.int .i64 8),(200,.bool false)] ?_
    clear hF a; intro a hF
    refine tK ?_
    refine cS ?_
    refine cF 200 hF ?_
    refine cX 6 ?_
    show C Tryd.prog (sub b47 [1,1,1,1,1,1,1]) _ a h40
    refine cS ?_
    refine cP 29 hF ?_
    refine sC 1 (.agg #[wv (s.a + ((rounds (sched p 48) s k).a)),wv (s.b + ((rounds (sched p 48) s k).b)),wv (s.c + ((rounds (sched p 48) s k).c)),wv (s.d + ((rounds (sched p 48) s k).d)),wv (s.e + ((rounds (sched p 48) s k).e)),wv (s.f + ((rounds (sched p 48) s k).f)),wv (s.g + ((rounds (sched p 48) s k).g)),wv (s.h + ((rounds (sched p 48) s k).h))]) (Calm.load (T := 69) (p := ⟨h.size,0,none⟩) (by kernel_rfl) (Loads.blk (vs := [wv (s.a + ((rounds (sched p 48) s k).a)),wv (s.b + ((rounds (sched p 48) s k).b)),wv (s.c + ((rounds (sched p 48) s k).c)),wv (s.d + ((rounds (sched p 48) s k).d)),wv (s.e + ((rounds (sched p 48) s k).e)),wv (s.f + ((rounds (sched p 48) s k).f)),wv (s.g + ((rounds (sched p 48) s k).g)),wv (s.h + ((rounds (sched p 48) s k).h))]) (by kernel_rfl) m3 rfl)) ?_
    refine SeqK.eff (k' := 2) (Does.store (b := h1.size) (off := 0) (vs := [wv (s.a + ((rounds (sched p 48) s k).a)),wv (s.b + ((rounds (sched p 48) s k).b)),wv (s.c + ((rounds (sched p 48) s k).c)),wv (s.d + ((rounds (sched p 48) s k).d)),wv (s.e + ((rounds (sched p 48) s k).e)),wv (s.f + ((rounds (sched p 48) s k).f)),wv (s.g + ((rounds (sched p 48) s k).g)),wv (s.h + ((rounds (sched p 48) s k).h))]) (l := [.int .u32 0,.int .u32 0,.int .u32 0,.int .u32 0,.int .u32 0,.int .u32 0,.int .u32 0,.int .u32 0]) (by kernel_rfl) m8 (of_decide_eq_true (by kernel_rfl)) (List.all_eq_true.1 (by kernel_rfl))) rfl ?_
    rintro _ h42 ⟨rfl,hh⟩
    have g43 : Grew (some (h1.size)) h40 h42 := hput_gr hh
    replace m8 : h42[h1.size]? = some (.cells ([wv (s.a + ((rounds (sched p 48) s k).a)),wv (s.b + ((rounds (sched p 48) s k).b)),wv (s.c + ((rounds (sched p 48) s k).c)),wv (s.d + ((rounds (sched p 48) s k).d)),wv (s.e + ((rounds (sched p 48) s k).e)),wv (s.f + ((rounds (sched p 48) s k).f)),wv (s.g + ((rounds (sched p 48) s k).g)),wv (s.h + ((rounds (sched p 48) s k).h))]).toArray 69) := hput_at (off := 0) (vs := [wv (s.a + ((rounds (sched p 48) s k).a)),wv (s.b + ((rounds (sched p 48) s k).b)),wv (s.c + ((rounds (sched p 48) s k).c)),wv (s.d + ((rounds (sched p 48) s k).d)),wv (s.e + ((rounds (sched p 48) s k).e)),wv (s.f + ((rounds (sched p 48) s k).f)),wv (s.g + ((rounds (sched p 48) s k).g)),wv (s.h + ((rounds (sched p 48) s k).h))]) (l := ([.int .u32 0,.int .u32 0,.int .u32 0,.int .u32 0,.int .u32 0,.int .u32 0,.int .u32 0,.int .u32 0])) hh (by kernel_rfl) m8
    clear hh
    replace e0 := e0.grew g43 (by rintro _ ⟨⟩; omega)
    replace m3 := Grew.blk g43 m3 (by simp; omega)
    replace m13 := Grew.blk g43 m13 (by simp; omega)
    refine sD [(4,pV h1.size)] ?_
    clear hF a; intro a hF
    refine tK ?_
    refine cR ?_
    refine ret_ok [.cell 4 69] [.agg #[wv (s.a + ((rounds (sched p 48) s k).a)),wv (s.b + ((rounds (sched p 48) s k).b)),wv (s.c + ((rounds (sched p 48) s k).c)),wv (s.d + ((rounds (sched p 48) s k).d)),wv (s.e + ((rounds (sched p 48) s k).e)),wv (s.f + ((rounds (sched p 48) s k).f)),wv (s.g + ((rounds (sched p 48) s k).g)),wv (s.h + ((rounds (sched p 48) s k).h))]] (.agg #[wv (s.a + ((rounds (sched p 48) s k).a)),wv (s.b + ((rounds (sched p 48) s k).b)),wv (s.c + ((rounds (sched p 48) s k).c)),wv (s.d + ((rounds (sched p 48) s k).d)),wv (s.e + ((rounds (sched p 48) s k).e)),wv (s.f + ((rounds (sched p 48) s k).f)),wv (s.g + ((rounds (sched p 48) s k).g)),wv (s.h + ((rounds (sched p 48) s k).h))]) rfl hF ⟨⟨_,rfl,Loads.blk (vs := [wv (s.a + ((rounds (sched p 48) s k).a)),wv (s.b + ((rounds (sched p 48) s k).b)),wv (s.c + ((rounds (sched p 48) s k).c)),wv (s.d + ((rounds (sched p 48) s k).d)),wv (s.e + ((rounds (sched p 48) s k).e)),wv (s.f + ((rounds (sched p 48) s k).f)),wv (s.g + ((rounds (sched p 48) s k).g)),wv (s.h + ((rounds (sched p 48) s k).h))]) (by kernel_rfl) m8 rfl⟩,trivial⟩ rfl ?_
    have e : k = 64 := by omega
    subst e
    exact ⟨rfl,e0⟩
end Go.Proofs.YtkjlafiefgbjpaaDoor
