/- Walks of the document's SHA-256: what each function computes, as a law of its calls. No condition but those that each theorem names. -/
import Derived.Test.YtkjlafiefgbjpaaDoorRefMath
namespace Go.Proofs.YtkjlafiefgbjpaaDoor
open Go Go.Lane Go.Sha
noncomputable def b51 : Code := Tryd.f51.body.getD .skip
theorem rrot_7 (h : Heap) (x : W) : Sat Tryd.prog 51 #[wv x,.int .i64 7] h fun v h' => v = wv (rr x 7) ∧ h' = h := by
 refine sat_of (args := [wv x,.int .i64 7]) (fn := Tryd.f51) (B := b51) (n := 13) (L := [(0,wv x),(1,.int .i64 7)]) Tryd.func51 rfl (by kernel_rfl) rfl ?_
 intro a hF
 refine cS ?_
 refine cP 0 hF ?_
 refine sP 1 [.int .u32 0] ?_
 refine sD [(0,wv x),(1,.int .i64 7)] ?_
 clear hF a; intro a hF
 refine tK ?_
 refine cS ?_
 refine cD [0,0,3,0,0,16,56,127,255] 1 mixed hF ?_
 refine mP 3 [0,1] [wv x,.int .i64 7] ?_
 refine m1 7 2 (wv (x >>> 7)) (.int .u32 (Int.fdiv (x.toNat : Int) (2 ^ 7))) (shr32 x 7) ?_
 refine mP 63 [3,4,5] [wv x,.int .i64 7,.int .i64 25] ?_
 refine m1 127 6 (wv (x <<< 25)) (.int .u32 (IntKind.u32.wrap ((x.toNat : Int) * 2 ^ 25))) (shl32 x 25) ?_
 refine m1 255 7 (wv ((x >>> 7) ||| (x <<< 25))) (.int .u32 (IntKind.u32.wrap ((BitVec.ofInt 32 ((x >>> 7).toNat : Int) ||| BitVec.ofInt 32 ((x <<< 25).toNat : Int)).toNat : Int))) (or32 (x >>> 7) (x <<< 25)) ?_
 refine mP 511 [8] [wv ((x >>> 7) ||| (x <<< 25))] ?_
 refine mD [(4,wv ((x >>> 7) ||| (x <<< 25)))] ?_
 clear hF a; intro a hF
 refine tK ?_
 refine cR ?_
 refine ret_ok [.tmp 4] [wv ((x >>> 7) ||| (x <<< 25))] (wv ((x >>> 7) ||| (x <<< 25))) rfl hF ⟨rfl,trivial⟩ rfl ?_
 exact ⟨rfl,rfl⟩
theorem rrot_18 (h : Heap) (x : W) : Sat Tryd.prog 51 #[wv x,.int .i64 18] h fun v h' => v = wv (rr x 18) ∧ h' = h := by
 refine sat_of (args := [wv x,.int .i64 18]) (fn := Tryd.f51) (B := b51) (n := 13) (L := [(0,wv x),(1,.int .i64 18)]) Tryd.func51 rfl (by kernel_rfl) rfl ?_
 intro a hF
 refine cS ?_
 refine cP 0 hF ?_
 refine sP 1 [.int .u32 0] ?_
 refine sD [(0,wv x),(1,.int .i64 18)] ?_
 clear hF a; intro a hF
 refine tK ?_
 refine cS ?_
 refine cD [0,0,3,0,0,16,56,127,255] 1 mixed hF ?_
 refine mP 3 [0,1] [wv x,.int .i64 18] ?_
 refine m1 7 2 (wv (x >>> 18)) (.int .u32 (Int.fdiv (x.toNat : Int) (2 ^ 18))) (shr32 x 18) ?_
 refine mP 63 [3,4,5] [wv x,.int .i64 18,.int .i64 14] ?_
 refine m1 127 6 (wv (x <<< 14)) (.int .u32 (IntKind.u32.wrap ((x.toNat : Int) * 2 ^ 14))) (shl32 x 14) ?_
 refine m1 255 7 (wv ((x >>> 18) ||| (x <<< 14))) (.int .u32 (IntKind.u32.wrap ((BitVec.ofInt 32 ((x >>> 18).toNat : Int) ||| BitVec.ofInt 32 ((x <<< 14).toNat : Int)).toNat : Int))) (or32 (x >>> 18) (x <<< 14)) ?_
 refine mP 511 [8] [wv ((x >>> 18) ||| (x <<< 14))] ?_
 refine mD [(4,wv ((x >>> 18) ||| (x <<< 14)))] ?_
 clear hF a; intro a hF
 refine tK ?_
 refine cR ?_
 refine ret_ok [.tmp 4] [wv ((x >>> 18) ||| (x <<< 14))] (wv ((x >>> 18) ||| (x <<< 14))) rfl hF ⟨rfl,trivial⟩ rfl ?_
 exact ⟨rfl,rfl⟩
theorem rrot_17 (h : Heap) (x : W) : Sat Tryd.prog 51 #[wv x,.int .i64 17] h fun v h' => v = wv (rr x 17) ∧ h' = h := by
 refine sat_of (args := [wv x,.int .i64 17]) (fn := Tryd.f51) (B := b51) (n := 13) (L := [(0,wv x),(1,.int .i64 17)]) Tryd.func51 rfl (by kernel_rfl) rfl ?_
 intro a hF
 refine cS ?_
 refine cP 0 hF ?_
 refine sP 1 [.int .u32 0] ?_
 refine sD [(0,wv x),(1,.int .i64 17)] ?_
 clear hF a; intro a hF
 refine tK ?_
 refine cS ?_
 refine cD [0,0,3,0,0,16,56,127,255] 1 mixed hF ?_
 refine mP 3 [0,1] [wv x,.int .i64 17] ?_
 refine m1 7 2 (wv (x >>> 17)) (.int .u32 (Int.fdiv (x.toNat : Int) (2 ^ 17))) (shr32 x 17) ?_
 refine mP 63 [3,4,5] [wv x,.int .i64 17,.int .i64 15] ?_
 refine m1 127 6 (wv (x <<< 15)) (.int .u32 (IntKind.u32.wrap ((x.toNat : Int) * 2 ^ 15))) (shl32 x 15) ?_
 refine m1 255 7 (wv ((x >>> 17) ||| (x <<< 15))) (.int .u32 (IntKind.u32.wrap ((BitVec.ofInt 32 ((x >>> 17).toNat : Int) ||| BitVec.ofInt 32 ((x <<< 15).toNat : Int)).toNat : Int))) (or32 (x >>> 17) (x <<< 15)) ?_
 refine mP 511 [8] [wv ((x >>> 17) ||| (x <<< 15))] ?_
 refine mD [(4,wv ((x >>> 17) ||| (x <<< 15)))] ?_
 clear hF a; intro a hF
 refine tK ?_
 refine cR ?_
 refine ret_ok [.tmp 4] [wv ((x >>> 17) ||| (x <<< 15))] (wv ((x >>> 17) ||| (x <<< 15))) rfl hF ⟨rfl,trivial⟩ rfl ?_
 exact ⟨rfl,rfl⟩
theorem rrot_19 (h : Heap) (x : W) : Sat Tryd.prog 51 #[wv x,.int .i64 19] h fun v h' => v = wv (rr x 19) ∧ h' = h := by
 refine sat_of (args := [wv x,.int .i64 19]) (fn := Tryd.f51) (B := b51) (n := 13) (L := [(0,wv x),(1,.int .i64 19)]) Tryd.func51 rfl (by kernel_rfl) rfl ?_
 intro a hF
 refine cS ?_
 refine cP 0 hF ?_
 refine sP 1 [.int .u32 0] ?_
 refine sD [(0,wv x),(1,.int .i64 19)] ?_
 clear hF a; intro a hF
 refine tK ?_
 refine cS ?_
 refine cD [0,0,3,0,0,16,56,127,255] 1 mixed hF ?_
 refine mP 3 [0,1] [wv x,.int .i64 19] ?_
 refine m1 7 2 (wv (x >>> 19)) (.int .u32 (Int.fdiv (x.toNat : Int) (2 ^ 19))) (shr32 x 19) ?_
 refine mP 63 [3,4,5] [wv x,.int .i64 19,.int .i64 13] ?_
 refine m1 127 6 (wv (x <<< 13)) (.int .u32 (IntKind.u32.wrap ((x.toNat : Int) * 2 ^ 13))) (shl32 x 13) ?_
 refine m1 255 7 (wv ((x >>> 19) ||| (x <<< 13))) (.int .u32 (IntKind.u32.wrap ((BitVec.ofInt 32 ((x >>> 19).toNat : Int) ||| BitVec.ofInt 32 ((x <<< 13).toNat : Int)).toNat : Int))) (or32 (x >>> 19) (x <<< 13)) ?_
 refine mP 511 [8] [wv ((x >>> 19) ||| (x <<< 13))] ?_
 refine mD [(4,wv ((x >>> 19) ||| (x <<< 13)))] ?_
 clear hF a; intro a hF
 refine tK ?_
 refine cR ?_
 refine ret_ok [.tmp 4] [wv ((x >>> 19) ||| (x <<< 13))] (wv ((x >>> 19) ||| (x <<< 13))) rfl hF ⟨rfl,trivial⟩ rfl ?_
 exact ⟨rfl,rfl⟩
theorem rrot_6 (h : Heap) (x : W) : Sat Tryd.prog 51 #[wv x,.int .i64 6] h fun v h' => v = wv (rr x 6) ∧ h' = h := by
 refine sat_of (args := [wv x,.int .i64 6]) (fn := Tryd.f51) (B := b51) (n := 13) (L := [(0,wv x),(1,.int .i64 6)]) Tryd.func51 rfl (by kernel_rfl) rfl ?_
 intro a hF
 refine cS ?_
 refine cP 0 hF ?_
 refine sP 1 [.int .u32 0] ?_
 refine sD [(0,wv x),(1,.int .i64 6)] ?_
 clear hF a; intro a hF
 refine tK ?_
 refine cS ?_
 refine cD [0,0,3,0,0,16,56,127,255] 1 mixed hF ?_
 refine mP 3 [0,1] [wv x,.int .i64 6] ?_
 refine m1 7 2 (wv (x >>> 6)) (.int .u32 (Int.fdiv (x.toNat : Int) (2 ^ 6))) (shr32 x 6) ?_
 refine mP 63 [3,4,5] [wv x,.int .i64 6,.int .i64 26] ?_
 refine m1 127 6 (wv (x <<< 26)) (.int .u32 (IntKind.u32.wrap ((x.toNat : Int) * 2 ^ 26))) (shl32 x 26) ?_
 refine m1 255 7 (wv ((x >>> 6) ||| (x <<< 26))) (.int .u32 (IntKind.u32.wrap ((BitVec.ofInt 32 ((x >>> 6).toNat : Int) ||| BitVec.ofInt 32 ((x <<< 26).toNat : Int)).toNat : Int))) (or32 (x >>> 6) (x <<< 26)) ?_
 refine mP 511 [8] [wv ((x >>> 6) ||| (x <<< 26))] ?_
 refine mD [(4,wv ((x >>> 6) ||| (x <<< 26)))] ?_
 clear hF a; intro a hF
 refine tK ?_
 refine cR ?_
 refine ret_ok [.tmp 4] [wv ((x >>> 6) ||| (x <<< 26))] (wv ((x >>> 6) ||| (x <<< 26))) rfl hF ⟨rfl,trivial⟩ rfl ?_
 exact ⟨rfl,rfl⟩
theorem rrot_11 (h : Heap) (x : W) : Sat Tryd.prog 51 #[wv x,.int .i64 11] h fun v h' => v = wv (rr x 11) ∧ h' = h := by
 refine sat_of (args := [wv x,.int .i64 11]) (fn := Tryd.f51) (B := b51) (n := 13) (L := [(0,wv x),(1,.int .i64 11)]) Tryd.func51 rfl (by kernel_rfl) rfl ?_
 intro a hF
 refine cS ?_
 refine cP 0 hF ?_
 refine sP 1 [.int .u32 0] ?_
 refine sD [(0,wv x),(1,.int .i64 11)] ?_
 clear hF a; intro a hF
 refine tK ?_
 refine cS ?_
 refine cD [0,0,3,0,0,16,56,127,255] 1 mixed hF ?_
 refine mP 3 [0,1] [wv x,.int .i64 11] ?_
 refine m1 7 2 (wv (x >>> 11)) (.int .u32 (Int.fdiv (x.toNat : Int) (2 ^ 11))) (shr32 x 11) ?_
 refine mP 63 [3,4,5] [wv x,.int .i64 11,.int .i64 21] ?_
 refine m1 127 6 (wv (x <<< 21)) (.int .u32 (IntKind.u32.wrap ((x.toNat : Int) * 2 ^ 21))) (shl32 x 21) ?_
 refine m1 255 7 (wv ((x >>> 11) ||| (x <<< 21))) (.int .u32 (IntKind.u32.wrap ((BitVec.ofInt 32 ((x >>> 11).toNat : Int) ||| BitVec.ofInt 32 ((x <<< 21).toNat : Int)).toNat : Int))) (or32 (x >>> 11) (x <<< 21)) ?_
 refine mP 511 [8] [wv ((x >>> 11) ||| (x <<< 21))] ?_
 refine mD [(4,wv ((x >>> 11) ||| (x <<< 21)))] ?_
 clear hF a; intro a hF
 refine tK ?_
 refine cR ?_
 refine ret_ok [.tmp 4] [wv ((x >>> 11) ||| (x <<< 21))] (wv ((x >>> 11) ||| (x <<< 21))) rfl hF ⟨rfl,trivial⟩ rfl ?_
 exact ⟨rfl,rfl⟩
theorem rrot_25 (h : Heap) (x : W) : Sat Tryd.prog 51 #[wv x,.int .i64 25] h fun v h' => v = wv (rr x 25) ∧ h' = h := by
 refine sat_of (args := [wv x,.int .i64 25]) (fn := Tryd.f51) (B := b51) (n := 13) (L := [(0,wv x),(1,.int .i64 25)]) Tryd.func51 rfl (by kernel_rfl) rfl ?_
 intro a hF
 refine cS ?_
 refine cP 0 hF ?_
 refine sP 1 [.int .u32 0] ?_
 refine sD [(0,wv x),(1,.int .i64 25)] ?_
 clear hF a; intro a hF
 refine tK ?_
 refine cS ?_
 refine cD [0,0,3,0,0,16,56,127,255] 1 mixed hF ?_
 refine mP 3 [0,1] [wv x,.int .i64 25] ?_
 refine m1 7 2 (wv (x >>> 25)) (.int .u32 (Int.fdiv (x.toNat : Int) (2 ^ 25))) (shr32 x 25) ?_
 refine mP 63 [3,4,5] [wv x,.int .i64 25,.int .i64 7] ?_
 refine m1 127 6 (wv (x <<< 7)) (.int .u32 (IntKind.u32.wrap ((x.toNat : Int) * 2 ^ 7))) (shl32 x 7) ?_
 refine m1 255 7 (wv ((x >>> 25) ||| (x <<< 7))) (.int .u32 (IntKind.u32.wrap ((BitVec.ofInt 32 ((x >>> 25).toNat : Int) ||| BitVec.ofInt 32 ((x <<< 7).toNat : Int)).toNat : Int))) (or32 (x >>> 25) (x <<< 7)) ?_
 refine mP 511 [8] [wv ((x >>> 25) ||| (x <<< 7))] ?_
 refine mD [(4,wv ((x >>> 25) ||| (x <<< 7)))] ?_
 clear hF a; intro a hF
 refine tK ?_
 refine cR ?_
 refine ret_ok [.tmp 4] [wv ((x >>> 25) ||| (x <<< 7))] (wv ((x >>> 25) ||| (x <<< 7))) rfl hF ⟨rfl,trivial⟩ rfl ?_
 exact ⟨rfl,rfl⟩
theorem rrot_2 (h : Heap) (x : W) : Sat Tryd.prog 51 #[wv x,.int .i64 2] h fun v h' => v = wv (rr x 2) ∧ h' = h := by
 refine sat_of (args := [wv x,.int .i64 2]) (fn := Tryd.f51) (B := b51) (n := 13) (L := [(0,wv x),(1,.int .i64 2)]) Tryd.func51 rfl (by kernel_rfl) rfl ?_
 intro a hF
 refine cS ?_
 refine cP 0 hF ?_
 refine sP 1 [.int .u32 0] ?_
 refine sD [(0,wv x),(1,.int .i64 2)] ?_
 clear hF a; intro a hF
 refine tK ?_
 refine cS ?_
 refine cD [0,0,3,0,0,16,56,127,255] 1 mixed hF ?_
 refine mP 3 [0,1] [wv x,.int .i64 2] ?_
 refine m1 7 2 (wv (x >>> 2)) (.int .u32 (Int.fdiv (x.toNat : Int) (2 ^ 2))) (shr32 x 2) ?_
 refine mP 63 [3,4,5] [wv x,.int .i64 2,.int .i64 30] ?_
 refine m1 127 6 (wv (x <<< 30)) (.int .u32 (IntKind.u32.wrap ((x.toNat : Int) * 2 ^ 30))) (shl32 x 30) ?_
 refine m1 255 7 (wv ((x >>> 2) ||| (x <<< 30))) (.int .u32 (IntKind.u32.wrap ((BitVec.ofInt 32 ((x >>> 2).toNat : Int) ||| BitVec.ofInt 32 ((x <<< 30).toNat : Int)).toNat : Int))) (or32 (x >>> 2) (x <<< 30)) ?_
 refine mP 511 [8] [wv ((x >>> 2) ||| (x <<< 30))] ?_
 refine mD [(4,wv ((x >>> 2) ||| (x <<< 30)))] ?_
 clear hF a; intro a hF
 refine tK ?_
 refine cR ?_
 refine ret_ok [.tmp 4] [wv ((x >>> 2) ||| (x <<< 30))] (wv ((x >>> 2) ||| (x <<< 30))) rfl hF ⟨rfl,trivial⟩ rfl ?_
 exact ⟨rfl,rfl⟩
theorem rrot_13 (h : Heap) (x : W) : Sat Tryd.prog 51 #[wv x,.int .i64 13] h fun v h' => v = wv (rr x 13) ∧ h' = h := by
 refine sat_of (args := [wv x,.int .i64 13]) (fn := Tryd.f51) (B := b51) (n := 13) (L := [(0,wv x),(1,.int .i64 13)]) Tryd.func51 rfl (by kernel_rfl) rfl ?_
 intro a hF
 refine cS ?_
 refine cP 0 hF ?_
 refine sP 1 [.int .u32 0] ?_
 refine sD [(0,wv x),(1,.int .i64 13)] ?_
 clear hF a; intro a hF
 refine tK ?_
 refine cS ?_
 refine cD [0,0,3,0,0,16,56,127,255] 1 mixed hF ?_
 refine mP 3 [0,1] [wv x,.int .i64 13] ?_
 refine m1 7 2 (wv (x >>> 13)) (.int .u32 (Int.fdiv (x.toNat : Int) (2 ^ 13))) (shr32 x 13) ?_
 refine mP 63 [3,4,5] [wv x,.int .i64 13,.int .i64 19] ?_
 refine m1 127 6 (wv (x <<< 19)) (.int .u32 (IntKind.u32.wrap ((x.toNat : Int) * 2 ^ 19))) (shl32 x 19) ?_
 refine m1 255 7 (wv ((x >>> 13) ||| (x <<< 19))) (.int .u32 (IntKind.u32.wrap ((BitVec.ofInt 32 ((x >>> 13).toNat : Int) ||| BitVec.ofInt 32 ((x <<< 19).toNat : Int)).toNat : Int))) (or32 (x >>> 13) (x <<< 19)) ?_
 refine mP 511 [8] [wv ((x >>> 13) ||| (x <<< 19))] ?_
 refine mD [(4,wv ((x >>> 13) ||| (x <<< 19)))] ?_
 clear hF a; intro a hF
 refine tK ?_
 refine cR ?_
 refine ret_ok [.tmp 4] [wv ((x >>> 13) ||| (x <<< 19))] (wv ((x >>> 13) ||| (x <<< 19))) rfl hF ⟨rfl,trivial⟩ rfl ?_
 exact ⟨rfl,rfl⟩
theorem rrot_22 (h : Heap) (x : W) : Sat Tryd.prog 51 #[wv x,.int .i64 22] h fun v h' => v = wv (rr x 22) ∧ h' = h := by
 refine sat_of (args := [wv x,.int .i64 22]) (fn := Tryd.f51) (B := b51) (n := 13) (L := [(0,wv x),(1,.int .i64 22)]) Tryd.func51 rfl (by kernel_rfl) rfl ?_
 intro a hF
 refine cS ?_
 refine cP 0 hF ?_
 refine sP 1 [.int .u32 0] ?_
 refine sD [(0,wv x),(1,.int .i64 22)] ?_
 clear hF a; intro a hF
 refine tK ?_
 refine cS ?_
 refine cD [0,0,3,0,0,16,56,127,255] 1 mixed hF ?_
 refine mP 3 [0,1] [wv x,.int .i64 22] ?_
 refine m1 7 2 (wv (x >>> 22)) (.int .u32 (Int.fdiv (x.toNat : Int) (2 ^ 22))) (shr32 x 22) ?_
 refine mP 63 [3,4,5] [wv x,.int .i64 22,.int .i64 10] ?_
 refine m1 127 6 (wv (x <<< 10)) (.int .u32 (IntKind.u32.wrap ((x.toNat : Int) * 2 ^ 10))) (shl32 x 10) ?_
 refine m1 255 7 (wv ((x >>> 22) ||| (x <<< 10))) (.int .u32 (IntKind.u32.wrap ((BitVec.ofInt 32 ((x >>> 22).toNat : Int) ||| BitVec.ofInt 32 ((x <<< 10).toNat : Int)).toNat : Int))) (or32 (x >>> 22) (x <<< 10)) ?_
 refine mP 511 [8] [wv ((x >>> 22) ||| (x <<< 10))] ?_
 refine mD [(4,wv ((x >>> 22) ||| (x <<< 10)))] ?_
 clear hF a; intro a hF
 refine tK ?_
 refine cR ?_
 refine ret_ok [.tmp 4] [wv ((x >>> 22) ||| (x <<< 10))] (wv ((x >>> 22) ||| (x <<< 10))) rfl hF ⟨rfl,trivial⟩ rfl ?_
 exact ⟨rfl,rfl⟩
noncomputable def b50 : Code := Tryd.f50.body.getD .skip
theorem rword_sat (h : Heap) (pa : Addr) (pc : Nat) (p : List UInt8) (i : Nat) (hi : i + 4 ≤ 64) (hp : ∀ j,j < 64 → hcell h (pa.add j) = some (bv (p.getD j 0))) : Sat Tryd.prog 50 #[.slice (some pa) 64 pc,.int .i64 ((i : Nat) : Int)] h fun v h' => v = wv (word p i) ∧ h' = h := by
 refine sat_of (args := [.slice (some pa) 64 pc,.int .i64 ((i : Nat) : Int)]) (fn := Tryd.f50) (B := b50) (n := 34) (L := [(0,.slice (some pa) 64 pc),(1,.int .i64 ((i : Nat) : Int))]) Tryd.func50 rfl (by kernel_rfl) rfl ?_
 intro a hF
 refine cS ?_
 refine cP 0 hF ?_
 refine sP 1 [.int .u32 0] ?_
 refine sD [(0,.slice (some pa) 64 pc),(1,nV i)] ?_
 clear hF a; intro a hF
 refine tK ?_
 refine cS ?_
 refine cD [0,0,3,7,15,31,0,0,128,448,960,1984,4032,8191,0,0,32768,114688,245760,507904,1032192,2097151,0,0,8388608,29360128,62914560,130023424,268435455,536870911] 1 mixed hF ?_
 refine mP 3 [0,1] [.slice (some pa) 64 pc,nV i] ?_
 refine mF 7 2 (.pointer (some (Addr.add pa i))) (Calm.indexA (a := pa) (len := 64) (sz := 1) (k := ((i : Nat) : Int)) i i (by kernel_rfl) rfl (by omega) (by omega)) ?_
 refine mL 15 8 3 (bv (p.getD i 0)) (Calm.load (T := 5) (p := (Addr.add pa i)) (by kernel_rfl) (Loads.one (k := 1) (by kernel_rfl) (hp i (by omega)))) ?_
 refine m1 31 4 (wv (w8 (p.getD i 0))) (.int .u32 (IntKind.u32.wrap ((p.getD i 0).toNat : Int))) (conv8 (p.getD i 0)) ?_
 refine m1 63 5 (wv ((w8 (p.getD i 0)) <<< 24)) (.int .u32 (IntKind.u32.wrap (((w8 (p.getD i 0)).toNat : Int) * 2 ^ 24))) (shl32 (w8 (p.getD i 0)) 24) ?_
 refine mP 255 [6,7] [.slice (some pa) 64 pc,nV i] ?_
 refine m1 511 8 (.int .i64 ((i + 1 : Nat) : Int)) (.int .i64 (IntKind.i64.wrap (((i : Nat) : Int) + 1))) (congrArg (Value.int .i64) (w64' (by omega) (by omega) (by omega))) ?_
 refine mF 1023 9 (.pointer (some (Addr.add pa (i + 1)))) (Calm.indexA (a := pa) (len := 64) (sz := 1) (k := ((i + 1 : Nat) : Int)) (i + 1) (i + 1) (by kernel_rfl) rfl (by omega) (by omega)) ?_
 refine mL 2047 1032 10 (bv (p.getD (i + 1) 0)) (Calm.load (T := 5) (p := (Addr.add pa (i + 1))) (by kernel_rfl) (Loads.one (k := 1) (by kernel_rfl) (hp (i + 1) (by omega)))) ?_
 refine m1 4095 11 (wv (w8 (p.getD (i + 1) 0))) (.int .u32 (IntKind.u32.wrap ((p.getD (i + 1) 0).toNat : Int))) (conv8 (p.getD (i + 1) 0)) ?_
 refine m1 8191 12 (wv ((w8 (p.getD (i + 1) 0)) <<< 16)) (.int .u32 (IntKind.u32.wrap (((w8 (p.getD (i + 1) 0)).toNat : Int) * 2 ^ 16))) (shl32 (w8 (p.getD (i + 1) 0)) 16) ?_
 refine m1 16383 13 (wv (((w8 (p.getD i 0)) <<< 24) ||| ((w8 (p.getD (i + 1) 0)) <<< 16))) (.int .u32 (IntKind.u32.wrap ((BitVec.ofInt 32 (((w8 (p.getD i 0)) <<< 24).toNat : Int) ||| BitVec.ofInt 32 (((w8 (p.getD (i + 1) 0)) <<< 16).toNat : Int)).toNat : Int))) (or32 ((w8 (p.getD i 0)) <<< 24) ((w8 (p.getD (i + 1) 0)) <<< 16)) ?_
 refine mP 65535 [14,15] [.slice (some pa) 64 pc,nV i] ?_
 refine m1 131071 16 (.int .i64 ((i + 2 : Nat) : Int)) (.int .i64 (IntKind.i64.wrap (((i : Nat) : Int) + 2))) (congrArg (Value.int .i64) (w64' (by omega) (by omega) (by omega))) ?_
 refine mF 262143 17 (.pointer (some (Addr.add pa (i + 2)))) (Calm.indexA (a := pa) (len := 64) (sz := 1) (k := ((i + 2 : Nat) : Int)) (i + 2) (i + 2) (by kernel_rfl) rfl (by omega) (by omega)) ?_
 refine mL 524287 263176 18 (bv (p.getD (i + 2) 0)) (Calm.load (T := 5) (p := (Addr.add pa (i + 2))) (by kernel_rfl) (Loads.one (k := 1) (by kernel_rfl) (hp (i + 2) (by omega)))) ?_
 refine m1 1048575 19 (wv (w8 (p.getD (i + 2) 0))) (.int .u32 (IntKind.u32.wrap ((p.getD (i + 2) 0).toNat : Int))) (conv8 (p.getD (i + 2) 0)) ?_
 refine m1 2097151 20 (wv ((w8 (p.getD (i + 2) 0)) <<< 8)) (.int .u32 (IntKind.u32.wrap (((w8 (p.getD (i + 2) 0)).toNat : Int) * 2 ^ 8))) (shl32 (w8 (p.getD (i + 2) 0)) 8) ?_
 refine m1 4194303 21 (wv ((((w8 (p.getD i 0)) <<< 24) ||| ((w8 (p.getD (i + 1) 0)) <<< 16)) ||| ((w8 (p.getD (i + 2) 0)) <<< 8))) (.int .u32 (IntKind.u32.wrap ((BitVec.ofInt 32 ((((w8 (p.getD i 0)) <<< 24) ||| ((w8 (p.getD (i + 1) 0)) <<< 16)).toNat : Int) ||| BitVec.ofInt 32 (((w8 (p.getD (i + 2) 0)) <<< 8).toNat : Int)).toNat : Int))) (or32 (((w8 (p.getD i 0)) <<< 24) ||| ((w8 (p.getD (i + 1) 0)) <<< 16)) ((w8 (p.getD (i + 2) 0)) <<< 8)) ?_
 refine mP 16777215 [22,23] [.slice (some pa) 64 pc,nV i] ?_
 refine m1 33554431 24 (.int .i64 ((i + 3 : Nat) : Int)) (.int .i64 (IntKind.i64.wrap (((i : Nat) : Int) + 3))) (congrArg (Value.int .i64) (w64' (by omega) (by omega) (by omega))) ?_
 refine mF 67108863 25 (.pointer (some (Addr.add pa (i + 3)))) (Calm.indexA (a := pa) (len := 64) (sz := 1) (k := ((i + 3 : Nat) : Int)) (i + 3) (i + 3) (by kernel_rfl) rfl (by omega) (by omega)) ?_
 refine mL 134217727 67372040 26 (bv (p.getD (i + 3) 0)) (Calm.load (T := 5) (p := (Addr.add pa (i + 3))) (by kernel_rfl) (Loads.one (k := 1) (by kernel_rfl) (hp (i + 3) (by omega)))) ?_
 refine m1 268435455 27 (wv (w8 (p.getD (i + 3) 0))) (.int .u32 (IntKind.u32.wrap ((p.getD (i + 3) 0).toNat : Int))) (conv8 (p.getD (i + 3) 0)) ?_
 refine m1 536870911 28 (wv (((((w8 (p.getD i 0)) <<< 24) ||| ((w8 (p.getD (i + 1) 0)) <<< 16)) ||| ((w8 (p.getD (i + 2) 0)) <<< 8)) ||| (w8 (p.getD (i + 3) 0)))) (.int .u32 (IntKind.u32.wrap ((BitVec.ofInt 32 (((((w8 (p.getD i 0)) <<< 24) ||| ((w8 (p.getD (i + 1) 0)) <<< 16)) ||| ((w8 (p.getD (i + 2) 0)) <<< 8)).toNat : Int) ||| BitVec.ofInt 32 ((w8 (p.getD (i + 3) 0)).toNat : Int)).toNat : Int))) (or32 ((((w8 (p.getD i 0)) <<< 24) ||| ((w8 (p.getD (i + 1) 0)) <<< 16)) ||| ((w8 (p.getD (i + 2) 0)) <<< 8)) (w8 (p.getD (i + 3) 0))) ?_
 refine mP 1073741823 [29] [wv (((((w8 (p.getD i 0)) <<< 24) ||| ((w8 (p.getD (i + 1) 0)) <<< 16)) ||| ((w8 (p.getD (i + 2) 0)) <<< 8)) ||| (w8 (p.getD (i + 3) 0)))] ?_
 refine mD [(4,wv (((((w8 (p.getD i 0)) <<< 24) ||| ((w8 (p.getD (i + 1) 0)) <<< 16)) ||| ((w8 (p.getD (i + 2) 0)) <<< 8)) ||| (w8 (p.getD (i + 3) 0))))] ?_
 clear hF a; intro a hF
 refine tK ?_
 refine cR ?_
 refine ret_ok [.tmp 4] [wv (((((w8 (p.getD i 0)) <<< 24) ||| ((w8 (p.getD (i + 1) 0)) <<< 16)) ||| ((w8 (p.getD (i + 2) 0)) <<< 8)) ||| (w8 (p.getD (i + 3) 0)))] (wv (((((w8 (p.getD i 0)) <<< 24) ||| ((w8 (p.getD (i + 1) 0)) <<< 16)) ||| ((w8 (p.getD (i + 2) 0)) <<< 8)) ||| (w8 (p.getD (i + 3) 0)))) rfl hF ⟨rfl,trivial⟩ rfl ?_
 exact ⟨rfl,rfl⟩
noncomputable def b52 : Code := Tryd.f52.body.getD .skip
theorem kcells : (#[.int .u32 1116352408,.int .u32 1899447441,.int .u32 3049323471,.int .u32 3921009573,.int .u32 961987163,.int .u32 1508970993,.int .u32 2453635748,.int .u32 2870763221,.int .u32 3624381080,.int .u32 310598401,.int .u32 607225278,.int .u32 1426881987,.int .u32 1925078388,.int .u32 2162078206,.int .u32 2614888103,.int .u32 3248222580,.int .u32 3835390401,.int .u32 4022224774,.int .u32 264347078,.int .u32 604807628,.int .u32 770255983,.int .u32 1249150122,.int .u32 1555081692,.int .u32 1996064986,.int .u32 2554220882,.int .u32 2821834349,.int .u32 2952996808,.int .u32 3210313671,.int .u32 3336571891,.int .u32 3584528711,.int .u32 113926993,.int .u32 338241895,.int .u32 666307205,.int .u32 773529912,.int .u32 1294757372,.int .u32 1396182291,.int .u32 1695183700,.int .u32 1986661051,.int .u32 2177026350,.int .u32 2456956037,.int .u32 2730485921,.int .u32 2820302411,.int .u32 3259730800,.int .u32 3345764771,.int .u32 3516065817,.int .u32 3600352804,.int .u32 4094571909,.int .u32 275423344,.int .u32 430227734,.int .u32 506948616,.int .u32 659060556,.int .u32 883997877,.int .u32 958139571,.int .u32 1322822218,.int .u32 1537002063,.int .u32 1747873779,.int .u32 1955562222,.int .u32 2024104815,.int .u32 2227730452,.int .u32 2361852424,.int .u32 2428436474,.int .u32 2756734187,.int .u32 3204031479,.int .u32 3329325298] : Array Value) = (K64.map wv).toArray := by kernel_rfl
theorem const_sat (h : Heap) (k : Nat) (hk : k < 64) : Sat Tryd.prog 52 #[.int .i64 ((k : Nat) : Int)] h fun v h' => v = wv (K64.getD k 0) ∧ Ext h h' := by
 have e0 := Ext.refl h
 refine sat_of (args := [.int .i64 ((k : Nat) : Int)]) (fn := Tryd.f52) (B := b52) (n := 9) (L := [(0,.int .i64 ((k : Nat) : Int))]) Tryd.func52 rfl (by kernel_rfl) rfl ?_
 intro a hF
 refine cS ?_
 refine cP 0 hF ?_
 refine sP 1 [.int .u32 0] ?_
 refine sD [(0,nV k)] ?_
 clear hF a; intro a hF
 refine tK ?_
 refine cS ?_
 refine cP 1 hF ?_
 refine SeqK.eff (k' := 1) (Does.new (v := .slice (some ⟨h.size,0,none⟩) 64 64) (o := .cells #[.int .u32 1116352408,.int .u32 1899447441,.int .u32 3049323471,.int .u32 3921009573,.int .u32 961987163,.int .u32 1508970993,.int .u32 2453635748,.int .u32 2870763221,.int .u32 3624381080,.int .u32 310598401,.int .u32 607225278,.int .u32 1426881987,.int .u32 1925078388,.int .u32 2162078206,.int .u32 2614888103,.int .u32 3248222580,.int .u32 3835390401,.int .u32 4022224774,.int .u32 264347078,.int .u32 604807628,.int .u32 770255983,.int .u32 1249150122,.int .u32 1555081692,.int .u32 1996064986,.int .u32 2554220882,.int .u32 2821834349,.int .u32 2952996808,.int .u32 3210313671,.int .u32 3336571891,.int .u32 3584528711,.int .u32 113926993,.int .u32 338241895,.int .u32 666307205,.int .u32 773529912,.int .u32 1294757372,.int .u32 1396182291,.int .u32 1695183700,.int .u32 1986661051,.int .u32 2177026350,.int .u32 2456956037,.int .u32 2730485921,.int .u32 2820302411,.int .u32 3259730800,.int .u32 3345764771,.int .u32 3516065817,.int .u32 3600352804,.int .u32 4094571909,.int .u32 275423344,.int .u32 430227734,.int .u32 506948616,.int .u32 659060556,.int .u32 883997877,.int .u32 958139571,.int .u32 1322822218,.int .u32 1537002063,.int .u32 1747873779,.int .u32 1955562222,.int .u32 2024104815,.int .u32 2227730452,.int .u32 2361852424,.int .u32 2428436474,.int .u32 2756734187,.int .u32 3204031479,.int .u32 3329325298] 61) (by kernel_rfl)) rfl ?_
 rintro _ h1 ⟨rfl,hh⟩
 have g2 : Ext h h1 := push_ext hh
 have m3 : h1[h.size]? = some (.cells #[.int .u32 1116352408,.int .u32 1899447441,.int .u32 3049323471,.int .u32 3921009573,.int .u32 961987163,.int .u32 1508970993,.int .u32 2453635748,.int .u32 2870763221,.int .u32 3624381080,.int .u32 310598401,.int .u32 607225278,.int .u32 1426881987,.int .u32 1925078388,.int .u32 2162078206,.int .u32 2614888103,.int .u32 3248222580,.int .u32 3835390401,.int .u32 4022224774,.int .u32 264347078,.int .u32 604807628,.int .u32 770255983,.int .u32 1249150122,.int .u32 1555081692,.int .u32 1996064986,.int .u32 2554220882,.int .u32 2821834349,.int .u32 2952996808,.int .u32 3210313671,.int .u32 3336571891,.int .u32 3584528711,.int .u32 113926993,.int .u32 338241895,.int .u32 666307205,.int .u32 773529912,.int .u32 1294757372,.int .u32 1396182291,.int .u32 1695183700,.int .u32 1986661051,.int .u32 2177026350,.int .u32 2456956037,.int .u32 2730485921,.int .u32 2820302411,.int .u32 3259730800,.int .u32 3345764771,.int .u32 3516065817,.int .u32 3600352804,.int .u32 4094571909,.int .u32 275423344,.int .u32 430227734,.int .u32 506948616,.int .u32 659060556,.int .u32 883997877,.int .u32 958139571,.int .u32 1322822218,.int .u32 1537002063,.int .u32 1747873779,.int .u32 1955562222,.int .u32 2024104815,.int .u32 2227730452,.int .u32 2361852424,.int .u32 2428436474,.int .u32 2756734187,.int .u32 3204031479,.int .u32 3329325298] 61) := push_at hh
 clear hh
 have lt4 := blk_lt m3
 have zs5 := e0.size
 replace e0 := e0.ext g2
 rw [kcells] at m3
 refine sP 2 [.slice (some ⟨h.size,0,none⟩) 64 64] ?_
 refine sD [(0,nV k),(3,.slice (some ⟨h.size,0,none⟩) 64 64)] ?_
 clear hF a; intro a hF
 refine tK ?_
 refine cS ?_
 refine cP 2 hF ?_
 refine sP 2 [.slice (some ⟨h.size,0,none⟩) 64 64,nV k] ?_
 refine sC 3 (.pointer (some ⟨h.size,k,none⟩)) ((Calm.indexB (b := h.size) (off := 0) (len := 64) (sz := 1) (k := ((k : Nat) : Int)) k k (by kernel_rfl) rfl (by omega) (by omega)) _) ?_
 refine sC 4 (wv (K64.getD k 0)) (Calm.load (T := 61) (p := ⟨h.size,k,none⟩) (by kernel_rfl) (Loads.one (k := 1) (by kernel_rfl) ((hcell_blk m3).trans (kget (by omega))))) ?_
 refine sP 5 [wv (K64.getD k 0)] ?_
 refine sD [(2,wv (K64.getD k 0))] ?_
 clear hF a; intro a hF
 refine tK ?_
 refine cR ?_
 refine ret_ok [.tmp 2] [wv (K64.getD k 0)] (wv (K64.getD k 0)) rfl hF ⟨rfl,trivial⟩ rfl ?_
 exact ⟨rfl,e0⟩
end Go.Proofs.YtkjlafiefgbjpaaDoor
