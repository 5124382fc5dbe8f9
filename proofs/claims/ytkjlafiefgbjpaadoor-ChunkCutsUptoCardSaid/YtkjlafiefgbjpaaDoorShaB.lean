/- Walks of package sha: what each function computes, as a law of its calls. No condition but those that each theorem names. -/
import Derived.Test.YtkjlafiefgbjpaaDoorShaA
namespace Go.Proofs.YtkjlafiefgbjpaaDoor
open Go Go.Lane Go.Sha
noncomputable def b48 : Code := Tryd.f48.body.getD .skip
set_option maxHeartbeats 4000000 in
theorem told_sat (h : Heap) (s : S8) : Sat Tryd.prog 48 #[.agg #[wv s.a,wv s.b,wv s.c,wv s.d,wv s.e,wv s.f,wv s.g,wv s.h]] h fun v h' => v = hv (told s) ∧ Ext h h' := by
 have e0 := Ext.refl h
 refine sat_of (args := [.agg #[wv s.a,wv s.b,wv s.c,wv s.d,wv s.e,wv s.f,wv s.g,wv s.h]]) (fn := Tryd.f48) (B := b48) (n := 29) (L := [(0,.agg #[wv s.a,wv s.b,wv s.c,wv s.d,wv s.e,wv s.f,wv s.g,wv s.h])]) Tryd.func48 rfl (by kernel_rfl) rfl ?_
 intro a hF
 refine cS ?_
 refine cP 0 hF ?_
 refine SeqK.eff (k' := 1) (Does.new (v := .pointer (some ⟨h.size,0,none⟩)) (o := .cells #[wv s.a,wv s.b,wv s.c,wv s.d,wv s.e,wv s.f,wv s.g,wv s.h] 69) (by kernel_rfl)) rfl ?_
 rintro _ h1 ⟨rfl,hh⟩
 have g2 : Ext h h1 := push_ext hh
 have m3 : h1[h.size]? = some (.cells #[wv s.a,wv s.b,wv s.c,wv s.d,wv s.e,wv s.f,wv s.g,wv s.h] 69) := push_at hh
 clear hh
 have lt4 := blk_lt m3
 have zs5 := e0.size
 replace e0 := e0.ext g2
 refine SeqK.eff (k' := 2) (Does.new (v := .pointer (some ⟨h1.size,0,none⟩)) (o := .cells (tk s 0).toArray 31) (by kernel_rfl)) rfl ?_
 rintro _ h6 ⟨rfl,hh⟩
 have g7 : Ext h1 h6 := push_ext hh
 have m8 : h6[h1.size]? = some (.cells (tk s 0).toArray 31) := push_at hh
 clear hh
 have lt9 := blk_lt m8
 have zs10 := e0.size
 replace e0 := e0.ext g7
 replace m3 := Ext.blk g7 m3
 refine sD [(1,pV h.size),(2,pV h1.size)] ?_
 clear hF a; intro a hF
 refine tK ?_
 refine cS ?_
 refine cP 1 hF ?_
 refine SeqK.eff (k' := 1) (Does.new (v := .pointer (some ⟨h6.size,0,none⟩)) (o := .cells (tk s 0).toArray 31) (by kernel_rfl)) rfl ?_
 rintro _ h11 ⟨rfl,hh⟩
 have g12 : Ext h6 h11 := push_ext hh
 have m13 : h11[h6.size]? = some (.cells (tk s 0).toArray 31) := push_at hh
 clear hh
 have lt14 := blk_lt m13
 have zs15 := e0.size
 replace e0 := e0.ext g12
 replace m3 := Ext.blk g12 m3
 replace m8 := Ext.blk g12 m8
 refine sD [(1,pV h.size),(2,pV h1.size),(3,pV h6.size)] ?_
 clear hF a; intro a hF
 refine tK ?_
 refine cS ?_
 refine cS ?_
 refine cP 2 hF ?_
 refine sC 1 (.agg #[wv s.a,wv s.b,wv s.c,wv s.d,wv s.e,wv s.f,wv s.g,wv s.h]) (Calm.load (T := 69) (p := ⟨h.size,0,none⟩) (by kernel_rfl) (Loads.blk (vs := [wv s.a,wv s.b,wv s.c,wv s.d,wv s.e,wv s.f,wv s.g,wv s.h]) (by kernel_rfl) m3 rfl)) ?_
 refine sP 2 [.int .i64 0] ?_
 refine sD [(2,pV h1.size),(3,pV h6.size),(7,.agg #[wv s.a,wv s.b,wv s.c,wv s.d,wv s.e,wv s.f,wv s.g,wv s.h]),(8,.int .i64 0)] ?_
 clear hF a; intro a hF
 refine tK ?_
 refine cB 0 ?_
 refine C.unroll 9 [1,1,0,1,0,0] (by kernel_rfl) ?_
 refine Cround.step ?_
 refine cS ?_
 refine cP 3 hF ?_
 refine sP 1 [.bool true] ?_
 refine sD [(2,pV h1.size),(3,pV h6.size),(7,.agg #[wv s.a,wv s.b,wv s.c,wv s.d,wv s.e,wv s.f,wv s.g,wv s.h]),(8,.int .i64 0),(9,.bool true)] ?_
 clear hF a; intro a hF
 refine tK ?_
 refine cS ?_
 refine cT 9 hF ?_
 refine cN ?_
 refine tK ?_
 refine cS ?_
 refine cB 1 ?_
 refine cS ?_
 refine cP 4 hF ?_
 refine sP 4 [.int .i64 0,wv s.a,.int .i64 0,wv s.a] ?_
 refine sD [(2,pV h1.size),(3,pV h6.size),(4,.int .i64 0),(5,wv s.a),(7,.agg #[wv s.a,wv s.b,wv s.c,wv s.d,wv s.e,wv s.f,wv s.g,wv s.h]),(8,.int .i64 0)] ?_
 clear hF a; intro a hF
 refine tK ?_
 refine cS ?_
 refine cP 5 hF ?_
 refine sP 1 [.int .i64 0] ?_
 refine sD [(2,pV h1.size),(3,pV h6.size),(4,.int .i64 0),(5,wv s.a),(7,.agg #[wv s.a,wv s.b,wv s.c,wv s.d,wv s.e,wv s.f,wv s.g,wv s.h]),(8,.int .i64 0),(12,.int .i64 0)] ?_
 clear hF a; intro a hF
 refine tK ?_
 refine cB 2 ?_
 refine C.unroll 5 [1,1,0,1,0,0,1,1,0,0,1,1,0,0] (by kernel_rfl) ?_
 refine Cround.step ?_
 refine cS ?_
 refine cP 6 hF ?_
 refine sP 1 [.bool true] ?_
 refine sD [(2,pV h1.size),(3,pV h6.size),(4,.int .i64 0),(5,wv s.a),(7,.agg #[wv s.a,wv s.b,wv s.c,wv s.d,wv s.e,wv s.f,wv s.g,wv s.h]),(8,.int .i64 0),(12,.int .i64 0),(13,.bool true)] ?_
 clear hF a; intro a hF
 refine tK ?_
 refine cS ?_
 refine cT 13 hF ?_
 refine cN ?_
 refine tK ?_
 refine cS ?_
 refine cB 3 ?_
 refine cS ?_
 refine cP 7 hF ?_
 refine sP 2 [.int .i64 0,.int .i64 0] ?_
 refine sD [(2,pV h1.size),(3,pV h6.size),(4,.int .i64 0),(5,wv s.a),(6,.int .i64 0),(7,.agg #[wv s.a,wv s.b,wv s.c,wv s.d,wv s.e,wv s.f,wv s.g,wv s.h]),(8,.int .i64 0),(12,.int .i64 0)] ?_
 clear hF a; intro a hF
 refine tK ?_
 refine cP 8 hF ?_
 refine sP 8 [.int .i64 0,.int .i64 0,.int .i64 0,.int .i64 0,wv s.a,.int .i64 0,.int .i64 0,.int .i64 24] ?_
 refine s1 9 (wv (s.a >>> 24)) (.int .u32 (Int.fdiv (s.a.toNat : Int) (2 ^ 24))) (shr32 s.a 24) ?_
 refine s1 10 (bv (b32 (s.a >>> 24))) (.int .u8 (IntKind.u8.wrap ((s.a >>> 24).toNat : Int))) (conv32 (s.a >>> 24)) ?_
 refine sP 11 [pV h6.size] ?_
 refine SeqK.eff (k' := 12) (Does.store (b := h6.size) (off := 0) (vs := [bv (b32 (s.a >>> 24))]) (l := (tk s 0)) (by kernel_rfl) m13 (of_decide_eq_true (by kernel_rfl)) (List.all_eq_true.1 (by kernel_rfl))) rfl ?_
 rintro _ h16 ⟨rfl,hh⟩
 have g17 : Grew (some (h6.size)) h11 h16 := hput_gr hh
 replace m13 : h16[h6.size]? = some (.cells ((tk s 1)).toArray 31) := hput_at (off := 0) (vs := [bv (b32 (s.a >>> 24))]) (l := ((tk s 0))) hh (by kernel_rfl) m13
 clear hh
 replace e0 := e0.grew g17 (by rintro _ ⟨⟩; omega)
 replace m3 := Grew.blk g17 m3 (by simp; omega)
 replace m8 := Grew.blk g17 m8 (by simp; omega)
 refine sD [(2,pV h1.size),(3,pV h6.size),(4,.int .i64 0),(5,wv s.a),(7,.agg #[wv s.a,wv s.b,wv s.c,wv s.d,wv s.e,wv s.f,wv s.g,wv s.h]),(8,.int .i64 0),(12,.int .i64 0)] ?_
 clear hF a; intro a hF
 show C Tryd.prog (sub b48 [1,1,0,1,0,0,1,1,0,0,1,1,0,0,1,1,1]) _ a h16
 refine cP 9 hF ?_
 refine sP 2 [.int .i64 1,.int .i64 1] ?_
 refine sD [(2,pV h1.size),(3,pV h6.size),(4,.int .i64 0),(5,wv s.a),(7,.agg #[wv s.a,wv s.b,wv s.c,wv s.d,wv s.e,wv s.f,wv s.g,wv s.h]),(8,.int .i64 0),(12,.int .i64 1)] ?_
 clear hF a; intro a hF
 show Crounds _ _ _ _ 4 a h16
 refine Cround.step ?_
 refine cS ?_
 refine cP 6 hF ?_
 refine sP 1 [.bool true] ?_
 refine sD [(2,pV h1.size),(3,pV h6.size),(4,.int .i64 0),(5,wv s.a),(7,.agg #[wv s.a,wv s.b,wv s.c,wv s.d,wv s.e,wv s.f,wv s.g,wv s.h]),(8,.int .i64 0),(12,.int .i64 1),(13,.bool true)] ?_
 clear hF a; intro a hF
 refine tK ?_
 refine cS ?_
 refine cT 13 hF ?_
 refine cN ?_
 refine tK ?_
 refine cS ?_
 refine cB 3 ?_
 refine cS ?_
 refine cP 7 hF ?_
 refine sP 2 [.int .i64 1,.int .i64 1] ?_
 refine sD [(2,pV h1.size),(3,pV h6.size),(4,.int .i64 0),(5,wv s.a),(6,.int .i64 1),(7,.agg #[wv s.a,wv s.b,wv s.c,wv s.d,wv s.e,wv s.f,wv s.g,wv s.h]),(8,.int .i64 0),(12,.int .i64 1)] ?_
 clear hF a; intro a hF
 refine tK ?_
 refine cP 8 hF ?_
 refine sP 8 [.int .i64 0,.int .i64 0,.int .i64 1,.int .i64 1,wv s.a,.int .i64 1,.int .i64 8,.int .i64 16] ?_
 refine s1 9 (wv (s.a >>> 16)) (.int .u32 (Int.fdiv (s.a.toNat : Int) (2 ^ 16))) (shr32 s.a 16) ?_
 refine s1 10 (bv (b32 (s.a >>> 16))) (.int .u8 (IntKind.u8.wrap ((s.a >>> 16).toNat : Int))) (conv32 (s.a >>> 16)) ?_
 refine sP 11 [.pointer (some ⟨h6.size,1,none⟩)] ?_
 refine SeqK.eff (k' := 12) (Does.store (b := h6.size) (off := 1) (vs := [bv (b32 (s.a >>> 16))]) (l := (tk s 1)) (by kernel_rfl) m13 (of_decide_eq_true (by kernel_rfl)) (List.all_eq_true.1 (by kernel_rfl))) rfl ?_
 rintro _ h18 ⟨rfl,hh⟩
 have g19 : Grew (some (h6.size)) h16 h18 := hput_gr hh
 replace m13 : h18[h6.size]? = some (.cells ((tk s 2)).toArray 31) := hput_at (off := 1) (vs := [bv (b32 (s.a >>> 16))]) (l := ((tk s 1))) hh (by kernel_rfl) m13
 clear hh
 replace e0 := e0.grew g19 (by rintro _ ⟨⟩; omega)
 replace m3 := Grew.blk g19 m3 (by simp; omega)
 replace m8 := Grew.blk g19 m8 (by simp; omega)
 refine sD [(2,pV h1.size),(3,pV h6.size),(4,.int .i64 0),(5,wv s.a),(7,.agg #[wv s.a,wv s.b,wv s.c,wv s.d,wv s.e,wv s.f,wv s.g,wv s.h]),(8,.int .i64 0),(12,.int .i64 1)] ?_
 clear hF a; intro a hF
 show C Tryd.prog (sub b48 [1,1,0,1,0,0,1,1,0,0,1,1,0,0,1,1,1]) _ a h18
 refine cP 9 hF ?_
 refine sP 2 [.int .i64 2,.int .i64 2] ?_
 refine sD [(2,pV h1.size),(3,pV h6.size),(4,.int .i64 0),(5,wv s.a),(7,.agg #[wv s.a,wv s.b,wv s.c,wv s.d,wv s.e,wv s.f,wv s.g,wv s.h]),(8,.int .i64 0),(12,.int .i64 2)] ?_
 clear hF a; intro a hF
 show Crounds _ _ _ _ 3 a h18
 refine Cround.step ?_
 refine cS ?_
 refine cP 6 hF ?_
 refine sP 1 [.bool true] ?_
 refine sD [(2,pV h1.size),(3,pV h6.size),(4,.int .i64 0),(5,wv s.a),(7,.agg #[wv s.a,wv s.b,wv s.c,wv s.d,wv s.e,wv s.f,wv s.g,wv s.h]),(8,.int .i64 0),(12,.int .i64 2),(13,.bool true)] ?_
 clear hF a; intro a hF
 refine tK ?_
 refine cS ?_
 refine cT 13 hF ?_
 refine cN ?_
 refine tK ?_
 refine cS ?_
 refine cB 3 ?_
 refine cS ?_
 refine cP 7 hF ?_
 refine sP 2 [.int .i64 2,.int .i64 2] ?_
 refine sD [(2,pV h1.size),(3,pV h6.size),(4,.int .i64 0),(5,wv s.a),(6,.int .i64 2),(7,.agg #[wv s.a,wv s.b,wv s.c,wv s.d,wv s.e,wv s.f,wv s.g,wv s.h]),(8,.int .i64 0),(12,.int .i64 2)] ?_
 clear hF a; intro a hF
 refine tK ?_
 refine cP 8 hF ?_
 refine sP 8 [.int .i64 0,.int .i64 0,.int .i64 2,.int .i64 2,wv s.a,.int .i64 2,.int .i64 16,.int .i64 8] ?_
 refine s1 9 (wv (s.a >>> 8)) (.int .u32 (Int.fdiv (s.a.toNat : Int) (2 ^ 8))) (shr32 s.a 8) ?_
 refine s1 10 (bv (b32 (s.a >>> 8))) (.int .u8 (IntKind.u8.wrap ((s.a >>> 8).toNat : Int))) (conv32 (s.a >>> 8)) ?_
 refine sP 11 [.pointer (some ⟨h6.size,2,none⟩)] ?_
 refine SeqK.eff (k' := 12) (Does.store (b := h6.size) (off := 2) (vs := [bv (b32 (s.a >>> 8))]) (l := (tk s 2)) (by kernel_rfl) m13 (of_decide_eq_true (by kernel_rfl)) (List.all_eq_true.1 (by kernel_rfl))) rfl ?_
 rintro _ h20 ⟨rfl,hh⟩
 have g21 : Grew (some (h6.size)) h18 h20 := hput_gr hh
 replace m13 : h20[h6.size]? = some (.cells ((tk s 3)).toArray 31) := hput_at (off := 2) (vs := [bv (b32 (s.a >>> 8))]) (l := ((tk s 2))) hh (by kernel_rfl) m13
 clear hh
 replace e0 := e0.grew g21 (by rintro _ ⟨⟩; omega)
 replace m3 := Grew.blk g21 m3 (by simp; omega)
 replace m8 := Grew.blk g21 m8 (by simp; omega)
 refine sD [(2,pV h1.size),(3,pV h6.size),(4,.int .i64 0),(5,wv s.a),(7,.agg #[wv s.a,wv s.b,wv s.c,wv s.d,wv s.e,wv s.f,wv s.g,wv s.h]),(8,.int .i64 0),(12,.int .i64 2)] ?_
 clear hF a; intro a hF
 show C Tryd.prog (sub b48 [1,1,0,1,0,0,1,1,0,0,1,1,0,0,1,1,1]) _ a h20
 refine cP 9 hF ?_
 refine sP 2 [.int .i64 3,.int .i64 3] ?_
 refine sD [(2,pV h1.size),(3,pV h6.size),(4,.int .i64 0),(5,wv s.a),(7,.agg #[wv s.a,wv s.b,wv s.c,wv s.d,wv s.e,wv s.f,wv s.g,wv s.h]),(8,.int .i64 0),(12,.int .i64 3)] ?_
 clear hF a; intro a hF
 show Crounds _ _ _ _ 2 a h20
 refine Cround.step ?_
 refine cS ?_
 refine cP 6 hF ?_
 refine sP 1 [.bool true] ?_
 refine sD [(2,pV h1.size),(3,pV h6.size),(4,.int .i64 0),(5,wv s.a),(7,.agg #[wv s.a,wv s.b,wv s.c,wv s.d,wv s.e,wv s.f,wv s.g,wv s.h]),(8,.int .i64 0),(12,.int .i64 3),(13,.bool true)] ?_
 clear hF a; intro a hF
 refine tK ?_
 refine cS ?_
 refine cT 13 hF ?_
 refine cN ?_
 refine tK ?_
 refine cS ?_
 refine cB 3 ?_
 refine cS ?_
 refine cP 7 hF ?_
 refine sP 2 [.int .i64 3,.int .i64 3] ?_
 refine sD [(2,pV h1.size),(3,pV h6.size),(4,.int .i64 0),(5,wv s.a),(6,.int .i64 3),(7,.agg #[wv s.a,wv s.b,wv s.c,wv s.d,wv s.e,wv s.f,wv s.g,wv s.h]),(8,.int .i64 0),(12,.int .i64 3)] ?_
 clear hF a; intro a hF
 refine tK ?_
 refine cP 8 hF ?_
 refine sP 8 [.int .i64 0,.int .i64 0,.int .i64 3,.int .i64 3,wv s.a,.int .i64 3,.int .i64 24,.int .i64 0] ?_
 refine s1 9 (wv (s.a >>> 0)) (.int .u32 (Int.fdiv (s.a.toNat : Int) (2 ^ 0))) (shr32 s.a 0) ?_
 refine s1 10 (bv (b32 (s.a >>> 0))) (.int .u8 (IntKind.u8.wrap ((s.a >>> 0).toNat : Int))) (conv32 (s.a >>> 0)) ?_
 refine sP 11 [.pointer (some ⟨h6.size,3,none⟩)] ?_
 refine SeqK.eff (k' := 12) (Does.store (b := h6.size) (off := 3) (vs := [bv (b32 (s.a >>> 0))]) (l := (tk s 3)) (by kernel_rfl) m13 (of_decide_eq_true (by kernel_rfl)) (List.all_eq_true.1 (by kernel_rfl))) rfl ?_
 rintro _ h22 ⟨rfl,hh⟩
 have g23 : Grew (some (h6.size)) h20 h22 := hput_gr hh
 replace m13 : h22[h6.size]? = some (.cells ((tk s 4)).toArray 31) := hput_at (off := 3) (vs := [bv (b32 (s.a >>> 0))]) (l := ((tk s 3))) hh (by kernel_rfl) m13
 clear hh
 replace e0 := e0.grew g23 (by rintro _ ⟨⟩; omega)
 replace m3 := Grew.blk g23 m3 (by simp; omega)
 replace m8 := Grew.blk g23 m8 (by simp; omega)
 refine sD [(2,pV h1.size),(3,pV h6.size),(4,.int .i64 0),(5,wv s.a),(7,.agg #[wv s.a,wv s.b,wv s.c,wv s.d,wv s.e,wv s.f,wv s.g,wv s.h]),(8,.int .i64 0),(12,.int .i64 3)] ?_
 clear hF a; intro a hF
 show C Tryd.prog (sub b48 [1,1,0,1,0,0,1,1,0,0,1,1,0,0,1,1,1]) _ a h22
 refine cP 9 hF ?_
 refine sP 2 [.int .i64 4,.int .i64 4] ?_
 refine sD [(2,pV h1.size),(3,pV h6.size),(4,.int .i64 0),(5,wv s.a),(7,.agg #[wv s.a,wv s.b,wv s.c,wv s.d,wv s.e,wv s.f,wv s.g,wv s.h]),(8,.int .i64 0),(12,.int .i64 4)] ?_
 clear hF a; intro a hF
 show Crounds _ _ _ _ 1 a h22
 refine Cround.step ?_
 refine cS ?_
 refine cP 6 hF ?_
 refine sP 1 [.bool false] ?_
 refine sD [(2,pV h1.size),(3,pV h6.size),(4,.int .i64 0),(5,wv s.a),(7,.agg #[wv s.a,wv s.b,wv s.c,wv s.d,wv s.e,wv s.f,wv s.g,wv s.h]),(8,.int .i64 0),(12,.int .i64 4),(13,.bool false)] ?_
 clear hF a; intro a hF
 refine tK ?_
 refine cS ?_
 refine cF 13 hF ?_
 refine cX 2 ?_
 show C Tryd.prog (sub b48 [1,1,0,1,0,0,1,1,1]) _ a h22
 refine cP 10 hF ?_
 refine sP 2 [.int .i64 1,.int .i64 1] ?_
 refine sD [(2,pV h1.size),(3,pV h6.size),(7,.agg #[wv s.a,wv s.b,wv s.c,wv s.d,wv s.e,wv s.f,wv s.g,wv s.h]),(8,.int .i64 1)] ?_
 clear hF a; intro a hF
 show Crounds _ _ _ _ 8 a h22
 refine Cround.step ?_
 refine cS ?_
 refine cP 3 hF ?_
 refine sP 1 [.bool true] ?_
 refine sD [(2,pV h1.size),(3,pV h6.size),(7,.agg #[wv s.a,wv s.b,wv s.c,wv s.d,wv s.e,wv s.f,wv s.g,wv s.h]),(8,.int .i64 1),(9,.bool true)] ?_
 clear hF a; intro a hF
 refine tK ?_
 refine cS ?_
 refine cT 9 hF ?_
 refine cN ?_
 refine tK ?_
 refine cS ?_
 refine cB 1 ?_
 refine cS ?_
 refine cP 4 hF ?_
 refine sP 4 [.int .i64 1,wv s.b,.int .i64 1,wv s.b] ?_
 refine sD [(2,pV h1.size),(3,pV h6.size),(4,.int .i64 1),(5,wv s.b),(7,.agg #[wv s.a,wv s.b,wv s.c,wv s.d,wv s.e,wv s.f,wv s.g,wv s.h]),(8,.int .i64 1)] ?_
 clear hF a; intro a hF
 refine tK ?_
 refine cS ?_
 refine cP 5 hF ?_
 refine sP 1 [.int .i64 0] ?_
 refine sD [(2,pV h1.size),(3,pV h6.size),(4,.int .i64 1),(5,wv s.b),(7,.agg #[wv s.a,wv s.b,wv s.c,wv s.d,wv s.e,wv s.f,wv s.g,wv s.h]),(8,.int .i64 1),(12,.int .i64 0)] ?_
 clear hF a; intro a hF
 refine tK ?_
 refine cB 2 ?_
 refine C.unroll 5 [1,1,0,1,0,0,1,1,0,0,1,1,0,0] (by kernel_rfl) ?_
 refine Cround.step ?_
 refine cS ?_
 refine cP 6 hF ?_
 refine sP 1 [.bool true] ?_
 refine sD [(2,pV h1.size),(3,pV h6.size),(4,.int .i64 1),(5,wv s.b),(7,.agg #[wv s.a,wv s.b,wv s.c,wv s.d,wv s.e,wv s.f,wv s.g,wv s.h]),(8,.int .i64 1),(12,.int .i64 0),(13,.bool true)] ?_
 clear hF a; intro a hF
 refine tK ?_
 refine cS ?_
 refine cT 13 hF ?_
 refine cN ?_
 refine tK ?_
 refine cS ?_
 refine cB 3 ?_
 refine cS ?_
 refine cP 7 hF ?_
 refine sP 2 [.int .i64 0,.int .i64 0] ?_
 refine sD [(2,pV h1.size),(3,pV h6.size),(4,.int .i64 1),(5,wv s.b),(6,.int .i64 0),(7,.agg #[wv s.a,wv s.b,wv s.c,wv s.d,wv s.e,wv s.f,wv s.g,wv s.h]),(8,.int .i64 1),(12,.int .i64 0)] ?_
 clear hF a; intro a hF
 refine tK ?_
 refine cP 8 hF ?_
 refine sP 8 [.int .i64 1,.int .i64 4,.int .i64 0,.int .i64 4,wv s.b,.int .i64 0,.int .i64 0,.int .i64 24] ?_
 refine s1 9 (wv (s.b >>> 24)) (.int .u32 (Int.fdiv (s.b.toNat : Int) (2 ^ 24))) (shr32 s.b 24) ?_
 refine s1 10 (bv (b32 (s.b >>> 24))) (.int .u8 (IntKind.u8.wrap ((s.b >>> 24).toNat : Int))) (conv32 (s.b >>> 24)) ?_
 refine sP 11 [.pointer (some ⟨h6.size,4,none⟩)] ?_
 refine SeqK.eff (k' := 12) (Does.store (b := h6.size) (off := 4) (vs := [bv (b32 (s.b >>> 24))]) (l := (tk s 4)) (by kernel_rfl) m13 (of_decide_eq_true (by kernel_rfl)) (List.all_eq_true.1 (by kernel_rfl))) rfl ?_
 rintro _ h24 ⟨rfl,hh⟩
 have g25 : Grew (some (h6.size)) h22 h24 := hput_gr hh
 replace m13 : h24[h6.size]? = some (.cells ((tk s 5)).toArray 31) := hput_at (off := 4) (vs := [bv (b32 (s.b >>> 24))]) (l := ((tk s 4))) hh (by kernel_rfl) m13
 clear hh
 replace e0 := e0.grew g25 (by rintro _ ⟨⟩; omega)
 replace m3 := Grew.blk g25 m3 (by simp; omega)
 replace m8 := Grew.blk g25 m8 (by simp; omega)
 refine sD [(2,pV h1.size),(3,pV h6.size),(4,.int .i64 1),(5,wv s.b),(7,.agg #[wv s.a,wv s.b,wv s.c,wv s.d,wv s.e,wv s.f,wv s.g,wv s.h]),(8,.int .i64 1),(12,.int .i64 0)] ?_
 clear hF a; intro a hF
 show C Tryd.prog (sub b48 [1,1,0,1,0,0,1,1,0,0,1,1,0,0,1,1,1]) _ a h24
 refine cP 9 hF ?_
 refine sP 2 [.int .i64 1,.int .i64 1] ?_
 refine sD [(2,pV h1.size),(3,pV h6.size),(4,.int .i64 1),(5,wv s.b),(7,.agg #[wv s.a,wv s.b,wv s.c,wv s.d,wv s.e,wv s.f,wv s.g,wv s.h]),(8,.int .i64 1),(12,.int .i64 1)] ?_
 clear hF a; intro a hF
 show Crounds _ _ _ _ 4 a h24
 refine Cround.step ?_
 refine cS ?_
 refine cP 6 hF ?_
 refine sP 1 [.bool true] ?_
 refine sD [(2,pV h1.size),(3,pV h6.size),(4,.int .i64 1),(5,wv s.b),(7,.agg #[wv s.a,wv s.b,wv s.c,wv s.d,wv s.e,wv s.f,wv s.g,wv s.h]),(8,.int .i64 1),(12,.int .i64 1),(13,.bool true)] ?_
 clear hF a; intro a hF
 refine tK ?_
 refine cS ?_
 refine cT 13 hF ?_
 refine cN ?_
 refine tK ?_
 refine cS ?_
 refine cB 3 ?_
 refine cS ?_
 refine cP 7 hF ?_
 refine sP 2 [.int .i64 1,.int .i64 1] ?_
 refine sD [(2,pV h1.size),(3,pV h6.size),(4,.int .i64 1),(5,wv s.b),(6,.int .i64 1),(7,.agg #[wv s.a,wv s.b,wv s.c,wv s.d,wv s.e,wv s.f,wv s.g,wv s.h]),(8,.int .i64 1),(12,.int .i64 1)] ?_
 clear hF a; intro a hF
 refine tK ?_
 refine cP 8 hF ?_
 refine sP 8 [.int .i64 1,.int .i64 4,.int .i64 1,.int .i64 5,wv s.b,.int .i64 1,.int .i64 8,.int .i64 16] ?_
 refine s1 9 (wv (s.b >>> 16)) (.int .u32 (Int.fdiv (s.b.toNat : Int) (2 ^ 16))) (shr32 s.b 16) ?_
 refine s1 10 (bv (b32 (s.b >>> 16))) (.int .u8 (IntKind.u8.wrap ((s.b >>> 16).toNat : Int))) (conv32 (s.b >>> 16)) ?_
 refine sP 11 [.pointer (some ⟨h6.size,5,none⟩)] ?_
 refine SeqK.eff (k' := 12) (Does.store (b := h6.size) (off := 5) (vs := [bv (b32 (s.b >>> 16))]) (l := (tk s 5)) (by kernel_rfl) m13 (of_decide_eq_true (by kernel_rfl)) (List.all_eq_true.1 (by kernel_rfl))) rfl ?_
 rintro _ h26 ⟨rfl,hh⟩
 have g27 : Grew (some (h6.size)) h24 h26 := hput_gr hh
 replace m13 : h26[h6.size]? = some (.cells ((tk s 6)).toArray 31) := hput_at (off := 5) (vs := [bv (b32 (s.b >>> 16))]) (l := ((tk s 5))) hh (by kernel_rfl) m13
 clear hh
 replace e0 := e0.grew g27 (by rintro _ ⟨⟩; omega)
 replace m3 := Grew.blk g27 m3 (by simp; omega)
 replace m8 := Grew.blk g27 m8 (by simp; omega)
 refine sD [(2,pV h1.size),(3,pV h6.size),(4,.int .i64 1),(5,wv s.b),(7,.agg #[wv s.a,wv s.b,wv s.c,wv s.d,wv s.e,wv s.f,wv s.g,wv s.h]),(8,.int .i64 1),(12,.int .i64 1)] ?_
 clear hF a; intro a hF
 show C Tryd.prog (sub b48 [1,1,0,1,0,0,1,1,0,0,1,1,0,0,1,1,1]) _ a h26
 refine cP 9 hF ?_
 refine sP 2 [.int .i64 2,.int .i64 2] ?_
 refine sD [(2,pV h1.size),(3,pV h6.size),(4,.int .i64 1),(5,wv s.b),(7,.agg #[wv s.a,wv s.b,wv s.c,wv s.d,wv s.e,wv s.f,wv s.g,wv s.h]),(8,.int .i64 1),(12,.int .i64 2)] ?_
 clear hF a; intro a hF
 show Crounds _ _ _ _ 3 a h26
 refine Cround.step ?_
 refine cS ?_
 refine cP 6 hF ?_
 refine sP 1 [.bool true] ?_
 refine sD [(2,pV h1.size),(3,pV h6.size),(4,.int .i64 1),(5,wv s.b),(7,.agg #[wv s.a,wv s.b,wv s.c,wv s.d,wv s.e,wv s.f,wv s.g,wv s.h]),(8,.int .i64 1),(12,.int .i64 2),(13,.bool true)] ?_
 clear hF a; intro a hF
 refine tK ?_
 refine cS ?_
 refine cT 13 hF ?_
 refine cN ?_
 refine tK ?_
 refine cS ?_
 refine cB 3 ?_
 refine cS ?_
 refine cP 7 hF ?_
 refine sP 2 [.int .i64 2,.int .i64 2] ?_
 refine sD [(2,pV h1.size),(3,pV h6.size),(4,.int .i64 1),(5,wv s.b),(6,.int .i64 2),(7,.agg #[wv s.a,wv s.b,wv s.c,wv s.d,wv s.e,wv s.f,wv s.g,wv s.h]),(8,.int .i64 1),(12,.int .i64 2)] ?_
 clear hF a; intro a hF
 refine tK ?_
 refine cP 8 hF ?_
 refine sP 8 [.int .i64 1,.int .i64 4,.int .i64 2,.int .i64 6,wv s.b,.int .i64 2,.int .i64 16,.int .i64 8] ?_
 refine s1 9 (wv (s.b >>> 8)) (.int .u32 (Int.fdiv (s.b.toNat : Int) (2 ^ 8))) (shr32 s.b 8) ?_
 refine s1 10 (bv (b32 (s.b >>> 8))) (.int .u8 (IntKind.u8.wrap ((s.b >>> 8).toNat : Int))) (conv32 (s.b >>> 8)) ?_
 refine sP 11 [.pointer (some ⟨h6.size,6,none⟩)] ?_
 refine SeqK.eff (k' := 12) (Does.store (b := h6.size) (off := 6) (vs := [bv (b32 (s.b >>> 8))]) (l := (tk s 6)) (by kernel_rfl) m13 (of_decide_eq_true (by kernel_rfl)) (List.all_eq_true.1 (by kernel_rfl))) rfl ?_
 rintro _ h28 ⟨rfl,hh⟩
 have g29 : Grew (some (h6.size)) h26 h28 := hput_gr hh
 replace m13 : h28[h6.size]? = some (.cells ((tk s 7)).toArray 31) := hput_at (off := 6) (vs := [bv (b32 (s.b >>> 8))]) (l := ((tk s 6))) hh (by kernel_rfl) m13
 clear hh
 replace e0 := e0.grew g29 (by rintro _ ⟨⟩; omega)
 replace m3 := Grew.blk g29 m3 (by simp; omega)
 replace m8 := Grew.blk g29 m8 (by simp; omega)
 refine sD [(2,pV h1.size),(3,pV h6.size),(4,.int .i64 1),(5,wv s.b),(7,.agg #[wv s.a,wv s.b,wv s.c,wv s.d,wv s.e,wv s.f,wv s.g,wv s.h]),(8,.int .i64 1),(12,.int .i64 2)] ?_
 clear hF a; intro a hF
 show C Tryd.prog (sub b48 [1,1,0,1,0,0,1,1,0,0,1,1,0,0,1,1,1]) _ a h28
 refine cP 9 hF ?_
 refine sP 2 [.int .i64 3,.int .i64 3] ?_
 refine sD [(2,pV h1.size),(3,pV h6.size),(4,.int .i64 1),(5,wv s.b),(7,.agg #[wv s.a,wv s.b,wv s.c,wv s.d,wv s.e,wv s.f,wv s.g,wv s.h]),(8,.int .i64 1),(12,.int .i64 3)] ?_
 clear hF a; intro a hF
 show Crounds _ _ _ _ 2 a h28
 refine Cround.step ?_
 refine cS ?_
 refine cP 6 hF ?_
 refine sP 1 [.bool true] ?_
 refine sD [(2,pV h1.size),(3,pV h6.size),(4,.int .i64 1),(5,wv s.b),(7,.agg #[wv s.a,wv s.b,wv s.c,wv s.d,wv s.e,wv s.f,wv s.g,wv s.h]),(8,.int .i64 1),(12,.int .i64 3),(13,.bool true)] ?_
 clear hF a; intro a hF
 refine tK ?_
 refine cS ?_
 refine cT 13 hF ?_
 refine cN ?_
 refine tK ?_
 refine cS ?_
 refine cB 3 ?_
 refine cS ?_
 refine cP 7 hF ?_
 refine sP 2 [.int .i64 3,.int .i64 3] ?_
 refine sD [(2,pV h1.size),(3,pV h6.size),(4,.int .i64 1),(5,wv s.b),(6,.int .i64 3),(7,.agg #[wv s.a,wv s.b,wv s.c,wv s.d,wv s.e,wv s.f,wv s.g,wv s.h]),(8,.int .i64 1),(12,.int .i64 3)] ?_
 clear hF a; intro a hF
 refine tK ?_
 refine cP 8 hF ?_
 refine sP 8 [.int .i64 1,.int .i64 4,.int .i64 3,.int .i64 7,wv s.b,.int .i64 3,.int .i64 24,.int .i64 0] ?_
 refine s1 9 (wv (s.b >>> 0)) (.int .u32 (Int.fdiv (s.b.toNat : Int) (2 ^ 0))) (shr32 s.b 0) ?_
 refine s1 10 (bv (b32 (s.b >>> 0))) (.int .u8 (IntKind.u8.wrap ((s.b >>> 0).toNat : Int))) (conv32 (s.b >>> 0)) ?_
 refine sP 11 [.pointer (some ⟨h6.size,7,none⟩)] ?_
 refine SeqK.eff (k' := 12) (Does.store (b := h6.size) (off := 7) (vs := [bv (b32 (s.b >>> 0))]) (l := (tk s 7)) (by kernel_rfl) m13 (of_decide_eq_true (by kernel_rfl)) (List.all_eq_true.1 (by kernel_rfl))) rfl ?_
 rintro _ h30 ⟨rfl,hh⟩
 have g31 : Grew (some (h6.size)) h28 h30 := hput_gr hh
 replace m13 : h30[h6.size]? = some (.cells ((tk s 8)).toArray 31) := hput_at (off := 7) (vs := [bv (b32 (s.b >>> 0))]) (l := ((tk s 7))) hh (by kernel_rfl) m13
 clear hh
 replace e0 := e0.grew g31 (by rintro _ ⟨⟩; omega)
 replace m3 := Grew.blk g31 m3 (by simp; omega)
 replace m8 := Grew.blk g31 m8 (by simp; omega)
 refine sD [(2,pV h1.size),(3,pV h6.size),(4,.int .i64 1),(5,wv s.b),(7,.agg #[wv s.a,wv s.b,wv s.c,wv s.d,wv s.e,wv s.f,wv s.g,wv s.h]),(8,.int .i64 1),(12,.int .i64 3)] ?_
 clear hF a; intro a hF
 show C Tryd.prog (sub b48 [1,1,0,1,0,0,1,1,0,0,1,1,0,0,1,1,1]) _ a h30
 refine cP 9 hF ?_
 refine sP 2 [.int .i64 4,.int .i64 4] ?_
 refine sD [(2,pV h1.size),(3,pV h6.size),(4,.int .i64 1),(5,wv s.b),(7,.agg #[wv s.a,wv s.b,wv s.c,wv s.d,wv s.e,wv s.f,wv s.g,wv s.h]),(8,.int .i64 1),(12,.int .i64 4)] ?_
 clear hF a; intro a hF
 show Crounds _ _ _ _ 1 a h30
 refine Cround.step ?_
 refine cS ?_
 refine cP 6 hF ?_
 refine sP 1 [.bool false] ?_
 refine sD [(2,pV h1.size),(3,pV h6.size),(4,.int .i64 1),(5,wv s.b),(7,.agg #[wv s.a,wv s.b,wv s.c,wv s.d,wv s.e,wv s.f,wv s.g,wv s.h]),(8,.int .i64 1),(12,.int .i64 4),(13,.bool false)] ?_
 clear hF a; intro a hF
 refine tK ?_
 refine cS ?_
 refine cF 13 hF ?_
 refine cX 2 ?_
 show C Tryd.prog (sub b48 [1,1,0,1,0,0,1,1,1]) _ a h30
 refine cP 10 hF ?_
 refine sP 2 [.int .i64 2,.int .i64 2] ?_
 refine sD [(2,pV h1.size),(3,pV h6.size),(7,.agg #[wv s.a,wv s.b,wv s.c,wv s.d,wv s.e,wv s.f,wv s.g,wv s.h]),(8,.int .i64 2)] ?_
 clear hF a; intro a hF
 show Crounds _ _ _ _ 7 a h30
 refine Cround.step ?_
 refine cS ?_
 refine cP 3 hF ?_
 refine sP 1 [.bool true] ?_
 refine sD [(2,pV h1.size),(3,pV h6.size),(7,.agg #[wv s.a,wv s.b,wv s.c,wv s.d,wv s.e,wv s.f,wv s.g,wv s.h]),(8,.int .i64 2),(9,.bool true)] ?_
 clear hF a; intro a hF
 refine tK ?_
 refine cS ?_
 refine cT 9 hF ?_
 refine cN ?_
 refine tK ?_
 refine cS ?_
 refine cB 1 ?_
 refine cS ?_
 refine cP 4 hF ?_
 refine sP 4 [.int .i64 2,wv s.c,.int .i64 2,wv s.c] ?_
 refine sD [(2,pV h1.size),(3,pV h6.size),(4,.int .i64 2),(5,wv s.c),(7,.agg #[wv s.a,wv s.b,wv s.c,wv s.d,wv s.e,wv s.f,wv s.g,wv s.h]),(8,.int .i64 2)] ?_
 clear hF a; intro a hF
 refine tK ?_
 refine cS ?_
 refine cP 5 hF ?_
 refine sP 1 [.int .i64 0] ?_
 refine sD [(2,pV h1.size),(3,pV h6.size),(4,.int .i64 2),(5,wv s.c),(7,.agg #[wv s.a,wv s.b,wv s.c,wv s.d,wv s.e,wv s.f,wv s.g,wv s.h]),(8,.int .i64 2),(12,.int .i64 0)] ?_
 clear hF a; intro a hF
 refine tK ?_
 refine cB 2 ?_
 refine C.unroll 5 [1,1,0,1,0,0,1,1,0,0,1,1,0,0] (by kernel_rfl) ?_
 refine Cround.step ?_
 refine cS ?_
 refine cP 6 hF ?_
 refine sP 1 [.bool true] ?_
 refine sD [(2,pV h1.size),(3,pV h6.size),(4,.int .i64 2),(5,wv s.c),(7,.agg #[wv s.a,wv s.b,wv s.c,wv s.d,wv s.e,wv s.f,wv s.g,wv s.h]),(8,.int .i64 2),(12,.int .i64 0),(13,.bool true)] ?_
 clear hF a; intro a hF
 refine tK ?_
 refine cS ?_
 refine cT 13 hF ?_
 refine cN ?_
 refine tK ?_
 refine cS ?_
 refine cB 3 ?_
 refine cS ?_
 refine cP 7 hF ?_
 refine sP 2 [.int .i64 0,.int .i64 0] ?_
 refine sD [(2,pV h1.size),(3,pV h6.size),(4,.int .i64 2),(5,wv s.c),(6,.int .i64 0),(7,.agg #[wv s.a,wv s.b,wv s.c,wv s.d,wv s.e,wv s.f,wv s.g,wv s.h]),(8,.int .i64 2),(12,.int .i64 0)] ?_
 clear hF a; intro a hF
 refine tK ?_
 refine cP 8 hF ?_
 refine sP 8 [.int .i64 2,.int .i64 8,.int .i64 0,.int .i64 8,wv s.c,.int .i64 0,.int .i64 0,.int .i64 24] ?_
 refine s1 9 (wv (s.c >>> 24)) (.int .u32 (Int.fdiv (s.c.toNat : Int) (2 ^ 24))) (shr32 s.c 24) ?_
 refine s1 10 (bv (b32 (s.c >>> 24))) (.int .u8 (IntKind.u8.wrap ((s.c >>> 24).toNat : Int))) (conv32 (s.c >>> 24)) ?_
 refine sP 11 [.pointer (some ⟨h6.size,8,none⟩)] ?_
 refine SeqK.eff (k' := 12) (Does.store (b := h6.size) (off := 8) (vs := [bv (b32 (s.c >>> 24))]) (l := (tk s 8)) (by kernel_rfl) m13 (of_decide_eq_true (by kernel_rfl)) (List.all_eq_true.1 (by kernel_rfl))) rfl ?_
 rintro _ h32 ⟨rfl,hh⟩
 have g33 : Grew (some (h6.size)) h30 h32 := hput_gr hh
 replace m13 : h32[h6.size]? = some (.cells ((tk s 9)).toArray 31) := hput_at (off := 8) (vs := [bv (b32 (s.c >>> 24))]) (l := ((tk s 8))) hh (by kernel_rfl) m13
 clear hh
 replace e0 := e0.grew g33 (by rintro _ ⟨⟩; omega)
 replace m3 := Grew.blk g33 m3 (by simp; omega)
 replace m8 := Grew.blk g33 m8 (by simp; omega)
 refine sD [(2,pV h1.size),(3,pV h6.size),(4,.int .i64 2),(5,wv s.c),(7,.agg #[wv s.a,wv s.b,wv s.c,wv s.d,wv s.e,wv s.f,wv s.g,wv s.h]),(8,.int .i64 2),(12,.int .i64 0)] ?_
 clear hF a; intro a hF
 show C Tryd.prog (sub b48 [1,1,0,1,0,0,1,1,0,0,1,1,0,0,1,1,1]) _ a h32
 refine cP 9 hF ?_
 refine sP 2 [.int .i64 1,.int .i64 1] ?_
 refine sD [(2,pV h1.size),(3,pV h6.size),(4,.int .i64 2),(5,wv s.c),(7,.agg #[wv s.a,wv s.b,wv s.c,wv s.d,wv s.e,wv s.f,wv s.g,wv s.h]),(8,.int .i64 2),(12,.int .i64 1)] ?_
 clear hF a; intro a hF
 show Crounds _ _ _ _ 4 a h32
 refine Cround.step ?_
 refine cS ?_
 refine cP 6 hF ?_
 refine sP 1 [.bool true] ?_
 refine sD [(2,pV h1.size),(3,pV h6.size),(4,.int .i64 2),(5,wv s.c),(7,.agg #[wv s.a,wv s.b,wv s.c,wv s.d,wv s.e,wv s.f,wv s.g,wv s.h]),(8,.int .i64 2),(12,.int .i64 1),(13,.bool true)] ?_
 clear hF a; intro a hF
 refine tK ?_
 refine cS ?_
 refine cT 13 hF ?_
 refine cN ?_
 refine tK ?_
 refine cS ?_
 refine cB 3 ?_
 refine cS ?_
 refine cP 7 hF ?_
 refine sP 2 [.int .i64 1,.int .i64 1] ?_
 refine sD [(2,pV h1.size),(3,pV h6.size),(4,.int .i64 2),(5,wv s.c),(6,.int .i64 1),(7,.agg #[wv s.a,wv s.b,wv s.c,wv s.d,wv s.e,wv s.f,wv s.g,wv s.h]),(8,.int .i64 2),(12,.int .i64 1)] ?_
 clear hF a; intro a hF
 refine tK ?_
 refine cP 8 hF ?_
 refine sP 8 [.int .i64 2,.int .i64 8,.int .i64 1,.int .i64 9,wv s.c,.int .i64 1,.int .i64 8,.int .i64 16] ?_
 refine s1 9 (wv (s.c >>> 16)) (.int .u32 (Int.fdiv (s.c.toNat : Int) (2 ^ 16))) (shr32 s.c 16) ?_
 refine s1 10 (bv (b32 (s.c >>> 16))) (.int .u8 (IntKind.u8.wrap ((s.c >>> 16).toNat : Int))) (conv32 (s.c >>> 16)) ?_
 refine sP 11 [.pointer (some ⟨h6.size,9,none⟩)] ?_
 refine SeqK.eff (k' := 12) (Does.store (b := h6.size) (off := 9) (vs := [bv (b32 (s.c >>> 16))]) (l := (tk s 9)) (by kernel_rfl) m13 (of_decide_eq_true (by kernel_rfl)) (List.all_eq_true.1 (by kernel_rfl))) rfl ?_
 rintro _ h34 ⟨rfl,hh⟩
 have g35 : Grew (some (h6.size)) h32 h34 := hput_gr hh
 replace m13 : h34[h6.size]? = some (.cells ((tk s 10)).toArray 31) := hput_at (off := 9) (vs := [bv (b32 (s.c >>> 16))]) (l := ((tk s 9))) hh (by kernel_rfl) m13
 clear hh
 replace e0 := e0.grew g35 (by rintro _ ⟨⟩; omega)
 replace m3 := Grew.blk g35 m3 (by simp; omega)
 replace m8 := Grew.blk g35 m8 (by simp; omega)
 refine sD [(2,pV h1.size),(3,pV h6.size),(4,.int .i64 2),(5,wv s.c),(7,.agg #[wv s.a,wv s.b,wv s.c,wv s.d,wv s.e,wv s.f,wv s.g,wv s.h]),(8,.int .i64 2),(12,.int .i64 1)] ?_
 clear hF a; intro a hF
 show C Tryd.prog (sub b48 [1,1,0,1,0,0,1,1,0,0,1,1,0,0,1,1,1]) _ a h34
 refine cP 9 hF ?_
 refine sP 2 [.int .i64 2,.int .i64 2] ?_
 refine sD [(2,pV h1.size),(3,pV h6.size),(4,.int .i64 2),(5,wv s.c),(7,.agg #[wv s.a,wv s.b,wv s.c,wv s.d,wv s.e,wv s.f,wv s.g,wv s.h]),(8,.int .i64 2),(12,.int .i64 2)] ?_
 clear hF a; intro a hF
 show Crounds _ _ _ _ 3 a h34
 refine Cround.step ?_
 refine cS ?_
 refine cP 6 hF ?_
 refine sP 1 [.bool true] ?_
 refine sD [(2,pV h1.size),(3,pV h6.size),(4,.int .i64 2),(5,wv s.c),(7,.agg #[wv s.a,wv s.b,wv s.c,wv s.d,wv s.e,wv s.f,wv s.g,wv s.h]),(8,.int .i64 2),(12,.int .i64 2),(13,.bool true)] ?_
 clear hF a; intro a hF
 refine tK ?_
 refine cS ?_
 refine cT 13 hF ?_
 refine cN ?_
 refine tK ?_
 refine cS ?_
 refine cB 3 ?_
 refine cS ?_
 refine cP 7 hF ?_
 refine sP 2 [.int .i64 2,.int .i64 2] ?_
 refine sD [(2,pV h1.size),(3,pV h6.size),(4,.int .i64 2),(5,wv s.c),(6,.int .i64 2),(7,.agg #[wv s.a,wv s.b,wv s.c,wv s.d,wv s.e,wv s.f,wv s.g,wv s.h]),(8,.int .i64 2),(12,.int .i64 2)] ?_
 clear hF a; intro a hF
 refine tK ?_
 refine cP 8 hF ?_
 refine sP 8 [.int .i64 2,.int .i64 8,.int .i64 2,.int .i64 10,wv s.c,.int .i64 2,.int .i64 16,.int .i64 8] ?_
 refine s1 9 (wv (s.c >>> 8)) (.int .u32 (Int.fdiv (s.c.toNat : Int) (2 ^ 8))) (shr32 s.c 8) ?_
 refine s1 10 (bv (b32 (s.c >>> 8))) (.int .u8 (IntKind.u8.wrap ((s.c >>> 8).toNat : Int))) (conv32 (s.c >>> 8)) ?_
 refine sP 11 [.pointer (some ⟨h6.size,10,none⟩)] ?_
 refine SeqK.eff (k' := 12) (Does.store (b := h6.size) (off := 10) (vs := [bv (b32 (s.c >>> 8))]) (l := (tk s 10)) (by kernel_rfl) m13 (of_decide_eq_true (by kernel_rfl)) (List.all_eq_true.1 (by kernel_rfl))) rfl ?_
 rintro _ h36 ⟨rfl,hh⟩
 have g37 : Grew (some (h6.size)) h34 h36 := hput_gr hh
 replace m13 : h36[h6.size]? = some (.cells ((tk s 11)).toArray 31) := hput_at (off := 10) (vs := [bv (b32 (s.c >>> 8))]) (l := ((tk s 10))) hh (by kernel_rfl) m13
 clear hh
 replace e0 := e0.grew g37 (by rintro _ ⟨⟩; omega)
 replace m3 := Grew.blk g37 m3 (by simp; omega)
 replace m8 := Grew.blk g37 m8 (by simp; omega)
 refine sD [(2,pV h1.size),(3,pV h6.size),(4,.int .i64 2),(5,wv s.c),(7,.agg #[wv s.a,wv s.b,wv s.c,wv s.d,wv s.e,wv s.f,wv s.g,wv s.h]),(8,.int .i64 2),(12,.int .i64 2)] ?_
 clear hF a; intro a hF
 show C Tryd.prog (sub b48 [1,1,0,1,0,0,1,1,0,0,1,1,0,0,1,1,1]) _ a h36
 refine cP 9 hF ?_
 refine sP 2 [.int .i64 3,.int .i64 3] ?_
 refine sD [(2,pV h1.size),(3,pV h6.size),(4,.int .i64 2),(5,wv s.c),(7,.agg #[wv s.a,wv s.b,wv s.c,wv s.d,wv s.e,wv s.f,wv s.g,wv s.h]),(8,.int .i64 2),(12,.int .i64 3)] ?_
 clear hF a; intro a hF
 show Crounds _ _ _ _ 2 a h36
 refine Cround.step ?_
 refine cS ?_
 refine cP 6 hF ?_
 refine sP 1 [.bool true] ?_
 refine sD [(2,pV h1.size),(3,pV h6.size),(4,.int .i64 2),(5,wv s.c),(7,.agg #[wv s.a,wv s.b,wv s.c,wv s.d,wv s.e,wv s.f,wv s.g,wv s.h]),(8,.int .i64 2),(12,.int .i64 3),(13,.bool true)] ?_
 clear hF a; intro a hF
 refine tK ?_
 refine cS ?_
 refine cT 13 hF ?_
 refine cN ?_
 refine tK ?_
 refine cS ?_
 refine cB 3 ?_
 refine cS ?_
 refine cP 7 hF ?_
 refine sP 2 [.int .i64 3,.int .i64 3] ?_
 refine sD [(2,pV h1.size),(3,pV h6.size),(4,.int .i64 2),(5,wv s.c),(6,.int .i64 3),(7,.agg #[wv s.a,wv s.b,wv s.c,wv s.d,wv s.e,wv s.f,wv s.g,wv s.h]),(8,.int .i64 2),(12,.int .i64 3)] ?_
 clear hF a; intro a hF
 refine tK ?_
 refine cP 8 hF ?_
 refine sP 8 [.int .i64 2,.int .i64 8,.int .i64 3,.int .i64 11,wv s.c,.int .i64 3,.int .i64 24,.int .i64 0] ?_
 refine s1 9 (wv (s.c >>> 0)) (.int .u32 (Int.fdiv (s.c.toNat : Int) (2 ^ 0))) (shr32 s.c 0) ?_
 refine s1 10 (bv (b32 (s.c >>> 0))) (.int .u8 (IntKind.u8.wrap ((s.c >>> 0).toNat : Int))) (conv32 (s.c >>> 0)) ?_
 refine sP 11 [.pointer (some ⟨h6.size,11,none⟩)] ?_
 refine SeqK.eff (k' := 12) (Does.store (b := h6.size) (off := 11) (vs := [bv (b32 (s.c >>> 0))]) (l := (tk s 11)) (by kernel_rfl) m13 (of_decide_eq_true (by kernel_rfl)) (List.all_eq_true.1 (by kernel_rfl))) rfl ?_
 rintro _ h38 ⟨rfl,hh⟩
 have g39 : Grew (some (h6.size)) h36 h38 := hput_gr hh
 replace m13 : h38[h6.size]? = some (.cells ((tk s 12)).toArray 31) := hput_at (off := 11) (vs := [bv (b32 (s.c >>> 0))]) (l := ((tk s 11))) hh (by kernel_rfl) m13
 clear hh
 replace e0 := e0.grew g39 (by rintro _ ⟨⟩; omega)
 replace m3 := Grew.blk g39 m3 (by simp; omega)
 replace m8 := Grew.blk g39 m8 (by simp; omega)
 refine sD [(2,pV h1.size),(3,pV h6.size),(4,.int .i64 2),(5,wv s.c),(7,.agg #[wv s.a,wv s.b,wv s.c,wv s.d,wv s.e,wv s.f,wv s.g,wv s.h]),(8,.int .i64 2),(12,.int .i64 3)] ?_
 clear hF a; intro a hF
 show C Tryd.prog (sub b48 [1,1,0,1,0,0,1,1,0,0,1,1,0,0,1,1,1]) _ a h38
 refine cP 9 hF ?_
 refine sP 2 [.int .i64 4,.int .i64 4] ?_
 refine sD [(2,pV h1.size),(3,pV h6.size),(4,.int .i64 2),(5,wv s.c),(7,.agg #[wv s.a,wv s.b,wv s.c,wv s.d,wv s.e,wv s.f,wv s.g,wv s.h]),(8,.int .i64 2),(12,.int .i64 4)] ?_
 clear hF a; intro a hF
 show Crounds _ _ _ _ 1 a h38
 refine Cround.step ?_
 refine cS ?_
 refine cP 6 hF ?_
 refine sP 1 [.bool false] ?_
 refine sD [(2,pV h1.size),(3,pV h6.size),(4,.int .i64 2),(5,wv s.c),(7,.agg #[wv s.a,wv s.b,wv s.c,wv s.d,wv s.e,wv s.f,wv s.g,wv s.h]),(8,.int .i64 2),(12,.int .i64 4),(13,.bool false)] ?_
 clear hF a; intro a hF
 refine tK ?_
 refine cS ?_
 refine cF 13 hF ?_
 refine cX 2 ?_
 show C Tryd.prog (sub b48 [1,1,0,1,0,0,1,1,1]) _ a h38
 refine cP 10 hF ?_
 refine sP 2 [.int .i64 3,.int .i64 3] ?_
 refine sD [(2,pV h1.size),(3,pV h6.size),(7,.agg #[wv s.a,wv s.b,wv s.c,wv s.d,wv s.e,wv s.f,wv s.g,wv s.h]),(8,.int .i64 3)] ?_
 clear hF a; intro a hF
 show Crounds _ _ _ _ 6 a h38
 refine Cround.step ?_
 refine cS ?_
 refine cP 3 hF ?_
 refine sP 1 [.bool true] ?_
 refine sD [(2,pV h1.size),(3,pV h6.size),(7,.agg #[wv s.a,wv s.b,wv s.c,wv s.d,wv s.e,wv s.f,wv s.g,wv s.h]),(8,.int .i64 3),(9,.bool true)] ?_
 clear hF a; intro a hF
 refine tK ?_
 refine cS ?_
 refine cT 9 hF ?_
 refine cN ?_
 refine tK ?_
 refine cS ?_
 refine cB 1 ?_
 refine cS ?_
 refine cP 4 hF ?_
 refine sP 4 [.int .i64 3,wv s.d,.int .i64 3,wv s.d] ?_
 refine sD [(2,pV h1.size),(3,pV h6.size),(4,.int .i64 3),(5,wv s.d),(7,.agg #[wv s.a,wv s.b,wv s.c,wv s.d,wv s.e,wv s.f,wv s.g,wv s.h]),(8,.int .i64 3)] ?_
 clear hF a; intro a hF
 refine tK ?_
 refine cS ?_
 refine cP 5 hF ?_
 refine sP 1 [.int .i64 0] ?_
 refine sD [(2,pV h1.size),(3,pV h6.size),(4,.int .i64 3),(5,wv s.d),(7,.agg #[wv s.a,wv s.b,wv s.c,wv s.d,wv s.e,wv s.f,wv s.g,wv s.h]),(8,.int .i64 3),(12,.int .i64 0)] ?_
 clear hF a; intro a hF
 refine tK ?_
 refine cB 2 ?_
 refine C.unroll 5 [1,1,0,1,0,0,1,1,0,0,1,1,0,0] (by kernel_rfl) ?_
 refine Cround.step ?_
 refine cS ?_
 refine cP 6 hF ?_
 refine sP 1 [.bool true] ?_
 refine sD [(2,pV h1.size),(3,pV h6.size),(4,.int .i64 3),(5,wv s.d),(7,.agg #[wv s.a,wv s.b,wv s.c,wv s.d,wv s.e,wv s.f,wv s.g,wv s.h]),(8,.int .i64 3),(12,.int .i64 0),(13,.bool true)] ?_
 clear hF a; intro a hF
 refine tK ?_
 refine cS ?_
 refine cT 13 hF ?_
 refine cN ?_
 refine tK ?_
 refine cS ?_
 refine cB 3 ?_
 refine cS ?_
 refine cP 7 hF ?_
 refine sP 2 [.int .i64 0,.int .i64 0] ?_
 refine sD [(2,pV h1.size),(3,pV h6.size),(4,.int .i64 3),(5,wv s.d),(6,.int .i64 0),(7,.agg #[wv s.a,wv s.b,wv s.c,wv s.d,wv s.e,wv s.f,wv s.g,wv s.h]),(8,.int .i64 3),(12,.int .i64 0)] ?_
 clear hF a; intro a hF
 refine tK ?_
 refine cP 8 hF ?_
 refine sP 8 [.int .i64 3,.int .i64 12,.int .i64 0,.int .i64 12,wv s.d,.int .i64 0,.int .i64 0,.int .i64 24] ?_
 refine s1 9 (wv (s.d >>> 24)) (.int .u32 (Int.fdiv (s.d.toNat : Int) (2 ^ 24))) (shr32 s.d 24) ?_
 refine s1 10 (bv (b32 (s.d >>> 24))) (.int .u8 (IntKind.u8.wrap ((s.d >>> 24).toNat : Int))) (conv32 (s.d >>> 24)) ?_
 refine sP 11 [.pointer (some ⟨h6.size,12,none⟩)] ?_
 refine SeqK.eff (k' := 12) (Does.store (b := h6.size) (off := 12) (vs := [bv (b32 (s.d >>> 24))]) (l := (tk s 12)) (by kernel_rfl) m13 (of_decide_eq_true (by kernel_rfl)) (List.all_eq_true.1 (by kernel_rfl))) rfl ?_
 rintro _ h40 ⟨rfl,hh⟩
 have g41 : Grew (some (h6.size)) h38 h40 := hput_gr hh
 replace m13 : h40[h6.size]? = some (.cells ((tk s 13)).toArray 31) := hput_at (off := 12) (vs := [bv (b32 (s.d >>> 24))]) (l := ((tk s 12))) hh (by kernel_rfl) m13
 clear hh
 replace e0 := e0.grew g41 (by rintro _ ⟨⟩; omega)
 replace m3 := Grew.blk g41 m3 (by simp; omega)
 replace m8 := Grew.blk g41 m8 (by simp; omega)
 refine sD [(2,pV h1.size),(3,pV h6.size),(4,.int .i64 3),(5,wv s.d),(7,.agg #[wv s.a,wv s.b,wv s.c,wv s.d,wv s.e,wv s.f,wv s.g,wv s.h]),(8,.int .i64 3),(12,.int .i64 0)] ?_
 clear hF a; intro a hF
 show C Tryd.prog (sub b48 [1,1,0,1,0,0,1,1,0,0,1,1,0,0,1,1,1]) _ a h40
 refine cP 9 hF ?_
 refine sP 2 [.int .i64 1,.int .i64 1] ?_
 refine sD [(2,pV h1.size),(3,pV h6.size),(4,.int .i64 3),(5,wv s.d),(7,.agg #[wv s.a,wv s.b,wv s.c,wv s.d,wv s.e,wv s.f,wv s.g,wv s.h]),(8,.int .i64 3),(12,.int .i64 1)] ?_
 clear hF a; intro a hF
 show Crounds _ _ _ _ 4 a h40
 refine Cround.step ?_
 refine cS ?_
 refine cP 6 hF ?_
 refine sP 1 [.bool true] ?_
 refine sD [(2,pV h1.size),(3,pV h6.size),(4,.int .i64 3),(5,wv s.d),(7,.agg #[wv s.a,wv s.b,wv s.c,wv s.d,wv s.e,wv s.f,wv s.g,wv s.h]),(8,.int .i64 3),(12,.int .i64 1),(13,.bool true)] ?_
 clear hF a; intro a hF
 refine tK ?_
 refine cS ?_
 refine cT 13 hF ?_
 refine cN ?_
 refine tK ?_
 refine cS ?_
 refine cB 3 ?_
 refine cS ?_
 refine cP 7 hF ?_
 refine sP 2 [.int .i64 1,.int .i64 1] ?_
 refine sD [(2,pV h1.size),(3,pV h6.size),(4,.int .i64 3),(5,wv s.d),(6,.int .i64 1),(7,.agg #[wv s.a,wv s.b,wv s.c,wv s.d,wv s.e,wv s.f,wv s.g,wv s.h]),(8,.int .i64 3),(12,.int .i64 1)] ?_
 clear hF a; intro a hF
 refine tK ?_
 refine cP 8 hF ?_
 refine sP 8 [.int .i64 3,.int .i64 12,.int .i64 1,.int .i64 13,wv s.d,.int .i64 1,.int .i64 8,.int .i64 16] ?_
 refine s1 9 (wv (s.d >>> 16)) (.int .u32 (Int.fdiv (s.d.toNat : Int) (2 ^ 16))) (shr32 s.d 16) ?_
 refine s1 10 (bv (b32 (s.d >>> 16))) (.int .u8 (IntKind.u8.wrap ((s.d >>> 16).toNat : Int))) (conv32 (s.d >>> 16)) ?_
 refine sP 11 [.pointer (some ⟨h6.size,13,none⟩)] ?_
 refine SeqK.eff (k' := 12) (Does.store (b := h6.size) (off := 13) (vs := [bv (b32 (s.d >>> 16))]) (l := (tk s 13)) (by kernel_rfl) m13 (of_decide_eq_true (by kernel_rfl)) (List.all_eq_true.1 (by kernel_rfl))) rfl ?_
 rintro _ h42 ⟨rfl,hh⟩
 have g43 : Grew (some (h6.size)) h40 h42 := hput_gr hh
 replace m13 : h42[h6.size]? = some (.cells ((tk s 14)).toArray 31) := hput_at (off := 13) (vs := [bv (b32 (s.d >>> 16))]) (l := ((tk s 13))) hh (by kernel_rfl) m13
 clear hh
 replace e0 := e0.grew g43 (by rintro _ ⟨⟩; omega)
 replace m3 := Grew.blk g43 m3 (by simp; omega)
 replace m8 := Grew.blk g43 m8 (by simp; omega)
 refine sD [(2,pV h1.size),(3,pV h6.size),(4,.int .i64 3),(5,wv s.d),(7,.agg #[wv s.a,wv s.b,wv s.c,wv s.d,wv s.e,wv s.f,wv s.g,wv s.h]),(8,.int .i64 3),(12,.int .i64 1)] ?_
 clear hF a; intro a hF
 show C Tryd.prog (sub b48 [1,1,0,1,0,0,1,1,0,0,1,1,0,0,1,1,1]) _ a h42
 refine cP 9 hF ?_
 refine sP 2 [.int .i64 2,.int .i64 2] ?_
 refine sD [(2,pV h1.size),(3,pV h6.size),(4,.int .i64 3),(5,wv s.d),(7,.agg #[wv s.a,wv s.b,wv s.c,wv s.d,wv s.e,wv s.f,wv s.g,wv s.h]),(8,.int .i64 3),(12,.int .i64 2)] ?_
 clear hF a; intro a hF
 show Crounds _ _ _ _ 3 a h42
 refine Cround.step ?_
 refine cS ?_
 refine cP 6 hF ?_
 refine sP 1 [.bool true] ?_
 refine sD [(2,pV h1.size),(3,pV h6.size),(4,.int .i64 3),(5,wv s.d),(7,.agg #[wv s.a,wv s.b,wv s.c,wv s.d,wv s.e,wv s.f,wv s.g,wv s.h]),(8,.int .i64 3),(12,.int .i64 2),(13,.bool true)] ?_
 clear hF a; intro a hF
 refine tK ?_
 refine cS ?_
 refine cT 13 hF ?_
 refine cN ?_
 refine tK ?_
 refine cS ?_
 refine cB 3 ?_
 refine cS ?_
 refine cP 7 hF ?_
 refine sP 2 [.int .i64 2,.int .i64 2] ?_
 refine sD [(2,pV h1.size),(3,pV h6.size),(4,.int .i64 3),(5,wv s.d),(6,.int .i64 2),(7,.agg #[wv s.a,wv s.b,wv s.c,wv s.d,wv s.e,wv s.f,wv s.g,wv s.h]),(8,.int .i64 3),(12,.int .i64 2)] ?_
 clear hF a; intro a hF
 refine tK ?_
 refine cP 8 hF ?_
 refine sP 8 [.int .i64 3,.int .i64 12,.int .i64 2,.int .i64 14,wv s.d,.int .i64 2,.int .i64 16,.int .i64 8] ?_
 refine s1 9 (wv (s.d >>> 8)) (.int .u32 (Int.fdiv (s.d.toNat : Int) (2 ^ 8))) (shr32 s.d 8) ?_
 refine s1 10 (bv (b32 (s.d >>> 8))) (.int .u8 (IntKind.u8.wrap ((s.d >>> 8).toNat : Int))) (conv32 (s.d >>> 8)) ?_
 refine sP 11 [.pointer (some ⟨h6.size,14,none⟩)] ?_
 refine SeqK.eff (k' := 12) (Does.store (b := h6.size) (off := 14) (vs := [bv (b32 (s.d >>> 8))]) (l := (tk s 14)) (by kernel_rfl) m13 (of_decide_eq_true (by kernel_rfl)) (List.all_eq_true.1 (by kernel_rfl))) rfl ?_
 rintro _ h44 ⟨rfl,hh⟩
 have g45 : Grew (some (h6.size)) h42 h44 := hput_gr hh
 replace m13 : h44[h6.size]? = some (.cells ((tk s 15)).toArray 31) := hput_at (off := 14) (vs := [bv (b32 (s.d >>> 8))]) (l := ((tk s 14))) hh (by kernel_rfl) m13
 clear hh
 replace e0 := e0.grew g45 (by rintro _ ⟨⟩; omega)
 replace m3 := Grew.blk g45 m3 (by simp; omega)
 replace m8 := Grew.blk g45 m8 (by simp; omega)
 refine sD [(2,pV h1.size),(3,pV h6.size),(4,.int .i64 3),(5,wv s.d),(7,.agg #[wv s.a,wv s.b,wv s.c,wv s.d,wv s.e,wv s.f,wv s.g,wv s.h]),(8,.int .i64 3),(12,.int .i64 2)] ?_
 clear hF a; intro a hF
 show C Tryd.prog (sub b48 [1,1,0,1,0,0,1,1,0,0,1,1,0,0,1,1,1]) _ a h44
 refine cP 9 hF ?_
 refine sP 2 [.int .i64 3,.int .i64 3] ?_
 refine sD [(2,pV h1.size),(3,pV h6.size),(4,.int .i64 3),(5,wv s.d),(7,.agg #[wv s.a,wv s.b,wv s.c,wv s.d,wv s.e,wv s.f,wv s.g,wv s.h]),(8,.int .i64 3),(12,.int .i64 3)] ?_
 clear hF a; intro a hF
 show Crounds _ _ _ _ 2 a h44
 refine Cround.step ?_
 refine cS ?_
 refine cP 6 hF ?_
 refine sP 1 [.bool true] ?_
 refine sD [(2,pV h1.size),(3,pV h6.size),(4,.int .i64 3),(5,wv s.d),(7,.agg #[wv s.a,wv s.b,wv s.c,wv s.d,wv s.e,wv s.f,wv s.g,wv s.h]),(8,.int .i64 3),(12,.int .i64 3),(13,.bool true)] ?_
 clear hF a; intro a hF
 refine tK ?_
 refine cS ?_
 refine cT 13 hF ?_
 refine cN ?_
 refine tK ?_
 refine cS ?_
 refine cB 3 ?_
 refine cS ?_
 refine cP 7 hF ?_
 refine sP 2 [.int .i64 3,.int .i64 3] ?_
 refine sD [(2,pV h1.size),(3,pV h6.size),(4,.int .i64 3),(5,wv s.d),(6,.int .i64 3),(7,.agg #[wv s.a,wv s.b,wv s.c,wv s.d,wv s.e,wv s.f,wv s.g,wv s.h]),(8,.int .i64 3),(12,.int .i64 3)] ?_
 clear hF a; intro a hF
 refine tK ?_
 refine cP 8 hF ?_
 refine sP 8 [.int .i64 3,.int .i64 12,.int .i64 3,.int .i64 15,wv s.d,.int .i64 3,.int .i64 24,.int .i64 0] ?_
 refine s1 9 (wv (s.d >>> 0)) (.int .u32 (Int.fdiv (s.d.toNat : Int) (2 ^ 0))) (shr32 s.d 0) ?_
 refine s1 10 (bv (b32 (s.d >>> 0))) (.int .u8 (IntKind.u8.wrap ((s.d >>> 0).toNat : Int))) (conv32 (s.d >>> 0)) ?_
 refine sP 11 [.pointer (some ⟨h6.size,15,none⟩)] ?_
 refine SeqK.eff (k' := 12) (Does.store (b := h6.size) (off := 15) (vs := [bv (b32 (s.d >>> 0))]) (l := (tk s 15)) (by kernel_rfl) m13 (of_decide_eq_true (by kernel_rfl)) (List.all_eq_true.1 (by kernel_rfl))) rfl ?_
 rintro _ h46 ⟨rfl,hh⟩
 have g47 : Grew (some (h6.size)) h44 h46 := hput_gr hh
 replace m13 : h46[h6.size]? = some (.cells ((tk s 16)).toArray 31) := hput_at (off := 15) (vs := [bv (b32 (s.d >>> 0))]) (l := ((tk s 15))) hh (by kernel_rfl) m13
 clear hh
 replace e0 := e0.grew g47 (by rintro _ ⟨⟩; omega)
 replace m3 := Grew.blk g47 m3 (by simp; omega)
 replace m8 := Grew.blk g47 m8 (by simp; omega)
 refine sD [(2,pV h1.size),(3,pV h6.size),(4,.int .i64 3),(5,wv s.d),(7,.agg #[wv s.a,wv s.b,wv s.c,wv s.d,wv s.e,wv s.f,wv s.g,wv s.h]),(8,.int .i64 3),(12,.int .i64 3)] ?_
 clear hF a; intro a hF
 show C Tryd.prog (sub b48 [1,1,0,1,0,0,1,1,0,0,1,1,0,0,1,1,1]) _ a h46
 refine cP 9 hF ?_
 refine sP 2 [.int .i64 4,.int .i64 4] ?_
 refine sD [(2,pV h1.size),(3,pV h6.size),(4,.int .i64 3),(5,wv s.d),(7,.agg #[wv s.a,wv s.b,wv s.c,wv s.d,wv s.e,wv s.f,wv s.g,wv s.h]),(8,.int .i64 3),(12,.int .i64 4)] ?_
 clear hF a; intro a hF
 show Crounds _ _ _ _ 1 a h46
 refine Cround.step ?_
 refine cS ?_
 refine cP 6 hF ?_
 refine sP 1 [.bool false] ?_
 refine sD [(2,pV h1.size),(3,pV h6.size),(4,.int .i64 3),(5,wv s.d),(7,.agg #[wv s.a,wv s.b,wv s.c,wv s.d,wv s.e,wv s.f,wv s.g,wv s.h]),(8,.int .i64 3),(12,.int .i64 4),(13,.bool false)] ?_
 clear hF a; intro a hF
 refine tK ?_
 refine cS ?_
 refine cF 13 hF ?_
 refine cX 2 ?_
 show C Tryd.prog (sub b48 [1,1,0,1,0,0,1,1,1]) _ a h46
 refine cP 10 hF ?_
 refine sP 2 [.int .i64 4,.int .i64 4] ?_
 refine sD [(2,pV h1.size),(3,pV h6.size),(7,.agg #[wv s.a,wv s.b,wv s.c,wv s.d,wv s.e,wv s.f,wv s.g,wv s.h]),(8,.int .i64 4)] ?_
 clear hF a; intro a hF
 show Crounds _ _ _ _ 5 a h46
 refine Cround.step ?_
 refine cS ?_
 refine cP 3 hF ?_
 refine sP 1 [.bool true] ?_
 refine sD [(2,pV h1.size),(3,pV h6.size),(7,.agg #[wv s.a,wv s.b,wv s.c,wv s.d,wv s.e,wv s.f,wv s.g,wv s.h]),(8,.int .i64 4),(9,.bool true)] ?_
 clear hF a; intro a hF
 refine tK ?_
 refine cS ?_
 refine cT 9 hF ?_
 refine cN ?_
 refine tK ?_
 refine cS ?_
 refine cB 1 ?_
 refine cS ?_
 refine cP 4 hF ?_
 refine sP 4 [.int .i64 4,wv s.e,.int .i64 4,wv s.e] ?_
 refine sD [(2,pV h1.size),(3,pV h6.size),(4,.int .i64 4),(5,wv s.e),(7,.agg #[wv s.a,wv s.b,wv s.c,wv s.d,wv s.e,wv s.f,wv s.g,wv s.h]),(8,.int .i64 4)] ?_
 clear hF a; intro a hF
 refine tK ?_
 refine cS ?_
 refine cP 5 hF ?_
 refine sP 1 [.int .i64 0] ?_
 refine sD [(2,pV h1.size),(3,pV h6.size),(4,.int .i64 4),(5,wv s.e),(7,.agg #[wv s.a,wv s.b,wv s.c,wv s.d,wv s.e,wv s.f,wv s.g,wv s.h]),(8,.int .i64 4),(12,.int .i64 0)] ?_
 clear hF a; intro a hF
 refine tK ?_
 refine cB 2 ?_
 refine C.unroll 5 [1,1,0,1,0,0,1,1,0,0,1,1,0,0] (by kernel_rfl) ?_
 refine Cround.step ?_
 refine cS ?_
 refine cP 6 hF ?_
 refine sP 1 [.bool true] ?_
 refine sD [(2,pV h1.size),(3,pV h6.size),(4,.int .i64 4),(5,wv s.e),(7,.agg #[wv s.a,wv s.b,wv s.c,wv s.d,wv s.e,wv s.f,wv s.g,wv s.h]),(8,.int .i64 4),(12,.int .i64 0),(13,.bool true)] ?_
 clear hF a; intro a hF
 refine tK ?_
 refine cS ?_
 refine cT 13 hF ?_
 refine cN ?_
 refine tK ?_
 refine cS ?_
 refine cB 3 ?_
 refine cS ?_
 refine cP 7 hF ?_
 refine sP 2 [.int .i64 0,.int .i64 0] ?_
 refine sD [(2,pV h1.size),(3,pV h6.size),(4,.int .i64 4),(5,wv s.e),(6,.int .i64 0),(7,.agg #[wv s.a,wv s.b,wv s.c,wv s.d,wv s.e,wv s.f,wv s.g,wv s.h]),(8,.int .i64 4),(12,.int .i64 0)] ?_
 clear hF a; intro a hF
 refine tK ?_
 refine cP 8 hF ?_
 refine sP 8 [.int .i64 4,.int .i64 16,.int .i64 0,.int .i64 16,wv s.e,.int .i64 0,.int .i64 0,.int .i64 24] ?_
 refine s1 9 (wv (s.e >>> 24)) (.int .u32 (Int.fdiv (s.e.toNat : Int) (2 ^ 24))) (shr32 s.e 24) ?_
 refine s1 10 (bv (b32 (s.e >>> 24))) (.int .u8 (IntKind.u8.wrap ((s.e >>> 24).toNat : Int))) (conv32 (s.e >>> 24)) ?_
 refine sP 11 [.pointer (some ⟨h6.size,16,none⟩)] ?_
 refine SeqK.eff (k' := 12) (Does.store (b := h6.size) (off := 16) (vs := [bv (b32 (s.e >>> 24))]) (l := (tk s 16)) (by kernel_rfl) m13 (of_decide_eq_true (by kernel_rfl)) (List.all_eq_true.1 (by kernel_rfl))) rfl ?_
 rintro _ h48 ⟨rfl,hh⟩
 have g49 : Grew (some (h6.size)) h46 h48 := hput_gr hh
 replace m13 : h48[h6.size]? = some (.cells ((tk s 17)).toArray 31) := hput_at (off := 16) (vs := [bv (b32 (s.e >>> 24))]) (l := ((tk s 16))) hh (by kernel_rfl) m13
 clear hh
 replace e0 := e0.grew g49 (by rintro _ ⟨⟩; omega)
 replace m3 := Grew.blk g49 m3 (by simp; omega)
 replace m8 := Grew.blk g49 m8 (by simp; omega)
 refine sD [(2,pV h1.size),(3,pV h6.size),(4,.int .i64 4),(5,wv s.e),(7,.agg #[wv s.a,wv s.b,wv s.c,wv s.d,wv s.e,wv s.f,wv s.g,wv s.h]),(8,.int .i64 4),(12,.int .i64 0)] ?_
 clear hF a; intro a hF
 show C Tryd.prog (sub b48 [1,1,0,1,0,0,1,1,0,0,1,1,0,0,1,1,1]) _ a h48
 refine cP 9 hF ?_
 refine sP 2 [.int .i64 1,.int .i64 1] ?_
 refine sD [(2,pV h1.size),(3,pV h6.size),(4,.int .i64 4),(5,wv s.e),(7,.agg #[wv s.a,wv s.b,wv s.c,wv s.d,wv s.e,wv s.f,wv s.g,wv s.h]),(8,.int .i64 4),(12,.int .i64 1)] ?_
 clear hF a; intro a hF
 show Crounds _ _ _ _ 4 a h48
 refine Cround.step ?_
 refine cS ?_
 refine cP 6 hF ?_
 refine sP 1 [.bool true] ?_
 refine sD [(2,pV h1.size),(3,pV h6.size),(4,.int .i64 4),(5,wv s.e),(7,.agg #[wv s.a,wv s.b,wv s.c,wv s.d,wv s.e,wv s.f,wv s.g,wv s.h]),(8,.int .i64 4),(12,.int .i64 1),(13,.bool true)] ?_
 clear hF a; intro a hF
 refine tK ?_
 refine cS ?_
 refine cT 13 hF ?_
 refine cN ?_
 refine tK ?_
 refine cS ?_
 refine cB 3 ?_
 refine cS ?_
 refine cP 7 hF ?_
 refine sP 2 [.int .i64 1,.int .i64 1] ?_
 refine sD [(2,pV h1.size),(3,pV h6.size),(4,.int .i64 4),(5,wv s.e),(6,.int .i64 1),(7,.agg #[wv s.a,wv s.b,wv s.c,wv s.d,wv s.e,wv s.f,wv s.g,wv s.h]),(8,.int .i64 4),(12,.int .i64 1)] ?_
 clear hF a; intro a hF
 refine tK ?_
 refine cP 8 hF ?_
 refine sP 8 [.int .i64 4,.int .i64 16,.int .i64 1,.int .i64 17,wv s.e,.int .i64 1,.int .i64 8,.int .i64 16] ?_
 refine s1 9 (wv (s.e >>> 16)) (.int .u32 (Int.fdiv (s.e.toNat : Int) (2 ^ 16))) (shr32 s.e 16) ?_
 refine s1 10 (bv (b32 (s.e >>> 16))) (.int .u8 (IntKind.u8.wrap ((s.e >>> 16).toNat : Int))) (conv32 (s.e >>> 16)) ?_
 refine sP 11 [.pointer (some ⟨h6.size,17,none⟩)] ?_
 refine SeqK.eff (k' := 12) (Does.store (b := h6.size) (off := 17) (vs := [bv (b32 (s.e >>> 16))]) (l := (tk s 17)) (by kernel_rfl) m13 (of_decide_eq_true (by kernel_rfl)) (List.all_eq_true.1 (by kernel_rfl))) rfl ?_
 rintro _ h50 ⟨rfl,hh⟩
 have g51 : Grew (some (h6.size)) h48 h50 := hput_gr hh
 replace m13 : h50[h6.size]? = some (.cells ((tk s 18)).toArray 31) := hput_at (off := 17) (vs := [bv (b32 (s.e >>> 16))]) (l := ((tk s 17))) hh (by kernel_rfl) m13
 clear hh
 replace e0 := e0.grew g51 (by rintro _ ⟨⟩; omega)
 replace m3 := Grew.blk g51 m3 (by simp; omega)
 replace m8 := Grew.blk g51 m8 (by simp; omega)
 refine sD [(2,pV h1.size),(3,pV h6.size),(4,.int .i64 4),(5,wv s.e),(7,.agg #[wv s.a,wv s.b,wv s.c,wv s.d,wv s.e,wv s.f,wv s.g,wv s.h]),(8,.int .i64 4),(12,.int .i64 1)] ?_
 clear hF a; intro a hF
 show C Tryd.prog (sub b48 [1,1,0,1,0,0,1,1,0,0,1,1,0,0,1,1,1]) _ a h50
 refine cP 9 hF ?_
 refine sP 2 [.int .i64 2,.int .i64 2] ?_
 refine sD [(2,pV h1.size),(3,pV h6.size),(4,.int .i64 4),(5,wv s.e),(7,.agg #[wv s.a,wv s.b,wv s.c,wv s.d,wv s.e,wv s.f,wv s.g,wv s.h]),(8,.int .i64 4),(12,.int .i64 2)] ?_
 clear hF a; intro a hF
 show Crounds _ _ _ _ 3 a h50
 refine Cround.step ?_
 refine cS ?_
 refine cP 6 hF ?_
 refine sP 1 [.bool true] ?_
 refine sD [(2,pV h1.size),(3,pV h6.size),(4,.int .i64 4),(5,wv s.e),(7,.agg #[wv s.a,wv s.b,wv s.c,wv s.d,wv s.e,wv s.f,wv s.g,wv s.h]),(8,.int .i64 4),(12,.int .i64 2),(13,.bool true)] ?_
 clear hF a; intro a hF
 refine tK ?_
 refine cS ?_
 refine cT 13 hF ?_
 refine cN ?_
 refine tK ?_
 refine cS ?_
 refine cB 3 ?_
 refine cS ?_
 refine cP 7 hF ?_
 refine sP 2 [.int .i64 2,.int .i64 2] ?_
 refine sD [(2,pV h1.size),(3,pV h6.size),(4,.int .i64 4),(5,wv s.e),(6,.int .i64 2),(7,.agg #[wv s.a,wv s.b,wv s.c,wv s.d,wv s.e,wv s.f,wv s.g,wv s.h]),(8,.int .i64 4),(12,.int .i64 2)] ?_
 clear hF a; intro a hF
 refine tK ?_
 refine cP 8 hF ?_
 refine sP 8 [.int .i64 4,.int .i64 16,.int .i64 2,.int .i64 18,wv s.e,.int .i64 2,.int .i64 16,.int .i64 8] ?_
 refine s1 9 (wv (s.e >>> 8)) (.int .u32 (Int.fdiv (s.e.toNat : Int) (2 ^ 8))) (shr32 s.e 8) ?_
 refine s1 10 (bv (b32 (s.e >>> 8))) (.int .u8 (IntKind.u8.wrap ((s.e >>> 8).toNat : Int))) (conv32 (s.e >>> 8)) ?_
 refine sP 11 [.pointer (some ⟨h6.size,18,none⟩)] ?_
 refine SeqK.eff (k' := 12) (Does.store (b := h6.size) (off := 18) (vs := [bv (b32 (s.e >>> 8))]) (l := (tk s 18)) (by kernel_rfl) m13 (of_decide_eq_true (by kernel_rfl)) (List.all_eq_true.1 (by kernel_rfl))) rfl ?_
 rintro _ h52 ⟨rfl,hh⟩
 have g53 : Grew (some (h6.size)) h50 h52 := hput_gr hh
 replace m13 : h52[h6.size]? = some (.cells ((tk s 19)).toArray 31) := hput_at (off := 18) (vs := [bv (b32 (s.e >>> 8))]) (l := ((tk s 18))) hh (by kernel_rfl) m13
 clear hh
 replace e0 := e0.grew g53 (by rintro _ ⟨⟩; omega)
 replace m3 := Grew.blk g53 m3 (by simp; omega)
 replace m8 := Grew.blk g53 m8 (by simp; omega)
 refine sD [(2,pV h1.size),(3,pV h6.size),(4,.int .i64 4),(5,wv s.e),(7,.agg #[wv s.a,wv s.b,wv s.c,wv s.d,wv s.e,wv s.f,wv s.g,wv s.h]),(8,.int .i64 4),(12,.int .i64 2)] ?_
 clear hF a; intro a hF
 show C Tryd.prog (sub b48 [1,1,0,1,0,0,1,1,0,0,1,1,0,0,1,1,1]) _ a h52
 refine cP 9 hF ?_
 refine sP 2 [.int .i64 3,.int .i64 3] ?_
 refine sD [(2,pV h1.size),(3,pV h6.size),(4,.int .i64 4),(5,wv s.e),(7,.agg #[wv s.a,wv s.b,wv s.c,wv s.d,wv s.e,wv s.f,wv s.g,wv s.h]),(8,.int .i64 4),(12,.int .i64 3)] ?_
 clear hF a; intro a hF
 show Crounds _ _ _ _ 2 a h52
 refine Cround.step ?_
 refine cS ?_
 refine cP 6 hF ?_
 refine sP 1 [.bool true] ?_
 refine sD [(2,pV h1.size),(3,pV h6.size),(4,.int .i64 4),(5,wv s.e),(7,.agg #[wv s.a,wv s.b,wv s.c,wv s.d,wv s.e,wv s.f,wv s.g,wv s.h]),(8,.int .i64 4),(12,.int .i64 3),(13,.bool true)] ?_
 clear hF a; intro a hF
 refine tK ?_
 refine cS ?_
 refine cT 13 hF ?_
 refine cN ?_
 refine tK ?_
 refine cS ?_
 refine cB 3 ?_
 refine cS ?_
 refine cP 7 hF ?_
 refine sP 2 [.int .i64 3,.int .i64 3] ?_
 refine sD [(2,pV h1.size),(3,pV h6.size),(4,.int .i64 4),(5,wv s.e),(6,.int .i64 3),(7,.agg #[wv s.a,wv s.b,wv s.c,wv s.d,wv s.e,wv s.f,wv s.g,wv s.h]),(8,.int .i64 4),(12,.int .i64 3)] ?_
 clear hF a; intro a hF
 refine tK ?_
 refine cP 8 hF ?_
 refine sP 8 [.int .i64 4,.int .i64 16,.int .i64 3,.int .i64 19,wv s.e,.int .i64 3,.int .i64 24,.int .i64 0] ?_
 refine s1 9 (wv (s.e >>> 0)) (.int .u32 (Int.fdiv (s.e.toNat : Int) (2 ^ 0))) (shr32 s.e 0) ?_
 refine s1 10 (bv (b32 (s.e >>> 0))) (.int .u8 (IntKind.u8.wrap ((s.e >>> 0).toNat : Int))) (conv32 (s.e >>> 0)) ?_
 refine sP 11 [.pointer (some ⟨h6.size,19,none⟩)] ?_
 refine SeqK.eff (k' := 12) (Does.store (b := h6.size) (off := 19) (vs := [bv (b32 (s.e >>> 0))]) (l := (tk s 19)) (by kernel_rfl) m13 (of_decide_eq_true (by kernel_rfl)) (List.all_eq_true.1 (by kernel_rfl))) rfl ?_
 rintro _ h54 ⟨rfl,hh⟩
 have g55 : Grew (some (h6.size)) h52 h54 := hput_gr hh
 replace m13 : h54[h6.size]? = some (.cells ((tk s 20)).toArray 31) := hput_at (off := 19) (vs := [bv (b32 (s.e >>> 0))]) (l := ((tk s 19))) hh (by kernel_rfl) m13
 clear hh
 replace e0 := e0.grew g55 (by rintro _ ⟨⟩; omega)
 replace m3 := Grew.blk g55 m3 (by simp; omega)
 replace m8 := Grew.blk g55 m8 (by simp; omega)
 refine sD [(2,pV h1.size),(3,pV h6.size),(4,.int .i64 4),(5,wv s.e),(7,.agg #[wv s.a,wv s.b,wv s.c,wv s.d,wv s.e,wv s.f,wv s.g,wv s.h]),(8,.int .i64 4),(12,.int .i64 3)] ?_
 clear hF a; intro a hF
 show C Tryd.prog (sub b48 [1,1,0,1,0,0,1,1,0,0,1,1,0,0,1,1,1]) _ a h54
 refine cP 9 hF ?_
 refine sP 2 [.int .i64 4,.int .i64 4] ?_
 refine sD [(2,pV h1.size),(3,pV h6.size),(4,.int .i64 4),(5,wv s.e),(7,.agg #[wv s.a,wv s.b,wv s.c,wv s.d,wv s.e,wv s.f,wv s.g,wv s.h]),(8,.int .i64 4),(12,.int .i64 4)] ?_
 clear hF a; intro a hF
 show Crounds _ _ _ _ 1 a h54
 refine Cround.step ?_
 refine cS ?_
 refine cP 6 hF ?_
 refine sP 1 [.bool false] ?_
 refine sD [(2,pV h1.size),(3,pV h6.size),(4,.int .i64 4),(5,wv s.e),(7,.agg #[wv s.a,wv s.b,wv s.c,wv s.d,wv s.e,wv s.f,wv s.g,wv s.h]),(8,.int .i64 4),(12,.int .i64 4),(13,.bool false)] ?_
 clear hF a; intro a hF
 refine tK ?_
 refine cS ?_
 refine cF 13 hF ?_
 refine cX 2 ?_
 show C Tryd.prog (sub b48 [1,1,0,1,0,0,1,1,1]) _ a h54
 refine cP 10 hF ?_
 refine sP 2 [.int .i64 5,.int .i64 5] ?_
 refine sD [(2,pV h1.size),(3,pV h6.size),(7,.agg #[wv s.a,wv s.b,wv s.c,wv s.d,wv s.e,wv s.f,wv s.g,wv s.h]),(8,.int .i64 5)] ?_
 clear hF a; intro a hF
 show Crounds _ _ _ _ 4 a h54
 refine Cround.step ?_
 refine cS ?_
 refine cP 3 hF ?_
 refine sP 1 [.bool true] ?_
 refine sD [(2,pV h1.size),(3,pV h6.size),(7,.agg #[wv s.a,wv s.b,wv s.c,wv s.d,wv s.e,wv s.f,wv s.g,wv s.h]),(8,.int .i64 5),(9,.bool true)] ?_
 clear hF a; intro a hF
 refine tK ?_
 refine cS ?_
 refine cT 9 hF ?_
 refine cN ?_
 refine tK ?_
 refine cS ?_
 refine cB 1 ?_
 refine cS ?_
 refine cP 4 hF ?_
 refine sP 4 [.int .i64 5,wv s.f,.int .i64 5,wv s.f] ?_
 refine sD [(2,pV h1.size),(3,pV h6.size),(4,.int .i64 5),(5,wv s.f),(7,.agg #[wv s.a,wv s.b,wv s.c,wv s.d,wv s.e,wv s.f,wv s.g,wv s.h]),(8,.int .i64 5)] ?_
 clear hF a; intro a hF
 refine tK ?_
 refine cS ?_
 refine cP 5 hF ?_
 refine sP 1 [.int .i64 0] ?_
 refine sD [(2,pV h1.size),(3,pV h6.size),(4,.int .i64 5),(5,wv s.f),(7,.agg #[wv s.a,wv s.b,wv s.c,wv s.d,wv s.e,wv s.f,wv s.g,wv s.h]),(8,.int .i64 5),(12,.int .i64 0)] ?_
 clear hF a; intro a hF
 refine tK ?_
 refine cB 2 ?_
 refine C.unroll 5 [1,1,0,1,0,0,1,1,0,0,1,1,0,0] (by kernel_rfl) ?_
 refine Cround.step ?_
 refine cS ?_
 refine cP 6 hF ?_
 refine sP 1 [.bool true] ?_
 refine sD [(2,pV h1.size),(3,pV h6.size),(4,.int .i64 5),(5,wv s.f),(7,.agg #[wv s.a,wv s.b,wv s.c,wv s.d,wv s.e,wv s.f,wv s.g,wv s.h]),(8,.int .i64 5),(12,.int .i64 0),(13,.bool true)] ?_
 clear hF a; intro a hF
 refine tK ?_
 refine cS ?_
 refine cT 13 hF ?_
 refine cN ?_
 refine tK ?_
 refine cS ?_
 refine cB 3 ?_
 refine cS ?_
 refine cP 7 hF ?_
 refine sP 2 [.int .i64 0,.int .i64 0] ?_
 refine sD [(2,pV h1.size),(3,pV h6.size),(4,.int .i64 5),(5,wv s.f),(6,.int .i64 0),(7,.agg #[wv s.a,wv s.b,wv s.c,wv s.d,wv s.e,wv s.f,wv s.g,wv s.h]),(8,.int .i64 5),(12,.int .i64 0)] ?_
 clear hF a; intro a hF
 refine tK ?_
 refine cP 8 hF ?_
 refine sP 8 [.int .i64 5,.int .i64 20,.int .i64 0,.int .i64 20,wv s.f,.int .i64 0,.int .i64 0,.int .i64 24] ?_
 refine s1 9 (wv (s.f >>> 24)) (.int .u32 (Int.fdiv (s.f.toNat : Int) (2 ^ 24))) (shr32 s.f 24) ?_
 refine s1 10 (bv (b32 (s.f >>> 24))) (.int .u8 (IntKind.u8.wrap ((s.f >>> 24).toNat : Int))) (conv32 (s.f >>> 24)) ?_
 refine sP 11 [.pointer (some ⟨h6.size,20,none⟩)] ?_
 refine SeqK.eff (k' := 12) (Does.store (b := h6.size) (off := 20) (vs := [bv (b32 (s.f >>> 24))]) (l := (tk s 20)) (by kernel_rfl) m13 (of_decide_eq_true (by kernel_rfl)) (List.all_eq_true.1 (by kernel_rfl))) rfl ?_
 rintro _ h56 ⟨rfl,hh⟩
 have g57 : Grew (some (h6.size)) h54 h56 := hput_gr hh
 replace m13 : h56[h6.size]? = some (.cells ((tk s 21)).toArray 31) := hput_at (off := 20) (vs := [bv (b32 (s.f >>> 24))]) (l := ((tk s 20))) hh (by kernel_rfl) m13
 clear hh
 replace e0 := e0.grew g57 (by rintro _ ⟨⟩; omega)
 replace m3 := Grew.blk g57 m3 (by simp; omega)
 replace m8 := Grew.blk g57 m8 (by simp; omega)
 refine sD [(2,pV h1.size),(3,pV h6.size),(4,.int .i64 5),(5,wv s.f),(7,.agg #[wv s.a,wv s.b,wv s.c,wv s.d,wv s.e,wv s.f,wv s.g,wv s.h]),(8,.int .i64 5),(12,.int .i64 0)] ?_
 clear hF a; intro a hF
 show C Tryd.prog (sub b48 [1,1,0,1,0,0,1,1,0,0,1,1,0,0,1,1,1]) _ a h56
 refine cP 9 hF ?_
 refine sP 2 [.int .i64 1,.int .i64 1] ?_
 refine sD [(2,pV h1.size),(3,pV h6.size),(4,.int .i64 5),(5,wv s.f),(7,.agg #[wv s.a,wv s.b,wv s.c,wv s.d,wv s.e,wv s.f,wv s.g,wv s.h]),(8,.int .i64 5),(12,.int .i64 1)] ?_
 clear hF a; intro a hF
 show Crounds _ _ _ _ 4 a h56
 refine Cround.step ?_
 refine cS ?_
 refine cP 6 hF ?_
 refine sP 1 [.bool true] ?_
 refine sD [(2,pV h1.size),(3,pV h6.size),(4,.int .i64 5),(5,wv s.f),(7,.agg #[wv s.a,wv s.b,wv s.c,wv s.d,wv s.e,wv s.f,wv s.g,wv s.h]),(8,.int .i64 5),(12,.int .i64 1),(13,.bool true)] ?_
 clear hF a; intro a hF
 refine tK ?_
 refine cS ?_
 refine cT 13 hF ?_
 refine cN ?_
 refine tK ?_
 refine cS ?_
 refine cB 3 ?_
 refine cS ?_
 refine cP 7 hF ?_
 refine sP 2 [.int .i64 1,.int .i64 1] ?_
 refine sD [(2,pV h1.size),(3,pV h6.size),(4,.int .i64 5),(5,wv s.f),(6,.int .i64 1),(7,.agg #[wv s.a,wv s.b,wv s.c,wv s.d,wv s.e,wv s.f,wv s.g,wv s.h]),(8,.int .i64 5),(12,.int .i64 1)] ?_
 clear hF a; intro a hF
 refine tK ?_
 refine cP 8 hF ?_
 refine sP 8 [.int .i64 5,.int .i64 20,.int .i64 1,.int .i64 21,wv s.f,.int .i64 1,.int .i64 8,.int .i64 16] ?_
 refine s1 9 (wv (s.f >>> 16)) (.int .u32 (Int.fdiv (s.f.toNat : Int) (2 ^ 16))) (shr32 s.f 16) ?_
 refine s1 10 (bv (b32 (s.f >>> 16))) (.int .u8 (IntKind.u8.wrap ((s.f >>> 16).toNat : Int))) (conv32 (s.f >>> 16)) ?_
 refine sP 11 [.pointer (some ⟨h6.size,21,none⟩)] ?_
 refine SeqK.eff (k' := 12) (Does.store (b := h6.size) (off := 21) (vs := [bv (b32 (s.f >>> 16))]) (l := (tk s 21)) (by kernel_rfl) m13 (of_decide_eq_true (by kernel_rfl)) (List.all_eq_true.1 (by kernel_rfl))) rfl ?_
 rintro _ h58 ⟨rfl,hh⟩
 have g59 : Grew (some (h6.size)) h56 h58 := hput_gr hh
 replace m13 : h58[h6.size]? = some (.cells ((tk s 22)).toArray 31) := hput_at (off := 21) (vs := [bv (b32 (s.f >>> 16))]) (l := ((tk s 21))) hh (by kernel_rfl) m13
 clear hh
 replace e0 := e0.grew g59 (by rintro _ ⟨⟩; omega)
 replace m3 := Grew.blk g59 m3 (by simp; omega)
 replace m8 := Grew.blk g59 m8 (by simp; omega)
 refine sD [(2,pV h1.size),(3,pV h6.size),(4,.int .i64 5),(5,wv s.f),(7,.agg #[wv s.a,wv s.b,wv s.c,wv s.d,wv s.e,wv s.f,wv s.g,wv s.h]),(8,.int .i64 5),(12,.int .i64 1)] ?_
 clear hF a; intro a hF
 show C Tryd.prog (sub b48 [1,1,0,1,0,0,1,1,0,0,1,1,0,0,1,1,1]) _ a h58
 refine cP 9 hF ?_
 refine sP 2 [.int .i64 2,.int .i64 2] ?_
 refine sD [(2,pV h1.size),(3,pV h6.size),(4,.int .i64 5),(5,wv s.f),(7,.agg #[wv s.a,wv s.b,wv s.c,wv s.d,wv s.e,wv s.f,wv s.g,wv s.h]),(8,.int .i64 5),(12,.int .i64 2)] ?_
 clear hF a; intro a hF
 show Crounds _ _ _ _ 3 a h58
 refine Cround.step ?_
 refine cS ?_
 refine cP 6 hF ?_
 refine sP 1 [.bool true] ?_
 refine sD [(2,pV h1.size),(3,pV h6.size),(4,.int .i64 5),(5,wv s.f),(7,.agg #[wv s.a,wv s.b,wv s.c,wv s.d,wv s.e,wv s.f,wv s.g,wv s.h]),(8,.int .i64 5),(12,.int .i64 2),(13,.bool true)] ?_
 clear hF a; intro a hF
 refine tK ?_
 refine cS ?_
 refine cT 13 hF ?_
 refine cN ?_
 refine tK ?_
 refine cS ?_
 refine cB 3 ?_
 refine cS ?_
 refine cP 7 hF ?_
 refine sP 2 [.int .i64 2,.int .i64 2] ?_
 refine sD [(2,pV h1.size),(3,pV h6.size),(4,.int .i64 5),(5,wv s.f),(6,.int .i64 2),(7,.agg #[wv s.a,wv s.b,wv s.c,wv s.d,wv s.e,wv s.f,wv s.g,wv s.h]),(8,.int .i64 5),(12,.int .i64 2)] ?_
 clear hF a; intro a hF
 refine tK ?_
 refine cP 8 hF ?_
 refine sP 8 [.int .i64 5,.int .i64 20,.int .i64 2,.int .i64 22,wv s.f,.int .i64 2,.int .i64 16,.int .i64 8] ?_
 refine s1 9 (wv (s.f >>> 8)) (.int .u32 (Int.fdiv (s.f.toNat : Int) (2 ^ 8))) (shr32 s.f 8) ?_
 refine s1 10 (bv (b32 (s.f >>> 8))) (.int .u8 (IntKind.u8.wrap ((s.f >>> 8).toNat : Int))) (conv32 (s.f >>> 8)) ?_
 refine sP 11 [.pointer (some ⟨h6.size,22,none⟩)] ?_
 refine SeqK.eff (k' := 12) (Does.store (b := h6.size) (off := 22) (vs := [bv (b32 (s.f >>> 8))]) (l := (tk s 22)) (by kernel_rfl) m13 (of_decide_eq_true (by kernel_rfl)) (List.all_eq_true.1 (by kernel_rfl))) rfl ?_
 rintro _ h60 ⟨rfl,hh⟩
 have g61 : Grew (some (h6.size)) h58 h60 := hput_gr hh
 replace m13 : h60[h6.size]? = some (.cells ((tk s 23)).toArray 31) := hput_at (off := 22) (vs := [bv (b32 (s.f >>> 8))]) (l := ((tk s 22))) hh (by kernel_rfl) m13
 clear hh
 replace e0 := e0.grew g61 (by rintro _ ⟨⟩; omega)
 replace m3 := Grew.blk g61 m3 (by simp; omega)
 replace m8 := Grew.blk g61 m8 (by simp; omega)
 refine sD [(2,pV h1.size),(3,pV h6.size),(4,.int .i64 5),(5,wv s.f),(7,.agg #[wv s.a,wv s.b,wv s.c,wv s.d,wv s.e,wv s.f,wv s.g,wv s.h]),(8,.int .i64 5),(12,.int .i64 2)] ?_
 clear hF a; intro a hF
 show C Tryd.prog (sub b48 [1,1,0,1,0,0,1,1,0,0,1,1,0,0,1,1,1]) _ a h60
 refine cP 9 hF ?_
 refine sP 2 [.int .i64 3,.int .i64 3] ?_
 refine sD [(2,pV h1.size),(3,pV h6.size),(4,.int .i64 5),(5,wv s.f),(7,.agg #[wv s.a,wv s.b,wv s.c,wv s.d,wv s.e,wv s.f,wv s.g,wv s.h]),(8,.int .i64 5),(12,.int .i64 3)] ?_
 clear hF a; intro a hF
 show Crounds _ _ _ _ 2 a h60
 refine Cround.step ?_
 refine cS ?_
 refine cP 6 hF ?_
 refine sP 1 [.bool true] ?_
 refine sD [(2,pV h1.size),(3,pV h6.size),(4,.int .i64 5),(5,wv s.f),(7,.agg #[wv s.a,wv s.b,wv s.c,wv s.d,wv s.e,wv s.f,wv s.g,wv s.h]),(8,.int .i64 5),(12,.int .i64 3),(13,.bool true)] ?_
 clear hF a; intro a hF
 refine tK ?_
 refine cS ?_
 refine cT 13 hF ?_
 refine cN ?_
 refine tK ?_
 refine cS ?_
 refine cB 3 ?_
 refine cS ?_
 refine cP 7 hF ?_
 refine sP 2 [.int .i64 3,.int .i64 3] ?_
 refine sD [(2,pV h1.size),(3,pV h6.size),(4,.int .i64 5),(5,wv s.f),(6,.int .i64 3),(7,.agg #[wv s.a,wv s.b,wv s.c,wv s.d,wv s.e,wv s.f,wv s.g,wv s.h]),(8,.int .i64 5),(12,.int .i64 3)] ?_
 clear hF a; intro a hF
 refine tK ?_
 refine cP 8 hF ?_
 refine sP 8 [.int .i64 5,.int .i64 20,.int .i64 3,.int .i64 23,wv s.f,.int .i64 3,.int .i64 24,.int .i64 0] ?_
 refine s1 9 (wv (s.f >>> 0)) (.int .u32 (Int.fdiv (s.f.toNat : Int) (2 ^ 0))) (shr32 s.f 0) ?_
 refine s1 10 (bv (b32 (s.f >>> 0))) (.int .u8 (IntKind.u8.wrap ((s.f >>> 0).toNat : Int))) (conv32 (s.f >>> 0)) ?_
 refine sP 11 [.pointer (some ⟨h6.size,23,none⟩)] ?_
 refine SeqK.eff (k' := 12) (Does.store (b := h6.size) (off := 23) (vs := [bv (b32 (s.f >>> 0))]) (l := (tk s 23)) (by kernel_rfl) m13 (of_decide_eq_true (by kernel_rfl)) (List.all_eq_true.1 (by kernel_rfl))) rfl ?_
 rintro _ h62 ⟨rfl,hh⟩
 have g63 : Grew (some (h6.size)) h60 h62 := hput_gr hh
 replace m13 : h62[h6.size]? = some (.cells ((tk s 24)).toArray 31) := hput_at (off := 23) (vs := [bv (b32 (s.f >>> 0))]) (l := ((tk s 23))) hh (by kernel_rfl) m13
 clear hh
 replace e0 := e0.grew g63 (by rintro _ ⟨⟩; omega)
 replace m3 := Grew.blk g63 m3 (by simp; omega)
 replace m8 := Grew.blk g63 m8 (by simp; omega)
 refine sD [(2,pV h1.size),(3,pV h6.size),(4,.int .i64 5),(5,wv s.f),(7,.agg #[wv s.a,wv s.b,wv s.c,wv s.d,wv s.e,wv s.f,wv s.g,wv s.h]),(8,.int .i64 5),(12,.int .i64 3)] ?_
 clear hF a; intro a hF
 show C Tryd.prog (sub b48 [1,1,0,1,0,0,1,1,0,0,1,1,0,0,1,1,1]) _ a h62
 refine cP 9 hF ?_
 refine sP 2 [.int .i64 4,.int .i64 4] ?_
 refine sD [(2,pV h1.size),(3,pV h6.size),(4,.int .i64 5),(5,wv s.f),(7,.agg #[wv s.a,wv s.b,wv s.c,wv s.d,wv s.e,wv s.f,wv s.g,wv s.h]),(8,.int .i64 5),(12,.int .i64 4)] ?_
 clear hF a; intro a hF
 show Crounds _ _ _ _ 1 a h62
 refine Cround.step ?_
 refine cS ?_
 refine cP 6 hF ?_
 refine sP 1 [.bool false] ?_
 refine sD [(2,pV h1.size),(3,pV h6.size),(4,.int .i64 5),(5,wv s.f),(7,.agg #[wv s.a,wv s.b,wv s.c,wv s.d,wv s.e,wv s.f,wv s.g,wv s.h]),(8,.int .i64 5),(12,.int .i64 4),(13,.bool false)] ?_
 clear hF a; intro a hF
 refine tK ?_
 refine cS ?_
 refine cF 13 hF ?_
 refine cX 2 ?_
 show C Tryd.prog (sub b48 [1,1,0,1,0,0,1,1,1]) _ a h62
 refine cP 10 hF ?_
 refine sP 2 [.int .i64 6,.int .i64 6] ?_
 refine sD [(2,pV h1.size),(3,pV h6.size),(7,.agg #[wv s.a,wv s.b,wv s.c,wv s.d,wv s.e,wv s.f,wv s.g,wv s.h]),(8,.int .i64 6)] ?_
 clear hF a; intro a hF
 show Crounds _ _ _ _ 3 a h62
 refine Cround.step ?_
 refine cS ?_
 refine cP 3 hF ?_
 refine sP 1 [.bool true] ?_
 refine sD [(2,pV h1.size),(3,pV h6.size),(7,.agg #[wv s.a,wv s.b,wv s.c,wv s.d,wv s.e,wv s.f,wv s.g,wv s.h]),(8,.int .i64 6),(9,.bool true)] ?_
 clear hF a; intro a hF
 refine tK ?_
 refine cS ?_
 refine cT 9 hF ?_
 refine cN ?_
 refine tK ?_
 refine cS ?_
 refine cB 1 ?_
 refine cS ?_
 refine cP 4 hF ?_
 refine sP 4 [.int .i64 6,wv s.g,.int .i64 6,wv s.g] ?_
 refine sD [(2,pV h1.size),(3,pV h6.size),(4,.int .i64 6),(5,wv s.g),(7,.agg #[wv s.a,wv s.b,wv s.c,wv s.d,wv s.e,wv s.f,wv s.g,wv s.h]),(8,.int .i64 6)] ?_
 clear hF a; intro a hF
 refine tK ?_
 refine cS ?_
 refine cP 5 hF ?_
 refine sP 1 [.int .i64 0] ?_
 refine sD [(2,pV h1.size),(3,pV h6.size),(4,.int .i64 6),(5,wv s.g),(7,.agg #[wv s.a,wv s.b,wv s.c,wv s.d,wv s.e,wv s.f,wv s.g,wv s.h]),(8,.int .i64 6),(12,.int .i64 0)] ?_
 clear hF a; intro a hF
 refine tK ?_
 refine cB 2 ?_
 refine C.unroll 5 [1,1,0,1,0,0,1,1,0,0,1,1,0,0] (by kernel_rfl) ?_
 refine Cround.step ?_
 refine cS ?_
 refine cP 6 hF ?_
 refine sP 1 [.bool true] ?_
 refine sD [(2,pV h1.size),(3,pV h6.size),(4,.int .i64 6),(5,wv s.g),(7,.agg #[wv s.a,wv s.b,wv s.c,wv s.d,wv s.e,wv s.f,wv s.g,wv s.h]),(8,.int .i64 6),(12,.int .i64 0),(13,.bool true)] ?_
 clear hF a; intro a hF
 refine tK ?_
 refine cS ?_
 refine cT 13 hF ?_
 refine cN ?_
 refine tK ?_
 refine cS ?_
 refine cB 3 ?_
 refine cS ?_
 refine cP 7 hF ?_
 refine sP 2 [.int .i64 0,.int .i64 0] ?_
 refine sD [(2,pV h1.size),(3,pV h6.size),(4,.int .i64 6),(5,wv s.g),(6,.int .i64 0),(7,.agg #[wv s.a,wv s.b,wv s.c,wv s.d,wv s.e,wv s.f,wv s.g,wv s.h]),(8,.int .i64 6),(12,.int .i64 0)] ?_
 clear hF a; intro a hF
 refine tK ?_
 refine cP 8 hF ?_
 refine sP 8 [.int .i64 6,.int .i64 24,.int .i64 0,.int .i64 24,wv s.g,.int .i64 0,.int .i64 0,.int .i64 24] ?_
 refine s1 9 (wv (s.g >>> 24)) (.int .u32 (Int.fdiv (s.g.toNat : Int) (2 ^ 24))) (shr32 s.g 24) ?_
 refine s1 10 (bv (b32 (s.g >>> 24))) (.int .u8 (IntKind.u8.wrap ((s.g >>> 24).toNat : Int))) (conv32 (s.g >>> 24)) ?_
 refine sP 11 [.pointer (some ⟨h6.size,24,none⟩)] ?_
 refine SeqK.eff (k' := 12) (Does.store (b := h6.size) (off := 24) (vs := [bv (b32 (s.g >>> 24))]) (l := (tk s 24)) (by kernel_rfl) m13 (of_decide_eq_true (by kernel_rfl)) (List.all_eq_true.1 (by kernel_rfl))) rfl ?_
 rintro _ h64 ⟨rfl,hh⟩
 have g65 : Grew (some (h6.size)) h62 h64 := hput_gr hh
 replace m13 : h64[h6.size]? = some (.cells ((tk s 25)).toArray 31) := hput_at (off := 24) (vs := [bv (b32 (s.g >>> 24))]) (l := ((tk s 24))) hh (by kernel_rfl) m13
 clear hh
 replace e0 := e0.grew g65 (by rintro _ ⟨⟩; omega)
 replace m3 := Grew.blk g65 m3 (by simp; omega)
 replace m8 := Grew.blk g65 m8 (by simp; omega)
 refine sD [(2,pV h1.size),(3,pV h6.size),(4,.int .i64 6),(5,wv s.g),(7,.agg #[wv s.a,wv s.b,wv s.c,wv s.d,wv s.e,wv s.f,wv s.g,wv s.h]),(8,.int .i64 6),(12,.int .i64 0)] ?_
 clear hF a; intro a hF
 show C Tryd.prog (sub b48 [1,1,0,1,0,0,1,1,0,0,1,1,0,0,1,1,1]) _ a h64
 refine cP 9 hF ?_
 refine sP 2 [.int .i64 1,.int .i64 1] ?_
 refine sD [(2,pV h1.size),(3,pV h6.size),(4,.int .i64 6),(5,wv s.g),(7,.agg #[wv s.a,wv s.b,wv s.c,wv s.d,wv s.e,wv s.f,wv s.g,wv s.h]),(8,.int .i64 6),(12,.int .i64 1)] ?_
 clear hF a; intro a hF
 show Crounds _ _ _ _ 4 a h64
 refine Cround.step ?_
 refine cS ?_
 refine cP 6 hF ?_
 refine sP 1 [.bool true] ?_
 refine sD [(2,pV h1.size),(3,pV h6.size),(4,.int .i64 6),(5,wv s.g),(7,.agg #[wv s.a,wv s.b,wv s.c,wv s.d,wv s.e,wv s.f,wv s.g,wv s.h]),(8,.int .i64 6),(12,.int .i64 1),(13,.bool true)] ?_
 clear hF a; intro a hF
 refine tK ?_
 refine cS ?_
 refine cT 13 hF ?_
 refine cN ?_
 refine tK ?_
 refine cS ?_
 refine cB 3 ?_
 refine cS ?_
 refine cP 7 hF ?_
 refine sP 2 [.int .i64 1,.int .i64 1] ?_
 refine sD [(2,pV h1.size),(3,pV h6.size),(4,.int .i64 6),(5,wv s.g),(6,.int .i64 1),(7,.agg #[wv s.a,wv s.b,wv s.c,wv s.d,wv s.e,wv s.f,wv s.g,wv s.h]),(8,.int .i64 6),(12,.int .i64 1)] ?_
 clear hF a; intro a hF
 refine tK ?_
 refine cP 8 hF ?_
 refine sP 8 [.int .i64 6,.int .i64 24,.int .i64 1,.int .i64 25,wv s.g,.int .i64 1,.int .i64 8,.int .i64 16] ?_
 refine s1 9 (wv (s.g >>> 16)) (.int .u32 (Int.fdiv (s.g.toNat : Int) (2 ^ 16))) (shr32 s.g 16) ?_
 refine s1 10 (bv (b32 (s.g >>> 16))) (.int .u8 (IntKind.u8.wrap ((s.g >>> 16).toNat : Int))) (conv32 (s.g >>> 16)) ?_
 refine sP 11 [.pointer (some ⟨h6.size,25,none⟩)] ?_
 refine SeqK.eff (k' := 12) (Does.store (b := h6.size) (off := 25) (vs := [bv (b32 (s.g >>> 16))]) (l := (tk s 25)) (by kernel_rfl) m13 (of_decide_eq_true (by kernel_rfl)) (List.all_eq_true.1 (by kernel_rfl))) rfl ?_
 rintro _ h66 ⟨rfl,hh⟩
 have g67 : Grew (some (h6.size)) h64 h66 := hput_gr hh
 replace m13 : h66[h6.size]? = some (.cells ((tk s 26)).toArray 31) := hput_at (off := 25) (vs := [bv (b32 (s.g >>> 16))]) (l := ((tk s 25))) hh (by kernel_rfl) m13
 clear hh
 replace e0 := e0.grew g67 (by rintro _ ⟨⟩; omega)
 replace m3 := Grew.blk g67 m3 (by simp; omega)
 replace m8 := Grew.blk g67 m8 (by simp; omega)
 refine sD [(2,pV h1.size),(3,pV h6.size),(4,.int .i64 6),(5,wv s.g),(7,.agg #[wv s.a,wv s.b,wv s.c,wv s.d,wv s.e,wv s.f,wv s.g,wv s.h]),(8,.int .i64 6),(12,.int .i64 1)] ?_
 clear hF a; intro a hF
 show C Tryd.prog (sub b48 [1,1,0,1,0,0,1,1,0,0,1,1,0,0,1,1,1]) _ a h66
 refine cP 9 hF ?_
 refine sP 2 [.int .i64 2,.int .i64 2] ?_
 refine sD [(2,pV h1.size),(3,pV h6.size),(4,.int .i64 6),(5,wv s.g),(7,.agg #[wv s.a,wv s.b,wv s.c,wv s.d,wv s.e,wv s.f,wv s.g,wv s.h]),(8,.int .i64 6),(12,.int .i64 2)] ?_
 clear hF a; intro a hF
 show Crounds _ _ _ _ 3 a h66
 refine Cround.step ?_
 refine cS ?_
 refine cP 6 hF ?_
 refine sP 1 [.bool true] ?_
 refine sD [(2,pV h1.size),(3,pV h6.size),(4,.int .i64 6),(5,wv s.g),(7,.agg #[wv s.a,wv s.b,wv s.c,wv s.d,wv s.e,wv s.f,wv s.g,wv s.h]),(8,.int .i64 6),(12,.int .i64 2),(13,.bool true)] ?_
 clear hF a; intro a hF
 refine tK ?_
 refine cS ?_
 refine cT 13 hF ?_
 refine cN ?_
 refine tK ?_
 refine cS ?_
 refine cB 3 ?_
 refine cS ?_
 refine cP 7 hF ?_
 refine sP 2 [.int .i64 2,.int .i64 2] ?_
 refine sD [(2,pV h1.size),(3,pV h6.size),(4,.int .i64 6),(5,wv s.g),(6,.int .i64 2),(7,.agg #[wv s.a,wv s.b,wv s.c,wv s.d,wv s.e,wv s.f,wv s.g,wv s.h]),(8,.int .i64 6),(12,.int .i64 2)] ?_
 clear hF a; intro a hF
 refine tK ?_
 refine cP 8 hF ?_
 refine sP 8 [.int .i64 6,.int .i64 24,.int .i64 2,.int .i64 26,wv s.g,.int .i64 2,.int .i64 16,.int .i64 8] ?_
 refine s1 9 (wv (s.g >>> 8)) (.int .u32 (Int.fdiv (s.g.toNat : Int) (2 ^ 8))) (shr32 s.g 8) ?_
 refine s1 10 (bv (b32 (s.g >>> 8))) (.int .u8 (IntKind.u8.wrap ((s.g >>> 8).toNat : Int))) (conv32 (s.g >>> 8)) ?_
 refine sP 11 [.pointer (some ⟨h6.size,26,none⟩)] ?_
 refine SeqK.eff (k' := 12) (Does.store (b := h6.size) (off := 26) (vs := [bv (b32 (s.g >>> 8))]) (l := (tk s 26)) (by kernel_rfl) m13 (of_decide_eq_true (by kernel_rfl)) (List.all_eq_true.1 (by kernel_rfl))) rfl ?_
 rintro _ h68 ⟨rfl,hh⟩
 have g69 : Grew (some (h6.size)) h66 h68 := hput_gr hh
 replace m13 : h68[h6.size]? = some (.cells ((tk s 27)).toArray 31) := hput_at (off := 26) (vs := [bv (b32 (s.g >>> 8))]) (l := ((tk s 26))) hh (by kernel_rfl) m13
 clear hh
 replace e0 := e0.grew g69 (by rintro _ ⟨⟩; omega)
 replace m3 := Grew.blk g69 m3 (by simp; omega)
 replace m8 := Grew.blk g69 m8 (by simp; omega)
 refine sD [(2,pV h1.size),(3,pV h6.size),(4,.int .i64 6),(5,wv s.g),(7,.agg #[wv s.a,wv s.b,wv s.c,wv s.d,wv s.e,wv s.f,wv s.g,wv s.h]),(8,.int .i64 6),(12,.int .i64 2)] ?_
 clear hF a; intro a hF
 show C Tryd.prog (sub b48 [1,1,0,1,0,0,1,1,0,0,1,1,0,0,1,1,1]) _ a h68
 refine cP 9 hF ?_
 refine sP 2 [.int .i64 3,.int .i64 3] ?_
 refine sD [(2,pV h1.size),(3,pV h6.size),(4,.int .i64 6),(5,wv s.g),(7,.agg #[wv s.a,wv s.b,wv s.c,wv s.d,wv s.e,wv s.f,wv s.g,wv s.h]),(8,.int .i64 6),(12,.int .i64 3)] ?_
 clear hF a; intro a hF
 show Crounds _ _ _ _ 2 a h68
 refine Cround.step ?_
 refine cS ?_
 refine cP 6 hF ?_
 refine sP 1 [.bool true] ?_
 refine sD [(2,pV h1.size),(3,pV h6.size),(4,.int .i64 6),(5,wv s.g),(7,.agg #[wv s.a,wv s.b,wv s.c,wv s.d,wv s.e,wv s.f,wv s.g,wv s.h]),(8,.int .i64 6),(12,.int .i64 3),(13,.bool true)] ?_
 clear hF a; intro a hF
 refine tK ?_
 refine cS ?_
 refine cT 13 hF ?_
 refine cN ?_
 refine tK ?_
 refine cS ?_
 refine cB 3 ?_
 refine cS ?_
 refine cP 7 hF ?_
 refine sP 2 [.int .i64 3,.int .i64 3] ?_
 refine sD [(2,pV h1.size),(3,pV h6.size),(4,.int .i64 6),(5,wv s.g),(6,.int .i64 3),(7,.agg #[wv s.a,wv s.b,wv s.c,wv s.d,wv s.e,wv s.f,wv s.g,wv s.h]),(8,.int .i64 6),(12,.int .i64 3)] ?_
 clear hF a; intro a hF
 refine tK ?_
 refine cP 8 hF ?_
 refine sP 8 [.int .i64 6,.int .i64 24,.int .i64 3,.int .i64 27,wv s.g,.int .i64 3,.int .i64 24,.int .i64 0] ?_
 refine s1 9 (wv (s.g >>> 0)) (.int .u32 (Int.fdiv (s.g.toNat : Int) (2 ^ 0))) (shr32 s.g 0) ?_
 refine s1 10 (bv (b32 (s.g >>> 0))) (.int .u8 (IntKind.u8.wrap ((s.g >>> 0).toNat : Int))) (conv32 (s.g >>> 0)) ?_
 refine sP 11 [.pointer (some ⟨h6.size,27,none⟩)] ?_
 refine SeqK.eff (k' := 12) (Does.store (b := h6.size) (off := 27) (vs := [bv (b32 (s.g >>> 0))]) (l := (tk s 27)) (by kernel_rfl) m13 (of_decide_eq_true (by kernel_rfl)) (List.all_eq_true.1 (by kernel_rfl))) rfl ?_
 rintro _ h70 ⟨rfl,hh⟩
 have g71 : Grew (some (h6.size)) h68 h70 := hput_gr hh
 replace m13 : h70[h6.size]? = some (.cells ((tk s 28)).toArray 31) := hput_at (off := 27) (vs := [bv (b32 (s.g >>> 0))]) (l := ((tk s 27))) hh (by kernel_rfl) m13
 clear hh
 replace e0 := e0.grew g71 (by rintro _ ⟨⟩; omega)
 replace m3 := Grew.blk g71 m3 (by simp; omega)
 replace m8 := Grew.blk g71 m8 (by simp; omega)
 refine sD [(2,pV h1.size),(3,pV h6.size),(4,.int .i64 6),(5,wv s.g),(7,.agg #[wv s.a,wv s.b,wv s.c,wv s.d,wv s.e,wv s.f,wv s.g,wv s.h]),(8,.int .i64 6),(12,.int .i64 3)] ?_
 clear hF a; intro a hF
 show C Tryd.prog (sub b48 [1,1,0,1,0,0,1,1,0,0,1,1,0,0,1,1,1]) _ a h70
 refine cP 9 hF ?_
 refine sP 2 [.int .i64 4,.int .i64 4] ?_
 refine sD [(2,pV h1.size),(3,pV h6.size),(4,.int .i64 6),(5,wv s.g),(7,.agg #[wv s.a,wv s.b,wv s.c,wv s.d,wv s.e,wv s.f,wv s.g,wv s.h]),(8,.int .i64 6),(12,.int .i64 4)] ?_
 clear hF a; intro a hF
 show Crounds _ _ _ _ 1 a h70
 refine Cround.step ?_
 refine cS ?_
 refine cP 6 hF ?_
 refine sP 1 [.bool false] ?_
 refine sD [(2,pV h1.size),(3,pV h6.size),(4,.int .i64 6),(5,wv s.g),(7,.agg #[wv s.a,wv s.b,wv s.c,wv s.d,wv s.e,wv s.f,wv s.g,wv s.h]),(8,.int .i64 6),(12,.int .i64 4),(13,.bool false)] ?_
 clear hF a; intro a hF
 refine tK ?_
 refine cS ?_
 refine cF 13 hF ?_
 refine cX 2 ?_
 show C Tryd.prog (sub b48 [1,1,0,1,0,0,1,1,1]) _ a h70
 refine cP 10 hF ?_
 refine sP 2 [.int .i64 7,.int .i64 7] ?_
 refine sD [(2,pV h1.size),(3,pV h6.size),(7,.agg #[wv s.a,wv s.b,wv s.c,wv s.d,wv s.e,wv s.f,wv s.g,wv s.h]),(8,.int .i64 7)] ?_
 clear hF a; intro a hF
 show Crounds _ _ _ _ 2 a h70
 refine Cround.step ?_
 refine cS ?_
 refine cP 3 hF ?_
 refine sP 1 [.bool true] ?_
 refine sD [(2,pV h1.size),(3,pV h6.size),(7,.agg #[wv s.a,wv s.b,wv s.c,wv s.d,wv s.e,wv s.f,wv s.g,wv s.h]),(8,.int .i64 7),(9,.bool true)] ?_
 clear hF a; intro a hF
 refine tK ?_
 refine cS ?_
 refine cT 9 hF ?_
 refine cN ?_
 refine tK ?_
 refine cS ?_
 refine cB 1 ?_
 refine cS ?_
 refine cP 4 hF ?_
 refine sP 4 [.int .i64 7,wv s.h,.int .i64 7,wv s.h] ?_
 refine sD [(2,pV h1.size),(3,pV h6.size),(4,.int .i64 7),(5,wv s.h),(7,.agg #[wv s.a,wv s.b,wv s.c,wv s.d,wv s.e,wv s.f,wv s.g,wv s.h]),(8,.int .i64 7)] ?_
 clear hF a; intro a hF
 refine tK ?_
 refine cS ?_
 refine cP 5 hF ?_
 refine sP 1 [.int .i64 0] ?_
 refine sD [(2,pV h1.size),(3,pV h6.size),(4,.int .i64 7),(5,wv s.h),(7,.agg #[wv s.a,wv s.b,wv s.c,wv s.d,wv s.e,wv s.f,wv s.g,wv s.h]),(8,.int .i64 7),(12,.int .i64 0)] ?_
 clear hF a; intro a hF
 refine tK ?_
 refine cB 2 ?_
 refine C.unroll 5 [1,1,0,1,0,0,1,1,0,0,1,1,0,0] (by kernel_rfl) ?_
 refine Cround.step ?_
 refine cS ?_
 refine cP 6 hF ?_
 refine sP 1 [.bool true] ?_
 refine sD [(2,pV h1.size),(3,pV h6.size),(4,.int .i64 7),(5,wv s.h),(7,.agg #[wv s.a,wv s.b,wv s.c,wv s.d,wv s.e,wv s.f,wv s.g,wv s.h]),(8,.int .i64 7),(12,.int .i64 0),(13,.bool true)] ?_
 clear hF a; intro a hF
 refine tK ?_
 refine cS ?_
 refine cT 13 hF ?_
 refine cN ?_
 refine tK ?_
 refine cS ?_
 refine cB 3 ?_
 refine cS ?_
 refine cP 7 hF ?_
 refine sP 2 [.int .i64 0,.int .i64 0] ?_
 refine sD [(2,pV h1.size),(3,pV h6.size),(4,.int .i64 7),(5,wv s.h),(6,.int .i64 0),(7,.agg #[wv s.a,wv s.b,wv s.c,wv s.d,wv s.e,wv s.f,wv s.g,wv s.h]),(8,.int .i64 7),(12,.int .i64 0)] ?_
 clear hF a; intro a hF
 refine tK ?_
 refine cP 8 hF ?_
 refine sP 8 [.int .i64 7,.int .i64 28,.int .i64 0,.int .i64 28,wv s.h,.int .i64 0,.int .i64 0,.int .i64 24] ?_
 refine s1 9 (wv (s.h >>> 24)) (.int .u32 (Int.fdiv (s.h.toNat : Int) (2 ^ 24))) (shr32 s.h 24) ?_
 refine s1 10 (bv (b32 (s.h >>> 24))) (.int .u8 (IntKind.u8.wrap ((s.h >>> 24).toNat : Int))) (conv32 (s.h >>> 24)) ?_
 refine sP 11 [.pointer (some ⟨h6.size,28,none⟩)] ?_
 refine SeqK.eff (k' := 12) (Does.store (b := h6.size) (off := 28) (vs := [bv (b32 (s.h >>> 24))]) (l := (tk s 28)) (by kernel_rfl) m13 (of_decide_eq_true (by kernel_rfl)) (List.all_eq_true.1 (by kernel_rfl))) rfl ?_
 rintro _ h72 ⟨rfl,hh⟩
 have g73 : Grew (some (h6.size)) h70 h72 := hput_gr hh
 replace m13 : h72[h6.size]? = some (.cells ((tk s 29)).toArray 31) := hput_at (off := 28) (vs := [bv (b32 (s.h >>> 24))]) (l := ((tk s 28))) hh (by kernel_rfl) m13
 clear hh
 replace e0 := e0.grew g73 (by rintro _ ⟨⟩; omega)
 replace m3 := Grew.blk g73 m3 (by simp; omega)
 replace m8 := Grew.blk g73 m8 (by simp; omega)
 refine sD [(2,pV h1.size),(3,pV h6.size),(4,.int .i64 7),(5,wv s.h),(7,.agg #[wv s.a,wv s.b,wv s.c,wv s.d,wv s.e,wv s.f,wv s.g,wv s.h]),(8,.int .i64 7),(12,.int .i64 0)] ?_
 clear hF a; intro a hF
 show C Tryd.prog (sub b48 [1,1,0,1,0,0,1,1,0,0,1,1,0,0,1,1,1]) _ a h72
 refine cP 9 hF ?_
 refine sP 2 [.int .i64 1,.int .i64 1] ?_
 refine sD [(2,pV h1.size),(3,pV h6.size),(4,.int .i64 7),(5,wv s.h),(7,.agg #[wv s.a,wv s.b,wv s.c,wv s.d,wv s.e,wv s.f,wv s.g,wv s.h]),(8,.int .i64 7),(12,.int .i64 1)] ?_
 clear hF a; intro a hF
 show Crounds _ _ _ _ 4 a h72
 refine Cround.step ?_
 refine cS ?_
 refine cP 6 hF ?_
 refine sP 1 [.bool true] ?_
 refine sD [(2,pV h1.size),(3,pV h6.size),(4,.int .i64 7),(5,wv s.h),(7,.agg #[wv s.a,wv s.b,wv s.c,wv s.d,wv s.e,wv s.f,wv s.g,wv s.h]),(8,.int .i64 7),(12,.int .i64 1),(13,.bool true)] ?_
 clear hF a; intro a hF
 refine tK ?_
 refine cS ?_
 refine cT 13 hF ?_
 refine cN ?_
 refine tK ?_
 refine cS ?_
 refine cB 3 ?_
 refine cS ?_
 refine cP 7 hF ?_
 refine sP 2 [.int .i64 1,.int .i64 1] ?_
 refine sD [(2,pV h1.size),(3,pV h6.size),(4,.int .i64 7),(5,wv s.h),(6,.int .i64 1),(7,.agg #[wv s.a,wv s.b,wv s.c,wv s.d,wv s.e,wv s.f,wv s.g,wv s.h]),(8,.int .i64 7),(12,.int .i64 1)] ?_
 clear hF a; intro a hF
 refine tK ?_
 refine cP 8 hF ?_
 refine sP 8 [.int .i64 7,.int .i64 28,.int .i64 1,.int .i64 29,wv s.h,.int .i64 1,.int .i64 8,.int .i64 16] ?_
 refine s1 9 (wv (s.h >>> 16)) (.int .u32 (Int.fdiv (s.h.toNat : Int) (2 ^ 16))) (shr32 s.h 16) ?_
 refine s1 10 (bv (b32 (s.h >>> 16))) (.int .u8 (IntKind.u8.wrap ((s.h >>> 16).toNat : Int))) (conv32 (s.h >>> 16)) ?_
 refine sP 11 [.pointer (some ⟨h6.size,29,none⟩)] ?_
 refine SeqK.eff (k' := 12) (Does.store (b := h6.size) (off := 29) (vs := [bv (b32 (s.h >>> 16))]) (l := (tk s 29)) (by kernel_rfl) m13 (of_decide_eq_true (by kernel_rfl)) (List.all_eq_true.1 (by kernel_rfl))) rfl ?_
 rintro _ h74 ⟨rfl,hh⟩
 have g75 : Grew (some (h6.size)) h72 h74 := hput_gr hh
 replace m13 : h74[h6.size]? = some (.cells ((tk s 30)).toArray 31) := hput_at (off := 29) (vs := [bv (b32 (s.h >>> 16))]) (l := ((tk s 29))) hh (by kernel_rfl) m13
 clear hh
 replace e0 := e0.grew g75 (by rintro _ ⟨⟩; omega)
 replace m3 := Grew.blk g75 m3 (by simp; omega)
 replace m8 := Grew.blk g75 m8 (by simp; omega)
 refine sD [(2,pV h1.size),(3,pV h6.size),(4,.int .i64 7),(5,wv s.h),(7,.agg #[wv s.a,wv s.b,wv s.c,wv s.d,wv s.e,wv s.f,wv s.g,wv s.h]),(8,.int .i64 7),(12,.int .i64 1)] ?_
 clear hF a; intro a hF
 show C Tryd.prog (sub b48 [1,1,0,1,0,0,1,1,0,0,1,1,0,0,1,1,1]) _ a h74
 refine cP 9 hF ?_
 refine sP 2 [.int .i64 2,.int .i64 2] ?_
 refine sD [(2,pV h1.size),(3,pV h6.size),(4,.int .i64 7),(5,wv s.h),(7,.agg #[wv s.a,wv s.b,wv s.c,wv s.d,wv s.e,wv s.f,wv s.g,wv s.h]),(8,.int .i64 7),(12,.int .i64 2)] ?_
 clear hF a; intro a hF
 show Crounds _ _ _ _ 3 a h74
 refine Cround.step ?_
 refine cS ?_
 refine cP 6 hF ?_
 refine sP 1 [.bool true] ?_
 refine sD [(2,pV h1.size),(3,pV h6.size),(4,.int .i64 7),(5,wv s.h),(7,.agg #[wv s.a,wv s.b,wv s.c,wv s.d,wv s.e,wv s.f,wv s.g,wv s.h]),(8,.int .i64 7),(12,.int .i64 2),(13,.bool true)] ?_
 clear hF a; intro a hF
 refine tK ?_
 refine cS ?_
 refine cT 13 hF ?_
 refine cN ?_
 refine tK ?_
 refine cS ?_
 refine cB 3 ?_
 refine cS ?_
 refine cP 7 hF ?_
 refine sP 2 [.int .i64 2,.int .i64 2] ?_
 refine sD [(2,pV h1.size),(3,pV h6.size),(4,.int .i64 7),(5,wv s.h),(6,.int .i64 2),(7,.agg #[wv s.a,wv s.b,wv s.c,wv s.d,wv s.e,wv s.f,wv s.g,wv s.h]),(8,.int .i64 7),(12,.int .i64 2)] ?_
 clear hF a; intro a hF
 refine tK ?_
 refine cP 8 hF ?_
 refine sP 8 [.int .i64 7,.int .i64 28,.int .i64 2,.int .i64 30,wv s.h,.int .i64 2,.int .i64 16,.int .i64 8] ?_
 refine s1 9 (wv (s.h >>> 8)) (.int .u32 (Int.fdiv (s.h.toNat : Int) (2 ^ 8))) (shr32 s.h 8) ?_
 refine s1 10 (bv (b32 (s.h >>> 8))) (.int .u8 (IntKind.u8.wrap ((s.h >>> 8).toNat : Int))) (conv32 (s.h >>> 8)) ?_
 refine sP 11 [.pointer (some ⟨h6.size,30,none⟩)] ?_
 refine SeqK.eff (k' := 12) (Does.store (b := h6.size) (off := 30) (vs := [bv (b32 (s.h >>> 8))]) (l := (tk s 30)) (by kernel_rfl) m13 (of_decide_eq_true (by kernel_rfl)) (List.all_eq_true.1 (by kernel_rfl))) rfl ?_
 rintro _ h76 ⟨rfl,hh⟩
 have g77 : Grew (some (h6.size)) h74 h76 := hput_gr hh
 replace m13 : h76[h6.size]? = some (.cells ((tk s 31)).toArray 31) := hput_at (off := 30) (vs := [bv (b32 (s.h >>> 8))]) (l := ((tk s 30))) hh (by kernel_rfl) m13
 clear hh
 replace e0 := e0.grew g77 (by rintro _ ⟨⟩; omega)
 replace m3 := Grew.blk g77 m3 (by simp; omega)
 replace m8 := Grew.blk g77 m8 (by simp; omega)
 refine sD [(2,pV h1.size),(3,pV h6.size),(4,.int .i64 7),(5,wv s.h),(7,.agg #[wv s.a,wv s.b,wv s.c,wv s.d,wv s.e,wv s.f,wv s.g,wv s.h]),(8,.int .i64 7),(12,.int .i64 2)] ?_
 clear hF a; intro a hF
 show C Tryd.prog (sub b48 [1,1,0,1,0,0,1,1,0,0,1,1,0,0,1,1,1]) _ a h76
 refine cP 9 hF ?_
 refine sP 2 [.int .i64 3,.int .i64 3] ?_
 refine sD [(2,pV h1.size),(3,pV h6.size),(4,.int .i64 7),(5,wv s.h),(7,.agg #[wv s.a,wv s.b,wv s.c,wv s.d,wv s.e,wv s.f,wv s.g,wv s.h]),(8,.int .i64 7),(12,.int .i64 3)] ?_
 clear hF a; intro a hF
 show Crounds _ _ _ _ 2 a h76
 refine Cround.step ?_
 refine cS ?_
 refine cP 6 hF ?_
 refine sP 1 [.bool true] ?_
 refine sD [(2,pV h1.size),(3,pV h6.size),(4,.int .i64 7),(5,wv s.h),(7,.agg #[wv s.a,wv s.b,wv s.c,wv s.d,wv s.e,wv s.f,wv s.g,wv s.h]),(8,.int .i64 7),(12,.int .i64 3),(13,.bool true)] ?_
 clear hF a; intro a hF
 refine tK ?_
 refine cS ?_
 refine cT 13 hF ?_
 refine cN ?_
 refine tK ?_
 refine cS ?_
 refine cB 3 ?_
 refine cS ?_
 refine cP 7 hF ?_
 refine sP 2 [.int .i64 3,.int .i64 3] ?_
 refine sD [(2,pV h1.size),(3,pV h6.size),(4,.int .i64 7),(5,wv s.h),(6,.int .i64 3),(7,.agg #[wv s.a,wv s.b,wv s.c,wv s.d,wv s.e,wv s.f,wv s.g,wv s.h]),(8,.int .i64 7),(12,.int .i64 3)] ?_
 clear hF a; intro a hF
 refine tK ?_
 refine cP 8 hF ?_
 refine sP 8 [.int .i64 7,.int .i64 28,.int .i64 3,.int .i64 31,wv s.h,.int .i64 3,.int .i64 24,.int .i64 0] ?_
 refine s1 9 (wv (s.h >>> 0)) (.int .u32 (Int.fdiv (s.h.toNat : Int) (2 ^ 0))) (shr32 s.h 0) ?_
 refine s1 10 (bv (b32 (s.h >>> 0))) (.int .u8 (IntKind.u8.wrap ((s.h >>> 0).toNat : Int))) (conv32 (s.h >>> 0)) ?_
 refine sP 11 [.pointer (some ⟨h6.size,31,none⟩)] ?_
 refine SeqK.eff (k' := 12) (Does.store (b := h6.size) (off := 31) (vs := [bv (b32 (s.h >>> 0))]) (l := (tk s 31)) (by kernel_rfl) m13 (of_decide_eq_true (by kernel_rfl)) (List.all_eq_true.1 (by kernel_rfl))) rfl ?_
 rintro _ h78 ⟨rfl,hh⟩
 have g79 : Grew (some (h6.size)) h76 h78 := hput_gr hh
 replace m13 : h78[h6.size]? = some (.cells ((tk s 32)).toArray 31) := hput_at (off := 31) (vs := [bv (b32 (s.h >>> 0))]) (l := ((tk s 31))) hh (by kernel_rfl) m13
 clear hh
 replace e0 := e0.grew g79 (by rintro _ ⟨⟩; omega)
 replace m3 := Grew.blk g79 m3 (by simp; omega)
 replace m8 := Grew.blk g79 m8 (by simp; omega)
 refine sD [(2,pV h1.size),(3,pV h6.size),(4,.int .i64 7),(5,wv s.h),(7,.agg #[wv s.a,wv s.b,wv s.c,wv s.d,wv s.e,wv s.f,wv s.g,wv s.h]),(8,.int .i64 7),(12,.int .i64 3)] ?_
 clear hF a; intro a hF
 show C Tryd.prog (sub b48 [1,1,0,1,0,0,1,1,0,0,1,1,0,0,1,1,1]) _ a h78
 refine cP 9 hF ?_
 refine sP 2 [.int .i64 4,.int .i64 4] ?_
 refine sD [(2,pV h1.size),(3,pV h6.size),(4,.int .i64 7),(5,wv s.h),(7,.agg #[wv s.a,wv s.b,wv s.c,wv s.d,wv s.e,wv s.f,wv s.g,wv s.h]),(8,.int .i64 7),(12,.int .i64 4)] ?_
 clear hF a; intro a hF
 show Crounds _ _ _ _ 1 a h78
 refine Cround.step ?_
 refine cS ?_
 refine cP 6 hF ?_
 refine sP 1 [.bool false] ?_
 refine sD [(2,pV h1.size),(3,pV h6.size),(4,.int .i64 7),(5,wv s.h),(7,.agg #[wv s.a,wv s.b,wv s.c,wv s.d,wv s.e,wv s.f,wv s.g,wv s.h]),(8,.int .i64 7),(12,.int .i64 4),(13,.bool false)] ?_
 clear hF a; intro a hF
 refine tK ?_
 refine cS ?_
 refine cF 13 hF ?_
 refine cX 2 ?_
 show C Tryd.prog (sub b48 [1,1,0,1,0,0,1,1,1]) _ a h78
 refine cP 10 hF ?_
 refine sP 2 [.int .i64 8,.int .i64 8] ?_
 refine sD [(2,pV h1.size),(3,pV h6.size),(7,.agg #[wv s.a,wv s.b,wv s.c,wv s.d,wv s.e,wv s.f,wv s.g,wv s.h]),(8,.int .i64 8)] ?_
 clear hF a; intro a hF
 show Crounds _ _ _ _ 1 a h78
 refine Cround.step ?_
 refine cS ?_
 refine cP 3 hF ?_
 refine sP 1 [.bool false] ?_
 refine sD [(2,pV h1.size),(3,pV h6.size),(7,.agg #[wv s.a,wv s.b,wv s.c,wv s.d,wv s.e,wv s.f,wv s.g,wv s.h]),(8,.int .i64 8),(9,.bool false)] ?_
 clear hF a; intro a hF
 refine tK ?_
 refine cS ?_
 refine cF 9 hF ?_
 refine cX 0 ?_
 show C Tryd.prog (sub b48 [1,1,1]) _ a h78
 refine cS ?_
 refine cP 11 hF ?_
 refine sC 1 (.agg (tk s 32).toArray) (Calm.load (T := 31) (p := ⟨h6.size,0,none⟩) (by kernel_rfl) (Loads.blk (vs := (tk s 32)) (by kernel_rfl) m13 rfl)) ?_
 refine SeqK.eff (k' := 2) (Does.store (b := h1.size) (off := 0) (vs := (tk s 32)) (l := (tk s 0)) (by kernel_rfl) m8 (of_decide_eq_true (by kernel_rfl)) (List.all_eq_true.1 (by kernel_rfl))) rfl ?_
 rintro _ h80 ⟨rfl,hh⟩
 have g81 : Grew (some (h1.size)) h78 h80 := hput_gr hh
 replace m8 : h80[h1.size]? = some (.cells ((tk s 32)).toArray 31) := hput_at (off := 0) (vs := (tk s 32)) (l := ((tk s 0))) hh (by kernel_rfl) m8
 clear hh
 replace e0 := e0.grew g81 (by rintro _ ⟨⟩; omega)
 replace m3 := Grew.blk g81 m3 (by simp; omega)
 replace m13 := Grew.blk g81 m13 (by simp; omega)
 refine sD [(2,pV h1.size)] ?_
 clear hF a; intro a hF
 refine tK ?_
 refine cR ?_
 refine ret_ok [.cell 2 31] [.agg (tk s 32).toArray] (.agg (tk s 32).toArray) rfl hF ⟨⟨_,rfl,Loads.blk (vs := (tk s 32)) (by kernel_rfl) m8 rfl⟩,trivial⟩ rfl ?_
 exact ⟨rfl,e0⟩
noncomputable def b46 : Code := Tryd.f46.body.getD .skip
theorem start_sat (h : Heap) : Sat Tryd.prog 46 #[] h fun v h' => v = .agg (sv H0).toArray ∧ Ext h h' := by
 have e0 := Ext.refl h
 refine sat_of (args := []) (fn := Tryd.f46) (B := b46) (n := 2) (L := []) Tryd.func46 rfl (by kernel_rfl) rfl ?_
 intro a hF
 refine cS ?_
 refine cP 0 hF ?_
 refine SeqK.eff (k' := 1) (Does.new (v := .pointer (some ⟨h.size,0,none⟩)) (o := .cells #[.int .u32 0,.int .u32 0,.int .u32 0,.int .u32 0,.int .u32 0,.int .u32 0,.int .u32 0,.int .u32 0] 69) (by kernel_rfl)) rfl ?_
 rintro _ h1 ⟨rfl,hh⟩
 have g2 : Ext h h1 := push_ext hh
 have m3 : h1[h.size]? = some (.cells #[.int .u32 0,.int .u32 0,.int .u32 0,.int .u32 0,.int .u32 0,.int .u32 0,.int .u32 0,.int .u32 0] 69) := push_at hh
 clear hh
 have lt4 := blk_lt m3
 have zs5 := e0.size
 replace e0 := e0.ext g2
 refine sD [(0,pV h.size)] ?_
 clear hF a; intro a hF
 refine tK ?_
 refine cS ?_
 refine cP 1 hF ?_
 refine sP 1 [.agg #[.int .u32 1779033703,.int .u32 3144134277,.int .u32 1013904242,.int .u32 2773480762,.int .u32 1359893119,.int .u32 2600822924,.int .u32 528734635,.int .u32 1541459225]] ?_
 refine SeqK.eff (k' := 2) (Does.store (b := h.size) (off := 0) (vs := [.int .u32 1779033703,.int .u32 3144134277,.int .u32 1013904242,.int .u32 2773480762,.int .u32 1359893119,.int .u32 2600822924,.int .u32 528734635,.int .u32 1541459225]) (l := [.int .u32 0,.int .u32 0,.int .u32 0,.int .u32 0,.int .u32 0,.int .u32 0,.int .u32 0,.int .u32 0]) (by kernel_rfl) m3 (of_decide_eq_true (by kernel_rfl)) (List.all_eq_true.1 (by kernel_rfl))) rfl ?_
 rintro _ h6 ⟨rfl,hh⟩
 have g7 : Grew (some (h.size)) h1 h6 := hput_gr hh
 replace m3 : h6[h.size]? = some (.cells ([.int .u32 1779033703,.int .u32 3144134277,.int .u32 1013904242,.int .u32 2773480762,.int .u32 1359893119,.int .u32 2600822924,.int .u32 528734635,.int .u32 1541459225]).toArray 69) := hput_at (off := 0) (vs := [.int .u32 1779033703,.int .u32 3144134277,.int .u32 1013904242,.int .u32 2773480762,.int .u32 1359893119,.int .u32 2600822924,.int .u32 528734635,.int .u32 1541459225]) (l := ([.int .u32 0,.int .u32 0,.int .u32 0,.int .u32 0,.int .u32 0,.int .u32 0,.int .u32 0,.int .u32 0])) hh (by kernel_rfl) m3
 clear hh
 replace e0 := e0.grew g7 (by rintro _ ⟨⟩; omega)
 refine sD [(0,pV h.size)] ?_
 clear hF a; intro a hF
 refine tK ?_
 refine cR ?_
 refine ret_ok [.cell 0 69] [.agg #[.int .u32 1779033703,.int .u32 3144134277,.int .u32 1013904242,.int .u32 2773480762,.int .u32 1359893119,.int .u32 2600822924,.int .u32 528734635,.int .u32 1541459225]] (.agg #[.int .u32 1779033703,.int .u32 3144134277,.int .u32 1013904242,.int .u32 2773480762,.int .u32 1359893119,.int .u32 2600822924,.int .u32 528734635,.int .u32 1541459225]) rfl hF ⟨⟨_,rfl,Loads.blk (vs := [.int .u32 1779033703,.int .u32 3144134277,.int .u32 1013904242,.int .u32 2773480762,.int .u32 1359893119,.int .u32 2600822924,.int .u32 528734635,.int .u32 1541459225]) (by kernel_rfl) m3 rfl⟩,trivial⟩ rfl ?_
 exact ⟨by kernel_rfl,e0⟩
noncomputable def b39 : Code := Tryd.f39.body.getD .skip
theorem new_sat (h : Heap) : Sat Tryd.prog 39 #[] h fun v h' => ∃ b,v = .pointer (some ⟨b,0,none⟩) ∧ StA h' b none H0 [] 0 ∧ h.size ≤ b ∧ Ext h h' := by
 have e0 := Ext.refl h
 refine sat_of (args := []) (fn := Tryd.f39) (B := b39) (n := 4) (L := []) Tryd.func39 rfl (by kernel_rfl) rfl ?_
 intro a hF
 refine cS ?_
 refine cP 0 hF ?_
 refine sP 1 [.pointer none] ?_
 refine sD [] ?_
 clear hF a; intro a hF
 refine tK ?_
 refine cS ?_
 refine cP 1 hF ?_
 refine SeqK.eff (k' := 1) (Does.call (f := 46) (args := #[]) (by kernel_rfl) (start_sat _)) rfl ?_
 rintro _ h1 ⟨rfl,g⟩
 replace e0 := e0.ext g
 clear g
 refine sP 2 [.agg #[wv H0.a,wv H0.b,wv H0.c,wv H0.d,wv H0.e,wv H0.f,wv H0.g,wv H0.h,.slice none 0 0,.int .u64 0]] ?_
 refine SeqK.eff (k' := 3) (Does.new (v := .pointer (some ⟨h1.size,0,none⟩)) (o := .cells #[wv H0.a,wv H0.b,wv H0.c,wv H0.d,wv H0.e,wv H0.f,wv H0.g,wv H0.h,.slice none 0 0,.int .u64 0] 72) (by kernel_rfl)) rfl ?_
 rintro _ h2 ⟨rfl,hh⟩
 have g3 : Ext h1 h2 := push_ext hh
 have m4 : h2[h1.size]? = some (.cells #[wv H0.a,wv H0.b,wv H0.c,wv H0.d,wv H0.e,wv H0.f,wv H0.g,wv H0.h,.slice none 0 0,.int .u64 0] 72) := push_at hh
 clear hh
 have lt5 := blk_lt m4
 have zs6 := e0.size
 replace e0 := e0.ext g3
 refine sP 4 [pV h1.size] ?_
 refine sD [(0,pV h1.size)] ?_
 clear hF a; intro a hF
 refine tK ?_
 refine cR ?_
 refine ret_ok [.tmp 0] [.pointer (some ⟨h1.size,0,none⟩)] (.pointer (some ⟨h1.size,0,none⟩)) rfl hF ⟨rfl,trivial⟩ rfl ?_
 exact ⟨_,rfl,⟨none,0,rfl,by simp,m4,Own.nil _ _ _⟩,by omega,e0⟩
end Go.Proofs.YtkjlafiefgbjpaaDoor
