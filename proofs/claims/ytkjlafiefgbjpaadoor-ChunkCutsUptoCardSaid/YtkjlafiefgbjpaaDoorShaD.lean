/- Walks of package sha: what each function computes, as a law of its calls. No condition but those that each theorem names. -/
import Derived.Test.YtkjlafiefgbjpaaDoorShaC
namespace Go.Proofs.YtkjlafiefgbjpaaDoor
open Go Go.Lane Go.Sha
noncomputable def b41 : Code := Tryd.f41.body.getD .skip
set_option maxHeartbeats 1000000 in
theorem sum_sat (h : Heap) (b : Nat) (o : Option Nat) (st : S8) (r : List UInt8) (n : Nat) (hs : StA h b o st r n) (kt : Ktab h) (h1 : r.length ≤ 1099511627776) (h2 : n ≤ 1099511627776) : Sat Tryd.prog 41 #[.pointer (some ⟨b,0,none⟩)] h fun v h' => v = hv (fin st r n) ∧ Ext h h' := by
 obtain ⟨ad,cap,ho,hob,hm,own0⟩ := hs
 have hb : b < h.size := blk_lt hm
 have h0s := kt.lt
 have hbo : ∀ k,o = some k → k < h.size := fun k hk => own0.lt (by rw [blkOf_slice,← ho]; exact hk)
 have e0 := Ext.refl h
 refine sat_of (args := [.pointer (some ⟨b,0,none⟩)]) (fn := Tryd.f41) (B := b41) (n := 54) (L := [(0,.pointer (some ⟨b,0,none⟩))]) Tryd.func41 rfl (by kernel_rfl) rfl ?_
 intro a hF
 refine cS ?_
 refine cP 0 hF ?_
 refine SeqK.eff (k' := 1) (Does.new (v := .pointer (some ⟨h.size,0,none⟩)) (o := .cells #[.int .u8 0,.int .u8 0,.int .u8 0,.int .u8 0,.int .u8 0,.int .u8 0,.int .u8 0,.int .u8 0,.int .u8 0,.int .u8 0,.int .u8 0,.int .u8 0,.int .u8 0,.int .u8 0,.int .u8 0,.int .u8 0,.int .u8 0,.int .u8 0,.int .u8 0,.int .u8 0,.int .u8 0,.int .u8 0,.int .u8 0,.int .u8 0,.int .u8 0,.int .u8 0,.int .u8 0,.int .u8 0,.int .u8 0,.int .u8 0,.int .u8 0,.int .u8 0] 31) (by kernel_rfl)) rfl ?_
 rintro _ h1 ⟨rfl,hh⟩
 have g2 : Ext h h1 := push_ext hh
 have m3 : h1[h.size]? = some (.cells #[.int .u8 0,.int .u8 0,.int .u8 0,.int .u8 0,.int .u8 0,.int .u8 0,.int .u8 0,.int .u8 0,.int .u8 0,.int .u8 0,.int .u8 0,.int .u8 0,.int .u8 0,.int .u8 0,.int .u8 0,.int .u8 0,.int .u8 0,.int .u8 0,.int .u8 0,.int .u8 0,.int .u8 0,.int .u8 0,.int .u8 0,.int .u8 0,.int .u8 0,.int .u8 0,.int .u8 0,.int .u8 0,.int .u8 0,.int .u8 0,.int .u8 0,.int .u8 0] 31) := push_at hh
 clear hh
 have lt4 := blk_lt m3
 have zs5 := e0.size
 replace e0 := e0.ext g2
 replace kt := kt.ext g2
 replace own0 := own0.ext g2
 replace hm := Ext.blk g2 hm
 refine sD [(0,pV b),(2,pV h.size)] ?_
 clear hF a; intro a hF
 refine tK ?_
 refine cS ?_
 refine cP 1 hF ?_
 have e1 := Ext.refl h1
 refine SeqK.eff (k' := 1) (Does.new (v := .slice (some ⟨h1.size,0,none⟩) 0 0) (o := .cells #[] 5) (by kernel_rfl)) rfl ?_
 rintro _ h6 ⟨rfl,hh⟩
 have g7 : Ext h1 h6 := push_ext hh
 have m8 : h6[h1.size]? = some (.cells #[] 5) := push_at hh
 clear hh
 have lt9 := blk_lt m8
 have zs10 := e0.size
 have zs11 := e1.size
 replace e0 := e0.ext g7
 replace kt := kt.ext g7
 replace own0 := own0.ext g7
 replace e1 := e1.ext g7
 replace hm := Ext.blk g7 hm
 replace m3 := Ext.blk g7 m3
 refine sP 4 [pV b,pV b,.pointer (some ⟨b,8,none⟩)] ?_
 refine sC 5 (.slice ad r.length cap) (Calm.load (T := 22) (p := ⟨b,8,none⟩) (by kernel_rfl) (Loads.one (k := 1) (by kernel_rfl) ((hcell_blk hm).trans rfl))) ?_
 have own_e : Own h6 (.slice (some ⟨h1.size,0,none⟩) 0 0) 5 0 1 (([] : List UInt8).map bv) := Own.empty 1 m8
 have hge_e : ∀ k,((some ⟨h1.size,0,none⟩) : Option Addr).map (·.block) = some k → h1.size ≤ k := blk_ge _ (by omega)
 have hsz := e1.size
 refine SeqK.eff (k' := 6) (Does.append2 (t := 22) (E := 5) (sz := 1) (by_ := 1) (n := 0) (m := r.length) (v := .slice (some ⟨h1.size,0,none⟩) 0 0) (x := .slice ad r.length cap) (xs := ([] : List UInt8).map bv) (ys := r.map bv) (by kernel_rfl) (by kernel_rfl) own_e own0.row (ones_map _) (by unfold maxLen; first | omega | (simp only [List.length_append,List.length_cons,List.length_nil,List.length_replicate,zlen]; omega)) (by first | omega | (simp only [List.length_append,List.length_cons,List.length_nil,List.length_replicate,zlen]; omega))) rfl ?_
 rintro _ h16 ⟨ad12,cap13,rfl,ownx,g14,hb15⟩
 rw [blkOf_slice] at g14 hb15
 replace e0 := e0.grew g14 (fun k hk => by have := hge_e k hk; omega)
 replace kt := kt.grew g14 (fun e => by have := hge_e _ e.symm; omega)
 replace e1 := e1.grew g14 (fun k hk => by have := hge_e k hk; omega)
 replace hm := Grew.blk g14 hm (fun e => by have := hge_e _ e.symm; omega)
 replace m3 := Grew.blk g14 m3 (fun e => by have := hge_e _ e.symm; omega)
 replace own_e : Own h16 (.slice ad12 (r).length cap13) 5 (r).length 1 (r.map bv) := Own.app ownx (by first | rfl | simp) (by first | (simp; done) | (simp; omega))
 replace hge_e := ge_next hge_e hb15 (by omega)
 clear ownx g14 hb15 hsz
 clear own0
 refine sP 7 [.slice ad12 (0 + r.length) cap13] ?_
 refine sD [(0,pV b),(2,pV h.size),(3,.slice ad12 (0 + r.length) cap13)] ?_
 clear hF a; intro a hF
 have hcan : (0 + r.length : Nat) = r.length := by first | (simp; done) | (simp; omega)
 rw [hcan] at hF; clear hcan
 refine tK ?_
 refine cS ?_
 refine cP 2 hF ?_
 refine sP 1 [.slice ad12 r.length cap13] ?_
 refine SeqK.eff (k' := 2) (Does.new (v := .slice (some ⟨h16.size,0,none⟩) 1 1) (o := .cells #[.int .u8 128] 5) (by kernel_rfl)) rfl ?_
 rintro _ h17 ⟨rfl,hh⟩
 have g18 : Ext h16 h17 := push_ext hh
 have m19 : h17[h16.size]? = some (.cells #[.int .u8 128] 5) := push_at hh
 clear hh
 have lt20 := blk_lt m19
 have zs21 := e0.size
 have zs22 := e1.size
 replace e0 := e0.ext g18
 replace kt := kt.ext g18
 replace e1 := e1.ext g18
 replace own_e := own_e.ext g18
 replace hm := Ext.blk g18 hm
 replace m3 := Ext.blk g18 m3
 have rowx := Row.blk (n := 1) (sz := 1) (l := [bv (128 : UInt8)]) m19 rfl
 clear m19 lt20 zs21 zs22
 have hsz := e1.size
 refine SeqK.eff (k' := 3) (Does.append2 (t := 22) (E := 5) (sz := 1) (by_ := 1) (n := r.length) (m := 1) (v := .slice ad12 r.length cap13) (x := .slice (some ⟨h16.size,0,none⟩) 1 1) (xs := r.map bv) (ys := ([(128 : UInt8)]).map bv) (by kernel_rfl) (by kernel_rfl) own_e rowx (ones_map _) (by unfold maxLen; first | omega | (simp only [List.length_append,List.length_cons,List.length_nil,List.length_replicate,zlen]; omega)) (by first | omega | (simp only [List.length_append,List.length_cons,List.length_nil,List.length_replicate,zlen]; omega))) rfl ?_
 rintro _ h27 ⟨ad23,cap24,rfl,ownx,g25,hb26⟩
 rw [blkOf_slice] at g25 hb26
 replace e0 := e0.grew g25 (fun k hk => by have := hge_e k hk; omega)
 replace kt := kt.grew g25 (fun e => by have := hge_e _ e.symm; omega)
 replace e1 := e1.grew g25 (fun k hk => by have := hge_e k hk; omega)
 replace hm := Grew.blk g25 hm (fun e => by have := hge_e _ e.symm; omega)
 replace m3 := Grew.blk g25 m3 (fun e => by have := hge_e _ e.symm; omega)
 replace own_e : Own h27 (.slice ad23 ((r ++ [(128 : UInt8)])).length cap24) 5 ((r ++ [(128 : UInt8)])).length 1 ((r ++ [(128 : UInt8)]).map bv) := Own.app ownx (by first | rfl | simp) (by first | (simp; done) | (simp; omega))
 replace hge_e := ge_next hge_e hb26 (by omega)
 clear ownx g25 hb26 hsz
 clear rowx
 refine sP 4 [.slice ad23 (r.length + 1) cap24] ?_
 refine sD [(0,pV b),(2,pV h.size),(3,.slice ad23 (r.length + 1) cap24)] ?_
 clear hF a; intro a hF
 have hcan : (r.length + 1 : Nat) = (r ++ [(128 : UInt8)]).length := by first | (simp; done) | (simp; omega)
 rw [hcan] at hF; clear hcan
 refine tK ?_
 refine cS ?_
 refine cB 0 ?_
 have hz : (r ++ [(128 : UInt8)]).length = r.length + 1 := by simp
 have hz0 : zlen (r.length + 1) = (120 - (r.length + 1) % 64) % 64 := rfl
 have hl0 : (r ++ [(128 : UInt8)]).length = (r ++ [128] ++ List.replicate 0 (0 : UInt8)).length := by simp
 rw [hl0] at hF
 have own_f : Own h27 (.slice ad23 (r ++ [128] ++ List.replicate 0 (0 : UInt8)).length cap24) 5 (r ++ [128] ++ List.replicate 0 (0 : UInt8)).length 1 ((r ++ [128] ++ List.replicate 0 (0 : UInt8)).map bv) := by simpa using own_e
 refine C.loop (fun m a h' => ∃ j : Nat,∃ ad' : Option Addr,∃ cap' : Nat,m = zlen (r.length + 1) - j ∧ (Ext h h') ∧ (Ext h1 h') ∧ (Ktab h') ∧ (h'[b]? = some (.cells #[wv st.a,wv st.b,wv st.c,wv st.d,wv st.e,wv st.f,wv st.g,wv st.h,.slice ad r.length cap,.int .u64 ((n : Nat) : Int)] 72)) ∧ (h'[h.size]? = some (.cells #[.int .u8 0,.int .u8 0,.int .u8 0,.int .u8 0,.int .u8 0,.int .u8 0,.int .u8 0,.int .u8 0,.int .u8 0,.int .u8 0,.int .u8 0,.int .u8 0,.int .u8 0,.int .u8 0,.int .u8 0,.int .u8 0,.int .u8 0,.int .u8 0,.int .u8 0,.int .u8 0,.int .u8 0,.int .u8 0,.int .u8 0,.int .u8 0,.int .u8 0,.int .u8 0,.int .u8 0,.int .u8 0,.int .u8 0,.int .u8 0,.int .u8 0,.int .u8 0] 31)) ∧ (j ≤ zlen (r.length + 1)) ∧ (Own h' (.slice ad' (r ++ [128] ++ List.replicate j 0).length cap') 5 (r ++ [128] ++ List.replicate j 0).length 1 ((r ++ [128] ++ List.replicate j 0).map bv)) ∧ (∀ k,ad'.map (·.block) = some k → h1.size ≤ k) ∧ (Fr a 54 [(0,.pointer (some ⟨b,0,none⟩)),(2,.pointer (some ⟨h.size,0,none⟩)),(3,.slice ad' ((r ++ [128] ++ List.replicate j 0).length) cap')])) (zlen (r.length + 1) - 0) [1,1,1,0,0,0] (by kernel_rfl) ⟨0,ad23,cap24,rfl,e0,e1,kt,hm,m3,(by omega),own_f,hge_e,hF⟩ ?_
 clear hF a
 clear e0
 clear e1
 clear kt
 clear hm
 clear m3
 clear own_f
 clear hge_e
 rintro m a h28 ⟨j,ad',cap',rfl,e0,e1,kt,hm,m3,hj,own_e,hge_e,hF⟩
 have hlj : (r ++ [128] ++ List.replicate j 0).length = r.length + 1 + j := by simp; omega
 refine cS ?_
 refine cS ?_
 refine cP 3 hF ?_
 refine sP 2 [.slice ad' ((r ++ [128] ++ List.replicate j 0).length) cap',nV ((r ++ [128] ++ List.replicate j 0).length)] ?_
 refine s1 3 (.int .i64 ((((r ++ [128] ++ List.replicate j 0).length) % 64 : Nat) : Int)) (.int .i64 (Int.tmod (((r ++ [128] ++ List.replicate j 0).length : Nat) : Int) 64)) (congrArg (Value.int .i64) (tmodN ((r ++ [128] ++ List.replicate j 0).length) 64)) ?_
 refine sP 4 [.bool (!decide (((((r ++ [128] ++ List.replicate j 0).length) % 64 : Nat) : Int) = (56 : Int)))] ?_
 refine sD [(0,pV b),(2,pV h.size),(3,.slice ad' ((r ++ [128] ++ List.replicate j 0).length) cap'),(18,.bool (!decide (((((r ++ [128] ++ List.replicate j 0).length) % 64 : Nat) : Int) = (56 : Int))))] ?_
 clear hF a; intro a hF
 refine tK ?_
 refine cC 18 (!decide (((((r ++ [128] ++ List.replicate j 0).length) % 64 : Nat) : Int) = (56 : Int))) hF (fun hc29 => ?_) (fun hc29 => ?_)
 ·skip
  replace hc29 := not_decide_true hc29
  refine cN ?_
  refine tK ?_
  refine cB 1 ?_
  refine cP 4 hF ?_
  refine sP 1 [.slice ad' ((r ++ [128] ++ List.replicate j 0).length) cap'] ?_
  refine SeqK.eff (k' := 2) (Does.new (v := .slice (some ⟨h28.size,0,none⟩) 1 1) (o := .cells #[.int .u8 0] 5) (by kernel_rfl)) rfl ?_
  rintro _ h30 ⟨rfl,hh⟩
  have g31 : Ext h28 h30 := push_ext hh
  have m32 : h30[h28.size]? = some (.cells #[.int .u8 0] 5) := push_at hh
  clear hh
  have lt33 := blk_lt m32
  have zs34 := e0.size
  have zs35 := e1.size
  replace e0 := e0.ext g31
  replace e1 := e1.ext g31
  replace kt := kt.ext g31
  replace own_e := own_e.ext g31
  replace hm := Ext.blk g31 hm
  replace m3 := Ext.blk g31 m3
  have rowx := Row.blk (n := 1) (sz := 1) (l := [bv (0 : UInt8)]) m32 rfl
  clear m32 lt33 zs34 zs35
  have hsz := e1.size
  refine SeqK.eff (k' := 3) (Does.append2 (t := 22) (E := 5) (sz := 1) (by_ := 1) (n := (r ++ [128] ++ List.replicate j 0).length) (m := 1) (v := .slice ad' ((r ++ [128] ++ List.replicate j 0).length) cap') (x := .slice (some ⟨h28.size,0,none⟩) 1 1) (xs := (r ++ [128] ++ List.replicate j 0).map bv) (ys := ([(0 : UInt8)]).map bv) (by kernel_rfl) (by kernel_rfl) own_e rowx (ones_map _) (by unfold maxLen; first | omega | (simp only [List.length_append,List.length_cons,List.length_nil,List.length_replicate,zlen]; omega)) (by first | omega | (simp only [List.length_append,List.length_cons,List.length_nil,List.length_replicate,zlen]; omega))) rfl ?_
  rintro _ h40 ⟨ad36,cap37,rfl,ownx,g38,hb39⟩
  rw [blkOf_slice] at g38 hb39
  replace e0 := e0.grew g38 (fun k hk => by have := hge_e k hk; omega)
  replace e1 := e1.grew g38 (fun k hk => by have := hge_e k hk; omega)
  replace kt := kt.grew g38 (fun e => by have := hge_e _ e.symm; omega)
  replace hm := Grew.blk g38 hm (fun e => by have := hge_e _ e.symm; omega)
  replace m3 := Grew.blk g38 m3 (fun e => by have := hge_e _ e.symm; omega)
  replace own_e : Own h40 (.slice ad36 (((r ++ [128] ++ List.replicate j 0) ++ [(0 : UInt8)])).length cap37) 5 (((r ++ [128] ++ List.replicate j 0) ++ [(0 : UInt8)])).length 1 (((r ++ [128] ++ List.replicate j 0) ++ [(0 : UInt8)]).map bv) := Own.app ownx (by first | rfl | simp) (by first | (simp; done) | (simp; omega))
  replace hge_e := ge_next hge_e hb39 (by omega)
  clear ownx g38 hb39 hsz
  clear rowx
  refine sP 4 [.slice ad36 (((r ++ [128] ++ List.replicate j 0).length) + 1) cap37] ?_
  refine sD [(0,pV b),(2,pV h.size),(3,.slice ad36 (((r ++ [128] ++ List.replicate j 0).length) + 1) cap37)] ?_
  clear hF a; intro a hF
  have hcan : (((r ++ [128] ++ List.replicate j 0).length) + 1 : Nat) = ((r ++ [128] ++ List.replicate j 0) ++ [(0 : UInt8)]).length := by first | (simp; done) | (simp; omega)
  rw [hcan] at hF; clear hcan
  have hcan : ((r ++ [128] ++ List.replicate j 0) ++ [(0 : UInt8)]).length = (r ++ [128] ++ List.replicate (j + 1) (0 : UInt8)).length := by simp [List.replicate_succ']
  rw [hcan] at hF; clear hcan
  show ∃ m',m' < _ ∧ _
  refine ⟨_,?_,(j + 1),ad36,cap37,rfl,e0,e1,kt,hm,m3,(by omega),(by simpa [List.replicate_succ'] using own_e),hge_e,hF⟩
  omega
 ·skip
  replace hc29 := not_decide_false hc29
  refine cX 0 ?_
  show C Tryd.prog (sub b41 [1,1,1,1]) _ a h28
  refine cS ?_
  refine cS ?_
  refine cP 5 hF ?_
  refine sP 1 [.int .i64 0] ?_
  refine sD [(0,pV b),(2,pV h.size),(3,.slice ad' ((r ++ [128] ++ List.replicate j 0).length) cap'),(22,.int .i64 0)] ?_
  clear hF a; intro a hF
  refine tK ?_
  refine cB 2 ?_
  have ej : j = zlen (r.length + 1) := by omega
  subst ej
  refine C.unroll 9 [1,1,1,1,0,1,0,0] (by kernel_rfl) ?_
  refine Cround.step ?_
  refine cS ?_
  refine cP 6 hF ?_
  refine sP 1 [.bool true] ?_
  refine sD [(0,pV b),(2,pV h.size),(3,.slice ad' ((r ++ [128] ++ List.replicate (zlen (r.length + 1)) 0).length) cap'),(22,.int .i64 0),(23,.bool true)] ?_
  clear hF a; intro a hF
  refine tK ?_
  refine cS ?_
  refine cT 23 hF ?_
  refine cN ?_
  refine tK ?_
  refine cS ?_
  refine cB 3 ?_
  refine cS ?_
  refine cP 7 hF ?_
  refine sP 2 [.int .i64 0,.int .i64 0] ?_
  refine sD [(0,pV b),(2,pV h.size),(3,.slice ad' ((r ++ [128] ++ List.replicate (zlen (r.length + 1)) 0).length) cap'),(4,.int .i64 0),(22,.int .i64 0)] ?_
  clear hF a; intro a hF
  refine tK ?_
  refine cP 8 hF ?_
  refine sP 4 [.slice ad' ((r ++ [128] ++ List.replicate (zlen (r.length + 1)) 0).length) cap',pV b,pV b,.pointer (some ⟨b,9,none⟩)] ?_
  refine sC 5 (.int .u64 ((n : Nat) : Int)) (Calm.load (T := 60) (p := ⟨b,9,none⟩) (by kernel_rfl) (Loads.one (k := 1) (by kernel_rfl) ((hcell_blk hm).trans rfl))) ?_
  refine s1 6 (.int .u64 ((8 * n : Nat) : Int)) (.int .u64 (IntKind.u64.wrap (8 * ((n : Nat) : Int)))) (congrArg (Value.int .u64) (u64e (by omega) (by omega))) ?_
  refine sP 9 [.int .i64 0,.int .i64 0,.int .i64 56] ?_
  refine s1 10 (.int .u64 (((8 * n) / 2 ^ 56 : Nat) : Int)) (.int .u64 (Int.fdiv ((8 * n : Nat) : Int) (2 ^ 56))) (congrArg (Value.int .u64) (fdivN (8 * n) 56)) ?_
  refine s1 11 (bv (UInt8.ofNat ((8 * n) / 2 ^ 56))) (.int .u8 (IntKind.u8.wrap (((8 * n) / 2 ^ 56 : Nat) : Int))) (conv64 _) ?_
  refine SeqK.eff (k' := 12) (Does.new (v := .slice (some ⟨h28.size,0,none⟩) 1 1) (o := .cells #[bv (UInt8.ofNat ((8 * n) / 2 ^ 56))] 5) (by kernel_rfl)) rfl ?_
  rintro _ h41 ⟨rfl,hh⟩
  have g42 : Ext h28 h41 := push_ext hh
  have m43 : h41[h28.size]? = some (.cells #[bv (UInt8.ofNat ((8 * n) / 2 ^ 56))] 5) := push_at hh
  clear hh
  have lt44 := blk_lt m43
  have zs45 := e0.size
  have zs46 := e1.size
  replace e0 := e0.ext g42
  replace e1 := e1.ext g42
  replace kt := kt.ext g42
  replace own_e := own_e.ext g42
  replace hm := Ext.blk g42 hm
  replace m3 := Ext.blk g42 m3
  have rowx := Row.blk (n := 1) (sz := 1) (l := [bv (UInt8.ofNat ((8 * n) / 2 ^ 56))]) m43 rfl
  clear m43 lt44 zs45 zs46
  have hsz := e1.size
  refine SeqK.eff (k' := 13) (Does.append2 (t := 22) (E := 5) (sz := 1) (by_ := 1) (n := (r ++ [128] ++ List.replicate (zlen (r.length + 1)) 0).length) (m := 1) (v := .slice ad' ((r ++ [128] ++ List.replicate (zlen (r.length + 1)) 0).length) cap') (x := .slice (some ⟨h28.size,0,none⟩) 1 1) (xs := (r ++ [128] ++ List.replicate (zlen (r.length + 1)) 0).map bv) (ys := ([UInt8.ofNat ((8 * n) / 2 ^ 56)]).map bv) (by kernel_rfl) (by kernel_rfl) own_e rowx (ones_map _) (by unfold maxLen; first | omega | (simp only [List.length_append,List.length_cons,List.length_nil,List.length_replicate,zlen]; omega)) (by first | omega | (simp only [List.length_append,List.length_cons,List.length_nil,List.length_replicate,zlen]; omega))) rfl ?_
  rintro _ h51 ⟨ad47,cap48,rfl,ownx,g49,hb50⟩
  rw [blkOf_slice] at g49 hb50
  replace e0 := e0.grew g49 (fun k hk => by have := hge_e k hk; omega)
  replace e1 := e1.grew g49 (fun k hk => by have := hge_e k hk; omega)
  replace kt := kt.grew g49 (fun e => by have := hge_e _ e.symm; omega)
  replace hm := Grew.blk g49 hm (fun e => by have := hge_e _ e.symm; omega)
  replace m3 := Grew.blk g49 m3 (fun e => by have := hge_e _ e.symm; omega)
  replace own_e : Own h51 (.slice ad47 (((r ++ [128] ++ List.replicate (zlen (r.length + 1)) 0) ++ [UInt8.ofNat ((8 * n) / 2 ^ 56)])).length cap48) 5 (((r ++ [128] ++ List.replicate (zlen (r.length + 1)) 0) ++ [UInt8.ofNat ((8 * n) / 2 ^ 56)])).length 1 (((r ++ [128] ++ List.replicate (zlen (r.length + 1)) 0) ++ [UInt8.ofNat ((8 * n) / 2 ^ 56)]).map bv) := Own.app ownx (by first | rfl | simp) (by first | (simp; done) | (simp; omega))
  replace hge_e := ge_next hge_e hb50 (by omega)
  clear ownx g49 hb50 hsz
  clear rowx
  refine sP 14 [.slice ad47 (((r ++ [128] ++ List.replicate (zlen (r.length + 1)) 0).length) + 1) cap48] ?_
  refine sD [(0,pV b),(2,pV h.size),(3,.slice ad47 (((r ++ [128] ++ List.replicate (zlen (r.length + 1)) 0).length) + 1) cap48),(22,.int .i64 0)] ?_
  clear hF a; intro a hF
  have hcan : (((r ++ [128] ++ List.replicate (zlen (r.length + 1)) 0).length) + 1 : Nat) = ((r ++ [128] ++ List.replicate (zlen (r.length + 1)) 0) ++ [UInt8.ofNat ((8 * n) / 2 ^ 56)]).length := by first | (simp; done) | (simp; omega)
  rw [hcan] at hF; clear hcan
  show C Tryd.prog (sub b41 [1,1,1,1,0,1,0,0,1,1,1]) _ a h51
  refine cP 9 hF ?_
  refine sP 2 [.int .i64 1,.int .i64 1] ?_
  refine sD [(0,pV b),(2,pV h.size),(3,.slice ad47 (((r ++ [128] ++ List.replicate (zlen (r.length + 1)) 0) ++ [UInt8.ofNat ((8 * n) / 2 ^ 56)]).length) cap48),(22,.int .i64 1)] ?_
  clear hF a; intro a hF
  show Crounds _ _ _ _ 8 a h51
  refine Cround.step ?_
  refine cS ?_
  refine cP 6 hF ?_
  refine sP 1 [.bool true] ?_
  refine sD [(0,pV b),(2,pV h.size),(3,.slice ad47 (((r ++ [128] ++ List.replicate (zlen (r.length + 1)) 0) ++ [UInt8.ofNat ((8 * n) / 2 ^ 56)]).length) cap48),(22,.int .i64 1),(23,.bool true)] ?_
  clear hF a; intro a hF
  refine tK ?_
  refine cS ?_
  refine cT 23 hF ?_
  refine cN ?_
  refine tK ?_
  refine cS ?_
  refine cB 3 ?_
  refine cS ?_
  refine cP 7 hF ?_
  refine sP 2 [.int .i64 1,.int .i64 1] ?_
  refine sD [(0,pV b),(2,pV h.size),(3,.slice ad47 (((r ++ [128] ++ List.replicate (zlen (r.length + 1)) 0) ++ [UInt8.ofNat ((8 * n) / 2 ^ 56)]).length) cap48),(4,.int .i64 1),(22,.int .i64 1)] ?_
  clear hF a; intro a hF
  refine tK ?_
  refine cP 8 hF ?_
  refine sP 4 [.slice ad47 (((r ++ [128] ++ List.replicate (zlen (r.length + 1)) 0) ++ [UInt8.ofNat ((8 * n) / 2 ^ 56)]).length) cap48,pV b,pV b,.pointer (some ⟨b,9,none⟩)] ?_
  refine sC 5 (.int .u64 ((n : Nat) : Int)) (Calm.load (T := 60) (p := ⟨b,9,none⟩) (by kernel_rfl) (Loads.one (k := 1) (by kernel_rfl) ((hcell_blk hm).trans rfl))) ?_
  refine s1 6 (.int .u64 ((8 * n : Nat) : Int)) (.int .u64 (IntKind.u64.wrap (8 * ((n : Nat) : Int)))) (congrArg (Value.int .u64) (u64e (by omega) (by omega))) ?_
  refine sP 9 [.int .i64 1,.int .i64 8,.int .i64 48] ?_
  refine s1 10 (.int .u64 (((8 * n) / 2 ^ 48 : Nat) : Int)) (.int .u64 (Int.fdiv ((8 * n : Nat) : Int) (2 ^ 48))) (congrArg (Value.int .u64) (fdivN (8 * n) 48)) ?_
  refine s1 11 (bv (UInt8.ofNat ((8 * n) / 2 ^ 48))) (.int .u8 (IntKind.u8.wrap (((8 * n) / 2 ^ 48 : Nat) : Int))) (conv64 _) ?_
  refine SeqK.eff (k' := 12) (Does.new (v := .slice (some ⟨h51.size,0,none⟩) 1 1) (o := .cells #[bv (UInt8.ofNat ((8 * n) / 2 ^ 48))] 5) (by kernel_rfl)) rfl ?_
  rintro _ h52 ⟨rfl,hh⟩
  have g53 : Ext h51 h52 := push_ext hh
  have m54 : h52[h51.size]? = some (.cells #[bv (UInt8.ofNat ((8 * n) / 2 ^ 48))] 5) := push_at hh
  clear hh
  have lt55 := blk_lt m54
  have zs56 := e0.size
  have zs57 := e1.size
  replace e0 := e0.ext g53
  replace e1 := e1.ext g53
  replace kt := kt.ext g53
  replace own_e := own_e.ext g53
  replace hm := Ext.blk g53 hm
  replace m3 := Ext.blk g53 m3
  have rowx := Row.blk (n := 1) (sz := 1) (l := [bv (UInt8.ofNat ((8 * n) / 2 ^ 48))]) m54 rfl
  clear m54 lt55 zs56 zs57
  have hsz := e1.size
  refine SeqK.eff (k' := 13) (Does.append2 (t := 22) (E := 5) (sz := 1) (by_ := 1) (n := ((r ++ [128] ++ List.replicate (zlen (r.length + 1)) 0) ++ [UInt8.ofNat ((8 * n) / 2 ^ 56)]).length) (m := 1) (v := .slice ad47 (((r ++ [128] ++ List.replicate (zlen (r.length + 1)) 0) ++ [UInt8.ofNat ((8 * n) / 2 ^ 56)]).length) cap48) (x := .slice (some ⟨h51.size,0,none⟩) 1 1) (xs := ((r ++ [128] ++ List.replicate (zlen (r.length + 1)) 0) ++ [UInt8.ofNat ((8 * n) / 2 ^ 56)]).map bv) (ys := ([UInt8.ofNat ((8 * n) / 2 ^ 48)]).map bv) (by kernel_rfl) (by kernel_rfl) own_e rowx (ones_map _) (by unfold maxLen; first | omega | (simp only [List.length_append,List.length_cons,List.length_nil,List.length_replicate,zlen]; omega)) (by first | omega | (simp only [List.length_append,List.length_cons,List.length_nil,List.length_replicate,zlen]; omega))) rfl ?_
  rintro _ h62 ⟨ad58,cap59,rfl,ownx,g60,hb61⟩
  rw [blkOf_slice] at g60 hb61
  replace e0 := e0.grew g60 (fun k hk => by have := hge_e k hk; omega)
  replace e1 := e1.grew g60 (fun k hk => by have := hge_e k hk; omega)
  replace kt := kt.grew g60 (fun e => by have := hge_e _ e.symm; omega)
  replace hm := Grew.blk g60 hm (fun e => by have := hge_e _ e.symm; omega)
  replace m3 := Grew.blk g60 m3 (fun e => by have := hge_e _ e.symm; omega)
  replace own_e : Own h62 (.slice ad58 ((((r ++ [128] ++ List.replicate (zlen (r.length + 1)) 0) ++ [UInt8.ofNat ((8 * n) / 2 ^ 56)]) ++ [UInt8.ofNat ((8 * n) / 2 ^ 48)])).length cap59) 5 ((((r ++ [128] ++ List.replicate (zlen (r.length + 1)) 0) ++ [UInt8.ofNat ((8 * n) / 2 ^ 56)]) ++ [UInt8.ofNat ((8 * n) / 2 ^ 48)])).length 1 ((((r ++ [128] ++ List.replicate (zlen (r.length + 1)) 0) ++ [UInt8.ofNat ((8 * n) / 2 ^ 56)]) ++ [UInt8.ofNat ((8 * n) / 2 ^ 48)]).map bv) := Own.app ownx (by first | rfl | simp) (by first | (simp; done) | (simp; omega))
  replace hge_e := ge_next hge_e hb61 (by omega)
  clear ownx g60 hb61 hsz
  clear rowx
  refine sP 14 [.slice ad58 ((((r ++ [128] ++ List.replicate (zlen (r.length + 1)) 0) ++ [UInt8.ofNat ((8 * n) / 2 ^ 56)]).length) + 1) cap59] ?_
  refine sD [(0,pV b),(2,pV h.size),(3,.slice ad58 ((((r ++ [128] ++ List.replicate (zlen (r.length + 1)) 0) ++ [UInt8.ofNat ((8 * n) / 2 ^ 56)]).length) + 1) cap59),(22,.int .i64 1)] ?_
  clear hF a; intro a hF
  have hcan : ((((r ++ [128] ++ List.replicate (zlen (r.length + 1)) 0) ++ [UInt8.ofNat ((8 * n) / 2 ^ 56)]).length) + 1 : Nat) = (((r ++ [128] ++ List.replicate (zlen (r.length + 1)) 0) ++ [UInt8.ofNat ((8 * n) / 2 ^ 56)]) ++ [UInt8.ofNat ((8 * n) / 2 ^ 48)]).length := by first | (simp; done) | (simp; omega)
  rw [hcan] at hF; clear hcan
  show C Tryd.prog (sub b41 [1,1,1,1,0,1,0,0,1,1,1]) _ a h62
  refine cP 9 hF ?_
  refine sP 2 [.int .i64 2,.int .i64 2] ?_
  refine sD [(0,pV b),(2,pV h.size),(3,.slice ad58 ((((r ++ [128] ++ List.replicate (zlen (r.length + 1)) 0) ++ [UInt8.ofNat ((8 * n) / 2 ^ 56)]) ++ [UInt8.ofNat ((8 * n) / 2 ^ 48)]).length) cap59),(22,.int .i64 2)] ?_
  clear hF a; intro a hF
  show Crounds _ _ _ _ 7 a h62
  refine Cround.step ?_
  refine cS ?_
  refine cP 6 hF ?_
  refine sP 1 [.bool true] ?_
  refine sD [(0,pV b),(2,pV h.size),(3,.slice ad58 ((((r ++ [128] ++ List.replicate (zlen (r.length + 1)) 0) ++ [UInt8.ofNat ((8 * n) / 2 ^ 56)]) ++ [UInt8.ofNat ((8 * n) / 2 ^ 48)]).length) cap59),(22,.int .i64 2),(23,.bool true)] ?_
  clear hF a; intro a hF
  refine tK ?_
  refine cS ?_
  refine cT 23 hF ?_
  refine cN ?_
  refine tK ?_
  refine cS ?_
  refine cB 3 ?_
  refine cS ?_
  refine cP 7 hF ?_
  refine sP 2 [.int .i64 2,.int .i64 2] ?_
  refine sD [(0,pV b),(2,pV h.size),(3,.slice ad58 ((((r ++ [128] ++ List.replicate (zlen (r.length + 1)) 0) ++ [UInt8.ofNat ((8 * n) / 2 ^ 56)]) ++ [UInt8.ofNat ((8 * n) / 2 ^ 48)]).length) cap59),(4,.int .i64 2),(22,.int .i64 2)] ?_
  clear hF a; intro a hF
  refine tK ?_
  refine cP 8 hF ?_
  refine sP 4 [.slice ad58 ((((r ++ [128] ++ List.replicate (zlen (r.length + 1)) 0) ++ [UInt8.ofNat ((8 * n) / 2 ^ 56)]) ++ [UInt8.ofNat ((8 * n) / 2 ^ 48)]).length) cap59,pV b,pV b,.pointer (some ⟨b,9,none⟩)] ?_
  refine sC 5 (.int .u64 ((n : Nat) : Int)) (Calm.load (T := 60) (p := ⟨b,9,none⟩) (by kernel_rfl) (Loads.one (k := 1) (by kernel_rfl) ((hcell_blk hm).trans rfl))) ?_
  refine s1 6 (.int .u64 ((8 * n : Nat) : Int)) (.int .u64 (IntKind.u64.wrap (8 * ((n : Nat) : Int)))) (congrArg (Value.int .u64) (u64e (by omega) (by omega))) ?_
  refine sP 9 [.int .i64 2,.int .i64 16,.int .i64 40] ?_
  refine s1 10 (.int .u64 (((8 * n) / 2 ^ 40 : Nat) : Int)) (.int .u64 (Int.fdiv ((8 * n : Nat) : Int) (2 ^ 40))) (congrArg (Value.int .u64) (fdivN (8 * n) 40)) ?_
  refine s1 11 (bv (UInt8.ofNat ((8 * n) / 2 ^ 40))) (.int .u8 (IntKind.u8.wrap (((8 * n) / 2 ^ 40 : Nat) : Int))) (conv64 _) ?_
  refine SeqK.eff (k' := 12) (Does.new (v := .slice (some ⟨h62.size,0,none⟩) 1 1) (o := .cells #[bv (UInt8.ofNat ((8 * n) / 2 ^ 40))] 5) (by kernel_rfl)) rfl ?_
  rintro _ h63 ⟨rfl,hh⟩
  have g64 : Ext h62 h63 := push_ext hh
  have m65 : h63[h62.size]? = some (.cells #[bv (UInt8.ofNat ((8 * n) / 2 ^ 40))] 5) := push_at hh
  clear hh
  have lt66 := blk_lt m65
  have zs67 := e0.size
  have zs68 := e1.size
  replace e0 := e0.ext g64
  replace e1 := e1.ext g64
  replace kt := kt.ext g64
  replace own_e := own_e.ext g64
  replace hm := Ext.blk g64 hm
  replace m3 := Ext.blk g64 m3
  have rowx := Row.blk (n := 1) (sz := 1) (l := [bv (UInt8.ofNat ((8 * n) / 2 ^ 40))]) m65 rfl
  clear m65 lt66 zs67 zs68
  have hsz := e1.size
  refine SeqK.eff (k' := 13) (Does.append2 (t := 22) (E := 5) (sz := 1) (by_ := 1) (n := (((r ++ [128] ++ List.replicate (zlen (r.length + 1)) 0) ++ [UInt8.ofNat ((8 * n) / 2 ^ 56)]) ++ [UInt8.ofNat ((8 * n) / 2 ^ 48)]).length) (m := 1) (v := .slice ad58 ((((r ++ [128] ++ List.replicate (zlen (r.length + 1)) 0) ++ [UInt8.ofNat ((8 * n) / 2 ^ 56)]) ++ [UInt8.ofNat ((8 * n) / 2 ^ 48)]).length) cap59) (x := .slice (some ⟨h62.size,0,none⟩) 1 1) (xs := (((r ++ [128] ++ List.replicate (zlen (r.length + 1)) 0) ++ [UInt8.ofNat ((8 * n) / 2 ^ 56)]) ++ [UInt8.ofNat ((8 * n) / 2 ^ 48)]).map bv) (ys := ([UInt8.ofNat ((8 * n) / 2 ^ 40)]).map bv) (by kernel_rfl) (by kernel_rfl) own_e rowx (ones_map _) (by unfold maxLen; first | omega | (simp only [List.length_append,List.length_cons,List.length_nil,List.length_replicate,zlen]; omega)) (by first | omega | (simp only [List.length_append,List.length_cons,List.length_nil,List.length_replicate,zlen]; omega))) rfl ?_
  rintro _ h73 ⟨ad69,cap70,rfl,ownx,g71,hb72⟩
  rw [blkOf_slice] at g71 hb72
  replace e0 := e0.grew g71 (fun k hk => by have := hge_e k hk; omega)
  replace e1 := e1.grew g71 (fun k hk => by have := hge_e k hk; omega)
  replace kt := kt.grew g71 (fun e => by have := hge_e _ e.symm; omega)
  replace hm := Grew.blk g71 hm (fun e => by have := hge_e _ e.symm; omega)
  replace m3 := Grew.blk g71 m3 (fun e => by have := hge_e _ e.symm; omega)
  replace own_e : Own h73 (.slice ad69 (((((r ++ [128] ++ List.replicate (zlen (r.length + 1)) 0) ++ [UInt8.ofNat ((8 * n) / 2 ^ 56)]) ++ [UInt8.ofNat ((8 * n) / 2 ^ 48)]) ++ [UInt8.ofNat ((8 * n) / 2 ^ 40)])).length cap70) 5 (((((r ++ [128] ++ List.replicate (zlen (r.length + 1)) 0) ++ [UInt8.ofNat ((8 * n) / 2 ^ 56)]) ++ [UInt8.ofNat ((8 * n) / 2 ^ 48)]) ++ [UInt8.ofNat ((8 * n) / 2 ^ 40)])).length 1 (((((r ++ [128] ++ List.replicate (zlen (r.length + 1)) 0) ++ [UInt8.ofNat ((8 * n) / 2 ^ 56)]) ++ [UInt8.ofNat ((8 * n) / 2 ^ 48)]) ++ [UInt8.ofNat ((8 * n) / 2 ^ 40)]).map bv) := Own.app ownx (by first | rfl | simp) (by first | (simp; done) | (simp; omega))
  replace hge_e := ge_next hge_e hb72 (by omega)
  clear ownx g71 hb72 hsz
  clear rowx
  refine sP 14 [.slice ad69 (((((r ++ [128] ++ List.replicate (zlen (r.length + 1)) 0) ++ [UInt8.ofNat ((8 * n) / 2 ^ 56)]) ++ [UInt8.ofNat ((8 * n) / 2 ^ 48)]).length) + 1) cap70] ?_
  refine sD [(0,pV b),(2,pV h.size),(3,.slice ad69 (((((r ++ [128] ++ List.replicate (zlen (r.length + 1)) 0) ++ [UInt8.ofNat ((8 * n) / 2 ^ 56)]) ++ [UInt8.ofNat ((8 * n) / 2 ^ 48)]).length) + 1) cap70),(22,.int .i64 2)] ?_
  clear hF a; intro a hF
  have hcan : (((((r ++ [128] ++ List.replicate (zlen (r.length + 1)) 0) ++ [UInt8.ofNat ((8 * n) / 2 ^ 56)]) ++ [UInt8.ofNat ((8 * n) / 2 ^ 48)]).length) + 1 : Nat) = ((((r ++ [128] ++ List.replicate (zlen (r.length + 1)) 0) ++ [UInt8.ofNat ((8 * n) / 2 ^ 56)]) ++ [UInt8.ofNat ((8 * n) / 2 ^ 48)]) ++ [UInt8.ofNat ((8 * n) / 2 ^ 40)]).length := by first | (simp; done) | (simp; omega)
  rw [hcan] at hF; clear hcan
  show C Tryd.prog (sub b41 [1,1,1,1,0,1,0,0,1,1,1]) _ a h73
  refine cP 9 hF ?_
  refine sP 2 [.int .i64 3,.int .i64 3] ?_
  refine sD [(0,pV b),(2,pV h.size),(3,.slice ad69 (((((r ++ [128] ++ List.replicate (zlen (r.length + 1)) 0) ++ [UInt8.ofNat ((8 * n) / 2 ^ 56)]) ++ [UInt8.ofNat ((8 * n) / 2 ^ 48)]) ++ [UInt8.ofNat ((8 * n) / 2 ^ 40)]).length) cap70),(22,.int .i64 3)] ?_
  clear hF a; intro a hF
  show Crounds _ _ _ _ 6 a h73
  refine Cround.step ?_
  refine cS ?_
  refine cP 6 hF ?_
  refine sP 1 [.bool true] ?_
  refine sD [(0,pV b),(2,pV h.size),(3,.slice ad69 (((((r ++ [128] ++ List.replicate (zlen (r.length + 1)) 0) ++ [UInt8.ofNat ((8 * n) / 2 ^ 56)]) ++ [UInt8.ofNat ((8 * n) / 2 ^ 48)]) ++ [UInt8.ofNat ((8 * n) / 2 ^ 40)]).length) cap70),(22,.int .i64 3),(23,.bool true)] ?_
  clear hF a; intro a hF
  refine tK ?_
  refine cS ?_
  refine cT 23 hF ?_
  refine cN ?_
  refine tK ?_
  refine cS ?_
  refine cB 3 ?_
  refine cS ?_
  refine cP 7 hF ?_
  refine sP 2 [.int .i64 3,.int .i64 3] ?_
  refine sD [(0,pV b),(2,pV h.size),(3,.slice ad69 (((((r ++ [128] ++ List.replicate (zlen (r.length + 1)) 0) ++ [UInt8.ofNat ((8 * n) / 2 ^ 56)]) ++ [UInt8.ofNat ((8 * n) / 2 ^ 48)]) ++ [UInt8.ofNat ((8 * n) / 2 ^ 40)]).length) cap70),(4,.int .i64 3),(22,.int .i64 3)] ?_
  clear hF a; intro a hF
  refine tK ?_
  refine cP 8 hF ?_
  refine sP 4 [.slice ad69 (((((r ++ [128] ++ List.replicate (zlen (r.length + 1)) 0) ++ [UInt8.ofNat ((8 * n) / 2 ^ 56)]) ++ [UInt8.ofNat ((8 * n) / 2 ^ 48)]) ++ [UInt8.ofNat ((8 * n) / 2 ^ 40)]).length) cap70,pV b,pV b,.pointer (some ⟨b,9,none⟩)] ?_
  refine sC 5 (.int .u64 ((n : Nat) : Int)) (Calm.load (T := 60) (p := ⟨b,9,none⟩) (by kernel_rfl) (Loads.one (k := 1) (by kernel_rfl) ((hcell_blk hm).trans rfl))) ?_
  refine s1 6 (.int .u64 ((8 * n : Nat) : Int)) (.int .u64 (IntKind.u64.wrap (8 * ((n : Nat) : Int)))) (congrArg (Value.int .u64) (u64e (by omega) (by omega))) ?_
  refine sP 9 [.int .i64 3,.int .i64 24,.int .i64 32] ?_
  refine s1 10 (.int .u64 (((8 * n) / 2 ^ 32 : Nat) : Int)) (.int .u64 (Int.fdiv ((8 * n : Nat) : Int) (2 ^ 32))) (congrArg (Value.int .u64) (fdivN (8 * n) 32)) ?_
  refine s1 11 (bv (UInt8.ofNat ((8 * n) / 2 ^ 32))) (.int .u8 (IntKind.u8.wrap (((8 * n) / 2 ^ 32 : Nat) : Int))) (conv64 _) ?_
  refine SeqK.eff (k' := 12) (Does.new (v := .slice (some ⟨h73.size,0,none⟩) 1 1) (o := .cells #[bv (UInt8.ofNat ((8 * n) / 2 ^ 32))] 5) (by kernel_rfl)) rfl ?_
  rintro _ h74 ⟨rfl,hh⟩
  have g75 : Ext h73 h74 := push_ext hh
  have m76 : h74[h73.size]? = some (.cells #[bv (UInt8.ofNat ((8 * n) / 2 ^ 32))] 5) := push_at hh
  clear hh
  have lt77 := blk_lt m76
  have zs78 := e0.size
  have zs79 := e1.size
  replace e0 := e0.ext g75
  replace e1 := e1.ext g75
  replace kt := kt.ext g75
  replace own_e := own_e.ext g75
  replace hm := Ext.blk g75 hm
  replace m3 := Ext.blk g75 m3
  have rowx := Row.blk (n := 1) (sz := 1) (l := [bv (UInt8.ofNat ((8 * n) / 2 ^ 32))]) m76 rfl
  clear m76 lt77 zs78 zs79
  have hsz := e1.size
  refine SeqK.eff (k' := 13) (Does.append2 (t := 22) (E := 5) (sz := 1) (by_ := 1) (n := ((((r ++ [128] ++ List.replicate (zlen (r.length + 1)) 0) ++ [UInt8.ofNat ((8 * n) / 2 ^ 56)]) ++ [UInt8.ofNat ((8 * n) / 2 ^ 48)]) ++ [UInt8.ofNat ((8 * n) / 2 ^ 40)]).length) (m := 1) (v := .slice ad69 (((((r ++ [128] ++ List.replicate (zlen (r.length + 1)) 0) ++ [UInt8.ofNat ((8 * n) / 2 ^ 56)]) ++ [UInt8.ofNat ((8 * n) / 2 ^ 48)]) ++ [UInt8.ofNat ((8 * n) / 2 ^ 40)]).length) cap70) (x := .slice (some ⟨h73.size,0,none⟩) 1 1) (xs := ((((r ++ [128] ++ List.replicate (zlen (r.length + 1)) 0) ++ [UInt8.ofNat ((8 * n) / 2 ^ 56)]) ++ [UInt8.ofNat ((8 * n) / 2 ^ 48)]) ++ [UInt8.ofNat ((8 * n) / 2 ^ 40)]).map bv) (ys := ([UInt8.ofNat ((8 * n) / 2 ^ 32)]).map bv) (by kernel_rfl) (by kernel_rfl) own_e rowx (ones_map _) (by unfold maxLen; first | omega | (simp only [List.length_append,List.length_cons,List.length_nil,List.length_replicate,zlen]; omega)) (by first | omega | (simp only [List.length_append,List.length_cons,List.length_nil,List.length_replicate,zlen]; omega))) rfl ?_
  rintro _ h84 ⟨ad80,cap81,rfl,ownx,g82,hb83⟩
  rw [blkOf_slice] at g82 hb83
  replace e0 := e0.grew g82 (fun k hk => by have := hge_e k hk; omega)
  replace e1 := e1.grew g82 (fun k hk => by have := hge_e k hk; omega)
  replace kt := kt.grew g82 (fun e => by have := hge_e _ e.symm; omega)
  replace hm := Grew.blk g82 hm (fun e => by have := hge_e _ e.symm; omega)
  replace m3 := Grew.blk g82 m3 (fun e => by have := hge_e _ e.symm; omega)
  replace own_e : Own h84 (.slice ad80 ((((((r ++ [128] ++ List.replicate (zlen (r.length + 1)) 0) ++ [UInt8.ofNat ((8 * n) / 2 ^ 56)]) ++ [UInt8.ofNat ((8 * n) / 2 ^ 48)]) ++ [UInt8.ofNat ((8 * n) / 2 ^ 40)]) ++ [UInt8.ofNat ((8 * n) / 2 ^ 32)])).length cap81) 5 ((((((r ++ [128] ++ List.replicate (zlen (r.length + 1)) 0) ++ [UInt8.ofNat ((8 * n) / 2 ^ 56)]) ++ [UInt8.ofNat ((8 * n) / 2 ^ 48)]) ++ [UInt8.ofNat ((8 * n) / 2 ^ 40)]) ++ [UInt8.ofNat ((8 * n) / 2 ^ 32)])).length 1 ((((((r ++ [128] ++ List.replicate (zlen (r.length + 1)) 0) ++ [UInt8.ofNat ((8 * n) / 2 ^ 56)]) ++ [UInt8.ofNat ((8 * n) / 2 ^ 48)]) ++ [UInt8.ofNat ((8 * n) / 2 ^ 40)]) ++ [UInt8.ofNat ((8 * n) / 2 ^ 32)]).map bv) := Own.app ownx (by first | rfl | simp) (by first | (simp; done) | (simp; omega))
  replace hge_e := ge_next hge_e hb83 (by omega)
  clear ownx g82 hb83 hsz
  clear rowx
  refine sP 14 [.slice ad80 ((((((r ++ [128] ++ List.replicate (zlen (r.length + 1)) 0) ++ [UInt8.ofNat ((8 * n) / 2 ^ 56)]) ++ [UInt8.ofNat ((8 * n) / 2 ^ 48)]) ++ [UInt8.ofNat ((8 * n) / 2 ^ 40)]).length) + 1) cap81] ?_
  refine sD [(0,pV b),(2,pV h.size),(3,.slice ad80 ((((((r ++ [128] ++ List.replicate (zlen (r.length + 1)) 0) ++ [UInt8.ofNat ((8 * n) / 2 ^ 56)]) ++ [UInt8.ofNat ((8 * n) / 2 ^ 48)]) ++ [UInt8.ofNat ((8 * n) / 2 ^ 40)]).length) + 1) cap81),(22,.int .i64 3)] ?_
  clear hF a; intro a hF
  have hcan : ((((((r ++ [128] ++ List.replicate (zlen (r.length + 1)) 0) ++ [UInt8.ofNat ((8 * n) / 2 ^ 56)]) ++ [UInt8.ofNat ((8 * n) / 2 ^ 48)]) ++ [UInt8.ofNat ((8 * n) / 2 ^ 40)]).length) + 1 : Nat) = (((((r ++ [128] ++ List.replicate (zlen (r.length + 1)) 0) ++ [UInt8.ofNat ((8 * n) / 2 ^ 56)]) ++ [UInt8.ofNat ((8 * n) / 2 ^ 48)]) ++ [UInt8.ofNat ((8 * n) / 2 ^ 40)]) ++ [UInt8.ofNat ((8 * n) / 2 ^ 32)]).length := by first | (simp; done) | (simp; omega)
  rw [hcan] at hF; clear hcan
  show C Tryd.prog (sub b41 [1,1,1,1,0,1,0,0,1,1,1]) _ a h84
  refine cP 9 hF ?_
  refine sP 2 [.int .i64 4,.int .i64 4] ?_
  refine sD [(0,pV b),(2,pV h.size),(3,.slice ad80 ((((((r ++ [128] ++ List.replicate (zlen (r.length + 1)) 0) ++ [UInt8.ofNat ((8 * n) / 2 ^ 56)]) ++ [UInt8.ofNat ((8 * n) / 2 ^ 48)]) ++ [UInt8.ofNat ((8 * n) / 2 ^ 40)]) ++ [UInt8.ofNat ((8 * n) / 2 ^ 32)]).length) cap81),(22,.int .i64 4)] ?_
  clear hF a; intro a hF
  show Crounds _ _ _ _ 5 a h84
  refine Cround.step ?_
  refine cS ?_
  refine cP 6 hF ?_
  refine sP 1 [.bool true] ?_
  refine sD [(0,pV b),(2,pV h.size),(3,.slice ad80 ((((((r ++ [128] ++ List.replicate (zlen (r.length + 1)) 0) ++ [UInt8.ofNat ((8 * n) / 2 ^ 56)]) ++ [UInt8.ofNat ((8 * n) / 2 ^ 48)]) ++ [UInt8.ofNat ((8 * n) / 2 ^ 40)]) ++ [UInt8.ofNat ((8 * n) / 2 ^ 32)]).length) cap81),(22,.int .i64 4),(23,.bool true)] ?_
  clear hF a; intro a hF
  refine tK ?_
  refine cS ?_
  refine cT 23 hF ?_
  refine cN ?_
  refine tK ?_
  refine cS ?_
  refine cB 3 ?_
  refine cS ?_
  refine cP 7 hF ?_
  refine sP 2 [.int .i64 4,.int .i64 4] ?_
  refine sD [(0,pV b),(2,pV h.size),(3,.slice ad80 ((((((r ++ [128] ++ List.replicate (zlen (r.length + 1)) 0) ++ [UInt8.ofNat ((8 * n) / 2 ^ 56)]) ++ [UInt8.ofNat ((8 * n) / 2 ^ 48)]) ++ [UInt8.ofNat ((8 * n) / 2 ^ 40)]) ++ [UInt8.ofNat ((8 * n) / 2 ^ 32)]).length) cap81),(4,.int .i64 4),(22,.int .i64 4)] ?_
  clear hF a; intro a hF
  refine tK ?_
  refine cP 8 hF ?_
  refine sP 4 [.slice ad80 ((((((r ++ [128] ++ List.replicate (zlen (r.length + 1)) 0) ++ [UInt8.ofNat ((8 * n) / 2 ^ 56)]) ++ [UInt8.ofNat ((8 * n) / 2 ^ 48)]) ++ [UInt8.ofNat ((8 * n) / 2 ^ 40)]) ++ [UInt8.ofNat ((8 * n) / 2 ^ 32)]).length) cap81,pV b,pV b,.pointer (some ⟨b,9,none⟩)] ?_
  refine sC 5 (.int .u64 ((n : Nat) : Int)) (Calm.load (T := 60) (p := ⟨b,9,none⟩) (by kernel_rfl) (Loads.one (k := 1) (by kernel_rfl) ((hcell_blk hm).trans rfl))) ?_
  refine s1 6 (.int .u64 ((8 * n : Nat) : Int)) (.int .u64 (IntKind.u64.wrap (8 * ((n : Nat) : Int)))) (congrArg (Value.int .u64) (u64e (by omega) (by omega))) ?_
  refine sP 9 [.int .i64 4,.int .i64 32,.int .i64 24] ?_
  refine s1 10 (.int .u64 (((8 * n) / 2 ^ 24 : Nat) : Int)) (.int .u64 (Int.fdiv ((8 * n : Nat) : Int) (2 ^ 24))) (congrArg (Value.int .u64) (fdivN (8 * n) 24)) ?_
  refine s1 11 (bv (UInt8.ofNat ((8 * n) / 2 ^ 24))) (.int .u8 (IntKind.u8.wrap (((8 * n) / 2 ^ 24 : Nat) : Int))) (conv64 _) ?_
  refine SeqK.eff (k' := 12) (Does.new (v := .slice (some ⟨h84.size,0,none⟩) 1 1) (o := .cells #[bv (UInt8.ofNat ((8 * n) / 2 ^ 24))] 5) (by kernel_rfl)) rfl ?_
  rintro _ h85 ⟨rfl,hh⟩
  have g86 : Ext h84 h85 := push_ext hh
  have m87 : h85[h84.size]? = some (.cells #[bv (UInt8.ofNat ((8 * n) / 2 ^ 24))] 5) := push_at hh
  clear hh
  have lt88 := blk_lt m87
  have zs89 := e0.size
  have zs90 := e1.size
  replace e0 := e0.ext g86
  replace e1 := e1.ext g86
  replace kt := kt.ext g86
  replace own_e := own_e.ext g86
  replace hm := Ext.blk g86 hm
  replace m3 := Ext.blk g86 m3
  have rowx := Row.blk (n := 1) (sz := 1) (l := [bv (UInt8.ofNat ((8 * n) / 2 ^ 24))]) m87 rfl
  clear m87 lt88 zs89 zs90
  have hsz := e1.size
  refine SeqK.eff (k' := 13) (Does.append2 (t := 22) (E := 5) (sz := 1) (by_ := 1) (n := (((((r ++ [128] ++ List.replicate (zlen (r.length + 1)) 0) ++ [UInt8.ofNat ((8 * n) / 2 ^ 56)]) ++ [UInt8.ofNat ((8 * n) / 2 ^ 48)]) ++ [UInt8.ofNat ((8 * n) / 2 ^ 40)]) ++ [UInt8.ofNat ((8 * n) / 2 ^ 32)]).length) (m := 1) (v := .slice ad80 ((((((r ++ [128] ++ List.replicate (zlen (r.length + 1)) 0) ++ [UInt8.ofNat ((8 * n) / 2 ^ 56)]) ++ [UInt8.ofNat ((8 * n) / 2 ^ 48)]) ++ [UInt8.ofNat ((8 * n) / 2 ^ 40)]) ++ [UInt8.ofNat ((8 * n) / 2 ^ 32)]).length) cap81) (x := .slice (some ⟨h84.size,0,none⟩) 1 1) (xs := (((((r ++ [128] ++ List.replicate (zlen (r.length + 1)) 0) ++ [UInt8.ofNat ((8 * n) / 2 ^ 56)]) ++ [UInt8.ofNat ((8 * n) / 2 ^ 48)]) ++ [UInt8.ofNat ((8 * n) / 2 ^ 40)]) ++ [UInt8.ofNat ((8 * n) / 2 ^ 32)]).map bv) (ys := ([UInt8.ofNat ((8 * n) / 2 ^ 24)]).map bv) (by kernel_rfl) (by kernel_rfl) own_e rowx (ones_map _) (by unfold maxLen; first | omega | (simp only [List.length_append,List.length_cons,List.length_nil,List.length_replicate,zlen]; omega)) (by first | omega | (simp only [List.length_append,List.length_cons,List.length_nil,List.length_replicate,zlen]; omega))) rfl ?_
  rintro _ h95 ⟨ad91,cap92,rfl,ownx,g93,hb94⟩
  rw [blkOf_slice] at g93 hb94
  replace e0 := e0.grew g93 (fun k hk => by have := hge_e k hk; omega)
  replace e1 := e1.grew g93 (fun k hk => by have := hge_e k hk; omega)
  replace kt := kt.grew g93 (fun e => by have := hge_e _ e.symm; omega)
  replace hm := Grew.blk g93 hm (fun e => by have := hge_e _ e.symm; omega)
  replace m3 := Grew.blk g93 m3 (fun e => by have := hge_e _ e.symm; omega)
  replace own_e : Own h95 (.slice ad91 (((((((r ++ [128] ++ List.replicate (zlen (r.length + 1)) 0) ++ [UInt8.ofNat ((8 * n) / 2 ^ 56)]) ++ [UInt8.ofNat ((8 * n) / 2 ^ 48)]) ++ [UInt8.ofNat ((8 * n) / 2 ^ 40)]) ++ [UInt8.ofNat ((8 * n) / 2 ^ 32)]) ++ [UInt8.ofNat ((8 * n) / 2 ^ 24)])).length cap92) 5 (((((((r ++ [128] ++ List.replicate (zlen (r.length + 1)) 0) ++ [UInt8.ofNat ((8 * n) / 2 ^ 56)]) ++ [UInt8.ofNat ((8 * n) / 2 ^ 48)]) ++ [UInt8.ofNat ((8 * n) / 2 ^ 40)]) ++ [UInt8.ofNat ((8 * n) / 2 ^ 32)]) ++ [UInt8.ofNat ((8 * n) / 2 ^ 24)])).length 1 (((((((r ++ [128] ++ List.replicate (zlen (r.length + 1)) 0) ++ [UInt8.ofNat ((8 * n) / 2 ^ 56)]) ++ [UInt8.ofNat ((8 * n) / 2 ^ 48)]) ++ [UInt8.ofNat ((8 * n) / 2 ^ 40)]) ++ [UInt8.ofNat ((8 * n) / 2 ^ 32)]) ++ [UInt8.ofNat ((8 * n) / 2 ^ 24)]).map bv) := Own.app ownx (by first | rfl | simp) (by first | (simp; done) | (simp; omega))
  replace hge_e := ge_next hge_e hb94 (by omega)
  clear ownx g93 hb94 hsz
  clear rowx
  refine sP 14 [.slice ad91 (((((((r ++ [128] ++ List.replicate (zlen (r.length + 1)) 0) ++ [UInt8.ofNat ((8 * n) / 2 ^ 56)]) ++ [UInt8.ofNat ((8 * n) / 2 ^ 48)]) ++ [UInt8.ofNat ((8 * n) / 2 ^ 40)]) ++ [UInt8.ofNat ((8 * n) / 2 ^ 32)]).length) + 1) cap92] ?_
  refine sD [(0,pV b),(2,pV h.size),(3,.slice ad91 (((((((r ++ [128] ++ List.replicate (zlen (r.length + 1)) 0) ++ [UInt8.ofNat ((8 * n) / 2 ^ 56)]) ++ [UInt8.ofNat ((8 * n) / 2 ^ 48)]) ++ [UInt8.ofNat ((8 * n) / 2 ^ 40)]) ++ [UInt8.ofNat ((8 * n) / 2 ^ 32)]).length) + 1) cap92),(22,.int .i64 4)] ?_
  clear hF a; intro a hF
  have hcan : (((((((r ++ [128] ++ List.replicate (zlen (r.length + 1)) 0) ++ [UInt8.ofNat ((8 * n) / 2 ^ 56)]) ++ [UInt8.ofNat ((8 * n) / 2 ^ 48)]) ++ [UInt8.ofNat ((8 * n) / 2 ^ 40)]) ++ [UInt8.ofNat ((8 * n) / 2 ^ 32)]).length) + 1 : Nat) = ((((((r ++ [128] ++ List.replicate (zlen (r.length + 1)) 0) ++ [UInt8.ofNat ((8 * n) / 2 ^ 56)]) ++ [UInt8.ofNat ((8 * n) / 2 ^ 48)]) ++ [UInt8.ofNat ((8 * n) / 2 ^ 40)]) ++ [UInt8.ofNat ((8 * n) / 2 ^ 32)]) ++ [UInt8.ofNat ((8 * n) / 2 ^ 24)]).length := by first | (simp; done) | (simp; omega)
  rw [hcan] at hF; clear hcan
  show C Tryd.prog (sub b41 [1,1,1,1,0,1,0,0,1,1,1]) _ a h95
  refine cP 9 hF ?_
  refine sP 2 [.int .i64 5,.int .i64 5] ?_
  refine sD [(0,pV b),(2,pV h.size),(3,.slice ad91 (((((((r ++ [128] ++ List.replicate (zlen (r.length + 1)) 0) ++ [UInt8.ofNat ((8 * n) / 2 ^ 56)]) ++ [UInt8.ofNat ((8 * n) / 2 ^ 48)]) ++ [UInt8.ofNat ((8 * n) / 2 ^ 40)]) ++ [UInt8.ofNat ((8 * n) / 2 ^ 32)]) ++ [UInt8.ofNat ((8 * n) / 2 ^ 24)]).length) cap92),(22,.int .i64 5)] ?_
  clear hF a; intro a hF
  show Crounds _ _ _ _ 4 a h95
  refine Cround.step ?_
  refine cS ?_
  refine cP 6 hF ?_
  refine sP 1 [.bool true] ?_
  refine sD [(0,pV b),(2,pV h.size),(3,.slice ad91 (((((((r ++ [128] ++ List.replicate (zlen (r.length + 1)) 0) ++ [UInt8.ofNat ((8 * n) / 2 ^ 56)]) ++ [UInt8.ofNat ((8 * n) / 2 ^ 48)]) ++ [UInt8.ofNat ((8 * n) / 2 ^ 40)]) ++ [UInt8.ofNat ((8 * n) / 2 ^ 32)]) ++ [UInt8.ofNat ((8 * n) / 2 ^ 24)]).length) cap92),(22,.int .i64 5),(23,.bool true)] ?_
  clear hF a; intro a hF
  refine tK ?_
  refine cS ?_
  refine cT 23 hF ?_
  refine cN ?_
  refine tK ?_
  refine cS ?_
  refine cB 3 ?_
  refine cS ?_
  refine cP 7 hF ?_
  refine sP 2 [.int .i64 5,.int .i64 5] ?_
  refine sD [(0,pV b),(2,pV h.size),(3,.slice ad91 (((((((r ++ [128] ++ List.replicate (zlen (r.length + 1)) 0) ++ [UInt8.ofNat ((8 * n) / 2 ^ 56)]) ++ [UInt8.ofNat ((8 * n) / 2 ^ 48)]) ++ [UInt8.ofNat ((8 * n) / 2 ^ 40)]) ++ [UInt8.ofNat ((8 * n) / 2 ^ 32)]) ++ [UInt8.ofNat ((8 * n) / 2 ^ 24)]).length) cap92),(4,.int .i64 5),(22,.int .i64 5)] ?_
  clear hF a; intro a hF
  refine tK ?_
  refine cP 8 hF ?_
  refine sP 4 [.slice ad91 (((((((r ++ [128] ++ List.replicate (zlen (r.length + 1)) 0) ++ [UInt8.ofNat ((8 * n) / 2 ^ 56)]) ++ [UInt8.ofNat ((8 * n) / 2 ^ 48)]) ++ [UInt8.ofNat ((8 * n) / 2 ^ 40)]) ++ [UInt8.ofNat ((8 * n) / 2 ^ 32)]) ++ [UInt8.ofNat ((8 * n) / 2 ^ 24)]).length) cap92,pV b,pV b,.pointer (some ⟨b,9,none⟩)] ?_
  refine sC 5 (.int .u64 ((n : Nat) : Int)) (Calm.load (T := 60) (p := ⟨b,9,none⟩) (by kernel_rfl) (Loads.one (k := 1) (by kernel_rfl) ((hcell_blk hm).trans rfl))) ?_
  refine s1 6 (.int .u64 ((8 * n : Nat) : Int)) (.int .u64 (IntKind.u64.wrap (8 * ((n : Nat) : Int)))) (congrArg (Value.int .u64) (u64e (by omega) (by omega))) ?_
  refine sP 9 [.int .i64 5,.int .i64 40,.int .i64 16] ?_
  refine s1 10 (.int .u64 (((8 * n) / 2 ^ 16 : Nat) : Int)) (.int .u64 (Int.fdiv ((8 * n : Nat) : Int) (2 ^ 16))) (congrArg (Value.int .u64) (fdivN (8 * n) 16)) ?_
  refine s1 11 (bv (UInt8.ofNat ((8 * n) / 2 ^ 16))) (.int .u8 (IntKind.u8.wrap (((8 * n) / 2 ^ 16 : Nat) : Int))) (conv64 _) ?_
  refine SeqK.eff (k' := 12) (Does.new (v := .slice (some ⟨h95.size,0,none⟩) 1 1) (o := .cells #[bv (UInt8.ofNat ((8 * n) / 2 ^ 16))] 5) (by kernel_rfl)) rfl ?_
  rintro _ h96 ⟨rfl,hh⟩
  have g97 : Ext h95 h96 := push_ext hh
  have m98 : h96[h95.size]? = some (.cells #[bv (UInt8.ofNat ((8 * n) / 2 ^ 16))] 5) := push_at hh
  clear hh
  have lt99 := blk_lt m98
  have zs100 := e0.size
  have zs101 := e1.size
  replace e0 := e0.ext g97
  replace e1 := e1.ext g97
  replace kt := kt.ext g97
  replace own_e := own_e.ext g97
  replace hm := Ext.blk g97 hm
  replace m3 := Ext.blk g97 m3
  have rowx := Row.blk (n := 1) (sz := 1) (l := [bv (UInt8.ofNat ((8 * n) / 2 ^ 16))]) m98 rfl
  clear m98 lt99 zs100 zs101
  have hsz := e1.size
  refine SeqK.eff (k' := 13) (Does.append2 (t := 22) (E := 5) (sz := 1) (by_ := 1) (n := ((((((r ++ [128] ++ List.replicate (zlen (r.length + 1)) 0) ++ [UInt8.ofNat ((8 * n) / 2 ^ 56)]) ++ [UInt8.ofNat ((8 * n) / 2 ^ 48)]) ++ [UInt8.ofNat ((8 * n) / 2 ^ 40)]) ++ [UInt8.ofNat ((8 * n) / 2 ^ 32)]) ++ [UInt8.ofNat ((8 * n) / 2 ^ 24)]).length) (m := 1) (v := .slice ad91 (((((((r ++ [128] ++ List.replicate (zlen (r.length + 1)) 0) ++ [UInt8.ofNat ((8 * n) / 2 ^ 56)]) ++ [UInt8.ofNat ((8 * n) / 2 ^ 48)]) ++ [UInt8.ofNat ((8 * n) / 2 ^ 40)]) ++ [UInt8.ofNat ((8 * n) / 2 ^ 32)]) ++ [UInt8.ofNat ((8 * n) / 2 ^ 24)]).length) cap92) (x := .slice (some ⟨h95.size,0,none⟩) 1 1) (xs := ((((((r ++ [128] ++ List.replicate (zlen (r.length + 1)) 0) ++ [UInt8.ofNat ((8 * n) / 2 ^ 56)]) ++ [UInt8.ofNat ((8 * n) / 2 ^ 48)]) ++ [UInt8.ofNat ((8 * n) / 2 ^ 40)]) ++ [UInt8.ofNat ((8 * n) / 2 ^ 32)]) ++ [UInt8.ofNat ((8 * n) / 2 ^ 24)]).map bv) (ys := ([UInt8.ofNat ((8 * n) / 2 ^ 16)]).map bv) (by kernel_rfl) (by kernel_rfl) own_e rowx (ones_map _) (by unfold maxLen; first | omega | (simp only [List.length_append,List.length_cons,List.length_nil,List.length_replicate,zlen]; omega)) (by first | omega | (simp only [List.length_append,List.length_cons,List.length_nil,List.length_replicate,zlen]; omega))) rfl ?_
  rintro _ h106 ⟨ad102,cap103,rfl,ownx,g104,hb105⟩
  rw [blkOf_slice] at g104 hb105
  replace e0 := e0.grew g104 (fun k hk => by have := hge_e k hk; omega)
  replace e1 := e1.grew g104 (fun k hk => by have := hge_e k hk; omega)
  replace kt := kt.grew g104 (fun e => by have := hge_e _ e.symm; omega)
  replace hm := Grew.blk g104 hm (fun e => by have := hge_e _ e.symm; omega)
  replace m3 := Grew.blk g104 m3 (fun e => by have := hge_e _ e.symm; omega)
  replace own_e : Own h106 (.slice ad102 ((((((((r ++ [128] ++ List.replicate (zlen (r.length + 1)) 0) ++ [UInt8.ofNat ((8 * n) / 2 ^ 56)]) ++ [UInt8.ofNat ((8 * n) / 2 ^ 48)]) ++ [UInt8.ofNat ((8 * n) / 2 ^ 40)]) ++ [UInt8.ofNat ((8 * n) / 2 ^ 32)]) ++ [UInt8.ofNat ((8 * n) / 2 ^ 24)]) ++ [UInt8.ofNat ((8 * n) / 2 ^ 16)])).length cap103) 5 ((((((((r ++ [128] ++ List.replicate (zlen (r.length + 1)) 0) ++ [UInt8.ofNat ((8 * n) / 2 ^ 56)]) ++ [UInt8.ofNat ((8 * n) / 2 ^ 48)]) ++ [UInt8.ofNat ((8 * n) / 2 ^ 40)]) ++ [UInt8.ofNat ((8 * n) / 2 ^ 32)]) ++ [UInt8.ofNat ((8 * n) / 2 ^ 24)]) ++ [UInt8.ofNat ((8 * n) / 2 ^ 16)])).length 1 ((((((((r ++ [128] ++ List.replicate (zlen (r.length + 1)) 0) ++ [UInt8.ofNat ((8 * n) / 2 ^ 56)]) ++ [UInt8.ofNat ((8 * n) / 2 ^ 48)]) ++ [UInt8.ofNat ((8 * n) / 2 ^ 40)]) ++ [UInt8.ofNat ((8 * n) / 2 ^ 32)]) ++ [UInt8.ofNat ((8 * n) / 2 ^ 24)]) ++ [UInt8.ofNat ((8 * n) / 2 ^ 16)]).map bv) := Own.app ownx (by first | rfl | simp) (by first | (simp; done) | (simp; omega))
  replace hge_e := ge_next hge_e hb105 (by omega)
  clear ownx g104 hb105 hsz
  clear rowx
  refine sP 14 [.slice ad102 ((((((((r ++ [128] ++ List.replicate (zlen (r.length + 1)) 0) ++ [UInt8.ofNat ((8 * n) / 2 ^ 56)]) ++ [UInt8.ofNat ((8 * n) / 2 ^ 48)]) ++ [UInt8.ofNat ((8 * n) / 2 ^ 40)]) ++ [UInt8.ofNat ((8 * n) / 2 ^ 32)]) ++ [UInt8.ofNat ((8 * n) / 2 ^ 24)]).length) + 1) cap103] ?_
  refine sD [(0,pV b),(2,pV h.size),(3,.slice ad102 ((((((((r ++ [128] ++ List.replicate (zlen (r.length + 1)) 0) ++ [UInt8.ofNat ((8 * n) / 2 ^ 56)]) ++ [UInt8.ofNat ((8 * n) / 2 ^ 48)]) ++ [UInt8.ofNat ((8 * n) / 2 ^ 40)]) ++ [UInt8.ofNat ((8 * n) / 2 ^ 32)]) ++ [UInt8.ofNat ((8 * n) / 2 ^ 24)]).length) + 1) cap103),(22,.int .i64 5)] ?_
  clear hF a; intro a hF
  have hcan : ((((((((r ++ [128] ++ List.replicate (zlen (r.length + 1)) 0) ++ [UInt8.ofNat ((8 * n) / 2 ^ 56)]) ++ [UInt8.ofNat ((8 * n) / 2 ^ 48)]) ++ [UInt8.ofNat ((8 * n) / 2 ^ 40)]) ++ [UInt8.ofNat ((8 * n) / 2 ^ 32)]) ++ [UInt8.ofNat ((8 * n) / 2 ^ 24)]).length) + 1 : Nat) = (((((((r ++ [128] ++ List.replicate (zlen (r.length + 1)) 0) ++ [UInt8.ofNat ((8 * n) / 2 ^ 56)]) ++ [UInt8.ofNat ((8 * n) / 2 ^ 48)]) ++ [UInt8.ofNat ((8 * n) / 2 ^ 40)]) ++ [UInt8.ofNat ((8 * n) / 2 ^ 32)]) ++ [UInt8.ofNat ((8 * n) / 2 ^ 24)]) ++ [UInt8.ofNat ((8 * n) / 2 ^ 16)]).length := by first | (simp; done) | (simp; omega)
  rw [hcan] at hF; clear hcan
  show C Tryd.prog (sub b41 [1,1,1,1,0,1,0,0,1,1,1]) _ a h106
  refine cP 9 hF ?_
  refine sP 2 [.int .i64 6,.int .i64 6] ?_
  refine sD [(0,pV b),(2,pV h.size),(3,.slice ad102 ((((((((r ++ [128] ++ List.replicate (zlen (r.length + 1)) 0) ++ [UInt8.ofNat ((8 * n) / 2 ^ 56)]) ++ [UInt8.ofNat ((8 * n) / 2 ^ 48)]) ++ [UInt8.ofNat ((8 * n) / 2 ^ 40)]) ++ [UInt8.ofNat ((8 * n) / 2 ^ 32)]) ++ [UInt8.ofNat ((8 * n) / 2 ^ 24)]) ++ [UInt8.ofNat ((8 * n) / 2 ^ 16)]).length) cap103),(22,.int .i64 6)] ?_
  clear hF a; intro a hF
  show Crounds _ _ _ _ 3 a h106
  refine Cround.step ?_
  refine cS ?_
  refine cP 6 hF ?_
  refine sP 1 [.bool true] ?_
  refine sD [(0,pV b),(2,pV h.size),(3,.slice ad102 ((((((((r ++ [128] ++ List.replicate (zlen (r.length + 1)) 0) ++ [UInt8.ofNat ((8 * n) / 2 ^ 56)]) ++ [UInt8.ofNat ((8 * n) / 2 ^ 48)]) ++ [UInt8.ofNat ((8 * n) / 2 ^ 40)]) ++ [UInt8.ofNat ((8 * n) / 2 ^ 32)]) ++ [UInt8.ofNat ((8 * n) / 2 ^ 24)]) ++ [UInt8.ofNat ((8 * n) / 2 ^ 16)]).length) cap103),(22,.int .i64 6),(23,.bool true)] ?_
  clear hF a; intro a hF
  refine tK ?_
  refine cS ?_
  refine cT 23 hF ?_
  refine cN ?_
  refine tK ?_
  refine cS ?_
  refine cB 3 ?_
  refine cS ?_
  refine cP 7 hF ?_
  refine sP 2 [.int .i64 6,.int .i64 6] ?_
  refine sD [(0,pV b),(2,pV h.size),(3,.slice ad102 ((((((((r ++ [128] ++ List.replicate (zlen (r.length + 1)) 0) ++ [UInt8.ofNat ((8 * n) / 2 ^ 56)]) ++ [UInt8.ofNat ((8 * n) / 2 ^ 48)]) ++ [UInt8.ofNat ((8 * n) / 2 ^ 40)]) ++ [UInt8.ofNat ((8 * n) / 2 ^ 32)]) ++ [UInt8.ofNat ((8 * n) / 2 ^ 24)]) ++ [UInt8.ofNat ((8 * n) / 2 ^ 16)]).length) cap103),(4,.int .i64 6),(22,.int .i64 6)] ?_
  clear hF a; intro a hF
  refine tK ?_
  refine cP 8 hF ?_
  refine sP 4 [.slice ad102 ((((((((r ++ [128] ++ List.replicate (zlen (r.length + 1)) 0) ++ [UInt8.ofNat ((8 * n) / 2 ^ 56)]) ++ [UInt8.ofNat ((8 * n) / 2 ^ 48)]) ++ [UInt8.ofNat ((8 * n) / 2 ^ 40)]) ++ [UInt8.ofNat ((8 * n) / 2 ^ 32)]) ++ [UInt8.ofNat ((8 * n) / 2 ^ 24)]) ++ [UInt8.ofNat ((8 * n) / 2 ^ 16)]).length) cap103,pV b,pV b,.pointer (some ⟨b,9,none⟩)] ?_
  refine sC 5 (.int .u64 ((n : Nat) : Int)) (Calm.load (T := 60) (p := ⟨b,9,none⟩) (by kernel_rfl) (Loads.one (k := 1) (by kernel_rfl) ((hcell_blk hm).trans rfl))) ?_
  refine s1 6 (.int .u64 ((8 * n : Nat) : Int)) (.int .u64 (IntKind.u64.wrap (8 * ((n : Nat) : Int)))) (congrArg (Value.int .u64) (u64e (by omega) (by omega))) ?_
  refine sP 9 [.int .i64 6,.int .i64 48,.int .i64 8] ?_
  refine s1 10 (.int .u64 (((8 * n) / 2 ^ 8 : Nat) : Int)) (.int .u64 (Int.fdiv ((8 * n : Nat) : Int) (2 ^ 8))) (congrArg (Value.int .u64) (fdivN (8 * n) 8)) ?_
  refine s1 11 (bv (UInt8.ofNat ((8 * n) / 2 ^ 8))) (.int .u8 (IntKind.u8.wrap (((8 * n) / 2 ^ 8 : Nat) : Int))) (conv64 _) ?_
  refine SeqK.eff (k' := 12) (Does.new (v := .slice (some ⟨h106.size,0,none⟩) 1 1) (o := .cells #[bv (UInt8.ofNat ((8 * n) / 2 ^ 8))] 5) (by kernel_rfl)) rfl ?_
  rintro _ h107 ⟨rfl,hh⟩
  have g108 : Ext h106 h107 := push_ext hh
  have m109 : h107[h106.size]? = some (.cells #[bv (UInt8.ofNat ((8 * n) / 2 ^ 8))] 5) := push_at hh
  clear hh
  have lt110 := blk_lt m109
  have zs111 := e0.size
  have zs112 := e1.size
  replace e0 := e0.ext g108
  replace e1 := e1.ext g108
  replace kt := kt.ext g108
  replace own_e := own_e.ext g108
  replace hm := Ext.blk g108 hm
  replace m3 := Ext.blk g108 m3
  have rowx := Row.blk (n := 1) (sz := 1) (l := [bv (UInt8.ofNat ((8 * n) / 2 ^ 8))]) m109 rfl
  clear m109 lt110 zs111 zs112
  have hsz := e1.size
  refine SeqK.eff (k' := 13) (Does.append2 (t := 22) (E := 5) (sz := 1) (by_ := 1) (n := (((((((r ++ [128] ++ List.replicate (zlen (r.length + 1)) 0) ++ [UInt8.ofNat ((8 * n) / 2 ^ 56)]) ++ [UInt8.ofNat ((8 * n) / 2 ^ 48)]) ++ [UInt8.ofNat ((8 * n) / 2 ^ 40)]) ++ [UInt8.ofNat ((8 * n) / 2 ^ 32)]) ++ [UInt8.ofNat ((8 * n) / 2 ^ 24)]) ++ [UInt8.ofNat ((8 * n) / 2 ^ 16)]).length) (m := 1) (v := .slice ad102 ((((((((r ++ [128] ++ List.replicate (zlen (r.length + 1)) 0) ++ [UInt8.ofNat ((8 * n) / 2 ^ 56)]) ++ [UInt8.ofNat ((8 * n) / 2 ^ 48)]) ++ [UInt8.ofNat ((8 * n) / 2 ^ 40)]) ++ [UInt8.ofNat ((8 * n) / 2 ^ 32)]) ++ [UInt8.ofNat ((8 * n) / 2 ^ 24)]) ++ [UInt8.ofNat ((8 * n) / 2 ^ 16)]).length) cap103) (x := .slice (some ⟨h106.size,0,none⟩) 1 1) (xs := (((((((r ++ [128] ++ List.replicate (zlen (r.length + 1)) 0) ++ [UInt8.ofNat ((8 * n) / 2 ^ 56)]) ++ [UInt8.ofNat ((8 * n) / 2 ^ 48)]) ++ [UInt8.ofNat ((8 * n) / 2 ^ 40)]) ++ [UInt8.ofNat ((8 * n) / 2 ^ 32)]) ++ [UInt8.ofNat ((8 * n) / 2 ^ 24)]) ++ [UInt8.ofNat ((8 * n) / 2 ^ 16)]).map bv) (ys := ([UInt8.ofNat ((8 * n) / 2 ^ 8)]).map bv) (by kernel_rfl) (by kernel_rfl) own_e rowx (ones_map _) (by unfold maxLen; first | omega | (simp only [List.length_append,List.length_cons,List.length_nil,List.length_replicate,zlen]; omega)) (by first | omega | (simp only [List.length_append,List.length_cons,List.length_nil,List.length_replicate,zlen]; omega))) rfl ?_
  rintro _ h117 ⟨ad113,cap114,rfl,ownx,g115,hb116⟩
  rw [blkOf_slice] at g115 hb116
  replace e0 := e0.grew g115 (fun k hk => by have := hge_e k hk; omega)
  replace e1 := e1.grew g115 (fun k hk => by have := hge_e k hk; omega)
  replace kt := kt.grew g115 (fun e => by have := hge_e _ e.symm; omega)
  replace hm := Grew.blk g115 hm (fun e => by have := hge_e _ e.symm; omega)
  replace m3 := Grew.blk g115 m3 (fun e => by have := hge_e _ e.symm; omega)
  replace own_e : Own h117 (.slice ad113 (((((((((r ++ [128] ++ List.replicate (zlen (r.length + 1)) 0) ++ [UInt8.ofNat ((8 * n) / 2 ^ 56)]) ++ [UInt8.ofNat ((8 * n) / 2 ^ 48)]) ++ [UInt8.ofNat ((8 * n) / 2 ^ 40)]) ++ [UInt8.ofNat ((8 * n) / 2 ^ 32)]) ++ [UInt8.ofNat ((8 * n) / 2 ^ 24)]) ++ [UInt8.ofNat ((8 * n) / 2 ^ 16)]) ++ [UInt8.ofNat ((8 * n) / 2 ^ 8)])).length cap114) 5 (((((((((r ++ [128] ++ List.replicate (zlen (r.length + 1)) 0) ++ [UInt8.ofNat ((8 * n) / 2 ^ 56)]) ++ [UInt8.ofNat ((8 * n) / 2 ^ 48)]) ++ [UInt8.ofNat ((8 * n) / 2 ^ 40)]) ++ [UInt8.ofNat ((8 * n) / 2 ^ 32)]) ++ [UInt8.ofNat ((8 * n) / 2 ^ 24)]) ++ [UInt8.ofNat ((8 * n) / 2 ^ 16)]) ++ [UInt8.ofNat ((8 * n) / 2 ^ 8)])).length 1 (((((((((r ++ [128] ++ List.replicate (zlen (r.length + 1)) 0) ++ [UInt8.ofNat ((8 * n) / 2 ^ 56)]) ++ [UInt8.ofNat ((8 * n) / 2 ^ 48)]) ++ [UInt8.ofNat ((8 * n) / 2 ^ 40)]) ++ [UInt8.ofNat ((8 * n) / 2 ^ 32)]) ++ [UInt8.ofNat ((8 * n) / 2 ^ 24)]) ++ [UInt8.ofNat ((8 * n) / 2 ^ 16)]) ++ [UInt8.ofNat ((8 * n) / 2 ^ 8)]).map bv) := Own.app ownx (by first | rfl | simp) (by first | (simp; done) | (simp; omega))
  replace hge_e := ge_next hge_e hb116 (by omega)
  clear ownx g115 hb116 hsz
  clear rowx
  refine sP 14 [.slice ad113 (((((((((r ++ [128] ++ List.replicate (zlen (r.length + 1)) 0) ++ [UInt8.ofNat ((8 * n) / 2 ^ 56)]) ++ [UInt8.ofNat ((8 * n) / 2 ^ 48)]) ++ [UInt8.ofNat ((8 * n) / 2 ^ 40)]) ++ [UInt8.ofNat ((8 * n) / 2 ^ 32)]) ++ [UInt8.ofNat ((8 * n) / 2 ^ 24)]) ++ [UInt8.ofNat ((8 * n) / 2 ^ 16)]).length) + 1) cap114] ?_
  refine sD [(0,pV b),(2,pV h.size),(3,.slice ad113 (((((((((r ++ [128] ++ List.replicate (zlen (r.length + 1)) 0) ++ [UInt8.ofNat ((8 * n) / 2 ^ 56)]) ++ [UInt8.ofNat ((8 * n) / 2 ^ 48)]) ++ [UInt8.ofNat ((8 * n) / 2 ^ 40)]) ++ [UInt8.ofNat ((8 * n) / 2 ^ 32)]) ++ [UInt8.ofNat ((8 * n) / 2 ^ 24)]) ++ [UInt8.ofNat ((8 * n) / 2 ^ 16)]).length) + 1) cap114),(22,.int .i64 6)] ?_
  clear hF a; intro a hF
  have hcan : (((((((((r ++ [128] ++ List.replicate (zlen (r.length + 1)) 0) ++ [UInt8.ofNat ((8 * n) / 2 ^ 56)]) ++ [UInt8.ofNat ((8 * n) / 2 ^ 48)]) ++ [UInt8.ofNat ((8 * n) / 2 ^ 40)]) ++ [UInt8.ofNat ((8 * n) / 2 ^ 32)]) ++ [UInt8.ofNat ((8 * n) / 2 ^ 24)]) ++ [UInt8.ofNat ((8 * n) / 2 ^ 16)]).length) + 1 : Nat) = ((((((((r ++ [128] ++ List.replicate (zlen (r.length + 1)) 0) ++ [UInt8.ofNat ((8 * n) / 2 ^ 56)]) ++ [UInt8.ofNat ((8 * n) / 2 ^ 48)]) ++ [UInt8.ofNat ((8 * n) / 2 ^ 40)]) ++ [UInt8.ofNat ((8 * n) / 2 ^ 32)]) ++ [UInt8.ofNat ((8 * n) / 2 ^ 24)]) ++ [UInt8.ofNat ((8 * n) / 2 ^ 16)]) ++ [UInt8.ofNat ((8 * n) / 2 ^ 8)]).length := by first | (simp; done) | (simp; omega)
  rw [hcan] at hF; clear hcan
  show C Tryd.prog (sub b41 [1,1,1,1,0,1,0,0,1,1,1]) _ a h117
  refine cP 9 hF ?_
  refine sP 2 [.int .i64 7,.int .i64 7] ?_
  refine sD [(0,pV b),(2,pV h.size),(3,.slice ad113 (((((((((r ++ [128] ++ List.replicate (zlen (r.length + 1)) 0) ++ [UInt8.ofNat ((8 * n) / 2 ^ 56)]) ++ [UInt8.ofNat ((8 * n) / 2 ^ 48)]) ++ [UInt8.ofNat ((8 * n) / 2 ^ 40)]) ++ [UInt8.ofNat ((8 * n) / 2 ^ 32)]) ++ [UInt8.ofNat ((8 * n) / 2 ^ 24)]) ++ [UInt8.ofNat ((8 * n) / 2 ^ 16)]) ++ [UInt8.ofNat ((8 * n) / 2 ^ 8)]).length) cap114),(22,.int .i64 7)] ?_
  clear hF a; intro a hF
  show Crounds _ _ _ _ 2 a h117
  refine Cround.step ?_
  refine cS ?_
  refine cP 6 hF ?_
  refine sP 1 [.bool true] ?_
  refine sD [(0,pV b),(2,pV h.size),(3,.slice ad113 (((((((((r ++ [128] ++ List.replicate (zlen (r.length + 1)) 0) ++ [UInt8.ofNat ((8 * n) / 2 ^ 56)]) ++ [UInt8.ofNat ((8 * n) / 2 ^ 48)]) ++ [UInt8.ofNat ((8 * n) / 2 ^ 40)]) ++ [UInt8.ofNat ((8 * n) / 2 ^ 32)]) ++ [UInt8.ofNat ((8 * n) / 2 ^ 24)]) ++ [UInt8.ofNat ((8 * n) / 2 ^ 16)]) ++ [UInt8.ofNat ((8 * n) / 2 ^ 8)]).length) cap114),(22,.int .i64 7),(23,.bool true)] ?_
  clear hF a; intro a hF
  refine tK ?_
  refine cS ?_
  refine cT 23 hF ?_
  refine cN ?_
  refine tK ?_
  refine cS ?_
  refine cB 3 ?_
  refine cS ?_
  refine cP 7 hF ?_
  refine sP 2 [.int .i64 7,.int .i64 7] ?_
  refine sD [(0,pV b),(2,pV h.size),(3,.slice ad113 (((((((((r ++ [128] ++ List.replicate (zlen (r.length + 1)) 0) ++ [UInt8.ofNat ((8 * n) / 2 ^ 56)]) ++ [UInt8.ofNat ((8 * n) / 2 ^ 48)]) ++ [UInt8.ofNat ((8 * n) / 2 ^ 40)]) ++ [UInt8.ofNat ((8 * n) / 2 ^ 32)]) ++ [UInt8.ofNat ((8 * n) / 2 ^ 24)]) ++ [UInt8.ofNat ((8 * n) / 2 ^ 16)]) ++ [UInt8.ofNat ((8 * n) / 2 ^ 8)]).length) cap114),(4,.int .i64 7),(22,.int .i64 7)] ?_
  clear hF a; intro a hF
  refine tK ?_
  refine cP 8 hF ?_
  refine sP 4 [.slice ad113 (((((((((r ++ [128] ++ List.replicate (zlen (r.length + 1)) 0) ++ [UInt8.ofNat ((8 * n) / 2 ^ 56)]) ++ [UInt8.ofNat ((8 * n) / 2 ^ 48)]) ++ [UInt8.ofNat ((8 * n) / 2 ^ 40)]) ++ [UInt8.ofNat ((8 * n) / 2 ^ 32)]) ++ [UInt8.ofNat ((8 * n) / 2 ^ 24)]) ++ [UInt8.ofNat ((8 * n) / 2 ^ 16)]) ++ [UInt8.ofNat ((8 * n) / 2 ^ 8)]).length) cap114,pV b,pV b,.pointer (some ⟨b,9,none⟩)] ?_
  refine sC 5 (.int .u64 ((n : Nat) : Int)) (Calm.load (T := 60) (p := ⟨b,9,none⟩) (by kernel_rfl) (Loads.one (k := 1) (by kernel_rfl) ((hcell_blk hm).trans rfl))) ?_
  refine s1 6 (.int .u64 ((8 * n : Nat) : Int)) (.int .u64 (IntKind.u64.wrap (8 * ((n : Nat) : Int)))) (congrArg (Value.int .u64) (u64e (by omega) (by omega))) ?_
  refine sP 9 [.int .i64 7,.int .i64 56,.int .i64 0] ?_
  refine s1 10 (.int .u64 (((8 * n) / 2 ^ 0 : Nat) : Int)) (.int .u64 (Int.fdiv ((8 * n : Nat) : Int) (2 ^ 0))) (congrArg (Value.int .u64) (fdivN (8 * n) 0)) ?_
  refine s1 11 (bv (UInt8.ofNat ((8 * n) / 2 ^ 0))) (.int .u8 (IntKind.u8.wrap (((8 * n) / 2 ^ 0 : Nat) : Int))) (conv64 _) ?_
  refine SeqK.eff (k' := 12) (Does.new (v := .slice (some ⟨h117.size,0,none⟩) 1 1) (o := .cells #[bv (UInt8.ofNat ((8 * n) / 2 ^ 0))] 5) (by kernel_rfl)) rfl ?_
  rintro _ h118 ⟨rfl,hh⟩
  have g119 : Ext h117 h118 := push_ext hh
  have m120 : h118[h117.size]? = some (.cells #[bv (UInt8.ofNat ((8 * n) / 2 ^ 0))] 5) := push_at hh
  clear hh
  have lt121 := blk_lt m120
  have zs122 := e0.size
  have zs123 := e1.size
  replace e0 := e0.ext g119
  replace e1 := e1.ext g119
  replace kt := kt.ext g119
  replace own_e := own_e.ext g119
  replace hm := Ext.blk g119 hm
  replace m3 := Ext.blk g119 m3
  have rowx := Row.blk (n := 1) (sz := 1) (l := [bv (UInt8.ofNat ((8 * n) / 2 ^ 0))]) m120 rfl
  clear m120 lt121 zs122 zs123
  have hsz := e1.size
  refine SeqK.eff (k' := 13) (Does.append2 (t := 22) (E := 5) (sz := 1) (by_ := 1) (n := ((((((((r ++ [128] ++ List.replicate (zlen (r.length + 1)) 0) ++ [UInt8.ofNat ((8 * n) / 2 ^ 56)]) ++ [UInt8.ofNat ((8 * n) / 2 ^ 48)]) ++ [UInt8.ofNat ((8 * n) / 2 ^ 40)]) ++ [UInt8.ofNat ((8 * n) / 2 ^ 32)]) ++ [UInt8.ofNat ((8 * n) / 2 ^ 24)]) ++ [UInt8.ofNat ((8 * n) / 2 ^ 16)]) ++ [UInt8.ofNat ((8 * n) / 2 ^ 8)]).length) (m := 1) (v := .slice ad113 (((((((((r ++ [128] ++ List.replicate (zlen (r.length + 1)) 0) ++ [UInt8.ofNat ((8 * n) / 2 ^ 56)]) ++ [UInt8.ofNat ((8 * n) / 2 ^ 48)]) ++ [UInt8.ofNat ((8 * n) / 2 ^ 40)]) ++ [UInt8.ofNat ((8 * n) / 2 ^ 32)]) ++ [UInt8.ofNat ((8 * n) / 2 ^ 24)]) ++ [UInt8.ofNat ((8 * n) / 2 ^ 16)]) ++ [UInt8.ofNat ((8 * n) / 2 ^ 8)]).length) cap114) (x := .slice (some ⟨h117.size,0,none⟩) 1 1) (xs := ((((((((r ++ [128] ++ List.replicate (zlen (r.length + 1)) 0) ++ [UInt8.ofNat ((8 * n) / 2 ^ 56)]) ++ [UInt8.ofNat ((8 * n) / 2 ^ 48)]) ++ [UInt8.ofNat ((8 * n) / 2 ^ 40)]) ++ [UInt8.ofNat ((8 * n) / 2 ^ 32)]) ++ [UInt8.ofNat ((8 * n) / 2 ^ 24)]) ++ [UInt8.ofNat ((8 * n) / 2 ^ 16)]) ++ [UInt8.ofNat ((8 * n) / 2 ^ 8)]).map bv) (ys := ([UInt8.ofNat ((8 * n) / 2 ^ 0)]).map bv) (by kernel_rfl) (by kernel_rfl) own_e rowx (ones_map _) (by unfold maxLen; first | omega | (simp only [List.length_append,List.length_cons,List.length_nil,List.length_replicate,zlen]; omega)) (by first | omega | (simp only [List.length_append,List.length_cons,List.length_nil,List.length_replicate,zlen]; omega))) rfl ?_
  rintro _ h128 ⟨ad124,cap125,rfl,ownx,g126,hb127⟩
  rw [blkOf_slice] at g126 hb127
  replace e0 := e0.grew g126 (fun k hk => by have := hge_e k hk; omega)
  replace e1 := e1.grew g126 (fun k hk => by have := hge_e k hk; omega)
  replace kt := kt.grew g126 (fun e => by have := hge_e _ e.symm; omega)
  replace hm := Grew.blk g126 hm (fun e => by have := hge_e _ e.symm; omega)
  replace m3 := Grew.blk g126 m3 (fun e => by have := hge_e _ e.symm; omega)
  replace own_e : Own h128 (.slice ad124 ((((((((((r ++ [128] ++ List.replicate (zlen (r.length + 1)) 0) ++ [UInt8.ofNat ((8 * n) / 2 ^ 56)]) ++ [UInt8.ofNat ((8 * n) / 2 ^ 48)]) ++ [UInt8.ofNat ((8 * n) / 2 ^ 40)]) ++ [UInt8.ofNat ((8 * n) / 2 ^ 32)]) ++ [UInt8.ofNat ((8 * n) / 2 ^ 24)]) ++ [UInt8.ofNat ((8 * n) / 2 ^ 16)]) ++ [UInt8.ofNat ((8 * n) / 2 ^ 8)]) ++ [UInt8.ofNat ((8 * n) / 2 ^ 0)])).length cap125) 5 ((((((((((r ++ [128] ++ List.replicate (zlen (r.length + 1)) 0) ++ [UInt8.ofNat ((8 * n) / 2 ^ 56)]) ++ [UInt8.ofNat ((8 * n) / 2 ^ 48)]) ++ [UInt8.ofNat ((8 * n) / 2 ^ 40)]) ++ [UInt8.ofNat ((8 * n) / 2 ^ 32)]) ++ [UInt8.ofNat ((8 * n) / 2 ^ 24)]) ++ [UInt8.ofNat ((8 * n) / 2 ^ 16)]) ++ [UInt8.ofNat ((8 * n) / 2 ^ 8)]) ++ [UInt8.ofNat ((8 * n) / 2 ^ 0)])).length 1 ((((((((((r ++ [128] ++ List.replicate (zlen (r.length + 1)) 0) ++ [UInt8.ofNat ((8 * n) / 2 ^ 56)]) ++ [UInt8.ofNat ((8 * n) / 2 ^ 48)]) ++ [UInt8.ofNat ((8 * n) / 2 ^ 40)]) ++ [UInt8.ofNat ((8 * n) / 2 ^ 32)]) ++ [UInt8.ofNat ((8 * n) / 2 ^ 24)]) ++ [UInt8.ofNat ((8 * n) / 2 ^ 16)]) ++ [UInt8.ofNat ((8 * n) / 2 ^ 8)]) ++ [UInt8.ofNat ((8 * n) / 2 ^ 0)]).map bv) := Own.app ownx (by first | rfl | simp) (by first | (simp; done) | (simp; omega))
  replace hge_e := ge_next hge_e hb127 (by omega)
  clear ownx g126 hb127 hsz
  clear rowx
  refine sP 14 [.slice ad124 ((((((((((r ++ [128] ++ List.replicate (zlen (r.length + 1)) 0) ++ [UInt8.ofNat ((8 * n) / 2 ^ 56)]) ++ [UInt8.ofNat ((8 * n) / 2 ^ 48)]) ++ [UInt8.ofNat ((8 * n) / 2 ^ 40)]) ++ [UInt8.ofNat ((8 * n) / 2 ^ 32)]) ++ [UInt8.ofNat ((8 * n) / 2 ^ 24)]) ++ [UInt8.ofNat ((8 * n) / 2 ^ 16)]) ++ [UInt8.ofNat ((8 * n) / 2 ^ 8)]).length) + 1) cap125] ?_
  refine sD [(0,pV b),(2,pV h.size),(3,.slice ad124 ((((((((((r ++ [128] ++ List.replicate (zlen (r.length + 1)) 0) ++ [UInt8.ofNat ((8 * n) / 2 ^ 56)]) ++ [UInt8.ofNat ((8 * n) / 2 ^ 48)]) ++ [UInt8.ofNat ((8 * n) / 2 ^ 40)]) ++ [UInt8.ofNat ((8 * n) / 2 ^ 32)]) ++ [UInt8.ofNat ((8 * n) / 2 ^ 24)]) ++ [UInt8.ofNat ((8 * n) / 2 ^ 16)]) ++ [UInt8.ofNat ((8 * n) / 2 ^ 8)]).length) + 1) cap125),(22,.int .i64 7)] ?_
  clear hF a; intro a hF
  have hcan : ((((((((((r ++ [128] ++ List.replicate (zlen (r.length + 1)) 0) ++ [UInt8.ofNat ((8 * n) / 2 ^ 56)]) ++ [UInt8.ofNat ((8 * n) / 2 ^ 48)]) ++ [UInt8.ofNat ((8 * n) / 2 ^ 40)]) ++ [UInt8.ofNat ((8 * n) / 2 ^ 32)]) ++ [UInt8.ofNat ((8 * n) / 2 ^ 24)]) ++ [UInt8.ofNat ((8 * n) / 2 ^ 16)]) ++ [UInt8.ofNat ((8 * n) / 2 ^ 8)]).length) + 1 : Nat) = (((((((((r ++ [128] ++ List.replicate (zlen (r.length + 1)) 0) ++ [UInt8.ofNat ((8 * n) / 2 ^ 56)]) ++ [UInt8.ofNat ((8 * n) / 2 ^ 48)]) ++ [UInt8.ofNat ((8 * n) / 2 ^ 40)]) ++ [UInt8.ofNat ((8 * n) / 2 ^ 32)]) ++ [UInt8.ofNat ((8 * n) / 2 ^ 24)]) ++ [UInt8.ofNat ((8 * n) / 2 ^ 16)]) ++ [UInt8.ofNat ((8 * n) / 2 ^ 8)]) ++ [UInt8.ofNat ((8 * n) / 2 ^ 0)]).length := by first | (simp; done) | (simp; omega)
  rw [hcan] at hF; clear hcan
  show C Tryd.prog (sub b41 [1,1,1,1,0,1,0,0,1,1,1]) _ a h128
  refine cP 9 hF ?_
  refine sP 2 [.int .i64 8,.int .i64 8] ?_
  refine sD [(0,pV b),(2,pV h.size),(3,.slice ad124 ((((((((((r ++ [128] ++ List.replicate (zlen (r.length + 1)) 0) ++ [UInt8.ofNat ((8 * n) / 2 ^ 56)]) ++ [UInt8.ofNat ((8 * n) / 2 ^ 48)]) ++ [UInt8.ofNat ((8 * n) / 2 ^ 40)]) ++ [UInt8.ofNat ((8 * n) / 2 ^ 32)]) ++ [UInt8.ofNat ((8 * n) / 2 ^ 24)]) ++ [UInt8.ofNat ((8 * n) / 2 ^ 16)]) ++ [UInt8.ofNat ((8 * n) / 2 ^ 8)]) ++ [UInt8.ofNat ((8 * n) / 2 ^ 0)]).length) cap125),(22,.int .i64 8)] ?_
  clear hF a; intro a hF
  show Crounds _ _ _ _ 1 a h128
  refine Cround.step ?_
  refine cS ?_
  refine cP 6 hF ?_
  refine sP 1 [.bool false] ?_
  refine sD [(0,pV b),(2,pV h.size),(3,.slice ad124 ((((((((((r ++ [128] ++ List.replicate (zlen (r.length + 1)) 0) ++ [UInt8.ofNat ((8 * n) / 2 ^ 56)]) ++ [UInt8.ofNat ((8 * n) / 2 ^ 48)]) ++ [UInt8.ofNat ((8 * n) / 2 ^ 40)]) ++ [UInt8.ofNat ((8 * n) / 2 ^ 32)]) ++ [UInt8.ofNat ((8 * n) / 2 ^ 24)]) ++ [UInt8.ofNat ((8 * n) / 2 ^ 16)]) ++ [UInt8.ofNat ((8 * n) / 2 ^ 8)]) ++ [UInt8.ofNat ((8 * n) / 2 ^ 0)]).length) cap125),(22,.int .i64 8),(23,.bool false)] ?_
  clear hF a; intro a hF
  refine tK ?_
  refine cS ?_
  refine cF 23 hF ?_
  refine cX 2 ?_
  show C Tryd.prog (sub b41 [1,1,1,1,1]) _ a h128
  refine cS ?_
  refine cP 10 hF ?_
  refine sP 3 [pV b,pV b,pV b] ?_
  refine sC 4 (.agg #[wv st.a,wv st.b,wv st.c,wv st.d,wv st.e,wv st.f,wv st.g,wv st.h]) (Calm.load (T := 69) (p := ⟨b,0,none⟩) (by kernel_rfl) (Loads.blk (vs := [wv st.a,wv st.b,wv st.c,wv st.d,wv st.e,wv st.f,wv st.g,wv st.h]) (by kernel_rfl) hm rfl)) ?_
  have hne0 : ad124.map (·.block) ≠ some (h128.size) := by intro e; have := own_e.lt (k := h128.size) (by rw [blkOf_slice]; exact e); omega
  refine SeqK.eff (k' := 5) (Does.new (v := .pointer (some ⟨h128.size,0,none⟩)) (o := .cells #[.int .u32 0,.int .u32 0,.int .u32 0,.int .u32 0,.int .u32 0,.int .u32 0,.int .u32 0,.int .u32 0] 69) (by kernel_rfl)) rfl ?_
  rintro _ h129 ⟨rfl,hh⟩
  have g130 : Ext h128 h129 := push_ext hh
  have m131 : h129[h128.size]? = some (.cells #[.int .u32 0,.int .u32 0,.int .u32 0,.int .u32 0,.int .u32 0,.int .u32 0,.int .u32 0,.int .u32 0] 69) := push_at hh
  clear hh
  have lt132 := blk_lt m131
  have zs133 := e0.size
  have zs134 := e1.size
  replace e0 := e0.ext g130
  replace e1 := e1.ext g130
  replace kt := kt.ext g130
  replace own_e := own_e.ext g130
  replace hm := Ext.blk g130 hm
  replace m3 := Ext.blk g130 m3
  refine SeqK.eff (k' := 6) (Does.store (b := h128.size) (off := 0) (vs := [wv st.a,wv st.b,wv st.c,wv st.d,wv st.e,wv st.f,wv st.g,wv st.h]) (l := [.int .u32 0,.int .u32 0,.int .u32 0,.int .u32 0,.int .u32 0,.int .u32 0,.int .u32 0,.int .u32 0]) (by kernel_rfl) m131 (of_decide_eq_true (by kernel_rfl)) (List.all_eq_true.1 (by kernel_rfl))) rfl ?_
  rintro _ h135 ⟨rfl,hh⟩
  have g136 : Grew (some (h128.size)) h129 h135 := hput_gr hh
  replace m131 : h135[h128.size]? = some (.cells ([wv st.a,wv st.b,wv st.c,wv st.d,wv st.e,wv st.f,wv st.g,wv st.h]).toArray 69) := hput_at (off := 0) (vs := [wv st.a,wv st.b,wv st.c,wv st.d,wv st.e,wv st.f,wv st.g,wv st.h]) (l := ([.int .u32 0,.int .u32 0,.int .u32 0,.int .u32 0,.int .u32 0,.int .u32 0,.int .u32 0,.int .u32 0])) hh (by kernel_rfl) m131
  clear hh
  replace e0 := e0.grew g136 (by rintro _ ⟨⟩; omega)
  replace e1 := e1.grew g136 (by rintro _ ⟨⟩; omega)
  replace kt := kt.grew g136 (by simp; omega)
  replace own_e := own_e.kept g136 (by rw [blkOf_slice]; right; first | exact hne0 | (intro e; have := hge_e _ e; omega))
  replace hm := Grew.blk g136 hm (by simp; omega)
  replace m3 := Grew.blk g136 m3 (by simp; omega)
  refine sD [(2,pV h.size),(3,.slice ad124 ((((((((((r ++ [128] ++ List.replicate (zlen (r.length + 1)) 0) ++ [UInt8.ofNat ((8 * n) / 2 ^ 56)]) ++ [UInt8.ofNat ((8 * n) / 2 ^ 48)]) ++ [UInt8.ofNat ((8 * n) / 2 ^ 40)]) ++ [UInt8.ofNat ((8 * n) / 2 ^ 32)]) ++ [UInt8.ofNat ((8 * n) / 2 ^ 24)]) ++ [UInt8.ofNat ((8 * n) / 2 ^ 16)]) ++ [UInt8.ofNat ((8 * n) / 2 ^ 8)]) ++ [UInt8.ofNat ((8 * n) / 2 ^ 0)]).length) cap125),(5,pV h128.size)] ?_
  clear hF a; intro a hF
  refine tK ?_
  refine cS ?_
  refine cB 4 ?_
  have hpad : (((((((((r ++ [128] ++ List.replicate (zlen (r.length + 1)) 0) ++ [UInt8.ofNat ((8 * n) / 2 ^ 56)]) ++ [UInt8.ofNat ((8 * n) / 2 ^ 48)]) ++ [UInt8.ofNat ((8 * n) / 2 ^ 40)]) ++ [UInt8.ofNat ((8 * n) / 2 ^ 32)]) ++ [UInt8.ofNat ((8 * n) / 2 ^ 24)]) ++ [UInt8.ofNat ((8 * n) / 2 ^ 16)]) ++ [UInt8.ofNat ((8 * n) / 2 ^ 8)]) ++ [UInt8.ofNat ((8 * n) / 2 ^ 0)]) = padded r n := by simp [padded,lenB]
  rw [hpad] at hF own_e
  have hp0 := padded_len r n
  clear hpad
  refine C.loop (fun m a h' => ∃ st' : S8,∃ e' : List UInt8,∃ ad' : Option Addr,∃ cap' : Nat,m = e'.length ∧ (Ext h h') ∧ (Ext h1 h') ∧ (Ktab h') ∧ (h'[h.size]? = some (.cells #[.int .u8 0,.int .u8 0,.int .u8 0,.int .u8 0,.int .u8 0,.int .u8 0,.int .u8 0,.int .u8 0,.int .u8 0,.int .u8 0,.int .u8 0,.int .u8 0,.int .u8 0,.int .u8 0,.int .u8 0,.int .u8 0,.int .u8 0,.int .u8 0,.int .u8 0,.int .u8 0,.int .u8 0,.int .u8 0,.int .u8 0,.int .u8 0,.int .u8 0,.int .u8 0,.int .u8 0,.int .u8 0,.int .u8 0,.int .u8 0,.int .u8 0,.int .u8 0] 31)) ∧ (run st' e' = run st (padded r n)) ∧ (e'.length % 64 = 0) ∧ (h'[h128.size]? = some (.cells #[wv st'.a,wv st'.b,wv st'.c,wv st'.d,wv st'.e,wv st'.f,wv st'.g,wv st'.h] 69)) ∧ (Own h' (.slice ad' e'.length cap') 5 e'.length 1 (e'.map bv)) ∧ (∀ k,ad'.map (·.block) = some k → h1.size ≤ k) ∧ (ad'.map (·.block) ≠ some (h128.size)) ∧ (Fr a 54 [(2,.pointer (some ⟨h.size,0,none⟩)),(3,.slice ad' e'.length cap'),(5,.pointer (some ⟨h128.size,0,none⟩))])) ((padded r n).length) [1,1,1,1,1,1,0,0,0] (by kernel_rfl) ⟨st,(padded r n),ad124,cap125,rfl,e0,e1,kt,m3,rfl,hp0,m131,own_e,hge_e,hne0,hF⟩ ?_
  clear hF a
  clear e0
  clear e1
  clear kt
  clear m3
  clear hp0
  clear m131
  clear own_e
  clear hge_e
  clear hne0
  rintro m a h137 ⟨st',e',ad',cap',rfl,e0,e1,kt,m3,hi,hmod,m5,own_e,hge_e,hne,hF⟩
  refine cS ?_
  refine cS ?_
  refine cP 11 hF ?_
  refine sP 3 [.slice ad' e'.length cap',nV (e'.length),.bool (decide ((0 : Int) < ((e'.length : Nat) : Int)))] ?_
  refine sD [(2,pV h.size),(3,.slice ad' e'.length cap'),(5,pV h128.size),(45,.bool (decide ((0 : Int) < ((e'.length : Nat) : Int))))] ?_
  clear hF a; intro a hF
  refine tK ?_
  refine cC 45 (decide ((0 : Int) < ((e'.length : Nat) : Int))) hF (fun hc138 => ?_) (fun hc138 => ?_)
  ·skip
   replace hc138 := of_decide_eq_true hc138
   have hl : 64 ≤ e'.length := by omega
   obtain ⟨gb,off,rfl,hcap⟩ := own_e.some_at (by omega)
   refine cN ?_
   refine tK ?_
   refine cB 5 ?_
   refine cS ?_
   refine cD [0,0,2,7,15] 12 mixed hF ?_
   refine mL 1 1 0 (.agg #[wv st'.a,wv st'.b,wv st'.c,wv st'.d,wv st'.e,wv st'.f,wv st'.g,wv st'.h]) (Calm.load (T := 69) (p := ⟨h128.size,0,none⟩) (by kernel_rfl) (Loads.blk (vs := [wv st'.a,wv st'.b,wv st'.c,wv st'.d,wv st'.e,wv st'.f,wv st'.g,wv st'.h]) (by kernel_rfl) m5 rfl)) ?_
   refine mP 3 [1] [.slice (some ⟨gb,off,none⟩) e'.length cap'] ?_
   refine mF 7 2 (.slice (some ⟨gb,off,none⟩) 64 cap') (fun h => Calm.sliceO (a := (some ⟨gb,off,none⟩)) (len := e'.length) (cap := cap') (sz := 1) (x := (some ⟨gb,off,none⟩)) 0 64 cap' 64 cap' (by kernel_rfl) (.inl ⟨rfl,rfl⟩) (.inr rfl) (.inl ⟨rfl,rfl⟩) (by omega) (by omega) (some_add0 _) (by first | rfl | omega) (by first | rfl | omega) h) ?_
   refine SimK.eff0 (i := 3) (D' := 15) (X' := 15) (by kernel_rfl) (by kernel_rfl) (by kernel_rfl) (by kernel_rfl) (Does.call (f := 47) (args := #[.agg #[wv st'.a,wv st'.b,wv st'.c,wv st'.d,wv st'.e,wv st'.f,wv st'.g,wv st'.h],.slice (some ⟨gb,off,none⟩) 64 cap']) (by kernel_rfl) (piece_sat _ st' ⟨gb,off,none⟩ cap' (e'.take 64) (pre64 own_e hl) kt)) ?_
   rintro _ h139 ⟨rfl,g⟩
   replace e0 := e0.ext g
   replace e1 := e1.ext g
   replace kt := kt.ext g
   replace own_e := own_e.ext g
   replace m3 := Ext.blk g m3
   replace m5 := Ext.blk g m5
   clear g
   refine SimK.eff0 (i := 4) (D' := 31) (X' := 31) (by kernel_rfl) (by kernel_rfl) (by kernel_rfl) (by kernel_rfl) (Does.store (b := h128.size) (off := 0) (vs := [wv ((piece st' (e'.take 64)).a),wv ((piece st' (e'.take 64)).b),wv ((piece st' (e'.take 64)).c),wv ((piece st' (e'.take 64)).d),wv ((piece st' (e'.take 64)).e),wv ((piece st' (e'.take 64)).f),wv ((piece st' (e'.take 64)).g),wv ((piece st' (e'.take 64)).h)]) (l := [wv st'.a,wv st'.b,wv st'.c,wv st'.d,wv st'.e,wv st'.f,wv st'.g,wv st'.h]) (by kernel_rfl) m5 (of_decide_eq_true (by kernel_rfl)) (List.all_eq_true.1 (by kernel_rfl))) ?_
   rintro _ h140 ⟨rfl,hh⟩
   have g141 : Grew (some (h128.size)) h139 h140 := hput_gr hh
   replace m5 : h140[h128.size]? = some (.cells ([wv ((piece st' (e'.take 64)).a),wv ((piece st' (e'.take 64)).b),wv ((piece st' (e'.take 64)).c),wv ((piece st' (e'.take 64)).d),wv ((piece st' (e'.take 64)).e),wv ((piece st' (e'.take 64)).f),wv ((piece st' (e'.take 64)).g),wv ((piece st' (e'.take 64)).h)]).toArray 69) := hput_at (off := 0) (vs := [wv ((piece st' (e'.take 64)).a),wv ((piece st' (e'.take 64)).b),wv ((piece st' (e'.take 64)).c),wv ((piece st' (e'.take 64)).d),wv ((piece st' (e'.take 64)).e),wv ((piece st' (e'.take 64)).f),wv ((piece st' (e'.take 64)).g),wv ((piece st' (e'.take 64)).h)]) (l := ([wv st'.a,wv st'.b,wv st'.c,wv st'.d,wv st'.e,wv st'.f,wv st'.g,wv st'.h])) hh (by kernel_rfl) m5
   clear hh
   replace e0 := e0.grew g141 (by rintro _ ⟨⟩; omega)
   replace e1 := e1.grew g141 (by rintro _ ⟨⟩; omega)
   replace kt := kt.grew g141 (by simp; omega)
   replace own_e := own_e.kept g141 (by rw [blkOf_slice]; right; first | exact hne | (intro e; have := hge_e _ e; omega))
   replace m3 := Grew.blk g141 m3 (by simp; omega)
   refine mD [(2,pV h.size),(3,.slice (some ⟨gb,off,none⟩) e'.length cap'),(5,pV h128.size)] ?_
   clear hF a; intro a hF
   refine tK ?_
   refine cP 13 hF ?_
   refine sP 1 [.slice (some ⟨gb,off,none⟩) e'.length cap'] ?_
   obtain ⟨ad2,had2⟩ : ∃ x,x = if cap' = 64 then (some ⟨gb,off,none⟩ : Option Addr) else (some ⟨gb,off,none⟩ : Option Addr).map (·.add (64 * 1)) := ⟨_,rfl⟩
   have own_2 := own_e.drop 64 hl
   rw [← had2] at own_2
   refine sC 2 (.slice ad2 (e'.length - 64) (cap' - 64)) ((fun h => Calm.sliceO (a := (some ⟨gb,off,none⟩)) (len := e'.length) (cap := cap') (sz := 1) (x := ad2) 64 e'.length cap' (e'.length - 64) (cap' - 64) (by kernel_rfl) (.inl ⟨rfl,rfl⟩) (.inl ⟨rfl,rfl⟩) (.inr rfl) (by omega) (by omega) had2 (by first | rfl | omega) (by first | rfl | omega) h) _) ?_
   refine sP 3 [.slice ad2 (e'.length - 64) (cap' - 64)] ?_
   refine sD [(2,pV h.size),(3,.slice ad2 (e'.length - 64) (cap' - 64)),(5,pV h128.size)] ?_
   clear hF a; intro a hF
   have e64 : e'.length - 64 = (e'.drop 64).length := by simp
   rw [Nat.mul_one,← List.map_drop] at own_2
   rw [e64] at hF own_2
   show ∃ m',m' < _ ∧ _
   refine ⟨_,?_,(piece st' (e'.take 64)),(e'.drop 64),ad2,(cap' - 64),rfl,e0,e1,kt,m3,(by rw [← hi,run_step hl]),(by rw [List.length_drop]; omega),m5,own_2,(by intro k hk; rw [blk_drop had2] at hk; exact hge_e k hk),(by rw [blk_drop had2]; exact hne),hF⟩
   omega
  ·skip
   replace hc138 := of_decide_eq_false hc138
   refine cX 4 ?_
   show C Tryd.prog (sub b41 [1,1,1,1,1,1,1]) _ a h137
   refine cS ?_
   refine cP 14 hF ?_
   refine sC 1 (.agg #[wv st'.a,wv st'.b,wv st'.c,wv st'.d,wv st'.e,wv st'.f,wv st'.g,wv st'.h]) (Calm.load (T := 69) (p := ⟨h128.size,0,none⟩) (by kernel_rfl) (Loads.blk (vs := [wv st'.a,wv st'.b,wv st'.c,wv st'.d,wv st'.e,wv st'.f,wv st'.g,wv st'.h]) (by kernel_rfl) m5 rfl)) ?_
   refine SeqK.eff (k' := 2) (Does.call (f := 48) (args := #[.agg #[wv st'.a,wv st'.b,wv st'.c,wv st'.d,wv st'.e,wv st'.f,wv st'.g,wv st'.h]]) (by kernel_rfl) (told_sat _ st')) rfl ?_
   rintro _ h142 ⟨rfl,g⟩
   replace e0 := e0.ext g
   replace e1 := e1.ext g
   replace kt := kt.ext g
   replace own_e := own_e.ext g
   replace m3 := Ext.blk g m3
   replace m5 := Ext.blk g m5
   clear g
   have est : st' = run st (padded r n) := by rw [← hi,run_end (by omega)]
   refine SeqK.eff (k' := 3) (Does.store (b := h.size) (off := 0) (vs := (told st').map bv) (l := [.int .u8 0,.int .u8 0,.int .u8 0,.int .u8 0,.int .u8 0,.int .u8 0,.int .u8 0,.int .u8 0,.int .u8 0,.int .u8 0,.int .u8 0,.int .u8 0,.int .u8 0,.int .u8 0,.int .u8 0,.int .u8 0,.int .u8 0,.int .u8 0,.int .u8 0,.int .u8 0,.int .u8 0,.int .u8 0,.int .u8 0,.int .u8 0,.int .u8 0,.int .u8 0,.int .u8 0,.int .u8 0,.int .u8 0,.int .u8 0,.int .u8 0,.int .u8 0]) (by kernel_rfl) m3 (of_decide_eq_true (by kernel_rfl)) (ones_map _)) rfl ?_
   rintro _ h143 ⟨rfl,hh⟩
   have g144 : Grew (some (h.size)) h142 h143 := hput_gr hh
   replace m3 : h143[h.size]? = some (.cells ((told st').map bv).toArray 31) := hput_at (off := 0) (vs := (told st').map bv) (l := ([.int .u8 0,.int .u8 0,.int .u8 0,.int .u8 0,.int .u8 0,.int .u8 0,.int .u8 0,.int .u8 0,.int .u8 0,.int .u8 0,.int .u8 0,.int .u8 0,.int .u8 0,.int .u8 0,.int .u8 0,.int .u8 0,.int .u8 0,.int .u8 0,.int .u8 0,.int .u8 0,.int .u8 0,.int .u8 0,.int .u8 0,.int .u8 0,.int .u8 0,.int .u8 0,.int .u8 0,.int .u8 0,.int .u8 0,.int .u8 0,.int .u8 0,.int .u8 0])) hh (by kernel_rfl) m3
   clear hh
   replace e0 := e0.grew g144 (by rintro _ ⟨⟩; omega)
   clear e1
   replace kt := kt.grew g144 (by simp; omega)
   replace own_e := own_e.kept g144 (by rw [blkOf_slice]; right; intro e; have := hge_e _ e; omega)
   replace m5 := Grew.blk g144 m5 (by simp; omega)
   refine sD [(2,pV h.size)] ?_
   clear hF a; intro a hF
   refine tK ?_
   refine cR ?_
   refine ret_ok [.cell 2 31] [.agg (((told st').map bv).toArray)] (.agg (((told st').map bv).toArray)) rfl hF ⟨⟨_,rfl,Loads.all (vs := (told st').map bv) (by kernel_rfl) m3⟩,trivial⟩ rfl ?_
   exact ⟨by rw [est]; rfl,e0⟩
end Go.Proofs.YtkjlafiefgbjpaaDoor
