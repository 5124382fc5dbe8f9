/- Walks of the document's SHA-256: what each function computes, as a law of its calls. No condition but those that each theorem names. -/
import Derived.Test.YtkjlafiefgbjpaaDoorRefB
namespace Go.Proofs.YtkjlafiefgbjpaaDoor
open Go Go.Lane Go.Sha
noncomputable def b26 : Code := Tryd.f26.body.getD .skip
theorem h0cells : (#[.int .u32 1779033703,.int .u32 3144134277,.int .u32 1013904242,.int .u32 2773480762,.int .u32 1359893119,.int .u32 2600822924,.int .u32 528734635,.int .u32 1541459225] : Array Value) = (sv H0).toArray := by kernel_rfl
set_option maxHeartbeats 2000000 in
theorem rsum_sat (h : Heap) (l : List UInt8) (va : Option Addr) (vc : Nat) (hr : Row h (.slice va l.length vc) l.length 1 (l.map bv)) (hn : l.length ≤ 1099511627776) : Sat Tryd.prog 26 #[.slice va l.length vc] h fun v h' => v = hv (sha l) ∧ Ext h h' := by
 have e0 := Ext.refl h
 have sep : Sep h.size h.size [] := Sep.nil _ _
 refine sat_of (args := [.slice va l.length vc]) (fn := Tryd.f26) (B := b26) (n := 72) (L := [(0,.slice va l.length vc)]) Tryd.func26 rfl (by kernel_rfl) rfl ?_
 intro a hF
 refine cS ?_
 refine cP 0 hF ?_
 refine SeqK.eff (k' := 1) (Does.new (v := .pointer (some ⟨h.size,0,none⟩)) (o := .cells #[.int .u8 0,.int .u8 0,.int .u8 0,.int .u8 0,.int .u8 0,.int .u8 0,.int .u8 0,.int .u8 0,.int .u8 0,.int .u8 0,.int .u8 0,.int .u8 0,.int .u8 0,.int .u8 0,.int .u8 0,.int .u8 0,.int .u8 0,.int .u8 0,.int .u8 0,.int .u8 0,.int .u8 0,.int .u8 0,.int .u8 0,.int .u8 0,.int .u8 0,.int .u8 0,.int .u8 0,.int .u8 0,.int .u8 0,.int .u8 0,.int .u8 0,.int .u8 0] 31) (by kernel_rfl)) rfl ?_
 rintro _ h1 ⟨rfl,hh⟩
 have g2 : Ext h h1 := push_ext hh
 have m3 : h1[h.size]? = some (.cells #[.int .u8 0,.int .u8 0,.int .u8 0,.int .u8 0,.int .u8 0,.int .u8 0,.int .u8 0,.int .u8 0,.int .u8 0,.int .u8 0,.int .u8 0,.int .u8 0,.int .u8 0,.int .u8 0,.int .u8 0,.int .u8 0,.int .u8 0,.int .u8 0,.int .u8 0,.int .u8 0,.int .u8 0,.int .u8 0,.int .u8 0,.int .u8 0,.int .u8 0,.int .u8 0,.int .u8 0,.int .u8 0,.int .u8 0,.int .u8 0,.int .u8 0,.int .u8 0] 31) := push_at hh
 clear hh
 have lt4 := blk_lt m3
 have zs5 := e0.size
 have hlo := e0.size
 have sepo := sep
 replace e0 := e0.ext g2
 replace sep := sep.up g2.size
 replace sep := sepo.new hlo (blk_lt m3)
 clear sepo hlo
 refine sD [(0,.slice va l.length vc),(2,pV h.size)] ?_
 clear hF a; intro a hF
 refine tK ?_
 refine cS ?_
 refine cP 1 hF ?_
 refine SeqK.eff (k' := 1) (Does.new (v := .slice (some ⟨h1.size,0,none⟩) 0 0) (o := .cells #[] 5) (by kernel_rfl)) rfl ?_
 rintro _ h6 ⟨rfl,hh⟩
 have g7 : Ext h1 h6 := push_ext hh
 have m8 : h6[h1.size]? = some (.cells #[] 5) := push_at hh
 clear hh
 have lt9 := blk_lt m8
 have zs10 := e0.size
 have hlo := e0.size
 have sepo := sep
 replace e0 := e0.ext g7
 replace m3 := Ext.blk g7 m3
 replace sep := sep.up g7.size
 replace sep := sepo.new hlo (blk_lt m8)
 clear sepo hlo
 refine sP 2 [.slice va l.length vc] ?_
 have own_t : Own h6 (.slice (some ⟨h1.size,0,none⟩) 0 0) 5 ([] : List UInt8).length 1 (([] : List UInt8).map bv) := Own.empty 1 m8
 replace sep : Sep h.size h6.size [(some ⟨h1.size,0,none⟩ : Option Addr).map (·.block),some (h.size)] := sep
 clear m8 lt9 zs10
 refine SeqK.eff (k' := 3) (Does.append2 (t := 22) (E := 5) (sz := 1) (by_ := 1) (n := 0) (m := l.length) (v := .slice (some ⟨h1.size,0,none⟩) 0 0) (x := .slice va l.length vc) (xs := (([]).map bv)) (ys := (l.map bv)) (by kernel_rfl) (by kernel_rfl) own_t (hr.ext e0) (ones_map _) (by unfold maxLen; omega) (by omega)) rfl ?_
 rintro _ h13 ⟨ad11,cap12,rfl,ownx,g,hb⟩
 rw [blkOf_slice] at g hb
 have hlo := e0.size
 have sepo := sep
 replace e0 := e0.grew g (sep.low 0 rfl)
 replace m3 := Grew.blk g m3 ((sep.bp 1 0))
 replace sep := sep.up g.size
 replace sep : Sep h.size h13.size [ad11.map (·.block),some (h.size)] := sepo.set g.size hlo 0 (y := ad11.map (fun (x : Addr) => x.block)) rfl (hb.imp id fun e => .inr ⟨_,e,Nat.le_refl _⟩) (fun k e => ownx.lt (by rw [blkOf_slice]; exact e))
 replace own_t : Own h13 (.slice ad11 l.length cap12) 5 l.length 1 (l.map bv) := Own.app (L2 := l) ownx (by first | rfl | simp) (by first | rfl | (simp; done) | (simp; omega))
 clear ownx g hb hlo sepo
 refine sP 4 [.slice ad11 (0 + l.length) cap12] ?_
 refine sD [(0,.slice va l.length vc),(2,pV h.size),(3,.slice ad11 (0 + l.length) cap12)] ?_
 clear hF a; intro a hF
 have hcan : (0 + l.length : Nat) = l.length := by first | (simp; done) | (simp; omega)
 rw [hcan] at hF; clear hcan
 refine tK ?_
 refine cS ?_
 refine cP 2 hF ?_
 refine sP 1 [.slice ad11 l.length cap12] ?_
 refine SeqK.eff (k' := 2) (Does.new (v := .slice (some ⟨h13.size,0,none⟩) 1 1) (o := .cells #[.int .u8 128] 5) (by kernel_rfl)) rfl ?_
 rintro _ h14 ⟨rfl,hh⟩
 have g15 : Ext h13 h14 := push_ext hh
 have m16 : h14[h13.size]? = some (.cells #[.int .u8 128] 5) := push_at hh
 clear hh
 have lt17 := blk_lt m16
 have zs18 := e0.size
 have hlo := e0.size
 have sepo := sep
 replace e0 := e0.ext g15
 replace own_t := own_t.ext g15
 replace m3 := Ext.blk g15 m3
 replace sep := sep.up g15.size
 replace sep := sepo.new hlo (blk_lt m16)
 clear sepo hlo
 refine SeqK.eff (k' := 3) (Does.append2 (t := 22) (E := 5) (sz := 1) (by_ := 1) (n := l.length) (m := 1) (v := .slice ad11 l.length cap12) (x := .slice (some ⟨h13.size,0,none⟩) 1 1) (xs := (l.map bv)) (ys := (([(128 : UInt8)]).map bv)) (by kernel_rfl) (by kernel_rfl) own_t (Row.blk (l := [bv (128 : UInt8)]) m16 rfl) (ones_map _) (by unfold maxLen; first | omega | (simp only [List.length_append,List.length_cons,List.length_nil,List.length_replicate,zlen]; omega)) (by first | omega | (simp only [List.length_append,List.length_cons,List.length_nil,List.length_replicate,zlen]; omega))) rfl ?_
 rintro _ h21 ⟨ad19,cap20,rfl,ownx,g,hb⟩
 rw [blkOf_slice] at g hb
 have hlo := e0.size
 have sepo := sep
 replace e0 := e0.grew g (sep.low 1 rfl)
 replace m3 := Grew.blk g m3 ((sep.bp 2 1))
 replace m16 := Grew.blk g m16 ((sep.bp 0 1))
 replace sep := sep.up g.size
 replace sep : Sep h.size h21.size [some (h13.size),ad19.map (·.block),some (h.size)] := sepo.set g.size hlo 1 (y := ad19.map (fun (x : Addr) => x.block)) rfl (hb.imp id fun e => .inr ⟨_,e,Nat.le_refl _⟩) (fun k e => ownx.lt (by rw [blkOf_slice]; exact e))
 replace own_t : Own h21 (.slice ad19 ((l ++ [(128 : UInt8)]).length) cap20) 5 ((l ++ [(128 : UInt8)]).length) 1 ((l ++ [(128 : UInt8)]).map bv) := Own.app (L2 := l ++ [(128 : UInt8)]) ownx (by first | rfl | simp) (by first | rfl | (simp; done) | (simp; omega))
 clear ownx g hb hlo sepo
 clear m16 lt17 zs18
 replace sep := sep.sub (l' := [ad19.map (·.block),some (h.size)]) (.cons _ (.cons_cons _ (.cons_cons _ (.slnil))))
 refine sP 4 [.slice ad19 (l.length + 1) cap20] ?_
 refine sD [(0,.slice va l.length vc),(2,pV h.size),(3,.slice ad19 (l.length + 1) cap20)] ?_
 clear hF a; intro a hF
 have hcan : (l.length + 1 : Nat) = (l ++ [(128 : UInt8)]).length := by first | (simp; done) | (simp; omega)
 rw [hcan] at hF; clear hcan
 refine tK ?_
 refine cS ?_
 refine cB 0 ?_
 have hz : (l ++ [(128 : UInt8)]).length = l.length + 1 := by simp
 have hz0 : zlen (l.length + 1) = (120 - (l.length + 1) % 64) % 64 := rfl
 have hl0 : (l ++ [(128 : UInt8)]).length = (l ++ [128] ++ List.replicate 0 (0 : UInt8)).length := by simp
 rw [hl0] at hF
 have own_f : Own h21 (.slice ad19 (l ++ [128] ++ List.replicate 0 (0 : UInt8)).length cap20) 5 (l ++ [128] ++ List.replicate 0 (0 : UInt8)).length 1 ((l ++ [128] ++ List.replicate 0 (0 : UInt8)).map bv) := by simpa using own_t
 refine C.loop (fun m a h' => ∃ j : Nat,∃ ad' : Option Addr,∃ cap' : Nat,m = zlen (l.length + 1) - j ∧ (Ext h h') ∧ (h'[h.size]? = some (.cells #[.int .u8 0,.int .u8 0,.int .u8 0,.int .u8 0,.int .u8 0,.int .u8 0,.int .u8 0,.int .u8 0,.int .u8 0,.int .u8 0,.int .u8 0,.int .u8 0,.int .u8 0,.int .u8 0,.int .u8 0,.int .u8 0,.int .u8 0,.int .u8 0,.int .u8 0,.int .u8 0,.int .u8 0,.int .u8 0,.int .u8 0,.int .u8 0,.int .u8 0,.int .u8 0,.int .u8 0,.int .u8 0,.int .u8 0,.int .u8 0,.int .u8 0,.int .u8 0] 31)) ∧ (j ≤ zlen (l.length + 1)) ∧ (Own h' (.slice ad' (l ++ [128] ++ List.replicate j 0).length cap') 5 (l ++ [128] ++ List.replicate j 0).length 1 ((l ++ [128] ++ List.replicate j 0).map bv)) ∧ (Sep h.size h'.size [ad'.map (·.block),some (h.size)]) ∧ (Fr a 72 [(0,.slice va l.length vc),(2,.pointer (some ⟨h.size,0,none⟩)),(3,.slice ad' ((l ++ [128] ++ List.replicate j 0).length) cap')])) (zlen (l.length + 1) - 0) [1,1,1,0,0,0] (by kernel_rfl) ⟨0,ad19,cap20,rfl,e0,m3,(by omega),own_f,sep,hF⟩ ?_
 clear hF a
 clear e0
 clear m3
 clear own_f
 clear sep
 rintro m a h22 ⟨j,ad',cap',rfl,e0,m3,hj,own_t,sep,hF⟩
 have hlj : (l ++ [128] ++ List.replicate j 0).length = l.length + 1 + j := by simp; omega
 refine cS ?_
 refine cS ?_
 refine cP 3 hF ?_
 refine sP 2 [.slice ad' ((l ++ [128] ++ List.replicate j 0).length) cap',nV ((l ++ [128] ++ List.replicate j 0).length)] ?_
 refine s1 3 (.int .i64 ((((l ++ [128] ++ List.replicate j 0).length) % 64 : Nat) : Int)) (.int .i64 (Int.tmod (((l ++ [128] ++ List.replicate j 0).length : Nat) : Int) 64)) (congrArg (Value.int .i64) (tmodN ((l ++ [128] ++ List.replicate j 0).length) 64)) ?_
 refine sP 4 [.bool (!decide (((((l ++ [128] ++ List.replicate j 0).length) % 64 : Nat) : Int) = (56 : Int)))] ?_
 refine sD [(0,.slice va l.length vc),(2,pV h.size),(3,.slice ad' ((l ++ [128] ++ List.replicate j 0).length) cap'),(19,.bool (!decide (((((l ++ [128] ++ List.replicate j 0).length) % 64 : Nat) : Int) = (56 : Int))))] ?_
 clear hF a; intro a hF
 refine tK ?_
 refine cC 19 (!decide (((((l ++ [128] ++ List.replicate j 0).length) % 64 : Nat) : Int) = (56 : Int))) hF (fun hc23 => ?_) (fun hc23 => ?_)
 ·skip
  replace hc23 := not_decide_true hc23
  refine cN ?_
  refine tK ?_
  refine cB 1 ?_
  refine cP 4 hF ?_
  refine sP 1 [.slice ad' ((l ++ [128] ++ List.replicate j 0).length) cap'] ?_
  refine SeqK.eff (k' := 2) (Does.new (v := .slice (some ⟨h22.size,0,none⟩) 1 1) (o := .cells #[.int .u8 0] 5) (by kernel_rfl)) rfl ?_
  rintro _ h24 ⟨rfl,hh⟩
  have g25 : Ext h22 h24 := push_ext hh
  have m26 : h24[h22.size]? = some (.cells #[.int .u8 0] 5) := push_at hh
  clear hh
  have lt27 := blk_lt m26
  have zs28 := e0.size
  have hlo := e0.size
  have sepo := sep
  replace e0 := e0.ext g25
  replace own_t := own_t.ext g25
  replace m3 := Ext.blk g25 m3
  replace sep := sep.up g25.size
  replace sep := sepo.new hlo (blk_lt m26)
  clear sepo hlo
  refine SeqK.eff (k' := 3) (Does.append2 (t := 22) (E := 5) (sz := 1) (by_ := 1) (n := (l ++ [128] ++ List.replicate j 0).length) (m := 1) (v := .slice ad' ((l ++ [128] ++ List.replicate j 0).length) cap') (x := .slice (some ⟨h22.size,0,none⟩) 1 1) (xs := ((l ++ [128] ++ List.replicate j 0).map bv)) (ys := (([(0 : UInt8)]).map bv)) (by kernel_rfl) (by kernel_rfl) own_t (Row.blk (l := [bv (0 : UInt8)]) m26 rfl) (ones_map _) (by unfold maxLen; first | omega | (simp only [List.length_append,List.length_cons,List.length_nil,List.length_replicate,zlen]; omega)) (by first | omega | (simp only [List.length_append,List.length_cons,List.length_nil,List.length_replicate,zlen]; omega))) rfl ?_
  rintro _ h31 ⟨ad29,cap30,rfl,ownx,g,hb⟩
  rw [blkOf_slice] at g hb
  have hlo := e0.size
  have sepo := sep
  replace e0 := e0.grew g (sep.low 1 rfl)
  replace m3 := Grew.blk g m3 ((sep.bp 2 1))
  replace m26 := Grew.blk g m26 ((sep.bp 0 1))
  replace sep := sep.up g.size
  replace sep : Sep h.size h31.size [some (h22.size),ad29.map (·.block),some (h.size)] := sepo.set g.size hlo 1 (y := ad29.map (fun (x : Addr) => x.block)) rfl (hb.imp id fun e => .inr ⟨_,e,Nat.le_refl _⟩) (fun k e => ownx.lt (by rw [blkOf_slice]; exact e))
  replace own_t : Own h31 (.slice ad29 ((l ++ [128] ++ List.replicate j 0 ++ [(0 : UInt8)]).length) cap30) 5 ((l ++ [128] ++ List.replicate j 0 ++ [(0 : UInt8)]).length) 1 ((l ++ [128] ++ List.replicate j 0 ++ [(0 : UInt8)]).map bv) := Own.app (L2 := l ++ [128] ++ List.replicate j 0 ++ [(0 : UInt8)]) ownx (by first | rfl | simp) (by first | rfl | (simp; done) | (simp; omega))
  clear ownx g hb hlo sepo
  clear m26 lt27 zs28
  replace sep := sep.sub (l' := [ad29.map (·.block),some (h.size)]) (.cons _ (.cons_cons _ (.cons_cons _ (.slnil))))
  refine sP 4 [.slice ad29 (((l ++ [128] ++ List.replicate j 0).length) + 1) cap30] ?_
  refine sD [(0,.slice va l.length vc),(2,pV h.size),(3,.slice ad29 (((l ++ [128] ++ List.replicate j 0).length) + 1) cap30)] ?_
  clear hF a; intro a hF
  have hcan : (((l ++ [128] ++ List.replicate j 0).length) + 1 : Nat) = (l ++ [128] ++ List.replicate j 0 ++ [(0 : UInt8)]).length := by first | (simp; done) | (simp; omega)
  rw [hcan] at hF; clear hcan
  have hcan : (l ++ [128] ++ List.replicate j 0 ++ [(0 : UInt8)]).length = (l ++ [128] ++ List.replicate (j + 1) (0 : UInt8)).length := by simp [List.replicate_succ']
  rw [hcan] at hF; clear hcan
  show ∃ m',m' < _ ∧ _
  refine ⟨_,?_,(j + 1),ad29,cap30,rfl,e0,m3,(by omega),(by simpa [List.replicate_succ'] using own_t),sep,hF⟩
  omega
 ·skip
  replace hc23 := not_decide_false hc23
  refine cX 0 ?_
  show C Tryd.prog (sub b26 [1,1,1,1]) _ a h22
  refine cS ?_
  refine cP 5 hF ?_
  refine sP 2 [.slice va l.length vc,nV l.length] ?_
  refine s1 3 (.int .u64 ((l.length : Nat) : Int)) (.int .u64 (IntKind.u64.wrap ((l.length : Nat) : Int))) (congrArg (Value.int .u64) (u64n (by omega))) ?_
  refine s1 4 (.int .u64 ((8 * l.length : Nat) : Int)) (.int .u64 (IntKind.u64.wrap (8 * ((l.length : Nat) : Int)))) (congrArg (Value.int .u64) (u64e (by omega) (by omega))) ?_
  refine sP 5 [.int .u64 ((8 * l.length : Nat) : Int)] ?_
  refine sD [(2,pV h.size),(3,.slice ad' ((l ++ [128] ++ List.replicate j 0).length) cap'),(4,.int .u64 ((8 * l.length : Nat) : Int))] ?_
  clear hF a; intro a hF
  refine tK ?_
  refine cS ?_
  refine cS ?_
  refine cP 6 hF ?_
  refine sP 1 [.int .i64 7] ?_
  refine sD [(2,pV h.size),(3,.slice ad' ((l ++ [128] ++ List.replicate j 0).length) cap'),(4,.int .u64 ((8 * l.length : Nat) : Int)),(5,.int .i64 7)] ?_
  clear hF a; intro a hF
  refine tK ?_
  refine cB 2 ?_
  have ej : j = zlen (l.length + 1) := by omega
  subst ej
  refine C.unroll 9 [1,1,1,1,1,0,1,0,0] (by kernel_rfl) ?_
  refine Cround.step ?_
  refine cS ?_
  refine cS ?_
  refine cP 7 hF ?_
  refine sP 2 [.int .i64 7,.bool true] ?_
  refine sD [(2,pV h.size),(3,.slice ad' ((l ++ [128] ++ List.replicate (zlen (l.length + 1)) 0).length) cap'),(4,.int .u64 ((8 * l.length : Nat) : Int)),(5,.int .i64 7),(28,.bool true)] ?_
  clear hF a; intro a hF
  refine tK ?_
  refine cT 28 hF ?_
  refine cN ?_
  refine tK ?_
  refine cS ?_
  refine cB 3 ?_
  refine cP 9 hF ?_
  refine sP 4 [.slice ad' ((l ++ [128] ++ List.replicate (zlen (l.length + 1)) 0).length) cap',.int .u64 ((8 * l.length : Nat) : Int),.int .i64 7,.int .i64 56] ?_
  refine s1 5 (.int .u64 (((8 * l.length) / 2 ^ 56 : Nat) : Int)) (.int .u64 (Int.fdiv ((8 * l.length : Nat) : Int) (2 ^ 56))) (congrArg (Value.int .u64) (fdivN (8 * l.length) 56)) ?_
  refine s1 6 (bv (UInt8.ofNat ((8 * l.length) / 2 ^ 56))) (.int .u8 (IntKind.u8.wrap (((8 * l.length) / 2 ^ 56 : Nat) : Int))) (conv64 _) ?_
  refine SeqK.eff (k' := 7) (Does.new (v := .slice (some ⟨h22.size,0,none⟩) 1 1) (o := .cells #[bv (UInt8.ofNat ((8 * l.length) / 2 ^ 56))] 5) (by kernel_rfl)) rfl ?_
  rintro _ h32 ⟨rfl,hh⟩
  have g33 : Ext h22 h32 := push_ext hh
  have m34 : h32[h22.size]? = some (.cells #[bv (UInt8.ofNat ((8 * l.length) / 2 ^ 56))] 5) := push_at hh
  clear hh
  have lt35 := blk_lt m34
  have zs36 := e0.size
  have hlo := e0.size
  have sepo := sep
  replace e0 := e0.ext g33
  replace own_t := own_t.ext g33
  replace m3 := Ext.blk g33 m3
  replace sep := sep.up g33.size
  replace sep := sepo.new hlo (blk_lt m34)
  clear sepo hlo
  refine SeqK.eff (k' := 8) (Does.append2 (t := 22) (E := 5) (sz := 1) (by_ := 1) (n := (l ++ [128] ++ List.replicate (zlen (l.length + 1)) 0).length) (m := 1) (v := .slice ad' ((l ++ [128] ++ List.replicate (zlen (l.length + 1)) 0).length) cap') (x := .slice (some ⟨h22.size,0,none⟩) 1 1) (xs := ((l ++ [128] ++ List.replicate (zlen (l.length + 1)) 0).map bv)) (ys := (([UInt8.ofNat ((8 * l.length) / 2 ^ 56)]).map bv)) (by kernel_rfl) (by kernel_rfl) own_t (Row.blk (l := [bv (UInt8.ofNat ((8 * l.length) / 2 ^ 56))]) m34 rfl) (ones_map _) (by unfold maxLen; first | omega | (simp only [List.length_append,List.length_cons,List.length_nil,List.length_replicate,zlen]; omega)) (by first | omega | (simp only [List.length_append,List.length_cons,List.length_nil,List.length_replicate,zlen]; omega))) rfl ?_
  rintro _ h39 ⟨ad37,cap38,rfl,ownx,g,hb⟩
  rw [blkOf_slice] at g hb
  have hlo := e0.size
  have sepo := sep
  replace e0 := e0.grew g (sep.low 1 rfl)
  replace m3 := Grew.blk g m3 ((sep.bp 2 1))
  replace m34 := Grew.blk g m34 ((sep.bp 0 1))
  replace sep := sep.up g.size
  replace sep : Sep h.size h39.size [some (h22.size),ad37.map (·.block),some (h.size)] := sepo.set g.size hlo 1 (y := ad37.map (fun (x : Addr) => x.block)) rfl (hb.imp id fun e => .inr ⟨_,e,Nat.le_refl _⟩) (fun k e => ownx.lt (by rw [blkOf_slice]; exact e))
  replace own_t : Own h39 (.slice ad37 ((l ++ [128] ++ List.replicate (zlen (l.length + 1)) 0 ++ [UInt8.ofNat ((8 * l.length) / 2 ^ 56)]).length) cap38) 5 ((l ++ [128] ++ List.replicate (zlen (l.length + 1)) 0 ++ [UInt8.ofNat ((8 * l.length) / 2 ^ 56)]).length) 1 ((l ++ [128] ++ List.replicate (zlen (l.length + 1)) 0 ++ [UInt8.ofNat ((8 * l.length) / 2 ^ 56)]).map bv) := Own.app (L2 := l ++ [128] ++ List.replicate (zlen (l.length + 1)) 0 ++ [UInt8.ofNat ((8 * l.length) / 2 ^ 56)]) ownx (by first | rfl | simp) (by first | rfl | (simp; done) | (simp; omega))
  clear ownx g hb hlo sepo
  clear m34 lt35 zs36
  replace sep := sep.sub (l' := [ad37.map (·.block),some (h.size)]) (.cons _ (.cons_cons _ (.cons_cons _ (.slnil))))
  refine sP 9 [.slice ad37 (((l ++ [128] ++ List.replicate (zlen (l.length + 1)) 0).length) + 1) cap38] ?_
  refine sD [(2,pV h.size),(3,.slice ad37 (((l ++ [128] ++ List.replicate (zlen (l.length + 1)) 0).length) + 1) cap38),(4,.int .u64 ((8 * l.length : Nat) : Int)),(5,.int .i64 7)] ?_
  clear hF a; intro a hF
  have hcan : (((l ++ [128] ++ List.replicate (zlen (l.length + 1)) 0).length) + 1 : Nat) = (l ++ [128] ++ List.replicate (zlen (l.length + 1)) 0 ++ [UInt8.ofNat ((8 * l.length) / 2 ^ 56)]).length := by first | (simp; done) | (simp; omega)
  rw [hcan] at hF; clear hcan
  show C Tryd.prog (sub b26 [1,1,1,1,1,0,1,0,0,1,1]) _ a h39
  refine cP 8 hF ?_
  refine sP 3 [.int .i64 7,.int .i64 6,.int .i64 6] ?_
  refine sD [(2,pV h.size),(3,.slice ad37 ((l ++ [128] ++ List.replicate (zlen (l.length + 1)) 0 ++ [UInt8.ofNat ((8 * l.length) / 2 ^ 56)]).length) cap38),(4,.int .u64 ((8 * l.length : Nat) : Int)),(5,.int .i64 6)] ?_
  clear hF a; intro a hF
  show Crounds _ _ _ _ 8 a h39
  refine Cround.step ?_
  refine cS ?_
  refine cS ?_
  refine cP 7 hF ?_
  refine sP 2 [.int .i64 6,.bool true] ?_
  refine sD [(2,pV h.size),(3,.slice ad37 ((l ++ [128] ++ List.replicate (zlen (l.length + 1)) 0 ++ [UInt8.ofNat ((8 * l.length) / 2 ^ 56)]).length) cap38),(4,.int .u64 ((8 * l.length : Nat) : Int)),(5,.int .i64 6),(28,.bool true)] ?_
  clear hF a; intro a hF
  refine tK ?_
  refine cT 28 hF ?_
  refine cN ?_
  refine tK ?_
  refine cS ?_
  refine cB 3 ?_
  refine cP 9 hF ?_
  refine sP 4 [.slice ad37 ((l ++ [128] ++ List.replicate (zlen (l.length + 1)) 0 ++ [UInt8.ofNat ((8 * l.length) / 2 ^ 56)]).length) cap38,.int .u64 ((8 * l.length : Nat) : Int),.int .i64 6,.int .i64 48] ?_
  refine s1 5 (.int .u64 (((8 * l.length) / 2 ^ 48 : Nat) : Int)) (.int .u64 (Int.fdiv ((8 * l.length : Nat) : Int) (2 ^ 48))) (congrArg (Value.int .u64) (fdivN (8 * l.length) 48)) ?_
  refine s1 6 (bv (UInt8.ofNat ((8 * l.length) / 2 ^ 48))) (.int .u8 (IntKind.u8.wrap (((8 * l.length) / 2 ^ 48 : Nat) : Int))) (conv64 _) ?_
  refine SeqK.eff (k' := 7) (Does.new (v := .slice (some ⟨h39.size,0,none⟩) 1 1) (o := .cells #[bv (UInt8.ofNat ((8 * l.length) / 2 ^ 48))] 5) (by kernel_rfl)) rfl ?_
  rintro _ h40 ⟨rfl,hh⟩
  have g41 : Ext h39 h40 := push_ext hh
  have m42 : h40[h39.size]? = some (.cells #[bv (UInt8.ofNat ((8 * l.length) / 2 ^ 48))] 5) := push_at hh
  clear hh
  have lt43 := blk_lt m42
  have zs44 := e0.size
  have hlo := e0.size
  have sepo := sep
  replace e0 := e0.ext g41
  replace own_t := own_t.ext g41
  replace m3 := Ext.blk g41 m3
  replace sep := sep.up g41.size
  replace sep := sepo.new hlo (blk_lt m42)
  clear sepo hlo
  refine SeqK.eff (k' := 8) (Does.append2 (t := 22) (E := 5) (sz := 1) (by_ := 1) (n := (l ++ [128] ++ List.replicate (zlen (l.length + 1)) 0 ++ [UInt8.ofNat ((8 * l.length) / 2 ^ 56)]).length) (m := 1) (v := .slice ad37 ((l ++ [128] ++ List.replicate (zlen (l.length + 1)) 0 ++ [UInt8.ofNat ((8 * l.length) / 2 ^ 56)]).length) cap38) (x := .slice (some ⟨h39.size,0,none⟩) 1 1) (xs := ((l ++ [128] ++ List.replicate (zlen (l.length + 1)) 0 ++ [UInt8.ofNat ((8 * l.length) / 2 ^ 56)]).map bv)) (ys := (([UInt8.ofNat ((8 * l.length) / 2 ^ 48)]).map bv)) (by kernel_rfl) (by kernel_rfl) own_t (Row.blk (l := [bv (UInt8.ofNat ((8 * l.length) / 2 ^ 48))]) m42 rfl) (ones_map _) (by unfold maxLen; first | omega | (simp only [List.length_append,List.length_cons,List.length_nil,List.length_replicate,zlen]; omega)) (by first | omega | (simp only [List.length_append,List.length_cons,List.length_nil,List.length_replicate,zlen]; omega))) rfl ?_
  rintro _ h47 ⟨ad45,cap46,rfl,ownx,g,hb⟩
  rw [blkOf_slice] at g hb
  have hlo := e0.size
  have sepo := sep
  replace e0 := e0.grew g (sep.low 1 rfl)
  replace m3 := Grew.blk g m3 ((sep.bp 2 1))
  replace m42 := Grew.blk g m42 ((sep.bp 0 1))
  replace sep := sep.up g.size
  replace sep : Sep h.size h47.size [some (h39.size),ad45.map (·.block),some (h.size)] := sepo.set g.size hlo 1 (y := ad45.map (fun (x : Addr) => x.block)) rfl (hb.imp id fun e => .inr ⟨_,e,Nat.le_refl _⟩) (fun k e => ownx.lt (by rw [blkOf_slice]; exact e))
  replace own_t : Own h47 (.slice ad45 ((l ++ [128] ++ List.replicate (zlen (l.length + 1)) 0 ++ [UInt8.ofNat ((8 * l.length) / 2 ^ 56)] ++ [UInt8.ofNat ((8 * l.length) / 2 ^ 48)]).length) cap46) 5 ((l ++ [128] ++ List.replicate (zlen (l.length + 1)) 0 ++ [UInt8.ofNat ((8 * l.length) / 2 ^ 56)] ++ [UInt8.ofNat ((8 * l.length) / 2 ^ 48)]).length) 1 ((l ++ [128] ++ List.replicate (zlen (l.length + 1)) 0 ++ [UInt8.ofNat ((8 * l.length) / 2 ^ 56)] ++ [UInt8.ofNat ((8 * l.length) / 2 ^ 48)]).map bv) := Own.app (L2 := l ++ [128] ++ List.replicate (zlen (l.length + 1)) 0 ++ [UInt8.ofNat ((8 * l.length) / 2 ^ 56)] ++ [UInt8.ofNat ((8 * l.length) / 2 ^ 48)]) ownx (by first | rfl | simp) (by first | rfl | (simp; done) | (simp; omega))
  clear ownx g hb hlo sepo
  clear m42 lt43 zs44
  replace sep := sep.sub (l' := [ad45.map (·.block),some (h.size)]) (.cons _ (.cons_cons _ (.cons_cons _ (.slnil))))
  refine sP 9 [.slice ad45 (((l ++ [128] ++ List.replicate (zlen (l.length + 1)) 0 ++ [UInt8.ofNat ((8 * l.length) / 2 ^ 56)]).length) + 1) cap46] ?_
  refine sD [(2,pV h.size),(3,.slice ad45 (((l ++ [128] ++ List.replicate (zlen (l.length + 1)) 0 ++ [UInt8.ofNat ((8 * l.length) / 2 ^ 56)]).length) + 1) cap46),(4,.int .u64 ((8 * l.length : Nat) : Int)),(5,.int .i64 6)] ?_
  clear hF a; intro a hF
  have hcan : (((l ++ [128] ++ List.replicate (zlen (l.length + 1)) 0 ++ [UInt8.ofNat ((8 * l.length) / 2 ^ 56)]).length) + 1 : Nat) = (l ++ [128] ++ List.replicate (zlen (l.length + 1)) 0 ++ [UInt8.ofNat ((8 * l.length) / 2 ^ 56)] ++ [UInt8.ofNat ((8 * l.length) / 2 ^ 48)]).length := by first | (simp; done) | (simp; omega)
  rw [hcan] at hF; clear hcan
  show C Tryd.prog (sub b26 [1,1,1,1,1,0,1,0,0,1,1]) _ a h47
  refine cP 8 hF ?_
  refine sP 3 [.int .i64 6,.int .i64 5,.int .i64 5] ?_
  refine sD [(2,pV h.size),(3,.slice ad45 ((l ++ [128] ++ List.replicate (zlen (l.length + 1)) 0 ++ [UInt8.ofNat ((8 * l.length) / 2 ^ 56)] ++ [UInt8.ofNat ((8 * l.length) / 2 ^ 48)]).length) cap46),(4,.int .u64 ((8 * l.length : Nat) : Int)),(5,.int .i64 5)] ?_
  clear hF a; intro a hF
  show Crounds _ _ _ _ 7 a h47
  refine Cround.step ?_
  refine cS ?_
  refine cS ?_
  refine cP 7 hF ?_
  refine sP 2 [.int .i64 5,.bool true] ?_
  refine sD [(2,pV h.size),(3,.slice ad45 ((l ++ [128] ++ List.replicate (zlen (l.length + 1)) 0 ++ [UInt8.ofNat ((8 * l.length) / 2 ^ 56)] ++ [UInt8.ofNat ((8 * l.length) / 2 ^ 48)]).length) cap46),(4,.int .u64 ((8 * l.length : Nat) : Int)),(5,.int .i64 5),(28,.bool true)] ?_
  clear hF a; intro a hF
  refine tK ?_
  refine cT 28 hF ?_
  refine cN ?_
  refine tK ?_
  refine cS ?_
  refine cB 3 ?_
  refine cP 9 hF ?_
  refine sP 4 [.slice ad45 ((l ++ [128] ++ List.replicate (zlen (l.length + 1)) 0 ++ [UInt8.ofNat ((8 * l.length) / 2 ^ 56)] ++ [UInt8.ofNat ((8 * l.length) / 2 ^ 48)]).length) cap46,.int .u64 ((8 * l.length : Nat) : Int),.int .i64 5,.int .i64 40] ?_
  refine s1 5 (.int .u64 (((8 * l.length) / 2 ^ 40 : Nat) : Int)) (.int .u64 (Int.fdiv ((8 * l.length : Nat) : Int) (2 ^ 40))) (congrArg (Value.int .u64) (fdivN (8 * l.length) 40)) ?_
  refine s1 6 (bv (UInt8.ofNat ((8 * l.length) / 2 ^ 40))) (.int .u8 (IntKind.u8.wrap (((8 * l.length) / 2 ^ 40 : Nat) : Int))) (conv64 _) ?_
  refine SeqK.eff (k' := 7) (Does.new (v := .slice (some ⟨h47.size,0,none⟩) 1 1) (o := .cells #[bv (UInt8.ofNat ((8 * l.length) / 2 ^ 40))] 5) (by kernel_rfl)) rfl ?_
  rintro _ h48 ⟨rfl,hh⟩
  have g49 : Ext h47 h48 := push_ext hh
  have m50 : h48[h47.size]? = some (.cells #[bv (UInt8.ofNat ((8 * l.length) / 2 ^ 40))] 5) := push_at hh
  clear hh
  have lt51 := blk_lt m50
  have zs52 := e0.size
  have hlo := e0.size
  have sepo := sep
  replace e0 := e0.ext g49
  replace own_t := own_t.ext g49
  replace m3 := Ext.blk g49 m3
  replace sep := sep.up g49.size
  replace sep := sepo.new hlo (blk_lt m50)
  clear sepo hlo
  refine SeqK.eff (k' := 8) (Does.append2 (t := 22) (E := 5) (sz := 1) (by_ := 1) (n := (l ++ [128] ++ List.replicate (zlen (l.length + 1)) 0 ++ [UInt8.ofNat ((8 * l.length) / 2 ^ 56)] ++ [UInt8.ofNat ((8 * l.length) / 2 ^ 48)]).length) (m := 1) (v := .slice ad45 ((l ++ [128] ++ List.replicate (zlen (l.length + 1)) 0 ++ [UInt8.ofNat ((8 * l.length) / 2 ^ 56)] ++ [UInt8.ofNat ((8 * l.length) / 2 ^ 48)]).length) cap46) (x := .slice (some ⟨h47.size,0,none⟩) 1 1) (xs := ((l ++ [128] ++ List.replicate (zlen (l.length + 1)) 0 ++ [UInt8.ofNat ((8 * l.length) / 2 ^ 56)] ++ [UInt8.ofNat ((8 * l.length) / 2 ^ 48)]).map bv)) (ys := (([UInt8.ofNat ((8 * l.length) / 2 ^ 40)]).map bv)) (by kernel_rfl) (by kernel_rfl) own_t (Row.blk (l := [bv (UInt8.ofNat ((8 * l.length) / 2 ^ 40))]) m50 rfl) (ones_map _) (by unfold maxLen; first | omega | (simp only [List.length_append,List.length_cons,List.length_nil,List.length_replicate,zlen]; omega)) (by first | omega | (simp only [List.length_append,List.length_cons,List.length_nil,List.length_replicate,zlen]; omega))) rfl ?_
  rintro _ h55 ⟨ad53,cap54,rfl,ownx,g,hb⟩
  rw [blkOf_slice] at g hb
  have hlo := e0.size
  have sepo := sep
  replace e0 := e0.grew g (sep.low 1 rfl)
  replace m3 := Grew.blk g m3 ((sep.bp 2 1))
  replace m50 := Grew.blk g m50 ((sep.bp 0 1))
  replace sep := sep.up g.size
  replace sep : Sep h.size h55.size [some (h47.size),ad53.map (·.block),some (h.size)] := sepo.set g.size hlo 1 (y := ad53.map (fun (x : Addr) => x.block)) rfl (hb.imp id fun e => .inr ⟨_,e,Nat.le_refl _⟩) (fun k e => ownx.lt (by rw [blkOf_slice]; exact e))
  replace own_t : Own h55 (.slice ad53 ((l ++ [128] ++ List.replicate (zlen (l.length + 1)) 0 ++ [UInt8.ofNat ((8 * l.length) / 2 ^ 56)] ++ [UInt8.ofNat ((8 * l.length) / 2 ^ 48)] ++ [UInt8.ofNat ((8 * l.length) / 2 ^ 40)]).length) cap54) 5 ((l ++ [128] ++ List.replicate (zlen (l.length + 1)) 0 ++ [UInt8.ofNat ((8 * l.length) / 2 ^ 56)] ++ [UInt8.ofNat ((8 * l.length) / 2 ^ 48)] ++ [UInt8.ofNat ((8 * l.length) / 2 ^ 40)]).length) 1 ((l ++ [128] ++ List.replicate (zlen (l.length + 1)) 0 ++ [UInt8.ofNat ((8 * l.length) / 2 ^ 56)] ++ [UInt8.ofNat ((8 * l.length) / 2 ^ 48)] ++ [UInt8.ofNat ((8 * l.length) / 2 ^ 40)]).map bv) := Own.app (L2 := l ++ [128] ++ List.replicate (zlen (l.length + 1)) 0 ++ [UInt8.ofNat ((8 * l.length) / 2 ^ 56)] ++ [UInt8.ofNat ((8 * l.length) / 2 ^ 48)] ++ [UInt8.ofNat ((8 * l.length) / 2 ^ 40)]) ownx (by first | rfl | simp) (by first | rfl | (simp; done) | (simp; omega))
  clear ownx g hb hlo sepo
  clear m50 lt51 zs52
  replace sep := sep.sub (l' := [ad53.map (·.block),some (h.size)]) (.cons _ (.cons_cons _ (.cons_cons _ (.slnil))))
  refine sP 9 [.slice ad53 (((l ++ [128] ++ List.replicate (zlen (l.length + 1)) 0 ++ [UInt8.ofNat ((8 * l.length) / 2 ^ 56)] ++ [UInt8.ofNat ((8 * l.length) / 2 ^ 48)]).length) + 1) cap54] ?_
  refine sD [(2,pV h.size),(3,.slice ad53 (((l ++ [128] ++ List.replicate (zlen (l.length + 1)) 0 ++ [UInt8.ofNat ((8 * l.length) / 2 ^ 56)] ++ [UInt8.ofNat ((8 * l.length) / 2 ^ 48)]).length) + 1) cap54),(4,.int .u64 ((8 * l.length : Nat) : Int)),(5,.int .i64 5)] ?_
  clear hF a; intro a hF
  have hcan : (((l ++ [128] ++ List.replicate (zlen (l.length + 1)) 0 ++ [UInt8.ofNat ((8 * l.length) / 2 ^ 56)] ++ [UInt8.ofNat ((8 * l.length) / 2 ^ 48)]).length) + 1 : Nat) = (l ++ [128] ++ List.replicate (zlen (l.length + 1)) 0 ++ [UInt8.ofNat ((8 * l.length) / 2 ^ 56)] ++ [UInt8.ofNat ((8 * l.length) / 2 ^ 48)] ++ [UInt8.ofNat ((8 * l.length) / 2 ^ 40)]).length := by first | (simp; done) | (simp; omega)
  rw [hcan] at hF; clear hcan
  show C Tryd.prog (sub b26 [1,1,1,1,1,0,1,0,0,1,1]) _ a h55
  refine cP 8 hF ?_
  refine sP 3 [.int .i64 5,.int .i64 4,.int .i64 4] ?_
  refine sD [(2,pV h.size),(3,.slice ad53 ((l ++ [128] ++ List.replicate (zlen (l.length + 1)) 0 ++ [UInt8.ofNat ((8 * l.length) / 2 ^ 56)] ++ [UInt8.ofNat ((8 * l.length) / 2 ^ 48)] ++ [UInt8.ofNat ((8 * l.length) / 2 ^ 40)]).length) cap54),(4,.int .u64 ((8 * l.length : Nat) : Int)),(5,.int .i64 4)] ?_
  clear hF a; intro a hF
  show Crounds _ _ _ _ 6 a h55
  refine Cround.step ?_
  refine cS ?_
  refine cS ?_
  refine cP 7 hF ?_
  refine sP 2 [.int .i64 4,.bool true] ?_
  refine sD [(2,pV h.size),(3,.slice ad53 ((l ++ [128] ++ List.replicate (zlen (l.length + 1)) 0 ++ [UInt8.ofNat ((8 * l.length) / 2 ^ 56)] ++ [UInt8.ofNat ((8 * l.length) / 2 ^ 48)] ++ [UInt8.ofNat ((8 * l.length) / 2 ^ 40)]).length) cap54),(4,.int .u64 ((8 * l.length : Nat) : Int)),(5,.int .i64 4),(28,.bool true)] ?_
  clear hF a; intro a hF
  refine tK ?_
  refine cT 28 hF ?_
  refine cN ?_
  refine tK ?_
  refine cS ?_
  refine cB 3 ?_
  refine cP 9 hF ?_
  refine sP 4 [.slice ad53 ((l ++ [128] ++ List.replicate (zlen (l.length + 1)) 0 ++ [UInt8.ofNat ((8 * l.length) / 2 ^ 56)] ++ [UInt8.ofNat ((8 * l.length) / 2 ^ 48)] ++ [UInt8.ofNat ((8 * l.length) / 2 ^ 40)]).length) cap54,.int .u64 ((8 * l.length : Nat) : Int),.int .i64 4,.int .i64 32] ?_
  refine s1 5 (.int .u64 (((8 * l.length) / 2 ^ 32 : Nat) : Int)) (.int .u64 (Int.fdiv ((8 * l.length : Nat) : Int) (2 ^ 32))) (congrArg (Value.int .u64) (fdivN (8 * l.length) 32)) ?_
  refine s1 6 (bv (UInt8.ofNat ((8 * l.length) / 2 ^ 32))) (.int .u8 (IntKind.u8.wrap (((8 * l.length) / 2 ^ 32 : Nat) : Int))) (conv64 _) ?_
  refine SeqK.eff (k' := 7) (Does.new (v := .slice (some ⟨h55.size,0,none⟩) 1 1) (o := .cells #[bv (UInt8.ofNat ((8 * l.length) / 2 ^ 32))] 5) (by kernel_rfl)) rfl ?_
  rintro _ h56 ⟨rfl,hh⟩
  have g57 : Ext h55 h56 := push_ext hh
  have m58 : h56[h55.size]? = some (.cells #[bv (UInt8.ofNat ((8 * l.length) / 2 ^ 32))] 5) := push_at hh
  clear hh
  have lt59 := blk_lt m58
  have zs60 := e0.size
  have hlo := e0.size
  have sepo := sep
  replace e0 := e0.ext g57
  replace own_t := own_t.ext g57
  replace m3 := Ext.blk g57 m3
  replace sep := sep.up g57.size
  replace sep := sepo.new hlo (blk_lt m58)
  clear sepo hlo
  refine SeqK.eff (k' := 8) (Does.append2 (t := 22) (E := 5) (sz := 1) (by_ := 1) (n := (l ++ [128] ++ List.replicate (zlen (l.length + 1)) 0 ++ [UInt8.ofNat ((8 * l.length) / 2 ^ 56)] ++ [UInt8.ofNat ((8 * l.length) / 2 ^ 48)] ++ [UInt8.ofNat ((8 * l.length) / 2 ^ 40)]).length) (m := 1) (v := .slice ad53 ((l ++ [128] ++ List.replicate (zlen (l.length + 1)) 0 ++ [UInt8.ofNat ((8 * l.length) / 2 ^ 56)] ++ [UInt8.ofNat ((8 * l.length) / 2 ^ 48)] ++ [UInt8.ofNat ((8 * l.length) / 2 ^ 40)]).length) cap54) (x := .slice (some ⟨h55.size,0,none⟩) 1 1) (xs := ((l ++ [128] ++ List.replicate (zlen (l.length + 1)) 0 ++ [UInt8.ofNat ((8 * l.length) / 2 ^ 56)] ++ [UInt8.ofNat ((8 * l.length) / 2 ^ 48)] ++ [UInt8.ofNat ((8 * l.length) / 2 ^ 40)]).map bv)) (ys := (([UInt8.ofNat ((8 * l.length) / 2 ^ 32)]).map bv)) (by kernel_rfl) (by kernel_rfl) own_t (Row.blk (l := [bv (UInt8.ofNat ((8 * l.length) / 2 ^ 32))]) m58 rfl) (ones_map _) (by unfold maxLen; first | omega | (simp only [List.length_append,List.length_cons,List.length_nil,List.length_replicate,zlen]; omega)) (by first | omega | (simp only [List.length_append,List.length_cons,List.length_nil,List.length_replicate,zlen]; omega))) rfl ?_
  rintro _ h63 ⟨ad61,cap62,rfl,ownx,g,hb⟩
  rw [blkOf_slice] at g hb
  have hlo := e0.size
  have sepo := sep
  replace e0 := e0.grew g (sep.low 1 rfl)
  replace m3 := Grew.blk g m3 ((sep.bp 2 1))
  replace m58 := Grew.blk g m58 ((sep.bp 0 1))
  replace sep := sep.up g.size
  replace sep : Sep h.size h63.size [some (h55.size),ad61.map (·.block),some (h.size)] := sepo.set g.size hlo 1 (y := ad61.map (fun (x : Addr) => x.block)) rfl (hb.imp id fun e => .inr ⟨_,e,Nat.le_refl _⟩) (fun k e => ownx.lt (by rw [blkOf_slice]; exact e))
  replace own_t : Own h63 (.slice ad61 ((l ++ [128] ++ List.replicate (zlen (l.length + 1)) 0 ++ [UInt8.ofNat ((8 * l.length) / 2 ^ 56)] ++ [UInt8.ofNat ((8 * l.length) / 2 ^ 48)] ++ [UInt8.ofNat ((8 * l.length) / 2 ^ 40)] ++ [UInt8.ofNat ((8 * l.length) / 2 ^ 32)]).length) cap62) 5 ((l ++ [128] ++ List.replicate (zlen (l.length + 1)) 0 ++ [UInt8.ofNat ((8 * l.length) / 2 ^ 56)] ++ [UInt8.ofNat ((8 * l.length) / 2 ^ 48)] ++ [UInt8.ofNat ((8 * l.length) / 2 ^ 40)] ++ [UInt8.ofNat ((8 * l.length) / 2 ^ 32)]).length) 1 ((l ++ [128] ++ List.replicate (zlen (l.length + 1)) 0 ++ [UInt8.ofNat ((8 * l.length) / 2 ^ 56)] ++ [UInt8.ofNat ((8 * l.length) / 2 ^ 48)] ++ [UInt8.ofNat ((8 * l.length) / 2 ^ 40)] ++ [UInt8.ofNat ((8 * l.length) / 2 ^ 32)]).map bv) := Own.app (L2 := l ++ [128] ++ List.replicate (zlen (l.length + 1)) 0 ++ [UInt8.ofNat ((8 * l.length) / 2 ^ 56)] ++ [UInt8.ofNat ((8 * l.length) / 2 ^ 48)] ++ [UInt8.ofNat ((8 * l.length) / 2 ^ 40)] ++ [UInt8.ofNat ((8 * l.length) / 2 ^ 32)]) ownx (by first | rfl | simp) (by first | rfl | (simp; done) | (simp; omega))
  clear ownx g hb hlo sepo
  clear m58 lt59 zs60
  replace sep := sep.sub (l' := [ad61.map (·.block),some (h.size)]) (.cons _ (.cons_cons _ (.cons_cons _ (.slnil))))
  refine sP 9 [.slice ad61 (((l ++ [128] ++ List.replicate (zlen (l.length + 1)) 0 ++ [UInt8.ofNat ((8 * l.length) / 2 ^ 56)] ++ [UInt8.ofNat ((8 * l.length) / 2 ^ 48)] ++ [UInt8.ofNat ((8 * l.length) / 2 ^ 40)]).length) + 1) cap62] ?_
  refine sD [(2,pV h.size),(3,.slice ad61 (((l ++ [128] ++ List.replicate (zlen (l.length + 1)) 0 ++ [UInt8.ofNat ((8 * l.length) / 2 ^ 56)] ++ [UInt8.ofNat ((8 * l.length) / 2 ^ 48)] ++ [UInt8.ofNat ((8 * l.length) / 2 ^ 40)]).length) + 1) cap62),(4,.int .u64 ((8 * l.length : Nat) : Int)),(5,.int .i64 4)] ?_
  clear hF a; intro a hF
  have hcan : (((l ++ [128] ++ List.replicate (zlen (l.length + 1)) 0 ++ [UInt8.ofNat ((8 * l.length) / 2 ^ 56)] ++ [UInt8.ofNat ((8 * l.length) / 2 ^ 48)] ++ [UInt8.ofNat ((8 * l.length) / 2 ^ 40)]).length) + 1 : Nat) = (l ++ [128] ++ List.replicate (zlen (l.length + 1)) 0 ++ [UInt8.ofNat ((8 * l.length) / 2 ^ 56)] ++ [UInt8.ofNat ((8 * l.length) / 2 ^ 48)] ++ [UInt8.ofNat ((8 * l.length) / 2 ^ 40)] ++ [UInt8.ofNat ((8 * l.length) / 2 ^ 32)]).length := by first | (simp; done) | (simp; omega)
  rw [hcan] at hF; clear hcan
  show C Tryd.prog (sub b26 [1,1,1,1,1,0,1,0,0,1,1]) _ a h63
  refine cP 8 hF ?_
  refine sP 3 [.int .i64 4,.int .i64 3,.int .i64 3] ?_
  refine sD [(2,pV h.size),(3,.slice ad61 ((l ++ [128] ++ List.replicate (zlen (l.length + 1)) 0 ++ [UInt8.ofNat ((8 * l.length) / 2 ^ 56)] ++ [UInt8.ofNat ((8 * l.length) / 2 ^ 48)] ++ [UInt8.ofNat ((8 * l.length) / 2 ^ 40)] ++ [UInt8.ofNat ((8 * l.length) / 2 ^ 32)]).length) cap62),(4,.int .u64 ((8 * l.length : Nat) : Int)),(5,.int .i64 3)] ?_
  clear hF a; intro a hF
  show Crounds _ _ _ _ 5 a h63
  refine Cround.step ?_
  refine cS ?_
  refine cS ?_
  refine cP 7 hF ?_
  refine sP 2 [.int .i64 3,.bool true] ?_
  refine sD [(2,pV h.size),(3,.slice ad61 ((l ++ [128] ++ List.replicate (zlen (l.length + 1)) 0 ++ [UInt8.ofNat ((8 * l.length) / 2 ^ 56)] ++ [UInt8.ofNat ((8 * l.length) / 2 ^ 48)] ++ [UInt8.ofNat ((8 * l.length) / 2 ^ 40)] ++ [UInt8.ofNat ((8 * l.length) / 2 ^ 32)]).length) cap62),(4,.int .u64 ((8 * l.length : Nat) : Int)),(5,.int .i64 3),(28,.bool true)] ?_
  clear hF a; intro a hF
  refine tK ?_
  refine cT 28 hF ?_
  refine cN ?_
  refine tK ?_
  refine cS ?_
  refine cB 3 ?_
  refine cP 9 hF ?_
  refine sP 4 [.slice ad61 ((l ++ [128] ++ List.replicate (zlen (l.length + 1)) 0 ++ [UInt8.ofNat ((8 * l.length) / 2 ^ 56)] ++ [UInt8.ofNat ((8 * l.length) / 2 ^ 48)] ++ [UInt8.ofNat ((8 * l.length) / 2 ^ 40)] ++ [UInt8.ofNat ((8 * l.length) / 2 ^ 32)]).length) cap62,.int .u64 ((8 * l.length : Nat) : Int),.int .i64 3,.int .i64 24] ?_
  refine s1 5 (.int .u64 (((8 * l.length) / 2 ^ 24 : Nat) : Int)) (.int .u64 (Int.fdiv ((8 * l.length : Nat) : Int) (2 ^ 24))) (congrArg (Value.int .u64) (fdivN (8 * l.length) 24)) ?_
  refine s1 6 (bv (UInt8.ofNat ((8 * l.length) / 2 ^ 24))) (.int .u8 (IntKind.u8.wrap (((8 * l.length) / 2 ^ 24 : Nat) : Int))) (conv64 _) ?_
  refine SeqK.eff (k' := 7) (Does.new (v := .slice (some ⟨h63.size,0,none⟩) 1 1) (o := .cells #[bv (UInt8.ofNat ((8 * l.length) / 2 ^ 24))] 5) (by kernel_rfl)) rfl ?_
  rintro _ h64 ⟨rfl,hh⟩
  have g65 : Ext h63 h64 := push_ext hh
  have m66 : h64[h63.size]? = some (.cells #[bv (UInt8.ofNat ((8 * l.length) / 2 ^ 24))] 5) := push_at hh
  clear hh
  have lt67 := blk_lt m66
  have zs68 := e0.size
  have hlo := e0.size
  have sepo := sep
  replace e0 := e0.ext g65
  replace own_t := own_t.ext g65
  replace m3 := Ext.blk g65 m3
  replace sep := sep.up g65.size
  replace sep := sepo.new hlo (blk_lt m66)
  clear sepo hlo
  refine SeqK.eff (k' := 8) (Does.append2 (t := 22) (E := 5) (sz := 1) (by_ := 1) (n := (l ++ [128] ++ List.replicate (zlen (l.length + 1)) 0 ++ [UInt8.ofNat ((8 * l.length) / 2 ^ 56)] ++ [UInt8.ofNat ((8 * l.length) / 2 ^ 48)] ++ [UInt8.ofNat ((8 * l.length) / 2 ^ 40)] ++ [UInt8.ofNat ((8 * l.length) / 2 ^ 32)]).length) (m := 1) (v := .slice ad61 ((l ++ [128] ++ List.replicate (zlen (l.length + 1)) 0 ++ [UInt8.ofNat ((8 * l.length) / 2 ^ 56)] ++ [UInt8.ofNat ((8 * l.length) / 2 ^ 48)] ++ [UInt8.ofNat ((8 * l.length) / 2 ^ 40)] ++ [UInt8.ofNat ((8 * l.length) / 2 ^ 32)]).length) cap62) (x := .slice (some ⟨h63.size,0,none⟩) 1 1) (xs := ((l ++ [128] ++ List.replicate (zlen (l.length + 1)) 0 ++ [UInt8.ofNat ((8 * l.length) / 2 ^ 56)] ++ [UInt8.ofNat ((8 * l.length) / 2 ^ 48)] ++ [UInt8.ofNat ((8 * l.length) / 2 ^ 40)] ++ [UInt8.ofNat ((8 * l.length) / 2 ^ 32)]).map bv)) (ys := (([UInt8.ofNat ((8 * l.length) / 2 ^ 24)]).map bv)) (by kernel_rfl) (by kernel_rfl) own_t (Row.blk (l := [bv (UInt8.ofNat ((8 * l.length) / 2 ^ 24))]) m66 rfl) (ones_map _) (by unfold maxLen; first | omega | (simp only [List.length_append,List.length_cons,List.length_nil,List.length_replicate,zlen]; omega)) (by first | omega | (simp only [List.length_append,List.length_cons,List.length_nil,List.length_replicate,zlen]; omega))) rfl ?_
  rintro _ h71 ⟨ad69,cap70,rfl,ownx,g,hb⟩
  rw [blkOf_slice] at g hb
  have hlo := e0.size
  have sepo := sep
  replace e0 := e0.grew g (sep.low 1 rfl)
  replace m3 := Grew.blk g m3 ((sep.bp 2 1))
  replace m66 := Grew.blk g m66 ((sep.bp 0 1))
  replace sep := sep.up g.size
  replace sep : Sep h.size h71.size [some (h63.size),ad69.map (·.block),some (h.size)] := sepo.set g.size hlo 1 (y := ad69.map (fun (x : Addr) => x.block)) rfl (hb.imp id fun e => .inr ⟨_,e,Nat.le_refl _⟩) (fun k e => ownx.lt (by rw [blkOf_slice]; exact e))
  replace own_t : Own h71 (.slice ad69 ((l ++ [128] ++ List.replicate (zlen (l.length + 1)) 0 ++ [UInt8.ofNat ((8 * l.length) / 2 ^ 56)] ++ [UInt8.ofNat ((8 * l.length) / 2 ^ 48)] ++ [UInt8.ofNat ((8 * l.length) / 2 ^ 40)] ++ [UInt8.ofNat ((8 * l.length) / 2 ^ 32)] ++ [UInt8.ofNat ((8 * l.length) / 2 ^ 24)]).length) cap70) 5 ((l ++ [128] ++ List.replicate (zlen (l.length + 1)) 0 ++ [UInt8.ofNat ((8 * l.length) / 2 ^ 56)] ++ [UInt8.ofNat ((8 * l.length) / 2 ^ 48)] ++ [UInt8.ofNat ((8 * l.length) / 2 ^ 40)] ++ [UInt8.ofNat ((8 * l.length) / 2 ^ 32)] ++ [UInt8.ofNat ((8 * l.length) / 2 ^ 24)]).length) 1 ((l ++ [128] ++ List.replicate (zlen (l.length + 1)) 0 ++ [UInt8.ofNat ((8 * l.length) / 2 ^ 56)] ++ [UInt8.ofNat ((8 * l.length) / 2 ^ 48)] ++ [UInt8.ofNat ((8 * l.length) / 2 ^ 40)] ++ [UInt8.ofNat ((8 * l.length) / 2 ^ 32)] ++ [UInt8.ofNat ((8 * l.length) / 2 ^ 24)]).map bv) := Own.app (L2 := l ++ [128] ++ List.replicate (zlen (l.length + 1)) 0 ++ [UInt8.ofNat ((8 * l.length) / 2 ^ 56)] ++ [UInt8.ofNat ((8 * l.length) / 2 ^ 48)] ++ [UInt8.ofNat ((8 * l.length) / 2 ^ 40)] ++ [UInt8.ofNat ((8 * l.length) / 2 ^ 32)] ++ [UInt8.ofNat ((8 * l.length) / 2 ^ 24)]) ownx (by first | rfl | simp) (by first | rfl | (simp; done) | (simp; omega))
  clear ownx g hb hlo sepo
  clear m66 lt67 zs68
  replace sep := sep.sub (l' := [ad69.map (·.block),some (h.size)]) (.cons _ (.cons_cons _ (.cons_cons _ (.slnil))))
  refine sP 9 [.slice ad69 (((l ++ [128] ++ List.replicate (zlen (l.length + 1)) 0 ++ [UInt8.ofNat ((8 * l.length) / 2 ^ 56)] ++ [UInt8.ofNat ((8 * l.length) / 2 ^ 48)] ++ [UInt8.ofNat ((8 * l.length) / 2 ^ 40)] ++ [UInt8.ofNat ((8 * l.length) / 2 ^ 32)]).length) + 1) cap70] ?_
  refine sD [(2,pV h.size),(3,.slice ad69 (((l ++ [128] ++ List.replicate (zlen (l.length + 1)) 0 ++ [UInt8.ofNat ((8 * l.length) / 2 ^ 56)] ++ [UInt8.ofNat ((8 * l.length) / 2 ^ 48)] ++ [UInt8.ofNat ((8 * l.length) / 2 ^ 40)] ++ [UInt8.ofNat ((8 * l.length) / 2 ^ 32)]).length) + 1) cap70),(4,.int .u64 ((8 * l.length : Nat) : Int)),(5,.int .i64 3)] ?_
  clear hF a; intro a hF
  have hcan : (((l ++ [128] ++ List.replicate (zlen (l.length + 1)) 0 ++ [UInt8.ofNat ((8 * l.length) / 2 ^ 56)] ++ [UInt8.ofNat ((8 * l.length) / 2 ^ 48)] ++ [UInt8.ofNat ((8 * l.length) / 2 ^ 40)] ++ [UInt8.ofNat ((8 * l.length) / 2 ^ 32)]).length) + 1 : Nat) = (l ++ [128] ++ List.replicate (zlen (l.length + 1)) 0 ++ [UInt8.ofNat ((8 * l.length) / 2 ^ 56)] ++ [UInt8.ofNat ((8 * l.length) / 2 ^ 48)] ++ [UInt8.ofNat ((8 * l.length) / 2 ^ 40)] ++ [UInt8.ofNat ((8 * l.length) / 2 ^ 32)] ++ [UInt8.ofNat ((8 * l.length) / 2 ^ 24)]).length := by first | (simp; done) | (simp; omega)
  rw [hcan] at hF; clear hcan
  show C Tryd.prog (sub b26 [1,1,1,1,1,0,1,0,0,1,1]) _ a h71
  refine cP 8 hF ?_
  refine sP 3 [.int .i64 3,.int .i64 2,.int .i64 2] ?_
  refine sD [(2,pV h.size),(3,.slice ad69 ((l ++ [128] ++ List.replicate (zlen (l.length + 1)) 0 ++ [UInt8.ofNat ((8 * l.length) / 2 ^ 56)] ++ [UInt8.ofNat ((8 * l.length) / 2 ^ 48)] ++ [UInt8.ofNat ((8 * l.length) / 2 ^ 40)] ++ [UInt8.ofNat ((8 * l.length) / 2 ^ 32)] ++ [UInt8.ofNat ((8 * l.length) / 2 ^ 24)]).length) cap70),(4,.int .u64 ((8 * l.length : Nat) : Int)),(5,.int .i64 2)] ?_
  clear hF a; intro a hF
  show Crounds _ _ _ _ 4 a h71
  refine Cround.step ?_
  refine cS ?_
  refine cS ?_
  refine cP 7 hF ?_
  refine sP 2 [.int .i64 2,.bool true] ?_
  refine sD [(2,pV h.size),(3,.slice ad69 ((l ++ [128] ++ List.replicate (zlen (l.length + 1)) 0 ++ [UInt8.ofNat ((8 * l.length) / 2 ^ 56)] ++ [UInt8.ofNat ((8 * l.length) / 2 ^ 48)] ++ [UInt8.ofNat ((8 * l.length) / 2 ^ 40)] ++ [UInt8.ofNat ((8 * l.length) / 2 ^ 32)] ++ [UInt8.ofNat ((8 * l.length) / 2 ^ 24)]).length) cap70),(4,.int .u64 ((8 * l.length : Nat) : Int)),(5,.int .i64 2),(28,.bool true)] ?_
  clear hF a; intro a hF
  refine tK ?_
  refine cT 28 hF ?_
  refine cN ?_
  refine tK ?_
  refine cS ?_
  refine cB 3 ?_
  refine cP 9 hF ?_
  refine sP 4 [.slice ad69 ((l ++ [128] ++ List.replicate (zlen (l.length + 1)) 0 ++ [UInt8.ofNat ((8 * l.length) / 2 ^ 56)] ++ [UInt8.ofNat ((8 * l.length) / 2 ^ 48)] ++ [UInt8.ofNat ((8 * l.length) / 2 ^ 40)] ++ [UInt8.ofNat ((8 * l.length) / 2 ^ 32)] ++ [UInt8.ofNat ((8 * l.length) / 2 ^ 24)]).length) cap70,.int .u64 ((8 * l.length : Nat) : Int),.int .i64 2,.int .i64 16] ?_
  refine s1 5 (.int .u64 (((8 * l.length) / 2 ^ 16 : Nat) : Int)) (.int .u64 (Int.fdiv ((8 * l.length : Nat) : Int) (2 ^ 16))) (congrArg (Value.int .u64) (fdivN (8 * l.length) 16)) ?_
  refine s1 6 (bv (UInt8.ofNat ((8 * l.length) / 2 ^ 16))) (.int .u8 (IntKind.u8.wrap (((8 * l.length) / 2 ^ 16 : Nat) : Int))) (conv64 _) ?_
  refine SeqK.eff (k' := 7) (Does.new (v := .slice (some ⟨h71.size,0,none⟩) 1 1) (o := .cells #[bv (UInt8.ofNat ((8 * l.length) / 2 ^ 16))] 5) (by kernel_rfl)) rfl ?_
  rintro _ h72 ⟨rfl,hh⟩
  have g73 : Ext h71 h72 := push_ext hh
  have m74 : h72[h71.size]? = some (.cells #[bv (UInt8.ofNat ((8 * l.length) / 2 ^ 16))] 5) := push_at hh
  clear hh
  have lt75 := blk_lt m74
  have zs76 := e0.size
  have hlo := e0.size
  have sepo := sep
  replace e0 := e0.ext g73
  replace own_t := own_t.ext g73
  replace m3 := Ext.blk g73 m3
  replace sep := sep.up g73.size
  replace sep := sepo.new hlo (blk_lt m74)
  clear sepo hlo
  refine SeqK.eff (k' := 8) (Does.append2 (t := 22) (E := 5) (sz := 1) (by_ := 1) (n := (l ++ [128] ++ List.replicate (zlen (l.length + 1)) 0 ++ [UInt8.ofNat ((8 * l.length) / 2 ^ 56)] ++ [UInt8.ofNat ((8 * l.length) / 2 ^ 48)] ++ [UInt8.ofNat ((8 * l.length) / 2 ^ 40)] ++ [UInt8.ofNat ((8 * l.length) / 2 ^ 32)] ++ [UInt8.ofNat ((8 * l.length) / 2 ^ 24)]).length) (m := 1) (v := .slice ad69 ((l ++ [128] ++ List.replicate (zlen (l.length + 1)) 0 ++ [UInt8.ofNat ((8 * l.length) / 2 ^ 56)] ++ [UInt8.ofNat ((8 * l.length) / 2 ^ 48)] ++ [UInt8.ofNat ((8 * l.length) / 2 ^ 40)] ++ [UInt8.ofNat ((8 * l.length) / 2 ^ 32)] ++ [UInt8.ofNat ((8 * l.length) / 2 ^ 24)]).length) cap70) (x := .slice (some ⟨h71.size,0,none⟩) 1 1) (xs := ((l ++ [128] ++ List.replicate (zlen (l.length + 1)) 0 ++ [UInt8.ofNat ((8 * l.length) / 2 ^ 56)] ++ [UInt8.ofNat ((8 * l.length) / 2 ^ 48)] ++ [UInt8.ofNat ((8 * l.length) / 2 ^ 40)] ++ [UInt8.ofNat ((8 * l.length) / 2 ^ 32)] ++ [UInt8.ofNat ((8 * l.length) / 2 ^ 24)]).map bv)) (ys := (([UInt8.ofNat ((8 * l.length) / 2 ^ 16)]).map bv)) (by kernel_rfl) (by kernel_rfl) own_t (Row.blk (l := [bv (UInt8.ofNat ((8 * l.length) / 2 ^ 16))]) m74 rfl) (ones_map _) (by unfold maxLen; first | omega | (simp only [List.length_append,List.length_cons,List.length_nil,List.length_replicate,zlen]; omega)) (by first | omega | (simp only [List.length_append,List.length_cons,List.length_nil,List.length_replicate,zlen]; omega))) rfl ?_
  rintro _ h79 ⟨ad77,cap78,rfl,ownx,g,hb⟩
  rw [blkOf_slice] at g hb
  have hlo := e0.size
  have sepo := sep
  replace e0 := e0.grew g (sep.low 1 rfl)
  replace m3 := Grew.blk g m3 ((sep.bp 2 1))
  replace m74 := Grew.blk g m74 ((sep.bp 0 1))
  replace sep := sep.up g.size
  replace sep : Sep h.size h79.size [some (h71.size),ad77.map (·.block),some (h.size)] := sepo.set g.size hlo 1 (y := ad77.map (fun (x : Addr) => x.block)) rfl (hb.imp id fun e => .inr ⟨_,e,Nat.le_refl _⟩) (fun k e => ownx.lt (by rw [blkOf_slice]; exact e))
  replace own_t : Own h79 (.slice ad77 ((l ++ [128] ++ List.replicate (zlen (l.length + 1)) 0 ++ [UInt8.ofNat ((8 * l.length) / 2 ^ 56)] ++ [UInt8.ofNat ((8 * l.length) / 2 ^ 48)] ++ [UInt8.ofNat ((8 * l.length) / 2 ^ 40)] ++ [UInt8.ofNat ((8 * l.length) / 2 ^ 32)] ++ [UInt8.ofNat ((8 * l.length) / 2 ^ 24)] ++ [UInt8.ofNat ((8 * l.length) / 2 ^ 16)]).length) cap78) 5 ((l ++ [128] ++ List.replicate (zlen (l.length + 1)) 0 ++ [UInt8.ofNat ((8 * l.length) / 2 ^ 56)] ++ [UInt8.ofNat ((8 * l.length) / 2 ^ 48)] ++ [UInt8.ofNat ((8 * l.length) / 2 ^ 40)] ++ [UInt8.ofNat ((8 * l.length) / 2 ^ 32)] ++ [UInt8.ofNat ((8 * l.length) / 2 ^ 24)] ++ [UInt8.ofNat ((8 * l.length) / 2 ^ 16)]).length) 1 ((l ++ [128] ++ List.replicate (zlen (l.length + 1)) 0 ++ [UInt8.ofNat ((8 * l.length) / 2 ^ 56)] ++ [UInt8.ofNat ((8 * l.length) / 2 ^ 48)] ++ [UInt8.ofNat ((8 * l.length) / 2 ^ 40)] ++ [UInt8.ofNat ((8 * l.length) / 2 ^ 32)] ++ [UInt8.ofNat ((8 * l.length) / 2 ^ 24)] ++ [UInt8.ofNat ((8 * l.length) / 2 ^ 16)]).map bv) := Own.app (L2 := l ++ [128] ++ List.replicate (zlen (l.length + 1)) 0 ++ [UInt8.ofNat ((8 * l.length) / 2 ^ 56)] ++ [UInt8.ofNat ((8 * l.length) / 2 ^ 48)] ++ [UInt8.ofNat ((8 * l.length) / 2 ^ 40)] ++ [UInt8.ofNat ((8 * l.length) / 2 ^ 32)] ++ [UInt8.ofNat ((8 * l.length) / 2 ^ 24)] ++ [UInt8.ofNat ((8 * l.length) / 2 ^ 16)]) ownx (by first | rfl | simp) (by first | rfl | (simp; done) | (simp; omega))
  clear ownx g hb hlo sepo
  clear m74 lt75 zs76
  replace sep := sep.sub (l' := [ad77.map (·.block),some (h.size)]) (.cons _ (.cons_cons _ (.cons_cons _ (.slnil))))
  refine sP 9 [.slice ad77 (((l ++ [128] ++ List.replicate (zlen (l.length + 1)) 0 ++ [UInt8.ofNat ((8 * l.length) / 2 ^ 56)] ++ [UInt8.ofNat ((8 * l.length) / 2 ^ 48)] ++ [UInt8.ofNat ((8 * l.length) / 2 ^ 40)] ++ [UInt8.ofNat ((8 * l.length) / 2 ^ 32)] ++ [UInt8.ofNat ((8 * l.length) / 2 ^ 24)]).length) + 1) cap78] ?_
  refine sD [(2,pV h.size),(3,.slice ad77 (((l ++ [128] ++ List.replicate (zlen (l.length + 1)) 0 ++ [UInt8.ofNat ((8 * l.length) / 2 ^ 56)] ++ [UInt8.ofNat ((8 * l.length) / 2 ^ 48)] ++ [UInt8.ofNat ((8 * l.length) / 2 ^ 40)] ++ [UInt8.ofNat ((8 * l.length) / 2 ^ 32)] ++ [UInt8.ofNat ((8 * l.length) / 2 ^ 24)]).length) + 1) cap78),(4,.int .u64 ((8 * l.length : Nat) : Int)),(5,.int .i64 2)] ?_
  clear hF a; intro a hF
  have hcan : (((l ++ [128] ++ List.replicate (zlen (l.length + 1)) 0 ++ [UInt8.ofNat ((8 * l.length) / 2 ^ 56)] ++ [UInt8.ofNat ((8 * l.length) / 2 ^ 48)] ++ [UInt8.ofNat ((8 * l.length) / 2 ^ 40)] ++ [UInt8.ofNat ((8 * l.length) / 2 ^ 32)] ++ [UInt8.ofNat ((8 * l.length) / 2 ^ 24)]).length) + 1 : Nat) = (l ++ [128] ++ List.replicate (zlen (l.length + 1)) 0 ++ [UInt8.ofNat ((8 * l.length) / 2 ^ 56)] ++ [UInt8.ofNat ((8 * l.length) / 2 ^ 48)] ++ [UInt8.ofNat ((8 * l.length) / 2 ^ 40)] ++ [UInt8.ofNat ((8 * l.length) / 2 ^ 32)] ++ [UInt8.ofNat ((8 * l.length) / 2 ^ 24)] ++ [UInt8.ofNat ((8 * l.length) / 2 ^ 16)]).length := by first | (simp; done) | (simp; omega)
  rw [hcan] at hF; clear hcan
  show C Tryd.prog (sub b26 [1,1,1,1,1,0,1,0,0,1,1]) _ a h79
  refine cP 8 hF ?_
  refine sP 3 [.int .i64 2,.int .i64 1,.int .i64 1] ?_
  refine sD [(2,pV h.size),(3,.slice ad77 ((l ++ [128] ++ List.replicate (zlen (l.length + 1)) 0 ++ [UInt8.ofNat ((8 * l.length) / 2 ^ 56)] ++ [UInt8.ofNat ((8 * l.length) / 2 ^ 48)] ++ [UInt8.ofNat ((8 * l.length) / 2 ^ 40)] ++ [UInt8.ofNat ((8 * l.length) / 2 ^ 32)] ++ [UInt8.ofNat ((8 * l.length) / 2 ^ 24)] ++ [UInt8.ofNat ((8 * l.length) / 2 ^ 16)]).length) cap78),(4,.int .u64 ((8 * l.length : Nat) : Int)),(5,.int .i64 1)] ?_
  clear hF a; intro a hF
  show Crounds _ _ _ _ 3 a h79
  refine Cround.step ?_
  refine cS ?_
  refine cS ?_
  refine cP 7 hF ?_
  refine sP 2 [.int .i64 1,.bool true] ?_
  refine sD [(2,pV h.size),(3,.slice ad77 ((l ++ [128] ++ List.replicate (zlen (l.length + 1)) 0 ++ [UInt8.ofNat ((8 * l.length) / 2 ^ 56)] ++ [UInt8.ofNat ((8 * l.length) / 2 ^ 48)] ++ [UInt8.ofNat ((8 * l.length) / 2 ^ 40)] ++ [UInt8.ofNat ((8 * l.length) / 2 ^ 32)] ++ [UInt8.ofNat ((8 * l.length) / 2 ^ 24)] ++ [UInt8.ofNat ((8 * l.length) / 2 ^ 16)]).length) cap78),(4,.int .u64 ((8 * l.length : Nat) : Int)),(5,.int .i64 1),(28,.bool true)] ?_
  clear hF a; intro a hF
  refine tK ?_
  refine cT 28 hF ?_
  refine cN ?_
  refine tK ?_
  refine cS ?_
  refine cB 3 ?_
  refine cP 9 hF ?_
  refine sP 4 [.slice ad77 ((l ++ [128] ++ List.replicate (zlen (l.length + 1)) 0 ++ [UInt8.ofNat ((8 * l.length) / 2 ^ 56)] ++ [UInt8.ofNat ((8 * l.length) / 2 ^ 48)] ++ [UInt8.ofNat ((8 * l.length) / 2 ^ 40)] ++ [UInt8.ofNat ((8 * l.length) / 2 ^ 32)] ++ [UInt8.ofNat ((8 * l.length) / 2 ^ 24)] ++ [UInt8.ofNat ((8 * l.length) / 2 ^ 16)]).length) cap78,.int .u64 ((8 * l.length : Nat) : Int),.int .i64 1,.int .i64 8] ?_
  refine s1 5 (.int .u64 (((8 * l.length) / 2 ^ 8 : Nat) : Int)) (.int .u64 (Int.fdiv ((8 * l.length : Nat) : Int) (2 ^ 8))) (congrArg (Value.int .u64) (fdivN (8 * l.length) 8)) ?_
  refine s1 6 (bv (UInt8.ofNat ((8 * l.length) / 2 ^ 8))) (.int .u8 (IntKind.u8.wrap (((8 * l.length) / 2 ^ 8 : Nat) : Int))) (conv64 _) ?_
  refine SeqK.eff (k' := 7) (Does.new (v := .slice (some ⟨h79.size,0,none⟩) 1 1) (o := .cells #[bv (UInt8.ofNat ((8 * l.length) / 2 ^ 8))] 5) (by kernel_rfl)) rfl ?_
  rintro _ h80 ⟨rfl,hh⟩
  have g81 : Ext h79 h80 := push_ext hh
  have m82 : h80[h79.size]? = some (.cells #[bv (UInt8.ofNat ((8 * l.length) / 2 ^ 8))] 5) := push_at hh
  clear hh
  have lt83 := blk_lt m82
  have zs84 := e0.size
  have hlo := e0.size
  have sepo := sep
  replace e0 := e0.ext g81
  replace own_t := own_t.ext g81
  replace m3 := Ext.blk g81 m3
  replace sep := sep.up g81.size
  replace sep := sepo.new hlo (blk_lt m82)
  clear sepo hlo
  refine SeqK.eff (k' := 8) (Does.append2 (t := 22) (E := 5) (sz := 1) (by_ := 1) (n := (l ++ [128] ++ List.replicate (zlen (l.length + 1)) 0 ++ [UInt8.ofNat ((8 * l.length) / 2 ^ 56)] ++ [UInt8.ofNat ((8 * l.length) / 2 ^ 48)] ++ [UInt8.ofNat ((8 * l.length) / 2 ^ 40)] ++ [UInt8.ofNat ((8 * l.length) / 2 ^ 32)] ++ [UInt8.ofNat ((8 * l.length) / 2 ^ 24)] ++ [UInt8.ofNat ((8 * l.length) / 2 ^ 16)]).length) (m := 1) (v := .slice ad77 ((l ++ [128] ++ List.replicate (zlen (l.length + 1)) 0 ++ [UInt8.ofNat ((8 * l.length) / 2 ^ 56)] ++ [UInt8.ofNat ((8 * l.length) / 2 ^ 48)] ++ [UInt8.ofNat ((8 * l.length) / 2 ^ 40)] ++ [UInt8.ofNat ((8 * l.length) / 2 ^ 32)] ++ [UInt8.ofNat ((8 * l.length) / 2 ^ 24)] ++ [UInt8.ofNat ((8 * l.length) / 2 ^ 16)]).length) cap78) (x := .slice (some ⟨h79.size,0,none⟩) 1 1) (xs := ((l ++ [128] ++ List.replicate (zlen (l.length + 1)) 0 ++ [UInt8.ofNat ((8 * l.length) / 2 ^ 56)] ++ [UInt8.ofNat ((8 * l.length) / 2 ^ 48)] ++ [UInt8.ofNat ((8 * l.length) / 2 ^ 40)] ++ [UInt8.ofNat ((8 * l.length) / 2 ^ 32)] ++ [UInt8.ofNat ((8 * l.length) / 2 ^ 24)] ++ [UInt8.ofNat ((8 * l.length) / 2 ^ 16)]).map bv)) (ys := (([UInt8.ofNat ((8 * l.length) / 2 ^ 8)]).map bv)) (by kernel_rfl) (by kernel_rfl) own_t (Row.blk (l := [bv (UInt8.ofNat ((8 * l.length) / 2 ^ 8))]) m82 rfl) (ones_map _) (by unfold maxLen; first | omega | (simp only [List.length_append,List.length_cons,List.length_nil,List.length_replicate,zlen]; omega)) (by first | omega | (simp only [List.length_append,List.length_cons,List.length_nil,List.length_replicate,zlen]; omega))) rfl ?_
  rintro _ h87 ⟨ad85,cap86,rfl,ownx,g,hb⟩
  rw [blkOf_slice] at g hb
  have hlo := e0.size
  have sepo := sep
  replace e0 := e0.grew g (sep.low 1 rfl)
  replace m3 := Grew.blk g m3 ((sep.bp 2 1))
  replace m82 := Grew.blk g m82 ((sep.bp 0 1))
  replace sep := sep.up g.size
  replace sep : Sep h.size h87.size [some (h79.size),ad85.map (·.block),some (h.size)] := sepo.set g.size hlo 1 (y := ad85.map (fun (x : Addr) => x.block)) rfl (hb.imp id fun e => .inr ⟨_,e,Nat.le_refl _⟩) (fun k e => ownx.lt (by rw [blkOf_slice]; exact e))
  replace own_t : Own h87 (.slice ad85 ((l ++ [128] ++ List.replicate (zlen (l.length + 1)) 0 ++ [UInt8.ofNat ((8 * l.length) / 2 ^ 56)] ++ [UInt8.ofNat ((8 * l.length) / 2 ^ 48)] ++ [UInt8.ofNat ((8 * l.length) / 2 ^ 40)] ++ [UInt8.ofNat ((8 * l.length) / 2 ^ 32)] ++ [UInt8.ofNat ((8 * l.length) / 2 ^ 24)] ++ [UInt8.ofNat ((8 * l.length) / 2 ^ 16)] ++ [UInt8.ofNat ((8 * l.length) / 2 ^ 8)]).length) cap86) 5 ((l ++ [128] ++ List.replicate (zlen (l.length + 1)) 0 ++ [UInt8.ofNat ((8 * l.length) / 2 ^ 56)] ++ [UInt8.ofNat ((8 * l.length) / 2 ^ 48)] ++ [UInt8.ofNat ((8 * l.length) / 2 ^ 40)] ++ [UInt8.ofNat ((8 * l.length) / 2 ^ 32)] ++ [UInt8.ofNat ((8 * l.length) / 2 ^ 24)] ++ [UInt8.ofNat ((8 * l.length) / 2 ^ 16)] ++ [UInt8.ofNat ((8 * l.length) / 2 ^ 8)]).length) 1 ((l ++ [128] ++ List.replicate (zlen (l.length + 1)) 0 ++ [UInt8.ofNat ((8 * l.length) / 2 ^ 56)] ++ [UInt8.ofNat ((8 * l.length) / 2 ^ 48)] ++ [UInt8.ofNat ((8 * l.length) / 2 ^ 40)] ++ [UInt8.ofNat ((8 * l.length) / 2 ^ 32)] ++ [UInt8.ofNat ((8 * l.length) / 2 ^ 24)] ++ [UInt8.ofNat ((8 * l.length) / 2 ^ 16)] ++ [UInt8.ofNat ((8 * l.length) / 2 ^ 8)]).map bv) := Own.app (L2 := l ++ [128] ++ List.replicate (zlen (l.length + 1)) 0 ++ [UInt8.ofNat ((8 * l.length) / 2 ^ 56)] ++ [UInt8.ofNat ((8 * l.length) / 2 ^ 48)] ++ [UInt8.ofNat ((8 * l.length) / 2 ^ 40)] ++ [UInt8.ofNat ((8 * l.length) / 2 ^ 32)] ++ [UInt8.ofNat ((8 * l.length) / 2 ^ 24)] ++ [UInt8.ofNat ((8 * l.length) / 2 ^ 16)] ++ [UInt8.ofNat ((8 * l.length) / 2 ^ 8)]) ownx (by first | rfl | simp) (by first | rfl | (simp; done) | (simp; omega))
  clear ownx g hb hlo sepo
  clear m82 lt83 zs84
  replace sep := sep.sub (l' := [ad85.map (·.block),some (h.size)]) (.cons _ (.cons_cons _ (.cons_cons _ (.slnil))))
  refine sP 9 [.slice ad85 (((l ++ [128] ++ List.replicate (zlen (l.length + 1)) 0 ++ [UInt8.ofNat ((8 * l.length) / 2 ^ 56)] ++ [UInt8.ofNat ((8 * l.length) / 2 ^ 48)] ++ [UInt8.ofNat ((8 * l.length) / 2 ^ 40)] ++ [UInt8.ofNat ((8 * l.length) / 2 ^ 32)] ++ [UInt8.ofNat ((8 * l.length) / 2 ^ 24)] ++ [UInt8.ofNat ((8 * l.length) / 2 ^ 16)]).length) + 1) cap86] ?_
  refine sD [(2,pV h.size),(3,.slice ad85 (((l ++ [128] ++ List.replicate (zlen (l.length + 1)) 0 ++ [UInt8.ofNat ((8 * l.length) / 2 ^ 56)] ++ [UInt8.ofNat ((8 * l.length) / 2 ^ 48)] ++ [UInt8.ofNat ((8 * l.length) / 2 ^ 40)] ++ [UInt8.ofNat ((8 * l.length) / 2 ^ 32)] ++ [UInt8.ofNat ((8 * l.length) / 2 ^ 24)] ++ [UInt8.ofNat ((8 * l.length) / 2 ^ 16)]).length) + 1) cap86),(4,.int .u64 ((8 * l.length : Nat) : Int)),(5,.int .i64 1)] ?_
  clear hF a; intro a hF
  have hcan : (((l ++ [128] ++ List.replicate (zlen (l.length + 1)) 0 ++ [UInt8.ofNat ((8 * l.length) / 2 ^ 56)] ++ [UInt8.ofNat ((8 * l.length) / 2 ^ 48)] ++ [UInt8.ofNat ((8 * l.length) / 2 ^ 40)] ++ [UInt8.ofNat ((8 * l.length) / 2 ^ 32)] ++ [UInt8.ofNat ((8 * l.length) / 2 ^ 24)] ++ [UInt8.ofNat ((8 * l.length) / 2 ^ 16)]).length) + 1 : Nat) = (l ++ [128] ++ List.replicate (zlen (l.length + 1)) 0 ++ [UInt8.ofNat ((8 * l.length) / 2 ^ 56)] ++ [UInt8.ofNat ((8 * l.length) / 2 ^ 48)] ++ [UInt8.ofNat ((8 * l.length) / 2 ^ 40)] ++ [UInt8.ofNat ((8 * l.length) / 2 ^ 32)] ++ [UInt8.ofNat ((8 * l.length) / 2 ^ 24)] ++ [UInt8.ofNat ((8 * l.length) / 2 ^ 16)] ++ [UInt8.ofNat ((8 * l.length) / 2 ^ 8)]).length := by first | (simp; done) | (simp; omega)
  rw [hcan] at hF; clear hcan
  show C Tryd.prog (sub b26 [1,1,1,1,1,0,1,0,0,1,1]) _ a h87
  refine cP 8 hF ?_
  refine sP 3 [.int .i64 1,.int .i64 0,.int .i64 0] ?_
  refine sD [(2,pV h.size),(3,.slice ad85 ((l ++ [128] ++ List.replicate (zlen (l.length + 1)) 0 ++ [UInt8.ofNat ((8 * l.length) / 2 ^ 56)] ++ [UInt8.ofNat ((8 * l.length) / 2 ^ 48)] ++ [UInt8.ofNat ((8 * l.length) / 2 ^ 40)] ++ [UInt8.ofNat ((8 * l.length) / 2 ^ 32)] ++ [UInt8.ofNat ((8 * l.length) / 2 ^ 24)] ++ [UInt8.ofNat ((8 * l.length) / 2 ^ 16)] ++ [UInt8.ofNat ((8 * l.length) / 2 ^ 8)]).length) cap86),(4,.int .u64 ((8 * l.length : Nat) : Int)),(5,.int .i64 0)] ?_
  clear hF a; intro a hF
  show Crounds _ _ _ _ 2 a h87
  refine Cround.step ?_
  refine cS ?_
  refine cS ?_
  refine cP 7 hF ?_
  refine sP 2 [.int .i64 0,.bool true] ?_
  refine sD [(2,pV h.size),(3,.slice ad85 ((l ++ [128] ++ List.replicate (zlen (l.length + 1)) 0 ++ [UInt8.ofNat ((8 * l.length) / 2 ^ 56)] ++ [UInt8.ofNat ((8 * l.length) / 2 ^ 48)] ++ [UInt8.ofNat ((8 * l.length) / 2 ^ 40)] ++ [UInt8.ofNat ((8 * l.length) / 2 ^ 32)] ++ [UInt8.ofNat ((8 * l.length) / 2 ^ 24)] ++ [UInt8.ofNat ((8 * l.length) / 2 ^ 16)] ++ [UInt8.ofNat ((8 * l.length) / 2 ^ 8)]).length) cap86),(4,.int .u64 ((8 * l.length : Nat) : Int)),(5,.int .i64 0),(28,.bool true)] ?_
  clear hF a; intro a hF
  refine tK ?_
  refine cT 28 hF ?_
  refine cN ?_
  refine tK ?_
  refine cS ?_
  refine cB 3 ?_
  refine cP 9 hF ?_
  refine sP 4 [.slice ad85 ((l ++ [128] ++ List.replicate (zlen (l.length + 1)) 0 ++ [UInt8.ofNat ((8 * l.length) / 2 ^ 56)] ++ [UInt8.ofNat ((8 * l.length) / 2 ^ 48)] ++ [UInt8.ofNat ((8 * l.length) / 2 ^ 40)] ++ [UInt8.ofNat ((8 * l.length) / 2 ^ 32)] ++ [UInt8.ofNat ((8 * l.length) / 2 ^ 24)] ++ [UInt8.ofNat ((8 * l.length) / 2 ^ 16)] ++ [UInt8.ofNat ((8 * l.length) / 2 ^ 8)]).length) cap86,.int .u64 ((8 * l.length : Nat) : Int),.int .i64 0,.int .i64 0] ?_
  refine s1 5 (.int .u64 (((8 * l.length) / 2 ^ 0 : Nat) : Int)) (.int .u64 (Int.fdiv ((8 * l.length : Nat) : Int) (2 ^ 0))) (congrArg (Value.int .u64) (fdivN (8 * l.length) 0)) ?_
  refine s1 6 (bv (UInt8.ofNat ((8 * l.length) / 2 ^ 0))) (.int .u8 (IntKind.u8.wrap (((8 * l.length) / 2 ^ 0 : Nat) : Int))) (conv64 _) ?_
  refine SeqK.eff (k' := 7) (Does.new (v := .slice (some ⟨h87.size,0,none⟩) 1 1) (o := .cells #[bv (UInt8.ofNat ((8 * l.length) / 2 ^ 0))] 5) (by kernel_rfl)) rfl ?_
  rintro _ h88 ⟨rfl,hh⟩
  have g89 : Ext h87 h88 := push_ext hh
  have m90 : h88[h87.size]? = some (.cells #[bv (UInt8.ofNat ((8 * l.length) / 2 ^ 0))] 5) := push_at hh
  clear hh
  have lt91 := blk_lt m90
  have zs92 := e0.size
  have hlo := e0.size
  have sepo := sep
  replace e0 := e0.ext g89
  replace own_t := own_t.ext g89
  replace m3 := Ext.blk g89 m3
  replace sep := sep.up g89.size
  replace sep := sepo.new hlo (blk_lt m90)
  clear sepo hlo
  refine SeqK.eff (k' := 8) (Does.append2 (t := 22) (E := 5) (sz := 1) (by_ := 1) (n := (l ++ [128] ++ List.replicate (zlen (l.length + 1)) 0 ++ [UInt8.ofNat ((8 * l.length) / 2 ^ 56)] ++ [UInt8.ofNat ((8 * l.length) / 2 ^ 48)] ++ [UInt8.ofNat ((8 * l.length) / 2 ^ 40)] ++ [UInt8.ofNat ((8 * l.length) / 2 ^ 32)] ++ [UInt8.ofNat ((8 * l.length) / 2 ^ 24)] ++ [UInt8.ofNat ((8 * l.length) / 2 ^ 16)] ++ [UInt8.ofNat ((8 * l.length) / 2 ^ 8)]).length) (m := 1) (v := .slice ad85 ((l ++ [128] ++ List.replicate (zlen (l.length + 1)) 0 ++ [UInt8.ofNat ((8 * l.length) / 2 ^ 56)] ++ [UInt8.ofNat ((8 * l.length) / 2 ^ 48)] ++ [UInt8.ofNat ((8 * l.length) / 2 ^ 40)] ++ [UInt8.ofNat ((8 * l.length) / 2 ^ 32)] ++ [UInt8.ofNat ((8 * l.length) / 2 ^ 24)] ++ [UInt8.ofNat ((8 * l.length) / 2 ^ 16)] ++ [UInt8.ofNat ((8 * l.length) / 2 ^ 8)]).length) cap86) (x := .slice (some ⟨h87.size,0,none⟩) 1 1) (xs := ((l ++ [128] ++ List.replicate (zlen (l.length + 1)) 0 ++ [UInt8.ofNat ((8 * l.length) / 2 ^ 56)] ++ [UInt8.ofNat ((8 * l.length) / 2 ^ 48)] ++ [UInt8.ofNat ((8 * l.length) / 2 ^ 40)] ++ [UInt8.ofNat ((8 * l.length) / 2 ^ 32)] ++ [UInt8.ofNat ((8 * l.length) / 2 ^ 24)] ++ [UInt8.ofNat ((8 * l.length) / 2 ^ 16)] ++ [UInt8.ofNat ((8 * l.length) / 2 ^ 8)]).map bv)) (ys := (([UInt8.ofNat ((8 * l.length) / 2 ^ 0)]).map bv)) (by kernel_rfl) (by kernel_rfl) own_t (Row.blk (l := [bv (UInt8.ofNat ((8 * l.length) / 2 ^ 0))]) m90 rfl) (ones_map _) (by unfold maxLen; first | omega | (simp only [List.length_append,List.length_cons,List.length_nil,List.length_replicate,zlen]; omega)) (by first | omega | (simp only [List.length_append,List.length_cons,List.length_nil,List.length_replicate,zlen]; omega))) rfl ?_
  rintro _ h95 ⟨ad93,cap94,rfl,ownx,g,hb⟩
  rw [blkOf_slice] at g hb
  have hlo := e0.size
  have sepo := sep
  replace e0 := e0.grew g (sep.low 1 rfl)
  replace m3 := Grew.blk g m3 ((sep.bp 2 1))
  replace m90 := Grew.blk g m90 ((sep.bp 0 1))
  replace sep := sep.up g.size
  replace sep : Sep h.size h95.size [some (h87.size),ad93.map (·.block),some (h.size)] := sepo.set g.size hlo 1 (y := ad93.map (fun (x : Addr) => x.block)) rfl (hb.imp id fun e => .inr ⟨_,e,Nat.le_refl _⟩) (fun k e => ownx.lt (by rw [blkOf_slice]; exact e))
  replace own_t : Own h95 (.slice ad93 ((l ++ [128] ++ List.replicate (zlen (l.length + 1)) 0 ++ [UInt8.ofNat ((8 * l.length) / 2 ^ 56)] ++ [UInt8.ofNat ((8 * l.length) / 2 ^ 48)] ++ [UInt8.ofNat ((8 * l.length) / 2 ^ 40)] ++ [UInt8.ofNat ((8 * l.length) / 2 ^ 32)] ++ [UInt8.ofNat ((8 * l.length) / 2 ^ 24)] ++ [UInt8.ofNat ((8 * l.length) / 2 ^ 16)] ++ [UInt8.ofNat ((8 * l.length) / 2 ^ 8)] ++ [UInt8.ofNat ((8 * l.length) / 2 ^ 0)]).length) cap94) 5 ((l ++ [128] ++ List.replicate (zlen (l.length + 1)) 0 ++ [UInt8.ofNat ((8 * l.length) / 2 ^ 56)] ++ [UInt8.ofNat ((8 * l.length) / 2 ^ 48)] ++ [UInt8.ofNat ((8 * l.length) / 2 ^ 40)] ++ [UInt8.ofNat ((8 * l.length) / 2 ^ 32)] ++ [UInt8.ofNat ((8 * l.length) / 2 ^ 24)] ++ [UInt8.ofNat ((8 * l.length) / 2 ^ 16)] ++ [UInt8.ofNat ((8 * l.length) / 2 ^ 8)] ++ [UInt8.ofNat ((8 * l.length) / 2 ^ 0)]).length) 1 ((l ++ [128] ++ List.replicate (zlen (l.length + 1)) 0 ++ [UInt8.ofNat ((8 * l.length) / 2 ^ 56)] ++ [UInt8.ofNat ((8 * l.length) / 2 ^ 48)] ++ [UInt8.ofNat ((8 * l.length) / 2 ^ 40)] ++ [UInt8.ofNat ((8 * l.length) / 2 ^ 32)] ++ [UInt8.ofNat ((8 * l.length) / 2 ^ 24)] ++ [UInt8.ofNat ((8 * l.length) / 2 ^ 16)] ++ [UInt8.ofNat ((8 * l.length) / 2 ^ 8)] ++ [UInt8.ofNat ((8 * l.length) / 2 ^ 0)]).map bv) := Own.app (L2 := l ++ [128] ++ List.replicate (zlen (l.length + 1)) 0 ++ [UInt8.ofNat ((8 * l.length) / 2 ^ 56)] ++ [UInt8.ofNat ((8 * l.length) / 2 ^ 48)] ++ [UInt8.ofNat ((8 * l.length) / 2 ^ 40)] ++ [UInt8.ofNat ((8 * l.length) / 2 ^ 32)] ++ [UInt8.ofNat ((8 * l.length) / 2 ^ 24)] ++ [UInt8.ofNat ((8 * l.length) / 2 ^ 16)] ++ [UInt8.ofNat ((8 * l.length) / 2 ^ 8)] ++ [UInt8.ofNat ((8 * l.length) / 2 ^ 0)]) ownx (by first | rfl | simp) (by first | rfl | (simp; done) | (simp; omega))
  clear ownx g hb hlo sepo
  clear m90 lt91 zs92
  replace sep := sep.sub (l' := [ad93.map (·.block),some (h.size)]) (.cons _ (.cons_cons _ (.cons_cons _ (.slnil))))
  refine sP 9 [.slice ad93 (((l ++ [128] ++ List.replicate (zlen (l.length + 1)) 0 ++ [UInt8.ofNat ((8 * l.length) / 2 ^ 56)] ++ [UInt8.ofNat ((8 * l.length) / 2 ^ 48)] ++ [UInt8.ofNat ((8 * l.length) / 2 ^ 40)] ++ [UInt8.ofNat ((8 * l.length) / 2 ^ 32)] ++ [UInt8.ofNat ((8 * l.length) / 2 ^ 24)] ++ [UInt8.ofNat ((8 * l.length) / 2 ^ 16)] ++ [UInt8.ofNat ((8 * l.length) / 2 ^ 8)]).length) + 1) cap94] ?_
  refine sD [(2,pV h.size),(3,.slice ad93 (((l ++ [128] ++ List.replicate (zlen (l.length + 1)) 0 ++ [UInt8.ofNat ((8 * l.length) / 2 ^ 56)] ++ [UInt8.ofNat ((8 * l.length) / 2 ^ 48)] ++ [UInt8.ofNat ((8 * l.length) / 2 ^ 40)] ++ [UInt8.ofNat ((8 * l.length) / 2 ^ 32)] ++ [UInt8.ofNat ((8 * l.length) / 2 ^ 24)] ++ [UInt8.ofNat ((8 * l.length) / 2 ^ 16)] ++ [UInt8.ofNat ((8 * l.length) / 2 ^ 8)]).length) + 1) cap94),(4,.int .u64 ((8 * l.length : Nat) : Int)),(5,.int .i64 0)] ?_
  clear hF a; intro a hF
  have hcan : (((l ++ [128] ++ List.replicate (zlen (l.length + 1)) 0 ++ [UInt8.ofNat ((8 * l.length) / 2 ^ 56)] ++ [UInt8.ofNat ((8 * l.length) / 2 ^ 48)] ++ [UInt8.ofNat ((8 * l.length) / 2 ^ 40)] ++ [UInt8.ofNat ((8 * l.length) / 2 ^ 32)] ++ [UInt8.ofNat ((8 * l.length) / 2 ^ 24)] ++ [UInt8.ofNat ((8 * l.length) / 2 ^ 16)] ++ [UInt8.ofNat ((8 * l.length) / 2 ^ 8)]).length) + 1 : Nat) = (l ++ [128] ++ List.replicate (zlen (l.length + 1)) 0 ++ [UInt8.ofNat ((8 * l.length) / 2 ^ 56)] ++ [UInt8.ofNat ((8 * l.length) / 2 ^ 48)] ++ [UInt8.ofNat ((8 * l.length) / 2 ^ 40)] ++ [UInt8.ofNat ((8 * l.length) / 2 ^ 32)] ++ [UInt8.ofNat ((8 * l.length) / 2 ^ 24)] ++ [UInt8.ofNat ((8 * l.length) / 2 ^ 16)] ++ [UInt8.ofNat ((8 * l.length) / 2 ^ 8)] ++ [UInt8.ofNat ((8 * l.length) / 2 ^ 0)]).length := by first | (simp; done) | (simp; omega)
  rw [hcan] at hF; clear hcan
  show C Tryd.prog (sub b26 [1,1,1,1,1,0,1,0,0,1,1]) _ a h95
  refine cP 8 hF ?_
  refine sP 3 [.int .i64 0,.int .i64 (-1),.int .i64 (-1)] ?_
  refine sD [(2,pV h.size),(3,.slice ad93 ((l ++ [128] ++ List.replicate (zlen (l.length + 1)) 0 ++ [UInt8.ofNat ((8 * l.length) / 2 ^ 56)] ++ [UInt8.ofNat ((8 * l.length) / 2 ^ 48)] ++ [UInt8.ofNat ((8 * l.length) / 2 ^ 40)] ++ [UInt8.ofNat ((8 * l.length) / 2 ^ 32)] ++ [UInt8.ofNat ((8 * l.length) / 2 ^ 24)] ++ [UInt8.ofNat ((8 * l.length) / 2 ^ 16)] ++ [UInt8.ofNat ((8 * l.length) / 2 ^ 8)] ++ [UInt8.ofNat ((8 * l.length) / 2 ^ 0)]).length) cap94),(4,.int .u64 ((8 * l.length : Nat) : Int)),(5,.int .i64 (-1))] ?_
  clear hF a; intro a hF
  show Crounds _ _ _ _ 1 a h95
  refine Cround.step ?_
  refine cS ?_
  refine cS ?_
  refine cP 7 hF ?_
  refine sP 2 [.int .i64 (-1),.bool false] ?_
  refine sD [(2,pV h.size),(3,.slice ad93 ((l ++ [128] ++ List.replicate (zlen (l.length + 1)) 0 ++ [UInt8.ofNat ((8 * l.length) / 2 ^ 56)] ++ [UInt8.ofNat ((8 * l.length) / 2 ^ 48)] ++ [UInt8.ofNat ((8 * l.length) / 2 ^ 40)] ++ [UInt8.ofNat ((8 * l.length) / 2 ^ 32)] ++ [UInt8.ofNat ((8 * l.length) / 2 ^ 24)] ++ [UInt8.ofNat ((8 * l.length) / 2 ^ 16)] ++ [UInt8.ofNat ((8 * l.length) / 2 ^ 8)] ++ [UInt8.ofNat ((8 * l.length) / 2 ^ 0)]).length) cap94),(4,.int .u64 ((8 * l.length : Nat) : Int)),(5,.int .i64 (-1)),(28,.bool false)] ?_
  clear hF a; intro a hF
  refine tK ?_
  refine cF 28 hF ?_
  refine cX 2 ?_
  show C Tryd.prog (sub b26 [1,1,1,1,1,1]) _ a h95
  refine cS ?_
  refine cP 10 hF ?_
  refine SeqK.eff (k' := 1) (Does.new (v := .slice (some ⟨h95.size,0,none⟩) 8 8) (o := .cells #[.int .u32 1779033703,.int .u32 3144134277,.int .u32 1013904242,.int .u32 2773480762,.int .u32 1359893119,.int .u32 2600822924,.int .u32 528734635,.int .u32 1541459225] 61) (by kernel_rfl)) rfl ?_
  rintro _ h96 ⟨rfl,hh⟩
  have g97 : Ext h95 h96 := push_ext hh
  have m98 : h96[h95.size]? = some (.cells #[.int .u32 1779033703,.int .u32 3144134277,.int .u32 1013904242,.int .u32 2773480762,.int .u32 1359893119,.int .u32 2600822924,.int .u32 528734635,.int .u32 1541459225] 61) := push_at hh
  clear hh
  have lt99 := blk_lt m98
  have zs100 := e0.size
  have hlo := e0.size
  have sepo := sep
  replace e0 := e0.ext g97
  replace own_t := own_t.ext g97
  replace m3 := Ext.blk g97 m3
  replace sep := sep.up g97.size
  replace sep := sepo.new hlo (blk_lt m98)
  clear sepo hlo
  rw [h0cells] at m98
  refine sP 2 [.slice (some ⟨h95.size,0,none⟩) 8 8] ?_
  refine sD [(2,pV h.size),(3,.slice ad93 ((l ++ [128] ++ List.replicate (zlen (l.length + 1)) 0 ++ [UInt8.ofNat ((8 * l.length) / 2 ^ 56)] ++ [UInt8.ofNat ((8 * l.length) / 2 ^ 48)] ++ [UInt8.ofNat ((8 * l.length) / 2 ^ 40)] ++ [UInt8.ofNat ((8 * l.length) / 2 ^ 32)] ++ [UInt8.ofNat ((8 * l.length) / 2 ^ 24)] ++ [UInt8.ofNat ((8 * l.length) / 2 ^ 16)] ++ [UInt8.ofNat ((8 * l.length) / 2 ^ 8)] ++ [UInt8.ofNat ((8 * l.length) / 2 ^ 0)]).length) cap94),(6,.slice (some ⟨h95.size,0,none⟩) 8 8)] ?_
  clear hF a; intro a hF
  refine tK ?_
  refine cS ?_
  refine cS ?_
  refine cP 11 hF ?_
  refine sP 1 [.int .i64 0] ?_
  refine sD [(2,pV h.size),(3,.slice ad93 ((l ++ [128] ++ List.replicate (zlen (l.length + 1)) 0 ++ [UInt8.ofNat ((8 * l.length) / 2 ^ 56)] ++ [UInt8.ofNat ((8 * l.length) / 2 ^ 48)] ++ [UInt8.ofNat ((8 * l.length) / 2 ^ 40)] ++ [UInt8.ofNat ((8 * l.length) / 2 ^ 32)] ++ [UInt8.ofNat ((8 * l.length) / 2 ^ 24)] ++ [UInt8.ofNat ((8 * l.length) / 2 ^ 16)] ++ [UInt8.ofNat ((8 * l.length) / 2 ^ 8)] ++ [UInt8.ofNat ((8 * l.length) / 2 ^ 0)]).length) cap94),(6,.slice (some ⟨h95.size,0,none⟩) 8 8),(7,.int .i64 0)] ?_
  clear hF a; intro a hF
  refine tK ?_
  refine cB 4 ?_
  have hpad : l ++ [128] ++ List.replicate (zlen (l.length + 1)) 0 ++ [UInt8.ofNat ((8 * l.length) / 2 ^ 56)] ++ [UInt8.ofNat ((8 * l.length) / 2 ^ 48)] ++ [UInt8.ofNat ((8 * l.length) / 2 ^ 40)] ++ [UInt8.ofNat ((8 * l.length) / 2 ^ 32)] ++ [UInt8.ofNat ((8 * l.length) / 2 ^ 24)] ++ [UInt8.ofNat ((8 * l.length) / 2 ^ 16)] ++ [UInt8.ofNat ((8 * l.length) / 2 ^ 8)] ++ [UInt8.ofNat ((8 * l.length) / 2 ^ 0)] = padded l l.length := by simp [padded,lenB]
  rw [hpad] at hF own_t; clear hpad
  have hp0 := padded_len l l.length
  have hpb : (padded l l.length).length ≤ l.length + 80 := by simp [padded,lenB,zlen]; omega
  have own_h : Own h96 (.slice (some ⟨h95.size,0,none⟩) 8 8) 61 8 1 (sv H0) := Own.blk m98 rfl (by unfold maxLen; decide)
  clear m98 lt99 zs100
  refine C.loop (fun m a h' => ∃ i : Nat,∃ st' : S8,∃ ah : Addr,∃ ch : Nat,∃ ad' : Option Addr,∃ cap' : Nat,m = (padded l l.length).length - i ∧ (Ext h h') ∧ (h'[h.size]? = some (.cells #[.int .u8 0,.int .u8 0,.int .u8 0,.int .u8 0,.int .u8 0,.int .u8 0,.int .u8 0,.int .u8 0,.int .u8 0,.int .u8 0,.int .u8 0,.int .u8 0,.int .u8 0,.int .u8 0,.int .u8 0,.int .u8 0,.int .u8 0,.int .u8 0,.int .u8 0,.int .u8 0,.int .u8 0,.int .u8 0,.int .u8 0,.int .u8 0,.int .u8 0,.int .u8 0,.int .u8 0,.int .u8 0,.int .u8 0,.int .u8 0,.int .u8 0,.int .u8 0] 31)) ∧ (run st' ((padded l l.length).drop i) = run H0 (padded l l.length)) ∧ (i % 64 = 0 ∧ i ≤ (padded l l.length).length) ∧ (Own h' (.slice ad' (padded l l.length).length cap') 5 (padded l l.length).length 1 ((padded l l.length).map bv)) ∧ (Own h' (.slice (some ah) 8 ch) 61 8 1 (sv st')) ∧ (Sep h.size h'.size [(some ah).map (·.block),ad'.map (·.block),some (h.size)]) ∧ (Fr a 72 [(2,.pointer (some ⟨h.size,0,none⟩)),(3,.slice ad' ((padded l l.length).length) cap'),(6,.slice (some ah) 8 ch),(7,.int .i64 ((i : Nat) : Int))])) ((padded l l.length).length - 0) [1,1,1,1,1,1,1,0,1,0,0] (by kernel_rfl) ⟨0,H0,⟨h95.size,0,none⟩,8,ad93,cap94,rfl,e0,m3,rfl,(by omega),own_t,own_h,sep,hF⟩ ?_
  clear hF a
  clear e0
  clear m3
  clear own_t
  clear own_h
  clear sep
  rintro m a h101 ⟨i,st',ah,ch,ad',cap',rfl,e0,m3,hi,hmod,own_t,own_h,sep,hF⟩
  refine cS ?_
  refine cS ?_
  refine cP 12 hF ?_
  refine sP 4 [nV i,.slice ad' ((padded l l.length).length) cap',nV ((padded l l.length).length),.bool (decide (((i : Nat) : Int) < (((padded l l.length).length : Nat) : Int)))] ?_
  refine sD [(2,pV h.size),(3,.slice ad' ((padded l l.length).length) cap'),(6,.slice (some ah) 8 ch),(7,nV i),(43,.bool (decide (((i : Nat) : Int) < (((padded l l.length).length : Nat) : Int))))] ?_
  clear hF a; intro a hF
  refine tK ?_
  refine cC 43 (decide (((i : Nat) : Int) < (((padded l l.length).length : Nat) : Int))) hF (fun hc102 => ?_) (fun hc102 => ?_)
  ·skip
   replace hc102 := of_decide_eq_true hc102
   have hl : i + 64 ≤ (padded l l.length).length := by omega
   have hdl : ((padded l l.length).drop i).length = (padded l l.length).length - i := List.length_drop
   refine cN ?_
   refine tK ?_
   refine cS ?_
   refine cB 5 ?_
   refine cP 14 hF ?_
   refine sP 4 [.slice (some ah) 8 ch,.slice ad' ((padded l l.length).length) cap',nV i,nV i] ?_
   refine s1 5 (.int .i64 ((i + 64 : Nat) : Int)) (.int .i64 (IntKind.i64.wrap (((i : Nat) : Int) + 64))) (congrArg (Value.int .i64) (w64' (by omega) (by omega) (by omega))) ?_
   obtain ⟨ad2,had2⟩ : ∃ x,x = if cap' = i then ad' else ad'.map (·.add (i * 1)) := ⟨_,rfl⟩
   have own2 := own_t.drop i (by omega)
   rw [← had2] at own2
   rw [Nat.mul_one,← List.map_drop,show (padded l l.length).length - i = ((padded l l.length).drop i).length by simp] at own2
   obtain ⟨ax,rfl,_⟩ := own2.someA (by rw [List.length_drop]; omega)
   refine sC 6 (.slice (some ax) 64 (cap' - i)) ((fun h => Calm.sliceO (a := ad') (len := ((padded l l.length).length)) (cap := cap') (sz := 1) (x := (some ax)) i (i + 64) cap' 64 (cap' - i) (by kernel_rfl) (.inl ⟨rfl,rfl⟩) (.inr rfl) (.inr rfl) (by omega) (by omega) had2 (by first | rfl | omega) (by first | rfl | omega) h) _) ?_
   refine SeqK.eff (k' := 7) (Does.call (f := 43) (args := #[.slice (some ah) 8 ch,.slice (some ax) 64 (cap' - i)]) (by kernel_rfl) (rpiece_sat _ st' ah ch own_h.row ax _ (((padded l l.length).drop i).take 64) (pre64 own2 (by rw [List.length_drop]; omega)))) rfl ?_
   rintro _ h103 ⟨ah2,ch2,rfl,ownx,g,hge⟩
   have hlo := e0.size
   have sepo := sep
   clear own_h own2
   replace e0 := e0.ext g
   replace own_t := own_t.ext g
   replace m3 := Ext.blk g m3
   replace sep := sep.up g.size
   replace sep : Sep h.size h103.size [(some ah2).map (·.block),ad'.map (·.block),some (h.size)] := sepo.set g.size hlo 0 (y := (some ah2).map (fun (x : Addr) => x.block)) rfl (.inr (.inr ⟨_,rfl,hge⟩)) (fun k e => ownx.lt (by rw [blkOf_slice]; exact e))
   have own_h := ownx; clear ownx sepo hlo hge g
   refine sP 8 [.slice (some ah2) 8 ch2] ?_
   refine sD [(2,pV h.size),(3,.slice ad' ((padded l l.length).length) cap'),(6,.slice (some ah2) 8 ch2),(7,nV i)] ?_
   clear hF a; intro a hF
   show C Tryd.prog (sub b26 [1,1,1,1,1,1,1,0,1,0,0,1,1]) _ a h103
   refine cP 13 hF ?_
   refine sP 1 [nV i] ?_
   refine s1 2 (.int .i64 ((i + 64 : Nat) : Int)) (.int .i64 (IntKind.i64.wrap (((i : Nat) : Int) + 64))) (congrArg (Value.int .i64) (w64' (by omega) (by omega) (by omega))) ?_
   refine sP 3 [nV (i + 64)] ?_
   refine sD [(2,pV h.size),(3,.slice ad' ((padded l l.length).length) cap'),(6,.slice (some ah2) 8 ch2),(7,nV (i + 64))] ?_
   clear hF a; intro a hF
   show ∃ m',m' < _ ∧ _
   refine ⟨_,?_,(i + 64),(piece st' (((padded l l.length).drop i).take 64)),ah2,ch2,ad',cap',rfl,e0,m3,((run_at hl).symm.trans hi),(by omega),own_t,own_h,sep,hF⟩
   omega
  ·skip
   replace hc102 := of_decide_eq_false hc102
   have est : st' = run H0 (padded l l.length) := by rw [← hi,List.drop_of_length_le (by omega)]; rfl
   clear own_t
   replace sep := sep.sub (l' := [(some ah).map (·.block),some (h.size)]) (.cons_cons _ (.cons _ (.cons_cons _ (.slnil))))
   refine cX 4 ?_
   show C Tryd.prog (sub b26 [1,1,1,1,1,1,1,1]) _ a h101
   refine cS ?_
   refine cP 15 hF ?_
   refine sP 1 [.agg #[.int .u8 0,.int .u8 0,.int .u8 0,.int .u8 0,.int .u8 0,.int .u8 0,.int .u8 0,.int .u8 0,.int .u8 0,.int .u8 0,.int .u8 0,.int .u8 0,.int .u8 0,.int .u8 0,.int .u8 0,.int .u8 0,.int .u8 0,.int .u8 0,.int .u8 0,.int .u8 0,.int .u8 0,.int .u8 0,.int .u8 0,.int .u8 0,.int .u8 0,.int .u8 0,.int .u8 0,.int .u8 0,.int .u8 0,.int .u8 0,.int .u8 0,.int .u8 0]] ?_
   refine SeqK.eff (k' := 2) (Does.new (v := .pointer (some ⟨h101.size,0,none⟩)) (o := .cells #[.int .u8 0,.int .u8 0,.int .u8 0,.int .u8 0,.int .u8 0,.int .u8 0,.int .u8 0,.int .u8 0,.int .u8 0,.int .u8 0,.int .u8 0,.int .u8 0,.int .u8 0,.int .u8 0,.int .u8 0,.int .u8 0,.int .u8 0,.int .u8 0,.int .u8 0,.int .u8 0,.int .u8 0,.int .u8 0,.int .u8 0,.int .u8 0,.int .u8 0,.int .u8 0,.int .u8 0,.int .u8 0,.int .u8 0,.int .u8 0,.int .u8 0,.int .u8 0] 31) (by kernel_rfl)) rfl ?_
   rintro _ h104 ⟨rfl,hh⟩
   have g105 : Ext h101 h104 := push_ext hh
   have m106 : h104[h101.size]? = some (.cells #[.int .u8 0,.int .u8 0,.int .u8 0,.int .u8 0,.int .u8 0,.int .u8 0,.int .u8 0,.int .u8 0,.int .u8 0,.int .u8 0,.int .u8 0,.int .u8 0,.int .u8 0,.int .u8 0,.int .u8 0,.int .u8 0,.int .u8 0,.int .u8 0,.int .u8 0,.int .u8 0,.int .u8 0,.int .u8 0,.int .u8 0,.int .u8 0,.int .u8 0,.int .u8 0,.int .u8 0,.int .u8 0,.int .u8 0,.int .u8 0,.int .u8 0,.int .u8 0] 31) := push_at hh
   clear hh
   have lt107 := blk_lt m106
   have zs108 := e0.size
   have hlo := e0.size
   have sepo := sep
   replace e0 := e0.ext g105
   replace own_h := own_h.ext g105
   replace m3 := Ext.blk g105 m3
   replace sep := sep.up g105.size
   replace sep := sepo.new hlo (blk_lt m106)
   clear sepo hlo
   refine SeqK.eff (k' := 3) (Does.store (b := h101.size) (off := 0) (vs := [.int .u8 0,.int .u8 0,.int .u8 0,.int .u8 0,.int .u8 0,.int .u8 0,.int .u8 0,.int .u8 0,.int .u8 0,.int .u8 0,.int .u8 0,.int .u8 0,.int .u8 0,.int .u8 0,.int .u8 0,.int .u8 0,.int .u8 0,.int .u8 0,.int .u8 0,.int .u8 0,.int .u8 0,.int .u8 0,.int .u8 0,.int .u8 0,.int .u8 0,.int .u8 0,.int .u8 0,.int .u8 0,.int .u8 0,.int .u8 0,.int .u8 0,.int .u8 0]) (l := [.int .u8 0,.int .u8 0,.int .u8 0,.int .u8 0,.int .u8 0,.int .u8 0,.int .u8 0,.int .u8 0,.int .u8 0,.int .u8 0,.int .u8 0,.int .u8 0,.int .u8 0,.int .u8 0,.int .u8 0,.int .u8 0,.int .u8 0,.int .u8 0,.int .u8 0,.int .u8 0,.int .u8 0,.int .u8 0,.int .u8 0,.int .u8 0,.int .u8 0,.int .u8 0,.int .u8 0,.int .u8 0,.int .u8 0,.int .u8 0,.int .u8 0,.int .u8 0]) (by kernel_rfl) m106 (of_decide_eq_true (by kernel_rfl)) (List.all_eq_true.1 (by kernel_rfl))) rfl ?_
   rintro _ h109 ⟨rfl,hh⟩
   have g110 : Grew (some (h101.size)) h104 h109 := hput_gr hh
   replace m106 : h109[h101.size]? = some (.cells ([.int .u8 0,.int .u8 0,.int .u8 0,.int .u8 0,.int .u8 0,.int .u8 0,.int .u8 0,.int .u8 0,.int .u8 0,.int .u8 0,.int .u8 0,.int .u8 0,.int .u8 0,.int .u8 0,.int .u8 0,.int .u8 0,.int .u8 0,.int .u8 0,.int .u8 0,.int .u8 0,.int .u8 0,.int .u8 0,.int .u8 0,.int .u8 0,.int .u8 0,.int .u8 0,.int .u8 0,.int .u8 0,.int .u8 0,.int .u8 0,.int .u8 0,.int .u8 0]).toArray 31) := hput_at (off := 0) (vs := [.int .u8 0,.int .u8 0,.int .u8 0,.int .u8 0,.int .u8 0,.int .u8 0,.int .u8 0,.int .u8 0,.int .u8 0,.int .u8 0,.int .u8 0,.int .u8 0,.int .u8 0,.int .u8 0,.int .u8 0,.int .u8 0,.int .u8 0,.int .u8 0,.int .u8 0,.int .u8 0,.int .u8 0,.int .u8 0,.int .u8 0,.int .u8 0,.int .u8 0,.int .u8 0,.int .u8 0,.int .u8 0,.int .u8 0,.int .u8 0,.int .u8 0,.int .u8 0]) (l := ([.int .u8 0,.int .u8 0,.int .u8 0,.int .u8 0,.int .u8 0,.int .u8 0,.int .u8 0,.int .u8 0,.int .u8 0,.int .u8 0,.int .u8 0,.int .u8 0,.int .u8 0,.int .u8 0,.int .u8 0,.int .u8 0,.int .u8 0,.int .u8 0,.int .u8 0,.int .u8 0,.int .u8 0,.int .u8 0,.int .u8 0,.int .u8 0,.int .u8 0,.int .u8 0,.int .u8 0,.int .u8 0,.int .u8 0,.int .u8 0,.int .u8 0,.int .u8 0])) hh (by kernel_rfl) m106
   clear hh
   replace e0 := e0.grew g110 (sep.low 0 rfl)
   replace own_h := own_h.kept g110 (by rw [blkOf_slice]; exact (sep.ap 1 0))
   replace m3 := Grew.blk g110 m3 ((sep.bp 2 0))
   replace sep := sep.up g110.size
   refine sD [(2,pV h.size),(6,.slice (some ah) 8 ch),(8,pV h101.size)] ?_
   clear hF a; intro a hF
   refine tK ?_
   refine cS ?_
   refine cS ?_
   refine cP 16 hF ?_
   refine sP 1 [.int .i64 0] ?_
   refine sD [(2,pV h.size),(6,.slice (some ah) 8 ch),(8,pV h101.size),(9,.int .i64 0)] ?_
   clear hF a; intro a hF
   refine tK ?_
   refine cB 6 ?_
   refine C.loop (fun m a h' => ∃ i : Nat,m = 32 - i ∧ (Ext h h') ∧ (h'[h.size]? = some (.cells #[.int .u8 0,.int .u8 0,.int .u8 0,.int .u8 0,.int .u8 0,.int .u8 0,.int .u8 0,.int .u8 0,.int .u8 0,.int .u8 0,.int .u8 0,.int .u8 0,.int .u8 0,.int .u8 0,.int .u8 0,.int .u8 0,.int .u8 0,.int .u8 0,.int .u8 0,.int .u8 0,.int .u8 0,.int .u8 0,.int .u8 0,.int .u8 0,.int .u8 0,.int .u8 0,.int .u8 0,.int .u8 0,.int .u8 0,.int .u8 0,.int .u8 0,.int .u8 0] 31)) ∧ (i ≤ 32) ∧ (Own h' (.slice (some ah) 8 ch) 61 8 1 (sv st')) ∧ (Sep h.size h'.size [some (h101.size),(some ah).map (·.block),some (h.size)]) ∧ (h'[h101.size]? = some (.cells (ol (outW (s8l st') i)).toArray 31)) ∧ (Fr a 72 [(2,.pointer (some ⟨h.size,0,none⟩)),(6,.slice (some ah) 8 ch),(8,.pointer (some ⟨h101.size,0,none⟩)),(9,.int .i64 ((i : Nat) : Int))])) (32 - 0) [1,1,1,1,1,1,1,1,1,0,1,0,0] (by kernel_rfl) ⟨0,rfl,e0,m3,(by omega),own_h,sep,m106,hF⟩ ?_
   clear hF a
   clear e0
   clear m3
   clear own_h
   clear sep
   clear m106
   rintro m a h111 ⟨i,rfl,e0,m3,hi32,own_h,sep,m106,hF⟩
   refine cS ?_
   refine cS ?_
   refine cP 17 hF ?_
   refine sP 2 [nV i,.bool (decide (((i : Nat) : Int) < (32 : Int)))] ?_
   refine sD [(2,pV h.size),(6,.slice (some ah) 8 ch),(8,pV h101.size),(9,nV i),(55,.bool (decide (((i : Nat) : Int) < (32 : Int))))] ?_
   clear hF a; intro a hF
   refine tK ?_
   refine cC 55 (decide (((i : Nat) : Int) < (32 : Int))) hF (fun hc112 => ?_) (fun hc112 => ?_)
   ·skip
    replace hc112 := of_decide_eq_true hc112
    refine cN ?_
    refine tK ?_
    refine cS ?_
    refine cB 7 ?_
    refine cP 19 hF ?_
    refine sP 3 [nV i,.slice (some ah) 8 ch,nV i] ?_
    refine s1 4 (.int .i64 ((i / 4 : Nat) : Int)) (.int .i64 (IntKind.i64.wrap (Int.tdiv ((i : Nat) : Int) 4))) (congrArg (Value.int .i64) ((congrArg IntKind.i64.wrap (tdivN (i) 4)).trans (w64 (by omega) (by omega)))) ?_
    refine sC 5 (.pointer (some (Addr.add ah (i / 4)))) ((Calm.indexA (a := ah) (len := 8) (sz := 1) (k := ((i / 4 : Nat) : Int)) (i / 4) (i / 4) (by kernel_rfl) rfl (by omega) (by omega)) _) ?_
    refine sC 6 (wv ((s8l st').getD (i / 4) 0)) (Calm.load (T := 61) (p := (Addr.add ah (i / 4))) (by kernel_rfl) (Loads.one (k := 1) (by kernel_rfl) (own_h.cell (wget (l := s8l st') (n := 8) rfl (by omega))))) ?_
    refine sP 7 [nV i] ?_
    refine s1 8 (.int .i64 ((i % 4 : Nat) : Int)) (.int .i64 (Int.tmod ((i : Nat) : Int) 4)) (congrArg (Value.int .i64) (tmodN (i) 4)) ?_
    refine s1 9 (.int .i64 ((8 * (i % 4) : Nat) : Int)) (.int .i64 (IntKind.i64.wrap (8 * ((i % 4 : Nat) : Int)))) (congrArg (Value.int .i64) (w64' (by omega) (by omega) (by omega))) ?_
    refine s1 10 (.int .i64 ((24 - (8 * (i % 4)) : Nat) : Int)) (.int .i64 (IntKind.i64.wrap (24 - ((8 * (i % 4) : Nat) : Int)))) (congrArg (Value.int .i64) (w64' (by omega) (by omega) (by omega))) ?_
    refine sC 11 (wv (((s8l st').getD (i / 4) 0) >>> (24 - (8 * (i % 4))))) ((Calm.shr32 (e := ((s8l st').getD (i / 4) 0)) (24 - (8 * (i % 4))) (by kernel_rfl) (by omega)) _) ?_
    refine s1 12 (bv (b32 (((s8l st').getD (i / 4) 0) >>> (24 - (8 * (i % 4)))))) (.int .u8 (IntKind.u8.wrap ((((s8l st').getD (i / 4) 0) >>> (24 - (8 * (i % 4)))).toNat : Int))) (conv32 (((s8l st').getD (i / 4) 0) >>> (24 - (8 * (i % 4))))) ?_
    refine sC 13 (.pointer (some ⟨h101.size,i,none⟩)) ((Calm.indexB (b := h101.size) (off := 0) (len := 32) (sz := 1) (k := ((i : Nat) : Int)) i i (by kernel_rfl) rfl (by omega) (by omega)) _) ?_
    refine SeqK.eff (k' := 14) (Does.store (b := h101.size) (off := i) (vs := [bv (b32 (((s8l st').getD (i / 4) 0) >>> (24 - (8 * (i % 4)))))]) (l := ol (outW (s8l st') i)) (by kernel_rfl) m106 (ol_fit (outW_length _ _) (by omega)) (ones_map [(b32 (((s8l st').getD (i / 4) 0) >>> (24 - (8 * (i % 4)))))])) rfl ?_
    rintro _ h113 ⟨rfl,hh⟩
    have g114 : Grew (some (h101.size)) h111 h113 := hput_gr hh
    replace m106 : h113[h101.size]? = some (.cells (ol (outW (s8l st') i ++ [(b32 (((s8l st').getD (i / 4) 0) >>> (24 - (8 * (i % 4)))))])).toArray 31) := hput_at (off := i) (vs := [bv (b32 (((s8l st').getD (i / 4) 0) >>> (24 - (8 * (i % 4)))))]) (l := (ol (outW (s8l st') i))) hh (ol_put (outW_length _ _) (by omega)) m106
    clear hh
    replace e0 := e0.grew g114 (sep.low 0 rfl)
    replace own_h := own_h.kept g114 (by rw [blkOf_slice]; exact (sep.ap 1 0))
    replace m3 := Grew.blk g114 m3 ((sep.bp 2 0))
    replace sep := sep.up g114.size
    refine sD [(2,pV h.size),(6,.slice (some ah) 8 ch),(8,pV h101.size),(9,nV i)] ?_
    clear hF a; intro a hF
    show C Tryd.prog (sub b26 [1,1,1,1,1,1,1,1,1,0,1,0,0,1,1]) _ a h113
    refine cP 18 hF ?_
    refine sP 1 [nV i] ?_
    refine s1 2 (.int .i64 ((i + 1 : Nat) : Int)) (.int .i64 (IntKind.i64.wrap (((i : Nat) : Int) + 1))) (congrArg (Value.int .i64) (w64' (by omega) (by omega) (by omega))) ?_
    refine sP 3 [nV (i + 1)] ?_
    refine sD [(2,pV h.size),(6,.slice (some ah) 8 ch),(8,pV h101.size),(9,nV (i + 1))] ?_
    clear hF a; intro a hF
    show ∃ m',m' < _ ∧ _
    refine ⟨_,?_,(i + 1),rfl,e0,m3,(by omega),own_h,sep,m106,hF⟩
    omega
   ·skip
    replace hc112 := of_decide_eq_false hc112
    obtain rfl : i = 32 := by omega
    rw [ol_full (outW_length _ _),outW_told] at m106
    refine cX 6 ?_
    show C Tryd.prog (sub b26 [1,1,1,1,1,1,1,1,1,1]) _ a h111
    refine cS ?_
    refine cP 20 hF ?_
    refine sC 1 (.agg ((told st').map bv).toArray) (Calm.load (T := 31) (p := ⟨h101.size,0,none⟩) (by kernel_rfl) (Loads.all (vs := (told st').map bv) (by kernel_rfl) m106)) ?_
    refine SeqK.eff (k' := 2) (Does.store (b := h.size) (off := 0) (vs := (told st').map bv) (l := [.int .u8 0,.int .u8 0,.int .u8 0,.int .u8 0,.int .u8 0,.int .u8 0,.int .u8 0,.int .u8 0,.int .u8 0,.int .u8 0,.int .u8 0,.int .u8 0,.int .u8 0,.int .u8 0,.int .u8 0,.int .u8 0,.int .u8 0,.int .u8 0,.int .u8 0,.int .u8 0,.int .u8 0,.int .u8 0,.int .u8 0,.int .u8 0,.int .u8 0,.int .u8 0,.int .u8 0,.int .u8 0,.int .u8 0,.int .u8 0,.int .u8 0,.int .u8 0]) (by kernel_rfl) m3 (of_decide_eq_true (by kernel_rfl)) (ones_map _)) rfl ?_
    rintro _ h115 ⟨rfl,hh⟩
    have g116 : Grew (some (h.size)) h111 h115 := hput_gr hh
    replace m3 : h115[h.size]? = some (.cells ((told st').map bv).toArray 31) := hput_at (off := 0) (vs := (told st').map bv) (l := ([.int .u8 0,.int .u8 0,.int .u8 0,.int .u8 0,.int .u8 0,.int .u8 0,.int .u8 0,.int .u8 0,.int .u8 0,.int .u8 0,.int .u8 0,.int .u8 0,.int .u8 0,.int .u8 0,.int .u8 0,.int .u8 0,.int .u8 0,.int .u8 0,.int .u8 0,.int .u8 0,.int .u8 0,.int .u8 0,.int .u8 0,.int .u8 0,.int .u8 0,.int .u8 0,.int .u8 0,.int .u8 0,.int .u8 0,.int .u8 0,.int .u8 0,.int .u8 0])) hh (by kernel_rfl) m3
    clear hh
    replace e0 := e0.grew g116 (sep.low 2 rfl)
    replace own_h := own_h.kept g116 (by rw [blkOf_slice]; exact (sep.ap 1 2))
    replace m106 := Grew.blk g116 m106 ((sep.bp 0 2))
    replace sep := sep.up g116.size
    refine sD [(2,pV h.size)] ?_
    clear hF a; intro a hF
    refine tK ?_
    refine cR ?_
    refine ret_ok [.cell 2 31] [.agg (((told st').map bv).toArray)] (.agg (((told st').map bv).toArray)) rfl hF ⟨⟨_,rfl,Loads.all (vs := (told st').map bv) (by kernel_rfl) m3⟩,trivial⟩ rfl ?_
    subst est
    exact ⟨rfl,e0⟩
end Go.Proofs.YtkjlafiefgbjpaaDoor
