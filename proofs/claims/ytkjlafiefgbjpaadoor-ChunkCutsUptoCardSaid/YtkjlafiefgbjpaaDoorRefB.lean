/- Walks of the document's SHA-256: what each function computes, as a law of its calls. No condition but those that each theorem names. -/
import Derived.Test.YtkjlafiefgbjpaaDoorRefA
namespace Go.Proofs.YtkjlafiefgbjpaaDoor
open Go Go.Lane Go.Sha
noncomputable def b43 : Code := Tryd.f43.body.getD .skip
set_option maxHeartbeats 1000000 in
theorem rpiece_sat (h : Heap) (s : S8) (va : Addr) (vc : Nat) (hs : Row h (.slice (some va) 8 vc) 8 1 (sv s)) (pa : Addr) (pc : Nat) (p : List UInt8) (hp : ∀ j,j < 64 → hcell h (pa.add j) = some (bv (p.getD j 0))) : Sat Tryd.prog 43 #[.slice (some va) 8 vc,.slice (some pa) 64 pc] h fun v h' => ∃ ad cap,v = .slice (some ad) 8 cap ∧ Own h' (.slice (some ad) 8 cap) 61 8 1 (sv (piece s p)) ∧ Ext h h' ∧ h.size ≤ ad.block := by
 have e0 := Ext.refl h
 have sep : Sep h.size h.size [] := Sep.nil _ _
 refine sat_of (args := [.slice (some va) 8 vc,.slice (some pa) 64 pc]) (fn := Tryd.f43) (B := b43) (n := 188) (L := [(0,.slice (some va) 8 vc),(1,.slice (some pa) 64 pc)]) Tryd.func43 rfl (by kernel_rfl) rfl ?_
 intro a hF
 refine cS ?_
 refine cP 0 hF ?_
 refine sP 1 [.slice none 0 0] ?_
 refine sD [(0,.slice (some va) 8 vc),(1,.slice (some pa) 64 pc)] ?_
 clear hF a; intro a hF
 refine tK ?_
 refine cS ?_
 refine cP 1 hF ?_
 refine SeqK.eff (k' := 1) (Does.new (v := .slice (some ⟨h.size,0,none⟩) 0 0) (o := .cells #[] 61) (by kernel_rfl)) rfl ?_
 rintro _ h1 ⟨rfl,hh⟩
 have g2 : Ext h h1 := push_ext hh
 have m3 : h1[h.size]? = some (.cells #[] 61) := push_at hh
 clear hh
 have lt4 := blk_lt m3
 have zs5 := e0.size
 have hlo := e0.size
 have sepo := sep
 replace e0 := e0.ext g2
 replace sep := sep.up g2.size
 replace sep := sepo.new hlo (blk_lt m3)
 clear sepo hlo
 refine sP 2 [.slice (some ⟨h.size,0,none⟩) 0 0] ?_
 refine sD [(0,.slice (some va) 8 vc),(1,.slice (some pa) 64 pc),(5,.slice (some ⟨h.size,0,none⟩) 0 0)] ?_
 clear hF a; intro a hF
 refine tK ?_
 refine cS ?_
 refine cS ?_
 refine cP 2 hF ?_
 refine sP 1 [.int .i64 0] ?_
 refine sD [(0,.slice (some va) 8 vc),(1,.slice (some pa) 64 pc),(5,.slice (some ⟨h.size,0,none⟩) 0 0),(6,.int .i64 0)] ?_
 clear hF a; intro a hF
 refine tK ?_
 refine cB 0 ?_
 have own_w : Own h1 (.slice (some ⟨h.size,0,none⟩) 0 0) 61 ([] : List W).length 1 (([] : List W).map wv) := Own.empty 1 m3
 replace sep : Sep h.size h1.size [(some ⟨h.size,0,none⟩ : Option Addr).map (·.block)] := sep
 clear m3 lt4 zs5
 refine C.loop (fun m a h' => ∃ k : Nat,∃ aw : Option Addr,∃ cw : Nat,m = 64 - k ∧ (Ext h h') ∧ (k ≤ 64) ∧ (Own h' (.slice aw (refW p k).length cw) 61 (refW p k).length 1 ((refW p k).map wv)) ∧ (Sep h.size h'.size [aw.map (·.block)]) ∧ (Fr a 188 [(0,.slice (some va) 8 vc),(1,.slice (some pa) 64 pc),(5,.slice aw ((refW p k).length) cw),(6,.int .i64 ((k : Nat) : Int))])) (64 - 0) [1,1,0,1,0,0] (by kernel_rfl) ⟨0,(some ⟨h.size,0,none⟩),0,rfl,e0,(by omega),own_w,sep,hF⟩ ?_
 clear hF a
 clear e0
 clear own_w
 clear sep
 rintro m a h6 ⟨k,aw,cw,rfl,e0,hk,own_w,sep,hF⟩
 refine cS ?_
 refine cS ?_
 refine cP 3 hF ?_
 refine sP 2 [nV k,.bool (decide (((k : Nat) : Int) < (64 : Int)))] ?_
 refine sD [(0,.slice (some va) 8 vc),(1,.slice (some pa) 64 pc),(5,.slice aw ((refW p k).length) cw),(6,nV k),(19,.bool (decide (((k : Nat) : Int) < (64 : Int))))] ?_
 clear hF a; intro a hF
 refine tK ?_
 refine cC 19 (decide (((k : Nat) : Int) < (64 : Int))) hF (fun hc7 => ?_) (fun hc7 => ?_)
 ·skip
  replace hc7 := of_decide_eq_true hc7
  refine cN ?_
  refine tK ?_
  refine cS ?_
  refine cB 1 ?_
  refine cS ?_
  refine cS ?_
  refine cP 5 hF ?_
  refine sP 2 [nV k,.bool (decide (((k : Nat) : Int) < (16 : Int)))] ?_
  refine sD [(0,.slice (some va) 8 vc),(1,.slice (some pa) 64 pc),(5,.slice aw ((refW p k).length) cw),(6,nV k),(23,.bool (decide (((k : Nat) : Int) < (16 : Int))))] ?_
  clear hF a; intro a hF
  refine tK ?_
  refine cC 23 (decide (((k : Nat) : Int) < (16 : Int))) hF (fun hc8 => ?_) (fun hc8 => ?_)
  ·skip
   replace hc8 := of_decide_eq_true hc8
   have hlo : k < 16 := by omega
   refine cS ?_
   refine cP 6 hF ?_
   refine sP 3 [.slice aw ((refW p k).length) cw,.slice (some pa) 64 pc,nV k] ?_
   refine s1 4 (.int .i64 ((4 * k : Nat) : Int)) (.int .i64 (IntKind.i64.wrap (4 * ((k : Nat) : Int)))) (congrArg (Value.int .i64) (w64' (by omega) (by omega) (by omega))) ?_
   refine sC 5 (wv (word p (4 * k))) (Does.call (f := 50) (args := #[.slice (some pa) 64 pc,.int .i64 ((4 * k : Nat) : Int)]) (by kernel_rfl) (rword_sat _ pa pc p _ (by omega) (fun j hj => e0.cell (hp j hj)))) ?_
   refine SeqK.eff (k' := 6) (Does.new (v := .slice (some ⟨h6.size,0,none⟩) 1 1) (o := .cells #[wv (word p (4 * k))] 61) (by kernel_rfl)) rfl ?_
   rintro _ h9 ⟨rfl,hh⟩
   have g10 : Ext h6 h9 := push_ext hh
   have m11 : h9[h6.size]? = some (.cells #[wv (word p (4 * k))] 61) := push_at hh
   clear hh
   have lt12 := blk_lt m11
   have zs13 := e0.size
   have hlo := e0.size
   have sepo := sep
   replace e0 := e0.ext g10
   replace own_w := own_w.ext g10
   replace sep := sep.up g10.size
   replace sep := sepo.new hlo (blk_lt m11)
   clear sepo hlo
   refine SeqK.eff (k' := 7) (Does.append2 (t := 62) (E := 61) (sz := 1) (by_ := 4) (n := (refW p k).length) (m := 1) (v := .slice aw ((refW p k).length) cw) (x := .slice (some ⟨h6.size,0,none⟩) 1 1) (xs := ((refW p k).map wv)) (ys := (([(word p (4 * k))]).map wv)) (by kernel_rfl) (by kernel_rfl) own_w (Row.blk (l := [wv (word p (4 * k))]) m11 rfl) (ones_wvs _) (by unfold maxLen; rw [refW_length]; omega) (by rw [refW_length]; omega)) rfl ?_
   rintro _ h16 ⟨ad14,cap15,rfl,ownx,g,hb⟩
   rw [blkOf_slice] at g hb
   have hlo := e0.size
   have sepo := sep
   replace e0 := e0.grew g (sep.low 1 rfl)
   replace m11 := Grew.blk g m11 ((sep.bp 0 1))
   replace sep := sep.up g.size
   replace sep : Sep h.size h16.size [some (h6.size),ad14.map (·.block)] := sepo.set g.size hlo 1 (y := ad14.map (fun (x : Addr) => x.block)) rfl (hb.imp id fun e => .inr ⟨_,e,Nat.le_refl _⟩) (fun k e => ownx.lt (by rw [blkOf_slice]; exact e))
   replace own_w : Own h16 (.slice ad14 ((refW p k ++ [word p (4 * k)]).length) cap15) 61 ((refW p k ++ [word p (4 * k)]).length) 1 ((refW p k ++ [word p (4 * k)]).map wv) := Own.app (L2 := refW p k ++ [word p (4 * k)]) ownx (by first | rfl | simp) (by first | rfl | (simp; done) | (simp; omega))
   clear ownx g hb hlo sepo
   clear m11 lt12 zs13
   replace sep := sep.sub (l' := [ad14.map (·.block)]) (.cons _ (.cons_cons _ (.slnil)))
   refine sP 8 [.slice ad14 (((refW p k).length) + 1) cap15] ?_
   refine sD [(0,.slice (some va) 8 vc),(1,.slice (some pa) 64 pc),(5,.slice ad14 (((refW p k).length) + 1) cap15),(6,nV k)] ?_
   clear hF a; intro a hF
   have hcan : (((refW p k).length) + 1 : Nat) = (refW p k ++ [word p (4 * k)]).length := by first | (simp; done) | (simp; omega)
   rw [hcan] at hF; clear hcan
   refine tK ?_
   refine cX 1 ?_
   show C Tryd.prog (sub b43 [1,1,0,1,0,0,1,1]) _ a h16
   refine cP 4 hF ?_
   refine sP 1 [nV k] ?_
   refine s1 2 (.int .i64 ((k + 1 : Nat) : Int)) (.int .i64 (IntKind.i64.wrap (((k : Nat) : Int) + 1))) (congrArg (Value.int .i64) (w64' (by omega) (by omega) (by omega))) ?_
   refine sP 3 [nV (k + 1)] ?_
   refine sD [(0,.slice (some va) 8 vc),(1,.slice (some pa) 64 pc),(5,.slice ad14 ((refW p k ++ [word p (4 * k)]).length) cap15),(6,nV (k + 1))] ?_
   clear hF a; intro a hF
   rw [refW_lo hlo] at own_w hF
   show ∃ m',m' < _ ∧ _
   refine ⟨_,?_,k + 1,ad14,cap15,rfl,e0,(by omega),own_w,sep,hF⟩
   omega
  ·skip
   replace hc8 := of_decide_eq_false hc8
   have hlo : 16 ≤ k := by omega
   obtain ⟨ax,rfl,hcw⟩ := own_w.someA (by rw [refW_length]; omega)
   have hwl := refW_length p k
   refine cN ?_
   refine tK ?_
   refine cS ?_
   refine cP 7 hF ?_
   refine sP 2 [.slice (some ax) ((refW p k).length) cw,nV k] ?_
   refine s1 3 (.int .i64 ((k - 2 : Nat) : Int)) (.int .i64 (IntKind.i64.wrap (((k : Nat) : Int) - 2))) (congrArg (Value.int .i64) (w64' (by omega) (by omega) (by omega))) ?_
   refine sC 4 (.pointer (some (Addr.add ax (k - 2)))) ((Calm.indexA (a := ax) (len := (refW p k).length) (sz := 1) (k := ((k - 2 : Nat) : Int)) (k - 2) (k - 2) (by kernel_rfl) rfl (by omega) (by omega)) _) ?_
   refine sC 5 (wv ((refW p k).getD (k - 2) 0)) (Calm.load (T := 61) (p := (Addr.add ax (k - 2))) (by kernel_rfl) (Loads.one (k := 1) (by kernel_rfl) (own_w.cell (wget hwl (by omega))))) ?_
   refine sP 6 [wv ((refW p k).getD (k - 2) 0)] ?_
   refine sD [(0,.slice (some va) 8 vc),(1,.slice (some pa) 64 pc),(5,.slice (some ax) ((refW p k).length) cw),(6,nV k),(7,wv ((refW p k).getD (k - 2) 0))] ?_
   clear hF a; intro a hF
   refine tK ?_
   refine cS ?_
   refine cP 8 hF ?_
   refine sP 2 [.slice (some ax) ((refW p k).length) cw,nV k] ?_
   refine s1 3 (.int .i64 ((k - 15 : Nat) : Int)) (.int .i64 (IntKind.i64.wrap (((k : Nat) : Int) - 15))) (congrArg (Value.int .i64) (w64' (by omega) (by omega) (by omega))) ?_
   refine sC 4 (.pointer (some (Addr.add ax (k - 15)))) ((Calm.indexA (a := ax) (len := (refW p k).length) (sz := 1) (k := ((k - 15 : Nat) : Int)) (k - 15) (k - 15) (by kernel_rfl) rfl (by omega) (by omega)) _) ?_
   refine sC 5 (wv ((refW p k).getD (k - 15) 0)) (Calm.load (T := 61) (p := (Addr.add ax (k - 15))) (by kernel_rfl) (Loads.one (k := 1) (by kernel_rfl) (own_w.cell (wget hwl (by omega))))) ?_
   refine sP 6 [wv ((refW p k).getD (k - 15) 0)] ?_
   refine sD [(0,.slice (some va) 8 vc),(1,.slice (some pa) 64 pc),(5,.slice (some ax) ((refW p k).length) cw),(6,nV k),(7,wv ((refW p k).getD (k - 2) 0)),(8,wv ((refW p k).getD (k - 15) 0))] ?_
   clear hF a; intro a hF
   refine tK ?_
   refine cD [0,0,2,0,14,30,0,64,254,0,0,1024,3584,7680,16382,0,32798,0,229406,491550,0,1048576,4161566,8388606,0,0,33554432,117440512,251658240,536870910,1073741822,2147483647,4294967295] 9 mixed hF ?_
   refine mP 3 [0,1] [.slice (some ax) ((refW p k).length) cw,wv ((refW p k).getD (k - 2) 0)] ?_
   refine mL 7 4 2 (wv (rr ((refW p k).getD (k - 2) 0) 17)) (Does.call (f := 51) (args := #[wv ((refW p k).getD (k - 2) 0),.int .i64 17]) (by kernel_rfl) (rrot_17 _ ((refW p k).getD (k - 2) 0))) ?_
   refine mP 15 [3] [wv ((refW p k).getD (k - 2) 0)] ?_
   refine mL 31 20 4 (wv (rr ((refW p k).getD (k - 2) 0) 19)) (Does.call (f := 51) (args := #[wv ((refW p k).getD (k - 2) 0),.int .i64 19]) (by kernel_rfl) (rrot_19 _ ((refW p k).getD (k - 2) 0))) ?_
   refine m1 63 5 (wv ((rr ((refW p k).getD (k - 2) 0) 17) ^^^ (rr ((refW p k).getD (k - 2) 0) 19))) (.int .u32 (IntKind.u32.wrap ((BitVec.ofInt 32 ((rr ((refW p k).getD (k - 2) 0) 17).toNat : Int) ^^^ BitVec.ofInt 32 ((rr ((refW p k).getD (k - 2) 0) 19).toNat : Int)).toNat : Int))) (xor32 (rr ((refW p k).getD (k - 2) 0) 17) (rr ((refW p k).getD (k - 2) 0) 19)) ?_
   refine mP 127 [6] [wv ((refW p k).getD (k - 2) 0)] ?_
   refine m1 255 7 (wv (((refW p k).getD (k - 2) 0) >>> 10)) (.int .u32 (Int.fdiv (((refW p k).getD (k - 2) 0).toNat : Int) (2 ^ 10))) (shr32 ((refW p k).getD (k - 2) 0) 10) ?_
   refine m1 511 8 (wv (((rr ((refW p k).getD (k - 2) 0) 17) ^^^ (rr ((refW p k).getD (k - 2) 0) 19)) ^^^ (((refW p k).getD (k - 2) 0) >>> 10))) (.int .u32 (IntKind.u32.wrap ((BitVec.ofInt 32 (((rr ((refW p k).getD (k - 2) 0) 17) ^^^ (rr ((refW p k).getD (k - 2) 0) 19)).toNat : Int) ^^^ BitVec.ofInt 32 ((((refW p k).getD (k - 2) 0) >>> 10).toNat : Int)).toNat : Int))) (xor32 ((rr ((refW p k).getD (k - 2) 0) 17) ^^^ (rr ((refW p k).getD (k - 2) 0) 19)) (((refW p k).getD (k - 2) 0) >>> 10)) ?_
   refine mP 2047 [9,10] [.slice (some ax) ((refW p k).length) cw,nV k] ?_
   refine m1 4095 11 (.int .i64 ((k - 7 : Nat) : Int)) (.int .i64 (IntKind.i64.wrap (((k : Nat) : Int) - 7))) (congrArg (Value.int .i64) (w64' (by omega) (by omega) (by omega))) ?_
   refine mF 8191 12 (.pointer (some (Addr.add ax (k - 7)))) (Calm.indexA (a := ax) (len := (refW p k).length) (sz := 1) (k := ((k - 7 : Nat) : Int)) (k - 7) (k - 7) (by kernel_rfl) rfl (by omega) (by omega)) ?_
   refine mL 16383 8212 13 (wv ((refW p k).getD (k - 7) 0)) (Calm.load (T := 61) (p := (Addr.add ax (k - 7))) (by kernel_rfl) (Loads.one (k := 1) (by kernel_rfl) (own_w.cell (wget hwl (by omega))))) ?_
   refine m1 32767 14 (wv ((((rr ((refW p k).getD (k - 2) 0) 17) ^^^ (rr ((refW p k).getD (k - 2) 0) 19)) ^^^ (((refW p k).getD (k - 2) 0) >>> 10)) + ((refW p k).getD (k - 7) 0))) (.int .u32 (IntKind.u32.wrap (((((rr ((refW p k).getD (k - 2) 0) 17) ^^^ (rr ((refW p k).getD (k - 2) 0) 19)) ^^^ (((refW p k).getD (k - 2) 0) >>> 10)).toNat : Int) + (((refW p k).getD (k - 7) 0).toNat : Int)))) (add32 (((rr ((refW p k).getD (k - 2) 0) 17) ^^^ (rr ((refW p k).getD (k - 2) 0) 19)) ^^^ (((refW p k).getD (k - 2) 0) >>> 10)) ((refW p k).getD (k - 7) 0)) ?_
   refine mP 65535 [15] [wv ((refW p k).getD (k - 15) 0)] ?_
   refine mL 131071 73748 16 (wv (rr ((refW p k).getD (k - 15) 0) 7)) (Does.call (f := 51) (args := #[wv ((refW p k).getD (k - 15) 0),.int .i64 7]) (by kernel_rfl) (rrot_7 _ ((refW p k).getD (k - 15) 0))) ?_
   refine mP 262143 [17] [wv ((refW p k).getD (k - 15) 0)] ?_
   refine mL 524287 335892 18 (wv (rr ((refW p k).getD (k - 15) 0) 18)) (Does.call (f := 51) (args := #[wv ((refW p k).getD (k - 15) 0),.int .i64 18]) (by kernel_rfl) (rrot_18 _ ((refW p k).getD (k - 15) 0))) ?_
   refine m1 1048575 19 (wv ((rr ((refW p k).getD (k - 15) 0) 7) ^^^ (rr ((refW p k).getD (k - 15) 0) 18))) (.int .u32 (IntKind.u32.wrap ((BitVec.ofInt 32 ((rr ((refW p k).getD (k - 15) 0) 7).toNat : Int) ^^^ BitVec.ofInt 32 ((rr ((refW p k).getD (k - 15) 0) 18).toNat : Int)).toNat : Int))) (xor32 (rr ((refW p k).getD (k - 15) 0) 7) (rr ((refW p k).getD (k - 15) 0) 18)) ?_
   refine mP 2097151 [20] [wv ((refW p k).getD (k - 15) 0)] ?_
   refine m1 4194303 21 (wv (((refW p k).getD (k - 15) 0) >>> 3)) (.int .u32 (Int.fdiv (((refW p k).getD (k - 15) 0).toNat : Int) (2 ^ 3))) (shr32 ((refW p k).getD (k - 15) 0) 3) ?_
   refine m1 8388607 22 (wv (((rr ((refW p k).getD (k - 15) 0) 7) ^^^ (rr ((refW p k).getD (k - 15) 0) 18)) ^^^ (((refW p k).getD (k - 15) 0) >>> 3))) (.int .u32 (IntKind.u32.wrap ((BitVec.ofInt 32 (((rr ((refW p k).getD (k - 15) 0) 7) ^^^ (rr ((refW p k).getD (k - 15) 0) 18)).toNat : Int) ^^^ BitVec.ofInt 32 ((((refW p k).getD (k - 15) 0) >>> 3).toNat : Int)).toNat : Int))) (xor32 ((rr ((refW p k).getD (k - 15) 0) 7) ^^^ (rr ((refW p k).getD (k - 15) 0) 18)) (((refW p k).getD (k - 15) 0) >>> 3)) ?_
   refine m1 16777215 23 (wv (((((rr ((refW p k).getD (k - 2) 0) 17) ^^^ (rr ((refW p k).getD (k - 2) 0) 19)) ^^^ (((refW p k).getD (k - 2) 0) >>> 10)) + ((refW p k).getD (k - 7) 0)) + (((rr ((refW p k).getD (k - 15) 0) 7) ^^^ (rr ((refW p k).getD (k - 15) 0) 18)) ^^^ (((refW p k).getD (k - 15) 0) >>> 3)))) (.int .u32 (IntKind.u32.wrap ((((((rr ((refW p k).getD (k - 2) 0) 17) ^^^ (rr ((refW p k).getD (k - 2) 0) 19)) ^^^ (((refW p k).getD (k - 2) 0) >>> 10)) + ((refW p k).getD (k - 7) 0)).toNat : Int) + ((((rr ((refW p k).getD (k - 15) 0) 7) ^^^ (rr ((refW p k).getD (k - 15) 0) 18)) ^^^ (((refW p k).getD (k - 15) 0) >>> 3)).toNat : Int)))) (add32 ((((rr ((refW p k).getD (k - 2) 0) 17) ^^^ (rr ((refW p k).getD (k - 2) 0) 19)) ^^^ (((refW p k).getD (k - 2) 0) >>> 10)) + ((refW p k).getD (k - 7) 0)) (((rr ((refW p k).getD (k - 15) 0) 7) ^^^ (rr ((refW p k).getD (k - 15) 0) 18)) ^^^ (((refW p k).getD (k - 15) 0) >>> 3))) ?_
   refine mP 67108863 [24,25] [.slice (some ax) ((refW p k).length) cw,nV k] ?_
   refine m1 134217727 26 (.int .i64 ((k - 16 : Nat) : Int)) (.int .i64 (IntKind.i64.wrap (((k : Nat) : Int) - 16))) (congrArg (Value.int .i64) (w64' (by omega) (by omega) (by omega))) ?_
   refine mF 268435455 27 (.pointer (some (Addr.add ax (k - 16)))) (Calm.indexA (a := ax) (len := (refW p k).length) (sz := 1) (k := ((k - 16 : Nat) : Int)) (k - 16) (k - 16) (by kernel_rfl) rfl (by omega) (by omega)) ?_
   refine mL 536870911 268771348 28 (wv ((refW p k).getD (k - 16) 0)) (Calm.load (T := 61) (p := (Addr.add ax (k - 16))) (by kernel_rfl) (Loads.one (k := 1) (by kernel_rfl) (own_w.cell (wget hwl (by omega))))) ?_
   refine m1 1073741823 29 (wv ((((((rr ((refW p k).getD (k - 2) 0) 17) ^^^ (rr ((refW p k).getD (k - 2) 0) 19)) ^^^ (((refW p k).getD (k - 2) 0) >>> 10)) + ((refW p k).getD (k - 7) 0)) + (((rr ((refW p k).getD (k - 15) 0) 7) ^^^ (rr ((refW p k).getD (k - 15) 0) 18)) ^^^ (((refW p k).getD (k - 15) 0) >>> 3))) + ((refW p k).getD (k - 16) 0))) (.int .u32 (IntKind.u32.wrap (((((((rr ((refW p k).getD (k - 2) 0) 17) ^^^ (rr ((refW p k).getD (k - 2) 0) 19)) ^^^ (((refW p k).getD (k - 2) 0) >>> 10)) + ((refW p k).getD (k - 7) 0)) + (((rr ((refW p k).getD (k - 15) 0) 7) ^^^ (rr ((refW p k).getD (k - 15) 0) 18)) ^^^ (((refW p k).getD (k - 15) 0) >>> 3))).toNat : Int) + (((refW p k).getD (k - 16) 0).toNat : Int)))) (add32 (((((rr ((refW p k).getD (k - 2) 0) 17) ^^^ (rr ((refW p k).getD (k - 2) 0) 19)) ^^^ (((refW p k).getD (k - 2) 0) >>> 10)) + ((refW p k).getD (k - 7) 0)) + (((rr ((refW p k).getD (k - 15) 0) 7) ^^^ (rr ((refW p k).getD (k - 15) 0) 18)) ^^^ (((refW p k).getD (k - 15) 0) >>> 3))) ((refW p k).getD (k - 16) 0)) ?_
   refine SimK.eff0 (i := 30) (D' := 2147483647) (X' := 2147483646) (by kernel_rfl) (by kernel_rfl) (by kernel_rfl) (by kernel_rfl) (Does.new (v := .slice (some ⟨h6.size,0,none⟩) 1 1) (o := .cells #[wv ((((((rr ((refW p k).getD (k - 2) 0) 17) ^^^ (rr ((refW p k).getD (k - 2) 0) 19)) ^^^ (((refW p k).getD (k - 2) 0) >>> 10)) + ((refW p k).getD (k - 7) 0)) + (((rr ((refW p k).getD (k - 15) 0) 7) ^^^ (rr ((refW p k).getD (k - 15) 0) 18)) ^^^ (((refW p k).getD (k - 15) 0) >>> 3))) + ((refW p k).getD (k - 16) 0))] 61) (by kernel_rfl)) ?_
   rintro _ h17 ⟨rfl,hh⟩
   have g18 : Ext h6 h17 := push_ext hh
   have m19 : h17[h6.size]? = some (.cells #[wv ((((((rr ((refW p k).getD (k - 2) 0) 17) ^^^ (rr ((refW p k).getD (k - 2) 0) 19)) ^^^ (((refW p k).getD (k - 2) 0) >>> 10)) + ((refW p k).getD (k - 7) 0)) + (((rr ((refW p k).getD (k - 15) 0) 7) ^^^ (rr ((refW p k).getD (k - 15) 0) 18)) ^^^ (((refW p k).getD (k - 15) 0) >>> 3))) + ((refW p k).getD (k - 16) 0))] 61) := push_at hh
   clear hh
   have lt20 := blk_lt m19
   have zs21 := e0.size
   have hlo := e0.size
   have sepo := sep
   replace e0 := e0.ext g18
   replace own_w := own_w.ext g18
   replace sep := sep.up g18.size
   replace sep := sepo.new hlo (blk_lt m19)
   clear sepo hlo
   refine SimK.eff0 (i := 31) (D' := 4294967295) (X' := 4294967295) (by kernel_rfl) (by kernel_rfl) (by kernel_rfl) (by kernel_rfl) (Does.append2 (t := 62) (E := 61) (sz := 1) (by_ := 4) (n := (refW p k).length) (m := 1) (v := .slice (some ax) ((refW p k).length) cw) (x := .slice (some ⟨h6.size,0,none⟩) 1 1) (xs := ((refW p k).map wv)) (ys := (([((((((rr ((refW p k).getD (k - 2) 0) 17) ^^^ (rr ((refW p k).getD (k - 2) 0) 19)) ^^^ (((refW p k).getD (k - 2) 0) >>> 10)) + ((refW p k).getD (k - 7) 0)) + (((rr ((refW p k).getD (k - 15) 0) 7) ^^^ (rr ((refW p k).getD (k - 15) 0) 18)) ^^^ (((refW p k).getD (k - 15) 0) >>> 3))) + ((refW p k).getD (k - 16) 0))]).map wv)) (by kernel_rfl) (by kernel_rfl) own_w (Row.blk (l := [wv ((((((rr ((refW p k).getD (k - 2) 0) 17) ^^^ (rr ((refW p k).getD (k - 2) 0) 19)) ^^^ (((refW p k).getD (k - 2) 0) >>> 10)) + ((refW p k).getD (k - 7) 0)) + (((rr ((refW p k).getD (k - 15) 0) 7) ^^^ (rr ((refW p k).getD (k - 15) 0) 18)) ^^^ (((refW p k).getD (k - 15) 0) >>> 3))) + ((refW p k).getD (k - 16) 0))]) m19 rfl) (ones_wvs _) (by unfold maxLen; rw [refW_length]; omega) (by rw [refW_length]; omega)) ?_
   rintro _ h24 ⟨ad22,cap23,rfl,ownx,g,hb⟩
   rw [blkOf_slice] at g hb
   have hlo := e0.size
   have sepo := sep
   replace e0 := e0.grew g (sep.low 1 rfl)
   replace m19 := Grew.blk g m19 ((sep.bp 0 1))
   replace sep := sep.up g.size
   replace sep : Sep h.size h24.size [some (h6.size),ad22.map (·.block)] := sepo.set g.size hlo 1 (y := ad22.map (fun (x : Addr) => x.block)) rfl (hb.imp id fun e => .inr ⟨_,e,Nat.le_refl _⟩) (fun k e => ownx.lt (by rw [blkOf_slice]; exact e))
   replace own_w : Own h24 (.slice ad22 ((refW p k ++ [refN (refW p k) k]).length) cap23) 61 ((refW p k ++ [refN (refW p k) k]).length) 1 ((refW p k ++ [refN (refW p k) k]).map wv) := Own.app (L2 := refW p k ++ [refN (refW p k) k]) ownx (by first | rfl | simp) (by first | rfl | (simp; done) | (simp; omega))
   clear ownx g hb hlo sepo
   clear m19 lt20 zs21
   replace sep := sep.sub (l' := [ad22.map (·.block)]) (.cons _ (.cons_cons _ (.slnil)))
   refine mP 8589934591 [32] [.slice ad22 (((refW p k).length) + 1) cap23] ?_
   refine mD [(0,.slice (some va) 8 vc),(1,.slice (some pa) 64 pc),(5,.slice ad22 (((refW p k).length) + 1) cap23),(6,nV k)] ?_
   clear hF a; intro a hF
   have hcan : (((refW p k).length) + 1 : Nat) = (refW p k ++ [refN (refW p k) k]).length := by first | (simp; done) | (simp; omega)
   rw [hcan] at hF; clear hcan
   show C Tryd.prog (sub b43 [1,1,0,1,0,0,1,1]) _ a h24
   refine cP 4 hF ?_
   refine sP 1 [nV k] ?_
   refine s1 2 (.int .i64 ((k + 1 : Nat) : Int)) (.int .i64 (IntKind.i64.wrap (((k : Nat) : Int) + 1))) (congrArg (Value.int .i64) (w64' (by omega) (by omega) (by omega))) ?_
   refine sP 3 [nV (k + 1)] ?_
   refine sD [(0,.slice (some va) 8 vc),(1,.slice (some pa) 64 pc),(5,.slice ad22 ((refW p k ++ [refN (refW p k) k]).length) cap23),(6,nV (k + 1))] ?_
   clear hF a; intro a hF
   rw [refW_hi hlo] at own_w hF
   show ∃ m',m' < _ ∧ _
   refine ⟨_,?_,k + 1,ad22,cap23,rfl,e0,(by omega),own_w,sep,hF⟩
   omega
 ·skip
  replace hc7 := of_decide_eq_false hc7
  obtain rfl : k = 64 := by omega
  rw [refW_all] at own_w hF
  obtain ⟨ax,rfl,hcw⟩ := own_w.someA (by rw [sched_length]; omega)
  have hwl := sched_length p 48
  refine cX 0 ?_
  show C Tryd.prog (sub b43 [1,1,1]) _ a h6
  refine cS ?_
  refine cP 10 hF ?_
  refine SeqK.eff (k' := 1) (Does.new (v := .slice (some ⟨h6.size,0,none⟩) 0 0) (o := .cells #[] 61) (by kernel_rfl)) rfl ?_
  rintro _ h25 ⟨rfl,hh⟩
  have g26 : Ext h6 h25 := push_ext hh
  have m27 : h25[h6.size]? = some (.cells #[] 61) := push_at hh
  clear hh
  have lt28 := blk_lt m27
  have zs29 := e0.size
  have hlo := e0.size
  have sepo := sep
  replace e0 := e0.ext g26
  replace own_w := own_w.ext g26
  replace sep := sep.up g26.size
  replace sep := sepo.new hlo (blk_lt m27)
  clear sepo hlo
  refine sP 2 [.slice (some va) 8 vc] ?_
  have own_v : Own h25 (.slice (some ⟨h6.size,0,none⟩) 0 0) 61 ([] : List W).length 1 (([] : List W).map wv) := Own.empty 1 m27
  replace sep : Sep h.size h25.size [(some ⟨h6.size,0,none⟩ : Option Addr).map (·.block),(some ax).map (·.block)] := sep
  clear m27 lt28 zs29
  refine SeqK.eff (k' := 3) (Does.append2 (t := 62) (E := 61) (sz := 1) (by_ := 4) (n := 0) (m := 8) (v := .slice (some ⟨h6.size,0,none⟩) 0 0) (x := .slice (some va) 8 vc) (xs := (([]).map wv)) (ys := ((s8l s).map wv)) (by kernel_rfl) (by kernel_rfl) own_v (hs.ext e0) (ones_wvs _) (by unfold maxLen; simp) (by simp)) rfl ?_
  rintro _ h32 ⟨ad30,cap31,rfl,ownx,g,hb⟩
  rw [blkOf_slice] at g hb
  have hlo := e0.size
  have sepo := sep
  replace e0 := e0.grew g (sep.low 0 rfl)
  replace own_w := own_w.kept g (by rw [blkOf_slice]; exact (sep.ap 1 0))
  replace sep := sep.up g.size
  replace sep : Sep h.size h32.size [ad30.map (·.block),(some ax).map (·.block)] := sepo.set g.size hlo 0 (y := ad30.map (fun (x : Addr) => x.block)) rfl (hb.imp id fun e => .inr ⟨_,e,Nat.le_refl _⟩) (fun k e => ownx.lt (by rw [blkOf_slice]; exact e))
  replace own_v : Own h32 (.slice ad30 8 cap31) 61 8 1 ((s8l s).map wv) := Own.appG ownx (by first | rfl | simp) (by first | rfl | (simp; done) | (simp; omega))
  clear ownx g hb hlo sepo
  refine sP 4 [.slice ad30 (0 + 8) cap31] ?_
  refine sD [(0,.slice (some va) 8 vc),(5,.slice (some ax) ((sched p 48).length) cw),(9,.slice ad30 (0 + 8) cap31)] ?_
  clear hF a; intro a hF
  have hcan : (0 + 8 : Nat) = 8 := by first | (simp; done) | (simp; omega)
  rw [hcan] at hF; clear hcan
  refine tK ?_
  refine cS ?_
  refine cS ?_
  refine cP 11 hF ?_
  refine sP 1 [.int .i64 0] ?_
  refine sD [(0,.slice (some va) 8 vc),(5,.slice (some ax) ((sched p 48).length) cw),(9,.slice ad30 8 cap31),(10,.int .i64 0)] ?_
  clear hF a; intro a hF
  refine tK ?_
  refine cB 2 ?_
  obtain ⟨av,e,hcv⟩ := own_v.someA (by decide)
  subst e
  replace sep := sep.sub (l' := [(some av).map (·.block),(some ax).map (·.block)]) (.cons_cons _ (.cons_cons _ (.slnil)))
  refine C.loop (fun m a h' => ∃ k : Nat,∃ av : Addr,∃ cv : Nat,m = 64 - k ∧ (Ext h h') ∧ (k ≤ 64) ∧ (Own h' (.slice (some av) 8 cv) 61 8 1 ((s8l (rounds (sched p 48) s k)).map wv)) ∧ (Own h' (.slice (some ax) (sched p 48).length cw) 61 (sched p 48).length 1 ((sched p 48).map wv)) ∧ (Sep h.size h'.size [(some av).map (·.block),(some ax).map (·.block)]) ∧ (Fr a 188 [(0,.slice (some va) 8 vc),(5,.slice (some ax) ((sched p 48).length) cw),(9,.slice (some av) 8 cv),(10,.int .i64 ((k : Nat) : Int))])) (64 - 0) [1,1,1,1,0,1,0,0] (by kernel_rfl) ⟨0,av,cap31,rfl,e0,(by omega),own_v,own_w,sep,hF⟩ ?_
  clear hF a
  clear e0
  clear own_v
  clear own_w
  clear sep
  rintro m a h33 ⟨k,av,cv,rfl,e0,hk,own_v,own_w,sep,hF⟩
  refine cS ?_
  refine cS ?_
  refine cP 12 hF ?_
  refine sP 2 [nV k,.bool (decide (((k : Nat) : Int) < (64 : Int)))] ?_
  refine sD [(0,.slice (some va) 8 vc),(5,.slice (some ax) ((sched p 48).length) cw),(9,.slice (some av) 8 cv),(10,nV k),(77,.bool (decide (((k : Nat) : Int) < (64 : Int))))] ?_
  clear hF a; intro a hF
  refine tK ?_
  refine cC 77 (decide (((k : Nat) : Int) < (64 : Int))) hF (fun hc34 => ?_) (fun hc34 => ?_)
  ·skip
   replace hc34 := of_decide_eq_true hc34
   refine cN ?_
   refine tK ?_
   refine cS ?_
   refine cB 3 ?_
   refine cS ?_
   refine cP 14 hF ?_
   refine sP 1 [.slice (some av) 8 cv] ?_
   refine sC 2 (.pointer (some av)) ((Calm.indexA (a := av) (len := 8) (sz := 1) (k := (0 : Int)) 0 0 (by kernel_rfl) rfl (by omega) (by omega)) _) ?_
   refine sC 3 (wv ((rounds (sched p 48) s k).a)) (Calm.load (T := 61) (p := av) (by kernel_rfl) (Loads.one (k := 1) (by kernel_rfl) (own_v.cell (j := 0) rfl))) ?_
   refine sP 4 [wv ((rounds (sched p 48) s k).a)] ?_
   refine sD [(0,.slice (some va) 8 vc),(5,.slice (some ax) ((sched p 48).length) cw),(9,.slice (some av) 8 cv),(10,nV k),(11,wv ((rounds (sched p 48) s k).a))] ?_
   clear hF a; intro a hF
   refine tK ?_
   refine cS ?_
   refine cP 15 hF ?_
   refine sP 1 [.slice (some av) 8 cv] ?_
   refine sC 2 (.pointer (some (Addr.add av 4))) ((Calm.indexA (a := av) (len := 8) (sz := 1) (k := (4 : Int)) 4 4 (by kernel_rfl) rfl (by omega) (by omega)) _) ?_
   refine sC 3 (wv ((rounds (sched p 48) s k).e)) (Calm.load (T := 61) (p := (Addr.add av 4)) (by kernel_rfl) (Loads.one (k := 1) (by kernel_rfl) (own_v.cell (j := 4) rfl))) ?_
   refine sP 4 [wv ((rounds (sched p 48) s k).e)] ?_
   refine sD [(0,.slice (some va) 8 vc),(5,.slice (some ax) ((sched p 48).length) cw),(9,.slice (some av) 8 cv),(10,nV k),(11,wv ((rounds (sched p 48) s k).a)),(12,wv ((rounds (sched p 48) s k).e))] ?_
   clear hF a; intro a hF
   refine tK ?_
   refine cS ?_
   refine cD [0,1,3,0,8,0,56,120,0,376,1016,2047,0,0,8192,24576,61440,0,131072,0,524288,1572864,4063232,8384512,16777215,0,33555320,134217727,0,0,805306368,1879048192,4294967295,8589934591] 16 mixed hF ?_
   refine mP 1 [0] [.slice (some av) 8 cv] ?_
   refine mF 3 1 (.pointer (some (Addr.add av 7))) (Calm.indexA (a := av) (len := 8) (sz := 1) (k := (7 : Int)) 7 7 (by kernel_rfl) rfl (by omega) (by omega)) ?_
   refine mL 7 4 2 (wv ((rounds (sched p 48) s k).h)) (Calm.load (T := 61) (p := (Addr.add av 7)) (by kernel_rfl) (Loads.one (k := 1) (by kernel_rfl) (own_v.cell (j := 7) rfl))) ?_
   refine mP 15 [3] [wv ((rounds (sched p 48) s k).e)] ?_
   refine mL 31 20 4 (wv (rr ((rounds (sched p 48) s k).e) 6)) (Does.call (f := 51) (args := #[wv ((rounds (sched p 48) s k).e),.int .i64 6]) (by kernel_rfl) (rrot_6 _ ((rounds (sched p 48) s k).e))) ?_
   refine mP 63 [5] [wv ((rounds (sched p 48) s k).e)] ?_
   refine mL 127 84 6 (wv (rr ((rounds (sched p 48) s k).e) 11)) (Does.call (f := 51) (args := #[wv ((rounds (sched p 48) s k).e),.int .i64 11]) (by kernel_rfl) (rrot_11 _ ((rounds (sched p 48) s k).e))) ?_
   refine m1 255 7 (wv ((rr ((rounds (sched p 48) s k).e) 6) ^^^ (rr ((rounds (sched p 48) s k).e) 11))) (.int .u32 (IntKind.u32.wrap ((BitVec.ofInt 32 ((rr ((rounds (sched p 48) s k).e) 6).toNat : Int) ^^^ BitVec.ofInt 32 ((rr ((rounds (sched p 48) s k).e) 11).toNat : Int)).toNat : Int))) (xor32 (rr ((rounds (sched p 48) s k).e) 6) (rr ((rounds (sched p 48) s k).e) 11)) ?_
   refine mP 511 [8] [wv ((rounds (sched p 48) s k).e)] ?_
   refine mL 1023 596 9 (wv (rr ((rounds (sched p 48) s k).e) 25)) (Does.call (f := 51) (args := #[wv ((rounds (sched p 48) s k).e),.int .i64 25]) (by kernel_rfl) (rrot_25 _ ((rounds (sched p 48) s k).e))) ?_
   refine m1 2047 10 (wv (((rr ((rounds (sched p 48) s k).e) 6) ^^^ (rr ((rounds (sched p 48) s k).e) 11)) ^^^ (rr ((rounds (sched p 48) s k).e) 25))) (.int .u32 (IntKind.u32.wrap ((BitVec.ofInt 32 (((rr ((rounds (sched p 48) s k).e) 6) ^^^ (rr ((rounds (sched p 48) s k).e) 11)).toNat : Int) ^^^ BitVec.ofInt 32 ((rr ((rounds (sched p 48) s k).e) 25).toNat : Int)).toNat : Int))) (xor32 ((rr ((rounds (sched p 48) s k).e) 6) ^^^ (rr ((rounds (sched p 48) s k).e) 11)) (rr ((rounds (sched p 48) s k).e) 25)) ?_
   refine m1 4095 11 (wv (((rounds (sched p 48) s k).h) + (((rr ((rounds (sched p 48) s k).e) 6) ^^^ (rr ((rounds (sched p 48) s k).e) 11)) ^^^ (rr ((rounds (sched p 48) s k).e) 25)))) (.int .u32 (IntKind.u32.wrap ((((rounds (sched p 48) s k).h).toNat : Int) + ((((rr ((rounds (sched p 48) s k).e) 6) ^^^ (rr ((rounds (sched p 48) s k).e) 11)) ^^^ (rr ((rounds (sched p 48) s k).e) 25)).toNat : Int)))) (add32 ((rounds (sched p 48) s k).h) (((rr ((rounds (sched p 48) s k).e) 6) ^^^ (rr ((rounds (sched p 48) s k).e) 11)) ^^^ (rr ((rounds (sched p 48) s k).e) 25))) ?_
   refine mP 16383 [12,13] [wv ((rounds (sched p 48) s k).e),.slice (some av) 8 cv] ?_
   refine mF 32767 14 (.pointer (some (Addr.add av 5))) (Calm.indexA (a := av) (len := 8) (sz := 1) (k := (5 : Int)) 5 5 (by kernel_rfl) rfl (by omega) (by omega)) ?_
   refine mL 65535 33364 15 (wv ((rounds (sched p 48) s k).f)) (Calm.load (T := 61) (p := (Addr.add av 5)) (by kernel_rfl) (Loads.one (k := 1) (by kernel_rfl) (own_v.cell (j := 5) rfl))) ?_
   refine m1 131071 16 (wv (((rounds (sched p 48) s k).e) &&& ((rounds (sched p 48) s k).f))) (.int .u32 (IntKind.u32.wrap ((BitVec.ofInt 32 (((rounds (sched p 48) s k).e).toNat : Int) &&& BitVec.ofInt 32 (((rounds (sched p 48) s k).f).toNat : Int)).toNat : Int))) (and32 ((rounds (sched p 48) s k).e) ((rounds (sched p 48) s k).f)) ?_
   refine mP 262143 [17] [wv ((rounds (sched p 48) s k).e)] ?_
   refine m1 524287 18 (wv (~~~((rounds (sched p 48) s k).e))) (.int .u32 (IntKind.u32.wrap ((BitVec.ofInt 32 4294967295 ^^^ BitVec.ofInt 32 (((rounds (sched p 48) s k).e).toNat : Int)).toNat : Int))) (not32 ((rounds (sched p 48) s k).e)) ?_
   refine mP 1048575 [19] [.slice (some av) 8 cv] ?_
   refine mF 2097151 20 (.pointer (some (Addr.add av 6))) (Calm.indexA (a := av) (len := 8) (sz := 1) (k := (6 : Int)) 6 6 (by kernel_rfl) rfl (by omega) (by omega)) ?_
   refine mL 4194303 2130516 21 (wv ((rounds (sched p 48) s k).g)) (Calm.load (T := 61) (p := (Addr.add av 6)) (by kernel_rfl) (Loads.one (k := 1) (by kernel_rfl) (own_v.cell (j := 6) rfl))) ?_
   refine m1 8388607 22 (wv ((~~~((rounds (sched p 48) s k).e)) &&& ((rounds (sched p 48) s k).g))) (.int .u32 (IntKind.u32.wrap ((BitVec.ofInt 32 ((~~~((rounds (sched p 48) s k).e)).toNat : Int) &&& BitVec.ofInt 32 (((rounds (sched p 48) s k).g).toNat : Int)).toNat : Int))) (and32 (~~~((rounds (sched p 48) s k).e)) ((rounds (sched p 48) s k).g)) ?_
   refine m1 16777215 23 (wv ((((rounds (sched p 48) s k).e) &&& ((rounds (sched p 48) s k).f)) ^^^ ((~~~((rounds (sched p 48) s k).e)) &&& ((rounds (sched p 48) s k).g)))) (.int .u32 (IntKind.u32.wrap ((BitVec.ofInt 32 ((((rounds (sched p 48) s k).e) &&& ((rounds (sched p 48) s k).f)).toNat : Int) ^^^ BitVec.ofInt 32 (((~~~((rounds (sched p 48) s k).e)) &&& ((rounds (sched p 48) s k).g)).toNat : Int)).toNat : Int))) (xor32 (((rounds (sched p 48) s k).e) &&& ((rounds (sched p 48) s k).f)) ((~~~((rounds (sched p 48) s k).e)) &&& ((rounds (sched p 48) s k).g))) ?_
   refine m1 33554431 24 (wv ((((rounds (sched p 48) s k).h) + (((rr ((rounds (sched p 48) s k).e) 6) ^^^ (rr ((rounds (sched p 48) s k).e) 11)) ^^^ (rr ((rounds (sched p 48) s k).e) 25))) + ((((rounds (sched p 48) s k).e) &&& ((rounds (sched p 48) s k).f)) ^^^ ((~~~((rounds (sched p 48) s k).e)) &&& ((rounds (sched p 48) s k).g))))) (.int .u32 (IntKind.u32.wrap (((((rounds (sched p 48) s k).h) + (((rr ((rounds (sched p 48) s k).e) 6) ^^^ (rr ((rounds (sched p 48) s k).e) 11)) ^^^ (rr ((rounds (sched p 48) s k).e) 25))).toNat : Int) + (((((rounds (sched p 48) s k).e) &&& ((rounds (sched p 48) s k).f)) ^^^ ((~~~((rounds (sched p 48) s k).e)) &&& ((rounds (sched p 48) s k).g))).toNat : Int)))) (add32 (((rounds (sched p 48) s k).h) + (((rr ((rounds (sched p 48) s k).e) 6) ^^^ (rr ((rounds (sched p 48) s k).e) 11)) ^^^ (rr ((rounds (sched p 48) s k).e) 25))) ((((rounds (sched p 48) s k).e) &&& ((rounds (sched p 48) s k).f)) ^^^ ((~~~((rounds (sched p 48) s k).e)) &&& ((rounds (sched p 48) s k).g)))) ?_
   refine mP 872415231 [25,28,29] [nV k,.slice (some ax) ((sched p 48).length) cw,nV k] ?_
   refine mF 1946157055 30 (.pointer (some (Addr.add ax k))) (Calm.indexA (a := ax) (len := (sched p 48).length) (sz := 1) (k := ((k : Nat) : Int)) k k (by kernel_rfl) rfl (by omega) (by omega)) ?_
   refine mL 4093640703 2149614164 31 (wv ((sched p 48).getD k 0)) (Calm.load (T := 61) (p := (Addr.add ax k)) (by kernel_rfl) (Loads.one (k := 1) (by kernel_rfl) (own_w.cell (wget hwl (by omega))))) ?_
   refine SimK.eff (i := 26) (D' := 4160749567) (X' := 100664184) (by kernel_rfl) (by kernel_rfl) (by kernel_rfl) [2,15,21,31] (by kernel_rfl) (Does.call (f := 52) (args := #[.int .i64 ((k : Nat) : Int)]) (by kernel_rfl) (const_sat _ k (by omega))) ?_
   rintro _ h35 ⟨rfl,g⟩
   replace e0 := e0.ext g
   replace own_v := own_v.ext g
   replace own_w := own_w.ext g
   replace sep := sep.up g.size
   refine ⟨?_,?_⟩
   ·intro j hj
    simp only [List.mem_cons,List.not_mem_nil,or_false] at hj
    rcases hj with rfl | rfl | rfl | rfl
    ·exact goodOf (Calm.load (T := 61) (p := (Addr.add av 7)) (by kernel_rfl) (Loads.one (k := 1) (by kernel_rfl) (own_v.cell (j := 7) rfl)))
    ·exact goodOf (Calm.load (T := 61) (p := (Addr.add av 5)) (by kernel_rfl) (Loads.one (k := 1) (by kernel_rfl) (own_v.cell (j := 5) rfl)))
    ·exact goodOf (Calm.load (T := 61) (p := (Addr.add av 6)) (by kernel_rfl) (Loads.one (k := 1) (by kernel_rfl) (own_v.cell (j := 6) rfl)))
    ·exact goodOf (Calm.load (T := 61) (p := (Addr.add ax k)) (by kernel_rfl) (Loads.one (k := 1) (by kernel_rfl) (own_w.cell (wget hwl (by omega)))))
   clear g
   refine m1 4294967295 27 (wv (((((rounds (sched p 48) s k).h) + (((rr ((rounds (sched p 48) s k).e) 6) ^^^ (rr ((rounds (sched p 48) s k).e) 11)) ^^^ (rr ((rounds (sched p 48) s k).e) 25))) + ((((rounds (sched p 48) s k).e) &&& ((rounds (sched p 48) s k).f)) ^^^ ((~~~((rounds (sched p 48) s k).e)) &&& ((rounds (sched p 48) s k).g)))) + (K64.getD k 0))) (.int .u32 (IntKind.u32.wrap ((((((rounds (sched p 48) s k).h) + (((rr ((rounds (sched p 48) s k).e) 6) ^^^ (rr ((rounds (sched p 48) s k).e) 11)) ^^^ (rr ((rounds (sched p 48) s k).e) 25))) + ((((rounds (sched p 48) s k).e) &&& ((rounds (sched p 48) s k).f)) ^^^ ((~~~((rounds (sched p 48) s k).e)) &&& ((rounds (sched p 48) s k).g)))).toNat : Int) + ((K64.getD k 0).toNat : Int)))) (add32 ((((rounds (sched p 48) s k).h) + (((rr ((rounds (sched p 48) s k).e) 6) ^^^ (rr ((rounds (sched p 48) s k).e) 11)) ^^^ (rr ((rounds (sched p 48) s k).e) 25))) + ((((rounds (sched p 48) s k).e) &&& ((rounds (sched p 48) s k).f)) ^^^ ((~~~((rounds (sched p 48) s k).e)) &&& ((rounds (sched p 48) s k).g)))) (K64.getD k 0)) ?_
   refine m1 8589934591 32 (wv ((((((rounds (sched p 48) s k).h) + (((rr ((rounds (sched p 48) s k).e) 6) ^^^ (rr ((rounds (sched p 48) s k).e) 11)) ^^^ (rr ((rounds (sched p 48) s k).e) 25))) + ((((rounds (sched p 48) s k).e) &&& ((rounds (sched p 48) s k).f)) ^^^ ((~~~((rounds (sched p 48) s k).e)) &&& ((rounds (sched p 48) s k).g)))) + (K64.getD k 0)) + ((sched p 48).getD k 0))) (.int .u32 (IntKind.u32.wrap (((((((rounds (sched p 48) s k).h) + (((rr ((rounds (sched p 48) s k).e) 6) ^^^ (rr ((rounds (sched p 48) s k).e) 11)) ^^^ (rr ((rounds (sched p 48) s k).e) 25))) + ((((rounds (sched p 48) s k).e) &&& ((rounds (sched p 48) s k).f)) ^^^ ((~~~((rounds (sched p 48) s k).e)) &&& ((rounds (sched p 48) s k).g)))) + (K64.getD k 0)).toNat : Int) + (((sched p 48).getD k 0).toNat : Int)))) (add32 (((((rounds (sched p 48) s k).h) + (((rr ((rounds (sched p 48) s k).e) 6) ^^^ (rr ((rounds (sched p 48) s k).e) 11)) ^^^ (rr ((rounds (sched p 48) s k).e) 25))) + ((((rounds (sched p 48) s k).e) &&& ((rounds (sched p 48) s k).f)) ^^^ ((~~~((rounds (sched p 48) s k).e)) &&& ((rounds (sched p 48) s k).g)))) + (K64.getD k 0)) ((sched p 48).getD k 0)) ?_
   refine mP 17179869183 [33] [wv ((((((rounds (sched p 48) s k).h) + (((rr ((rounds (sched p 48) s k).e) 6) ^^^ (rr ((rounds (sched p 48) s k).e) 11)) ^^^ (rr ((rounds (sched p 48) s k).e) 25))) + ((((rounds (sched p 48) s k).e) &&& ((rounds (sched p 48) s k).f)) ^^^ ((~~~((rounds (sched p 48) s k).e)) &&& ((rounds (sched p 48) s k).g)))) + (K64.getD k 0)) + ((sched p 48).getD k 0))] ?_
   refine mD [(0,.slice (some va) 8 vc),(5,.slice (some ax) ((sched p 48).length) cw),(9,.slice (some av) 8 cv),(10,nV k),(11,wv ((rounds (sched p 48) s k).a)),(12,wv ((rounds (sched p 48) s k).e)),(13,wv ((((((rounds (sched p 48) s k).h) + (((rr ((rounds (sched p 48) s k).e) 6) ^^^ (rr ((rounds (sched p 48) s k).e) 11)) ^^^ (rr ((rounds (sched p 48) s k).e) 25))) + ((((rounds (sched p 48) s k).e) &&& ((rounds (sched p 48) s k).f)) ^^^ ((~~~((rounds (sched p 48) s k).e)) &&& ((rounds (sched p 48) s k).g)))) + (K64.getD k 0)) + ((sched p 48).getD k 0)))] ?_
   clear hF a; intro a hF
   refine tK ?_
   refine cS ?_
   refine cD [0,1,0,7,15,0,47,127,0,0,512,1536,3840,0,0,16384,49152,122880,261888,0,524288,1572864,0,4194304,12582912,33030144,67108608,134217727,268435455] 17 mixed hF ?_
   refine mP 1 [0] [wv ((rounds (sched p 48) s k).a)] ?_
   refine mL 3 2 1 (wv (rr ((rounds (sched p 48) s k).a) 2)) (Does.call (f := 51) (args := #[wv ((rounds (sched p 48) s k).a),.int .i64 2]) (by kernel_rfl) (rrot_2 _ ((rounds (sched p 48) s k).a))) ?_
   refine mP 7 [2] [wv ((rounds (sched p 48) s k).a)] ?_
   refine mL 15 10 3 (wv (rr ((rounds (sched p 48) s k).a) 13)) (Does.call (f := 51) (args := #[wv ((rounds (sched p 48) s k).a),.int .i64 13]) (by kernel_rfl) (rrot_13 _ ((rounds (sched p 48) s k).a))) ?_
   refine m1 31 4 (wv ((rr ((rounds (sched p 48) s k).a) 2) ^^^ (rr ((rounds (sched p 48) s k).a) 13))) (.int .u32 (IntKind.u32.wrap ((BitVec.ofInt 32 ((rr ((rounds (sched p 48) s k).a) 2).toNat : Int) ^^^ BitVec.ofInt 32 ((rr ((rounds (sched p 48) s k).a) 13).toNat : Int)).toNat : Int))) (xor32 (rr ((rounds (sched p 48) s k).a) 2) (rr ((rounds (sched p 48) s k).a) 13)) ?_
   refine mP 63 [5] [wv ((rounds (sched p 48) s k).a)] ?_
   refine mL 127 74 6 (wv (rr ((rounds (sched p 48) s k).a) 22)) (Does.call (f := 51) (args := #[wv ((rounds (sched p 48) s k).a),.int .i64 22]) (by kernel_rfl) (rrot_22 _ ((rounds (sched p 48) s k).a))) ?_
   refine m1 255 7 (wv (((rr ((rounds (sched p 48) s k).a) 2) ^^^ (rr ((rounds (sched p 48) s k).a) 13)) ^^^ (rr ((rounds (sched p 48) s k).a) 22))) (.int .u32 (IntKind.u32.wrap ((BitVec.ofInt 32 (((rr ((rounds (sched p 48) s k).a) 2) ^^^ (rr ((rounds (sched p 48) s k).a) 13)).toNat : Int) ^^^ BitVec.ofInt 32 ((rr ((rounds (sched p 48) s k).a) 22).toNat : Int)).toNat : Int))) (xor32 ((rr ((rounds (sched p 48) s k).a) 2) ^^^ (rr ((rounds (sched p 48) s k).a) 13)) (rr ((rounds (sched p 48) s k).a) 22)) ?_
   refine mP 1023 [8,9] [wv ((rounds (sched p 48) s k).a),.slice (some av) 8 cv] ?_
   refine mF 2047 10 (.pointer (some (Addr.add av 1))) (Calm.indexA (a := av) (len := 8) (sz := 1) (k := (1 : Int)) 1 1 (by kernel_rfl) rfl (by omega) (by omega)) ?_
   refine mL 4095 2122 11 (wv ((rounds (sched p 48) s k).b)) (Calm.load (T := 61) (p := (Addr.add av 1)) (by kernel_rfl) (Loads.one (k := 1) (by kernel_rfl) (own_v.cell (j := 1) rfl))) ?_
   refine m1 8191 12 (wv (((rounds (sched p 48) s k).a) &&& ((rounds (sched p 48) s k).b))) (.int .u32 (IntKind.u32.wrap ((BitVec.ofInt 32 (((rounds (sched p 48) s k).a).toNat : Int) &&& BitVec.ofInt 32 (((rounds (sched p 48) s k).b).toNat : Int)).toNat : Int))) (and32 ((rounds (sched p 48) s k).a) ((rounds (sched p 48) s k).b)) ?_
   refine mP 32767 [13,14] [wv ((rounds (sched p 48) s k).a),.slice (some av) 8 cv] ?_
   refine mF 65535 15 (.pointer (some (Addr.add av 2))) (Calm.indexA (a := av) (len := 8) (sz := 1) (k := (2 : Int)) 2 2 (by kernel_rfl) rfl (by omega) (by omega)) ?_
   refine mL 131071 67658 16 (wv ((rounds (sched p 48) s k).c)) (Calm.load (T := 61) (p := (Addr.add av 2)) (by kernel_rfl) (Loads.one (k := 1) (by kernel_rfl) (own_v.cell (j := 2) rfl))) ?_
   refine m1 262143 17 (wv (((rounds (sched p 48) s k).a) &&& ((rounds (sched p 48) s k).c))) (.int .u32 (IntKind.u32.wrap ((BitVec.ofInt 32 (((rounds (sched p 48) s k).a).toNat : Int) &&& BitVec.ofInt 32 (((rounds (sched p 48) s k).c).toNat : Int)).toNat : Int))) (and32 ((rounds (sched p 48) s k).a) ((rounds (sched p 48) s k).c)) ?_
   refine m1 524287 18 (wv ((((rounds (sched p 48) s k).a) &&& ((rounds (sched p 48) s k).b)) ^^^ (((rounds (sched p 48) s k).a) &&& ((rounds (sched p 48) s k).c)))) (.int .u32 (IntKind.u32.wrap ((BitVec.ofInt 32 ((((rounds (sched p 48) s k).a) &&& ((rounds (sched p 48) s k).b)).toNat : Int) ^^^ BitVec.ofInt 32 ((((rounds (sched p 48) s k).a) &&& ((rounds (sched p 48) s k).c)).toNat : Int)).toNat : Int))) (xor32 (((rounds (sched p 48) s k).a) &&& ((rounds (sched p 48) s k).b)) (((rounds (sched p 48) s k).a) &&& ((rounds (sched p 48) s k).c))) ?_
   refine mP 1048575 [19] [.slice (some av) 8 cv] ?_
   refine mF 2097151 20 (.pointer (some (Addr.add av 1))) (Calm.indexA (a := av) (len := 8) (sz := 1) (k := (1 : Int)) 1 1 (by kernel_rfl) rfl (by omega) (by omega)) ?_
   refine mL 4194303 2164810 21 (wv ((rounds (sched p 48) s k).b)) (Calm.load (T := 61) (p := (Addr.add av 1)) (by kernel_rfl) (Loads.one (k := 1) (by kernel_rfl) (own_v.cell (j := 1) rfl))) ?_
   refine mP 8388607 [22] [.slice (some av) 8 cv] ?_
   refine mF 16777215 23 (.pointer (some (Addr.add av 2))) (Calm.indexA (a := av) (len := 8) (sz := 1) (k := (2 : Int)) 2 2 (by kernel_rfl) rfl (by omega) (by omega)) ?_
   refine mL 33554431 18942026 24 (wv ((rounds (sched p 48) s k).c)) (Calm.load (T := 61) (p := (Addr.add av 2)) (by kernel_rfl) (Loads.one (k := 1) (by kernel_rfl) (own_v.cell (j := 2) rfl))) ?_
   refine m1 67108863 25 (wv (((rounds (sched p 48) s k).b) &&& ((rounds (sched p 48) s k).c))) (.int .u32 (IntKind.u32.wrap ((BitVec.ofInt 32 (((rounds (sched p 48) s k).b).toNat : Int) &&& BitVec.ofInt 32 (((rounds (sched p 48) s k).c).toNat : Int)).toNat : Int))) (and32 ((rounds (sched p 48) s k).b) ((rounds (sched p 48) s k).c)) ?_
   refine m1 134217727 26 (wv (((((rounds (sched p 48) s k).a) &&& ((rounds (sched p 48) s k).b)) ^^^ (((rounds (sched p 48) s k).a) &&& ((rounds (sched p 48) s k).c))) ^^^ (((rounds (sched p 48) s k).b) &&& ((rounds (sched p 48) s k).c)))) (.int .u32 (IntKind.u32.wrap ((BitVec.ofInt 32 (((((rounds (sched p 48) s k).a) &&& ((rounds (sched p 48) s k).b)) ^^^ (((rounds (sched p 48) s k).a) &&& ((rounds (sched p 48) s k).c))).toNat : Int) ^^^ BitVec.ofInt 32 ((((rounds (sched p 48) s k).b) &&& ((rounds (sched p 48) s k).c)).toNat : Int)).toNat : Int))) (xor32 ((((rounds (sched p 48) s k).a) &&& ((rounds (sched p 48) s k).b)) ^^^ (((rounds (sched p 48) s k).a) &&& ((rounds (sched p 48) s k).c))) (((rounds (sched p 48) s k).b) &&& ((rounds (sched p 48) s k).c))) ?_
   refine m1 268435455 27 (wv ((((rr ((rounds (sched p 48) s k).a) 2) ^^^ (rr ((rounds (sched p 48) s k).a) 13)) ^^^ (rr ((rounds (sched p 48) s k).a) 22)) + (((((rounds (sched p 48) s k).a) &&& ((rounds (sched p 48) s k).b)) ^^^ (((rounds (sched p 48) s k).a) &&& ((rounds (sched p 48) s k).c))) ^^^ (((rounds (sched p 48) s k).b) &&& ((rounds (sched p 48) s k).c))))) (.int .u32 (IntKind.u32.wrap (((((rr ((rounds (sched p 48) s k).a) 2) ^^^ (rr ((rounds (sched p 48) s k).a) 13)) ^^^ (rr ((rounds (sched p 48) s k).a) 22)).toNat : Int) + ((((((rounds (sched p 48) s k).a) &&& ((rounds (sched p 48) s k).b)) ^^^ (((rounds (sched p 48) s k).a) &&& ((rounds (sched p 48) s k).c))) ^^^ (((rounds (sched p 48) s k).b) &&& ((rounds (sched p 48) s k).c))).toNat : Int)))) (add32 (((rr ((rounds (sched p 48) s k).a) 2) ^^^ (rr ((rounds (sched p 48) s k).a) 13)) ^^^ (rr ((rounds (sched p 48) s k).a) 22)) (((((rounds (sched p 48) s k).a) &&& ((rounds (sched p 48) s k).b)) ^^^ (((rounds (sched p 48) s k).a) &&& ((rounds (sched p 48) s k).c))) ^^^ (((rounds (sched p 48) s k).b) &&& ((rounds (sched p 48) s k).c)))) ?_
   refine mP 536870911 [28] [wv ((((rr ((rounds (sched p 48) s k).a) 2) ^^^ (rr ((rounds (sched p 48) s k).a) 13)) ^^^ (rr ((rounds (sched p 48) s k).a) 22)) + (((((rounds (sched p 48) s k).a) &&& ((rounds (sched p 48) s k).b)) ^^^ (((rounds (sched p 48) s k).a) &&& ((rounds (sched p 48) s k).c))) ^^^ (((rounds (sched p 48) s k).b) &&& ((rounds (sched p 48) s k).c))))] ?_
   refine mD [(0,.slice (some va) 8 vc),(5,.slice (some ax) ((sched p 48).length) cw),(9,.slice (some av) 8 cv),(10,nV k),(11,wv ((rounds (sched p 48) s k).a)),(12,wv ((rounds (sched p 48) s k).e)),(13,wv ((((((rounds (sched p 48) s k).h) + (((rr ((rounds (sched p 48) s k).e) 6) ^^^ (rr ((rounds (sched p 48) s k).e) 11)) ^^^ (rr ((rounds (sched p 48) s k).e) 25))) + ((((rounds (sched p 48) s k).e) &&& ((rounds (sched p 48) s k).f)) ^^^ ((~~~((rounds (sched p 48) s k).e)) &&& ((rounds (sched p 48) s k).g)))) + (K64.getD k 0)) + ((sched p 48).getD k 0))),(14,wv ((((rr ((rounds (sched p 48) s k).a) 2) ^^^ (rr ((rounds (sched p 48) s k).a) 13)) ^^^ (rr ((rounds (sched p 48) s k).a) 22)) + (((((rounds (sched p 48) s k).a) &&& ((rounds (sched p 48) s k).b)) ^^^ (((rounds (sched p 48) s k).a) &&& ((rounds (sched p 48) s k).c))) ^^^ (((rounds (sched p 48) s k).b) &&& ((rounds (sched p 48) s k).c)))))] ?_
   clear hF a; intro a hF
   refine tK ?_
   refine cD [0,0,3,0,0,16,48,0,128,384,0,1024,3072,0,15360,0,0,65536,196608,0,524288,1572864,4194303,8388607] 18 mixed hF ?_
   refine mP 3 [0,1] [wv ((((((rounds (sched p 48) s k).h) + (((rr ((rounds (sched p 48) s k).e) 6) ^^^ (rr ((rounds (sched p 48) s k).e) 11)) ^^^ (rr ((rounds (sched p 48) s k).e) 25))) + ((((rounds (sched p 48) s k).e) &&& ((rounds (sched p 48) s k).f)) ^^^ ((~~~((rounds (sched p 48) s k).e)) &&& ((rounds (sched p 48) s k).g)))) + (K64.getD k 0)) + ((sched p 48).getD k 0)),wv ((((rr ((rounds (sched p 48) s k).a) 2) ^^^ (rr ((rounds (sched p 48) s k).a) 13)) ^^^ (rr ((rounds (sched p 48) s k).a) 22)) + (((((rounds (sched p 48) s k).a) &&& ((rounds (sched p 48) s k).b)) ^^^ (((rounds (sched p 48) s k).a) &&& ((rounds (sched p 48) s k).c))) ^^^ (((rounds (sched p 48) s k).b) &&& ((rounds (sched p 48) s k).c))))] ?_
   refine m1 7 2 (wv (((((((rounds (sched p 48) s k).h) + (((rr ((rounds (sched p 48) s k).e) 6) ^^^ (rr ((rounds (sched p 48) s k).e) 11)) ^^^ (rr ((rounds (sched p 48) s k).e) 25))) + ((((rounds (sched p 48) s k).e) &&& ((rounds (sched p 48) s k).f)) ^^^ ((~~~((rounds (sched p 48) s k).e)) &&& ((rounds (sched p 48) s k).g)))) + (K64.getD k 0)) + ((sched p 48).getD k 0)) + ((((rr ((rounds (sched p 48) s k).a) 2) ^^^ (rr ((rounds (sched p 48) s k).a) 13)) ^^^ (rr ((rounds (sched p 48) s k).a) 22)) + (((((rounds (sched p 48) s k).a) &&& ((rounds (sched p 48) s k).b)) ^^^ (((rounds (sched p 48) s k).a) &&& ((rounds (sched p 48) s k).c))) ^^^ (((rounds (sched p 48) s k).b) &&& ((rounds (sched p 48) s k).c)))))) (.int .u32 (IntKind.u32.wrap ((((((((rounds (sched p 48) s k).h) + (((rr ((rounds (sched p 48) s k).e) 6) ^^^ (rr ((rounds (sched p 48) s k).e) 11)) ^^^ (rr ((rounds (sched p 48) s k).e) 25))) + ((((rounds (sched p 48) s k).e) &&& ((rounds (sched p 48) s k).f)) ^^^ ((~~~((rounds (sched p 48) s k).e)) &&& ((rounds (sched p 48) s k).g)))) + (K64.getD k 0)) + ((sched p 48).getD k 0)).toNat : Int) + (((((rr ((rounds (sched p 48) s k).a) 2) ^^^ (rr ((rounds (sched p 48) s k).a) 13)) ^^^ (rr ((rounds (sched p 48) s k).a) 22)) + (((((rounds (sched p 48) s k).a) &&& ((rounds (sched p 48) s k).b)) ^^^ (((rounds (sched p 48) s k).a) &&& ((rounds (sched p 48) s k).c))) ^^^ (((rounds (sched p 48) s k).b) &&& ((rounds (sched p 48) s k).c)))).toNat : Int)))) (add32 ((((((rounds (sched p 48) s k).h) + (((rr ((rounds (sched p 48) s k).e) 6) ^^^ (rr ((rounds (sched p 48) s k).e) 11)) ^^^ (rr ((rounds (sched p 48) s k).e) 25))) + ((((rounds (sched p 48) s k).e) &&& ((rounds (sched p 48) s k).f)) ^^^ ((~~~((rounds (sched p 48) s k).e)) &&& ((rounds (sched p 48) s k).g)))) + (K64.getD k 0)) + ((sched p 48).getD k 0)) ((((rr ((rounds (sched p 48) s k).a) 2) ^^^ (rr ((rounds (sched p 48) s k).a) 13)) ^^^ (rr ((rounds (sched p 48) s k).a) 22)) + (((((rounds (sched p 48) s k).a) &&& ((rounds (sched p 48) s k).b)) ^^^ (((rounds (sched p 48) s k).a) &&& ((rounds (sched p 48) s k).c))) ^^^ (((rounds (sched p 48) s k).b) &&& ((rounds (sched p 48) s k).c))))) ?_
   refine mP 31 [3,4] [wv ((rounds (sched p 48) s k).a),.slice (some av) 8 cv] ?_
   refine mF 63 5 (.pointer (some (Addr.add av 1))) (Calm.indexA (a := av) (len := 8) (sz := 1) (k := (1 : Int)) 1 1 (by kernel_rfl) rfl (by omega) (by omega)) ?_
   refine mL 127 64 6 (wv ((rounds (sched p 48) s k).b)) (Calm.load (T := 61) (p := (Addr.add av 1)) (by kernel_rfl) (Loads.one (k := 1) (by kernel_rfl) (own_v.cell (j := 1) rfl))) ?_
   refine mP 255 [7] [.slice (some av) 8 cv] ?_
   refine mF 511 8 (.pointer (some (Addr.add av 2))) (Calm.indexA (a := av) (len := 8) (sz := 1) (k := (2 : Int)) 2 2 (by kernel_rfl) rfl (by omega) (by omega)) ?_
   refine mL 1023 576 9 (wv ((rounds (sched p 48) s k).c)) (Calm.load (T := 61) (p := (Addr.add av 2)) (by kernel_rfl) (Loads.one (k := 1) (by kernel_rfl) (own_v.cell (j := 2) rfl))) ?_
   refine mP 2047 [10] [.slice (some av) 8 cv] ?_
   refine mF 4095 11 (.pointer (some (Addr.add av 3))) (Calm.indexA (a := av) (len := 8) (sz := 1) (k := (3 : Int)) 3 3 (by kernel_rfl) rfl (by omega) (by omega)) ?_
   refine mL 8191 4672 12 (wv ((rounds (sched p 48) s k).d)) (Calm.load (T := 61) (p := (Addr.add av 3)) (by kernel_rfl) (Loads.one (k := 1) (by kernel_rfl) (own_v.cell (j := 3) rfl))) ?_
   refine mP 16383 [13] [wv ((((((rounds (sched p 48) s k).h) + (((rr ((rounds (sched p 48) s k).e) 6) ^^^ (rr ((rounds (sched p 48) s k).e) 11)) ^^^ (rr ((rounds (sched p 48) s k).e) 25))) + ((((rounds (sched p 48) s k).e) &&& ((rounds (sched p 48) s k).f)) ^^^ ((~~~((rounds (sched p 48) s k).e)) &&& ((rounds (sched p 48) s k).g)))) + (K64.getD k 0)) + ((sched p 48).getD k 0))] ?_
   refine m1 32767 14 (wv (((rounds (sched p 48) s k).d) + ((((((rounds (sched p 48) s k).h) + (((rr ((rounds (sched p 48) s k).e) 6) ^^^ (rr ((rounds (sched p 48) s k).e) 11)) ^^^ (rr ((rounds (sched p 48) s k).e) 25))) + ((((rounds (sched p 48) s k).e) &&& ((rounds (sched p 48) s k).f)) ^^^ ((~~~((rounds (sched p 48) s k).e)) &&& ((rounds (sched p 48) s k).g)))) + (K64.getD k 0)) + ((sched p 48).getD k 0)))) (.int .u32 (IntKind.u32.wrap ((((rounds (sched p 48) s k).d).toNat : Int) + (((((((rounds (sched p 48) s k).h) + (((rr ((rounds (sched p 48) s k).e) 6) ^^^ (rr ((rounds (sched p 48) s k).e) 11)) ^^^ (rr ((rounds (sched p 48) s k).e) 25))) + ((((rounds (sched p 48) s k).e) &&& ((rounds (sched p 48) s k).f)) ^^^ ((~~~((rounds (sched p 48) s k).e)) &&& ((rounds (sched p 48) s k).g)))) + (K64.getD k 0)) + ((sched p 48).getD k 0)).toNat : Int)))) (add32 ((rounds (sched p 48) s k).d) ((((((rounds (sched p 48) s k).h) + (((rr ((rounds (sched p 48) s k).e) 6) ^^^ (rr ((rounds (sched p 48) s k).e) 11)) ^^^ (rr ((rounds (sched p 48) s k).e) 25))) + ((((rounds (sched p 48) s k).e) &&& ((rounds (sched p 48) s k).f)) ^^^ ((~~~((rounds (sched p 48) s k).e)) &&& ((rounds (sched p 48) s k).g)))) + (K64.getD k 0)) + ((sched p 48).getD k 0))) ?_
   refine mP 131071 [15,16] [wv ((rounds (sched p 48) s k).e),.slice (some av) 8 cv] ?_
   refine mF 262143 17 (.pointer (some (Addr.add av 5))) (Calm.indexA (a := av) (len := 8) (sz := 1) (k := (5 : Int)) 5 5 (by kernel_rfl) rfl (by omega) (by omega)) ?_
   refine mL 524287 266816 18 (wv ((rounds (sched p 48) s k).f)) (Calm.load (T := 61) (p := (Addr.add av 5)) (by kernel_rfl) (Loads.one (k := 1) (by kernel_rfl) (own_v.cell (j := 5) rfl))) ?_
   refine mP 1048575 [19] [.slice (some av) 8 cv] ?_
   refine mF 2097151 20 (.pointer (some (Addr.add av 6))) (Calm.indexA (a := av) (len := 8) (sz := 1) (k := (6 : Int)) 6 6 (by kernel_rfl) rfl (by omega) (by omega)) ?_
   refine mL 4194303 2363968 21 (wv ((rounds (sched p 48) s k).g)) (Calm.load (T := 61) (p := (Addr.add av 6)) (by kernel_rfl) (Loads.one (k := 1) (by kernel_rfl) (own_v.cell (j := 6) rfl))) ?_
   refine SimK.eff0 (i := 22) (D' := 8388607) (X' := 8388607) (by kernel_rfl) (by kernel_rfl) (by kernel_rfl) (by kernel_rfl) (Does.new (v := .slice (some ⟨h35.size,0,none⟩) 8 8) (o := .cells #[wv (((((((rounds (sched p 48) s k).h) + (((rr ((rounds (sched p 48) s k).e) 6) ^^^ (rr ((rounds (sched p 48) s k).e) 11)) ^^^ (rr ((rounds (sched p 48) s k).e) 25))) + ((((rounds (sched p 48) s k).e) &&& ((rounds (sched p 48) s k).f)) ^^^ ((~~~((rounds (sched p 48) s k).e)) &&& ((rounds (sched p 48) s k).g)))) + (K64.getD k 0)) + ((sched p 48).getD k 0)) + ((((rr ((rounds (sched p 48) s k).a) 2) ^^^ (rr ((rounds (sched p 48) s k).a) 13)) ^^^ (rr ((rounds (sched p 48) s k).a) 22)) + (((((rounds (sched p 48) s k).a) &&& ((rounds (sched p 48) s k).b)) ^^^ (((rounds (sched p 48) s k).a) &&& ((rounds (sched p 48) s k).c))) ^^^ (((rounds (sched p 48) s k).b) &&& ((rounds (sched p 48) s k).c))))),wv ((rounds (sched p 48) s k).a),wv ((rounds (sched p 48) s k).b),wv ((rounds (sched p 48) s k).c),wv (((rounds (sched p 48) s k).d) + ((((((rounds (sched p 48) s k).h) + (((rr ((rounds (sched p 48) s k).e) 6) ^^^ (rr ((rounds (sched p 48) s k).e) 11)) ^^^ (rr ((rounds (sched p 48) s k).e) 25))) + ((((rounds (sched p 48) s k).e) &&& ((rounds (sched p 48) s k).f)) ^^^ ((~~~((rounds (sched p 48) s k).e)) &&& ((rounds (sched p 48) s k).g)))) + (K64.getD k 0)) + ((sched p 48).getD k 0))),wv ((rounds (sched p 48) s k).e),wv ((rounds (sched p 48) s k).f),wv ((rounds (sched p 48) s k).g)] 61) (by kernel_rfl)) ?_
   rintro _ h36 ⟨rfl,hh⟩
   have g37 : Ext h35 h36 := push_ext hh
   have m38 : h36[h35.size]? = some (.cells #[wv (((((((rounds (sched p 48) s k).h) + (((rr ((rounds (sched p 48) s k).e) 6) ^^^ (rr ((rounds (sched p 48) s k).e) 11)) ^^^ (rr ((rounds (sched p 48) s k).e) 25))) + ((((rounds (sched p 48) s k).e) &&& ((rounds (sched p 48) s k).f)) ^^^ ((~~~((rounds (sched p 48) s k).e)) &&& ((rounds (sched p 48) s k).g)))) + (K64.getD k 0)) + ((sched p 48).getD k 0)) + ((((rr ((rounds (sched p 48) s k).a) 2) ^^^ (rr ((rounds (sched p 48) s k).a) 13)) ^^^ (rr ((rounds (sched p 48) s k).a) 22)) + (((((rounds (sched p 48) s k).a) &&& ((rounds (sched p 48) s k).b)) ^^^ (((rounds (sched p 48) s k).a) &&& ((rounds (sched p 48) s k).c))) ^^^ (((rounds (sched p 48) s k).b) &&& ((rounds (sched p 48) s k).c))))),wv ((rounds (sched p 48) s k).a),wv ((rounds (sched p 48) s k).b),wv ((rounds (sched p 48) s k).c),wv (((rounds (sched p 48) s k).d) + ((((((rounds (sched p 48) s k).h) + (((rr ((rounds (sched p 48) s k).e) 6) ^^^ (rr ((rounds (sched p 48) s k).e) 11)) ^^^ (rr ((rounds (sched p 48) s k).e) 25))) + ((((rounds (sched p 48) s k).e) &&& ((rounds (sched p 48) s k).f)) ^^^ ((~~~((rounds (sched p 48) s k).e)) &&& ((rounds (sched p 48) s k).g)))) + (K64.getD k 0)) + ((sched p 48).getD k 0))),wv ((rounds (sched p 48) s k).e),wv ((rounds (sched p 48) s k).f),wv ((rounds (sched p 48) s k).g)] 61) := push_at hh
   clear hh
   have lt39 := blk_lt m38
   have zs40 := e0.size
   have hlo := e0.size
   have sepo := sep
   replace e0 := e0.ext g37
   replace own_v := own_v.ext g37
   replace own_w := own_w.ext g37
   replace sep := sep.up g37.size
   replace sep := sepo.new hlo (blk_lt m38)
   clear sepo hlo
   refine mP 16777215 [23] [.slice (some ⟨h35.size,0,none⟩) 8 8] ?_
   refine mD [(0,.slice (some va) 8 vc),(5,.slice (some ax) ((sched p 48).length) cw),(9,.slice (some ⟨h35.size,0,none⟩) 8 8),(10,nV k)] ?_
   clear hF a; intro a hF
   show C Tryd.prog (sub b43 [1,1,1,1,0,1,0,0,1,1]) _ a h36
   refine cP 13 hF ?_
   refine sP 1 [nV k] ?_
   refine s1 2 (.int .i64 ((k + 1 : Nat) : Int)) (.int .i64 (IntKind.i64.wrap (((k : Nat) : Int) + 1))) (congrArg (Value.int .i64) (w64' (by omega) (by omega) (by omega))) ?_
   refine sP 3 [nV (k + 1)] ?_
   refine sD [(0,.slice (some va) 8 vc),(5,.slice (some ax) ((sched p 48).length) cw),(9,.slice (some ⟨h35.size,0,none⟩) 8 8),(10,nV (k + 1))] ?_
   clear hF a; intro a hF
   replace sep := sep.sub (l' := [some (h35.size),(some ax).map (·.block)]) (.cons_cons _ (.cons _ (.cons_cons _ (.slnil))))
   replace own_v : Own h36 (.slice (some ⟨h35.size,0,none⟩) 8 8) 61 8 1 ((s8l (rounds (sched p 48) s (k + 1))).map wv) := Own.blk m38 rfl (by unfold maxLen; decide)
   show ∃ m',m' < _ ∧ _
   refine ⟨_,?_,k + 1,⟨h35.size,0,none⟩,8,rfl,e0,(by omega),own_v,own_w,sep,hF⟩
   omega
  ·skip
   replace hc34 := of_decide_eq_false hc34
   obtain rfl : k = 64 := by omega
   refine cX 2 ?_
   show C Tryd.prog (sub b43 [1,1,1,1,1]) _ a h33
   refine cS ?_
   refine cP 19 hF ?_
   refine SeqK.eff (k' := 1) (Does.new (v := .slice (some ⟨h33.size,0,none⟩) 0 0) (o := .cells #[] 61) (by kernel_rfl)) rfl ?_
   rintro _ h41 ⟨rfl,hh⟩
   have g42 : Ext h33 h41 := push_ext hh
   have m43 : h41[h33.size]? = some (.cells #[] 61) := push_at hh
   clear hh
   have lt44 := blk_lt m43
   have zs45 := e0.size
   have hlo := e0.size
   have sepo := sep
   replace e0 := e0.ext g42
   replace own_v := own_v.ext g42
   replace own_w := own_w.ext g42
   replace sep := sep.up g42.size
   replace sep := sepo.new hlo (blk_lt m43)
   clear sepo hlo
   refine sP 2 [.slice (some ⟨h33.size,0,none⟩) 0 0] ?_
   refine sD [(0,.slice (some va) 8 vc),(9,.slice (some av) 8 cv),(15,.slice (some ⟨h33.size,0,none⟩) 0 0)] ?_
   clear hF a; intro a hF
   refine tK ?_
   refine cS ?_
   refine cS ?_
   refine cP 20 hF ?_
   refine sP 1 [.int .i64 0] ?_
   refine sD [(0,.slice (some va) 8 vc),(9,.slice (some av) 8 cv),(15,.slice (some ⟨h33.size,0,none⟩) 0 0),(16,.int .i64 0)] ?_
   clear hF a; intro a hF
   refine tK ?_
   refine cB 4 ?_
   have own_o : Own h41 (.slice (some ⟨h33.size,0,none⟩) 0 0) 61 ([] : List W).length 1 (([] : List W).map wv) := Own.empty 1 m43
   replace sep : Sep h.size h41.size [(some ⟨h33.size,0,none⟩ : Option Addr).map (·.block),(some av).map (·.block),(some ax).map (·.block)] := sep
   clear m43 lt44 zs45
   refine C.unroll 9 [1,1,1,1,1,1,0,1,0,0] (by kernel_rfl) ?_
   refine Cround.step ?_
   refine cS ?_
   refine cS ?_
   refine cP 21 hF ?_
   refine sP 2 [.int .i64 0,.bool true] ?_
   refine sD [(0,.slice (some va) 8 vc),(9,.slice (some av) 8 cv),(15,.slice (some ⟨h33.size,0,none⟩) 0 0),(16,.int .i64 0),(172,.bool true)] ?_
   clear hF a; intro a hF
   refine tK ?_
   refine cT 172 hF ?_
   refine cN ?_
   refine tK ?_
   refine cS ?_
   refine cB 5 ?_
   refine cD [0,0,0,6,14,0,0,96,224,510,1022,2047,4095] 23 mixed hF ?_
   refine mP 7 [0,1,2] [.slice (some ⟨h33.size,0,none⟩) 0 0,.slice (some va) 8 vc,.int .i64 0] ?_
   refine mF 15 3 (.pointer (some va)) (Calm.indexA (a := va) (len := 8) (sz := 1) (k := (0 : Int)) 0 0 (by kernel_rfl) rfl (by omega) (by omega)) ?_
   refine mL 31 16 4 (wv s.a) (Calm.load (T := 61) (p := va) (by kernel_rfl) (Loads.one (k := 1) (by kernel_rfl) (e0.cell (hs.cells 0 _ rfl)))) ?_
   refine mP 127 [5,6] [.slice (some av) 8 cv,.int .i64 0] ?_
   refine mF 255 7 (.pointer (some av)) (Calm.indexA (a := av) (len := 8) (sz := 1) (k := (0 : Int)) 0 0 (by kernel_rfl) rfl (by omega) (by omega)) ?_
   refine mL 511 272 8 (wv ((rounds (sched p 48) s 64).a)) (Calm.load (T := 61) (p := av) (by kernel_rfl) (Loads.one (k := 1) (by kernel_rfl) (own_v.cell (j := 0) rfl))) ?_
   refine m1 1023 9 (wv (s.a + ((rounds (sched p 48) s 64).a))) (.int .u32 (IntKind.u32.wrap ((s.a.toNat : Int) + (((rounds (sched p 48) s 64).a).toNat : Int)))) (add32 s.a ((rounds (sched p 48) s 64).a)) ?_
   refine SimK.eff0 (i := 10) (D' := 2047) (X' := 2046) (by kernel_rfl) (by kernel_rfl) (by kernel_rfl) (by kernel_rfl) (Does.new (v := .slice (some ⟨h41.size,0,none⟩) 1 1) (o := .cells #[wv (s.a + ((rounds (sched p 48) s 64).a))] 61) (by kernel_rfl)) ?_
   rintro _ h46 ⟨rfl,hh⟩
   have g47 : Ext h41 h46 := push_ext hh
   have m48 : h46[h41.size]? = some (.cells #[wv (s.a + ((rounds (sched p 48) s 64).a))] 61) := push_at hh
   clear hh
   have lt49 := blk_lt m48
   have zs50 := e0.size
   have hlo := e0.size
   have sepo := sep
   replace e0 := e0.ext g47
   replace own_v := own_v.ext g47
   replace own_w := own_w.ext g47
   replace own_o := own_o.ext g47
   replace sep := sep.up g47.size
   replace sep := sepo.new hlo (blk_lt m48)
   clear sepo hlo
   refine SimK.eff0 (i := 11) (D' := 4095) (X' := 4095) (by kernel_rfl) (by kernel_rfl) (by kernel_rfl) (by kernel_rfl) (Does.append2 (t := 62) (E := 61) (sz := 1) (by_ := 4) (n := 0) (m := 1) (v := .slice (some ⟨h33.size,0,none⟩) 0 0) (x := .slice (some ⟨h41.size,0,none⟩) 1 1) (xs := (([]).map wv)) (ys := (([(s.a + ((rounds (sched p 48) s 64).a))]).map wv)) (by kernel_rfl) (by kernel_rfl) own_o (Row.blk (l := [wv (s.a + ((rounds (sched p 48) s 64).a))]) m48 rfl) (ones_wvs _) (by unfold maxLen; simp) (by simp)) ?_
   rintro _ h53 ⟨ad51,cap52,rfl,ownx,g,hb⟩
   rw [blkOf_slice] at g hb
   have hlo := e0.size
   have sepo := sep
   replace e0 := e0.grew g (sep.low 1 rfl)
   replace own_v := own_v.kept g (by rw [blkOf_slice]; exact (sep.ap 2 1))
   replace own_w := own_w.kept g (by rw [blkOf_slice]; exact (sep.ap 3 1))
   replace m48 := Grew.blk g m48 ((sep.bp 0 1))
   replace sep := sep.up g.size
   replace sep : Sep h.size h53.size [some (h41.size),ad51.map (·.block),(some av).map (·.block),(some ax).map (·.block)] := sepo.set g.size hlo 1 (y := ad51.map (fun (x : Addr) => x.block)) rfl (hb.imp id fun e => .inr ⟨_,e,Nat.le_refl _⟩) (fun k e => ownx.lt (by rw [blkOf_slice]; exact e))
   replace own_o : Own h53 (.slice ad51 1 cap52) 61 1 1 (([(s.a + ((rounds (sched p 48) s 64).a))]).map wv) := Own.appG ownx (by first | rfl | simp) (by first | rfl | (simp; done) | (simp; omega))
   clear ownx g hb hlo sepo
   clear m48 lt49 zs50
   replace sep := sep.sub (l' := [ad51.map (·.block),(some av).map (·.block),(some ax).map (·.block)]) (.cons _ (.cons_cons _ (.cons_cons _ (.cons_cons _ (.slnil)))))
   refine mP 8191 [12] [.slice ad51 (0 + 1) cap52] ?_
   refine mD [(0,.slice (some va) 8 vc),(9,.slice (some av) 8 cv),(15,.slice ad51 (0 + 1) cap52),(16,.int .i64 0)] ?_
   clear hF a; intro a hF
   have hcan : (0 + 1 : Nat) = 1 := by first | (simp; done) | (simp; omega)
   rw [hcan] at hF; clear hcan
   show C Tryd.prog (sub b43 [1,1,1,1,1,1,0,1,0,0,1,1]) _ a h53
   refine cP 22 hF ?_
   refine sP 3 [.int .i64 0,.int .i64 1,.int .i64 1] ?_
   refine sD [(0,.slice (some va) 8 vc),(9,.slice (some av) 8 cv),(15,.slice ad51 1 cap52),(16,.int .i64 1)] ?_
   clear hF a; intro a hF
   show Crounds _ _ _ _ 8 a h53
   refine Cround.step ?_
   refine cS ?_
   refine cS ?_
   refine cP 21 hF ?_
   refine sP 2 [.int .i64 1,.bool true] ?_
   refine sD [(0,.slice (some va) 8 vc),(9,.slice (some av) 8 cv),(15,.slice ad51 1 cap52),(16,.int .i64 1),(172,.bool true)] ?_
   clear hF a; intro a hF
   refine tK ?_
   refine cT 172 hF ?_
   refine cN ?_
   refine tK ?_
   refine cS ?_
   refine cB 5 ?_
   refine cD [0,0,0,6,14,0,0,96,224,510,1022,2047,4095] 23 mixed hF ?_
   refine mP 7 [0,1,2] [.slice ad51 1 cap52,.slice (some va) 8 vc,.int .i64 1] ?_
   refine mF 15 3 (.pointer (some (Addr.add va 1))) (Calm.indexA (a := va) (len := 8) (sz := 1) (k := (1 : Int)) 1 1 (by kernel_rfl) rfl (by omega) (by omega)) ?_
   refine mL 31 16 4 (wv s.b) (Calm.load (T := 61) (p := (Addr.add va 1)) (by kernel_rfl) (Loads.one (k := 1) (by kernel_rfl) (e0.cell (hs.cells 1 _ rfl)))) ?_
   refine mP 127 [5,6] [.slice (some av) 8 cv,.int .i64 1] ?_
   refine mF 255 7 (.pointer (some (Addr.add av 1))) (Calm.indexA (a := av) (len := 8) (sz := 1) (k := (1 : Int)) 1 1 (by kernel_rfl) rfl (by omega) (by omega)) ?_
   refine mL 511 272 8 (wv ((rounds (sched p 48) s 64).b)) (Calm.load (T := 61) (p := (Addr.add av 1)) (by kernel_rfl) (Loads.one (k := 1) (by kernel_rfl) (own_v.cell (j := 1) rfl))) ?_
   refine m1 1023 9 (wv (s.b + ((rounds (sched p 48) s 64).b))) (.int .u32 (IntKind.u32.wrap ((s.b.toNat : Int) + (((rounds (sched p 48) s 64).b).toNat : Int)))) (add32 s.b ((rounds (sched p 48) s 64).b)) ?_
   refine SimK.eff0 (i := 10) (D' := 2047) (X' := 2046) (by kernel_rfl) (by kernel_rfl) (by kernel_rfl) (by kernel_rfl) (Does.new (v := .slice (some ⟨h53.size,0,none⟩) 1 1) (o := .cells #[wv (s.b + ((rounds (sched p 48) s 64).b))] 61) (by kernel_rfl)) ?_
   rintro _ h54 ⟨rfl,hh⟩
   have g55 : Ext h53 h54 := push_ext hh
   have m56 : h54[h53.size]? = some (.cells #[wv (s.b + ((rounds (sched p 48) s 64).b))] 61) := push_at hh
   clear hh
   have lt57 := blk_lt m56
   have zs58 := e0.size
   have hlo := e0.size
   have sepo := sep
   replace e0 := e0.ext g55
   replace own_v := own_v.ext g55
   replace own_w := own_w.ext g55
   replace own_o := own_o.ext g55
   replace sep := sep.up g55.size
   replace sep := sepo.new hlo (blk_lt m56)
   clear sepo hlo
   refine SimK.eff0 (i := 11) (D' := 4095) (X' := 4095) (by kernel_rfl) (by kernel_rfl) (by kernel_rfl) (by kernel_rfl) (Does.append2 (t := 62) (E := 61) (sz := 1) (by_ := 4) (n := 1) (m := 1) (v := .slice ad51 1 cap52) (x := .slice (some ⟨h53.size,0,none⟩) 1 1) (xs := (([(s.a + ((rounds (sched p 48) s 64).a))]).map wv)) (ys := (([(s.b + ((rounds (sched p 48) s 64).b))]).map wv)) (by kernel_rfl) (by kernel_rfl) own_o (Row.blk (l := [wv (s.b + ((rounds (sched p 48) s 64).b))]) m56 rfl) (ones_wvs _) (by unfold maxLen; simp) (by simp)) ?_
   rintro _ h61 ⟨ad59,cap60,rfl,ownx,g,hb⟩
   rw [blkOf_slice] at g hb
   have hlo := e0.size
   have sepo := sep
   replace e0 := e0.grew g (sep.low 1 rfl)
   replace own_v := own_v.kept g (by rw [blkOf_slice]; exact (sep.ap 2 1))
   replace own_w := own_w.kept g (by rw [blkOf_slice]; exact (sep.ap 3 1))
   replace m56 := Grew.blk g m56 ((sep.bp 0 1))
   replace sep := sep.up g.size
   replace sep : Sep h.size h61.size [some (h53.size),ad59.map (·.block),(some av).map (·.block),(some ax).map (·.block)] := sepo.set g.size hlo 1 (y := ad59.map (fun (x : Addr) => x.block)) rfl (hb.imp id fun e => .inr ⟨_,e,Nat.le_refl _⟩) (fun k e => ownx.lt (by rw [blkOf_slice]; exact e))
   replace own_o : Own h61 (.slice ad59 2 cap60) 61 2 1 (([(s.a + ((rounds (sched p 48) s 64).a)),(s.b + ((rounds (sched p 48) s 64).b))]).map wv) := Own.appG ownx (by first | rfl | simp) (by first | rfl | (simp; done) | (simp; omega))
   clear ownx g hb hlo sepo
   clear m56 lt57 zs58
   replace sep := sep.sub (l' := [ad59.map (·.block),(some av).map (·.block),(some ax).map (·.block)]) (.cons _ (.cons_cons _ (.cons_cons _ (.cons_cons _ (.slnil)))))
   refine mP 8191 [12] [.slice ad59 (1 + 1) cap60] ?_
   refine mD [(0,.slice (some va) 8 vc),(9,.slice (some av) 8 cv),(15,.slice ad59 (1 + 1) cap60),(16,.int .i64 1)] ?_
   clear hF a; intro a hF
   have hcan : (1 + 1 : Nat) = 2 := by first | (simp; done) | (simp; omega)
   rw [hcan] at hF; clear hcan
   show C Tryd.prog (sub b43 [1,1,1,1,1,1,0,1,0,0,1,1]) _ a h61
   refine cP 22 hF ?_
   refine sP 3 [.int .i64 1,.int .i64 2,.int .i64 2] ?_
   refine sD [(0,.slice (some va) 8 vc),(9,.slice (some av) 8 cv),(15,.slice ad59 2 cap60),(16,.int .i64 2)] ?_
   clear hF a; intro a hF
   show Crounds _ _ _ _ 7 a h61
   refine Cround.step ?_
   refine cS ?_
   refine cS ?_
   refine cP 21 hF ?_
   refine sP 2 [.int .i64 2,.bool true] ?_
   refine sD [(0,.slice (some va) 8 vc),(9,.slice (some av) 8 cv),(15,.slice ad59 2 cap60),(16,.int .i64 2),(172,.bool true)] ?_
   clear hF a; intro a hF
   refine tK ?_
   refine cT 172 hF ?_
   refine cN ?_
   refine tK ?_
   refine cS ?_
   refine cB 5 ?_
   refine cD [0,0,0,6,14,0,0,96,224,510,1022,2047,4095] 23 mixed hF ?_
   refine mP 7 [0,1,2] [.slice ad59 2 cap60,.slice (some va) 8 vc,.int .i64 2] ?_
   refine mF 15 3 (.pointer (some (Addr.add va 2))) (Calm.indexA (a := va) (len := 8) (sz := 1) (k := (2 : Int)) 2 2 (by kernel_rfl) rfl (by omega) (by omega)) ?_
   refine mL 31 16 4 (wv s.c) (Calm.load (T := 61) (p := (Addr.add va 2)) (by kernel_rfl) (Loads.one (k := 1) (by kernel_rfl) (e0.cell (hs.cells 2 _ rfl)))) ?_
   refine mP 127 [5,6] [.slice (some av) 8 cv,.int .i64 2] ?_
   refine mF 255 7 (.pointer (some (Addr.add av 2))) (Calm.indexA (a := av) (len := 8) (sz := 1) (k := (2 : Int)) 2 2 (by kernel_rfl) rfl (by omega) (by omega)) ?_
   refine mL 511 272 8 (wv ((rounds (sched p 48) s 64).c)) (Calm.load (T := 61) (p := (Addr.add av 2)) (by kernel_rfl) (Loads.one (k := 1) (by kernel_rfl) (own_v.cell (j := 2) rfl))) ?_
   refine m1 1023 9 (wv (s.c + ((rounds (sched p 48) s 64).c))) (.int .u32 (IntKind.u32.wrap ((s.c.toNat : Int) + (((rounds (sched p 48) s 64).c).toNat : Int)))) (add32 s.c ((rounds (sched p 48) s 64).c)) ?_
   refine SimK.eff0 (i := 10) (D' := 2047) (X' := 2046) (by kernel_rfl) (by kernel_rfl) (by kernel_rfl) (by kernel_rfl) (Does.new (v := .slice (some ⟨h61.size,0,none⟩) 1 1) (o := .cells #[wv (s.c + ((rounds (sched p 48) s 64).c))] 61) (by kernel_rfl)) ?_
   rintro _ h62 ⟨rfl,hh⟩
   have g63 : Ext h61 h62 := push_ext hh
   have m64 : h62[h61.size]? = some (.cells #[wv (s.c + ((rounds (sched p 48) s 64).c))] 61) := push_at hh
   clear hh
   have lt65 := blk_lt m64
   have zs66 := e0.size
   have hlo := e0.size
   have sepo := sep
   replace e0 := e0.ext g63
   replace own_v := own_v.ext g63
   replace own_w := own_w.ext g63
   replace own_o := own_o.ext g63
   replace sep := sep.up g63.size
   replace sep := sepo.new hlo (blk_lt m64)
   clear sepo hlo
   refine SimK.eff0 (i := 11) (D' := 4095) (X' := 4095) (by kernel_rfl) (by kernel_rfl) (by kernel_rfl) (by kernel_rfl) (Does.append2 (t := 62) (E := 61) (sz := 1) (by_ := 4) (n := 2) (m := 1) (v := .slice ad59 2 cap60) (x := .slice (some ⟨h61.size,0,none⟩) 1 1) (xs := (([(s.a + ((rounds (sched p 48) s 64).a)),(s.b + ((rounds (sched p 48) s 64).b))]).map wv)) (ys := (([(s.c + ((rounds (sched p 48) s 64).c))]).map wv)) (by kernel_rfl) (by kernel_rfl) own_o (Row.blk (l := [wv (s.c + ((rounds (sched p 48) s 64).c))]) m64 rfl) (ones_wvs _) (by unfold maxLen; simp) (by simp)) ?_
   rintro _ h69 ⟨ad67,cap68,rfl,ownx,g,hb⟩
   rw [blkOf_slice] at g hb
   have hlo := e0.size
   have sepo := sep
   replace e0 := e0.grew g (sep.low 1 rfl)
   replace own_v := own_v.kept g (by rw [blkOf_slice]; exact (sep.ap 2 1))
   replace own_w := own_w.kept g (by rw [blkOf_slice]; exact (sep.ap 3 1))
   replace m64 := Grew.blk g m64 ((sep.bp 0 1))
   replace sep := sep.up g.size
   replace sep : Sep h.size h69.size [some (h61.size),ad67.map (·.block),(some av).map (·.block),(some ax).map (·.block)] := sepo.set g.size hlo 1 (y := ad67.map (fun (x : Addr) => x.block)) rfl (hb.imp id fun e => .inr ⟨_,e,Nat.le_refl _⟩) (fun k e => ownx.lt (by rw [blkOf_slice]; exact e))
   replace own_o : Own h69 (.slice ad67 3 cap68) 61 3 1 (([(s.a + ((rounds (sched p 48) s 64).a)),(s.b + ((rounds (sched p 48) s 64).b)),(s.c + ((rounds (sched p 48) s 64).c))]).map wv) := Own.appG ownx (by first | rfl | simp) (by first | rfl | (simp; done) | (simp; omega))
   clear ownx g hb hlo sepo
   clear m64 lt65 zs66
   replace sep := sep.sub (l' := [ad67.map (·.block),(some av).map (·.block),(some ax).map (·.block)]) (.cons _ (.cons_cons _ (.cons_cons _ (.cons_cons _ (.slnil)))))
   refine mP 8191 [12] [.slice ad67 (2 + 1) cap68] ?_
   refine mD [(0,.slice (some va) 8 vc),(9,.slice (some av) 8 cv),(15,.slice ad67 (2 + 1) cap68),(16,.int .i64 2)] ?_
   clear hF a; intro a hF
   have hcan : (2 + 1 : Nat) = 3 := by first | (simp; done) | (simp; omega)
   rw [hcan] at hF; clear hcan
   show C Tryd.prog (sub b43 [1,1,1,1,1,1,0,1,0,0,1,1]) _ a h69
   refine cP 22 hF ?_
   refine sP 3 [.int .i64 2,.int .i64 3,.int .i64 3] ?_
   refine sD [(0,.slice (some va) 8 vc),(9,.slice (some av) 8 cv),(15,.slice ad67 3 cap68),(16,.int .i64 3)] ?_
   clear hF a; intro a hF
   show Crounds _ _ _ _ 6 a h69
   refine Cround.step ?_
   refine cS ?_
   refine cS ?_
   refine cP 21 hF ?_
   refine sP 2 [.int .i64 3,.bool true] ?_
   refine sD [(0,.slice (some va) 8 vc),(9,.slice (some av) 8 cv),(15,.slice ad67 3 cap68),(16,.int .i64 3),(172,.bool true)] ?_
   clear hF a; intro a hF
   refine tK ?_
   refine cT 172 hF ?_
   refine cN ?_
   refine tK ?_
   refine cS ?_
   refine cB 5 ?_
   refine cD [0,0,0,6,14,0,0,96,224,510,1022,2047,4095] 23 mixed hF ?_
   refine mP 7 [0,1,2] [.slice ad67 3 cap68,.slice (some va) 8 vc,.int .i64 3] ?_
   refine mF 15 3 (.pointer (some (Addr.add va 3))) (Calm.indexA (a := va) (len := 8) (sz := 1) (k := (3 : Int)) 3 3 (by kernel_rfl) rfl (by omega) (by omega)) ?_
   refine mL 31 16 4 (wv s.d) (Calm.load (T := 61) (p := (Addr.add va 3)) (by kernel_rfl) (Loads.one (k := 1) (by kernel_rfl) (e0.cell (hs.cells 3 _ rfl)))) ?_
   refine mP 127 [5,6] [.slice (some av) 8 cv,.int .i64 3] ?_
   refine mF 255 7 (.pointer (some (Addr.add av 3))) (Calm.indexA (a := av) (len := 8) (sz := 1) (k := (3 : Int)) 3 3 (by kernel_rfl) rfl (by omega) (by omega)) ?_
   refine mL 511 272 8 (wv ((rounds (sched p 48) s 64).d)) (Calm.load (T := 61) (p := (Addr.add av 3)) (by kernel_rfl) (Loads.one (k := 1) (by kernel_rfl) (own_v.cell (j := 3) rfl))) ?_
   refine m1 1023 9 (wv (s.d + ((rounds (sched p 48) s 64).d))) (.int .u32 (IntKind.u32.wrap ((s.d.toNat : Int) + (((rounds (sched p 48) s 64).d).toNat : Int)))) (add32 s.d ((rounds (sched p 48) s 64).d)) ?_
   refine SimK.eff0 (i := 10) (D' := 2047) (X' := 2046) (by kernel_rfl) (by kernel_rfl) (by kernel_rfl) (by kernel_rfl) (Does.new (v := .slice (some ⟨h69.size,0,none⟩) 1 1) (o := .cells #[wv (s.d + ((rounds (sched p 48) s 64).d))] 61) (by kernel_rfl)) ?_
   rintro _ h70 ⟨rfl,hh⟩
   have g71 : Ext h69 h70 := push_ext hh
   have m72 : h70[h69.size]? = some (.cells #[wv (s.d + ((rounds (sched p 48) s 64).d))] 61) := push_at hh
   clear hh
   have lt73 := blk_lt m72
   have zs74 := e0.size
   have hlo := e0.size
   have sepo := sep
   replace e0 := e0.ext g71
   replace own_v := own_v.ext g71
   replace own_w := own_w.ext g71
   replace own_o := own_o.ext g71
   replace sep := sep.up g71.size
   replace sep := sepo.new hlo (blk_lt m72)
   clear sepo hlo
   refine SimK.eff0 (i := 11) (D' := 4095) (X' := 4095) (by kernel_rfl) (by kernel_rfl) (by kernel_rfl) (by kernel_rfl) (Does.append2 (t := 62) (E := 61) (sz := 1) (by_ := 4) (n := 3) (m := 1) (v := .slice ad67 3 cap68) (x := .slice (some ⟨h69.size,0,none⟩) 1 1) (xs := (([(s.a + ((rounds (sched p 48) s 64).a)),(s.b + ((rounds (sched p 48) s 64).b)),(s.c + ((rounds (sched p 48) s 64).c))]).map wv)) (ys := (([(s.d + ((rounds (sched p 48) s 64).d))]).map wv)) (by kernel_rfl) (by kernel_rfl) own_o (Row.blk (l := [wv (s.d + ((rounds (sched p 48) s 64).d))]) m72 rfl) (ones_wvs _) (by unfold maxLen; simp) (by simp)) ?_
   rintro _ h77 ⟨ad75,cap76,rfl,ownx,g,hb⟩
   rw [blkOf_slice] at g hb
   have hlo := e0.size
   have sepo := sep
   replace e0 := e0.grew g (sep.low 1 rfl)
   replace own_v := own_v.kept g (by rw [blkOf_slice]; exact (sep.ap 2 1))
   replace own_w := own_w.kept g (by rw [blkOf_slice]; exact (sep.ap 3 1))
   replace m72 := Grew.blk g m72 ((sep.bp 0 1))
   replace sep := sep.up g.size
   replace sep : Sep h.size h77.size [some (h69.size),ad75.map (·.block),(some av).map (·.block),(some ax).map (·.block)] := sepo.set g.size hlo 1 (y := ad75.map (fun (x : Addr) => x.block)) rfl (hb.imp id fun e => .inr ⟨_,e,Nat.le_refl _⟩) (fun k e => ownx.lt (by rw [blkOf_slice]; exact e))
   replace own_o : Own h77 (.slice ad75 4 cap76) 61 4 1 (([(s.a + ((rounds (sched p 48) s 64).a)),(s.b + ((rounds (sched p 48) s 64).b)),(s.c + ((rounds (sched p 48) s 64).c)),(s.d + ((rounds (sched p 48) s 64).d))]).map wv) := Own.appG ownx (by first | rfl | simp) (by first | rfl | (simp; done) | (simp; omega))
   clear ownx g hb hlo sepo
   clear m72 lt73 zs74
   replace sep := sep.sub (l' := [ad75.map (·.block),(some av).map (·.block),(some ax).map (·.block)]) (.cons _ (.cons_cons _ (.cons_cons _ (.cons_cons _ (.slnil)))))
   refine mP 8191 [12] [.slice ad75 (3 + 1) cap76] ?_
   refine mD [(0,.slice (some va) 8 vc),(9,.slice (some av) 8 cv),(15,.slice ad75 (3 + 1) cap76),(16,.int .i64 3)] ?_
   clear hF a; intro a hF
   have hcan : (3 + 1 : Nat) = 4 := by first | (simp; done) | (simp; omega)
   rw [hcan] at hF; clear hcan
   show C Tryd.prog (sub b43 [1,1,1,1,1,1,0,1,0,0,1,1]) _ a h77
   refine cP 22 hF ?_
   refine sP 3 [.int .i64 3,.int .i64 4,.int .i64 4] ?_
   refine sD [(0,.slice (some va) 8 vc),(9,.slice (some av) 8 cv),(15,.slice ad75 4 cap76),(16,.int .i64 4)] ?_
   clear hF a; intro a hF
   show Crounds _ _ _ _ 5 a h77
   refine Cround.step ?_
   refine cS ?_
   refine cS ?_
   refine cP 21 hF ?_
   refine sP 2 [.int .i64 4,.bool true] ?_
   refine sD [(0,.slice (some va) 8 vc),(9,.slice (some av) 8 cv),(15,.slice ad75 4 cap76),(16,.int .i64 4),(172,.bool true)] ?_
   clear hF a; intro a hF
   refine tK ?_
   refine cT 172 hF ?_
   refine cN ?_
   refine tK ?_
   refine cS ?_
   refine cB 5 ?_
   refine cD [0,0,0,6,14,0,0,96,224,510,1022,2047,4095] 23 mixed hF ?_
   refine mP 7 [0,1,2] [.slice ad75 4 cap76,.slice (some va) 8 vc,.int .i64 4] ?_
   refine mF 15 3 (.pointer (some (Addr.add va 4))) (Calm.indexA (a := va) (len := 8) (sz := 1) (k := (4 : Int)) 4 4 (by kernel_rfl) rfl (by omega) (by omega)) ?_
   refine mL 31 16 4 (wv s.e) (Calm.load (T := 61) (p := (Addr.add va 4)) (by kernel_rfl) (Loads.one (k := 1) (by kernel_rfl) (e0.cell (hs.cells 4 _ rfl)))) ?_
   refine mP 127 [5,6] [.slice (some av) 8 cv,.int .i64 4] ?_
   refine mF 255 7 (.pointer (some (Addr.add av 4))) (Calm.indexA (a := av) (len := 8) (sz := 1) (k := (4 : Int)) 4 4 (by kernel_rfl) rfl (by omega) (by omega)) ?_
   refine mL 511 272 8 (wv ((rounds (sched p 48) s 64).e)) (Calm.load (T := 61) (p := (Addr.add av 4)) (by kernel_rfl) (Loads.one (k := 1) (by kernel_rfl) (own_v.cell (j := 4) rfl))) ?_
   refine m1 1023 9 (wv (s.e + ((rounds (sched p 48) s 64).e))) (.int .u32 (IntKind.u32.wrap ((s.e.toNat : Int) + (((rounds (sched p 48) s 64).e).toNat : Int)))) (add32 s.e ((rounds (sched p 48) s 64).e)) ?_
   refine SimK.eff0 (i := 10) (D' := 2047) (X' := 2046) (by kernel_rfl) (by kernel_rfl) (by kernel_rfl) (by kernel_rfl) (Does.new (v := .slice (some ⟨h77.size,0,none⟩) 1 1) (o := .cells #[wv (s.e + ((rounds (sched p 48) s 64).e))] 61) (by kernel_rfl)) ?_
   rintro _ h78 ⟨rfl,hh⟩
   have g79 : Ext h77 h78 := push_ext hh
   have m80 : h78[h77.size]? = some (.cells #[wv (s.e + ((rounds (sched p 48) s 64).e))] 61) := push_at hh
   clear hh
   have lt81 := blk_lt m80
   have zs82 := e0.size
   have hlo := e0.size
   have sepo := sep
   replace e0 := e0.ext g79
   replace own_v := own_v.ext g79
   replace own_w := own_w.ext g79
   replace own_o := own_o.ext g79
   replace sep := sep.up g79.size
   replace sep := sepo.new hlo (blk_lt m80)
   clear sepo hlo
   refine SimK.eff0 (i := 11) (D' := 4095) (X' := 4095) (by kernel_rfl) (by kernel_rfl) (by kernel_rfl) (by kernel_rfl) (Does.append2 (t := 62) (E := 61) (sz := 1) (by_ := 4) (n := 4) (m := 1) (v := .slice ad75 4 cap76) (x := .slice (some ⟨h77.size,0,none⟩) 1 1) (xs := (([(s.a + ((rounds (sched p 48) s 64).a)),(s.b + ((rounds (sched p 48) s 64).b)),(s.c + ((rounds (sched p 48) s 64).c)),(s.d + ((rounds (sched p 48) s 64).d))]).map wv)) (ys := (([(s.e + ((rounds (sched p 48) s 64).e))]).map wv)) (by kernel_rfl) (by kernel_rfl) own_o (Row.blk (l := [wv (s.e + ((rounds (sched p 48) s 64).e))]) m80 rfl) (ones_wvs _) (by unfold maxLen; simp) (by simp)) ?_
   rintro _ h85 ⟨ad83,cap84,rfl,ownx,g,hb⟩
   rw [blkOf_slice] at g hb
   have hlo := e0.size
   have sepo := sep
   replace e0 := e0.grew g (sep.low 1 rfl)
   replace own_v := own_v.kept g (by rw [blkOf_slice]; exact (sep.ap 2 1))
   replace own_w := own_w.kept g (by rw [blkOf_slice]; exact (sep.ap 3 1))
   replace m80 := Grew.blk g m80 ((sep.bp 0 1))
   replace sep := sep.up g.size
   replace sep : Sep h.size h85.size [some (h77.size),ad83.map (·.block),(some av).map (·.block),(some ax).map (·.block)] := sepo.set g.size hlo 1 (y := ad83.map (fun (x : Addr) => x.block)) rfl (hb.imp id fun e => .inr ⟨_,e,Nat.le_refl _⟩) (fun k e => ownx.lt (by rw [blkOf_slice]; exact e))
   replace own_o : Own h85 (.slice ad83 5 cap84) 61 5 1 (([(s.a + ((rounds (sched p 48) s 64).a)),(s.b + ((rounds (sched p 48) s 64).b)),(s.c + ((rounds (sched p 48) s 64).c)),(s.d + ((rounds (sched p 48) s 64).d)),(s.e + ((rounds (sched p 48) s 64).e))]).map wv) := Own.appG ownx (by first | rfl | simp) (by first | rfl | (simp; done) | (simp; omega))
   clear ownx g hb hlo sepo
   clear m80 lt81 zs82
   replace sep := sep.sub (l' := [ad83.map (·.block),(some av).map (·.block),(some ax).map (·.block)]) (.cons _ (.cons_cons _ (.cons_cons _ (.cons_cons _ (.slnil)))))
   refine mP 8191 [12] [.slice ad83 (4 + 1) cap84] ?_
   refine mD [(0,.slice (some va) 8 vc),(9,.slice (some av) 8 cv),(15,.slice ad83 (4 + 1) cap84),(16,.int .i64 4)] ?_
   clear hF a; intro a hF
   have hcan : (4 + 1 : Nat) = 5 := by first | (simp; done) | (simp; omega)
   rw [hcan] at hF; clear hcan
   show C Tryd.prog (sub b43 [1,1,1,1,1,1,0,1,0,0,1,1]) _ a h85
   refine cP 22 hF ?_
   refine sP 3 [.int .i64 4,.int .i64 5,.int .i64 5] ?_
   refine sD [(0,.slice (some va) 8 vc),(9,.slice (some av) 8 cv),(15,.slice ad83 5 cap84),(16,.int .i64 5)] ?_
   clear hF a; intro a hF
   show Crounds _ _ _ _ 4 a h85
   refine Cround.step ?_
   refine cS ?_
   refine cS ?_
   refine cP 21 hF ?_
   refine sP 2 [.int .i64 5,.bool true] ?_
   refine sD [(0,.slice (some va) 8 vc),(9,.slice (some av) 8 cv),(15,.slice ad83 5 cap84),(16,.int .i64 5),(172,.bool true)] ?_
   clear hF a; intro a hF
   refine tK ?_
   refine cT 172 hF ?_
   refine cN ?_
   refine tK ?_
   refine cS ?_
   refine cB 5 ?_
   refine cD [0,0,0,6,14,0,0,96,224,510,1022,2047,4095] 23 mixed hF ?_
   refine mP 7 [0,1,2] [.slice ad83 5 cap84,.slice (some va) 8 vc,.int .i64 5] ?_
   refine mF 15 3 (.pointer (some (Addr.add va 5))) (Calm.indexA (a := va) (len := 8) (sz := 1) (k := (5 : Int)) 5 5 (by kernel_rfl) rfl (by omega) (by omega)) ?_
   refine mL 31 16 4 (wv s.f) (Calm.load (T := 61) (p := (Addr.add va 5)) (by kernel_rfl) (Loads.one (k := 1) (by kernel_rfl) (e0.cell (hs.cells 5 _ rfl)))) ?_
   refine mP 127 [5,6] [.slice (some av) 8 cv,.int .i64 5] ?_
   refine mF 255 7 (.pointer (some (Addr.add av 5))) (Calm.indexA (a := av) (len := 8) (sz := 1) (k := (5 : Int)) 5 5 (by kernel_rfl) rfl (by omega) (by omega)) ?_
   refine mL 511 272 8 (wv ((rounds (sched p 48) s 64).f)) (Calm.load (T := 61) (p := (Addr.add av 5)) (by kernel_rfl) (Loads.one (k := 1) (by kernel_rfl) (own_v.cell (j := 5) rfl))) ?_
   refine m1 1023 9 (wv (s.f + ((rounds (sched p 48) s 64).f))) (.int .u32 (IntKind.u32.wrap ((s.f.toNat : Int) + (((rounds (sched p 48) s 64).f).toNat : Int)))) (add32 s.f ((rounds (sched p 48) s 64).f)) ?_
   refine SimK.eff0 (i := 10) (D' := 2047) (X' := 2046) (by kernel_rfl) (by kernel_rfl) (by kernel_rfl) (by kernel_rfl) (Does.new (v := .slice (some ⟨h85.size,0,none⟩) 1 1) (o := .cells #[wv (s.f + ((rounds (sched p 48) s 64).f))] 61) (by kernel_rfl)) ?_
   rintro _ h86 ⟨rfl,hh⟩
   have g87 : Ext h85 h86 := push_ext hh
   have m88 : h86[h85.size]? = some (.cells #[wv (s.f + ((rounds (sched p 48) s 64).f))] 61) := push_at hh
   clear hh
   have lt89 := blk_lt m88
   have zs90 := e0.size
   have hlo := e0.size
   have sepo := sep
   replace e0 := e0.ext g87
   replace own_v := own_v.ext g87
   replace own_w := own_w.ext g87
   replace own_o := own_o.ext g87
   replace sep := sep.up g87.size
   replace sep := sepo.new hlo (blk_lt m88)
   clear sepo hlo
   refine SimK.eff0 (i := 11) (D' := 4095) (X' := 4095) (by kernel_rfl) (by kernel_rfl) (by kernel_rfl) (by kernel_rfl) (Does.append2 (t := 62) (E := 61) (sz := 1) (by_ := 4) (n := 5) (m := 1) (v := .slice ad83 5 cap84) (x := .slice (some ⟨h85.size,0,none⟩) 1 1) (xs := (([(s.a + ((rounds (sched p 48) s 64).a)),(s.b + ((rounds (sched p 48) s 64).b)),(s.c + ((rounds (sched p 48) s 64).c)),(s.d + ((rounds (sched p 48) s 64).d)),(s.e + ((rounds (sched p 48) s 64).e))]).map wv)) (ys := (([(s.f + ((rounds (sched p 48) s 64).f))]).map wv)) (by kernel_rfl) (by kernel_rfl) own_o (Row.blk (l := [wv (s.f + ((rounds (sched p 48) s 64).f))]) m88 rfl) (ones_wvs _) (by unfold maxLen; simp) (by simp)) ?_
   rintro _ h93 ⟨ad91,cap92,rfl,ownx,g,hb⟩
   rw [blkOf_slice] at g hb
   have hlo := e0.size
   have sepo := sep
   replace e0 := e0.grew g (sep.low 1 rfl)
   replace own_v := own_v.kept g (by rw [blkOf_slice]; exact (sep.ap 2 1))
   replace own_w := own_w.kept g (by rw [blkOf_slice]; exact (sep.ap 3 1))
   replace m88 := Grew.blk g m88 ((sep.bp 0 1))
   replace sep := sep.up g.size
   replace sep : Sep h.size h93.size [some (h85.size),ad91.map (·.block),(some av).map (·.block),(some ax).map (·.block)] := sepo.set g.size hlo 1 (y := ad91.map (fun (x : Addr) => x.block)) rfl (hb.imp id fun e => .inr ⟨_,e,Nat.le_refl _⟩) (fun k e => ownx.lt (by rw [blkOf_slice]; exact e))
   replace own_o : Own h93 (.slice ad91 6 cap92) 61 6 1 (([(s.a + ((rounds (sched p 48) s 64).a)),(s.b + ((rounds (sched p 48) s 64).b)),(s.c + ((rounds (sched p 48) s 64).c)),(s.d + ((rounds (sched p 48) s 64).d)),(s.e + ((rounds (sched p 48) s 64).e)),(s.f + ((rounds (sched p 48) s 64).f))]).map wv) := Own.appG ownx (by first | rfl | simp) (by first | rfl | (simp; done) | (simp; omega))
   clear ownx g hb hlo sepo
   clear m88 lt89 zs90
   replace sep := sep.sub (l' := [ad91.map (·.block),(some av).map (·.block),(some ax).map (·.block)]) (.cons _ (.cons_cons _ (.cons_cons _ (.cons_cons _ (.slnil)))))
   refine mP 8191 [12] [.slice ad91 (5 + 1) cap92] ?_
   refine mD [(0,.slice (some va) 8 vc),(9,.slice (some av) 8 cv),(15,.slice ad91 (5 + 1) cap92),(16,.int .i64 5)] ?_
   clear hF a; intro a hF
   have hcan : (5 + 1 : Nat) = 6 := by first | (simp; done) | (simp; omega)
   rw [hcan] at hF; clear hcan
   show C Tryd.prog (sub b43 [1,1,1,1,1,1,0,1,0,0,1,1]) _ a h93
   refine cP 22 hF ?_
   refine sP 3 [.int .i64 5,.int .i64 6,.int .i64 6] ?_
   refine sD [(0,.slice (some va) 8 vc),(9,.slice (some av) 8 cv),(15,.slice ad91 6 cap92),(16,.int .i64 6)] ?_
   clear hF a; intro a hF
   show Crounds _ _ _ _ 3 a h93
   refine Cround.step ?_
   refine cS ?_
   refine cS ?_
   refine cP 21 hF ?_
   refine sP 2 [.int .i64 6,.bool true] ?_
   refine sD [(0,.slice (some va) 8 vc),(9,.slice (some av) 8 cv),(15,.slice ad91 6 cap92),(16,.int .i64 6),(172,.bool true)] ?_
   clear hF a; intro a hF
   refine tK ?_
   refine cT 172 hF ?_
   refine cN ?_
   refine tK ?_
   refine cS ?_
   refine cB 5 ?_
   refine cD [0,0,0,6,14,0,0,96,224,510,1022,2047,4095] 23 mixed hF ?_
   refine mP 7 [0,1,2] [.slice ad91 6 cap92,.slice (some va) 8 vc,.int .i64 6] ?_
   refine mF 15 3 (.pointer (some (Addr.add va 6))) (Calm.indexA (a := va) (len := 8) (sz := 1) (k := (6 : Int)) 6 6 (by kernel_rfl) rfl (by omega) (by omega)) ?_
   refine mL 31 16 4 (wv s.g) (Calm.load (T := 61) (p := (Addr.add va 6)) (by kernel_rfl) (Loads.one (k := 1) (by kernel_rfl) (e0.cell (hs.cells 6 _ rfl)))) ?_
   refine mP 127 [5,6] [.slice (some av) 8 cv,.int .i64 6] ?_
   refine mF 255 7 (.pointer (some (Addr.add av 6))) (Calm.indexA (a := av) (len := 8) (sz := 1) (k := (6 : Int)) 6 6 (by kernel_rfl) rfl (by omega) (by omega)) ?_
   refine mL 511 272 8 (wv ((rounds (sched p 48) s 64).g)) (Calm.load (T := 61) (p := (Addr.add av 6)) (by kernel_rfl) (Loads.one (k := 1) (by kernel_rfl) (own_v.cell (j := 6) rfl))) ?_
   refine m1 1023 9 (wv (s.g + ((rounds (sched p 48) s 64).g))) (.int .u32 (IntKind.u32.wrap ((s.g.toNat : Int) + (((rounds (sched p 48) s 64).g).toNat : Int)))) (add32 s.g ((rounds (sched p 48) s 64).g)) ?_
   refine SimK.eff0 (i := 10) (D' := 2047) (X' := 2046) (by kernel_rfl) (by kernel_rfl) (by kernel_rfl) (by kernel_rfl) (Does.new (v := .slice (some ⟨h93.size,0,none⟩) 1 1) (o := .cells #[wv (s.g + ((rounds (sched p 48) s 64).g))] 61) (by kernel_rfl)) ?_
   rintro _ h94 ⟨rfl,hh⟩
   have g95 : Ext h93 h94 := push_ext hh
   have m96 : h94[h93.size]? = some (.cells #[wv (s.g + ((rounds (sched p 48) s 64).g))] 61) := push_at hh
   clear hh
   have lt97 := blk_lt m96
   have zs98 := e0.size
   have hlo := e0.size
   have sepo := sep
   replace e0 := e0.ext g95
   replace own_v := own_v.ext g95
   replace own_w := own_w.ext g95
   replace own_o := own_o.ext g95
   replace sep := sep.up g95.size
   replace sep := sepo.new hlo (blk_lt m96)
   clear sepo hlo
   refine SimK.eff0 (i := 11) (D' := 4095) (X' := 4095) (by kernel_rfl) (by kernel_rfl) (by kernel_rfl) (by kernel_rfl) (Does.append2 (t := 62) (E := 61) (sz := 1) (by_ := 4) (n := 6) (m := 1) (v := .slice ad91 6 cap92) (x := .slice (some ⟨h93.size,0,none⟩) 1 1) (xs := (([(s.a + ((rounds (sched p 48) s 64).a)),(s.b + ((rounds (sched p 48) s 64).b)),(s.c + ((rounds (sched p 48) s 64).c)),(s.d + ((rounds (sched p 48) s 64).d)),(s.e + ((rounds (sched p 48) s 64).e)),(s.f + ((rounds (sched p 48) s 64).f))]).map wv)) (ys := (([(s.g + ((rounds (sched p 48) s 64).g))]).map wv)) (by kernel_rfl) (by kernel_rfl) own_o (Row.blk (l := [wv (s.g + ((rounds (sched p 48) s 64).g))]) m96 rfl) (ones_wvs _) (by unfold maxLen; simp) (by simp)) ?_
   rintro _ h101 ⟨ad99,cap100,rfl,ownx,g,hb⟩
   rw [blkOf_slice] at g hb
   have hlo := e0.size
   have sepo := sep
   replace e0 := e0.grew g (sep.low 1 rfl)
   replace own_v := own_v.kept g (by rw [blkOf_slice]; exact (sep.ap 2 1))
   replace own_w := own_w.kept g (by rw [blkOf_slice]; exact (sep.ap 3 1))
   replace m96 := Grew.blk g m96 ((sep.bp 0 1))
   replace sep := sep.up g.size
   replace sep : Sep h.size h101.size [some (h93.size),ad99.map (·.block),(some av).map (·.block),(some ax).map (·.block)] := sepo.set g.size hlo 1 (y := ad99.map (fun (x : Addr) => x.block)) rfl (hb.imp id fun e => .inr ⟨_,e,Nat.le_refl _⟩) (fun k e => ownx.lt (by rw [blkOf_slice]; exact e))
   replace own_o : Own h101 (.slice ad99 7 cap100) 61 7 1 (([(s.a + ((rounds (sched p 48) s 64).a)),(s.b + ((rounds (sched p 48) s 64).b)),(s.c + ((rounds (sched p 48) s 64).c)),(s.d + ((rounds (sched p 48) s 64).d)),(s.e + ((rounds (sched p 48) s 64).e)),(s.f + ((rounds (sched p 48) s 64).f)),(s.g + ((rounds (sched p 48) s 64).g))]).map wv) := Own.appG ownx (by first | rfl | simp) (by first | rfl | (simp; done) | (simp; omega))
   clear ownx g hb hlo sepo
   clear m96 lt97 zs98
   replace sep := sep.sub (l' := [ad99.map (·.block),(some av).map (·.block),(some ax).map (·.block)]) (.cons _ (.cons_cons _ (.cons_cons _ (.cons_cons _ (.slnil)))))
   refine mP 8191 [12] [.slice ad99 (6 + 1) cap100] ?_
   refine mD [(0,.slice (some va) 8 vc),(9,.slice (some av) 8 cv),(15,.slice ad99 (6 + 1) cap100),(16,.int .i64 6)] ?_
   clear hF a; intro a hF
   have hcan : (6 + 1 : Nat) = 7 := by first | (simp; done) | (simp; omega)
   rw [hcan] at hF; clear hcan
   show C Tryd.prog (sub b43 [1,1,1,1,1,1,0,1,0,0,1,1]) _ a h101
   refine cP 22 hF ?_
   refine sP 3 [.int .i64 6,.int .i64 7,.int .i64 7] ?_
   refine sD [(0,.slice (some va) 8 vc),(9,.slice (some av) 8 cv),(15,.slice ad99 7 cap100),(16,.int .i64 7)] ?_
   clear hF a; intro a hF
   show Crounds _ _ _ _ 2 a h101
   refine Cround.step ?_
   refine cS ?_
   refine cS ?_
   refine cP 21 hF ?_
   refine sP 2 [.int .i64 7,.bool true] ?_
   refine sD [(0,.slice (some va) 8 vc),(9,.slice (some av) 8 cv),(15,.slice ad99 7 cap100),(16,.int .i64 7),(172,.bool true)] ?_
   clear hF a; intro a hF
   refine tK ?_
   refine cT 172 hF ?_
   refine cN ?_
   refine tK ?_
   refine cS ?_
   refine cB 5 ?_
   refine cD [0,0,0,6,14,0,0,96,224,510,1022,2047,4095] 23 mixed hF ?_
   refine mP 7 [0,1,2] [.slice ad99 7 cap100,.slice (some va) 8 vc,.int .i64 7] ?_
   refine mF 15 3 (.pointer (some (Addr.add va 7))) (Calm.indexA (a := va) (len := 8) (sz := 1) (k := (7 : Int)) 7 7 (by kernel_rfl) rfl (by omega) (by omega)) ?_
   refine mL 31 16 4 (wv s.h) (Calm.load (T := 61) (p := (Addr.add va 7)) (by kernel_rfl) (Loads.one (k := 1) (by kernel_rfl) (e0.cell (hs.cells 7 _ rfl)))) ?_
   refine mP 127 [5,6] [.slice (some av) 8 cv,.int .i64 7] ?_
   refine mF 255 7 (.pointer (some (Addr.add av 7))) (Calm.indexA (a := av) (len := 8) (sz := 1) (k := (7 : Int)) 7 7 (by kernel_rfl) rfl (by omega) (by omega)) ?_
   refine mL 511 272 8 (wv ((rounds (sched p 48) s 64).h)) (Calm.load (T := 61) (p := (Addr.add av 7)) (by kernel_rfl) (Loads.one (k := 1) (by kernel_rfl) (own_v.cell (j := 7) rfl))) ?_
   refine m1 1023 9 (wv (s.h + ((rounds (sched p 48) s 64).h))) (.int .u32 (IntKind.u32.wrap ((s.h.toNat : Int) + (((rounds (sched p 48) s 64).h).toNat : Int)))) (add32 s.h ((rounds (sched p 48) s 64).h)) ?_
   refine SimK.eff0 (i := 10) (D' := 2047) (X' := 2046) (by kernel_rfl) (by kernel_rfl) (by kernel_rfl) (by kernel_rfl) (Does.new (v := .slice (some ⟨h101.size,0,none⟩) 1 1) (o := .cells #[wv (s.h + ((rounds (sched p 48) s 64).h))] 61) (by kernel_rfl)) ?_
   rintro _ h102 ⟨rfl,hh⟩
   have g103 : Ext h101 h102 := push_ext hh
   have m104 : h102[h101.size]? = some (.cells #[wv (s.h + ((rounds (sched p 48) s 64).h))] 61) := push_at hh
   clear hh
   have lt105 := blk_lt m104
   have zs106 := e0.size
   have hlo := e0.size
   have sepo := sep
   replace e0 := e0.ext g103
   replace own_v := own_v.ext g103
   replace own_w := own_w.ext g103
   replace own_o := own_o.ext g103
   replace sep := sep.up g103.size
   replace sep := sepo.new hlo (blk_lt m104)
   clear sepo hlo
   refine SimK.eff0 (i := 11) (D' := 4095) (X' := 4095) (by kernel_rfl) (by kernel_rfl) (by kernel_rfl) (by kernel_rfl) (Does.append2 (t := 62) (E := 61) (sz := 1) (by_ := 4) (n := 7) (m := 1) (v := .slice ad99 7 cap100) (x := .slice (some ⟨h101.size,0,none⟩) 1 1) (xs := (([(s.a + ((rounds (sched p 48) s 64).a)),(s.b + ((rounds (sched p 48) s 64).b)),(s.c + ((rounds (sched p 48) s 64).c)),(s.d + ((rounds (sched p 48) s 64).d)),(s.e + ((rounds (sched p 48) s 64).e)),(s.f + ((rounds (sched p 48) s 64).f)),(s.g + ((rounds (sched p 48) s 64).g))]).map wv)) (ys := (([(s.h + ((rounds (sched p 48) s 64).h))]).map wv)) (by kernel_rfl) (by kernel_rfl) own_o (Row.blk (l := [wv (s.h + ((rounds (sched p 48) s 64).h))]) m104 rfl) (ones_wvs _) (by unfold maxLen; simp) (by simp)) ?_
   rintro _ h109 ⟨ad107,cap108,rfl,ownx,g,hb⟩
   rw [blkOf_slice] at g hb
   have hlo := e0.size
   have sepo := sep
   replace e0 := e0.grew g (sep.low 1 rfl)
   replace own_v := own_v.kept g (by rw [blkOf_slice]; exact (sep.ap 2 1))
   replace own_w := own_w.kept g (by rw [blkOf_slice]; exact (sep.ap 3 1))
   replace m104 := Grew.blk g m104 ((sep.bp 0 1))
   replace sep := sep.up g.size
   replace sep : Sep h.size h109.size [some (h101.size),ad107.map (·.block),(some av).map (·.block),(some ax).map (·.block)] := sepo.set g.size hlo 1 (y := ad107.map (fun (x : Addr) => x.block)) rfl (hb.imp id fun e => .inr ⟨_,e,Nat.le_refl _⟩) (fun k e => ownx.lt (by rw [blkOf_slice]; exact e))
   replace own_o : Own h109 (.slice ad107 8 cap108) 61 8 1 (([(s.a + ((rounds (sched p 48) s 64).a)),(s.b + ((rounds (sched p 48) s 64).b)),(s.c + ((rounds (sched p 48) s 64).c)),(s.d + ((rounds (sched p 48) s 64).d)),(s.e + ((rounds (sched p 48) s 64).e)),(s.f + ((rounds (sched p 48) s 64).f)),(s.g + ((rounds (sched p 48) s 64).g)),(s.h + ((rounds (sched p 48) s 64).h))]).map wv) := Own.appG ownx (by first | rfl | simp) (by first | rfl | (simp; done) | (simp; omega))
   clear ownx g hb hlo sepo
   clear m104 lt105 zs106
   replace sep := sep.sub (l' := [ad107.map (·.block),(some av).map (·.block),(some ax).map (·.block)]) (.cons _ (.cons_cons _ (.cons_cons _ (.cons_cons _ (.slnil)))))
   refine mP 8191 [12] [.slice ad107 (7 + 1) cap108] ?_
   refine mD [(0,.slice (some va) 8 vc),(9,.slice (some av) 8 cv),(15,.slice ad107 (7 + 1) cap108),(16,.int .i64 7)] ?_
   clear hF a; intro a hF
   have hcan : (7 + 1 : Nat) = 8 := by first | (simp; done) | (simp; omega)
   rw [hcan] at hF; clear hcan
   show C Tryd.prog (sub b43 [1,1,1,1,1,1,0,1,0,0,1,1]) _ a h109
   refine cP 22 hF ?_
   refine sP 3 [.int .i64 7,.int .i64 8,.int .i64 8] ?_
   refine sD [(0,.slice (some va) 8 vc),(9,.slice (some av) 8 cv),(15,.slice ad107 8 cap108),(16,.int .i64 8)] ?_
   clear hF a; intro a hF
   show Crounds _ _ _ _ 1 a h109
   refine Cround.step ?_
   refine cS ?_
   refine cS ?_
   refine cP 21 hF ?_
   refine sP 2 [.int .i64 8,.bool false] ?_
   refine sD [(0,.slice (some va) 8 vc),(9,.slice (some av) 8 cv),(15,.slice ad107 8 cap108),(16,.int .i64 8),(172,.bool false)] ?_
   clear hF a; intro a hF
   refine tK ?_
   refine cF 172 hF ?_
   refine cX 4 ?_
   show C Tryd.prog (sub b43 [1,1,1,1,1,1,1]) _ a h109
   refine cS ?_
   refine cP 24 hF ?_
   refine sP 2 [.slice ad107 8 cap108,.slice ad107 8 cap108] ?_
   refine sD [(4,.slice ad107 8 cap108)] ?_
   clear hF a; intro a hF
   refine tK ?_
   refine cR ?_
   refine ret_ok [.tmp 4] [.slice ad107 8 cap108] (.slice ad107 8 cap108) rfl hF ⟨rfl,trivial⟩ rfl ?_
   have own8 : Own h109 (.slice ad107 8 cap108) 61 8 1 (sv (piece s p)) := own_o
   obtain ⟨ao,e,_⟩ := own8.someA (by decide)
   subst e
   exact ⟨ao,_,rfl,own8,e0,sep.low 0 rfl _ rfl⟩
end Go.Proofs.YtkjlafiefgbjpaaDoor
