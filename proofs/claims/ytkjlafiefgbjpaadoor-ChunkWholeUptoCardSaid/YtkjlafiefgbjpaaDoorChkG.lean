/- Walks of chunks: what each function computes, as a law of its calls. No condition but those that each theorem names. -/
import Derived.Test.YtkjlafiefgbjpaaDoorChkD
namespace Go.Proofs.YtkjlafiefgbjpaaDoor
open Go Go.Lane Go.Sha
theorem check7_m (h : Heap) (c : List UInt8) (m : Nat) (hm : c.length = m) (va : Option Addr) (vc : Nat) (hr : Row h (.slice va m vc) m 1 (c.map bv)) (hcl : m ≤ 1099511627000) (i n : Int) (hn2 : n ≤ 9223372036854775807) (r : List Hs) (wa : Option Addr) (wc : Nat) (hp : HR h wa wc r.length r) (hrl : r.length ≤ 1099511627776) (t : Hs) (ht : t.length = 32) (hz0 : r = [] ∨ ∀ k,wa.map (fun (x : Addr) => x.block) = some k → k < h.size) (kt : Ktab h) (q : Bool) (hq : chkB c i n r t = q) : Sat Tryd.prog 14 #[.slice va m vc,.int .i64 i,.int .i64 n,.slice wa r.length wc,.agg (t.map bv).toArray] h fun v h' => v = .bool q ∧ Ext h h' := by
 subst hm
 exact check7_at h c va vc hr hcl i n hn2 r wa wc hp hrl t ht hr.ltB hz0 kt q hq
noncomputable def b5 : Code := Tryd.f5.body.getD .skip
set_option maxHeartbeats 2000000 in
theorem whole7_sat (h : Heap) (b : List UInt8) (n : Nat) (hbn : b.length = n) (va : Option Addr) (vc : Nat) (hr : Row h (.slice va n vc) n 1 (b.map bv)) (hbl : n ≤ 1048576) (N : Nat) (hN : nch n = N) (kt : Ktab h) : Sat Tryd.prog 5 #[.slice va n vc] h fun v h' => v = .bool true ∧ Ext h h' := by
 have e0 := Ext.refl h
 have h0s := kt.lt
 have sep : Sep h.size h.size [] := Sep.nil _ _
 refine sat_of (args := [.slice va n vc]) (fn := Tryd.f5) (B := b5) (n := 129) (L := [(0,.slice va n vc)]) Tryd.func5 rfl (by kernel_rfl) rfl ?_
 intro a hF
 refine cS ?_
 refine cP 0 hF ?_
 refine sP 1 [.bool false] ?_
 refine sD [(0,.slice va n vc)] ?_
 clear hF a; intro a hF
 refine tK ?_
 refine cS ?_
 refine cP 1 hF ?_
 refine SeqK.eff (k' := 1) (Does.call (f := 7) (args := #[]) (by kernel_rfl) (shown7_sat _ kt)) rfl ?_
 rintro _ h1 ⟨rfl,g⟩
 replace e0 := e0.ext g
 replace kt := kt.ext g
 replace sep := sep.up g.size
 clear g
 refine sP 2 [.bool true] ?_
 refine sD [(0,.slice va n vc),(3,.bool true)] ?_
 clear hF a; intro a hF
 refine tK ?_
 refine cS ?_
 refine cS ?_
 refine cP 2 hF ?_
 refine sP 2 [.bool true,.bool false] ?_
 refine sD [(0,.slice va n vc),(16,.bool false)] ?_
 clear hF a; intro a hF
 refine tK ?_
 refine cF 16 hF ?_
 refine cN ?_
 refine tK ?_
 refine cS ?_
 refine cP 4 hF ?_
 refine sP 1 [.slice va n vc] ?_
 refine SeqK.eff (k' := 2) (Does.call (f := 8) (args := #[.slice va n vc]) (by kernel_rfl) (split7_n _ b n hbn _ _ (hr.ext e0) (by omega) N hN)) rfl ?_
 rintro _ h6 ⟨va2,vc3,dat4,dc5,rfl,ownx,owny,sepn,g⟩
 have hlo := e0.size
 have sepo := sep
 replace e0 := e0.ext g
 replace kt := kt.ext g
 replace sep := sep.up g.size
 replace sep := sepo.app sepn g.size hlo
 have own_x := ownx; have own_xd := owny; clear ownx owny sepn sepo hlo g
 refine sP 3 [.slice va2 N vc3] ?_
 refine sD [(0,.slice va n vc),(4,.slice va2 N vc3)] ?_
 clear hF a; intro a hF
 refine tK ?_
 refine cS ?_
 refine cP 5 hF ?_
 refine sP 1 [.slice va n vc] ?_
 refine SeqK.eff (k' := 2) (Does.call (f := 12) (args := #[.slice va n vc]) (by kernel_rfl) (root7_n _ b n hbn _ _ (hr.ext e0) (by omega) N hN kt)) rfl ?_
 rintro _ h7 ⟨rfl,g⟩
 replace e0 := e0.ext g
 replace kt := kt.ext g
 replace own_x := own_x.ext g
 replace own_xd := own_xd.ext g
 replace sep := sep.up g.size
 clear g
 refine SeqK.eff (k' := 3) (Does.new (v := .pointer (some ⟨h7.size,0,none⟩)) (o := .cells (z32.map bv).toArray 31) (by kernel_rfl)) rfl ?_
 rintro _ h8 ⟨rfl,hh⟩
 have g9 : Ext h7 h8 := push_ext hh
 have m10 : h8[h7.size]? = some (.cells (z32.map bv).toArray 31) := push_at hh
 clear hh
 have lt11 := blk_lt m10
 have zs12 := e0.size
 have hlo := e0.size
 have sepo := sep
 replace e0 := e0.ext g9
 replace kt := kt.ext g9
 replace own_x := own_x.ext g9
 replace own_xd := own_xd.ext g9
 replace sep := sep.up g9.size
 replace sep := sepo.new hlo (blk_lt m10)
 clear sepo hlo
 refine SeqK.eff (k' := 4) (Does.store (b := h7.size) (off := 0) (vs := (root (lch b N)).map bv) (l := z32.map bv) (storeOp_of (by kernel_rfl) (hlm (root_len (lch_32 _ _)))) m10 (hfit rfl (root_len (lch_32 _ _))) (ones_map _)) rfl ?_
 rintro _ h13 ⟨rfl,hh⟩
 have g14 : Grew (some (h7.size)) h8 h13 := hput_gr hh
 replace m10 : h13[h7.size]? = some (.cells ((root (lch b N)).map bv).toArray 31) := hput_at (off := 0) (vs := (root (lch b N)).map bv) (l := (z32.map bv)) hh (hsplice rfl (root_len (lch_32 _ _))) m10
 clear hh
 replace e0 := e0.grew g14 (sep.low 0 rfl)
 replace kt := kt.grew g14 (sep.zero 0 rfl h0s)
 replace own_x := own_x.kept g14 (by rw [blkOf_slice]; exact (sep.ap 1 0))
 replace own_xd := own_xd.kept g14 (by rw [blkOf_slice]; exact (sep.ap 2 0))
 replace sep := sep.up g14.size
 refine sD [(0,.slice va n vc),(4,.slice va2 N vc3),(5,pV h7.size)] ?_
 clear hF a; intro a hF
 refine tK ?_
 refine cS ?_
 refine cP 6 hF ?_
 refine SeqK.eff (k' := 1) (Does.new (v := .slice (some ⟨h13.size,0,none⟩) 0 0) (o := .cells #[] 5) (by kernel_rfl)) rfl ?_
 rintro _ h15 ⟨rfl,hh⟩
 have g16 : Ext h13 h15 := push_ext hh
 have m17 : h15[h13.size]? = some (.cells #[] 5) := push_at hh
 clear hh
 have lt18 := blk_lt m17
 have zs19 := e0.size
 have hlo := e0.size
 have sepo := sep
 replace e0 := e0.ext g16
 replace kt := kt.ext g16
 replace own_x := own_x.ext g16
 replace own_xd := own_xd.ext g16
 replace m10 := Ext.blk g16 m10
 replace sep := sep.up g16.size
 replace sep := sepo.new hlo (blk_lt m17)
 clear sepo hlo
 have own_all : Own h15 (.slice (some ⟨h13.size,0,none⟩) 0 0) 5 ([] : List UInt8).length 1 (([] : List UInt8).map bv) := Own.empty 1 m17
 replace sep : Sep h.size h15.size [(some ⟨h13.size,0,none⟩ : Option Addr).map (·.block),some (h7.size),va2.map (·.block),dat4.map (·.block)] := sep
 clear m17 lt18 zs19
 refine sP 2 [.slice (some ⟨h13.size,0,none⟩) 0 0] ?_
 refine sD [(0,.slice va n vc),(4,.slice va2 N vc3),(5,pV h7.size),(6,.slice (some ⟨h13.size,0,none⟩) 0 0)] ?_
 clear hF a; intro a hF
 refine tK ?_
 refine cS ?_
 refine cS ?_
 refine cP 7 hF ?_
 refine sP 1 [.int .i64 0] ?_
 refine sD [(0,.slice va n vc),(4,.slice va2 N vc3),(5,pV h7.size),(6,.slice (some ⟨h13.size,0,none⟩) 0 0),(7,.int .i64 0)] ?_
 clear hF a; intro a hF
 refine tK ?_
 refine cB 0 ?_
 replace sep := sep.sub (l' := [(some ⟨h13.size,0,none⟩ : Option Addr).map (·.block),some (h7.size),va2.map (·.block),dat4.map (·.block)]) (.cons_cons _ (.cons_cons _ (.cons_cons _ (.cons_cons _ (.slnil)))))
 have hz64 : ([] : List UInt8) = b.take (0 * 64) := by simp
 rw [hz64] at own_all
 refine C.loop (fun m a h' => ∃ i : Nat,∃ ad : Option Addr,∃ cap : Nat,m = N - i ∧ (Ext h h') ∧ (Ktab h') ∧ (h'[h7.size]? = some (.cells ((root (lch b N)).map bv).toArray 31)) ∧ (i ≤ N) ∧ (Own h' (.slice ad ((b.take (i * 64)).length) cap) 5 ((b.take (i * 64)).length) 1 ((b.take (i * 64)).map bv)) ∧ (Own h' (.slice va2 N vc3) 22 N 1 (sls dat4 b N)) ∧ (Own h' (.slice dat4 n dc5) 5 n 1 (b.map bv)) ∧ (Sep h.size h'.size [ad.map (·.block),some (h7.size),va2.map (·.block),dat4.map (·.block)]) ∧ (Fr a 129 [(0,.slice va n vc),(4,.slice va2 N vc3),(5,.pointer (some ⟨h7.size,0,none⟩)),(6,.slice ad ((b.take (i * 64)).length) cap),(7,.int .i64 ((i : Nat) : Int))])) (N - 0) [1,1,1,1,1,1,0,1,0,0] (by kernel_rfl) ⟨0,(some ⟨h13.size,0,none⟩),0,rfl,e0,kt,m10,(by omega),own_all,own_x,own_xd,sep,hF⟩ ?_
 clear hF a
 clear e0
 clear kt
 clear m10
 clear own_all
 clear own_x
 clear own_xd
 clear sep
 rintro m a h20 ⟨i,ad,cap,rfl,e0,kt,m10,hi,own_all,own_x,own_xd,sep,hF⟩
 refine cS ?_
 refine cS ?_
 refine cP 8 hF ?_
 refine sP 4 [nV i,.slice va2 N vc3,nV N,.bool (decide (((i : Nat) : Int) < ((N : Nat) : Int)))] ?_
 refine sD [(0,.slice va n vc),(4,.slice va2 N vc3),(5,pV h7.size),(6,.slice ad ((b.take (i * 64)).length) cap),(7,nV i),(25,.bool (decide (((i : Nat) : Int) < ((N : Nat) : Int))))] ?_
 clear hF a; intro a hF
 refine tK ?_
 refine cC 25 (decide (((i : Nat) : Int) < ((N : Nat) : Int))) hF (fun hc21 => ?_) (fun hc21 => ?_)
 ·skip
  replace hc21 := of_decide_eq_true hc21
  have hia : i < N := by omega
  obtain ⟨ax,rfl,_⟩ := own_x.someA (by omega)
  have hck := ck_len b i; rw [hbn] at hck
  have hcp : 0 < (ck b i).length := ck_pos (by rw [hbn,hN]; exact hia)
  have hiN : i * 64 < n := by rw [← hN] at hia; unfold nch at hia; omega
  have hal : (b.take (i * 64)).length ≤ n := by rw [List.length_take]; omega
  obtain ⟨P,hP⟩ : ∃ P,incl (lch b N) i = P := ⟨_,rfl⟩
  have hPl : P.length ≤ N := by have := incl_len _ (lch b N) i (Nat.le_refl _); rw [hP,lch_len] at this; exact this
  have h32P : All32 P := hP ▸ incl_32 _ (lch b N) i (Nat.le_refl _) (lch_32 _ _)
  have hNn : N ≤ n := hN ▸ nch_le n
  refine cN ?_
  refine tK ?_
  refine cS ?_
  refine cB 1 ?_
  refine cS ?_
  refine cP 10 hF ?_
  refine sP 3 [.slice ad ((b.take (i * 64)).length) cap,.slice (some ax) N vc3,nV i] ?_
  refine sC 4 (.pointer (some (Addr.add ax i))) ((Calm.indexA (a := ax) (len := N) (sz := 1) (k := ((i : Nat) : Int)) i i (by kernel_rfl) rfl (by omega) (by omega)) _) ?_
  refine sC 5 (.slice (cad dat4 i) ((ck b i).length) ((ck b i).length)) (Calm.load (T := 22) (p := (Addr.add ax i)) (by kernel_rfl) (Loads.one (k := 1) (by kernel_rfl) (sls_cell (i := i) own_x rfl (by omega)))) ?_
  refine SeqK.eff (k' := 6) (Does.append2 (t := 22) (E := 5) (sz := 1) (by_ := 1) (n := (b.take (i * 64)).length) (m := (ck b i).length) (v := .slice ad ((b.take (i * 64)).length) cap) (x := .slice (cad dat4 i) ((ck b i).length) ((ck b i).length)) (xs := ((b.take (i * 64)).map bv)) (ys := ((ck b i).map bv)) (by kernel_rfl) (by kernel_rfl) own_all (ck_rowN hbn hN own_xd.row hia) (ones_map _) (by unfold maxLen; omega) (by omega)) rfl ?_
  rintro _ h24 ⟨ad22,cap23,rfl,ownx,g,hb⟩
  rw [blkOf_slice] at g hb
  have hlo := e0.size
  have sepo := sep
  replace e0 := e0.grew g (sep.low 0 rfl)
  replace kt := kt.grew g (sep.zero 0 rfl h0s)
  replace own_x := own_x.kept g (by rw [blkOf_slice]; exact (sep.ap 2 0))
  replace own_xd := own_xd.kept g (by rw [blkOf_slice]; exact (sep.ap 3 0))
  replace m10 := Grew.blk g m10 ((sep.bp 1 0))
  replace sep := sep.up g.size
  replace sep : Sep h.size h24.size [ad22.map (·.block),some (h7.size),(some ax).map (·.block),dat4.map (·.block)] := sepo.set g.size hlo 0 (y := ad22.map (fun (x : Addr) => x.block)) rfl (hb.imp id fun e => .inr ⟨_,e,Nat.le_refl _⟩) (fun k e => ownx.lt (by rw [blkOf_slice]; exact e))
  replace own_all : Own h24 (.slice ad22 ((b.take (i * 64) ++ ck b i).length) cap23) 5 ((b.take (i * 64) ++ ck b i).length) 1 ((b.take (i * 64) ++ ck b i).map bv) := Own.app (L2 := (b.take (i * 64) ++ ck b i)) ownx (by first | rfl | simp) (by first | rfl | (simp; done) | (simp; omega))
  clear ownx g hb hlo sepo
  refine sP 7 [.slice ad22 (((b.take (i * 64)).length) + ((ck b i).length)) cap23] ?_
  refine sD [(0,.slice va n vc),(4,.slice (some ax) N vc3),(5,pV h7.size),(6,.slice ad22 (((b.take (i * 64)).length) + ((ck b i).length)) cap23),(7,nV i)] ?_
  clear hF a; intro a hF
  have hcan : (((b.take (i * 64)).length) + ((ck b i).length) : Nat) = (b.take (i * 64) ++ ck b i).length := by first | (simp; done) | (simp; omega)
  rw [hcan] at hF; clear hcan
  refine tK ?_
  refine cS ?_
  refine cP 11 hF ?_
  refine sP 2 [.slice va n vc,nV i] ?_
  refine SeqK.eff (k' := 3) (Does.call (f := 10) (args := #[.slice va n vc,.int .i64 ((i : Nat) : Int)]) (by kernel_rfl) (proof7_n _ b n hbn _ _ (hr.ext e0) (by omega) N hN ((i : Nat) : Int) kt P 0 (inclZ_pair (lch_len b N) hia hP))) rfl ?_
  rintro _ h27 ⟨_,rfl,ad25,cap26,rfl,ownx,hge,g⟩
  have hlo := e0.size
  have sepo := sep
  replace e0 := e0.ext g
  replace kt := kt.ext g
  replace own_all := own_all.ext g
  replace own_x := own_x.ext g
  replace own_xd := own_xd.ext g
  replace m10 := Ext.blk g m10
  replace sep := sep.up g.size
  replace sep := sepo.cons (x := ad25.map (fun (x : Addr) => x.block)) g.size hlo (fun k e => ⟨hge k e,ownx.lt (by rw [blkOf_slice]; exact e)⟩)
  have own_p : Own h27 (.slice ad25 P.length cap26) 31 P.length 32 (hcs P) := ownx; clear ownx sepo hlo hge g
  refine sP 8 [.tuple #[.slice ad25 P.length cap26,.int .i64 0],.slice ad25 P.length cap26,.int .i64 0,.slice ad25 P.length cap26,.int .i64 0] ?_
  refine sD [(0,.slice va n vc),(4,.slice (some ax) N vc3),(5,pV h7.size),(6,.slice ad22 ((b.take (i * 64) ++ ck b i).length) cap23),(7,nV i),(8,.slice ad25 P.length cap26),(9,.int .i64 0)] ?_
  clear hF a; intro a hF
  refine tK ?_
  refine cS ?_
  refine cD [0,0,3,7,0,0,32,0,0,511,1023] 12 mixed hF ?_
  refine mP 3 [0,1] [.slice (some ax) N vc3,nV i] ?_
  refine mF 7 2 (.pointer (some (Addr.add ax i))) (Calm.indexA (a := ax) (len := N) (sz := 1) (k := ((i : Nat) : Int)) i i (by kernel_rfl) rfl (by omega) (by omega)) ?_
  refine mL 15 8 3 (.slice (cad dat4 i) ((ck b i).length) ((ck b i).length)) (Calm.load (T := 22) (p := (Addr.add ax i)) (by kernel_rfl) (Loads.one (k := 1) (by kernel_rfl) (sls_cell (i := i) own_x rfl (by omega)))) ?_
  refine mP 255 [4,5,6,7] [nV i,.slice va n vc,nV n,.slice ad25 P.length cap26] ?_
  refine mL 511 264 8 (.agg ((root (lch b N)).map bv).toArray) (Calm.load (T := 31) (p := ⟨h7.size,0,none⟩) (by kernel_rfl) (Loads.hash (by kernel_rfl) (root_len (lch_32 _ _)) m10)) ?_
  refine SimK.eff0 (i := 9) (D' := 1023) (X' := 1023) (by kernel_rfl) (by kernel_rfl) (by kernel_rfl) (by kernel_rfl) (Does.call (f := 14) (args := #[.slice (cad dat4 i) ((ck b i).length) ((ck b i).length),.int .i64 ((i : Nat) : Int),.int .i64 ((n : Nat) : Int),.slice ad25 P.length cap26,.agg ((root (lch b N)).map bv).toArray]) (by kernel_rfl) (check7_m _ (ck b i) (ck b i).length rfl (cad dat4 i) (ck b i).length (ck_rowN hbn hN own_xd.row hia) (by omega) ((i : Nat) : Int) ((n : Nat) : Int) (by omega) P _ _ (HR.of own_p h32P) (by omega) (root (lch b N)) (root_len (lch_32 _ _)) (.inr fun k e => own_p.lt (by rw [blkOf_slice]; exact e)) kt true (chk_heldN hbn hN hia hP))) ?_
  rintro _ h28 ⟨rfl,g⟩
  replace e0 := e0.ext g
  replace kt := kt.ext g
  replace own_all := own_all.ext g
  replace own_x := own_x.ext g
  replace own_xd := own_xd.ext g
  replace own_p := own_p.ext g
  replace m10 := Ext.blk g m10
  replace sep := sep.up g.size
  clear g
  refine mP 2047 [10] [.bool true] ?_
  refine mD [(0,.slice va n vc),(4,.slice (some ax) N vc3),(5,pV h7.size),(6,.slice ad22 ((b.take (i * 64) ++ ck b i).length) cap23),(7,nV i),(8,.slice ad25 P.length cap26),(9,.int .i64 0),(10,.bool true)] ?_
  clear hF a; intro a hF
  refine tK ?_
  refine cS ?_
  refine cS ?_
  rcases Nat.lt_or_ge (i + 1) N with hi1 | hi1
  ·skip
   have h64 : (ck b i).length = 64 := by rw [← hN] at hi1; unfold nch at hi1; omega
   refine cP 13 hF ?_
   refine sP 9 [.int .i64 0,.bool false,.bool false,.bool true,.bool false,.bool false,.bool false,.slice (some ax) N vc3,nV i] ?_
   refine sC 10 (.pointer (some (Addr.add ax i))) ((Calm.indexA (a := ax) (len := N) (sz := 1) (k := ((i : Nat) : Int)) i i (by kernel_rfl) rfl (by omega) (by omega)) _) ?_
   refine sC 11 (.slice (cad dat4 i) ((ck b i).length) ((ck b i).length)) (Calm.load (T := 22) (p := (Addr.add ax i)) (by kernel_rfl) (Loads.one (k := 1) (by kernel_rfl) (sls_cell (i := i) own_x rfl (by omega)))) ?_
   refine sP 12 [nV ((ck b i).length)] ?_
   refine s1 13 (.bool false) (.bool ((((ck b i).length : Nat) : Int) == (0 : Int))) (congrArg Value.bool (beq_eq_false_iff_ne.2 (by omega))) ?_
   refine sP 17 [.bool false,.bool false,.slice (some ax) N vc3,nV i] ?_
   refine sC 18 (.pointer (some (Addr.add ax i))) ((Calm.indexA (a := ax) (len := N) (sz := 1) (k := ((i : Nat) : Int)) i i (by kernel_rfl) rfl (by omega) (by omega)) _) ?_
   refine sC 19 (.slice (cad dat4 i) ((ck b i).length) ((ck b i).length)) (Calm.load (T := 22) (p := (Addr.add ax i)) (by kernel_rfl) (Loads.one (k := 1) (by kernel_rfl) (sls_cell (i := i) own_x rfl (by omega)))) ?_
   refine sP 20 [nV ((ck b i).length)] ?_
   refine s1 21 (.bool false) (.bool (decide ((64 : Int) < (((ck b i).length : Nat) : Int)))) (congrArg Value.bool (decide_eq_false (by omega))) ?_
   refine sP 24 [.bool false,.bool false,nV i] ?_
   refine s1 25 (.int .i64 ((i + 1 : Nat) : Int)) (.int .i64 (IntKind.i64.wrap (((i : Nat) : Int) + 1))) (congrArg (Value.int .i64) (w64' (by omega) (by omega) (by omega))) ?_
   refine sP 27 [.slice (some ax) N vc3,nV N] ?_
   refine s1 28 (.bool true) (.bool (decide (((i + 1 : Nat) : Int) < ((N : Nat) : Int)))) (congrArg Value.bool (decide_eq_true (by omega))) ?_
   refine sP 31 [.bool true,.slice (some ax) N vc3,nV i] ?_
   refine sC 32 (.pointer (some (Addr.add ax i))) ((Calm.indexA (a := ax) (len := N) (sz := 1) (k := ((i : Nat) : Int)) i i (by kernel_rfl) rfl (by omega) (by omega)) _) ?_
   refine sC 33 (.slice (cad dat4 i) ((ck b i).length) ((ck b i).length)) (Calm.load (T := 22) (p := (Addr.add ax i)) (by kernel_rfl) (Loads.one (k := 1) (by kernel_rfl) (sls_cell (i := i) own_x rfl (by omega)))) ?_
   refine sP 34 [nV ((ck b i).length)] ?_
   refine s1 35 (.bool false) (.bool (!((((ck b i).length : Nat) : Int) == (64 : Int)))) (congrArg (fun b => Value.bool (!b)) (beq_iff_eq.2 (by omega))) ?_
   refine sP 37 [.bool false,.bool false] ?_
   refine sD [(0,.slice va n vc),(4,.slice (some ax) N vc3),(5,pV h7.size),(6,.slice ad22 ((b.take (i * 64) ++ ck b i).length) cap23),(7,nV i),(8,.slice ad25 P.length cap26),(86,.bool false)] ?_
   clear hF a; intro a hF
   refine tK ?_
   refine cF 86 hF ?_
   refine cN ?_
   refine tK ?_
   refine cS ?_
   refine cD [0,0,3,7,15,0,0,64,0,0,1023,2047] 15 mixed hF ?_
   refine mP 3 [0,1] [.slice (some ax) N vc3,nV i] ?_
   refine mF 7 2 (.pointer (some (Addr.add ax i))) (Calm.indexA (a := ax) (len := N) (sz := 1) (k := ((i : Nat) : Int)) i i (by kernel_rfl) rfl (by omega) (by omega)) ?_
   refine mL 15 8 3 (.slice (cad dat4 i) ((ck b i).length) ((ck b i).length)) (Calm.load (T := 22) (p := (Addr.add ax i)) (by kernel_rfl) (Loads.one (k := 1) (by kernel_rfl) (sls_cell (i := i) own_x rfl (by omega)))) ?_
   obtain ⟨C1,hC1⟩ : ∃ C,(ck b i).drop 1 = C := ⟨_,rfl⟩
   have hC1l : C1.length = (ck b i).length - 1 := by rw [← hC1,List.length_drop]
   obtain ⟨ad3,had3⟩ : ∃ x,x = if (ck b i).length = 1 then (cad dat4 i) else (cad dat4 i).map (fun (x : Addr) => x.add (1 * 1)) := ⟨_,rfl⟩
   refine mF 31 4 (.slice ad3 ((ck b i).length - 1) ((ck b i).length - 1)) (fun h => Calm.sliceO (a := (cad dat4 i)) (len := ((ck b i).length)) (cap := ((ck b i).length)) (sz := 1) (x := ad3) 1 ((ck b i).length) ((ck b i).length) ((ck b i).length - 1) ((ck b i).length - 1) (by kernel_rfl) (.inl ⟨rfl,rfl⟩) (.inl ⟨rfl,rfl⟩) (.inr rfl) (by omega) (by omega) had3 (by first | rfl | omega) (by first | rfl | omega) h) ?_
   refine mP 511 [5,6,7,8] [nV i,.slice va n vc,nV n,.slice ad25 P.length cap26] ?_
   refine mL 1023 520 9 (.agg ((root (lch b N)).map bv).toArray) (Calm.load (T := 31) (p := ⟨h7.size,0,none⟩) (by kernel_rfl) (Loads.hash (by kernel_rfl) (root_len (lch_32 _ _)) m10)) ?_
   refine SimK.eff0 (i := 10) (D' := 2047) (X' := 2047) (by kernel_rfl) (by kernel_rfl) (by kernel_rfl) (by kernel_rfl) (Does.call (f := 14) (args := #[.slice ad3 ((ck b i).length - 1) ((ck b i).length - 1),.int .i64 ((i : Nat) : Int),.int .i64 ((n : Nat) : Int),.slice ad25 P.length cap26,.agg ((root (lch b N)).map bv).toArray]) (by kernel_rfl) (check7_m _ C1 ((ck b i).length - 1) hC1l ad3 ((ck b i).length - 1) ((ck_rowN hbn hN own_xd.row hia).dropB (by omega) (Nat.le_refl _) had3 hC1) (by omega) ((i : Nat) : Int) ((n : Nat) : Int) (by omega) P _ _ (HR.of own_p h32P) (by omega) (root (lch b N)) (root_len (lch_32 _ _)) (.inr fun k e => own_p.lt (by rw [blkOf_slice]; exact e)) kt false (by have := chk_not (c := C1) (b := b) (i := i) (r := P) (t := root (lch b N)) (by rw [hC1l,hbn]; omega) (by omega); rwa [hbn] at this))) ?_
   rintro _ h29 ⟨rfl,g⟩
   replace e0 := e0.ext g
   replace kt := kt.ext g
   replace own_all := own_all.ext g
   replace own_x := own_x.ext g
   replace own_xd := own_xd.ext g
   replace own_p := own_p.ext g
   replace m10 := Ext.blk g m10
   replace sep := sep.up g.size
   clear g
   refine mP 4095 [11] [.bool false] ?_
   refine mD [(0,.slice va n vc),(4,.slice (some ax) N vc3),(5,pV h7.size),(6,.slice ad22 ((b.take (i * 64) ++ ck b i).length) cap23),(7,nV i),(8,.slice ad25 P.length cap26),(11,.bool false)] ?_
   clear hF a; intro a hF
   refine tK ?_
   refine cS ?_
   refine C.mono (K := fun e a hJ => e = .normal ∧ (Ext h hJ) ∧ (Ktab hJ) ∧ (Own hJ (.slice (some ax) N vc3) 22 N 1 (sls dat4 b N)) ∧ (Own hJ (.slice dat4 n dc5) 5 n 1 (b.map bv)) ∧ (Own hJ (.slice ad22 ((b.take (i * 64) ++ ck b i).length) cap23) 5 ((b.take (i * 64) ++ ck b i).length) 1 ((b.take (i * 64) ++ ck b i).map bv)) ∧ (Own hJ (.slice ad25 P.length cap26) 31 P.length 32 (hcs P)) ∧ (hJ[h7.size]? = some (.cells ((root (lch b N)).map bv).toArray 31)) ∧ (Sep h.size hJ.size [ad25.map (·.block),ad22.map (·.block),some (h7.size),(some ax).map (·.block),dat4.map (·.block)]) ∧ Fr a 129 [(0,.slice va n vc),(4,.slice (some ax) N vc3),(5,.pointer (some ⟨h7.size,0,none⟩)),(6,.slice ad22 ((b.take (i * 64) ++ ck b i).length) cap23),(7,.int .i64 ((i : Nat) : Int)),(11,.bool false),(12,.bool false)]) ?_ ?_
   ·skip
    refine cD [0,0,0,6,14,31,0,127,0,0,512,0,0,8191,16383] 16 mixed hF ?_
    refine mP 6 [1,2] [.slice (some ax) N vc3,nV i] ?_
    refine mF 14 3 (.pointer (some (Addr.add ax i))) (Calm.indexA (a := ax) (len := N) (sz := 1) (k := ((i : Nat) : Int)) i i (by kernel_rfl) rfl (by omega) (by omega)) ?_
    refine mL 30 16 4 (.slice (cad dat4 i) ((ck b i).length) ((ck b i).length)) (Calm.load (T := 22) (p := (Addr.add ax i)) (by kernel_rfl) (Loads.one (k := 1) (by kernel_rfl) (sls_cell (i := i) own_x rfl (by omega)))) ?_
    refine mP 3870 [8,9,10,11] [nV i,.slice va n vc,nV n,.slice ad25 P.length cap26] ?_
    refine mL 7966 4112 12 (.agg ((root (lch b N)).map bv).toArray) (Calm.load (T := 31) (p := ⟨h7.size,0,none⟩) (by kernel_rfl) (Loads.hash (by kernel_rfl) (root_len (lch_32 _ _)) m10)) ?_
    refine SimK.effs (is := [0,6]) (by kernel_rfl) (by simp) ?_
    intro q hq
    simp only [List.mem_cons,List.not_mem_nil,or_false] at hq
    rcases hq with rfl | rfl
    ·skip
     refine SimK.effAt (i := 0) (D' := 7967) (X' := 1) (by kernel_rfl) (by kernel_rfl) [4,12] (by kernel_rfl) (Does.new (v := .slice (some ⟨h29.size,0,none⟩) 0 0) (o := .cells #[] 5) (by kernel_rfl)) ?_
     rintro _ h30 ⟨rfl,hh⟩
     have g31 : Ext h29 h30 := push_ext hh
     have m32 : h30[h29.size]? = some (.cells #[] 5) := push_at hh
     clear hh
     have lt33 := blk_lt m32
     have zs34 := e0.size
     have hlo := e0.size
     have sepo := sep
     replace e0 := e0.ext g31
     replace kt := kt.ext g31
     replace own_all := own_all.ext g31
     replace own_x := own_x.ext g31
     replace own_xd := own_xd.ext g31
     replace own_p := own_p.ext g31
     replace m10 := Ext.blk g31 m10
     replace sep := sep.up g31.size
     replace sep := sepo.new hlo (blk_lt m32)
     clear sepo hlo
     refine ⟨?_,?_⟩
     ·intro j hj
      simp only [List.mem_cons,List.not_mem_nil,or_false] at hj
      rcases hj with rfl | rfl
      ·exact goodOf (Calm.load (T := 22) (p := (Addr.add ax i)) (by kernel_rfl) (Loads.one (k := 1) (by kernel_rfl) (sls_cell (i := i) own_x rfl (by omega))))
      ·exact goodOf (Calm.load (T := 31) (p := ⟨h7.size,0,none⟩) (by kernel_rfl) (Loads.hash (by kernel_rfl) (root_len (lch_32 _ _)) m10))
     have own_t : Own h30 (.slice (some ⟨h29.size,0,none⟩) 0 0) 5 ([] : List UInt8).length 1 (([] : List UInt8).map bv) := Own.empty 1 m32
     replace sep : Sep h.size h30.size [(some ⟨h29.size,0,none⟩ : Option Addr).map (·.block),ad25.map (·.block),ad22.map (·.block),some (h7.size),(some ax).map (·.block),dat4.map (·.block)] := sep
     clear m32 lt33 zs34
     refine SimK.effs (is := [5,6]) (by kernel_rfl) (by simp) ?_
     intro q hq
     simp only [List.mem_cons,List.not_mem_nil,or_false] at hq
     rcases hq with rfl | rfl
     ·skip
      refine SimK.effAt (i := 5) (D' := 7999) (X' := 63) (by kernel_rfl) (by kernel_rfl) [12] (by kernel_rfl) (Does.append2 (t := 22) (E := 5) (sz := 1) (by_ := 1) (n := 0) (m := (ck b i).length) (v := .slice (some ⟨h29.size,0,none⟩) 0 0) (x := .slice (cad dat4 i) ((ck b i).length) ((ck b i).length)) (xs := (([]).map bv)) (ys := ((ck b i).map bv)) (by kernel_rfl) (by kernel_rfl) own_t (ck_rowN hbn hN own_xd.row hia) (ones_map _) (by unfold maxLen; simp; omega) (by simp; omega)) ?_
      rintro _ h37 ⟨ad35,cap36,rfl,ownx,g,hb⟩
      rw [blkOf_slice] at g hb
      have hlo := e0.size
      have sepo := sep
      replace e0 := e0.grew g (sep.low 0 rfl)
      replace kt := kt.grew g (sep.zero 0 rfl h0s)
      replace own_all := own_all.kept g (by rw [blkOf_slice]; exact (sep.ap 2 0))
      replace own_x := own_x.kept g (by rw [blkOf_slice]; exact (sep.ap 4 0))
      replace own_xd := own_xd.kept g (by rw [blkOf_slice]; exact (sep.ap 5 0))
      replace own_p := own_p.kept g (by rw [blkOf_slice]; exact (sep.ap 1 0))
      replace m10 := Grew.blk g m10 ((sep.bp 3 0))
      replace sep := sep.up g.size
      replace sep : Sep h.size h37.size [ad35.map (·.block),ad25.map (·.block),ad22.map (·.block),some (h7.size),(some ax).map (·.block),dat4.map (·.block)] := sepo.set g.size hlo 0 (y := ad35.map (fun (x : Addr) => x.block)) rfl (hb.imp id fun e => .inr ⟨_,e,Nat.le_refl _⟩) (fun k e => ownx.lt (by rw [blkOf_slice]; exact e))
      replace own_t : Own h37 (.slice ad35 ((ck b i).length) cap36) 5 ((ck b i).length) 1 ((ck b i).map bv) := Own.app (L2 := (ck b i)) ownx (by first | rfl | simp) (by first | rfl | (simp; done) | (simp; omega))
      clear ownx g hb hlo sepo
      refine ⟨?_,?_⟩
      ·intro j hj
       simp only [List.mem_cons,List.not_mem_nil,or_false] at hj
       subst hj
       exact goodOf (Calm.load (T := 31) (p := ⟨h7.size,0,none⟩) (by kernel_rfl) (Loads.hash (by kernel_rfl) (root_len (lch_32 _ _)) m10))
      refine SimK.eff (i := 6) (D' := 8063) (X' := 127) (by kernel_rfl) (by kernel_rfl) (by kernel_rfl) [12] (by kernel_rfl) (Does.new (v := .slice (some ⟨h37.size,0,none⟩) 1 1) (o := .cells #[.int .u8 0] 5) (by kernel_rfl)) ?_
      rintro _ h38 ⟨rfl,hh⟩
      have g39 : Ext h37 h38 := push_ext hh
      have m40 : h38[h37.size]? = some (.cells #[.int .u8 0] 5) := push_at hh
      clear hh
      have lt41 := blk_lt m40
      have zs42 := e0.size
      have hlo := e0.size
      have sepo := sep
      replace e0 := e0.ext g39
      replace kt := kt.ext g39
      replace own_all := own_all.ext g39
      replace own_x := own_x.ext g39
      replace own_xd := own_xd.ext g39
      replace own_p := own_p.ext g39
      replace own_t := own_t.ext g39
      replace m10 := Ext.blk g39 m10
      replace sep := sep.up g39.size
      replace sep := sepo.new hlo (blk_lt m40)
      clear sepo hlo
      refine ⟨?_,?_⟩
      ·intro j hj
       simp only [List.mem_cons,List.not_mem_nil,or_false] at hj
       subst hj
       exact goodOf (Calm.load (T := 31) (p := ⟨h7.size,0,none⟩) (by kernel_rfl) (Loads.hash (by kernel_rfl) (root_len (lch_32 _ _)) m10))
      rw [show (ck b i).length = 0 + (ck b i).length from (Nat.zero_add _).symm] at own_t
      refine SimK.eff (i := 7) (D' := 8191) (X' := 255) (by kernel_rfl) (by kernel_rfl) (by kernel_rfl) [12] (by kernel_rfl) (Does.append2 (t := 22) (E := 5) (sz := 1) (by_ := 1) (n := 0 + ((ck b i).length)) (m := 1) (v := .slice ad35 (0 + ((ck b i).length)) cap36) (x := .slice (some ⟨h37.size,0,none⟩) 1 1) (xs := ((ck b i).map bv)) (ys := (([0] : List UInt8).map bv)) (by kernel_rfl) (by kernel_rfl) own_t (Row.blk (n := 1) (sz := 1) (l := ([0] : List UInt8).map bv) m40 rfl) (ones_map _) (by unfold maxLen; simp; omega) (by simp; omega)) ?_
      rintro _ h45 ⟨ad43,cap44,rfl,ownx,g,hb⟩
      rw [blkOf_slice] at g hb
      have hlo := e0.size
      have sepo := sep
      replace e0 := e0.grew g (sep.low 1 rfl)
      replace kt := kt.grew g (sep.zero 1 rfl h0s)
      replace own_all := own_all.kept g (by rw [blkOf_slice]; exact (sep.ap 3 1))
      replace own_x := own_x.kept g (by rw [blkOf_slice]; exact (sep.ap 5 1))
      replace own_xd := own_xd.kept g (by rw [blkOf_slice]; exact (sep.ap 6 1))
      replace own_p := own_p.kept g (by rw [blkOf_slice]; exact (sep.ap 2 1))
      replace m10 := Grew.blk g m10 ((sep.bp 4 1))
      replace m40 := Grew.blk g m40 ((sep.bp 0 1))
      replace sep := sep.up g.size
      replace sep : Sep h.size h45.size [some (h37.size),ad43.map (·.block),ad25.map (·.block),ad22.map (·.block),some (h7.size),(some ax).map (·.block),dat4.map (·.block)] := sepo.set g.size hlo 1 (y := ad43.map (fun (x : Addr) => x.block)) rfl (hb.imp id fun e => .inr ⟨_,e,Nat.le_refl _⟩) (fun k e => ownx.lt (by rw [blkOf_slice]; exact e))
      replace own_t : Own h45 (.slice ad43 ((ck b i ++ [0]).length) cap44) 5 ((ck b i ++ [0]).length) 1 ((ck b i ++ [0]).map bv) := Own.app (L2 := (ck b i ++ [0])) ownx (by first | rfl | simp) (by first | rfl | (simp; done) | (simp; omega))
      clear ownx g hb hlo sepo
      refine ⟨?_,?_⟩
      ·intro j hj
       simp only [List.mem_cons,List.not_mem_nil,or_false] at hj
       subst hj
       exact goodOf (Calm.load (T := 31) (p := ⟨h7.size,0,none⟩) (by kernel_rfl) (Loads.hash (by kernel_rfl) (root_len (lch_32 _ _)) m10))
      refine SimK.eff0 (i := 13) (D' := 16383) (X' := 16383) (by kernel_rfl) (by kernel_rfl) (by kernel_rfl) (by kernel_rfl) (Does.call (f := 14) (args := #[.slice ad43 ((0 + ((ck b i).length)) + 1) cap44,.int .i64 ((i : Nat) : Int),.int .i64 ((n : Nat) : Int),.slice ad25 P.length cap26,.agg ((root (lch b N)).map bv).toArray]) (by kernel_rfl) (check7_m _ (ck b i ++ [0]) ((0 + ((ck b i).length)) + 1) (by simp) ad43 cap44 (by have h1 := own_t.row; have h2 : List.length (ck b i ++ [(0 : UInt8)]) = 0 + (ck b i).length + 1 := (by simp); rwa [h2] at h1) (by omega) ((i : Nat) : Int) ((n : Nat) : Int) (by omega) P _ _ (HR.of own_p h32P) (by omega) (root (lch b N)) (root_len (lch_32 _ _)) (.inr fun k e => own_p.lt (by rw [blkOf_slice]; exact e)) kt false (by have := chk_not (c := ck b i ++ [0]) (b := b) (i := i) (r := P) (t := root (lch b N)) (by rw [List.length_append,hbn]; simp only [List.length_cons,List.length_nil]; omega) (by omega); rwa [hbn] at this))) ?_
      rintro _ h46 ⟨rfl,g⟩
      replace e0 := e0.ext g
      replace kt := kt.ext g
      replace own_all := own_all.ext g
      replace own_x := own_x.ext g
      replace own_xd := own_xd.ext g
      replace own_p := own_p.ext g
      replace own_t := own_t.ext g
      replace m10 := Ext.blk g m10
      replace m40 := Ext.blk g m40
      replace sep := sep.up g.size
      clear g
      refine mP 32767 [14] [.bool false] ?_
      refine mD [(0,.slice va n vc),(4,.slice (some ax) N vc3),(5,pV h7.size),(6,.slice ad22 ((b.take (i * 64) ++ ck b i).length) cap23),(7,nV i),(11,.bool false),(12,.bool false)] ?_
      clear hF a; intro a hF
      replace sep := sep.sub (l' := [ad25.map (·.block),ad22.map (·.block),some (h7.size),(some ax).map (·.block),dat4.map (·.block)]) (.cons _ (.cons _ (.cons_cons _ (.cons_cons _ (.cons_cons _ (.cons_cons _ (.cons_cons _ (.slnil))))))))
      exact ⟨rfl,e0,kt,own_x,own_xd,own_all,own_p,m10,sep,hF⟩
     ·skip
      refine SimK.effAt (i := 6) (D' := 8031) (X' := 65) (by kernel_rfl) (by kernel_rfl) [4,12] (by kernel_rfl) (Does.new (v := .slice (some ⟨h30.size,0,none⟩) 1 1) (o := .cells #[.int .u8 0] 5) (by kernel_rfl)) ?_
      rintro _ h47 ⟨rfl,hh⟩
      have g48 : Ext h30 h47 := push_ext hh
      have m49 : h47[h30.size]? = some (.cells #[.int .u8 0] 5) := push_at hh
      clear hh
      have lt50 := blk_lt m49
      have zs51 := e0.size
      have hlo := e0.size
      have sepo := sep
      replace e0 := e0.ext g48
      replace kt := kt.ext g48
      replace own_all := own_all.ext g48
      replace own_x := own_x.ext g48
      replace own_xd := own_xd.ext g48
      replace own_p := own_p.ext g48
      replace own_t := own_t.ext g48
      replace m10 := Ext.blk g48 m10
      replace sep := sep.up g48.size
      replace sep := sepo.new hlo (blk_lt m49)
      clear sepo hlo
      refine ⟨?_,?_⟩
      ·intro j hj
       simp only [List.mem_cons,List.not_mem_nil,or_false] at hj
       rcases hj with rfl | rfl
       ·exact goodOf (Calm.load (T := 22) (p := (Addr.add ax i)) (by kernel_rfl) (Loads.one (k := 1) (by kernel_rfl) (sls_cell (i := i) own_x rfl (by omega))))
       ·exact goodOf (Calm.load (T := 31) (p := ⟨h7.size,0,none⟩) (by kernel_rfl) (Loads.hash (by kernel_rfl) (root_len (lch_32 _ _)) m10))
      refine SimK.eff (i := 5) (D' := 8063) (X' := 127) (by kernel_rfl) (by kernel_rfl) (by kernel_rfl) [12] (by kernel_rfl) (Does.append2 (t := 22) (E := 5) (sz := 1) (by_ := 1) (n := 0) (m := (ck b i).length) (v := .slice (some ⟨h29.size,0,none⟩) 0 0) (x := .slice (cad dat4 i) ((ck b i).length) ((ck b i).length)) (xs := (([]).map bv)) (ys := ((ck b i).map bv)) (by kernel_rfl) (by kernel_rfl) own_t (ck_rowN hbn hN own_xd.row hia) (ones_map _) (by unfold maxLen; simp; omega) (by simp; omega)) ?_
      rintro _ h54 ⟨ad52,cap53,rfl,ownx,g,hb⟩
      rw [blkOf_slice] at g hb
      have hlo := e0.size
      have sepo := sep
      replace e0 := e0.grew g (sep.low 1 rfl)
      replace kt := kt.grew g (sep.zero 1 rfl h0s)
      replace own_all := own_all.kept g (by rw [blkOf_slice]; exact (sep.ap 3 1))
      replace own_x := own_x.kept g (by rw [blkOf_slice]; exact (sep.ap 5 1))
      replace own_xd := own_xd.kept g (by rw [blkOf_slice]; exact (sep.ap 6 1))
      replace own_p := own_p.kept g (by rw [blkOf_slice]; exact (sep.ap 2 1))
      replace m10 := Grew.blk g m10 ((sep.bp 4 1))
      replace m49 := Grew.blk g m49 ((sep.bp 0 1))
      replace sep := sep.up g.size
      replace sep : Sep h.size h54.size [some (h30.size),ad52.map (·.block),ad25.map (·.block),ad22.map (·.block),some (h7.size),(some ax).map (·.block),dat4.map (·.block)] := sepo.set g.size hlo 1 (y := ad52.map (fun (x : Addr) => x.block)) rfl (hb.imp id fun e => .inr ⟨_,e,Nat.le_refl _⟩) (fun k e => ownx.lt (by rw [blkOf_slice]; exact e))
      replace own_t : Own h54 (.slice ad52 ((ck b i).length) cap53) 5 ((ck b i).length) 1 ((ck b i).map bv) := Own.app (L2 := (ck b i)) ownx (by first | rfl | simp) (by first | rfl | (simp; done) | (simp; omega))
      clear ownx g hb hlo sepo
      refine ⟨?_,?_⟩
      ·intro j hj
       simp only [List.mem_cons,List.not_mem_nil,or_false] at hj
       subst hj
       exact goodOf (Calm.load (T := 31) (p := ⟨h7.size,0,none⟩) (by kernel_rfl) (Loads.hash (by kernel_rfl) (root_len (lch_32 _ _)) m10))
      rw [show (ck b i).length = 0 + (ck b i).length from (Nat.zero_add _).symm] at own_t
      refine SimK.eff (i := 7) (D' := 8191) (X' := 255) (by kernel_rfl) (by kernel_rfl) (by kernel_rfl) [12] (by kernel_rfl) (Does.append2 (t := 22) (E := 5) (sz := 1) (by_ := 1) (n := 0 + ((ck b i).length)) (m := 1) (v := .slice ad52 (0 + ((ck b i).length)) cap53) (x := .slice (some ⟨h30.size,0,none⟩) 1 1) (xs := ((ck b i).map bv)) (ys := (([0] : List UInt8).map bv)) (by kernel_rfl) (by kernel_rfl) own_t (Row.blk (n := 1) (sz := 1) (l := ([0] : List UInt8).map bv) m49 rfl) (ones_map _) (by unfold maxLen; simp; omega) (by simp; omega)) ?_
      rintro _ h57 ⟨ad55,cap56,rfl,ownx,g,hb⟩
      rw [blkOf_slice] at g hb
      have hlo := e0.size
      have sepo := sep
      replace e0 := e0.grew g (sep.low 1 rfl)
      replace kt := kt.grew g (sep.zero 1 rfl h0s)
      replace own_all := own_all.kept g (by rw [blkOf_slice]; exact (sep.ap 3 1))
      replace own_x := own_x.kept g (by rw [blkOf_slice]; exact (sep.ap 5 1))
      replace own_xd := own_xd.kept g (by rw [blkOf_slice]; exact (sep.ap 6 1))
      replace own_p := own_p.kept g (by rw [blkOf_slice]; exact (sep.ap 2 1))
      replace m10 := Grew.blk g m10 ((sep.bp 4 1))
      replace m49 := Grew.blk g m49 ((sep.bp 0 1))
      replace sep := sep.up g.size
      replace sep : Sep h.size h57.size [some (h30.size),ad55.map (·.block),ad25.map (·.block),ad22.map (·.block),some (h7.size),(some ax).map (·.block),dat4.map (·.block)] := sepo.set g.size hlo 1 (y := ad55.map (fun (x : Addr) => x.block)) rfl (hb.imp id fun e => .inr ⟨_,e,Nat.le_refl _⟩) (fun k e => ownx.lt (by rw [blkOf_slice]; exact e))
      replace own_t : Own h57 (.slice ad55 ((ck b i ++ [0]).length) cap56) 5 ((ck b i ++ [0]).length) 1 ((ck b i ++ [0]).map bv) := Own.app (L2 := (ck b i ++ [0])) ownx (by first | rfl | simp) (by first | rfl | (simp; done) | (simp; omega))
      clear ownx g hb hlo sepo
      refine ⟨?_,?_⟩
      ·intro j hj
       simp only [List.mem_cons,List.not_mem_nil,or_false] at hj
       subst hj
       exact goodOf (Calm.load (T := 31) (p := ⟨h7.size,0,none⟩) (by kernel_rfl) (Loads.hash (by kernel_rfl) (root_len (lch_32 _ _)) m10))
      refine SimK.eff0 (i := 13) (D' := 16383) (X' := 16383) (by kernel_rfl) (by kernel_rfl) (by kernel_rfl) (by kernel_rfl) (Does.call (f := 14) (args := #[.slice ad55 ((0 + ((ck b i).length)) + 1) cap56,.int .i64 ((i : Nat) : Int),.int .i64 ((n : Nat) : Int),.slice ad25 P.length cap26,.agg ((root (lch b N)).map bv).toArray]) (by kernel_rfl) (check7_m _ (ck b i ++ [0]) ((0 + ((ck b i).length)) + 1) (by simp) ad55 cap56 (by have h1 := own_t.row; have h2 : List.length (ck b i ++ [(0 : UInt8)]) = 0 + (ck b i).length + 1 := (by simp); rwa [h2] at h1) (by omega) ((i : Nat) : Int) ((n : Nat) : Int) (by omega) P _ _ (HR.of own_p h32P) (by omega) (root (lch b N)) (root_len (lch_32 _ _)) (.inr fun k e => own_p.lt (by rw [blkOf_slice]; exact e)) kt false (by have := chk_not (c := ck b i ++ [0]) (b := b) (i := i) (r := P) (t := root (lch b N)) (by rw [List.length_append,hbn]; simp only [List.length_cons,List.length_nil]; omega) (by omega); rwa [hbn] at this))) ?_
      rintro _ h58 ⟨rfl,g⟩
      replace e0 := e0.ext g
      replace kt := kt.ext g
      replace own_all := own_all.ext g
      replace own_x := own_x.ext g
      replace own_xd := own_xd.ext g
      replace own_p := own_p.ext g
      replace own_t := own_t.ext g
      replace m10 := Ext.blk g m10
      replace m49 := Ext.blk g m49
      replace sep := sep.up g.size
      clear g
      refine mP 32767 [14] [.bool false] ?_
      refine mD [(0,.slice va n vc),(4,.slice (some ax) N vc3),(5,pV h7.size),(6,.slice ad22 ((b.take (i * 64) ++ ck b i).length) cap23),(7,nV i),(11,.bool false),(12,.bool false)] ?_
      clear hF a; intro a hF
      replace sep := sep.sub (l' := [ad25.map (·.block),ad22.map (·.block),some (h7.size),(some ax).map (·.block),dat4.map (·.block)]) (.cons _ (.cons _ (.cons_cons _ (.cons_cons _ (.cons_cons _ (.cons_cons _ (.cons_cons _ (.slnil))))))))
      exact ⟨rfl,e0,kt,own_x,own_xd,own_all,own_p,m10,sep,hF⟩
    ·skip
     refine SimK.effAt (i := 6) (D' := 8030) (X' := 64) (by kernel_rfl) (by kernel_rfl) [4,12] (by kernel_rfl) (Does.new (v := .slice (some ⟨h29.size,0,none⟩) 1 1) (o := .cells #[.int .u8 0] 5) (by kernel_rfl)) ?_
     rintro _ h59 ⟨rfl,hh⟩
     have g60 : Ext h29 h59 := push_ext hh
     have m61 : h59[h29.size]? = some (.cells #[.int .u8 0] 5) := push_at hh
     clear hh
     have lt62 := blk_lt m61
     have zs63 := e0.size
     have hlo := e0.size
     have sepo := sep
     replace e0 := e0.ext g60
     replace kt := kt.ext g60
     replace own_all := own_all.ext g60
     replace own_x := own_x.ext g60
     replace own_xd := own_xd.ext g60
     replace own_p := own_p.ext g60
     replace m10 := Ext.blk g60 m10
     replace sep := sep.up g60.size
     replace sep := sepo.new hlo (blk_lt m61)
     clear sepo hlo
     refine ⟨?_,?_⟩
     ·intro j hj
      simp only [List.mem_cons,List.not_mem_nil,or_false] at hj
      rcases hj with rfl | rfl
      ·exact goodOf (Calm.load (T := 22) (p := (Addr.add ax i)) (by kernel_rfl) (Loads.one (k := 1) (by kernel_rfl) (sls_cell (i := i) own_x rfl (by omega))))
      ·exact goodOf (Calm.load (T := 31) (p := ⟨h7.size,0,none⟩) (by kernel_rfl) (Loads.hash (by kernel_rfl) (root_len (lch_32 _ _)) m10))
     refine SimK.eff (i := 0) (D' := 8031) (X' := 65) (by kernel_rfl) (by kernel_rfl) (by kernel_rfl) [4,12] (by kernel_rfl) (Does.new (v := .slice (some ⟨h59.size,0,none⟩) 0 0) (o := .cells #[] 5) (by kernel_rfl)) ?_
     rintro _ h64 ⟨rfl,hh⟩
     have g65 : Ext h59 h64 := push_ext hh
     have m66 : h64[h59.size]? = some (.cells #[] 5) := push_at hh
     clear hh
     have lt67 := blk_lt m66
     have zs68 := e0.size
     have hlo := e0.size
     have sepo := sep
     replace e0 := e0.ext g65
     replace kt := kt.ext g65
     replace own_all := own_all.ext g65
     replace own_x := own_x.ext g65
     replace own_xd := own_xd.ext g65
     replace own_p := own_p.ext g65
     replace m10 := Ext.blk g65 m10
     replace m61 := Ext.blk g65 m61
     replace sep := sep.up g65.size
     replace sep := sepo.new hlo (blk_lt m66)
     clear sepo hlo
     refine ⟨?_,?_⟩
     ·intro j hj
      simp only [List.mem_cons,List.not_mem_nil,or_false] at hj
      rcases hj with rfl | rfl
      ·exact goodOf (Calm.load (T := 22) (p := (Addr.add ax i)) (by kernel_rfl) (Loads.one (k := 1) (by kernel_rfl) (sls_cell (i := i) own_x rfl (by omega))))
      ·exact goodOf (Calm.load (T := 31) (p := ⟨h7.size,0,none⟩) (by kernel_rfl) (Loads.hash (by kernel_rfl) (root_len (lch_32 _ _)) m10))
     have own_t : Own h64 (.slice (some ⟨h59.size,0,none⟩) 0 0) 5 ([] : List UInt8).length 1 (([] : List UInt8).map bv) := Own.empty 1 m66
     replace sep : Sep h.size h64.size [(some ⟨h59.size,0,none⟩ : Option Addr).map (·.block),some (h29.size),ad25.map (·.block),ad22.map (·.block),some (h7.size),(some ax).map (·.block),dat4.map (·.block)] := sep
     clear m66 lt67 zs68
     refine SimK.eff (i := 5) (D' := 8063) (X' := 127) (by kernel_rfl) (by kernel_rfl) (by kernel_rfl) [12] (by kernel_rfl) (Does.append2 (t := 22) (E := 5) (sz := 1) (by_ := 1) (n := 0) (m := (ck b i).length) (v := .slice (some ⟨h59.size,0,none⟩) 0 0) (x := .slice (cad dat4 i) ((ck b i).length) ((ck b i).length)) (xs := (([]).map bv)) (ys := ((ck b i).map bv)) (by kernel_rfl) (by kernel_rfl) own_t (ck_rowN hbn hN own_xd.row hia) (ones_map _) (by unfold maxLen; simp; omega) (by simp; omega)) ?_
     rintro _ h71 ⟨ad69,cap70,rfl,ownx,g,hb⟩
     rw [blkOf_slice] at g hb
     have hlo := e0.size
     have sepo := sep
     replace e0 := e0.grew g (sep.low 0 rfl)
     replace kt := kt.grew g (sep.zero 0 rfl h0s)
     replace own_all := own_all.kept g (by rw [blkOf_slice]; exact (sep.ap 3 0))
     replace own_x := own_x.kept g (by rw [blkOf_slice]; exact (sep.ap 5 0))
     replace own_xd := own_xd.kept g (by rw [blkOf_slice]; exact (sep.ap 6 0))
     replace own_p := own_p.kept g (by rw [blkOf_slice]; exact (sep.ap 2 0))
     replace m10 := Grew.blk g m10 ((sep.bp 4 0))
     replace m61 := Grew.blk g m61 ((sep.bp 1 0))
     replace sep := sep.up g.size
     replace sep : Sep h.size h71.size [ad69.map (·.block),some (h29.size),ad25.map (·.block),ad22.map (·.block),some (h7.size),(some ax).map (·.block),dat4.map (·.block)] := sepo.set g.size hlo 0 (y := ad69.map (fun (x : Addr) => x.block)) rfl (hb.imp id fun e => .inr ⟨_,e,Nat.le_refl _⟩) (fun k e => ownx.lt (by rw [blkOf_slice]; exact e))
     replace own_t : Own h71 (.slice ad69 ((ck b i).length) cap70) 5 ((ck b i).length) 1 ((ck b i).map bv) := Own.app (L2 := (ck b i)) ownx (by first | rfl | simp) (by first | rfl | (simp; done) | (simp; omega))
     clear ownx g hb hlo sepo
     refine ⟨?_,?_⟩
     ·intro j hj
      simp only [List.mem_cons,List.not_mem_nil,or_false] at hj
      subst hj
      exact goodOf (Calm.load (T := 31) (p := ⟨h7.size,0,none⟩) (by kernel_rfl) (Loads.hash (by kernel_rfl) (root_len (lch_32 _ _)) m10))
     rw [show (ck b i).length = 0 + (ck b i).length from (Nat.zero_add _).symm] at own_t
     refine SimK.eff (i := 7) (D' := 8191) (X' := 255) (by kernel_rfl) (by kernel_rfl) (by kernel_rfl) [12] (by kernel_rfl) (Does.append2 (t := 22) (E := 5) (sz := 1) (by_ := 1) (n := 0 + ((ck b i).length)) (m := 1) (v := .slice ad69 (0 + ((ck b i).length)) cap70) (x := .slice (some ⟨h29.size,0,none⟩) 1 1) (xs := ((ck b i).map bv)) (ys := (([0] : List UInt8).map bv)) (by kernel_rfl) (by kernel_rfl) own_t (Row.blk (n := 1) (sz := 1) (l := ([0] : List UInt8).map bv) m61 rfl) (ones_map _) (by unfold maxLen; simp; omega) (by simp; omega)) ?_
     rintro _ h74 ⟨ad72,cap73,rfl,ownx,g,hb⟩
     rw [blkOf_slice] at g hb
     have hlo := e0.size
     have sepo := sep
     replace e0 := e0.grew g (sep.low 0 rfl)
     replace kt := kt.grew g (sep.zero 0 rfl h0s)
     replace own_all := own_all.kept g (by rw [blkOf_slice]; exact (sep.ap 3 0))
     replace own_x := own_x.kept g (by rw [blkOf_slice]; exact (sep.ap 5 0))
     replace own_xd := own_xd.kept g (by rw [blkOf_slice]; exact (sep.ap 6 0))
     replace own_p := own_p.kept g (by rw [blkOf_slice]; exact (sep.ap 2 0))
     replace m10 := Grew.blk g m10 ((sep.bp 4 0))
     replace m61 := Grew.blk g m61 ((sep.bp 1 0))
     replace sep := sep.up g.size
     replace sep : Sep h.size h74.size [ad72.map (·.block),some (h29.size),ad25.map (·.block),ad22.map (·.block),some (h7.size),(some ax).map (·.block),dat4.map (·.block)] := sepo.set g.size hlo 0 (y := ad72.map (fun (x : Addr) => x.block)) rfl (hb.imp id fun e => .inr ⟨_,e,Nat.le_refl _⟩) (fun k e => ownx.lt (by rw [blkOf_slice]; exact e))
     replace own_t : Own h74 (.slice ad72 ((ck b i ++ [0]).length) cap73) 5 ((ck b i ++ [0]).length) 1 ((ck b i ++ [0]).map bv) := Own.app (L2 := (ck b i ++ [0])) ownx (by first | rfl | simp) (by first | rfl | (simp; done) | (simp; omega))
     clear ownx g hb hlo sepo
     refine ⟨?_,?_⟩
     ·intro j hj
      simp only [List.mem_cons,List.not_mem_nil,or_false] at hj
      subst hj
      exact goodOf (Calm.load (T := 31) (p := ⟨h7.size,0,none⟩) (by kernel_rfl) (Loads.hash (by kernel_rfl) (root_len (lch_32 _ _)) m10))
     refine SimK.eff0 (i := 13) (D' := 16383) (X' := 16383) (by kernel_rfl) (by kernel_rfl) (by kernel_rfl) (by kernel_rfl) (Does.call (f := 14) (args := #[.slice ad72 ((0 + ((ck b i).length)) + 1) cap73,.int .i64 ((i : Nat) : Int),.int .i64 ((n : Nat) : Int),.slice ad25 P.length cap26,.agg ((root (lch b N)).map bv).toArray]) (by kernel_rfl) (check7_m _ (ck b i ++ [0]) ((0 + ((ck b i).length)) + 1) (by simp) ad72 cap73 (by have h1 := own_t.row; have h2 : List.length (ck b i ++ [(0 : UInt8)]) = 0 + (ck b i).length + 1 := (by simp); rwa [h2] at h1) (by omega) ((i : Nat) : Int) ((n : Nat) : Int) (by omega) P _ _ (HR.of own_p h32P) (by omega) (root (lch b N)) (root_len (lch_32 _ _)) (.inr fun k e => own_p.lt (by rw [blkOf_slice]; exact e)) kt false (by have := chk_not (c := ck b i ++ [0]) (b := b) (i := i) (r := P) (t := root (lch b N)) (by rw [List.length_append,hbn]; simp only [List.length_cons,List.length_nil]; omega) (by omega); rwa [hbn] at this))) ?_
     rintro _ h75 ⟨rfl,g⟩
     replace e0 := e0.ext g
     replace kt := kt.ext g
     replace own_all := own_all.ext g
     replace own_x := own_x.ext g
     replace own_xd := own_xd.ext g
     replace own_p := own_p.ext g
     replace own_t := own_t.ext g
     replace m10 := Ext.blk g m10
     replace m61 := Ext.blk g m61
     replace sep := sep.up g.size
     clear g
     refine mP 32767 [14] [.bool false] ?_
     refine mD [(0,.slice va n vc),(4,.slice (some ax) N vc3),(5,pV h7.size),(6,.slice ad22 ((b.take (i * 64) ++ ck b i).length) cap23),(7,nV i),(11,.bool false),(12,.bool false)] ?_
     clear hF a; intro a hF
     replace sep := sep.sub (l' := [ad25.map (·.block),ad22.map (·.block),some (h7.size),(some ax).map (·.block),dat4.map (·.block)]) (.cons _ (.cons _ (.cons_cons _ (.cons_cons _ (.cons_cons _ (.cons_cons _ (.cons_cons _ (.slnil))))))))
     exact ⟨rfl,e0,kt,own_x,own_xd,own_all,own_p,m10,sep,hF⟩
   ·skip
    clear hF a e0 kt own_x own_xd own_all own_p m10 sep
    rintro e a h76 ⟨rfl,e0,kt,own_x,own_xd,own_all,own_p,m10,sep,hF⟩
    refine tK ?_
    refine cS ?_
    refine cP 17 hF ?_
    refine sP 4 [.bool false,.bool false,.bool false,.bool false] ?_
    refine sD [(0,.slice va n vc),(4,.slice (some ax) N vc3),(5,pV h7.size),(6,.slice ad22 ((b.take (i * 64) ++ ck b i).length) cap23),(7,nV i),(115,.bool false)] ?_
    clear hF a; intro a hF
    refine tK ?_
    refine cF 115 hF ?_
    refine cN ?_
    show C Tryd.prog (sub b5 [1,1,1,1,1,1,0,1,0,0,1,1]) _ a h76
    refine cP 9 hF ?_
    refine sP 1 [nV i] ?_
    refine s1 2 (.int .i64 ((i + 1 : Nat) : Int)) (.int .i64 (IntKind.i64.wrap (((i : Nat) : Int) + 1))) (congrArg (Value.int .i64) (w64' (by omega) (by omega) (by omega))) ?_
    refine sP 3 [nV (i + 1)] ?_
    refine sD [(0,.slice va n vc),(4,.slice (some ax) N vc3),(5,pV h7.size),(6,.slice ad22 ((b.take (i * 64) ++ ck b i).length) cap23),(7,nV (i + 1))] ?_
    clear hF a; intro a hF
    rw [ck_take] at own_all hF
    replace sep := sep.sub (l' := [ad22.map (·.block),some (h7.size),(some ax).map (·.block),dat4.map (·.block)]) (.cons _ (.cons_cons _ (.cons_cons _ (.cons_cons _ (.cons_cons _ (.slnil))))))
    show ∃ m',m' < _ ∧ _
    refine ⟨_,?_,(i + 1),ad22,cap23,rfl,e0,kt,m10,(by omega),own_all,own_x,own_xd,sep,hF⟩
    omega
  ·skip
   refine cP 13 hF ?_
   refine sP 9 [.int .i64 0,.bool false,.bool false,.bool true,.bool false,.bool false,.bool false,.slice (some ax) N vc3,nV i] ?_
   refine sC 10 (.pointer (some (Addr.add ax i))) ((Calm.indexA (a := ax) (len := N) (sz := 1) (k := ((i : Nat) : Int)) i i (by kernel_rfl) rfl (by omega) (by omega)) _) ?_
   refine sC 11 (.slice (cad dat4 i) ((ck b i).length) ((ck b i).length)) (Calm.load (T := 22) (p := (Addr.add ax i)) (by kernel_rfl) (Loads.one (k := 1) (by kernel_rfl) (sls_cell (i := i) own_x rfl (by omega)))) ?_
   refine sP 12 [nV ((ck b i).length)] ?_
   refine s1 13 (.bool false) (.bool ((((ck b i).length : Nat) : Int) == (0 : Int))) (congrArg Value.bool (beq_eq_false_iff_ne.2 (by omega))) ?_
   refine sP 17 [.bool false,.bool false,.slice (some ax) N vc3,nV i] ?_
   refine sC 18 (.pointer (some (Addr.add ax i))) ((Calm.indexA (a := ax) (len := N) (sz := 1) (k := ((i : Nat) : Int)) i i (by kernel_rfl) rfl (by omega) (by omega)) _) ?_
   refine sC 19 (.slice (cad dat4 i) ((ck b i).length) ((ck b i).length)) (Calm.load (T := 22) (p := (Addr.add ax i)) (by kernel_rfl) (Loads.one (k := 1) (by kernel_rfl) (sls_cell (i := i) own_x rfl (by omega)))) ?_
   refine sP 20 [nV ((ck b i).length)] ?_
   refine s1 21 (.bool false) (.bool (decide ((64 : Int) < (((ck b i).length : Nat) : Int)))) (congrArg Value.bool (decide_eq_false (by omega))) ?_
   refine sP 24 [.bool false,.bool false,nV i] ?_
   refine s1 25 (.int .i64 ((i + 1 : Nat) : Int)) (.int .i64 (IntKind.i64.wrap (((i : Nat) : Int) + 1))) (congrArg (Value.int .i64) (w64' (by omega) (by omega) (by omega))) ?_
   refine sP 27 [.slice (some ax) N vc3,nV N] ?_
   refine s1 28 (.bool false) (.bool (decide (((i + 1 : Nat) : Int) < ((N : Nat) : Int)))) (congrArg Value.bool (decide_eq_false (by omega))) ?_
   refine sP 37 [.bool false,undef,undef,undef,undef,undef,undef,.bool false,.bool false] ?_
   refine sD [(0,.slice va n vc),(4,.slice (some ax) N vc3),(5,pV h7.size),(6,.slice ad22 ((b.take (i * 64) ++ ck b i).length) cap23),(7,nV i),(8,.slice ad25 P.length cap26),(86,.bool false)] ?_
   clear hF a; intro a hF
   refine tK ?_
   refine cF 86 hF ?_
   refine cN ?_
   refine tK ?_
   refine cS ?_
   refine cD [0,0,3,7,15,0,0,64,0,0,1023,2047] 15 mixed hF ?_
   refine mP 3 [0,1] [.slice (some ax) N vc3,nV i] ?_
   refine mF 7 2 (.pointer (some (Addr.add ax i))) (Calm.indexA (a := ax) (len := N) (sz := 1) (k := ((i : Nat) : Int)) i i (by kernel_rfl) rfl (by omega) (by omega)) ?_
   refine mL 15 8 3 (.slice (cad dat4 i) ((ck b i).length) ((ck b i).length)) (Calm.load (T := 22) (p := (Addr.add ax i)) (by kernel_rfl) (Loads.one (k := 1) (by kernel_rfl) (sls_cell (i := i) own_x rfl (by omega)))) ?_
   obtain ⟨C1,hC1⟩ : ∃ C,(ck b i).drop 1 = C := ⟨_,rfl⟩
   have hC1l : C1.length = (ck b i).length - 1 := by rw [← hC1,List.length_drop]
   obtain ⟨ad3,had3⟩ : ∃ x,x = if (ck b i).length = 1 then (cad dat4 i) else (cad dat4 i).map (fun (x : Addr) => x.add (1 * 1)) := ⟨_,rfl⟩
   refine mF 31 4 (.slice ad3 ((ck b i).length - 1) ((ck b i).length - 1)) (fun h => Calm.sliceO (a := (cad dat4 i)) (len := ((ck b i).length)) (cap := ((ck b i).length)) (sz := 1) (x := ad3) 1 ((ck b i).length) ((ck b i).length) ((ck b i).length - 1) ((ck b i).length - 1) (by kernel_rfl) (.inl ⟨rfl,rfl⟩) (.inl ⟨rfl,rfl⟩) (.inr rfl) (by omega) (by omega) had3 (by first | rfl | omega) (by first | rfl | omega) h) ?_
   refine mP 511 [5,6,7,8] [nV i,.slice va n vc,nV n,.slice ad25 P.length cap26] ?_
   refine mL 1023 520 9 (.agg ((root (lch b N)).map bv).toArray) (Calm.load (T := 31) (p := ⟨h7.size,0,none⟩) (by kernel_rfl) (Loads.hash (by kernel_rfl) (root_len (lch_32 _ _)) m10)) ?_
   refine SimK.eff0 (i := 10) (D' := 2047) (X' := 2047) (by kernel_rfl) (by kernel_rfl) (by kernel_rfl) (by kernel_rfl) (Does.call (f := 14) (args := #[.slice ad3 ((ck b i).length - 1) ((ck b i).length - 1),.int .i64 ((i : Nat) : Int),.int .i64 ((n : Nat) : Int),.slice ad25 P.length cap26,.agg ((root (lch b N)).map bv).toArray]) (by kernel_rfl) (check7_m _ C1 ((ck b i).length - 1) hC1l ad3 ((ck b i).length - 1) ((ck_rowN hbn hN own_xd.row hia).dropB (by omega) (Nat.le_refl _) had3 hC1) (by omega) ((i : Nat) : Int) ((n : Nat) : Int) (by omega) P _ _ (HR.of own_p h32P) (by omega) (root (lch b N)) (root_len (lch_32 _ _)) (.inr fun k e => own_p.lt (by rw [blkOf_slice]; exact e)) kt false (by have := chk_not (c := C1) (b := b) (i := i) (r := P) (t := root (lch b N)) (by rw [hC1l,hbn]; omega) (by omega); rwa [hbn] at this))) ?_
   rintro _ h77 ⟨rfl,g⟩
   replace e0 := e0.ext g
   replace kt := kt.ext g
   replace own_all := own_all.ext g
   replace own_x := own_x.ext g
   replace own_xd := own_xd.ext g
   replace own_p := own_p.ext g
   replace m10 := Ext.blk g m10
   replace sep := sep.up g.size
   clear g
   refine mP 4095 [11] [.bool false] ?_
   refine mD [(0,.slice va n vc),(4,.slice (some ax) N vc3),(5,pV h7.size),(6,.slice ad22 ((b.take (i * 64) ++ ck b i).length) cap23),(7,nV i),(8,.slice ad25 P.length cap26),(11,.bool false)] ?_
   clear hF a; intro a hF
   refine tK ?_
   refine cS ?_
   refine C.mono (K := fun e a hJ => e = .normal ∧ (Ext h hJ) ∧ (Ktab hJ) ∧ (Own hJ (.slice (some ax) N vc3) 22 N 1 (sls dat4 b N)) ∧ (Own hJ (.slice dat4 n dc5) 5 n 1 (b.map bv)) ∧ (Own hJ (.slice ad22 ((b.take (i * 64) ++ ck b i).length) cap23) 5 ((b.take (i * 64) ++ ck b i).length) 1 ((b.take (i * 64) ++ ck b i).map bv)) ∧ (Own hJ (.slice ad25 P.length cap26) 31 P.length 32 (hcs P)) ∧ (hJ[h7.size]? = some (.cells ((root (lch b N)).map bv).toArray 31)) ∧ (Sep h.size hJ.size [ad25.map (·.block),ad22.map (·.block),some (h7.size),(some ax).map (·.block),dat4.map (·.block)]) ∧ Fr a 129 [(0,.slice va n vc),(4,.slice (some ax) N vc3),(5,.pointer (some ⟨h7.size,0,none⟩)),(6,.slice ad22 ((b.take (i * 64) ++ ck b i).length) cap23),(7,.int .i64 ((i : Nat) : Int)),(11,.bool false),(12,.bool false)]) ?_ ?_
   ·skip
    refine cD [0,0,0,6,14,31,0,127,0,0,512,0,0,8191,16383] 16 mixed hF ?_
    refine mP 6 [1,2] [.slice (some ax) N vc3,nV i] ?_
    refine mF 14 3 (.pointer (some (Addr.add ax i))) (Calm.indexA (a := ax) (len := N) (sz := 1) (k := ((i : Nat) : Int)) i i (by kernel_rfl) rfl (by omega) (by omega)) ?_
    refine mL 30 16 4 (.slice (cad dat4 i) ((ck b i).length) ((ck b i).length)) (Calm.load (T := 22) (p := (Addr.add ax i)) (by kernel_rfl) (Loads.one (k := 1) (by kernel_rfl) (sls_cell (i := i) own_x rfl (by omega)))) ?_
    refine mP 3870 [8,9,10,11] [nV i,.slice va n vc,nV n,.slice ad25 P.length cap26] ?_
    refine mL 7966 4112 12 (.agg ((root (lch b N)).map bv).toArray) (Calm.load (T := 31) (p := ⟨h7.size,0,none⟩) (by kernel_rfl) (Loads.hash (by kernel_rfl) (root_len (lch_32 _ _)) m10)) ?_
    refine SimK.effs (is := [0,6]) (by kernel_rfl) (by simp) ?_
    intro q hq
    simp only [List.mem_cons,List.not_mem_nil,or_false] at hq
    rcases hq with rfl | rfl
    ·skip
     refine SimK.effAt (i := 0) (D' := 7967) (X' := 1) (by kernel_rfl) (by kernel_rfl) [4,12] (by kernel_rfl) (Does.new (v := .slice (some ⟨h77.size,0,none⟩) 0 0) (o := .cells #[] 5) (by kernel_rfl)) ?_
     rintro _ h78 ⟨rfl,hh⟩
     have g79 : Ext h77 h78 := push_ext hh
     have m80 : h78[h77.size]? = some (.cells #[] 5) := push_at hh
     clear hh
     have lt81 := blk_lt m80
     have zs82 := e0.size
     have hlo := e0.size
     have sepo := sep
     replace e0 := e0.ext g79
     replace kt := kt.ext g79
     replace own_all := own_all.ext g79
     replace own_x := own_x.ext g79
     replace own_xd := own_xd.ext g79
     replace own_p := own_p.ext g79
     replace m10 := Ext.blk g79 m10
     replace sep := sep.up g79.size
     replace sep := sepo.new hlo (blk_lt m80)
     clear sepo hlo
     refine ⟨?_,?_⟩
     ·intro j hj
      simp only [List.mem_cons,List.not_mem_nil,or_false] at hj
      rcases hj with rfl | rfl
      ·exact goodOf (Calm.load (T := 22) (p := (Addr.add ax i)) (by kernel_rfl) (Loads.one (k := 1) (by kernel_rfl) (sls_cell (i := i) own_x rfl (by omega))))
      ·exact goodOf (Calm.load (T := 31) (p := ⟨h7.size,0,none⟩) (by kernel_rfl) (Loads.hash (by kernel_rfl) (root_len (lch_32 _ _)) m10))
     have own_t : Own h78 (.slice (some ⟨h77.size,0,none⟩) 0 0) 5 ([] : List UInt8).length 1 (([] : List UInt8).map bv) := Own.empty 1 m80
     replace sep : Sep h.size h78.size [(some ⟨h77.size,0,none⟩ : Option Addr).map (·.block),ad25.map (·.block),ad22.map (·.block),some (h7.size),(some ax).map (·.block),dat4.map (·.block)] := sep
     clear m80 lt81 zs82
     refine SimK.effs (is := [5,6]) (by kernel_rfl) (by simp) ?_
     intro q hq
     simp only [List.mem_cons,List.not_mem_nil,or_false] at hq
     rcases hq with rfl | rfl
     ·skip
      refine SimK.effAt (i := 5) (D' := 7999) (X' := 63) (by kernel_rfl) (by kernel_rfl) [12] (by kernel_rfl) (Does.append2 (t := 22) (E := 5) (sz := 1) (by_ := 1) (n := 0) (m := (ck b i).length) (v := .slice (some ⟨h77.size,0,none⟩) 0 0) (x := .slice (cad dat4 i) ((ck b i).length) ((ck b i).length)) (xs := (([]).map bv)) (ys := ((ck b i).map bv)) (by kernel_rfl) (by kernel_rfl) own_t (ck_rowN hbn hN own_xd.row hia) (ones_map _) (by unfold maxLen; simp; omega) (by simp; omega)) ?_
      rintro _ h85 ⟨ad83,cap84,rfl,ownx,g,hb⟩
      rw [blkOf_slice] at g hb
      have hlo := e0.size
      have sepo := sep
      replace e0 := e0.grew g (sep.low 0 rfl)
      replace kt := kt.grew g (sep.zero 0 rfl h0s)
      replace own_all := own_all.kept g (by rw [blkOf_slice]; exact (sep.ap 2 0))
      replace own_x := own_x.kept g (by rw [blkOf_slice]; exact (sep.ap 4 0))
      replace own_xd := own_xd.kept g (by rw [blkOf_slice]; exact (sep.ap 5 0))
      replace own_p := own_p.kept g (by rw [blkOf_slice]; exact (sep.ap 1 0))
      replace m10 := Grew.blk g m10 ((sep.bp 3 0))
      replace sep := sep.up g.size
      replace sep : Sep h.size h85.size [ad83.map (·.block),ad25.map (·.block),ad22.map (·.block),some (h7.size),(some ax).map (·.block),dat4.map (·.block)] := sepo.set g.size hlo 0 (y := ad83.map (fun (x : Addr) => x.block)) rfl (hb.imp id fun e => .inr ⟨_,e,Nat.le_refl _⟩) (fun k e => ownx.lt (by rw [blkOf_slice]; exact e))
      replace own_t : Own h85 (.slice ad83 ((ck b i).length) cap84) 5 ((ck b i).length) 1 ((ck b i).map bv) := Own.app (L2 := (ck b i)) ownx (by first | rfl | simp) (by first | rfl | (simp; done) | (simp; omega))
      clear ownx g hb hlo sepo
      refine ⟨?_,?_⟩
      ·intro j hj
       simp only [List.mem_cons,List.not_mem_nil,or_false] at hj
       subst hj
       exact goodOf (Calm.load (T := 31) (p := ⟨h7.size,0,none⟩) (by kernel_rfl) (Loads.hash (by kernel_rfl) (root_len (lch_32 _ _)) m10))
      refine SimK.eff (i := 6) (D' := 8063) (X' := 127) (by kernel_rfl) (by kernel_rfl) (by kernel_rfl) [12] (by kernel_rfl) (Does.new (v := .slice (some ⟨h85.size,0,none⟩) 1 1) (o := .cells #[.int .u8 0] 5) (by kernel_rfl)) ?_
      rintro _ h86 ⟨rfl,hh⟩
      have g87 : Ext h85 h86 := push_ext hh
      have m88 : h86[h85.size]? = some (.cells #[.int .u8 0] 5) := push_at hh
      clear hh
      have lt89 := blk_lt m88
      have zs90 := e0.size
      have hlo := e0.size
      have sepo := sep
      replace e0 := e0.ext g87
      replace kt := kt.ext g87
      replace own_all := own_all.ext g87
      replace own_x := own_x.ext g87
      replace own_xd := own_xd.ext g87
      replace own_p := own_p.ext g87
      replace own_t := own_t.ext g87
      replace m10 := Ext.blk g87 m10
      replace sep := sep.up g87.size
      replace sep := sepo.new hlo (blk_lt m88)
      clear sepo hlo
      refine ⟨?_,?_⟩
      ·intro j hj
       simp only [List.mem_cons,List.not_mem_nil,or_false] at hj
       subst hj
       exact goodOf (Calm.load (T := 31) (p := ⟨h7.size,0,none⟩) (by kernel_rfl) (Loads.hash (by kernel_rfl) (root_len (lch_32 _ _)) m10))
      rw [show (ck b i).length = 0 + (ck b i).length from (Nat.zero_add _).symm] at own_t
      refine SimK.eff (i := 7) (D' := 8191) (X' := 255) (by kernel_rfl) (by kernel_rfl) (by kernel_rfl) [12] (by kernel_rfl) (Does.append2 (t := 22) (E := 5) (sz := 1) (by_ := 1) (n := 0 + ((ck b i).length)) (m := 1) (v := .slice ad83 (0 + ((ck b i).length)) cap84) (x := .slice (some ⟨h85.size,0,none⟩) 1 1) (xs := ((ck b i).map bv)) (ys := (([0] : List UInt8).map bv)) (by kernel_rfl) (by kernel_rfl) own_t (Row.blk (n := 1) (sz := 1) (l := ([0] : List UInt8).map bv) m88 rfl) (ones_map _) (by unfold maxLen; simp; omega) (by simp; omega)) ?_
      rintro _ h93 ⟨ad91,cap92,rfl,ownx,g,hb⟩
      rw [blkOf_slice] at g hb
      have hlo := e0.size
      have sepo := sep
      replace e0 := e0.grew g (sep.low 1 rfl)
      replace kt := kt.grew g (sep.zero 1 rfl h0s)
      replace own_all := own_all.kept g (by rw [blkOf_slice]; exact (sep.ap 3 1))
      replace own_x := own_x.kept g (by rw [blkOf_slice]; exact (sep.ap 5 1))
      replace own_xd := own_xd.kept g (by rw [blkOf_slice]; exact (sep.ap 6 1))
      replace own_p := own_p.kept g (by rw [blkOf_slice]; exact (sep.ap 2 1))
      replace m10 := Grew.blk g m10 ((sep.bp 4 1))
      replace m88 := Grew.blk g m88 ((sep.bp 0 1))
      replace sep := sep.up g.size
      replace sep : Sep h.size h93.size [some (h85.size),ad91.map (·.block),ad25.map (·.block),ad22.map (·.block),some (h7.size),(some ax).map (·.block),dat4.map (·.block)] := sepo.set g.size hlo 1 (y := ad91.map (fun (x : Addr) => x.block)) rfl (hb.imp id fun e => .inr ⟨_,e,Nat.le_refl _⟩) (fun k e => ownx.lt (by rw [blkOf_slice]; exact e))
      replace own_t : Own h93 (.slice ad91 ((ck b i ++ [0]).length) cap92) 5 ((ck b i ++ [0]).length) 1 ((ck b i ++ [0]).map bv) := Own.app (L2 := (ck b i ++ [0])) ownx (by first | rfl | simp) (by first | rfl | (simp; done) | (simp; omega))
      clear ownx g hb hlo sepo
      refine ⟨?_,?_⟩
      ·intro j hj
       simp only [List.mem_cons,List.not_mem_nil,or_false] at hj
       subst hj
       exact goodOf (Calm.load (T := 31) (p := ⟨h7.size,0,none⟩) (by kernel_rfl) (Loads.hash (by kernel_rfl) (root_len (lch_32 _ _)) m10))
      refine SimK.eff0 (i := 13) (D' := 16383) (X' := 16383) (by kernel_rfl) (by kernel_rfl) (by kernel_rfl) (by kernel_rfl) (Does.call (f := 14) (args := #[.slice ad91 ((0 + ((ck b i).length)) + 1) cap92,.int .i64 ((i : Nat) : Int),.int .i64 ((n : Nat) : Int),.slice ad25 P.length cap26,.agg ((root (lch b N)).map bv).toArray]) (by kernel_rfl) (check7_m _ (ck b i ++ [0]) ((0 + ((ck b i).length)) + 1) (by simp) ad91 cap92 (by have h1 := own_t.row; have h2 : List.length (ck b i ++ [(0 : UInt8)]) = 0 + (ck b i).length + 1 := (by simp); rwa [h2] at h1) (by omega) ((i : Nat) : Int) ((n : Nat) : Int) (by omega) P _ _ (HR.of own_p h32P) (by omega) (root (lch b N)) (root_len (lch_32 _ _)) (.inr fun k e => own_p.lt (by rw [blkOf_slice]; exact e)) kt false (by have := chk_not (c := ck b i ++ [0]) (b := b) (i := i) (r := P) (t := root (lch b N)) (by rw [List.length_append,hbn]; simp only [List.length_cons,List.length_nil]; omega) (by omega); rwa [hbn] at this))) ?_
      rintro _ h94 ⟨rfl,g⟩
      replace e0 := e0.ext g
      replace kt := kt.ext g
      replace own_all := own_all.ext g
      replace own_x := own_x.ext g
      replace own_xd := own_xd.ext g
      replace own_p := own_p.ext g
      replace own_t := own_t.ext g
      replace m10 := Ext.blk g m10
      replace m88 := Ext.blk g m88
      replace sep := sep.up g.size
      clear g
      refine mP 32767 [14] [.bool false] ?_
      refine mD [(0,.slice va n vc),(4,.slice (some ax) N vc3),(5,pV h7.size),(6,.slice ad22 ((b.take (i * 64) ++ ck b i).length) cap23),(7,nV i),(11,.bool false),(12,.bool false)] ?_
      clear hF a; intro a hF
      replace sep := sep.sub (l' := [ad25.map (·.block),ad22.map (·.block),some (h7.size),(some ax).map (·.block),dat4.map (·.block)]) (.cons _ (.cons _ (.cons_cons _ (.cons_cons _ (.cons_cons _ (.cons_cons _ (.cons_cons _ (.slnil))))))))
      exact ⟨rfl,e0,kt,own_x,own_xd,own_all,own_p,m10,sep,hF⟩
     ·skip
      refine SimK.effAt (i := 6) (D' := 8031) (X' := 65) (by kernel_rfl) (by kernel_rfl) [4,12] (by kernel_rfl) (Does.new (v := .slice (some ⟨h78.size,0,none⟩) 1 1) (o := .cells #[.int .u8 0] 5) (by kernel_rfl)) ?_
      rintro _ h95 ⟨rfl,hh⟩
      have g96 : Ext h78 h95 := push_ext hh
      have m97 : h95[h78.size]? = some (.cells #[.int .u8 0] 5) := push_at hh
      clear hh
      have lt98 := blk_lt m97
      have zs99 := e0.size
      have hlo := e0.size
      have sepo := sep
      replace e0 := e0.ext g96
      replace kt := kt.ext g96
      replace own_all := own_all.ext g96
      replace own_x := own_x.ext g96
      replace own_xd := own_xd.ext g96
      replace own_p := own_p.ext g96
      replace own_t := own_t.ext g96
      replace m10 := Ext.blk g96 m10
      replace sep := sep.up g96.size
      replace sep := sepo.new hlo (blk_lt m97)
      clear sepo hlo
      refine ⟨?_,?_⟩
      ·intro j hj
       simp only [List.mem_cons,List.not_mem_nil,or_false] at hj
       rcases hj with rfl | rfl
       ·exact goodOf (Calm.load (T := 22) (p := (Addr.add ax i)) (by kernel_rfl) (Loads.one (k := 1) (by kernel_rfl) (sls_cell (i := i) own_x rfl (by omega))))
       ·exact goodOf (Calm.load (T := 31) (p := ⟨h7.size,0,none⟩) (by kernel_rfl) (Loads.hash (by kernel_rfl) (root_len (lch_32 _ _)) m10))
      refine SimK.eff (i := 5) (D' := 8063) (X' := 127) (by kernel_rfl) (by kernel_rfl) (by kernel_rfl) [12] (by kernel_rfl) (Does.append2 (t := 22) (E := 5) (sz := 1) (by_ := 1) (n := 0) (m := (ck b i).length) (v := .slice (some ⟨h77.size,0,none⟩) 0 0) (x := .slice (cad dat4 i) ((ck b i).length) ((ck b i).length)) (xs := (([]).map bv)) (ys := ((ck b i).map bv)) (by kernel_rfl) (by kernel_rfl) own_t (ck_rowN hbn hN own_xd.row hia) (ones_map _) (by unfold maxLen; simp; omega) (by simp; omega)) ?_
      rintro _ h102 ⟨ad100,cap101,rfl,ownx,g,hb⟩
      rw [blkOf_slice] at g hb
      have hlo := e0.size
      have sepo := sep
      replace e0 := e0.grew g (sep.low 1 rfl)
      replace kt := kt.grew g (sep.zero 1 rfl h0s)
      replace own_all := own_all.kept g (by rw [blkOf_slice]; exact (sep.ap 3 1))
      replace own_x := own_x.kept g (by rw [blkOf_slice]; exact (sep.ap 5 1))
      replace own_xd := own_xd.kept g (by rw [blkOf_slice]; exact (sep.ap 6 1))
      replace own_p := own_p.kept g (by rw [blkOf_slice]; exact (sep.ap 2 1))
      replace m10 := Grew.blk g m10 ((sep.bp 4 1))
      replace m97 := Grew.blk g m97 ((sep.bp 0 1))
      replace sep := sep.up g.size
      replace sep : Sep h.size h102.size [some (h78.size),ad100.map (·.block),ad25.map (·.block),ad22.map (·.block),some (h7.size),(some ax).map (·.block),dat4.map (·.block)] := sepo.set g.size hlo 1 (y := ad100.map (fun (x : Addr) => x.block)) rfl (hb.imp id fun e => .inr ⟨_,e,Nat.le_refl _⟩) (fun k e => ownx.lt (by rw [blkOf_slice]; exact e))
      replace own_t : Own h102 (.slice ad100 ((ck b i).length) cap101) 5 ((ck b i).length) 1 ((ck b i).map bv) := Own.app (L2 := (ck b i)) ownx (by first | rfl | simp) (by first | rfl | (simp; done) | (simp; omega))
      clear ownx g hb hlo sepo
      refine ⟨?_,?_⟩
      ·intro j hj
       simp only [List.mem_cons,List.not_mem_nil,or_false] at hj
       subst hj
       exact goodOf (Calm.load (T := 31) (p := ⟨h7.size,0,none⟩) (by kernel_rfl) (Loads.hash (by kernel_rfl) (root_len (lch_32 _ _)) m10))
      rw [show (ck b i).length = 0 + (ck b i).length from (Nat.zero_add _).symm] at own_t
      refine SimK.eff (i := 7) (D' := 8191) (X' := 255) (by kernel_rfl) (by kernel_rfl) (by kernel_rfl) [12] (by kernel_rfl) (Does.append2 (t := 22) (E := 5) (sz := 1) (by_ := 1) (n := 0 + ((ck b i).length)) (m := 1) (v := .slice ad100 (0 + ((ck b i).length)) cap101) (x := .slice (some ⟨h78.size,0,none⟩) 1 1) (xs := ((ck b i).map bv)) (ys := (([0] : List UInt8).map bv)) (by kernel_rfl) (by kernel_rfl) own_t (Row.blk (n := 1) (sz := 1) (l := ([0] : List UInt8).map bv) m97 rfl) (ones_map _) (by unfold maxLen; simp; omega) (by simp; omega)) ?_
      rintro _ h105 ⟨ad103,cap104,rfl,ownx,g,hb⟩
      rw [blkOf_slice] at g hb
      have hlo := e0.size
      have sepo := sep
      replace e0 := e0.grew g (sep.low 1 rfl)
      replace kt := kt.grew g (sep.zero 1 rfl h0s)
      replace own_all := own_all.kept g (by rw [blkOf_slice]; exact (sep.ap 3 1))
      replace own_x := own_x.kept g (by rw [blkOf_slice]; exact (sep.ap 5 1))
      replace own_xd := own_xd.kept g (by rw [blkOf_slice]; exact (sep.ap 6 1))
      replace own_p := own_p.kept g (by rw [blkOf_slice]; exact (sep.ap 2 1))
      replace m10 := Grew.blk g m10 ((sep.bp 4 1))
      replace m97 := Grew.blk g m97 ((sep.bp 0 1))
      replace sep := sep.up g.size
      replace sep : Sep h.size h105.size [some (h78.size),ad103.map (·.block),ad25.map (·.block),ad22.map (·.block),some (h7.size),(some ax).map (·.block),dat4.map (·.block)] := sepo.set g.size hlo 1 (y := ad103.map (fun (x : Addr) => x.block)) rfl (hb.imp id fun e => .inr ⟨_,e,Nat.le_refl _⟩) (fun k e => ownx.lt (by rw [blkOf_slice]; exact e))
      replace own_t : Own h105 (.slice ad103 ((ck b i ++ [0]).length) cap104) 5 ((ck b i ++ [0]).length) 1 ((ck b i ++ [0]).map bv) := Own.app (L2 := (ck b i ++ [0])) ownx (by first | rfl | simp) (by first | rfl | (simp; done) | (simp; omega))
      clear ownx g hb hlo sepo
      refine ⟨?_,?_⟩
      ·intro j hj
       simp only [List.mem_cons,List.not_mem_nil,or_false] at hj
       subst hj
       exact goodOf (Calm.load (T := 31) (p := ⟨h7.size,0,none⟩) (by kernel_rfl) (Loads.hash (by kernel_rfl) (root_len (lch_32 _ _)) m10))
      refine SimK.eff0 (i := 13) (D' := 16383) (X' := 16383) (by kernel_rfl) (by kernel_rfl) (by kernel_rfl) (by kernel_rfl) (Does.call (f := 14) (args := #[.slice ad103 ((0 + ((ck b i).length)) + 1) cap104,.int .i64 ((i : Nat) : Int),.int .i64 ((n : Nat) : Int),.slice ad25 P.length cap26,.agg ((root (lch b N)).map bv).toArray]) (by kernel_rfl) (check7_m _ (ck b i ++ [0]) ((0 + ((ck b i).length)) + 1) (by simp) ad103 cap104 (by have h1 := own_t.row; have h2 : List.length (ck b i ++ [(0 : UInt8)]) = 0 + (ck b i).length + 1 := (by simp); rwa [h2] at h1) (by omega) ((i : Nat) : Int) ((n : Nat) : Int) (by omega) P _ _ (HR.of own_p h32P) (by omega) (root (lch b N)) (root_len (lch_32 _ _)) (.inr fun k e => own_p.lt (by rw [blkOf_slice]; exact e)) kt false (by have := chk_not (c := ck b i ++ [0]) (b := b) (i := i) (r := P) (t := root (lch b N)) (by rw [List.length_append,hbn]; simp only [List.length_cons,List.length_nil]; omega) (by omega); rwa [hbn] at this))) ?_
      rintro _ h106 ⟨rfl,g⟩
      replace e0 := e0.ext g
      replace kt := kt.ext g
      replace own_all := own_all.ext g
      replace own_x := own_x.ext g
      replace own_xd := own_xd.ext g
      replace own_p := own_p.ext g
      replace own_t := own_t.ext g
      replace m10 := Ext.blk g m10
      replace m97 := Ext.blk g m97
      replace sep := sep.up g.size
      clear g
      refine mP 32767 [14] [.bool false] ?_
      refine mD [(0,.slice va n vc),(4,.slice (some ax) N vc3),(5,pV h7.size),(6,.slice ad22 ((b.take (i * 64) ++ ck b i).length) cap23),(7,nV i),(11,.bool false),(12,.bool false)] ?_
      clear hF a; intro a hF
      replace sep := sep.sub (l' := [ad25.map (·.block),ad22.map (·.block),some (h7.size),(some ax).map (·.block),dat4.map (·.block)]) (.cons _ (.cons _ (.cons_cons _ (.cons_cons _ (.cons_cons _ (.cons_cons _ (.cons_cons _ (.slnil))))))))
      exact ⟨rfl,e0,kt,own_x,own_xd,own_all,own_p,m10,sep,hF⟩
    ·skip
     refine SimK.effAt (i := 6) (D' := 8030) (X' := 64) (by kernel_rfl) (by kernel_rfl) [4,12] (by kernel_rfl) (Does.new (v := .slice (some ⟨h77.size,0,none⟩) 1 1) (o := .cells #[.int .u8 0] 5) (by kernel_rfl)) ?_
     rintro _ h107 ⟨rfl,hh⟩
     have g108 : Ext h77 h107 := push_ext hh
     have m109 : h107[h77.size]? = some (.cells #[.int .u8 0] 5) := push_at hh
     clear hh
     have lt110 := blk_lt m109
     have zs111 := e0.size
     have hlo := e0.size
     have sepo := sep
     replace e0 := e0.ext g108
     replace kt := kt.ext g108
     replace own_all := own_all.ext g108
     replace own_x := own_x.ext g108
     replace own_xd := own_xd.ext g108
     replace own_p := own_p.ext g108
     replace m10 := Ext.blk g108 m10
     replace sep := sep.up g108.size
     replace sep := sepo.new hlo (blk_lt m109)
     clear sepo hlo
     refine ⟨?_,?_⟩
     ·intro j hj
      simp only [List.mem_cons,List.not_mem_nil,or_false] at hj
      rcases hj with rfl | rfl
      ·exact goodOf (Calm.load (T := 22) (p := (Addr.add ax i)) (by kernel_rfl) (Loads.one (k := 1) (by kernel_rfl) (sls_cell (i := i) own_x rfl (by omega))))
      ·exact goodOf (Calm.load (T := 31) (p := ⟨h7.size,0,none⟩) (by kernel_rfl) (Loads.hash (by kernel_rfl) (root_len (lch_32 _ _)) m10))
     refine SimK.eff (i := 0) (D' := 8031) (X' := 65) (by kernel_rfl) (by kernel_rfl) (by kernel_rfl) [4,12] (by kernel_rfl) (Does.new (v := .slice (some ⟨h107.size,0,none⟩) 0 0) (o := .cells #[] 5) (by kernel_rfl)) ?_
     rintro _ h112 ⟨rfl,hh⟩
     have g113 : Ext h107 h112 := push_ext hh
     have m114 : h112[h107.size]? = some (.cells #[] 5) := push_at hh
     clear hh
     have lt115 := blk_lt m114
     have zs116 := e0.size
     have hlo := e0.size
     have sepo := sep
     replace e0 := e0.ext g113
     replace kt := kt.ext g113
     replace own_all := own_all.ext g113
     replace own_x := own_x.ext g113
     replace own_xd := own_xd.ext g113
     replace own_p := own_p.ext g113
     replace m10 := Ext.blk g113 m10
     replace m109 := Ext.blk g113 m109
     replace sep := sep.up g113.size
     replace sep := sepo.new hlo (blk_lt m114)
     clear sepo hlo
     refine ⟨?_,?_⟩
     ·intro j hj
      simp only [List.mem_cons,List.not_mem_nil,or_false] at hj
      rcases hj with rfl | rfl
      ·exact goodOf (Calm.load (T := 22) (p := (Addr.add ax i)) (by kernel_rfl) (Loads.one (k := 1) (by kernel_rfl) (sls_cell (i := i) own_x rfl (by omega))))
      ·exact goodOf (Calm.load (T := 31) (p := ⟨h7.size,0,none⟩) (by kernel_rfl) (Loads.hash (by kernel_rfl) (root_len (lch_32 _ _)) m10))
     have own_t : Own h112 (.slice (some ⟨h107.size,0,none⟩) 0 0) 5 ([] : List UInt8).length 1 (([] : List UInt8).map bv) := Own.empty 1 m114
     replace sep : Sep h.size h112.size [(some ⟨h107.size,0,none⟩ : Option Addr).map (·.block),some (h77.size),ad25.map (·.block),ad22.map (·.block),some (h7.size),(some ax).map (·.block),dat4.map (·.block)] := sep
     clear m114 lt115 zs116
     refine SimK.eff (i := 5) (D' := 8063) (X' := 127) (by kernel_rfl) (by kernel_rfl) (by kernel_rfl) [12] (by kernel_rfl) (Does.append2 (t := 22) (E := 5) (sz := 1) (by_ := 1) (n := 0) (m := (ck b i).length) (v := .slice (some ⟨h107.size,0,none⟩) 0 0) (x := .slice (cad dat4 i) ((ck b i).length) ((ck b i).length)) (xs := (([]).map bv)) (ys := ((ck b i).map bv)) (by kernel_rfl) (by kernel_rfl) own_t (ck_rowN hbn hN own_xd.row hia) (ones_map _) (by unfold maxLen; simp; omega) (by simp; omega)) ?_
     rintro _ h119 ⟨ad117,cap118,rfl,ownx,g,hb⟩
     rw [blkOf_slice] at g hb
     have hlo := e0.size
     have sepo := sep
     replace e0 := e0.grew g (sep.low 0 rfl)
     replace kt := kt.grew g (sep.zero 0 rfl h0s)
     replace own_all := own_all.kept g (by rw [blkOf_slice]; exact (sep.ap 3 0))
     replace own_x := own_x.kept g (by rw [blkOf_slice]; exact (sep.ap 5 0))
     replace own_xd := own_xd.kept g (by rw [blkOf_slice]; exact (sep.ap 6 0))
     replace own_p := own_p.kept g (by rw [blkOf_slice]; exact (sep.ap 2 0))
     replace m10 := Grew.blk g m10 ((sep.bp 4 0))
     replace m109 := Grew.blk g m109 ((sep.bp 1 0))
     replace sep := sep.up g.size
     replace sep : Sep h.size h119.size [ad117.map (·.block),some (h77.size),ad25.map (·.block),ad22.map (·.block),some (h7.size),(some ax).map (·.block),dat4.map (·.block)] := sepo.set g.size hlo 0 (y := ad117.map (fun (x : Addr) => x.block)) rfl (hb.imp id fun e => .inr ⟨_,e,Nat.le_refl _⟩) (fun k e => ownx.lt (by rw [blkOf_slice]; exact e))
     replace own_t : Own h119 (.slice ad117 ((ck b i).length) cap118) 5 ((ck b i).length) 1 ((ck b i).map bv) := Own.app (L2 := (ck b i)) ownx (by first | rfl | simp) (by first | rfl | (simp; done) | (simp; omega))
     clear ownx g hb hlo sepo
     refine ⟨?_,?_⟩
     ·intro j hj
      simp only [List.mem_cons,List.not_mem_nil,or_false] at hj
      subst hj
      exact goodOf (Calm.load (T := 31) (p := ⟨h7.size,0,none⟩) (by kernel_rfl) (Loads.hash (by kernel_rfl) (root_len (lch_32 _ _)) m10))
     rw [show (ck b i).length = 0 + (ck b i).length from (Nat.zero_add _).symm] at own_t
     refine SimK.eff (i := 7) (D' := 8191) (X' := 255) (by kernel_rfl) (by kernel_rfl) (by kernel_rfl) [12] (by kernel_rfl) (Does.append2 (t := 22) (E := 5) (sz := 1) (by_ := 1) (n := 0 + ((ck b i).length)) (m := 1) (v := .slice ad117 (0 + ((ck b i).length)) cap118) (x := .slice (some ⟨h77.size,0,none⟩) 1 1) (xs := ((ck b i).map bv)) (ys := (([0] : List UInt8).map bv)) (by kernel_rfl) (by kernel_rfl) own_t (Row.blk (n := 1) (sz := 1) (l := ([0] : List UInt8).map bv) m109 rfl) (ones_map _) (by unfold maxLen; simp; omega) (by simp; omega)) ?_
     rintro _ h122 ⟨ad120,cap121,rfl,ownx,g,hb⟩
     rw [blkOf_slice] at g hb
     have hlo := e0.size
     have sepo := sep
     replace e0 := e0.grew g (sep.low 0 rfl)
     replace kt := kt.grew g (sep.zero 0 rfl h0s)
     replace own_all := own_all.kept g (by rw [blkOf_slice]; exact (sep.ap 3 0))
     replace own_x := own_x.kept g (by rw [blkOf_slice]; exact (sep.ap 5 0))
     replace own_xd := own_xd.kept g (by rw [blkOf_slice]; exact (sep.ap 6 0))
     replace own_p := own_p.kept g (by rw [blkOf_slice]; exact (sep.ap 2 0))
     replace m10 := Grew.blk g m10 ((sep.bp 4 0))
     replace m109 := Grew.blk g m109 ((sep.bp 1 0))
     replace sep := sep.up g.size
     replace sep : Sep h.size h122.size [ad120.map (·.block),some (h77.size),ad25.map (·.block),ad22.map (·.block),some (h7.size),(some ax).map (·.block),dat4.map (·.block)] := sepo.set g.size hlo 0 (y := ad120.map (fun (x : Addr) => x.block)) rfl (hb.imp id fun e => .inr ⟨_,e,Nat.le_refl _⟩) (fun k e => ownx.lt (by rw [blkOf_slice]; exact e))
     replace own_t : Own h122 (.slice ad120 ((ck b i ++ [0]).length) cap121) 5 ((ck b i ++ [0]).length) 1 ((ck b i ++ [0]).map bv) := Own.app (L2 := (ck b i ++ [0])) ownx (by first | rfl | simp) (by first | rfl | (simp; done) | (simp; omega))
     clear ownx g hb hlo sepo
     refine ⟨?_,?_⟩
     ·intro j hj
      simp only [List.mem_cons,List.not_mem_nil,or_false] at hj
      subst hj
      exact goodOf (Calm.load (T := 31) (p := ⟨h7.size,0,none⟩) (by kernel_rfl) (Loads.hash (by kernel_rfl) (root_len (lch_32 _ _)) m10))
     refine SimK.eff0 (i := 13) (D' := 16383) (X' := 16383) (by kernel_rfl) (by kernel_rfl) (by kernel_rfl) (by kernel_rfl) (Does.call (f := 14) (args := #[.slice ad120 ((0 + ((ck b i).length)) + 1) cap121,.int .i64 ((i : Nat) : Int),.int .i64 ((n : Nat) : Int),.slice ad25 P.length cap26,.agg ((root (lch b N)).map bv).toArray]) (by kernel_rfl) (check7_m _ (ck b i ++ [0]) ((0 + ((ck b i).length)) + 1) (by simp) ad120 cap121 (by have h1 := own_t.row; have h2 : List.length (ck b i ++ [(0 : UInt8)]) = 0 + (ck b i).length + 1 := (by simp); rwa [h2] at h1) (by omega) ((i : Nat) : Int) ((n : Nat) : Int) (by omega) P _ _ (HR.of own_p h32P) (by omega) (root (lch b N)) (root_len (lch_32 _ _)) (.inr fun k e => own_p.lt (by rw [blkOf_slice]; exact e)) kt false (by have := chk_not (c := ck b i ++ [0]) (b := b) (i := i) (r := P) (t := root (lch b N)) (by rw [List.length_append,hbn]; simp only [List.length_cons,List.length_nil]; omega) (by omega); rwa [hbn] at this))) ?_
     rintro _ h123 ⟨rfl,g⟩
     replace e0 := e0.ext g
     replace kt := kt.ext g
     replace own_all := own_all.ext g
     replace own_x := own_x.ext g
     replace own_xd := own_xd.ext g
     replace own_p := own_p.ext g
     replace own_t := own_t.ext g
     replace m10 := Ext.blk g m10
     replace m109 := Ext.blk g m109
     replace sep := sep.up g.size
     clear g
     refine mP 32767 [14] [.bool false] ?_
     refine mD [(0,.slice va n vc),(4,.slice (some ax) N vc3),(5,pV h7.size),(6,.slice ad22 ((b.take (i * 64) ++ ck b i).length) cap23),(7,nV i),(11,.bool false),(12,.bool false)] ?_
     clear hF a; intro a hF
     replace sep := sep.sub (l' := [ad25.map (·.block),ad22.map (·.block),some (h7.size),(some ax).map (·.block),dat4.map (·.block)]) (.cons _ (.cons _ (.cons_cons _ (.cons_cons _ (.cons_cons _ (.cons_cons _ (.cons_cons _ (.slnil))))))))
     exact ⟨rfl,e0,kt,own_x,own_xd,own_all,own_p,m10,sep,hF⟩
   ·skip
    clear hF a e0 kt own_x own_xd own_all own_p m10 sep
    rintro e a h124 ⟨rfl,e0,kt,own_x,own_xd,own_all,own_p,m10,sep,hF⟩
    refine tK ?_
    refine cS ?_
    refine cP 17 hF ?_
    refine sP 4 [.bool false,.bool false,.bool false,.bool false] ?_
    refine sD [(0,.slice va n vc),(4,.slice (some ax) N vc3),(5,pV h7.size),(6,.slice ad22 ((b.take (i * 64) ++ ck b i).length) cap23),(7,nV i),(115,.bool false)] ?_
    clear hF a; intro a hF
    refine tK ?_
    refine cF 115 hF ?_
    refine cN ?_
    show C Tryd.prog (sub b5 [1,1,1,1,1,1,0,1,0,0,1,1]) _ a h124
    refine cP 9 hF ?_
    refine sP 1 [nV i] ?_
    refine s1 2 (.int .i64 ((i + 1 : Nat) : Int)) (.int .i64 (IntKind.i64.wrap (((i : Nat) : Int) + 1))) (congrArg (Value.int .i64) (w64' (by omega) (by omega) (by omega))) ?_
    refine sP 3 [nV (i + 1)] ?_
    refine sD [(0,.slice va n vc),(4,.slice (some ax) N vc3),(5,pV h7.size),(6,.slice ad22 ((b.take (i * 64) ++ ck b i).length) cap23),(7,nV (i + 1))] ?_
    clear hF a; intro a hF
    rw [ck_take] at own_all hF
    replace sep := sep.sub (l' := [ad22.map (·.block),some (h7.size),(some ax).map (·.block),dat4.map (·.block)]) (.cons _ (.cons_cons _ (.cons_cons _ (.cons_cons _ (.cons_cons _ (.slnil))))))
    show ∃ m',m' < _ ∧ _
    refine ⟨_,?_,(i + 1),ad22,cap23,rfl,e0,kt,m10,(by omega),own_all,own_x,own_xd,sep,hF⟩
    omega
 ·skip
  replace hc21 := of_decide_eq_false hc21
  obtain rfl : N = i := by omega
  have hall : b.take (N * 64) = b := List.take_of_length_le (by rw [hbn]; have := hN; unfold nch at this; omega)
  rw [hall] at own_all hF
  refine cX 0 ?_
  show C Tryd.prog (sub b5 [1,1,1,1,1,1,1]) _ a h20
  refine cS ?_
  refine cP 19 hF ?_
  refine sP 2 [.slice va n vc,nV n] ?_
  refine sC 3 (.agg ((root (lch b N)).map bv).toArray) (Calm.load (T := 31) (p := ⟨h7.size,0,none⟩) (by kernel_rfl) (Loads.hash (by kernel_rfl) (root_len (lch_32 _ _)) m10)) ?_
  refine SeqK.eff (k' := 4) (Does.call (f := 14) (args := #[.slice none 0 0,.int .i64 0,.int .i64 ((n : Nat) : Int),.slice none 0 0,.agg ((root (lch b N)).map bv).toArray]) (by kernel_rfl) (check7_m _ [] 0 rfl none 0 (Row.nil _ 1) (by omega) 0 ((n : Nat) : Int) (by omega) [] none 0 (HR.nil _) (by decide) (root (lch b N)) (root_len (lch_32 _ _)) (.inl rfl) kt false (chk_none n _))) rfl ?_
  rintro _ h125 ⟨rfl,g⟩
  replace e0 := e0.ext g
  replace kt := kt.ext g
  replace own_all := own_all.ext g
  replace own_x := own_x.ext g
  replace own_xd := own_xd.ext g
  replace m10 := Ext.blk g m10
  replace sep := sep.up g.size
  clear g
  refine sP 5 [.bool false] ?_
  refine sD [(0,.slice va n vc),(6,.slice ad b.length cap),(13,.bool false)] ?_
  clear hF a; intro a hF
  refine tK ?_
  refine cS ?_
  refine cP 20 hF ?_
  refine sP 1 [.slice ad b.length cap] ?_
  refine sC 2 (.string (ByteArray.mk b.toArray)) (Calm.strN (l := b) rfl (by kernel_rfl) own_all.row) ?_
  refine sP 3 [.slice va n vc] ?_
  refine sC 4 (.string (ByteArray.mk b.toArray)) (Calm.strN (l := b) hbn (by kernel_rfl) (hr.ext e0)) ?_
  refine s1 5 (.bool true) (.bool ((ByteArray.mk b.toArray).toList == (ByteArray.mk b.toArray).toList)) (congrArg Value.bool (str_eq rfl)) ?_
  refine sP 10 [.bool true,.bool false,.bool true,.bool true,.bool true] ?_
  refine sD [(2,.bool true)] ?_
  clear hF a; intro a hF
  refine tK ?_
  refine cR ?_
  show retK Tryd.prog Tryd.f5 (fun v h' => v = .bool true ∧ Ext h h') .ret a h125
  refine ret_ok [.tmp 2] [.bool true] (.bool true) rfl hF ⟨rfl,trivial⟩ rfl ?_
  exact ⟨rfl,e0⟩
theorem whole7_all (h : Heap) (b : List UInt8) (va : Option Addr) (vc : Nat) (hr : Row h (.slice va b.length vc) b.length 1 (b.map bv)) (hbl : b.length ≤ 1048576) (kt : Ktab h) : Sat Tryd.prog 5 #[.slice va b.length vc] h fun v h' => v = .bool true ∧ Ext h h' := whole7_sat h b b.length rfl va vc hr hbl _ rfl kt
end Go.Proofs.YtkjlafiefgbjpaaDoor
