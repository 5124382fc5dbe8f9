/- Walks of chunks: what each function computes, as a law of its calls. No condition but those that each theorem names. -/
import Derived.Test.YtkjlafiefgbjpaaDoorChkD
import Derived.Test.YtkjlafiefgbjpaaDoorChkH
namespace Go.Proofs.YtkjlafiefgbjpaaDoor
open Go Go.Lane Go.Sha
noncomputable def b3 : Code := Tryd.f3.body.getD .skip
set_option maxHeartbeats 2000000 in
theorem cuts7_sat (h : Heap) (b : List UInt8) (n : Nat) (hbn : b.length = n) (va : Option Addr) (vc : Nat) (hr : Row h (.slice va n vc) n 1 (b.map bv)) (hbl : n ≤ 1048576) (N : Nat) (hN : nch n = N) (mi : Int) (kt : Ktab h) : Sat Tryd.prog 3 #[.slice va n vc,.int .i64 mi] h fun v h' => v = .bool true ∧ Ext h h' := by
 have e0 := Ext.refl h
 have h0s := kt.lt
 have sep : Sep h.size h.size [] := Sep.nil _ _
 have hNn : N ≤ n := hN ▸ nch_le n
 obtain ⟨P,eP,hP⟩ : ∃ p e,inclZ (lch b N) mi = (p,e) := ⟨_,_,rfl⟩
 have hil := inclZ_len (lch b N) mi
 have h32P := inclZ_32 (lch_32 b N) mi
 rw [hP,lch_len] at hil
 rw [hP] at h32P
 dsimp only at hil h32P
 refine sat_of (args := [.slice va n vc,.int .i64 mi]) (fn := Tryd.f3) (B := b3) (n := 123) (L := [(0,.slice va n vc),(1,.int .i64 mi)]) Tryd.func3 rfl (by kernel_rfl) rfl ?_
 intro a hF
 refine cS ?_
 refine cP 0 hF ?_
 refine sP 1 [.bool false] ?_
 refine sD [(0,.slice va n vc),(1,.int .i64 mi)] ?_
 clear hF a; intro a hF
 refine tK ?_
 refine cS ?_
 refine cP 1 hF ?_
 refine SeqK.eff (k' := 1) (Does.call (f := 7) (args := #[]) (by kernel_rfl) (shown7_sat _ kt)) rfl ?_
 rintro _ h1 ⟨rfl,g⟩
 replace e0 := e0.ext g
 replace kt := kt.ext g
 replace sep := sep.up g.size
 clear g
 refine sP 2 [.bool true] ?_
 refine sD [(0,.slice va n vc),(1,.int .i64 mi),(5,.bool true)] ?_
 clear hF a; intro a hF
 refine tK ?_
 refine cS ?_
 refine cP 2 hF ?_
 refine SeqK.eff (k' := 1) (Does.new (v := .slice (some ⟨h1.size,0,none⟩) 0 0) (o := .cells #[] 5) (by kernel_rfl)) rfl ?_
 rintro _ h2 ⟨rfl,hh⟩
 have g3 : Ext h1 h2 := push_ext hh
 have m4 : h2[h1.size]? = some (.cells #[] 5) := push_at hh
 clear hh
 have lt5 := blk_lt m4
 have zs6 := e0.size
 have hlo := e0.size
 have sepo := sep
 replace e0 := e0.ext g3
 replace kt := kt.ext g3
 replace sep := sep.up g3.size
 replace sep := sepo.new hlo (blk_lt m4)
 clear sepo hlo
 have own_w : Own h2 (.slice (some ⟨h1.size,0,none⟩) 0 0) 5 ([] : List UInt8).length 1 (([] : List UInt8).map bv) := Own.empty 1 m4
 replace sep : Sep h.size h2.size [(some ⟨h1.size,0,none⟩ : Option Addr).map (·.block)] := sep
 clear m4 lt5 zs6
 refine sP 2 [.slice va n vc] ?_
 refine SeqK.eff (k' := 3) (Does.append2 (t := 22) (E := 5) (sz := 1) (by_ := 1) (n := 0) (m := n) (v := .slice (some ⟨h1.size,0,none⟩) 0 0) (x := .slice va n vc) (xs := (([]).map bv)) (ys := (b.map bv)) (by kernel_rfl) (by kernel_rfl) own_w (hr.ext e0) (ones_map _) (by unfold maxLen; omega) (by omega)) rfl ?_
 rintro _ h9 ⟨ad7,cap8,rfl,ownx,g,hb⟩
 rw [blkOf_slice] at g hb
 have hlo := e0.size
 have sepo := sep
 replace e0 := e0.grew g (sep.low 0 rfl)
 replace kt := kt.grew g (sep.zero 0 rfl h0s)
 replace sep := sep.up g.size
 replace sep : Sep h.size h9.size [ad7.map (·.block)] := sepo.set g.size hlo 0 (y := ad7.map (fun (x : Addr) => x.block)) rfl (hb.imp id fun e => .inr ⟨_,e,Nat.le_refl _⟩) (fun k e => ownx.lt (by rw [blkOf_slice]; exact e))
 replace own_w : Own h9 (.slice ad7 n cap8) 5 n 1 (b.map bv) := Own.appG ownx (by first | rfl | simp) (by first | rfl | (simp; done) | (simp; omega))
 clear ownx g hb hlo sepo
 refine sP 4 [.slice ad7 (0 + n) cap8] ?_
 refine sD [(0,.slice va n vc),(1,.int .i64 mi),(5,.bool true),(6,.slice ad7 (0 + n) cap8)] ?_
 clear hF a; intro a hF
 have hcan : (0 + n : Nat) = n := by first | (simp; done) | (simp; omega)
 rw [hcan] at hF; clear hcan
 refine tK ?_
 refine cS ?_
 refine cP 3 hF ?_
 refine sP 1 [.slice ad7 n cap8] ?_
 refine SeqK.eff (k' := 2) (Does.call (f := 8) (args := #[.slice ad7 n cap8]) (by kernel_rfl) (split7_n _ b n hbn _ _ own_w.row (by omega) N hN)) rfl ?_
 rintro _ h14 ⟨va10,vc11,dat12,dc13,rfl,ownx,owny,sepn,g⟩
 have hlo := e0.size
 have sepo := sep
 replace e0 := e0.ext g
 replace kt := kt.ext g
 replace own_w := own_w.ext g
 replace sep := sep.up g.size
 replace sep := sepo.app sepn g.size hlo
 have own_x := ownx; have own_xd := owny; clear ownx owny sepn sepo hlo g
 refine sP 3 [.slice va10 N vc11] ?_
 refine sD [(0,.slice va n vc),(1,.int .i64 mi),(5,.bool true),(6,.slice ad7 n cap8),(7,.slice va10 N vc11)] ?_
 clear hF a; intro a hF
 refine tK ?_
 refine cS ?_
 refine cP 4 hF ?_
 refine sP 1 [.slice va n vc] ?_
 refine SeqK.eff (k' := 2) (Does.call (f := 9) (args := #[.slice va n vc]) (by kernel_rfl) (rsplit7_sat _ b n hbn _ _ (hr.ext e0) (by omega) N hN)) rfl ?_
 rintro _ h18 ⟨va15,vc16,ys17,rfl,ownx,rc,hge,g⟩
 have hlo := e0.size
 have sepo := sep
 have hlt_w : ∀ j,ad7.map (fun (x : Addr) => x.block) = some j → j < h14.size := fun j e => own_w.lt (by rw [blkOf_slice]; exact e)
 have hlt_x : ∀ j,va10.map (fun (x : Addr) => x.block) = some j → j < h14.size := fun j e => own_x.lt (by rw [blkOf_slice]; exact e)
 have hlt_xd : ∀ j,dat12.map (fun (x : Addr) => x.block) = some j → j < h14.size := fun j e => own_xd.lt (by rw [blkOf_slice]; exact e)
 replace e0 := e0.ext g
 replace kt := kt.ext g
 replace own_w := own_w.ext g
 replace own_x := own_x.ext g
 replace own_xd := own_xd.ext g
 replace sep := sep.up g.size
 replace sep := sepo.cons (x := va15.map (fun (x : Addr) => x.block)) g.size hlo (fun k e => ⟨hge k e,ownx.lt (by rw [blkOf_slice]; exact e)⟩)
 have own_y := ownx; clear ownx sepo hlo hge g
 refine sP 3 [.slice va15 N vc16] ?_
 refine sD [(0,.slice va n vc),(1,.int .i64 mi),(5,.bool true),(6,.slice ad7 n cap8),(7,.slice va10 N vc11),(8,.slice va15 N vc16)] ?_
 clear hF a; intro a hF
 refine tK ?_
 refine cS ?_
 refine cS ?_
 refine cP 5 hF ?_
 refine sP 7 [.bool true,.bool false,.bool false,.slice va10 N vc11,nV N,.slice va15 N vc16,nV N] ?_
 refine s1 8 (.bool false) (.bool (!(((N : Nat) : Int) == ((N : Nat) : Int)))) (congrArg (fun b => Value.bool (!b)) (beq_iff_eq.2 (by omega))) ?_
 refine sP 9 [.bool false] ?_
 refine sD [(0,.slice va n vc),(1,.int .i64 mi),(6,.slice ad7 n cap8),(7,.slice va10 N vc11),(8,.slice va15 N vc16),(32,.bool false)] ?_
 clear hF a; intro a hF
 refine tK ?_
 refine cF 32 hF ?_
 refine cN ?_
 refine tK ?_
 refine cS ?_
 refine cS ?_
 refine cP 7 hF ?_
 refine sP 1 [.int .i64 0] ?_
 refine sD [(0,.slice va n vc),(1,.int .i64 mi),(6,.slice ad7 n cap8),(7,.slice va10 N vc11),(8,.slice va15 N vc16),(9,.int .i64 0)] ?_
 clear hF a; intro a hF
 refine tK ?_
 refine cB 0 ?_
 replace sep := sep.sub (l' := [va15.map (·.block),va10.map (·.block),dat12.map (·.block),ad7.map (·.block)]) (.cons_cons _ (.cons_cons _ (.cons_cons _ (.cons_cons _ (.slnil)))))
 refine C.loop (fun m a h' => ∃ k : Nat,∃ xs : List Value,∃ b1 : List UInt8,m = N - k ∧ (Ext h h') ∧ (Ktab h') ∧ (k ≤ N) ∧ (Heads dat12 b xs k N) ∧ (Behind b b1 (k * 64)) ∧ (RC h14.size h18.size (va15.map (fun (x : Addr) => x.block)) h' ys17 b N) ∧ (Own h' (.slice va10 N vc11) 22 N 1 xs) ∧ (Own h' (.slice dat12 n dc13) 5 n 1 (b1.map bv)) ∧ (Own h' (.slice ad7 n cap8) 5 n 1 (b.map bv)) ∧ (Own h' (.slice va15 N vc16) 22 N 1 ys17) ∧ (Sep h.size h'.size [va15.map (·.block),va10.map (·.block),dat12.map (·.block),ad7.map (·.block)]) ∧ (Fr a 123 [(0,.slice va n vc),(1,.int .i64 mi),(6,.slice ad7 n cap8),(7,.slice va10 N vc11),(8,.slice va15 N vc16),(9,.int .i64 ((k : Nat) : Int))])) (N - 0) [1,1,1,1,1,1,0,1,0,0] (by kernel_rfl) ⟨0,(sls dat12 b N),b,rfl,e0,kt,(by omega),(Heads.start _ _ _),(Behind.refl _ _),rc,own_x,own_xd,own_w,own_y,sep,hF⟩ ?_
 clear hF a
 clear e0
 clear kt
 clear rc
 clear own_x
 clear own_xd
 clear own_w
 clear own_y
 clear sep
 rintro m a h19 ⟨k,xs,b1,rfl,e0,kt,hk,H,B,rc,own_x,own_xd,own_w,own_y,sep,hF⟩
 refine cS ?_
 refine cS ?_
 refine cP 8 hF ?_
 refine sP 4 [nV k,.slice va10 N vc11,nV N,.bool (decide (((k : Nat) : Int) < ((N : Nat) : Int)))] ?_
 refine sD [(0,.slice va n vc),(1,.int .i64 mi),(6,.slice ad7 n cap8),(7,.slice va10 N vc11),(8,.slice va15 N vc16),(9,nV k),(36,.bool (decide (((k : Nat) : Int) < ((N : Nat) : Int))))] ?_
 clear hF a; intro a hF
 refine tK ?_
 refine cC 36 (decide (((k : Nat) : Int) < ((N : Nat) : Int))) hF (fun hc20 => ?_) (fun hc20 => ?_)
 ·skip
  replace hc20 := of_decide_eq_true hc20
  have hkN : k < N := by omega
  have hck := ck_len b k; rw [hbn] at hck
  have hkn : k * 64 < n := by rw [← hN] at hkN; unfold nch at hkN; omega
  obtain ⟨ay,rfl,_⟩ := own_y.someA (by omega)
  obtain ⟨ax,rfl,_⟩ := own_x.someA (by omega)
  obtain ⟨axd,rfl,_⟩ := own_xd.someA (by omega)
  obtain ⟨ya,yc,hyi,hyr,_⟩ := rc.at_ k hkN
  refine cN ?_
  refine tK ?_
  refine cS ?_
  refine cB 1 ?_
  refine cS ?_
  refine cS ?_
  refine cD [0,0,3,7,15,0,0,96,224,480,1023] 10 mixed hF ?_
  refine mP 3 [0,1] [.slice (some ax) N vc11,nV k] ?_
  refine mF 7 2 (.pointer (some (Addr.add ax k))) (Calm.indexA (a := ax) (len := N) (sz := 1) (k := ((k : Nat) : Int)) k k (by kernel_rfl) rfl (by omega) (by omega)) ?_
  refine mL 15 8 3 (.slice (some (axd.add (k * 64))) ((ck b k).length) ((ck b k).length)) (Calm.load (T := 22) (p := (Addr.add ax k)) (by kernel_rfl) (Loads.one (k := 1) (by kernel_rfl) (H.cell own_x hkN))) ?_
  refine mL 31 24 4 (.string (ByteArray.mk (ck b k).toArray)) (Calm.strN (l := ck b k) rfl (by kernel_rfl) (B.row hbn hN own_xd.row hkN)) ?_
  refine mP 127 [5,6] [.slice (some ay) N vc16,nV k] ?_
  refine mF 255 7 (.pointer (some (Addr.add ay k))) (Calm.indexA (a := ay) (len := N) (sz := 1) (k := ((k : Nat) : Int)) k k (by kernel_rfl) rfl (by omega) (by omega)) ?_
  refine mL 511 280 8 (.slice (some ya) ((ck b k).length) yc) (Calm.load (T := 22) (p := (Addr.add ay k)) (by kernel_rfl) (Loads.one (k := 1) (by kernel_rfl) (RC.cell own_y hyi))) ?_
  refine mL 1023 792 9 (.string (ByteArray.mk (ck b k).toArray)) (Calm.strN (l := ck b k) rfl (by kernel_rfl) hyr) ?_
  refine m1 2047 10 (.bool false) (.bool (!((ByteArray.mk (ck b k).toArray).toList == (ByteArray.mk (ck b k).toArray).toList))) (congrArg (fun z => Value.bool (!z)) (str_eq rfl)) ?_
  refine mD [(0,.slice va n vc),(1,.int .i64 mi),(6,.slice ad7 n cap8),(7,.slice (some ax) N vc11),(8,.slice (some ay) N vc16),(9,nV k),(49,.bool false)] ?_
  clear hF a; intro a hF
  refine tK ?_
  refine cF 49 hF ?_
  refine cN ?_
  refine tK ?_
  refine cS ?_
  refine cS ?_
  refine cP 12 hF ?_
  refine sP 1 [.int .i64 0] ?_
  refine sD [(0,.slice va n vc),(1,.int .i64 mi),(6,.slice ad7 n cap8),(7,.slice (some ax) N vc11),(8,.slice (some ay) N vc16),(9,nV k),(10,.int .i64 0)] ?_
  clear hF a; intro a hF
  refine tK ?_
  refine cB 2 ?_
  refine C.loop (fun m a h' => ∃ j : Nat,∃ b2 : List UInt8,m = (ck b k).length - j ∧ (Ext h h') ∧ (Ktab h') ∧ (j ≤ (ck b k).length) ∧ (Behind b b2 ((k + 1) * 64)) ∧ (RC h14.size h18.size ((some ay).map (fun (x : Addr) => x.block)) h' ys17 b N) ∧ (Own h' (.slice (some ax) N vc11) 22 N 1 xs) ∧ (Own h' (.slice (some axd) n dc13) 5 n 1 (b2.map bv)) ∧ (Own h' (.slice ad7 n cap8) 5 n 1 (b.map bv)) ∧ (Own h' (.slice (some ay) N vc16) 22 N 1 ys17) ∧ (Sep h.size h'.size [(some ay).map (·.block),(some ax).map (·.block),(some axd).map (·.block),ad7.map (·.block)]) ∧ (Fr a 123 [(0,.slice va n vc),(1,.int .i64 mi),(6,.slice ad7 n cap8),(7,.slice (some ax) N vc11),(8,.slice (some ay) N vc16),(9,.int .i64 ((k : Nat) : Int)),(10,.int .i64 ((j : Nat) : Int))])) ((ck b k).length - 0) [1,1,1,1,1,1,0,1,0,0,1,0,0,1,0,1,0,0] (by kernel_rfl) ⟨0,b1,rfl,e0,kt,(by omega),(B.mono (by omega)),rc,own_x,own_xd,own_w,own_y,sep,hF⟩ ?_
  clear hF a
  clear e0
  clear kt
  clear rc
  clear own_x
  clear own_xd
  clear own_w
  clear own_y
  clear sep
  rintro m a h21 ⟨j,b2,rfl,e0,kt,hj,B2,rc,own_x,own_xd,own_w,own_y,sep,hF⟩
  refine cS ?_
  refine cS ?_
  refine cP 13 hF ?_
  refine sP 3 [nV j,.slice (some ax) N vc11,nV k] ?_
  refine sC 4 (.pointer (some (Addr.add ax k))) ((Calm.indexA (a := ax) (len := N) (sz := 1) (k := ((k : Nat) : Int)) k k (by kernel_rfl) rfl (by omega) (by omega)) _) ?_
  refine sC 5 (.slice (some (axd.add (k * 64))) ((ck b k).length) ((ck b k).length)) (Calm.load (T := 22) (p := (Addr.add ax k)) (by kernel_rfl) (Loads.one (k := 1) (by kernel_rfl) (H.cell own_x hkN))) ?_
  refine sP 7 [nV ((ck b k).length),.bool (decide (((j : Nat) : Int) < (((ck b k).length : Nat) : Int)))] ?_
  refine sD [(0,.slice va n vc),(1,.int .i64 mi),(6,.slice ad7 n cap8),(7,.slice (some ax) N vc11),(8,.slice (some ay) N vc16),(9,nV k),(10,nV j),(56,.bool (decide (((j : Nat) : Int) < (((ck b k).length : Nat) : Int))))] ?_
  clear hF a; intro a hF
  refine tK ?_
  refine cC 56 (decide (((j : Nat) : Int) < (((ck b k).length : Nat) : Int))) hF (fun hc22 => ?_) (fun hc22 => ?_)
  ·skip
   replace hc22 := of_decide_eq_true hc22
   refine cN ?_
   refine tK ?_
   refine cS ?_
   refine cB 3 ?_
   refine cP 15 hF ?_
   refine sP 2 [.slice (some ax) N vc11,nV k] ?_
   refine sC 3 (.pointer (some (Addr.add ax k))) ((Calm.indexA (a := ax) (len := N) (sz := 1) (k := ((k : Nat) : Int)) k k (by kernel_rfl) rfl (by omega) (by omega)) _) ?_
   refine sC 4 (.slice (some (axd.add (k * 64))) ((ck b k).length) ((ck b k).length)) (Calm.load (T := 22) (p := (Addr.add ax k)) (by kernel_rfl) (Loads.one (k := 1) (by kernel_rfl) (H.cell own_x hkN))) ?_
   refine sP 5 [nV j] ?_
   refine sC 6 (.pointer (some (Addr.add (axd.add (k * 64)) j))) ((Calm.indexA (a := (axd.add (k * 64))) (len := (ck b k).length) (sz := 1) (k := ((j : Nat) : Int)) j j (by kernel_rfl) rfl (by omega) (by omega)) _) ?_
   refine SeqK.eff (k' := 7) (Does.storeOwn (a := axd) (q := k * 64 + j) (vs := [bv 99]) (by rw [← add_add]; kernel_rfl) own_xd (by simp only [List.length_cons,List.length_nil]; omega) (List.all_eq_true.1 (by rfl))) rfl ?_
   rintro _ h23 ⟨rfl,ownx,g⟩
   replace e0 := e0.grew g (sep.low 2 rfl)
   replace kt := kt.grew g (sep.zero 2 rfl h0s)
   replace rc := rc.grew g (fun j e => .inr (hlt_xd j e))
   replace own_x := own_x.kept g (by rw [blkOf_slice]; exact (sep.ap 1 2))
   replace own_w := own_w.kept g (by rw [blkOf_slice]; exact (sep.ap 3 2))
   replace own_y := own_y.kept g (by rw [blkOf_slice]; exact (sep.ap 0 2))
   replace sep := sep.up g.size
   rw [splice_one 99 (by rw [B2.1,hbn]; omega)] at ownx; clear own_xd; have own_xd := ownx; clear ownx g
   refine sD [(0,.slice va n vc),(1,.int .i64 mi),(6,.slice ad7 n cap8),(7,.slice (some ax) N vc11),(8,.slice (some ay) N vc16),(9,nV k),(10,nV j)] ?_
   clear hF a; intro a hF
   show C Tryd.prog (sub b3 [1,1,1,1,1,1,0,1,0,0,1,0,0,1,0,1,0,0,1,1]) _ a h23
   refine cP 14 hF ?_
   refine sP 1 [nV j] ?_
   refine s1 2 (.int .i64 ((j + 1 : Nat) : Int)) (.int .i64 (IntKind.i64.wrap (((j : Nat) : Int) + 1))) (congrArg (Value.int .i64) (w64' (by omega) (by omega) (by omega))) ?_
   refine sP 3 [nV (j + 1)] ?_
   refine sD [(0,.slice va n vc),(1,.int .i64 mi),(6,.slice ad7 n cap8),(7,.slice (some ax) N vc11),(8,.slice (some ay) N vc16),(9,nV k),(10,nV (j + 1))] ?_
   clear hF a; intro a hF
   show ∃ m',m' < _ ∧ _
   refine ⟨_,?_,(j + 1),(b2.set (k * 64 + j) 99),rfl,e0,kt,(by omega),(B2.set (by omega) 99),rc,own_x,own_xd,own_w,own_y,sep,hF⟩
   omega
  ·skip
   replace hc22 := of_decide_eq_false hc22
   refine cX 2 ?_
   show C Tryd.prog (sub b3 [1,1,1,1,1,1,0,1,0,0,1,0,0,1,1]) _ a h21
   refine cP 16 hF ?_
   refine sP 4 [.slice (some ax) N vc11,nV k,.slice (some ax) N vc11,nV k] ?_
   refine sC 5 (.pointer (some (Addr.add ax k))) ((Calm.indexA (a := ax) (len := N) (sz := 1) (k := ((k : Nat) : Int)) k k (by kernel_rfl) rfl (by omega) (by omega)) _) ?_
   refine sC 6 (.slice (some (axd.add (k * 64))) ((ck b k).length) ((ck b k).length)) (Calm.load (T := 22) (p := (Addr.add ax k)) (by kernel_rfl) (Loads.one (k := 1) (by kernel_rfl) (H.cell own_x hkN))) ?_
   refine SeqK.eff (k' := 7) (Does.new (v := .slice (some ⟨h21.size,0,none⟩) 1 1) (o := .cells #[.int .u8 98] 5) (by kernel_rfl)) rfl ?_
   rintro _ h24 ⟨rfl,hh⟩
   have g25 : Ext h21 h24 := push_ext hh
   have m26 : h24[h21.size]? = some (.cells #[.int .u8 98] 5) := push_at hh
   clear hh
   have lt27 := blk_lt m26
   have zs28 := e0.size
   have hlo := e0.size
   have sepo := sep
   replace e0 := e0.ext g25
   replace kt := kt.ext g25
   replace rc := rc.ext g25
   replace own_x := own_x.ext g25
   replace own_xd := own_xd.ext g25
   replace own_w := own_w.ext g25
   replace own_y := own_y.ext g25
   replace sep := sep.up g25.size
   replace sep := sepo.new hlo (blk_lt m26)
   clear sepo hlo
   refine SeqK.eff (k' := 8) (Does.appendFull (t := 22) (E := 5) (sz := 1) (by_ := 1) (n := (ck b k).length) (m := 1) (a := axd.add (k * 64)) (x := .slice (some ⟨h21.size,0,none⟩) 1 1) (xs := (ck b2 k).map bv) (ys := ([98] : List UInt8).map bv) (by kernel_rfl) (by kernel_rfl) (row_any hbn hN B2.1 own_xd.row hkN) (Row.blk m26 rfl) (by decide) (by unfold maxLen; omega) (by omega)) rfl ?_
   rintro _ h31 ⟨ad29,cap30,rfl,_,_,g⟩
   replace e0 := e0.ext g
   replace kt := kt.ext g
   replace rc := rc.ext g
   replace own_x := own_x.ext g
   replace own_xd := own_xd.ext g
   replace own_w := own_w.ext g
   replace own_y := own_y.ext g
   replace m26 := Ext.blk g m26
   replace sep := sep.up g.size
   clear g
   refine sC 9 (.pointer (some (Addr.add ax k))) ((Calm.indexA (a := ax) (len := N) (sz := 1) (k := ((k : Nat) : Int)) k k (by kernel_rfl) rfl (by omega) (by omega)) _) ?_
   refine SeqK.eff (k' := 10) (Does.storeOwn (a := ax) (q := k) (vs := [.slice (some ad29) ((ck b k).length + 1) cap30]) (by kernel_rfl) own_x (by simp only [List.length_cons,List.length_nil]; omega) (List.all_eq_true.1 (by rfl))) rfl ?_
   rintro _ h32 ⟨rfl,ownx,g⟩
   replace e0 := e0.grew g (sep.low 2 rfl)
   replace kt := kt.grew g (sep.zero 2 rfl h0s)
   replace rc := rc.grew g (fun j e => .inr (hlt_x j e))
   replace own_xd := own_xd.kept g (by rw [blkOf_slice]; exact (sep.ap 3 2))
   replace own_w := own_w.kept g (by rw [blkOf_slice]; exact (sep.ap 4 2))
   replace own_y := own_y.kept g (by rw [blkOf_slice]; exact (sep.ap 1 2))
   replace m26 := Grew.blk g m26 ((sep.bp 0 2))
   replace sep := sep.up g.size
   rw [splice_val _ (by rw [H.1]; omega)] at ownx; clear own_x; have own_x := ownx; clear ownx g
   refine sD [(0,.slice va n vc),(1,.int .i64 mi),(6,.slice ad7 n cap8),(7,.slice (some ax) N vc11),(8,.slice (some ay) N vc16),(9,nV k)] ?_
   clear hF a; intro a hF
   show C Tryd.prog (sub b3 [1,1,1,1,1,1,0,1,0,0,1,1]) _ a h32
   refine cP 9 hF ?_
   refine sP 1 [nV k] ?_
   refine s1 2 (.int .i64 ((k + 1 : Nat) : Int)) (.int .i64 (IntKind.i64.wrap (((k : Nat) : Int) + 1))) (congrArg (Value.int .i64) (w64' (by omega) (by omega) (by omega))) ?_
   refine sP 3 [nV (k + 1)] ?_
   refine sD [(0,.slice va n vc),(1,.int .i64 mi),(6,.slice ad7 n cap8),(7,.slice (some ax) N vc11),(8,.slice (some ay) N vc16),(9,nV (k + 1))] ?_
   clear hF a; intro a hF
   clear m26 lt27 zs28
   replace sep := sep.sub (l' := [(some ay).map (·.block),(some ax).map (·.block),(some axd).map (·.block),ad7.map (·.block)]) (.cons _ (.cons_cons _ (.cons_cons _ (.cons_cons _ (.cons_cons _ (.slnil))))))
   show ∃ m',m' < _ ∧ _
   refine ⟨_,?_,(k + 1),(xs.set k (.slice (some ad29) ((ck b k).length + 1) cap30)),b2,rfl,e0,kt,(by omega),(H.set _),B2,rc,own_x,own_xd,own_w,own_y,sep,hF⟩
   omega
 ·skip
  replace hc20 := of_decide_eq_false hc20
  clear own_x
  clear own_xd
  clear own_y
  clear rc H B
  replace sep := sep.sub (l' := [ad7.map (·.block)]) (.cons _ (.cons _ (.cons _ (.cons_cons _ (.slnil)))))
  refine cX 0 ?_
  show C Tryd.prog (sub b3 [1,1,1,1,1,1,1]) _ a h19
  refine cS ?_
  refine cP 17 hF ?_
  refine sP 2 [.slice ad7 n cap8,.int .i64 mi] ?_
  refine SeqK.eff (k' := 3) (Does.call (f := 10) (args := #[.slice ad7 n cap8,.int .i64 mi]) (by kernel_rfl) (proof7_n _ b n hbn _ _ own_w.row (by omega) N hN mi kt P eP hP)) rfl ?_
  rintro _ h35 ⟨_,rfl,ad33,cap34,rfl,ownx,hge,g⟩
  have hlo := e0.size
  have sepo := sep
  replace e0 := e0.ext g
  replace kt := kt.ext g
  replace own_w := own_w.ext g
  replace sep := sep.up g.size
  replace sep := sepo.cons (x := ad33.map (fun (x : Addr) => x.block)) g.size hlo (fun k e => ⟨hge k e,ownx.lt (by rw [blkOf_slice]; exact e)⟩)
  have own_p : Own h35 (.slice ad33 P.length cap34) 31 P.length 32 (hcs P) := ownx; clear ownx sepo hlo hge g
  refine sP 8 [.tuple #[.slice ad33 P.length cap34,.int .i64 eP],.slice ad33 P.length cap34,.int .i64 eP,.slice ad33 P.length cap34,.int .i64 eP] ?_
  refine sD [(0,.slice va n vc),(1,.int .i64 mi),(6,.slice ad7 n cap8),(11,.slice ad33 P.length cap34),(12,.int .i64 eP)] ?_
  clear hF a; intro a hF
  refine tK ?_
  refine cS ?_
  refine cP 18 hF ?_
  refine sP 2 [.slice va n vc,.int .i64 mi] ?_
  refine SeqK.eff (k' := 3) (Does.call (f := 11) (args := #[.slice va n vc,.int .i64 mi]) (by kernel_rfl) (rproof7_sat _ b n hbn _ _ (hr.ext e0) (by omega) N hN mi P eP hP)) rfl ?_
  rintro _ h38 ⟨_,rfl,ad36,cap37,rfl,ownx,hge,g⟩
  have hlo := e0.size
  have sepo := sep
  replace e0 := e0.ext g
  replace kt := kt.ext g
  replace own_w := own_w.ext g
  replace own_p := own_p.ext g
  replace sep := sep.up g.size
  replace sep := sepo.cons (x := ad36.map (fun (x : Addr) => x.block)) g.size hlo (fun k e => ⟨hge k e,ownx.lt (by rw [blkOf_slice]; exact e)⟩)
  have own_q : Own h38 (.slice ad36 P.length cap37) 31 P.length 32 (hcs P) := ownx; clear ownx sepo hlo hge g
  refine sP 8 [.tuple #[.slice ad36 P.length cap37,.int .i64 eP],.slice ad36 P.length cap37,.int .i64 eP,.slice ad36 P.length cap37,.int .i64 eP] ?_
  refine sD [(0,.slice va n vc),(6,.slice ad7 n cap8),(11,.slice ad33 P.length cap34),(12,.int .i64 eP),(13,.slice ad36 P.length cap37),(14,.int .i64 eP)] ?_
  clear hF a; intro a hF
  refine tK ?_
  refine cS ?_
  refine cS ?_
  refine cP 19 hF ?_
  refine sP 1 [.slice ad7 n cap8] ?_
  refine sC 2 (.string (ByteArray.mk b.toArray)) (Calm.strN (l := b) hbn (by kernel_rfl) own_w.row) ?_
  refine sP 3 [.slice va n vc] ?_
  refine sC 4 (.string (ByteArray.mk b.toArray)) (Calm.strN (l := b) hbn (by kernel_rfl) (hr.ext e0)) ?_
  refine s1 5 (.bool false) (.bool (!((ByteArray.mk b.toArray).toList == (ByteArray.mk b.toArray).toList))) (congrArg (fun z => Value.bool (!z)) (str_eq rfl)) ?_
  refine sP 8 [.bool false,.int .i64 eP,.int .i64 eP] ?_
  refine s1 9 (.bool false) (.bool (!(eP == eP))) (congrArg (fun b => Value.bool (!b)) (beq_iff_eq.2 (by omega))) ?_
  refine sP 15 [.bool false,.bool false,.slice ad33 P.length cap34,nV P.length,.slice ad36 P.length cap37,nV P.length] ?_
  refine s1 16 (.bool false) (.bool (!(((P.length : Nat) : Int) == ((P.length : Nat) : Int)))) (congrArg (fun b => Value.bool (!b)) (beq_iff_eq.2 (by omega))) ?_
  refine sP 17 [.bool false] ?_
  refine sD [(0,.slice va n vc),(6,.slice ad7 n cap8),(11,.slice ad33 P.length cap34),(13,.slice ad36 P.length cap37),(102,.bool false)] ?_
  clear hF a; intro a hF
  refine tK ?_
  refine cF 102 hF ?_
  refine cN ?_
  refine tK ?_
  refine cS ?_
  refine cS ?_
  refine cP 21 hF ?_
  refine sP 1 [.int .i64 0] ?_
  refine sD [(0,.slice va n vc),(6,.slice ad7 n cap8),(11,.slice ad33 P.length cap34),(13,.slice ad36 P.length cap37),(15,.int .i64 0)] ?_
  clear hF a; intro a hF
  refine tK ?_
  refine cB 4 ?_
  refine C.loop (fun m a h' => ∃ t : Nat,m = P.length - t ∧ (Ext h h') ∧ (Ktab h') ∧ (t ≤ P.length) ∧ (Own h' (.slice ad33 P.length cap34) 31 P.length 32 (hcs P)) ∧ (Own h' (.slice ad36 P.length cap37) 31 P.length 32 (hcs P)) ∧ (Own h' (.slice ad7 n cap8) 5 n 1 (b.map bv)) ∧ (Sep h.size h'.size [ad36.map (·.block),ad33.map (·.block),ad7.map (·.block)]) ∧ (Fr a 123 [(0,.slice va n vc),(6,.slice ad7 n cap8),(11,.slice ad33 P.length cap34),(13,.slice ad36 P.length cap37),(15,.int .i64 ((t : Nat) : Int))])) (P.length - 0) [1,1,1,1,1,1,1,1,1,1,0,1,0,0] (by kernel_rfl) ⟨0,rfl,e0,kt,(by omega),own_p,own_q,own_w,sep,hF⟩ ?_
  clear hF a
  clear e0
  clear kt
  clear own_p
  clear own_q
  clear own_w
  clear sep
  rintro m a h39 ⟨t,rfl,e0,kt,ht,own_p,own_q,own_w,sep,hF⟩
  refine cS ?_
  refine cS ?_
  refine cP 22 hF ?_
  refine sP 4 [nV t,.slice ad33 P.length cap34,nV P.length,.bool (decide (((t : Nat) : Int) < ((P.length : Nat) : Int)))] ?_
  refine sD [(0,.slice va n vc),(6,.slice ad7 n cap8),(11,.slice ad33 P.length cap34),(13,.slice ad36 P.length cap37),(15,nV t),(106,.bool (decide (((t : Nat) : Int) < ((P.length : Nat) : Int))))] ?_
  clear hF a; intro a hF
  refine tK ?_
  refine cC 106 (decide (((t : Nat) : Int) < ((P.length : Nat) : Int))) hF (fun hc40 => ?_) (fun hc40 => ?_)
  ·skip
   replace hc40 := of_decide_eq_true hc40
   have htP : t < P.length := by omega
   obtain ⟨ap,rfl,_⟩ := own_p.someA (by omega)
   have hrp := HR.of own_p h32P
   obtain ⟨aq,rfl,_⟩ := own_q.someA (by omega)
   have hrq := HR.of own_q h32P
   refine cN ?_
   refine tK ?_
   refine cS ?_
   refine cB 5 ?_
   refine cS ?_
   refine cD [0,0,3,7,0,0,48,112,255] 24 mixed hF ?_
   refine mP 3 [0,1] [.slice (some ap) P.length cap34,nV t] ?_
   refine mF 7 2 (.pointer (some (Addr.add ap (t * 32)))) (Calm.indexA (a := ap) (len := P.length) (sz := 32) (k := ((t : Nat) : Int)) t (t * 32) (by kernel_rfl) rfl (by omega) (by omega)) ?_
   refine mL 15 8 3 (.agg ((P.getD t []).map bv).toArray) (Calm.load (T := 31) (p := (Addr.add ap (t * 32))) (by kernel_rfl) (HR.loads (k := t) (q := t * 32) (HR.of own_p h32P) (by kernel_rfl) (by omega) (by omega))) ?_
   refine mP 63 [4,5] [.slice (some aq) P.length cap37,nV t] ?_
   refine mF 127 6 (.pointer (some (Addr.add aq (t * 32)))) (Calm.indexA (a := aq) (len := P.length) (sz := 32) (k := ((t : Nat) : Int)) t (t * 32) (by kernel_rfl) rfl (by omega) (by omega)) ?_
   refine mL 255 136 7 (.agg ((P.getD t []).map bv).toArray) (Calm.load (T := 31) (p := (Addr.add aq (t * 32))) (by kernel_rfl) (HR.loads (k := t) (q := t * 32) (HR.of own_q h32P) (by kernel_rfl) (by omega) (by omega))) ?_
   refine mF 511 8 (.bool false) (eqHT (q := false) (l := (P.getD t [])) (r := (P.getD t [])) (n := 32) (by kernel_rfl) (hrq.2.1.get (k := t) (by rw [hrq.2.2]; omega)) (hrq.2.1.get (k := t) (by rw [hrq.2.2]; omega)) rfl) ?_
   refine mD [(0,.slice va n vc),(6,.slice ad7 n cap8),(11,.slice (some ap) P.length cap34),(13,.slice (some aq) P.length cap37),(15,nV t),(117,.bool false)] ?_
   clear hF a; intro a hF
   refine tK ?_
   refine cF 117 hF ?_
   refine cN ?_
   show C Tryd.prog (sub b3 [1,1,1,1,1,1,1,1,1,1,0,1,0,0,1,1]) _ a h39
   refine cP 23 hF ?_
   refine sP 1 [nV t] ?_
   refine s1 2 (.int .i64 ((t + 1 : Nat) : Int)) (.int .i64 (IntKind.i64.wrap (((t : Nat) : Int) + 1))) (congrArg (Value.int .i64) (w64' (by omega) (by omega) (by omega))) ?_
   refine sP 3 [nV (t + 1)] ?_
   refine sD [(0,.slice va n vc),(6,.slice ad7 n cap8),(11,.slice (some ap) P.length cap34),(13,.slice (some aq) P.length cap37),(15,nV (t + 1))] ?_
   clear hF a; intro a hF
   show ∃ m',m' < _ ∧ _
   refine ⟨_,?_,(t + 1),rfl,e0,kt,(by omega),own_p,own_q,own_w,sep,hF⟩
   omega
  ·skip
   replace hc40 := of_decide_eq_false hc40
   refine cX 4 ?_
   show C Tryd.prog (sub b3 [1,1,1,1,1,1,1,1,1,1,1]) _ a h39
   refine cS ?_
   refine cP 26 hF ?_
   refine sP 1 [.slice ad7 n cap8] ?_
   refine SeqK.eff (k' := 2) (Does.call (f := 12) (args := #[.slice ad7 n cap8]) (by kernel_rfl) (root7_n _ b n hbn _ _ own_w.row (by omega) N hN kt)) rfl ?_
   rintro _ h41 ⟨rfl,g⟩
   replace e0 := e0.ext g
   replace kt := kt.ext g
   replace own_p := own_p.ext g
   replace own_q := own_q.ext g
   replace own_w := own_w.ext g
   replace sep := sep.up g.size
   clear g
   refine sP 3 [.slice va n vc] ?_
   refine SeqK.eff (k' := 4) (Does.call (f := 13) (args := #[.slice va n vc]) (by kernel_rfl) (rroot7_sat _ b n hbn _ _ (hr.ext e0) (by omega) N hN)) rfl ?_
   rintro _ h42 ⟨rfl,g⟩
   replace e0 := e0.ext g
   replace kt := kt.ext g
   replace own_p := own_p.ext g
   replace own_q := own_q.ext g
   replace own_w := own_w.ext g
   replace sep := sep.up g.size
   clear g
   refine sC 5 (.bool true) ((eqHT (q := true) (l := root (lch b N)) (r := root (lch b N)) (n := 32) (by kernel_rfl) (root_len (lch_32 _ _)) (root_len (lch_32 _ _)) rfl) _) ?_
   refine sP 6 [.bool true] ?_
   refine sD [(4,.bool true)] ?_
   clear hF a; intro a hF
   refine tK ?_
   refine cR ?_
   show retK Tryd.prog Tryd.f3 (fun v h' => v = .bool true ∧ Ext h h') .ret a h42
   refine ret_ok [.tmp 4] [.bool true] (.bool true) rfl hF ⟨rfl,trivial⟩ rfl ?_
   exact ⟨rfl,e0⟩
theorem cuts7_all (h : Heap) (b : List UInt8) (va : Option Addr) (vc : Nat) (hr : Row h (.slice va b.length vc) b.length 1 (b.map bv)) (hbl : b.length ≤ 1048576) (mi : Int) (kt : Ktab h) : Sat Tryd.prog 3 #[.slice va b.length vc,.int .i64 mi] h fun v h' => v = .bool true ∧ Ext h h' := cuts7_sat h b b.length rfl va vc hr hbl _ rfl mi kt
end Go.Proofs.YtkjlafiefgbjpaaDoor
