/- Walks of chunks: what each function computes, as a law of its calls. No condition but those that each theorem names. -/
import Derived.Test.YtkjlafiefgbjpaaDoorChkMath
import Derived.Test.YtkjlafiefgbjpaaDoorTreeH
namespace Go.Proofs.YtkjlafiefgbjpaaDoor
open Go Go.Lane Go.Sha
noncomputable def b8 : Code := Tryd.f8.body.getD .skip
set_option maxHeartbeats 1000000 in
theorem split7_sat (h : Heap) (b : List UInt8) (va : Option Addr) (vc : Nat) (hr : Row h (.slice va b.length vc) b.length 1 (b.map bv)) (hbl : b.length ≤ 1099511627000) : Sat Tryd.prog 8 #[.slice va b.length vc] h fun v h' => SplitR h h' 22 5 v b := by
 have hnl := nch_le b.length
 have e0 := Ext.refl h
 have sep : Sep h.size h.size [] := Sep.nil _ _
 refine sat_of (args := [.slice va b.length vc]) (fn := Tryd.f8) (B := b8) (n := 30) (L := [(0,.slice va b.length vc)]) Tryd.func8 rfl (by kernel_rfl) rfl ?_
 intro a hF
 refine cS ?_
 refine cP 0 hF ?_
 refine sP 1 [.slice none 0 0] ?_
 refine sD [(0,.slice va b.length vc)] ?_
 clear hF a; intro a hF
 refine tK ?_
 refine cS ?_
 refine cP 1 hF ?_
 refine SeqK.eff (k' := 1) (Does.new (v := .slice (some ⟨h.size,0,none⟩) 0 0) (o := .cells #[] 5) (by kernel_rfl)) rfl ?_
 rintro _ h1 ⟨rfl,hh⟩
 have g2 : Ext h h1 := push_ext hh
 have m3 : h1[h.size]? = some (.cells #[] 5) := push_at hh
 clear hh
 have lt4 := blk_lt m3
 have zs5 := e0.size
 have hlo := e0.size
 have sepo := sep
 replace e0 := e0.ext g2
 replace sep := sep.up g2.size
 replace sep := sepo.new hlo (blk_lt m3)
 clear sepo hlo
 have own_d : Own h1 (.slice (some ⟨h.size,0,none⟩) 0 0) 5 ([] : List UInt8).length 1 (([] : List UInt8).map bv) := Own.empty 1 m3
 replace sep : Sep h.size h1.size [(some ⟨h.size,0,none⟩ : Option Addr).map (·.block)] := sep
 clear m3 lt4 zs5
 refine sP 2 [.slice va b.length vc] ?_
 refine SeqK.eff (k' := 3) (Does.append2 (t := 22) (E := 5) (sz := 1) (by_ := 1) (n := 0) (m := b.length) (v := .slice (some ⟨h.size,0,none⟩) 0 0) (x := .slice va b.length vc) (xs := (([]).map bv)) (ys := (b.map bv)) (by kernel_rfl) (by kernel_rfl) own_d (hr.ext e0) (ones_map _) (by unfold maxLen; simp; omega) (by simp; omega)) rfl ?_
 rintro _ h8 ⟨ad6,cap7,rfl,ownx,g,hb⟩
 rw [blkOf_slice] at g hb
 have hlo := e0.size
 have sepo := sep
 replace e0 := e0.grew g (sep.low 0 rfl)
 replace sep := sep.up g.size
 replace sep : Sep h.size h8.size [ad6.map (·.block)] := sepo.set g.size hlo 0 (y := ad6.map (fun (x : Addr) => x.block)) rfl (hb.imp id fun e => .inr ⟨_,e,Nat.le_refl _⟩) (fun k e => ownx.lt (by rw [blkOf_slice]; exact e))
 replace own_d : Own h8 (.slice ad6 b.length cap7) 5 b.length 1 (b.map bv) := Own.app (L2 := b) ownx (by first | rfl | simp) (by first | rfl | (simp; done) | (simp; omega))
 clear ownx g hb hlo sepo
 refine sP 4 [.slice ad6 (0 + b.length) cap7] ?_
 refine sD [(3,.slice ad6 (0 + b.length) cap7)] ?_
 clear hF a; intro a hF
 have hcan : (0 + b.length : Nat) = b.length := by first | (simp; done) | (simp; omega)
 rw [hcan] at hF; clear hcan
 refine tK ?_
 refine cS ?_
 refine cP 2 hF ?_
 refine sP 1 [.slice none 0 0] ?_
 refine sD [(3,.slice ad6 b.length cap7),(4,.slice none 0 0)] ?_
 clear hF a; intro a hF
 refine tK ?_
 refine cS ?_
 refine cS ?_
 refine cP 3 hF ?_
 refine sP 1 [.int .i64 0] ?_
 refine sD [(3,.slice ad6 b.length cap7),(4,.slice none 0 0),(5,.int .i64 0)] ?_
 clear hF a; intro a hF
 refine tK ?_
 refine cB 0 ?_
 have own_o : Own h8 (.slice none 0 0) 22 0 1 ((sls none b 0)) := Own.nil _ _ _
 replace own_o : Own h8 (.slice none 0 0) 22 0 1 (sls ad6 b 0) := own_o
 have hlo := e0.size
 replace sep := sep.none hlo; clear hlo
 refine C.loop (fun m a h' => ∃ k : Nat,∃ ad : Option Addr,∃ cap : Nat,m = nch b.length - k ∧ (Ext h h') ∧ (k ≤ nch b.length) ∧ (Own h' (.slice ad6 b.length cap7) 5 b.length 1 (b.map bv)) ∧ (Own h' (.slice ad k cap) 22 k 1 (sls ad6 b k)) ∧ (Sep h.size h'.size [ad.map (·.block),ad6.map (·.block)]) ∧ (Fr a 30 [(3,.slice ad6 b.length cap7),(4,.slice ad k cap),(5,.int .i64 ((k * 64 : Nat) : Int))])) (nch b.length - 0) [1,1,1,0,1,0,0] (by kernel_rfl) ⟨0,none,0,rfl,e0,(by omega),own_d,own_o,sep,hF⟩ ?_
 clear hF a
 clear e0
 clear own_d
 clear own_o
 clear sep
 rintro m a h9 ⟨k,ad,cap,rfl,e0,hk,own_d,own_o,sep,hF⟩
 refine cS ?_
 refine cS ?_
 refine cP 4 hF ?_
 refine sP 4 [nV (k * 64),.slice ad6 b.length cap7,nV b.length,.bool (decide (((k * 64 : Nat) : Int) < ((b.length : Nat) : Int)))] ?_
 refine sD [(3,.slice ad6 b.length cap7),(4,.slice ad k cap),(5,nV (k * 64)),(13,.bool (decide (((k * 64 : Nat) : Int) < ((b.length : Nat) : Int))))] ?_
 clear hF a; intro a hF
 refine tK ?_
 refine cC 13 (decide (((k * 64 : Nat) : Int) < ((b.length : Nat) : Int))) hF (fun hc10 => ?_) (fun hc10 => ?_)
 ·skip
  replace hc10 := of_decide_eq_true hc10
  have hkn : k < nch b.length := by unfold nch; omega
  have hdc := own_d.caple
  refine cN ?_
  refine tK ?_
  refine cS ?_
  refine cB 1 ?_
  refine cS ?_
  refine cP 6 hF ?_
  refine sP 3 [.slice ad6 b.length cap7,nV b.length,nV (k * 64)] ?_
  refine s1 4 (.int .i64 (((k * 64) + 64 : Nat) : Int)) (.int .i64 (IntKind.i64.wrap (((k * 64 : Nat) : Int) + 64))) (congrArg (Value.int .i64) (w64' (by omega) (by omega) (by omega))) ?_
  refine s1 5 (.int .i64 ((min b.length ((k * 64) + 64) : Nat) : Int)) (.int .i64 (if (((k * 64) + 64 : Nat) : Int) < ((b.length : Nat) : Int) then (((k * 64) + 64 : Nat) : Int) else ((b.length : Nat) : Int))) (congrArg (Value.int .i64) (by rw [Nat.min_def]; split <;> split <;> omega)) ?_
  refine sP 6 [nV (min b.length ((k * 64) + 64))] ?_
  refine sD [(3,.slice ad6 b.length cap7),(4,.slice ad k cap),(5,nV (k * 64)),(6,nV (min b.length ((k * 64) + 64)))] ?_
  clear hF a; intro a hF
  refine tK ?_
  refine cP 7 hF ?_
  refine sP 5 [.slice ad k cap,.slice ad6 b.length cap7,nV (k * 64),nV (min b.length ((k * 64) + 64)),nV (min b.length ((k * 64) + 64))] ?_
  refine sC 6 (.slice (cad ad6 k) ((ck b k).length) ((ck b k).length)) ((fun h => Calm.sliceO (a := ad6) (len := b.length) (cap := cap7) (sz := 1) (x := (cad ad6 k)) (k * 64) (min b.length (k * 64 + 64)) (min b.length (k * 64 + 64)) (ck b k).length (ck b k).length (by kernel_rfl) (.inr ⟨rfl,by omega,rfl⟩) (.inr rfl) (.inr rfl) (by omega) (by omega) (by unfold cad; rw [if_neg (by omega),Nat.mul_one]) (by rw [ck_len]; omega) (by rw [ck_len]; omega) h) _) ?_
  refine SeqK.eff (k' := 7) (Does.new (v := .slice (some ⟨h9.size,0,none⟩) 1 1) (o := .cells #[.slice (cad ad6 k) ((ck b k).length) ((ck b k).length)] 22) (by kernel_rfl)) rfl ?_
  rintro _ h11 ⟨rfl,hh⟩
  have g12 : Ext h9 h11 := push_ext hh
  have m13 : h11[h9.size]? = some (.cells #[.slice (cad ad6 k) ((ck b k).length) ((ck b k).length)] 22) := push_at hh
  clear hh
  have lt14 := blk_lt m13
  have zs15 := e0.size
  have hlo := e0.size
  have sepo := sep
  replace e0 := e0.ext g12
  replace own_o := own_o.ext g12
  replace own_d := own_d.ext g12
  replace sep := sep.up g12.size
  replace sep := sepo.new hlo (blk_lt m13)
  clear sepo hlo
  refine SeqK.eff (k' := 8) (Does.append2 (t := 24) (E := 22) (sz := 1) (by_ := 24) (n := k) (m := 1) (v := .slice ad k cap) (x := .slice (some ⟨h9.size,0,none⟩) 1 1) (xs := (sls ad6 b k)) (ys := [csl ad6 b k]) (by kernel_rfl) (by kernel_rfl) own_o (Row.blk (n := 1) (sz := 1) (l := [csl ad6 b k]) m13 rfl) (List.all_eq_true.1 (by rfl)) (by unfold maxLen; omega) (by omega)) rfl ?_
  rintro _ h18 ⟨ad16,cap17,rfl,ownx,g,hb⟩
  rw [blkOf_slice] at g hb
  have hlo := e0.size
  have sepo := sep
  replace e0 := e0.grew g (sep.low 1 rfl)
  replace own_d := own_d.kept g (by rw [blkOf_slice]; exact (sep.ap 2 1))
  replace m13 := Grew.blk g m13 ((sep.bp 0 1))
  replace sep := sep.up g.size
  replace sep : Sep h.size h18.size [some (h9.size),ad16.map (·.block),ad6.map (·.block)] := sepo.set g.size hlo 1 (y := ad16.map (fun (x : Addr) => x.block)) rfl (hb.imp id fun e => .inr ⟨_,e,Nat.le_refl _⟩) (fun k e => ownx.lt (by rw [blkOf_slice]; exact e))
  replace own_o : Own h18 (.slice ad16 (k + 1) cap17) 22 (k + 1) 1 (sls ad6 b k ++ [csl ad6 b k]) := Own.appG ownx (by first | rfl | simp) (by first | rfl | (simp; done) | (simp; omega))
  clear ownx g hb hlo sepo
  refine sP 9 [.slice ad16 (k + 1) cap17] ?_
  refine sD [(3,.slice ad6 b.length cap7),(4,.slice ad16 (k + 1) cap17),(5,nV (k * 64))] ?_
  clear hF a; intro a hF
  have hcan : (k + 1 : Nat) = (k + 1) := by first | (simp; done) | (simp; omega)
  rw [hcan] at hF; clear hcan
  show C Tryd.prog (sub b8 [1,1,1,0,1,0,0,1,1]) _ a h18
  refine cP 5 hF ?_
  refine sP 1 [nV (k * 64)] ?_
  refine s1 2 (.int .i64 (((k * 64) + 64 : Nat) : Int)) (.int .i64 (IntKind.i64.wrap (((k * 64 : Nat) : Int) + 64))) (congrArg (Value.int .i64) (w64' (by omega) (by omega) (by omega))) ?_
  refine sP 3 [nV ((k * 64) + 64)] ?_
  refine sD [(3,.slice ad6 b.length cap7),(4,.slice ad16 (k + 1) cap17),(5,nV ((k * 64) + 64))] ?_
  clear hF a; intro a hF
  rw [sls_next] at own_o
  clear m13 lt14 zs15
  replace sep := sep.sub (l' := [ad16.map (·.block),ad6.map (·.block)]) (.cons _ (.cons_cons _ (.cons_cons _ (.slnil))))
  rw [show k * 64 + 64 = (k + 1) * 64 by omega] at hF
  show ∃ m',m' < _ ∧ _
  refine ⟨_,?_,(k + 1),ad16,cap17,rfl,e0,(by omega),own_d,own_o,sep,hF⟩
  omega
 ·skip
  replace hc10 := of_decide_eq_false hc10
  refine cX 0 ?_
  show C Tryd.prog (sub b8 [1,1,1,1]) _ a h9
  refine cS ?_
  refine cP 8 hF ?_
  refine sP 2 [.slice ad k cap,.slice ad k cap] ?_
  refine sD [(2,.slice ad k cap)] ?_
  clear hF a; intro a hF
  refine tK ?_
  refine cR ?_
  show retK Tryd.prog Tryd.f8 (fun v h' => SplitR h h' 22 5 v b) .ret a h9
  refine ret_ok [.tmp 2] [.slice ad k cap] (.slice ad k cap) rfl hF ⟨rfl,trivial⟩ rfl ?_
  obtain rfl : k = nch b.length := by unfold nch at hk ⊢; omega
  exact ⟨_,_,_,_,rfl,own_o,own_d,sep,e0⟩
noncomputable def b18 : Code := Tryd.f18.body.getD .skip
theorem leaves7_sat (h : Heap) (b : List UInt8) (va : Option Addr) (vc : Nat) (hr : Row h (.slice va b.length vc) b.length 1 (b.map bv)) (hbl : b.length ≤ 1099511627000) (kt : Ktab h) : Sat Tryd.prog 18 #[.slice va b.length vc] h fun v h' => OwnNew h h' 31 v (lch b (nch b.length)) := by
 have hnl := nch_le b.length
 have e0 := Ext.refl h
 have h0s := kt.lt
 have sep : Sep h.size h.size [] := Sep.nil _ _
 refine sat_of (args := [.slice va b.length vc]) (fn := Tryd.f18) (B := b18) (n := 20) (L := [(0,.slice va b.length vc)]) Tryd.func18 rfl (by kernel_rfl) rfl ?_
 intro a hF
 refine cS ?_
 refine cP 0 hF ?_
 refine sP 1 [.slice none 0 0] ?_
 refine sD [(0,.slice va b.length vc)] ?_
 clear hF a; intro a hF
 refine tK ?_
 refine cS ?_
 refine cP 1 hF ?_
 refine sP 1 [.slice none 0 0] ?_
 refine sD [(0,.slice va b.length vc),(3,.slice none 0 0)] ?_
 clear hF a; intro a hF
 refine tK ?_
 refine cS ?_
 refine cS ?_
 refine cP 2 hF ?_
 refine sP 1 [.slice va b.length vc] ?_
 refine SeqK.eff (k' := 2) (Does.call (f := 8) (args := #[.slice va b.length vc]) (by kernel_rfl) (split7_sat _ b _ _ (hr.ext e0) hbl)) rfl ?_
 rintro _ h5 ⟨va1,vc2,dat3,dc4,rfl,ownx,owny,sepn,g⟩
 have hlo := e0.size
 have sepo := sep
 replace e0 := e0.ext g
 replace kt := kt.ext g
 replace sep := sep.up g.size
 replace sep := sepo.app sepn g.size hlo
 have own_x : Own h5 (.slice va1 (nch b.length) vc2) 22 (nch b.length) 1 (sls dat3 b (nch b.length)) := ownx
 have own_xd : Own h5 (.slice dat3 b.length dc4) 5 b.length 1 (b.map bv) := owny
 clear ownx owny sepn sepo hlo g
 refine sP 4 [nV (nch b.length),.int .i64 0] ?_
 refine sD [(3,.slice none 0 0),(7,.slice va1 (nch b.length) vc2),(8,nV (nch b.length)),(9,.int .i64 0)] ?_
 clear hF a; intro a hF
 refine tK ?_
 refine cB 0 ?_
 have own_o : Own h5 (.slice none 0 0) 31 0 32 (hcs (lch b 0)) := Own.nil _ _ _
 have hlo := e0.size
 replace sep := sep.none hlo; clear hlo
 refine C.loop (fun m a h' => ∃ k : Nat,∃ ad : Option Addr,∃ cap : Nat,m = nch b.length - k ∧ (Ext h h') ∧ (Ktab h') ∧ (k ≤ nch b.length) ∧ (Own h' (.slice ad k cap) 31 k 32 (hcs (lch b k))) ∧ (Own h' (.slice va1 (nch b.length) vc2) 22 (nch b.length) 1 (sls dat3 b (nch b.length))) ∧ (Own h' (.slice dat3 b.length dc4) 5 b.length 1 (b.map bv)) ∧ (Sep h.size h'.size [ad.map (·.block),va1.map (·.block),dat3.map (·.block)]) ∧ (Fr a 20 [(3,.slice ad k cap),(7,.slice va1 (nch b.length) vc2),(8,.int .i64 ((nch b.length : Nat) : Int)),(9,.int .i64 ((k : Nat) : Int))])) (nch b.length - 0) [1,1,0,1,0,0] (by kernel_rfl) ⟨0,none,0,rfl,e0,kt,(by omega),own_o,own_x,own_xd,sep,hF⟩ ?_
 clear hF a
 clear e0
 clear kt
 clear own_o
 clear own_x
 clear own_xd
 clear sep
 rintro m a h6 ⟨k,ad,cap,rfl,e0,kt,hk,own_o,own_x,own_xd,sep,hF⟩
 refine cS ?_
 refine cP 3 hF ?_
 refine sP 1 [.bool (decide (((k : Nat) : Int) < ((nch b.length : Nat) : Int)))] ?_
 refine sD [(3,.slice ad k cap),(7,.slice va1 (nch b.length) vc2),(8,nV (nch b.length)),(9,nV k),(10,.bool (decide (((k : Nat) : Int) < ((nch b.length : Nat) : Int))))] ?_
 clear hF a; intro a hF
 refine tK ?_
 refine cS ?_
 refine cC 10 (decide (((k : Nat) : Int) < ((nch b.length : Nat) : Int))) hF (fun hc7 => ?_) (fun hc7 => ?_)
 ·skip
  replace hc7 := of_decide_eq_true hc7
  have hkn : k < nch b.length := by omega
  obtain ⟨ax,rfl,_⟩ := own_x.someA (by omega)
  refine cN ?_
  refine tK ?_
  refine cS ?_
  refine cB 1 ?_
  refine cS ?_
  refine cP 4 hF ?_
  refine sC 1 (.pointer (some (Addr.add ax k))) ((Calm.indexA (a := ax) (len := nch b.length) (sz := 1) (k := ((k : Nat) : Int)) k k (by kernel_rfl) rfl (by omega) (by omega)) _) ?_
  refine sC 2 (.slice (cad dat3 k) ((ck b k).length) ((ck b k).length)) (Calm.load (T := 22) (p := (Addr.add ax k)) (by kernel_rfl) (Loads.one (k := 1) (by kernel_rfl) (sls_cell (i := k) own_x rfl (by omega)))) ?_
  refine sP 3 [.slice (cad dat3 k) ((ck b k).length) ((ck b k).length)] ?_
  refine sD [(3,.slice ad k cap),(5,.slice (cad dat3 k) ((ck b k).length) ((ck b k).length)),(7,.slice (some ax) (nch b.length) vc2),(8,nV (nch b.length)),(9,nV k)] ?_
  clear hF a; intro a hF
  refine tK ?_
  refine cP 5 hF ?_
  refine sP 2 [.slice ad k cap,.slice (cad dat3 k) ((ck b k).length) ((ck b k).length)] ?_
  refine SeqK.eff (k' := 3) (Does.call (f := 24) (args := #[.slice (cad dat3 k) ((ck b k).length) ((ck b k).length)]) (by kernel_rfl) (leaf_sat _ (ck b k) (cad dat3 k) ((ck b k).length) (ck_row own_xd.row hkn) (.inr fun k2 e => csl_lt (b := b) (i := k) own_xd e) kt (by rw [ck_len]; omega))) rfl ?_
  rintro _ h8 ⟨rfl,g⟩
  replace e0 := e0.ext g
  replace kt := kt.ext g
  replace own_o := own_o.ext g
  replace own_x := own_x.ext g
  replace own_xd := own_xd.ext g
  replace sep := sep.up g.size
  clear g
  refine SeqK.eff (k' := 4) (Does.newHs (L := [leafH (ck b k)]) (t := 26) (E := 31) (by_ := 32) (n := 1) (by kernel_rfl) (by kernel_rfl) (All32.cons (leaf_len _) All32.nil) rfl (by decide) (by decide)) rfl ?_
  rintro _ h9 ⟨rfl,hh⟩
  have g10 : Ext h8 h9 := push_ext hh
  have m11 : h9[h8.size]? = some (.cells (hcs [leafH (ck b k)]).toArray 31) := push_at hh
  clear hh
  have lt12 := blk_lt m11
  have zs13 := e0.size
  have hlo := e0.size
  have sepo := sep
  replace e0 := e0.ext g10
  replace kt := kt.ext g10
  replace own_o := own_o.ext g10
  replace own_x := own_x.ext g10
  replace own_xd := own_xd.ext g10
  replace sep := sep.up g10.size
  replace sep := sepo.new hlo (blk_lt m11)
  clear sepo hlo
  refine SeqK.eff (k' := 5) (Does.append2 (t := 26) (E := 31) (sz := 32) (by_ := 32) (n := k) (m := 1) (v := .slice ad k cap) (x := .slice (some ⟨h8.size,0,none⟩) 1 1) (xs := (hcs (lch b k))) (ys := (hcs ([leafH (ck b k)]))) (by kernel_rfl) (by kernel_rfl) own_o (hrow1 (leaf_len _) m11) (ones_hcs _) (by unfold maxLen; omega) (by omega)) rfl ?_
  rintro _ h16 ⟨ad14,cap15,rfl,ownx,g,hb⟩
  rw [blkOf_slice] at g hb
  have hlo := e0.size
  have sepo := sep
  replace e0 := e0.grew g (sep.low 1 rfl)
  replace kt := kt.grew g (sep.zero 1 rfl h0s)
  replace own_x := own_x.kept g (by rw [blkOf_slice]; exact (sep.ap 2 1))
  replace own_xd := own_xd.kept g (by rw [blkOf_slice]; exact (sep.ap 3 1))
  replace m11 := Grew.blk g m11 ((sep.bp 0 1))
  replace sep := sep.up g.size
  replace sep : Sep h.size h16.size [some (h8.size),ad14.map (·.block),(some ax).map (·.block),dat3.map (·.block)] := sepo.set g.size hlo 1 (y := ad14.map (fun (x : Addr) => x.block)) rfl (hb.imp id fun e => .inr ⟨_,e,Nat.le_refl _⟩) (fun k e => ownx.lt (by rw [blkOf_slice]; exact e))
  replace own_o : Own h16 (.slice ad14 (k + 1) cap15) 31 (k + 1) 32 (hcs (lch b k ++ [leafH (ck b k)])) := Own.appG ownx (by first | rfl | exact (hcs_append _ _).symm | simp [hcs_append]) (by first | rfl | (simp; done) | (simp; omega))
  clear ownx g hb hlo sepo
  refine sP 6 [.slice ad14 (k + 1) cap15] ?_
  refine sD [(3,.slice ad14 (k + 1) cap15),(7,.slice (some ax) (nch b.length) vc2),(8,nV (nch b.length)),(9,nV k)] ?_
  clear hF a; intro a hF
  show C Tryd.prog (sub b18 [1,1,0,1,0,0,1,1,1]) _ a h16
  refine cP 6 hF ?_
  refine s1 1 (.int .i64 ((k + 1 : Nat) : Int)) (.int .i64 (IntKind.i64.wrap (((k : Nat) : Int) + 1))) (congrArg (Value.int .i64) (w64' (by omega) (by omega) (by omega))) ?_
  refine sP 2 [nV (k + 1)] ?_
  refine sD [(3,.slice ad14 (k + 1) cap15),(7,.slice (some ax) (nch b.length) vc2),(8,nV (nch b.length)),(9,nV (k + 1))] ?_
  clear hF a; intro a hF
  rw [lch_next] at own_o
  clear m11 lt12 zs13
  replace sep := sep.sub (l' := [ad14.map (·.block),(some ax).map (·.block),dat3.map (·.block)]) (.cons _ (.cons_cons _ (.cons_cons _ (.cons_cons _ (.slnil)))))
  show ∃ m',m' < _ ∧ _
  refine ⟨_,?_,(k + 1),ad14,cap15,rfl,e0,kt,(by omega),own_o,own_x,own_xd,sep,hF⟩
  omega
 ·skip
  replace hc7 := of_decide_eq_false hc7
  refine cX 0 ?_
  show C Tryd.prog (sub b18 [1,1,1]) _ a h6
  refine cS ?_
  refine cP 7 hF ?_
  refine sP 2 [.slice ad k cap,.slice ad k cap] ?_
  refine sD [(2,.slice ad k cap)] ?_
  clear hF a; intro a hF
  refine tK ?_
  refine cR ?_
  show retK Tryd.prog Tryd.f18 (fun v h' => OwnNew h h' 31 v (lch b (nch b.length))) .ret a h6
  refine ret_ok [.tmp 2] [.slice ad k cap] (.slice ad k cap) rfl hF ⟨rfl,trivial⟩ rfl ?_
  obtain rfl : k = nch b.length := by omega
  exact ⟨ad,cap,by rw [lch_len],by rw [lch_len]; exact own_o,sep.low 0 rfl,e0⟩
theorem leaves7_n (h : Heap) (b : List UInt8) (va : Option Addr) (vc : Nat) (hr : Row h (.slice va b.length vc) b.length 1 (b.map bv)) (hbl : b.length ≤ 1099511627000) (kt : Ktab h) (H : List Hs) (hH : lch b (nch b.length) = H) : Sat Tryd.prog 18 #[.slice va b.length vc] h fun v h' => ∃ ad cap,v = .slice ad H.length cap ∧ Own h' (.slice ad H.length cap) 31 H.length 32 (hcs H) ∧ (∀ k,ad.map (fun (x : Addr) => x.block) = some k → h.size ≤ k) ∧ Ext h h' := by
 have := leaves7_sat h b va vc hr hbl kt
 unfold OwnNew at this
 rwa [hH] at this
end Go.Proofs.YtkjlafiefgbjpaaDoor
