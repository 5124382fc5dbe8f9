/- Walks of chunks: what each function computes, as a law of its calls. No condition but those that each theorem names. -/
import Derived.Test.YtkjlafiefgbjpaaDoorChkCut
import Derived.Test.YtkjlafiefgbjpaaDoorTreeF
namespace Go.Proofs.YtkjlafiefgbjpaaDoor
open Go Go.Lane Go.Sha
noncomputable def b9 : Code := Tryd.f9.body.getD .skip
set_option maxHeartbeats 1000000 in
theorem rsplit7_sat (h : Heap) (b : List UInt8) (n : Nat) (hbn : b.length = n) (va : Option Addr) (vc : Nat) (hr : Row h (.slice va n vc) n 1 (b.map bv)) (hbl : n ≤ 1099511627000) (N : Nat) (hN : nch n = N) : Sat Tryd.prog 9 #[.slice va n vc] h fun v h' => RSplitN h h' 22 v b N := by
 have hNn : N ≤ n := hN ▸ nch_le n
 have hnc := hr.caple
 have e0 := Ext.refl h
 have sep : Sep h.size h.size [] := Sep.nil _ _
 refine sat_of (args := [.slice va n vc]) (fn := Tryd.f9) (B := b9) (n := 26) (L := [(0,.slice va n vc)]) Tryd.func9 rfl (by kernel_rfl) rfl ?_
 intro a hF
 refine cS ?_
 refine cP 0 hF ?_
 refine sP 1 [.slice none 0 0] ?_
 refine sD [(0,.slice va n vc)] ?_
 clear hF a; intro a hF
 refine tK ?_
 refine cS ?_
 refine cP 1 hF ?_
 refine SeqK.eff (k' := 1) (Does.new (v := .slice (some ⟨h.size,0,none⟩) 0 0) (o := .cells #[] 22) (by kernel_rfl)) rfl ?_
 rintro _ h1 ⟨rfl,hh⟩
 have g2 : Ext h h1 := push_ext hh
 have m3 : h1[h.size]? = some (.cells #[] 22) := push_at hh
 clear hh
 have lt4 := blk_lt m3
 have zs5 := e0.size
 have hlo := e0.size
 have sepo := sep
 replace e0 := e0.ext g2
 replace sep := sep.up g2.size
 replace sep := sepo.new hlo (blk_lt m3)
 clear sepo hlo
 have own_o : Own h1 (.slice (some ⟨h.size,0,none⟩) 0 0) 22 ([] : List UInt8).length 1 ([] : List Value) := Own.empty 1 m3
 replace sep : Sep h.size h1.size [(some ⟨h.size,0,none⟩ : Option Addr).map (·.block)] := sep
 clear m3 lt4 zs5
 refine sP 2 [.slice (some ⟨h.size,0,none⟩) 0 0] ?_
 refine sD [(0,.slice va n vc),(3,.slice (some ⟨h.size,0,none⟩) 0 0)] ?_
 clear hF a; intro a hF
 refine tK ?_
 refine cS ?_
 refine cS ?_
 refine cP 2 hF ?_
 refine sP 1 [.int .i64 0] ?_
 refine sD [(0,.slice va n vc),(3,.slice (some ⟨h.size,0,none⟩) 0 0),(4,.int .i64 0)] ?_
 clear hF a; intro a hF
 refine tK ?_
 refine cB 0 ?_
 have rc := RC.nil h.size ((some ⟨h.size,0,none⟩).map (fun (x : Addr) => x.block)) h1 b
 refine C.loop (fun m a h' => ∃ k : Nat,∃ ys : List Value,∃ ad : Option Addr,∃ cap : Nat,m = N - k ∧ (Ext h h') ∧ (k ≤ N) ∧ (Own h' (.slice ad k cap) 22 k 1 ys) ∧ (RC h.size h'.size (ad.map (fun (x : Addr) => x.block)) h' ys b k) ∧ (Sep h.size h'.size [ad.map (·.block)]) ∧ (Fr a 26 [(0,.slice va n vc),(3,.slice ad k cap),(4,.int .i64 ((k * 64 : Nat) : Int))])) (N - 0) [1,1,0,1,0,0] (by kernel_rfl) ⟨0,[],(some ⟨h.size,0,none⟩),0,rfl,e0,(by omega),own_o,rc,sep,hF⟩ ?_
 clear hF a
 clear e0
 clear own_o
 clear rc
 clear sep
 rintro m a h6 ⟨k,ys,ad,cap,rfl,e0,hk,own_o,rc,sep,hF⟩
 have g0 := Ext.refl h6
 refine cS ?_
 refine cS ?_
 refine cP 3 hF ?_
 refine sP 4 [nV (k * 64),.slice va n vc,nV n,.bool (decide (((k * 64 : Nat) : Int) < ((n : Nat) : Int)))] ?_
 refine sD [(0,.slice va n vc),(3,.slice ad k cap),(4,nV (k * 64)),(9,.bool (decide (((k * 64 : Nat) : Int) < ((n : Nat) : Int))))] ?_
 clear hF a; intro a hF
 refine tK ?_
 refine cC 9 (decide (((k * 64 : Nat) : Int) < ((n : Nat) : Int))) hF (fun hc7 => ?_) (fun hc7 => ?_)
 ·skip
  replace hc7 := of_decide_eq_true hc7
  have hkN : k < N := by rw [← hN]; unfold nch; omega
  have hck := ck_len b k; rw [hbn] at hck
  have hcp : 0 < (ck b k).length := by omega
  refine cN ?_
  refine tK ?_
  refine cS ?_
  refine cB 1 ?_
  refine cP 5 hF ?_
  refine sP 1 [.slice ad k cap] ?_
  have gs0 := g0.size
  refine SeqK.eff (k' := 2) (Does.new (v := .slice (some ⟨h6.size,0,none⟩) 0 0) (o := .cells #[] 5) (by kernel_rfl)) rfl ?_
  rintro _ h8 ⟨rfl,hh⟩
  have g9 : Ext h6 h8 := push_ext hh
  have m10 : h8[h6.size]? = some (.cells #[] 5) := push_at hh
  clear hh
  have lt11 := blk_lt m10
  have zs12 := e0.size
  have zs13 := g0.1
  have hlo := e0.size
  have sepo := sep
  replace e0 := e0.ext g9
  replace own_o := own_o.ext g9
  replace g0 := g0.ext g9
  replace rc := rc.ext g9
  replace sep := sep.up g9.size
  replace sep := sepo.new hlo (blk_lt m10)
  clear sepo hlo
  have hop_t : (some ⟨h6.size,0,none⟩ : Option Addr).map (fun (x : Addr) => x.block) = none ∨ ∃ g,(some ⟨h6.size,0,none⟩ : Option Addr).map (fun (x : Addr) => x.block) = some g ∧ h6.size ≤ g := .inr ⟨_,rfl,gs0⟩; clear gs0
  have own_t : Own h8 (.slice (some ⟨h6.size,0,none⟩) 0 0) 5 ([] : List UInt8).length 1 (([] : List UInt8).map bv) := Own.empty 1 m10
  replace sep : Sep h.size h8.size [(some ⟨h6.size,0,none⟩ : Option Addr).map (·.block),ad.map (·.block)] := sep
  clear m10 lt11 zs12 zs13
  refine sP 7 [.slice va n vc,nV (k * 64),.slice va n vc,nV n,nV (k * 64)] ?_
  refine s1 8 (.int .i64 (((k * 64) + 64 : Nat) : Int)) (.int .i64 (IntKind.i64.wrap (((k * 64 : Nat) : Int) + 64))) (congrArg (Value.int .i64) (w64' (by omega) (by omega) (by omega))) ?_
  refine s1 9 (.int .i64 ((min n ((k * 64) + 64) : Nat) : Int)) (.int .i64 (if (((k * 64) + 64 : Nat) : Int) < ((n : Nat) : Int) then (((k * 64) + 64 : Nat) : Int) else ((n : Nat) : Int))) (congrArg (Value.int .i64) (by rw [Nat.min_def]; split <;> split <;> omega)) ?_
  refine sC 10 (.slice (cad va k) ((ck b k).length) (vc - k * 64)) ((fun h => Calm.sliceO (a := va) (len := n) (cap := vc) (sz := 1) (x := cad va k) (k * 64) (min n (k * 64 + 64)) vc ((ck b k).length) (vc - k * 64) (by kernel_rfl) (.inl ⟨rfl,rfl⟩) (.inr rfl) (.inr rfl) (by omega) (by omega) (by unfold cad; rw [if_neg (by omega),Nat.mul_one]) (by omega) (by rfl) h) _) ?_
  refine SeqK.eff (k' := 11) (Does.append2 (t := 22) (E := 5) (sz := 1) (by_ := 1) (n := 0) (m := (ck b k).length) (v := .slice (some ⟨h6.size,0,none⟩) 0 0) (x := .slice (cad va k) ((ck b k).length) (vc - k * 64)) (xs := (([]).map bv)) (ys := ((ck b k).map bv)) (by kernel_rfl) (by kernel_rfl) own_t (ck_rowC (hr.ext e0) hbn (by omega) rfl (by omega)) (ones_map _) (by unfold maxLen; simp; omega) (by simp; omega)) rfl ?_
  rintro _ h16 ⟨ad14,cap15,rfl,ownx,g,hb⟩
  rw [blkOf_slice] at g hb
  have hlo := e0.size
  have sepo := sep
  have hop_n := grown hop_t hb g0.1
  replace e0 := e0.grew g (sep.low 0 rfl)
  replace own_o := own_o.kept g (by rw [blkOf_slice]; exact (sep.ap 1 0))
  replace g0 := g0.grew g (hop_ge hop_t)
  replace rc := rc.grew g (fun j e => .inl (hop_ge hop_t j e))
  replace sep := sep.up g.size
  replace sep : Sep h.size h16.size [ad14.map (·.block),ad.map (·.block)] := sepo.set g.size hlo 0 (y := ad14.map (fun (x : Addr) => x.block)) rfl (hb.imp id fun e => .inr ⟨_,e,Nat.le_refl _⟩) (fun k e => ownx.lt (by rw [blkOf_slice]; exact e))
  replace own_t : Own h16 (.slice ad14 ((ck b k).length) cap15) 5 ((ck b k).length) 1 ((ck b k).map bv) := Own.app (L2 := (ck b k)) ownx (by first | rfl | simp) (by first | rfl | (simp; done) | (simp; omega))
  replace hop_t := hop_n; clear hop_n
  clear ownx g hb hlo sepo
  refine SeqK.eff (k' := 12) (Does.new (v := .slice (some ⟨h16.size,0,none⟩) 1 1) (o := .cells #[.slice ad14 (0 + ((ck b k).length)) cap15] 22) (by kernel_rfl)) rfl ?_
  rintro _ h17 ⟨rfl,hh⟩
  have g18 : Ext h16 h17 := push_ext hh
  have m19 : h17[h16.size]? = some (.cells #[.slice ad14 (0 + ((ck b k).length)) cap15] 22) := push_at hh
  clear hh
  have lt20 := blk_lt m19
  have zs21 := e0.size
  have zs22 := g0.1
  have hlo := e0.size
  have sepo := sep
  replace e0 := e0.ext g18
  replace own_o := own_o.ext g18
  replace g0 := g0.ext g18
  replace rc := rc.ext g18
  replace own_t := own_t.ext g18
  replace sep := sep.up g18.size
  replace sep := sepo.new hlo (blk_lt m19)
  clear sepo hlo
  refine SeqK.eff (k' := 13) (Does.append2 (t := 24) (E := 22) (sz := 1) (by_ := 24) (n := k) (m := 1) (v := .slice ad k cap) (x := .slice (some ⟨h16.size,0,none⟩) 1 1) (xs := ys) (ys := [.slice ad14 (0 + ((ck b k).length)) cap15]) (by kernel_rfl) (by kernel_rfl) own_o (Row.blk (n := 1) (sz := 1) (l := [.slice ad14 (0 + ((ck b k).length)) cap15]) m19 rfl) (List.all_eq_true.1 (by rfl)) (by unfold maxLen; omega) (by omega)) rfl ?_
  rintro _ h25 ⟨ad23,cap24,rfl,ownx,g,hb⟩
  rw [blkOf_slice] at g hb
  have hlo := e0.size
  have sepo := sep
  replace e0 := e0.grew g (sep.low 2 rfl)
  clear g0
  replace rc := rc.out g hb
  replace own_t := own_t.kept g (by rw [blkOf_slice]; exact (sep.ap 1 2))
  replace m19 := Grew.blk g m19 ((sep.bp 0 2))
  replace sep := sep.up g.size
  replace sep : Sep h.size h25.size [some (h16.size),ad14.map (·.block),ad23.map (·.block)] := sepo.set g.size hlo 2 (y := ad23.map (fun (x : Addr) => x.block)) rfl (hb.imp id fun e => .inr ⟨_,e,Nat.le_refl _⟩) (fun k e => ownx.lt (by rw [blkOf_slice]; exact e))
  replace own_o : Own h25 (.slice ad23 (k + 1) cap24) 22 (k + 1) 1 (ys ++ [.slice ad14 (0 + ((ck b k).length)) cap15]) := Own.appG ownx (by first | rfl | simp) (by first | rfl | (simp; done) | (simp; omega))
  clear ownx g hb hlo sepo
  refine sP 14 [.slice ad23 (k + 1) cap24] ?_
  refine sD [(0,.slice va n vc),(3,.slice ad23 (k + 1) cap24),(4,nV (k * 64))] ?_
  clear hF a; intro a hF
  have hcan : (k + 1 : Nat) = (k + 1) := by first | (simp; done) | (simp; omega)
  rw [hcan] at hF; clear hcan
  show C Tryd.prog (sub b9 [1,1,0,1,0,0,1,1]) _ a h25
  refine cP 4 hF ?_
  refine sP 1 [nV (k * 64)] ?_
  refine s1 2 (.int .i64 (((k * 64) + 64 : Nat) : Int)) (.int .i64 (IntKind.i64.wrap (((k * 64 : Nat) : Int) + 64))) (congrArg (Value.int .i64) (w64' (by omega) (by omega) (by omega))) ?_
  refine sP 3 [nV ((k * 64) + 64)] ?_
  refine sD [(0,.slice va n vc),(3,.slice ad23 (k + 1) cap24),(4,nV ((k * 64) + 64))] ?_
  clear hF a; intro a hF
  have rc2 := rc.snoc (a := ad14) (m := 0 + ((ck b k).length)) (cap := cap15) (Nat.zero_add _) hcp own_t.row (fun j e => ⟨sep.low 1 rfl j e,own_t.lt (by rw [blkOf_slice]; exact e)⟩) (sep.ap 1 2)
  clear m19 lt20 zs21 zs22
  replace sep := sep.sub (l' := [ad23.map (·.block)]) (.cons _ (.cons _ (.cons_cons _ (.slnil))))
  rw [show k * 64 + 64 = (k + 1) * 64 by omega] at hF
  show ∃ m',m' < _ ∧ _
  refine ⟨_,?_,(k + 1),(ys ++ [.slice ad14 (0 + ((ck b k).length)) cap15]),ad23,cap24,rfl,e0,(by omega),own_o,rc2,sep,hF⟩
  omega
 ·skip
  replace hc7 := of_decide_eq_false hc7
  refine cX 0 ?_
  show C Tryd.prog (sub b9 [1,1,1]) _ a h6
  refine cS ?_
  refine cP 6 hF ?_
  refine sP 2 [.slice ad k cap,.slice ad k cap] ?_
  refine sD [(2,.slice ad k cap)] ?_
  clear hF a; intro a hF
  refine tK ?_
  refine cR ?_
  show retK Tryd.prog Tryd.f9 (fun v h' => RSplitN h h' 22 v b N) .ret a h6
  refine ret_ok [.tmp 2] [.slice ad k cap] (.slice ad k cap) rfl hF ⟨rfl,trivial⟩ rfl ?_
  obtain rfl : k = N := by rw [← hN] at hk ⊢; unfold nch at hk ⊢; omega
  exact ⟨_,_,_,rfl,own_o,rc,sep.low 0 rfl,e0⟩
noncomputable def b20 : Code := Tryd.f20.body.getD .skip
theorem rleaves7_sat (h : Heap) (b : List UInt8) (n : Nat) (hbn : b.length = n) (va : Option Addr) (vc : Nat) (hr : Row h (.slice va n vc) n 1 (b.map bv)) (hbl : n ≤ 1099511627000) (N : Nat) (hN : nch n = N) : Sat Tryd.prog 20 #[.slice va n vc] h fun v h' => OwnNew h h' 31 v (lch b N) := by
 have hNn : N ≤ n := hN ▸ nch_le n
 have e0 := Ext.refl h
 have sep : Sep h.size h.size [] := Sep.nil _ _
 refine sat_of (args := [.slice va n vc]) (fn := Tryd.f20) (B := b20) (n := 24) (L := [(0,.slice va n vc)]) Tryd.func20 rfl (by kernel_rfl) rfl ?_
 intro a hF
 refine cS ?_
 refine cP 0 hF ?_
 refine sP 1 [.slice none 0 0] ?_
 refine sD [(0,.slice va n vc)] ?_
 clear hF a; intro a hF
 refine tK ?_
 refine cS ?_
 refine cP 1 hF ?_
 refine sP 1 [.slice va n vc] ?_
 refine SeqK.eff (k' := 2) (Does.call (f := 9) (args := #[.slice va n vc]) (by kernel_rfl) (rsplit7_sat _ b n hbn _ _ (hr.ext e0) (by omega) N hN)) rfl ?_
 rintro _ h4 ⟨va1,vc2,ys3,rfl,ownx,rc,hge,g⟩
 have hlo := e0.size
 have sepo := sep
 replace e0 := e0.ext g
 replace sep := sep.up g.size
 replace sep := sepo.cons (x := va1.map (fun (x : Addr) => x.block)) g.size hlo (fun k e => ⟨hge k e,ownx.lt (by rw [blkOf_slice]; exact e)⟩)
 have own_y := ownx; clear ownx sepo hlo hge g
 have g0 := Ext.refl h4
 refine sP 3 [.slice va1 N vc2] ?_
 refine sD [(3,.slice va1 N vc2)] ?_
 clear hF a; intro a hF
 refine tK ?_
 refine cS ?_
 refine cP 2 hF ?_
 have gs0 := g0.size
 refine SeqK.eff (k' := 1) (Does.new (v := .slice (some ⟨h4.size,0,none⟩) 0 0) (o := .cells #[] 31) (by kernel_rfl)) rfl ?_
 rintro _ h5 ⟨rfl,hh⟩
 have g6 : Ext h4 h5 := push_ext hh
 have m7 : h5[h4.size]? = some (.cells #[] 31) := push_at hh
 clear hh
 have lt8 := blk_lt m7
 have zs9 := e0.size
 have zs10 := g0.1
 have hlo := e0.size
 have sepo := sep
 replace e0 := e0.ext g6
 replace own_y := own_y.ext g6
 replace rc := rc.ext g6
 replace g0 := g0.ext g6
 replace sep := sep.up g6.size
 replace sep := sepo.new hlo (blk_lt m7)
 clear sepo hlo
 have hop_o : (some ⟨h4.size,0,none⟩ : Option Addr).map (fun (x : Addr) => x.block) = none ∨ ∃ g,(some ⟨h4.size,0,none⟩ : Option Addr).map (fun (x : Addr) => x.block) = some g ∧ h4.size ≤ g := .inr ⟨_,rfl,gs0⟩; clear gs0
 have own_o : Own h5 (.slice (some ⟨h4.size,0,none⟩) 0 0) 31 ([] : List UInt8).length 32 (hcs []) := Own.empty 32 m7
 replace sep : Sep h.size h5.size [(some ⟨h4.size,0,none⟩ : Option Addr).map (·.block),va1.map (·.block)] := sep
 clear m7 lt8 zs9 zs10
 refine sP 2 [.slice (some ⟨h4.size,0,none⟩) 0 0] ?_
 refine sD [(3,.slice va1 N vc2),(4,.slice (some ⟨h4.size,0,none⟩) 0 0)] ?_
 clear hF a; intro a hF
 refine tK ?_
 refine cS ?_
 refine cS ?_
 refine cP 3 hF ?_
 refine sP 1 [.int .i64 0] ?_
 refine sD [(3,.slice va1 N vc2),(4,.slice (some ⟨h4.size,0,none⟩) 0 0),(5,.int .i64 0)] ?_
 clear hF a; intro a hF
 refine tK ?_
 refine cB 0 ?_
 have hz : lch b 0 = [] := rfl
 rw [← hz] at own_o
 replace own_o : Own h5 (.slice (some ⟨h4.size,0,none⟩) 0 0) 31 0 32 (hcs (lch b 0)) := own_o
 refine C.loop (fun m a h' => ∃ k : Nat,∃ ad : Option Addr,∃ cap : Nat,m = N - k ∧ (Ext h h') ∧ (k ≤ N) ∧ (Ext h4 h') ∧ (RC h.size h4.size (va1.map (fun (x : Addr) => x.block)) h' ys3 b N) ∧ (ad.map (fun (x : Addr) => x.block) = none ∨ ∃ g,ad.map (fun (x : Addr) => x.block) = some g ∧ h4.size ≤ g) ∧ (Own h' (.slice ad k cap) 31 k 32 (hcs (lch b k))) ∧ (Own h' (.slice va1 N vc2) 22 N 1 ys3) ∧ (Sep h.size h'.size [ad.map (·.block),va1.map (·.block)]) ∧ (Fr a 24 [(3,.slice va1 N vc2),(4,.slice ad k cap),(5,.int .i64 ((k : Nat) : Int))])) (N - 0) [1,1,1,0,1,0,0] (by kernel_rfl) ⟨0,(some ⟨h4.size,0,none⟩),0,rfl,e0,(by omega),g0,rc,hop_o,own_o,own_y,sep,hF⟩ ?_
 clear hF a
 clear e0
 clear g0
 clear rc
 clear hop_o
 clear own_o
 clear own_y
 clear sep
 rintro m a h11 ⟨k,ad,cap,rfl,e0,hk,g0,rc,hop_o,own_o,own_y,sep,hF⟩
 refine cS ?_
 refine cS ?_
 refine cP 4 hF ?_
 refine sP 4 [nV k,.slice va1 N vc2,nV N,.bool (decide (((k : Nat) : Int) < ((N : Nat) : Int)))] ?_
 refine sD [(3,.slice va1 N vc2),(4,.slice ad k cap),(5,nV k),(12,.bool (decide (((k : Nat) : Int) < ((N : Nat) : Int))))] ?_
 clear hF a; intro a hF
 refine tK ?_
 refine cC 12 (decide (((k : Nat) : Int) < ((N : Nat) : Int))) hF (fun hc12 => ?_) (fun hc12 => ?_)
 ·skip
  replace hc12 := of_decide_eq_true hc12
  have hkN : k < N := by omega
  have hck := ck_len b k
  obtain ⟨ay,rfl,_⟩ := own_y.someA (by omega)
  obtain ⟨ya,yc,hyi,hyr,_⟩ := rc.at_ k hkN
  refine cN ?_
  refine tK ?_
  refine cS ?_
  refine cB 1 ?_
  refine cP 6 hF ?_
  refine sP 3 [.slice ad k cap,.slice (some ay) N vc2,nV k] ?_
  refine sC 4 (.pointer (some (Addr.add ay k))) ((Calm.indexA (a := ay) (len := N) (sz := 1) (k := ((k : Nat) : Int)) k k (by kernel_rfl) rfl (by omega) (by omega)) _) ?_
  refine sC 5 (.slice (some ya) ((ck b k).length) yc) (Calm.load (T := 22) (p := (Addr.add ay k)) (by kernel_rfl) (Loads.one (k := 1) (by kernel_rfl) (RC.cell own_y hyi))) ?_
  refine SeqK.eff (k' := 6) (Does.call (f := 16) (args := #[.slice (some ya) ((ck b k).length) yc]) (by kernel_rfl) (rleaf_sat _ (ck b k) _ _ hyr (by omega))) rfl ?_
  rintro _ h13 ⟨rfl,g⟩
  replace e0 := e0.ext g
  replace g0 := g0.ext g
  replace rc := rc.ext g
  replace own_o := own_o.ext g
  replace own_y := own_y.ext g
  replace sep := sep.up g.size
  clear g
  refine SeqK.eff (k' := 7) (Does.newHs (L := [leafH (ck b k)]) (t := 26) (E := 31) (by_ := 32) (n := 1) (by kernel_rfl) (by kernel_rfl) (All32.cons (leaf_len _) All32.nil) rfl (by decide) (by decide)) rfl ?_
  rintro _ h14 ⟨rfl,hh⟩
  have g15 : Ext h13 h14 := push_ext hh
  have m16 : h14[h13.size]? = some (.cells (hcs [leafH (ck b k)]).toArray 31) := push_at hh
  clear hh
  have lt17 := blk_lt m16
  have zs18 := e0.size
  have zs19 := g0.1
  have hlo := e0.size
  have sepo := sep
  replace e0 := e0.ext g15
  replace g0 := g0.ext g15
  replace rc := rc.ext g15
  replace own_o := own_o.ext g15
  replace own_y := own_y.ext g15
  replace sep := sep.up g15.size
  replace sep := sepo.new hlo (blk_lt m16)
  clear sepo hlo
  refine SeqK.eff (k' := 8) (Does.append2 (t := 26) (E := 31) (sz := 32) (by_ := 32) (n := k) (m := 1) (v := .slice ad k cap) (x := .slice (some ⟨h13.size,0,none⟩) 1 1) (xs := (hcs (lch b k))) (ys := (hcs ([leafH (ck b k)]))) (by kernel_rfl) (by kernel_rfl) own_o (hrow1 (leaf_len _) m16) (ones_hcs _) (by unfold maxLen; omega) (by omega)) rfl ?_
  rintro _ h22 ⟨ad20,cap21,rfl,ownx,g,hb⟩
  rw [blkOf_slice] at g hb
  have hlo := e0.size
  have sepo := sep
  have hop_n := grown hop_o hb g0.1
  replace e0 := e0.grew g (sep.low 1 rfl)
  replace g0 := g0.grew g (hop_ge hop_o)
  replace rc := rc.grew g (fun j e => .inl (hop_ge hop_o j e))
  replace own_y := own_y.kept g (by rw [blkOf_slice]; exact (sep.ap 2 1))
  replace m16 := Grew.blk g m16 ((sep.bp 0 1))
  replace sep := sep.up g.size
  replace sep : Sep h.size h22.size [some (h13.size),ad20.map (·.block),(some ay).map (·.block)] := sepo.set g.size hlo 1 (y := ad20.map (fun (x : Addr) => x.block)) rfl (hb.imp id fun e => .inr ⟨_,e,Nat.le_refl _⟩) (fun k e => ownx.lt (by rw [blkOf_slice]; exact e))
  replace own_o : Own h22 (.slice ad20 (k + 1) cap21) 31 (k + 1) 32 (hcs (lch b k ++ [leafH (ck b k)])) := Own.appG ownx (by first | rfl | exact (hcs_append _ _).symm | simp [hcs_append]) (by first | rfl | (simp; done) | (simp; omega))
  replace hop_o := hop_n; clear hop_n
  clear ownx g hb hlo sepo
  refine sP 9 [.slice ad20 (k + 1) cap21] ?_
  refine sD [(3,.slice (some ay) N vc2),(4,.slice ad20 (k + 1) cap21),(5,nV k)] ?_
  clear hF a; intro a hF
  show C Tryd.prog (sub b20 [1,1,1,0,1,0,0,1,1]) _ a h22
  refine cP 5 hF ?_
  refine sP 1 [nV k] ?_
  refine s1 2 (.int .i64 ((k + 1 : Nat) : Int)) (.int .i64 (IntKind.i64.wrap (((k : Nat) : Int) + 1))) (congrArg (Value.int .i64) (w64' (by omega) (by omega) (by omega))) ?_
  refine sP 3 [nV (k + 1)] ?_
  refine sD [(3,.slice (some ay) N vc2),(4,.slice ad20 (k + 1) cap21),(5,nV (k + 1))] ?_
  clear hF a; intro a hF
  rw [lch_next] at own_o
  clear m16 lt17 zs18 zs19
  replace sep := sep.sub (l' := [ad20.map (·.block),(some ay).map (·.block)]) (.cons _ (.cons_cons _ (.cons_cons _ (.slnil))))
  show ∃ m',m' < _ ∧ _
  refine ⟨_,?_,(k + 1),ad20,cap21,rfl,e0,(by omega),g0,rc,hop_o,own_o,own_y,sep,hF⟩
  omega
 ·skip
  replace hc12 := of_decide_eq_false hc12
  refine cX 0 ?_
  show C Tryd.prog (sub b20 [1,1,1,1]) _ a h11
  refine cS ?_
  refine cP 7 hF ?_
  refine sP 2 [.slice ad k cap,.slice ad k cap] ?_
  refine sD [(2,.slice ad k cap)] ?_
  clear hF a; intro a hF
  refine tK ?_
  refine cR ?_
  show retK Tryd.prog Tryd.f20 (fun v h' => OwnNew h h' 31 v (lch b N)) .ret a h11
  refine ret_ok [.tmp 2] [.slice ad k cap] (.slice ad k cap) rfl hF ⟨rfl,trivial⟩ rfl ?_
  obtain rfl : k = N := by omega
  exact ⟨ad,cap,by rw [lch_len],by rw [lch_len]; exact own_o,sep.low 0 rfl,e0⟩
theorem rleaves7_n (h : Heap) (b : List UInt8) (n : Nat) (hbn : b.length = n) (va : Option Addr) (vc : Nat) (hr : Row h (.slice va n vc) n 1 (b.map bv)) (hbl : n ≤ 1099511627000) (N : Nat) (hN : nch n = N) (H : List Hs) (hH : lch b N = H) : Sat Tryd.prog 20 #[.slice va n vc] h fun v h' => ∃ ad cap,v = .slice ad H.length cap ∧ Own h' (.slice ad H.length cap) 31 H.length 32 (hcs H) ∧ (∀ k,ad.map (fun (x : Addr) => x.block) = some k → h.size ≤ k) ∧ Ext h h' := by
 have := rleaves7_sat h b n hbn va vc hr hbl N hN
 unfold OwnNew at this
 rwa [hH] at this
theorem rincl_at (h : Heap) (L : List Hs) (va : Option Addr) (vc n : Nat) (hL : HR h va vc n L) (hn : n ≤ 1099511627000) (m : Int) (p : List Hs) (e : Int) (hz : inclZ L m = (p,e)) : Sat Tryd.prog 19 #[.slice va n vc,.int .i64 m] h fun v h' => ∃ s,v = .tuple #[s,.int .i64 e] ∧ OwnNew h h' 31 s p := by
 have := rincl_sat h L va vc n hL hn m
 rw [hz] at this
 exact this
noncomputable def b13 : Code := Tryd.f13.body.getD .skip
theorem rroot7_sat (h : Heap) (b : List UInt8) (n : Nat) (hbn : b.length = n) (va : Option Addr) (vc : Nat) (hr : Row h (.slice va n vc) n 1 (b.map bv)) (hbl : n ≤ 1099511627000) (N : Nat) (hN : nch n = N) : Sat Tryd.prog 13 #[.slice va n vc] h fun v h' => v = hv (root (lch b N)) ∧ Ext h h' := by
 have e0 := Ext.refl h
 have sep : Sep h.size h.size [] := Sep.nil _ _
 obtain ⟨H,hH⟩ : ∃ H,lch b N = H := ⟨_,rfl⟩
 have h32 : All32 H := hH ▸ lch_32 _ _
 have hHl : H.length = N := by rw [← hH,lch_len]
 have hnl : N ≤ n := hN ▸ nch_le n
 refine sat_of (args := [.slice va n vc]) (fn := Tryd.f13) (B := b13) (n := 6) (L := [(0,.slice va n vc)]) Tryd.func13 rfl (by kernel_rfl) rfl ?_
 intro a hF
 refine cS ?_
 refine cP 0 hF ?_
 refine SeqK.eff (k' := 1) (Does.new (v := .pointer (some ⟨h.size,0,none⟩)) (o := .cells (z32.map bv).toArray 31) (by kernel_rfl)) rfl ?_
 rintro _ h1 ⟨rfl,hh⟩
 have g2 : Ext h h1 := push_ext hh
 have m3 : h1[h.size]? = some (.cells (z32.map bv).toArray 31) := push_at hh
 clear hh
 have lt4 := blk_lt m3
 have zs5 := e0.size
 have hlo := e0.size
 have sepo := sep
 replace e0 := e0.ext g2
 replace sep := sep.up g2.size
 replace sep := sepo.new hlo (blk_lt m3)
 clear sepo hlo
 refine sD [(0,.slice va n vc),(2,pV h.size)] ?_
 clear hF a; intro a hF
 refine tK ?_
 refine cS ?_
 refine cP 1 hF ?_
 refine sP 1 [.slice va n vc] ?_
 refine SeqK.eff (k' := 2) (Does.call (f := 20) (args := #[.slice va n vc]) (by kernel_rfl) (rleaves7_n _ b n hbn _ _ (hr.ext e0) hbl N hN H hH)) rfl ?_
 rintro _ h8 ⟨ad6,cap7,rfl,ownx,hge,g⟩
 have hlo := e0.size
 have sepo := sep
 replace e0 := e0.ext g
 replace m3 := Ext.blk g m3
 replace sep := sep.up g.size
 replace sep := sepo.cons (x := ad6.map (fun (x : Addr) => x.block)) g.size hlo (fun k e => ⟨hge k e,ownx.lt (by rw [blkOf_slice]; exact e)⟩)
 have own_hl : Own h8 (.slice ad6 H.length cap7) 31 H.length 32 (hcs H) := ownx; clear ownx sepo hlo hge g
 refine SeqK.eff (k' := 3) (Does.call (f := 22) (args := #[.slice ad6 H.length cap7]) (by kernel_rfl) (rroot_sat _ H _ _ H.length (HR.of own_hl h32) (by omega))) rfl ?_
 rintro _ h9 ⟨rfl,g⟩
 replace e0 := e0.ext g
 replace own_hl := own_hl.ext g
 replace m3 := Ext.blk g m3
 replace sep := sep.up g.size
 clear g
 refine SeqK.eff (k' := 4) (Does.store (b := h.size) (off := 0) (vs := (root H).map bv) (l := z32.map bv) (storeOp_of (by kernel_rfl) (hlm (root_len h32))) m3 (hfit rfl (root_len h32)) (ones_map _)) rfl ?_
 rintro _ h10 ⟨rfl,hh⟩
 have g11 : Grew (some (h.size)) h9 h10 := hput_gr hh
 replace m3 : h10[h.size]? = some (.cells ((root H).map bv).toArray 31) := hput_at (off := 0) (vs := (root H).map bv) (l := (z32.map bv)) hh (hsplice rfl (root_len h32)) m3
 clear hh
 replace e0 := e0.grew g11 (sep.low 1 rfl)
 replace own_hl := own_hl.kept g11 (by rw [blkOf_slice]; exact (sep.ap 0 1))
 replace sep := sep.up g11.size
 refine sD [(2,pV h.size)] ?_
 clear hF a; intro a hF
 refine tK ?_
 refine cR ?_
 show retK Tryd.prog Tryd.f13 (fun v h' => v = hv (root (lch b N)) ∧ Ext h h') .ret a h10
 refine ret_ok [.cell 2 31] [.agg ((root H).map bv).toArray] (.agg ((root H).map bv).toArray) rfl hF ⟨⟨_,rfl,Loads.hash (by kernel_rfl) (root_len h32) m3⟩,trivial⟩ rfl ?_
 exact ⟨by rw [hH]; rfl,e0⟩
noncomputable def b11 : Code := Tryd.f11.body.getD .skip
theorem rproof7_sat (h : Heap) (b : List UInt8) (n : Nat) (hbn : b.length = n) (va : Option Addr) (vc : Nat) (hr : Row h (.slice va n vc) n 1 (b.map bv)) (hbl : n ≤ 1099511627000) (N : Nat) (hN : nch n = N) (m : Int) (p : List Hs) (er : Int) (hz : inclZ (lch b N) m = (p,er)) : Sat Tryd.prog 11 #[.slice va n vc,.int .i64 m] h fun v h' => ∃ s,v = .tuple #[s,.int .i64 er] ∧ OwnNew h h' 31 s p := by
 have e0 := Ext.refl h
 have sep : Sep h.size h.size [] := Sep.nil _ _
 obtain ⟨H,hH⟩ : ∃ H,lch b N = H := ⟨_,rfl⟩
 have h32 : All32 H := hH ▸ lch_32 _ _
 have hHl : H.length = N := by rw [← hH,lch_len]
 have hnl : N ≤ n := hN ▸ nch_le n
 refine sat_of (args := [.slice va n vc,.int .i64 m]) (fn := Tryd.f11) (B := b11) (n := 12) (L := [(0,.slice va n vc),(1,.int .i64 m)]) Tryd.func11 rfl (by kernel_rfl) rfl ?_
 intro a hF
 refine cS ?_
 refine cP 0 hF ?_
 refine sP 2 [.slice none 0 0,.int .i64 0] ?_
 refine sD [(0,.slice va n vc),(1,.int .i64 m)] ?_
 clear hF a; intro a hF
 refine tK ?_
 refine cS ?_
 refine cP 1 hF ?_
 refine sP 1 [.slice va n vc] ?_
 refine SeqK.eff (k' := 2) (Does.call (f := 20) (args := #[.slice va n vc]) (by kernel_rfl) (rleaves7_n _ b n hbn _ _ (hr.ext e0) hbl N hN H hH)) rfl ?_
 rintro _ h3 ⟨ad1,cap2,rfl,ownx,hge,g⟩
 have hlo := e0.size
 have sepo := sep
 replace e0 := e0.ext g
 replace sep := sep.up g.size
 replace sep := sepo.cons (x := ad1.map (fun (x : Addr) => x.block)) g.size hlo (fun k e => ⟨hge k e,ownx.lt (by rw [blkOf_slice]; exact e)⟩)
 have own_hl : Own h3 (.slice ad1 H.length cap2) 31 H.length 32 (hcs H) := ownx; clear ownx sepo hlo hge g
 refine sP 3 [.int .i64 m] ?_
 refine SeqK.eff (k' := 4) (Does.call (f := 19) (args := #[.slice ad1 H.length cap2,.int .i64 m]) (by kernel_rfl) (rincl_at _ H _ _ H.length (HR.of own_hl h32) (by omega) m p er (hH ▸ hz))) rfl ?_
 rintro _ h6 ⟨_,rfl,ad4,cap5,rfl,ownx,hge,g⟩
 have hlo := e0.size
 have sepo := sep
 replace e0 := e0.ext g
 replace own_hl := own_hl.ext g
 replace sep := sep.up g.size
 replace sep := sepo.cons (x := ad4.map (fun (x : Addr) => x.block)) g.size hlo (fun k e => ⟨hge k e,ownx.lt (by rw [blkOf_slice]; exact e)⟩)
 have own_p : Own h6 (.slice ad4 p.length cap5) 31 p.length 32 (hcs p) := ownx; clear ownx sepo hlo hge g
 refine sP 8 [.slice ad4 p.length cap5,.int .i64 er,.slice ad4 p.length cap5,.int .i64 er] ?_
 refine sD [(4,.slice ad4 p.length cap5),(5,.int .i64 er)] ?_
 clear hF a; intro a hF
 refine tK ?_
 refine cR ?_
 show retK Tryd.prog Tryd.f11 (fun v h' => ∃ s,v = .tuple #[s,.int .i64 er] ∧ OwnNew h h' 31 s p) .ret a h6
 refine ret_ok [.tmp 4,.tmp 5] [.slice ad4 p.length cap5,.int .i64 er] (.tuple #[.slice ad4 p.length cap5,.int .i64 er]) rfl hF ⟨rfl,rfl,trivial⟩ rfl ?_
 exact ⟨_,rfl,ad4,cap5,rfl,own_p,sep.low 0 rfl,e0⟩
end Go.Proofs.YtkjlafiefgbjpaaDoor
