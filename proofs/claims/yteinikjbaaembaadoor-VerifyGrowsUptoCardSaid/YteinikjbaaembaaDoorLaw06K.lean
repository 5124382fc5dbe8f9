/- Walks of the laws of proofs held: what each function computes, as a law of its calls. No condition but those that each theorem names. -/
import Derived.Test.YteinikjbaaembaaDoorLaw06D
import Derived.Test.YteinikjbaaembaaDoorTreeH
import Derived.Test.YteinikjbaaembaaDoorTreeI
import Derived.Test.YteinikjbaaembaaDoorVerGrow
namespace Go.Proofs.YteinikjbaaembaaDoor
open Go Go.Lane Go.Sha
theorem tincl_at (h : Heap) (L : List Hs) (va : Option Addr) (vc n : Nat) (hL : HR h va vc n L) (hn : n ≤ 1099511627000) (m : Int) (kt : Ktab h) (p : List Hs) (e : Int) (hz : inclZ L m = (p,e)) : Sat Tryd.prog 21 #[.slice va n vc,.int .i64 m] h fun v h' => ∃ s,v = .tuple #[s,.int .i64 e] ∧ OwnNew h h' 23 s p := by
 have := tincl_sat h L va vc n hL hn m kt
 rw [hz] at this
 exact this
theorem tcons_at (h : Heap) (L : List Hs) (va : Option Addr) (vc n : Nat) (hL : HR h va vc n L) (hn : n ≤ 1099511627000) (m : Int) (kt : Ktab h) (p : List Hs) (e : Int) (hz : consZ L m = (p,e)) : Sat Tryd.prog 22 #[.slice va n vc,.int .i64 m] h fun v h' => ∃ s,v = .tuple #[s,.int .i64 e] ∧ OwnNew h h' 23 s p := by
 have := tcons_sat h L va vc n hL hn m kt
 rw [hz] at this
 exact this
noncomputable def b9 : Code := Tryd.f9.body.getD .skip
theorem size_n (h : Heap) (b : Nat) (o : Option Nat) (L : List Hs) (g : GrowL h b o L) (n : Nat) (hn : L.length = n) : Sat Tryd.prog 26 #[.pointer (some ⟨b,0,none⟩)] h fun v h' => v = .int .i64 ((n : Nat) : Int) ∧ h' = h := by
 subst hn; exact size_l h b o L g
set_option maxHeartbeats 4000000 in
theorem vgrows_sat (h : Heap) (sl : List Sl) (va : Option Addr) (vc : Nat) (ra : Rws h va vc sl) (hfl : (flat sl).length ≤ 1048576) (hsl : sl.length ≤ 1048576) (kt : Ktab h) : Sat Tryd.prog 9 #[.slice va sl.length vc] h fun v h' => v = .bool true ∧ Ext h h' := by
 have e0 := Ext.refl h
 have h0s := kt.lt
 have sep : Sep h.size h.size [] := Sep.nil _ _
 obtain ⟨H,hH⟩ : ∃ H,lvr sl sl.length = H := ⟨_,rfl⟩
 have h32 : All32 H := hH ▸ lvr_32 _ _
 have hHl : H.length = sl.length := by rw [← hH,lvr_len (Nat.le_refl _)]
 refine sat_of (args := [.slice va sl.length vc]) (fn := Tryd.f9) (B := b9) (n := 119) (L := [(0,.slice va sl.length vc)]) Tryd.func9 rfl (by kernel_rfl) rfl ?_
 intro a hF
 refine cS ?_
 refine cP 0 hF ?_
 refine sP 1 [.bool false] ?_
 refine sD [(0,.slice va sl.length vc)] ?_
 clear hF a; intro a hF
 refine tK ?_
 refine cS ?_
 refine cP 1 hF ?_
 refine SeqK.eff (k' := 1) (Does.call (f := 10) (args := #[]) (by kernel_rfl) (shown6_sat _ kt)) rfl ?_
 rintro _ h1 ⟨rfl,g⟩
 replace e0 := e0.ext g
 replace kt := kt.ext g
 replace sep := sep.up g.size
 clear g
 refine sP 2 [.bool true] ?_
 refine sD [(0,.slice va sl.length vc),(3,.bool true)] ?_
 clear hF a; intro a hF
 refine tK ?_
 refine cS ?_
 refine cS ?_
 refine cP 2 hF ?_
 refine sP 2 [.bool true,.bool false] ?_
 refine sD [(0,.slice va sl.length vc),(3,.bool true),(16,.bool false)] ?_
 clear hF a; intro a hF
 refine tK ?_
 refine cF 16 hF ?_
 refine cN ?_
 refine tK ?_
 refine cS ?_
 refine cP 4 hF ?_
 refine sP 1 [.slice va sl.length vc] ?_
 refine SeqK.eff (k' := 2) (Does.call (f := 16) (args := #[.slice va sl.length vc]) (by kernel_rfl) (leaves6_n _ sl va vc (ra.ext e0) hfl hsl H hH)) rfl ?_
 rintro _ h4 ⟨ad2,cap3,rfl,ownx,hge,g⟩
 have hlo := e0.size
 have sepo := sep
 replace e0 := e0.ext g
 replace kt := kt.ext g
 replace sep := sep.up g.size
 replace sep := sepo.cons (x := ad2.map (fun (x : Addr) => x.block)) g.size hlo (fun k e => ⟨hge k e,ownx.lt (by rw [blkOf_slice]; exact e)⟩)
 have own_hl : Own h4 (.slice ad2 sl.length cap3) 23 sl.length 32 (hcs H) := ownx; clear ownx sepo hlo hge g
 refine sP 3 [.slice ad2 sl.length cap3] ?_
 refine sD [(3,.bool true),(4,.slice ad2 sl.length cap3)] ?_
 clear hF a; intro a hF
 refine tK ?_
 refine cS ?_
 refine C.mono (K := fun e a hJ => e = .normal ∧ h4 = hJ ∧ ∃ N : Nat,(N ≤ 24 ∧ N ≤ sl.length) ∧ Fr a 119 [(3,.bool true),(4,.slice ad2 N cap3)]) ?_ ?_
 ·skip
  refine cS ?_
  refine cP 5 hF ?_
  refine sP 3 [.slice ad2 sl.length cap3,nV sl.length,.bool (decide ((24 : Int) < ((sl.length : Nat) : Int)))] ?_
  refine sD [(3,.bool true),(4,.slice ad2 sl.length cap3),(21,.bool (decide ((24 : Int) < ((sl.length : Nat) : Int))))] ?_
  clear hF a; intro a hF
  refine tK ?_
  refine cC 21 (decide ((24 : Int) < ((sl.length : Nat) : Int))) hF (fun hc5 => ?_) (fun hc5 => ?_)
  ·skip
   replace hc5 := of_decide_eq_true hc5
   have hcp0 := (HR.of own_hl h32).cap
   refine cP 6 hF ?_
   refine sP 1 [.slice ad2 sl.length cap3] ?_
   refine sC 2 (.slice ad2 24 cap3) ((fun h => Calm.sliceO (a := ad2) (len := sl.length) (cap := cap3) (sz := 32) (x := ad2) 0 24 cap3 24 cap3 (by kernel_rfl) (.inl ⟨rfl,rfl⟩) (.inr rfl) (.inl ⟨rfl,rfl⟩) (by omega) (by omega) (opt_add0 _ 32) (by first | rfl | omega) (by first | rfl | omega) h) _) ?_
   refine sP 3 [.slice ad2 24 cap3] ?_
   refine sD [(3,.bool true),(4,.slice ad2 24 cap3)] ?_
   clear hF a; intro a hF
   generalize hN : (24 : Nat) = N at hF
   exact ⟨rfl,rfl,N,⟨by omega,by omega⟩,hF⟩
  ·skip
   replace hc5 := of_decide_eq_false hc5
   generalize hN : sl.length = N at hF
   refine cN ?_
   exact ⟨rfl,rfl,N,⟨by omega,by omega⟩,hF.to⟩
 ·skip
  clear hF a
  rintro e a _ ⟨rfl,rfl,N,hjn,hF⟩
  refine tK ?_
  refine cS ?_
  have hH32 := h32
  obtain ⟨K,hK⟩ : ∃ K,H.take N = K := ⟨_,rfl⟩
  have hKl : K.length = N := by rw [← hK,List.length_take]; omega
  have h32K : All32 K := hK ▸ h32.take _
  obtain ⟨hN1,hN2⟩ := hjn
  have hcp := (HR.of own_hl h32).cap
  ·skip
   refine cP 7 hF ?_
   refine SeqK.eff (k' := 1) (Does.call (f := 23) (args := #[]) (by kernel_rfl) (newgrow_l _)) rfl ?_
   rintro _ h6 ⟨b_g,rfl,hs_g,hge,g⟩
   have hlo := e0.size
   have sepo := sep
   replace e0 := e0.ext g
   replace kt := kt.ext g
   replace own_hl := own_hl.ext g
   replace sep := sep.up g.size
   have hlt := hs_g.lt.1
   replace sep := (sepo.cons (x := some b_g) g.size (by omega) (fun k e => by cases e; exact ⟨hge,hlt⟩)).none (by omega)
   clear hge hlo hlt g sepo
   refine sP 2 [pV b_g] ?_
   refine sD [(3,.bool true),(4,.slice ad2 N cap3),(5,pV b_g)] ?_
   clear hF a; intro a hF
   replace hs_g : GrowL h6 b_g none (K.take 0) := hs_g
   refine tK ?_
   refine cS ?_
   refine cS ?_
   refine cP 8 hF ?_
   refine sP 2 [pV b_g,.bool false] ?_
   refine sD [(3,.bool true),(4,.slice ad2 N cap3),(5,pV b_g),(26,.bool false)] ?_
   clear hF a; intro a hF
   refine tK ?_
   refine cF 26 hF ?_
   refine cN ?_
   refine tK ?_
   refine cS ?_
   refine cP 10 hF ?_
   refine sP 1 [pV b_g] ?_
   refine SeqK.eff (k' := 2) (Does.call (f := 24) (args := #[.pointer (some ⟨b_g,0,none⟩)]) (by kernel_rfl) (groot_l _ b_g none (K.take 0) hs_g kt (by rw [List.length_take]; omega))) rfl ?_
   rintro _ h7 ⟨rfl,g⟩
   replace e0 := e0.ext g
   replace kt := kt.ext g
   replace own_hl := own_hl.ext g
   replace hs_g := hs_g.ext g
   replace sep := sep.up g.size
   clear g
   refine SeqK.eff (k' := 3) (Does.newHs (L := [root (K.take 0)]) (t := 24) (E := 23) (by_ := 32) (n := 1) (by kernel_rfl) (by kernel_rfl) (All32.cons (root_len (h32K.take _)) All32.nil) rfl (by decide) (by decide)) rfl ?_
   rintro _ h8 ⟨rfl,hh⟩
   have g9 : Ext h7 h8 := push_ext hh
   have m10 : h8[h7.size]? = some (.cells (hcs [root (K.take 0)]).toArray 23) := push_at hh
   clear hh
   have lt11 := blk_lt m10
   have zs12 := e0.size
   have hlo := e0.size
   have sepo := sep
   replace e0 := e0.ext g9
   replace kt := kt.ext g9
   replace own_hl := own_hl.ext g9
   replace hs_g := hs_g.ext g9
   replace sep := sep.up g9.size
   replace sep := sepo.new hlo (blk_lt m10)
   clear sepo hlo
   have own_rs : Own h8 (.slice (some ⟨h7.size,0,none⟩) 1 1) 23 (0 + 1) 32 (hcs (rts K 0)) := Own.blk m10 (by rw [show rts K 0 = [root (K.take 0)] from rfl,hcs_length (All32.cons (root_len (h32K.take _)) All32.nil)]; rfl) (by unfold maxLen; decide)
   replace sep : Sep h.size h8.size [(some ⟨h7.size,0,none⟩ : Option Addr).map (·.block),none,b_g,ad2.map (·.block)] := sep
   clear m10 lt11 zs12
   refine sP 4 [.slice (some ⟨h7.size,0,none⟩) 1 1] ?_
   refine sD [(3,.bool true),(4,.slice ad2 N cap3),(5,pV b_g),(6,.slice (some ⟨h7.size,0,none⟩) 1 1)] ?_
   clear hF a; intro a hF
   refine tK ?_
   refine cS ?_
   refine cS ?_
   refine cP 11 hF ?_
   refine sP 1 [.int .i64 0] ?_
   refine sD [(3,.bool true),(4,.slice ad2 N cap3),(5,pV b_g),(6,.slice (some ⟨h7.size,0,none⟩) 1 1),(7,.int .i64 0)] ?_
   clear hF a; intro a hF
   refine tK ?_
   refine cB 0 ?_
   replace sep := sep.sub (l' := [(some ⟨h7.size,0,none⟩ : Option Addr).map (·.block),none,b_g,ad2.map (·.block)]) (.cons_cons _ (.cons_cons _ (.cons_cons _ (.cons_cons _ (.slnil)))))
   refine C.loop (fun m a h' => ∃ i : Nat,∃ o1 : Option Nat,∃ ad : Option Addr,∃ cap : Nat,m = N - i ∧ (Ext h h') ∧ (Ktab h') ∧ (i ≤ N) ∧ (GrowL h' b_g o1 (K.take i)) ∧ (Own h' (.slice ad2 sl.length cap3) 23 sl.length 32 (hcs H)) ∧ (Own h' (.slice ad (i + 1) cap) 23 (i + 1) 32 (hcs (rts K i))) ∧ (Sep h.size h'.size [ad.map (·.block),o1,b_g,ad2.map (·.block)]) ∧ (Fr a 119 [(3,.bool true),(4,.slice ad2 N cap3),(5,.pointer (some ⟨b_g,0,none⟩)),(6,.slice ad (i + 1) cap),(7,.int .i64 ((i : Nat) : Int))])) (N - 0) [1,1,1,1,1,1,1,1,0,1,0,0] (by kernel_rfl) ⟨0,none,(some ⟨h7.size,0,none⟩),1,rfl,e0,kt,(by omega),hs_g,own_hl,own_rs,sep,hF⟩ ?_
   clear hF a
   clear e0
   clear kt
   clear hs_g
   clear own_hl
   clear own_rs
   clear sep
   rintro m a h13 ⟨i,o1,ad,cap,rfl,e0,kt,hi,hs_g,own_hl,own_rs,sep,hF⟩
   refine cS ?_
   refine cS ?_
   refine cP 12 hF ?_
   refine sP 4 [nV i,.slice ad2 N cap3,nV N,.bool (decide (((i : Nat) : Int) < ((N : Nat) : Int)))] ?_
   refine sD [(3,.bool true),(4,.slice ad2 N cap3),(5,pV b_g),(6,.slice ad (i + 1) cap),(7,nV i),(33,.bool (decide (((i : Nat) : Int) < ((N : Nat) : Int))))] ?_
   clear hF a; intro a hF
   refine tK ?_
   refine cC 33 (decide (((i : Nat) : Int) < ((N : Nat) : Int))) hF (fun hc14 => ?_) (fun hc14 => ?_)
   ·skip
    replace hc14 := of_decide_eq_true hc14
    have hia : i < N := by omega
    obtain ⟨ah,rfl,_⟩ := own_hl.someA (by omega)
    have hrl := ((HR.of own_hl hH32).takeE hK hN2)
    refine cN ?_
    refine tK ?_
    refine cS ?_
    refine cB 1 ?_
    refine cS ?_
    refine cP 14 hF ?_
    refine sP 3 [pV b_g,.slice (some ah) N cap3,nV i] ?_
    refine sC 4 (.pointer (some (Addr.add ah (i * 32)))) ((Calm.indexA (a := ah) (len := N) (sz := 32) (k := ((i : Nat) : Int)) i (i * 32) (by kernel_rfl) rfl (by omega) (by omega)) _) ?_
    refine sC 5 (.agg ((K.getD i []).map bv).toArray) (Calm.load (T := 23) (p := (Addr.add ah (i * 32))) (by kernel_rfl) (HR.loads (k := i) (q := i * 32) (((HR.of own_hl hH32).takeE hK hN2)) (by kernel_rfl) (by omega) (by omega))) ?_
    refine SeqK.eff (k' := 6) (Does.call (f := 25) (args := #[.pointer (some ⟨b_g,0,none⟩),.agg ((K.getD i []).map bv).toArray]) (by kernel_rfl) (add_l _ b_g o1 (K.take i) hs_g (K.getD i []) (hrl.2.1.get (k := i) (by rw [hrl.2.2]; omega)) kt (by have := sep.low 2 rfl _ rfl; omega) (fun e => sep.zero 1 rfl h0s e.symm) (by rw [List.length_take]; omega))) rfl ?_
    rintro _ h16 ⟨o15,hs',ho',g⟩
    have hlo := e0.size
    replace e0 := Gr.toExt e0 g (sep.lowF 2 1 rfl rfl)
    replace kt := kt.gr g (sep.zeroF 2 1 rfl rfl h0s)
    replace own_hl := g.own own_hl (fun k e => (sep.gF 3 2 1 rfl rfl rfl (by decide) (by decide)) k (by rw [blkOf_slice] at e; exact e))
    replace own_rs := g.own own_rs (fun k e => (sep.gF 0 2 1 rfl rfl rfl (by decide) (by decide)) k (by rw [blkOf_slice] at e; exact e))
    replace hs_g : GrowL h16 b_g o15 (K.take i ++ [(K.getD i [])]) := hs'
    replace sep := sep.set g.1 hlo 1 (y := o15) rfl (ho'.imp id .inr) (fun k e => hs'.lt.2 k e)
    replace sep : Sep h.size h16.size [ad.map (·.block),o15,b_g,(some ah).map (·.block)] := sep
    clear hs' ho' g hlo
    refine sD [(3,.bool true),(4,.slice (some ah) N cap3),(5,pV b_g),(6,.slice ad (i + 1) cap),(7,nV i)] ?_
    clear hF a; intro a hF
    rw [take_next hrl hia] at hs_g
    refine tK ?_
    refine cP 15 hF ?_
    refine sP 2 [.slice ad (i + 1) cap,pV b_g] ?_
    refine SeqK.eff (k' := 3) (Does.call (f := 24) (args := #[.pointer (some ⟨b_g,0,none⟩)]) (by kernel_rfl) (groot_l _ b_g o15 (K.take (i + 1)) hs_g kt (by rw [List.length_take]; omega))) rfl ?_
    rintro _ h17 ⟨rfl,g⟩
    replace e0 := e0.ext g
    replace kt := kt.ext g
    replace own_hl := own_hl.ext g
    replace own_rs := own_rs.ext g
    replace hs_g := hs_g.ext g
    replace sep := sep.up g.size
    clear g
    refine SeqK.eff (k' := 4) (Does.newHs (L := [root (K.take (i + 1))]) (t := 24) (E := 23) (by_ := 32) (n := 1) (by kernel_rfl) (by kernel_rfl) (All32.cons (root_len (h32K.take _)) All32.nil) rfl (by decide) (by decide)) rfl ?_
    rintro _ h18 ⟨rfl,hh⟩
    have g19 : Ext h17 h18 := push_ext hh
    have m20 : h18[h17.size]? = some (.cells (hcs [root (K.take (i + 1))]).toArray 23) := push_at hh
    clear hh
    have lt21 := blk_lt m20
    have zs22 := e0.size
    have hlo := e0.size
    have sepo := sep
    replace e0 := e0.ext g19
    replace kt := kt.ext g19
    replace own_hl := own_hl.ext g19
    replace own_rs := own_rs.ext g19
    replace hs_g := hs_g.ext g19
    replace sep := sep.up g19.size
    replace sep := sepo.new hlo (blk_lt m20)
    clear sepo hlo
    refine SeqK.eff (k' := 5) (Does.append2 (t := 24) (E := 23) (sz := 32) (by_ := 32) (n := i + 1) (m := 1) (v := .slice ad (i + 1) cap) (x := .slice (some ⟨h17.size,0,none⟩) 1 1) (xs := (hcs (rts K i))) (ys := (hcs ([root (K.take (i + 1))]))) (by kernel_rfl) (by kernel_rfl) own_rs (hrow1 (root_len (h32K.take _)) m20) (ones_hcs _) (by unfold maxLen; omega) (by omega)) rfl ?_
    rintro _ h25 ⟨ad23,cap24,rfl,ownx,g,hb⟩
    rw [blkOf_slice] at g hb
    have hlo := e0.size
    have sepo := sep
    replace e0 := e0.grew g (sep.low 1 rfl)
    replace kt := kt.grew g (sep.zero 1 rfl h0s)
    replace own_hl := own_hl.kept g (by rw [blkOf_slice]; exact (sep.ap 4 1))
    replace hs_g := hs_g.put g (sep.bp 3 1) (sep.ap 2 1)
    replace m20 := Grew.blk g m20 ((sep.bp 0 1))
    replace sep := sep.up g.size
    replace sep : Sep h.size h25.size [some (h17.size),ad23.map (·.block),o15,b_g,(some ah).map (·.block)] := sepo.set g.size hlo 1 (y := ad23.map (fun (x : Addr) => x.block)) rfl (hb.imp id fun e => .inr ⟨_,e,Nat.le_refl _⟩) (fun k e => ownx.lt (by rw [blkOf_slice]; exact e))
    replace own_rs : Own h25 (.slice ad23 (i + 1 + 1) cap24) 23 (i + 1 + 1) 32 (hcs (rts K i ++ [root (K.take (i + 1))])) := Own.appG ownx (by first | rfl | exact (hcs_append _ _).symm | simp [hcs_append]) (by first | rfl | (simp; done) | (simp; omega))
    clear ownx g hb hlo sepo
    refine sP 6 [.slice ad23 ((i + 1) + 1) cap24] ?_
    refine sD [(3,.bool true),(4,.slice (some ah) N cap3),(5,pV b_g),(6,.slice ad23 ((i + 1) + 1) cap24),(7,nV i)] ?_
    clear hF a; intro a hF
    have hcan : ((i + 1) + 1 : Nat) = i + 1 + 1 := by first | (simp; done) | (simp; omega)
    rw [hcan] at hF; clear hcan
    show C Tryd.prog (sub b9 [1,1,1,1,1,1,1,1,0,1,0,0,1,1]) _ a h25
    refine cP 13 hF ?_
    refine sP 1 [nV i] ?_
    refine s1 2 (.int .i64 ((i + 1 : Nat) : Int)) (.int .i64 (IntKind.i64.wrap (((i : Nat) : Int) + 1))) (congrArg (Value.int .i64) (w64' (by omega) (by omega) (by omega))) ?_
    refine sP 3 [nV (i + 1)] ?_
    refine sD [(3,.bool true),(4,.slice (some ah) N cap3),(5,pV b_g),(6,.slice ad23 (i + 1 + 1) cap24),(7,nV (i + 1))] ?_
    clear hF a; intro a hF
    rw [rts_next] at own_rs
    clear m20 lt21 zs22
    replace sep := sep.sub (l' := [ad23.map (·.block),o15,b_g,(some ah).map (·.block)]) (.cons _ (.cons_cons _ (.cons_cons _ (.cons_cons _ (.cons_cons _ (.slnil))))))
    show ∃ m',m' < _ ∧ _
    refine ⟨_,?_,(i + 1),o15,ad23,cap24,rfl,e0,kt,(by omega),hs_g,own_hl,own_rs,sep,hF⟩
    omega
   ·skip
    replace hc14 := of_decide_eq_false hc14
    obtain rfl : i = N := by omega
    obtain ⟨ar,rfl,_⟩ := own_rs.someA (by omega)
    refine cX 0 ?_
    show C Tryd.prog (sub b9 [1,1,1,1,1,1,1,1,1]) _ a h13
    refine cS ?_
    refine cS ?_
    refine cP 16 hF ?_
    refine sP 1 [.int .i64 0] ?_
    refine sD [(3,.bool true),(4,.slice ad2 i cap3),(5,pV b_g),(6,.slice (some ar) (i + 1) cap),(8,.int .i64 0)] ?_
    clear hF a; intro a hF
    refine tK ?_
    refine cB 2 ?_
    replace sep := sep.sub (l' := [(some ar).map (·.block),o1,b_g,ad2.map (·.block)]) (.cons_cons _ (.cons_cons _ (.cons_cons _ (.cons_cons _ (.slnil)))))
    refine C.loop (fun m a h' => ∃ nn : Nat,m = i + 1 - nn ∧ (Ext h h') ∧ (Ktab h') ∧ (nn ≤ i + 1) ∧ (GrowL h' b_g o1 (K.take i)) ∧ (Own h' (.slice ad2 sl.length cap3) 23 sl.length 32 (hcs H)) ∧ (Own h' (.slice (some ar) (i + 1) cap) 23 (i + 1) 32 (hcs (rts K i))) ∧ (Sep h.size h'.size [(some ar).map (·.block),o1,b_g,ad2.map (·.block)]) ∧ (Fr a 119 [(3,.bool true),(4,.slice ad2 i cap3),(5,.pointer (some ⟨b_g,0,none⟩)),(6,.slice (some ar) (i + 1) cap),(8,.int .i64 ((nn : Nat) : Int))])) (i + 1 - 0) [1,1,1,1,1,1,1,1,1,0,1,0,0] (by kernel_rfl) ⟨0,rfl,e0,kt,(by omega),hs_g,own_hl,own_rs,sep,hF⟩ ?_
    clear hF a
    clear e0
    clear kt
    clear hs_g
    clear own_hl
    clear own_rs
    clear sep
    rintro m a h26 ⟨nn,rfl,e0,kt,hnn,hs_g,own_hl,own_rs,sep,hF⟩
    refine cS ?_
    refine cS ?_
    refine cP 17 hF ?_
    refine sP 4 [nV nn,.slice ad2 i cap3,nV i,.bool (decide (((nn : Nat) : Int) ≤ ((i : Nat) : Int)))] ?_
    refine sD [(3,.bool true),(4,.slice ad2 i cap3),(5,pV b_g),(6,.slice (some ar) (i + 1) cap),(8,nV nn),(50,.bool (decide (((nn : Nat) : Int) ≤ ((i : Nat) : Int))))] ?_
    clear hF a; intro a hF
    refine tK ?_
    refine cC 50 (decide (((nn : Nat) : Int) ≤ ((i : Nat) : Int))) hF (fun hc27 => ?_) (fun hc27 => ?_)
    ·skip
     replace hc27 := of_decide_eq_true hc27
     refine cN ?_
     refine tK ?_
     refine cS ?_
     refine cB 3 ?_
     refine cS ?_
     refine cP 19 hF ?_
     refine sP 1 [.int .i64 0] ?_
     refine sD [(3,.bool true),(4,.slice ad2 i cap3),(5,pV b_g),(6,.slice (some ar) (i + 1) cap),(8,nV nn),(9,.int .i64 0)] ?_
     clear hF a; intro a hF
     refine tK ?_
     refine cB 4 ?_
     refine C.loop (fun m a h' => ∃ mm : Nat,m = nn + 1 - mm ∧ (Ext h h') ∧ (Ktab h') ∧ (mm ≤ nn + 1) ∧ (GrowL h' b_g o1 (K.take i)) ∧ (Own h' (.slice ad2 sl.length cap3) 23 sl.length 32 (hcs H)) ∧ (Own h' (.slice (some ar) (i + 1) cap) 23 (i + 1) 32 (hcs (rts K i))) ∧ (Sep h.size h'.size [(some ar).map (·.block),o1,b_g,ad2.map (·.block)]) ∧ (Fr a 119 [(3,.bool true),(4,.slice ad2 i cap3),(5,.pointer (some ⟨b_g,0,none⟩)),(6,.slice (some ar) (i + 1) cap),(8,.int .i64 ((nn : Nat) : Int)),(9,.int .i64 ((mm : Nat) : Int))])) (nn + 1 - 0) [1,1,1,1,1,1,1,1,1,0,1,0,0,1,0,0,1,0,0] (by kernel_rfl) ⟨0,rfl,e0,kt,(by omega),hs_g,own_hl,own_rs,sep,hF⟩ ?_
     clear hF a
     clear e0
     clear kt
     clear hs_g
     clear own_hl
     clear own_rs
     clear sep
     rintro m a h28 ⟨mm,rfl,e0,kt,hmm,hs_g,own_hl,own_rs,sep,hF⟩
     refine cS ?_
     refine cS ?_
     refine cP 20 hF ?_
     refine sP 3 [nV mm,nV nn,.bool (decide (((mm : Nat) : Int) ≤ ((nn : Nat) : Int)))] ?_
     refine sD [(3,.bool true),(4,.slice ad2 i cap3),(5,pV b_g),(6,.slice (some ar) (i + 1) cap),(8,nV nn),(9,nV mm),(55,.bool (decide (((mm : Nat) : Int) ≤ ((nn : Nat) : Int))))] ?_
     clear hF a; intro a hF
     refine tK ?_
     refine cC 55 (decide (((mm : Nat) : Int) ≤ ((nn : Nat) : Int))) hF (fun hc29 => ?_) (fun hc29 => ?_)
     ·skip
      replace hc29 := of_decide_eq_true hc29
      refine cN ?_
      refine tK ?_
      refine cS ?_
      refine cB 5 ?_
      refine cS ?_
      have hkn : (K.take nn).length = nn := by rw [List.length_take]; omega
      obtain ⟨Q,hQ⟩ : ∃ Q,(consZ (K.take nn) ((mm : Nat) : Int)).1 = Q := ⟨_,rfl⟩
      have hQl : Q.length ≤ nn := by have := consZ_len (K.take nn) ((mm : Nat) : Int); rw [hQ,hkn] at this; exact this
      have h32Q : All32 Q := hQ ▸ consZ_32 (h32K.take _) _
      ·skip
       refine cP 22 hF ?_
       refine sP 2 [.slice ad2 i cap3,nV nn] ?_
       refine sC 3 (.slice ad2 nn cap3) ((fun h => Calm.sliceO (a := ad2) (len := i) (cap := cap3) (sz := 32) (x := ad2) 0 nn cap3 nn cap3 (by kernel_rfl) (.inl ⟨rfl,rfl⟩) (.inr rfl) (.inl ⟨rfl,rfl⟩) (by omega) (by omega) (opt_add0 _ 32) (by first | rfl | omega) (by first | rfl | omega) h) _) ?_
       refine sP 4 [nV mm] ?_
       refine SeqK.eff (k' := 5) (Does.call (f := 22) (args := #[.slice ad2 nn cap3,.int .i64 ((mm : Nat) : Int)]) (by kernel_rfl) (tcons_at _ (K.take nn) _ _ nn (((HR.of own_hl hH32).takeE hK hN2).take (k := nn) (by omega)) (by omega) ((mm : Nat) : Int) kt Q 0 (consZ_pair hkn (by omega) hQ))) rfl ?_
       rintro _ h32 ⟨_,rfl,ad30,cap31,rfl,ownx,hge,g⟩
       have hlo := e0.size
       have sepo := sep
       replace e0 := e0.ext g
       replace kt := kt.ext g
       replace own_hl := own_hl.ext g
       replace own_rs := own_rs.ext g
       replace hs_g := hs_g.ext g
       replace sep := sep.up g.size
       replace sep := sepo.cons (x := ad30.map (fun (x : Addr) => x.block)) g.size hlo (fun k e => ⟨hge k e,ownx.lt (by rw [blkOf_slice]; exact e)⟩)
       have own_q : Own h32 (.slice ad30 Q.length cap31) 23 Q.length 32 (hcs Q) := ownx; clear ownx sepo hlo hge g
       refine sP 10 [.tuple #[.slice ad30 Q.length cap31,.int .i64 0],.slice ad30 Q.length cap31,.int .i64 0,.slice ad30 Q.length cap31,.int .i64 0] ?_
       refine sD [(3,.bool true),(4,.slice ad2 i cap3),(5,pV b_g),(6,.slice (some ar) (i + 1) cap),(8,nV nn),(9,nV mm),(10,.slice ad30 Q.length cap31),(11,.int .i64 0)] ?_
       clear hF a; intro a hF
       refine tK ?_
       refine cS ?_
       refine cS ?_
       refine cD [0,1,3,7,7,7,7,103,231,7,7,1543,3591,7,16383,32767,65535] 23 mixed hF ?_
       refine mP 127 [0,1,2,3,4,5,6] [.int .i64 0,.bool false,.bool false,nV mm,nV nn,.slice (some ar) (i + 1) cap,nV mm] ?_
       refine mF 255 7 (.pointer (some (Addr.add ar (mm * 32)))) (Calm.indexA (a := ar) (len := i + 1) (sz := 32) (k := ((mm : Nat) : Int)) mm (mm * 32) (by kernel_rfl) rfl (by omega) (by omega)) ?_
       refine mL 511 256 8 (.agg ((root (K.take mm)).map bv).toArray) (Calm.load (T := 23) (p := (Addr.add ar (mm * 32))) (by kernel_rfl) (rts_loads (k := mm) (HR.of own_rs (rts_32 h32K _)) (by kernel_rfl) rfl (by omega) (by omega))) ?_
       refine mP 2047 [9,10] [.slice (some ar) (i + 1) cap,nV nn] ?_
       refine mF 4095 11 (.pointer (some (Addr.add ar (nn * 32)))) (Calm.indexA (a := ar) (len := i + 1) (sz := 32) (k := ((nn : Nat) : Int)) nn (nn * 32) (by kernel_rfl) rfl (by omega) (by omega)) ?_
       refine mL 8191 4352 12 (.agg ((root (K.take nn)).map bv).toArray) (Calm.load (T := 23) (p := (Addr.add ar (nn * 32))) (by kernel_rfl) (rts_loads (k := nn) (HR.of own_rs (rts_32 h32K _)) (by kernel_rfl) rfl (by omega) (by omega))) ?_
       refine mP 16383 [13] [.slice ad30 Q.length cap31] ?_
       refine SimK.eff0 (i := 14) (D' := 32767) (X' := 32767) (by kernel_rfl) (by kernel_rfl) (by kernel_rfl) (by kernel_rfl) (Does.call (f := 14) (args := #[.int .i64 ((mm : Nat) : Int),.int .i64 ((nn : Nat) : Int),.agg ((root (K.take mm)).map bv).toArray,.agg ((root (K.take nn)).map bv).toArray,.slice ad30 Q.length cap31]) (by kernel_rfl) (vcons_at _ ((mm : Nat) : Int) ((nn : Nat) : Int) (root (K.take mm)) (root (K.take nn)) Q _ _ (root_len (h32K.take _)) (root_len (h32K.take _)) (HR.of own_q h32Q) (by omega) (by omega) kt (fun k e => own_q.lt (by rw [blkOf_slice]; exact e)) true (cons_heldK (by omega) (by omega) hQ))) ?_
       rintro _ h33 ⟨rfl,g⟩
       replace e0 := e0.ext g
       replace kt := kt.ext g
       replace own_hl := own_hl.ext g
       replace own_rs := own_rs.ext g
       replace hs_g := hs_g.ext g
       replace own_q := own_q.ext g
       replace sep := sep.up g.size
       clear g
       refine mP 131071 [15,16] [.bool false,.bool false] ?_
       refine mD [(3,.bool true),(4,.slice ad2 i cap3),(5,pV b_g),(6,.slice (some ar) (i + 1) cap),(8,nV nn),(9,nV mm),(82,.bool false)] ?_
       clear hF a; intro a hF
       refine tK ?_
       refine cF 82 hF ?_
       refine cN ?_
       refine tK ?_
       refine cS ?_
       refine cS ?_
       refine cP 25 hF ?_
       refine sP 3 [nV mm,nV nn,.bool (decide (((mm : Nat) : Int) = ((nn : Nat) : Int)))] ?_
       refine sD [(3,.bool true),(4,.slice ad2 i cap3),(5,pV b_g),(6,.slice (some ar) (i + 1) cap),(8,nV nn),(9,nV mm),(85,.bool (decide (((mm : Nat) : Int) = ((nn : Nat) : Int))))] ?_
       clear hF a; intro a hF
       refine tK ?_
       refine cC 85 (decide (((mm : Nat) : Int) = ((nn : Nat) : Int))) hF (fun hc34 => ?_) (fun hc34 => ?_)
       ·skip
        replace hc34 := of_decide_eq_true hc34
        refine cX 5 ?_
        show C Tryd.prog (sub b9 [1,1,1,1,1,1,1,1,1,0,1,0,0,1,0,0,1,0,0,1,1]) _ a h33
        refine cP 21 hF ?_
        refine sP 1 [nV mm] ?_
        refine s1 2 (.int .i64 ((mm + 1 : Nat) : Int)) (.int .i64 (IntKind.i64.wrap (((mm : Nat) : Int) + 1))) (congrArg (Value.int .i64) (w64' (by omega) (by omega) (by omega))) ?_
        refine sP 3 [nV (mm + 1)] ?_
        refine sD [(3,.bool true),(4,.slice ad2 i cap3),(5,pV b_g),(6,.slice (some ar) (i + 1) cap),(8,nV nn),(9,nV (mm + 1))] ?_
        clear hF a; intro a hF
        replace sep := sep.sub (l' := [(some ar).map (·.block),o1,b_g,ad2.map (·.block)]) (.cons _ (.cons_cons _ (.cons_cons _ (.cons_cons _ (.cons_cons _ (.slnil))))))
        show ∃ m',m' < _ ∧ _
        refine ⟨_,?_,(mm + 1),rfl,e0,kt,(by omega),hs_g,own_hl,own_rs,sep,hF⟩
        omega
       ·skip
        replace hc34 := of_decide_eq_false hc34
        have hlt : mm < nn := by omega
        obtain ⟨ah,rfl,_⟩ := own_hl.someA (by omega)
        have hrl := ((HR.of own_hl hH32).takeE hK hN2)
        obtain ⟨P,hP⟩ : ∃ P,incl (K.take nn) mm = P := ⟨_,rfl⟩
        have hPl : P.length ≤ nn := by have := incl_len _ (K.take nn) mm (Nat.le_refl _); rw [hP,hkn] at this; exact this
        have h32P : All32 P := hP ▸ incl_32 _ (K.take nn) mm (Nat.le_refl _) (h32K.take _)
        refine cN ?_
        refine tK ?_
        refine cS ?_
        refine cP 26 hF ?_
        refine sP 2 [.slice (some ah) i cap3,nV nn] ?_
        refine sC 3 (.slice (some ah) nn cap3) ((fun h => Calm.sliceO (a := (some ah)) (len := i) (cap := cap3) (sz := 32) (x := (some ah)) 0 nn cap3 nn cap3 (by kernel_rfl) (.inl ⟨rfl,rfl⟩) (.inr rfl) (.inl ⟨rfl,rfl⟩) (by omega) (by omega) (opt_add0 _ 32) (by first | rfl | omega) (by first | rfl | omega) h) _) ?_
        refine sP 4 [nV mm] ?_
        refine SeqK.eff (k' := 5) (Does.call (f := 21) (args := #[.slice (some ah) nn cap3,.int .i64 ((mm : Nat) : Int)]) (by kernel_rfl) (tincl_at _ (K.take nn) _ _ nn (((HR.of own_hl hH32).takeE hK hN2).take (k := nn) (by omega)) (by omega) ((mm : Nat) : Int) kt P 0 (inclZ_pair hkn hlt hP))) rfl ?_
        rintro _ h37 ⟨_,rfl,ad35,cap36,rfl,ownx,hge,g⟩
        have hlo := e0.size
        have sepo := sep
        replace e0 := e0.ext g
        replace kt := kt.ext g
        replace own_hl := own_hl.ext g
        replace own_rs := own_rs.ext g
        replace hs_g := hs_g.ext g
        replace own_q := own_q.ext g
        replace sep := sep.up g.size
        replace sep := sepo.cons (x := ad35.map (fun (x : Addr) => x.block)) g.size hlo (fun k e => ⟨hge k e,ownx.lt (by rw [blkOf_slice]; exact e)⟩)
        have own_p : Own h37 (.slice ad35 P.length cap36) 23 P.length 32 (hcs P) := ownx; clear ownx sepo hlo hge g
        refine sP 10 [.tuple #[.slice ad35 P.length cap36,.int .i64 0],.slice ad35 P.length cap36,.int .i64 0,.slice ad35 P.length cap36,.int .i64 0] ?_
        refine sD [(3,.bool true),(4,.slice (some ah) i cap3),(5,pV b_g),(6,.slice (some ar) (i + 1) cap),(8,nV nn),(9,nV mm),(12,.slice ad35 P.length cap36),(13,.int .i64 0)] ?_
        clear hF a; intro a hF
        refine tK ?_
        refine cS ?_
        refine cD [0,1,3,7,7,31,63,7,7,7,7,7,3079,7175,16383,32767,65535] 27 mixed hF ?_
        refine mP 31 [0,1,2,3,4] [.int .i64 0,.bool false,.bool false,.slice (some ah) i cap3,nV mm] ?_
        refine mF 63 5 (.pointer (some (Addr.add ah (mm * 32)))) (Calm.indexA (a := ah) (len := i) (sz := 32) (k := ((mm : Nat) : Int)) mm (mm * 32) (by kernel_rfl) rfl (by omega) (by omega)) ?_
        refine mL 127 64 6 (.agg ((K.getD mm []).map bv).toArray) (Calm.load (T := 23) (p := (Addr.add ah (mm * 32))) (by kernel_rfl) (HR.loads (k := mm) (q := mm * 32) (((HR.of own_hl hH32).takeE hK hN2)) (by kernel_rfl) (by omega) (by omega))) ?_
        refine mP 4095 [7,8,9,10,11] [nV mm,nV nn,.slice ad35 P.length cap36,.slice (some ar) (i + 1) cap,nV nn] ?_
        refine mF 8191 12 (.pointer (some (Addr.add ar (nn * 32)))) (Calm.indexA (a := ar) (len := i + 1) (sz := 32) (k := ((nn : Nat) : Int)) nn (nn * 32) (by kernel_rfl) rfl (by omega) (by omega)) ?_
        refine mL 16383 8256 13 (.agg ((root (K.take nn)).map bv).toArray) (Calm.load (T := 23) (p := (Addr.add ar (nn * 32))) (by kernel_rfl) (rts_loads (k := nn) (HR.of own_rs (rts_32 h32K _)) (by kernel_rfl) rfl (by omega) (by omega))) ?_
        refine SimK.eff0 (i := 14) (D' := 32767) (X' := 32767) (by kernel_rfl) (by kernel_rfl) (by kernel_rfl) (by kernel_rfl) (Does.call (f := 11) (args := #[.agg ((K.getD mm []).map bv).toArray,.int .i64 ((mm : Nat) : Int),.int .i64 ((nn : Nat) : Int),.slice ad35 P.length cap36,.agg ((root (K.take nn)).map bv).toArray]) (by kernel_rfl) (vincl_at _ (K.getD mm []) ((mm : Nat) : Int) ((nn : Nat) : Int) P _ _ (root (K.take nn)) (h32K.get (by omega)) (root_len (h32K.take _)) (HR.of own_p h32P) (by omega) (by omega) kt (fun k e => own_p.lt (by rw [blkOf_slice]; exact e)) true (incl_heldK (by omega) hlt hP))) ?_
        rintro _ h38 ⟨rfl,g⟩
        replace e0 := e0.ext g
        replace kt := kt.ext g
        replace own_hl := own_hl.ext g
        replace own_rs := own_rs.ext g
        replace hs_g := hs_g.ext g
        replace own_q := own_q.ext g
        replace own_p := own_p.ext g
        replace sep := sep.up g.size
        clear g
        refine mP 131071 [15,16] [.bool false,.bool false] ?_
        refine mD [(3,.bool true),(4,.slice (some ah) i cap3),(5,pV b_g),(6,.slice (some ar) (i + 1) cap),(8,nV nn),(9,nV mm),(110,.bool false)] ?_
        clear hF a; intro a hF
        refine tK ?_
        refine cF 110 hF ?_
        refine cN ?_
        show C Tryd.prog (sub b9 [1,1,1,1,1,1,1,1,1,0,1,0,0,1,0,0,1,0,0,1,1]) _ a h38
        refine cP 21 hF ?_
        refine sP 1 [nV mm] ?_
        refine s1 2 (.int .i64 ((mm + 1 : Nat) : Int)) (.int .i64 (IntKind.i64.wrap (((mm : Nat) : Int) + 1))) (congrArg (Value.int .i64) (w64' (by omega) (by omega) (by omega))) ?_
        refine sP 3 [nV (mm + 1)] ?_
        refine sD [(3,.bool true),(4,.slice (some ah) i cap3),(5,pV b_g),(6,.slice (some ar) (i + 1) cap),(8,nV nn),(9,nV (mm + 1))] ?_
        clear hF a; intro a hF
        replace sep := sep.sub (l' := [(some ar).map (·.block),o1,b_g,(some ah).map (·.block)]) (.cons _ (.cons _ (.cons_cons _ (.cons_cons _ (.cons_cons _ (.cons_cons _ (.slnil)))))))
        show ∃ m',m' < _ ∧ _
        refine ⟨_,?_,(mm + 1),rfl,e0,kt,(by omega),hs_g,own_hl,own_rs,sep,hF⟩
        omega
     ·skip
      replace hc29 := of_decide_eq_false hc29
      refine cX 4 ?_
      show C Tryd.prog (sub b9 [1,1,1,1,1,1,1,1,1,0,1,0,0,1,1]) _ a h28
      refine cP 18 hF ?_
      refine sP 1 [nV nn] ?_
      refine s1 2 (.int .i64 ((nn + 1 : Nat) : Int)) (.int .i64 (IntKind.i64.wrap (((nn : Nat) : Int) + 1))) (congrArg (Value.int .i64) (w64' (by omega) (by omega) (by omega))) ?_
      refine sP 3 [nV (nn + 1)] ?_
      refine sD [(3,.bool true),(4,.slice ad2 i cap3),(5,pV b_g),(6,.slice (some ar) (i + 1) cap),(8,nV (nn + 1))] ?_
      clear hF a; intro a hF
      show ∃ m',m' < _ ∧ _
      refine ⟨_,?_,(nn + 1),rfl,e0,kt,(by omega),hs_g,own_hl,own_rs,sep,hF⟩
      omega
    ·skip
     replace hc27 := of_decide_eq_false hc27
     refine cX 2 ?_
     show C Tryd.prog (sub b9 [1,1,1,1,1,1,1,1,1,1]) _ a h26
     refine cS ?_
     refine cP 29 hF ?_
     refine sP 3 [.bool true,.bool true,pV b_g] ?_
     refine sC 4 (.int .i64 ((i : Nat) : Int)) (Does.call (f := 26) (args := #[.pointer (some ⟨b_g,0,none⟩)]) (by kernel_rfl) (size_n _ b_g o1 (K.take i) hs_g i (by rw [List.length_take]; omega))) ?_
     refine sP 6 [.slice ad2 i cap3,nV i] ?_
     refine s1 7 (.bool true) (.bool (((i : Nat) : Int) == ((i : Nat) : Int))) (congrArg Value.bool (beq_iff_eq.2 (by omega))) ?_
     refine sP 9 [.bool true,.bool true] ?_
     refine sD [(2,.bool true)] ?_
     clear hF a; intro a hF
     refine tK ?_
     refine cR ?_
     show retK Tryd.prog Tryd.f9 (fun v h' => v = .bool true ∧ Ext h h') .ret a h26
     refine ret_ok [.tmp 2] [.bool true] (.bool true) rfl hF ⟨rfl,trivial⟩ rfl ?_
     exact ⟨rfl,e0⟩
end Go.Proofs.YteinikjbaaembaaDoor
