/- Walks of trees of hashes: what each function computes, as a law of its calls. No condition but those that each theorem names. -/
import Derived.Test.YtkjlafiefgbjpaaDoorTreeC
namespace Go.Proofs.YtkjlafiefgbjpaaDoor
open Go Go.Lane Go.Sha
theorem newgrow_l (h : Heap) : Sat Tryd.prog 30 #[] h fun v h' => ∃ b,v = .pointer (some ⟨b,0,none⟩) ∧ GrowL h' b none [] ∧ h.size ≤ b ∧ Ext h h' :=
 (newgrow_sat h).mono fun _ _ ⟨b,e,g,r⟩ => ⟨b,e,⟨[],g,Forest.zero 0⟩,r⟩
theorem groot_l (h : Heap) (b : Nat) (o : Option Nat) (L : List Hs) (g : GrowL h b o L) (kt : Ktab h) (hn : L.length ≤ 1099511627000) : Sat Tryd.prog 32 #[.pointer (some ⟨b,0,none⟩)] h fun v h' => v = hv (root L) ∧ Ext h h' := by
 obtain ⟨ps,g,f⟩ := g
 have hp := f.parts_le
 exact (growroot_sat h b o _ ps g (fun e => (f.root.1 e).1) (fun e => List.length_pos_iff.2 (f.root.2 e).1) kt (by omega) (by omega)).mono fun _ _ ⟨e,x⟩ => ⟨by rw [← f.growR]; exact e,x⟩
theorem add_l (h : Heap) (b : Nat) (o : Option Nat) (L : List Hs) (g : GrowL h b o L) (x : Hs) (hx : x.length = 32) (kt : Ktab h) (hb0 : 0 < b) (ho0 : o ≠ some 0) (hn : L.length ≤ 1099511627000) :
  Sat Tryd.prog 31 #[.pointer (some ⟨b,0,none⟩),.agg (x.map bv).toArray] h fun _ h' => ∃ o',GrowL h' b o' (L ++ [x]) ∧ (o' = o ∨ ∃ g,o' = some g ∧ h.size ≤ g) ∧ Gr (fun k => k = b ∨ some k = o) h h' := by
 obtain ⟨ps,g,f⟩ := g
 have hp := f.parts_le
 refine (growadd_sat h b o _ ps g x hx ⟨_,_,f⟩ kt hb0 ho0 (by omega) (by omega)).mono fun _ _ ⟨o',s,e,r⟩ => ⟨o',⟨addP L.length ps x,?_,?_⟩,e,r⟩
 ·rw [List.length_append,List.length_singleton]; exact s
 ·rw [List.length_append,List.length_singleton]; exact f.add (by simp) rfl
noncomputable def b21 : Code := Tryd.f21.body.getD .skip
theorem troot_sat (h : Heap) (L : List Hs) (va : Option Addr) (vc n : Nat) (hL : HR h va vc n L) (kt : Ktab h) (hn : n ≤ 1099511627000) : Sat Tryd.prog 21 #[.slice va n vc] h fun v h' => v = hv (root L) ∧ Ext h h' := by
 have hLn := hL.2.2
 have e0 := Ext.refl h
 have h0s := kt.lt
 have sep : Sep h.size h.size [] := Sep.nil _ _
 refine sat_of (args := [.slice va n vc]) (fn := Tryd.f21) (B := b21) (n := 19) (L := [(0,.slice va n vc)]) Tryd.func21 rfl (by kernel_rfl) rfl ?_
 intro a hF
 refine cS ?_
 refine cP 0 hF ?_
 refine SeqK.eff (k' := 1) (Does.new (v := .pointer (some ⟨h.size,0,none⟩)) (o := .cells (z32.map bv).toArray 31) (by kernel_rfl)) rfl ?_
 rintro _ h1 ⟨rfl,hh⟩
 have g2 : Ext h h1 := push_ext hh
 have m3 : h1[h.size]? = some (.cells (z32.map bv).toArray 31) := push_at hh
 clear hh
 have lt4 := blk_lt m3
 have zs5 := e0.size
 have hlo := e0.size
 have sepo := sep
 replace e0 := e0.ext g2
 replace kt := kt.ext g2
 replace sep := sep.up g2.size
 replace sep := sepo.new hlo (blk_lt m3)
 clear sepo hlo
 refine sD [(0,.slice va n vc),(2,pV h.size)] ?_
 clear hF a; intro a hF
 refine tK ?_
 refine cS ?_
 refine cP 1 hF ?_
 refine SeqK.eff (k' := 1) (Does.call (f := 30) (args := #[]) (by kernel_rfl) (newgrow_l _)) rfl ?_
 rintro _ h6 ⟨b_g,rfl,hs_g,hge,g⟩
 have hlo := e0.size
 have sepo := sep
 replace e0 := e0.ext g
 replace kt := kt.ext g
 replace m3 := Ext.blk g m3
 replace sep := sep.up g.size
 have hlt := hs_g.lt.1
 replace sep := (sepo.cons (x := some b_g) g.size (by omega) (fun k e => by cases e; exact ⟨hge,hlt⟩)).none (by omega)
 clear hge hlo hlt g sepo
 refine sP 2 [pV b_g] ?_
 refine sD [(0,.slice va n vc),(2,pV h.size),(3,pV b_g)] ?_
 clear hF a; intro a hF
 refine tK ?_
 refine cS ?_
 refine cS ?_
 refine cP 2 hF ?_
 refine sP 3 [.slice va n vc,nV n,.int .i64 0] ?_
 refine sD [(2,pV h.size),(3,pV b_g),(7,.slice va n vc),(8,nV n),(9,.int .i64 0)] ?_
 clear hF a; intro a hF
 refine tK ?_
 refine cB 0 ?_
 refine C.loop (fun m a h' => ∃ i : Nat,∃ o1 : Option Nat,m = n - i ∧ (Ext h h') ∧ (Ktab h') ∧ (h'[h.size]? = some (.cells (z32.map bv).toArray 31)) ∧ (i ≤ n) ∧ (GrowL h' b_g o1 (L.take i)) ∧ (Sep h.size h'.size [o1,b_g,some (h.size)]) ∧ (Fr a 19 [(2,.pointer (some ⟨h.size,0,none⟩)),(3,.pointer (some ⟨b_g,0,none⟩)),(7,.slice va n vc),(8,.int .i64 ((n : Nat) : Int)),(9,.int .i64 ((i : Nat) : Int))])) (n - 0) [1,1,0,1,0,0] (by kernel_rfl) ⟨0,none,rfl,e0,kt,m3,(by omega),hs_g,sep,hF⟩ ?_
 clear hF a
 clear e0
 clear kt
 clear m3
 clear hs_g
 clear sep
 rintro m a h7 ⟨i,o1,rfl,e0,kt,m3,hin,hs_g,sep,hF⟩
 refine cS ?_
 refine cP 3 hF ?_
 refine sP 1 [.bool (decide (((i : Nat) : Int) < ((n : Nat) : Int)))] ?_
 refine sD [(2,pV h.size),(3,pV b_g),(7,.slice va n vc),(8,nV n),(9,nV i),(10,.bool (decide (((i : Nat) : Int) < ((n : Nat) : Int))))] ?_
 clear hF a; intro a hF
 refine tK ?_
 refine cS ?_
 refine cC 10 (decide (((i : Nat) : Int) < ((n : Nat) : Int))) hF (fun hc8 => ?_) (fun hc8 => ?_)
 ·skip
  replace hc8 := of_decide_eq_true hc8
  have hi2 : i < n := by omega
  obtain ⟨aa,rfl,hcap⟩ := hL.someA (by omega)
  refine cN ?_
  refine tK ?_
  refine cS ?_
  refine cB 1 ?_
  refine cS ?_
  refine cP 4 hF ?_
  refine sC 1 (.pointer (some (Addr.add aa (i * 32)))) ((Calm.indexA (a := aa) (len := n) (sz := 32) (k := ((i : Nat) : Int)) i (i * 32) (by kernel_rfl) rfl (by omega) (by omega)) _) ?_
  refine sC 2 (.agg ((L.getD i []).map bv).toArray) (Calm.load (T := 31) (p := (Addr.add aa (i * 32))) (by kernel_rfl) (HR.loads (k := i) (q := i * 32) (hL.ext e0) (by kernel_rfl) (by omega) (by omega))) ?_
  refine SeqK.eff (k' := 3) (Does.new (v := .pointer (some ⟨h7.size,0,none⟩)) (o := .cells (z32.map bv).toArray 31) (by kernel_rfl)) rfl ?_
  rintro _ h9 ⟨rfl,hh⟩
  have g10 : Ext h7 h9 := push_ext hh
  have m11 : h9[h7.size]? = some (.cells (z32.map bv).toArray 31) := push_at hh
  clear hh
  have lt12 := blk_lt m11
  have zs13 := e0.size
  have hlo := e0.size
  have sepo := sep
  replace e0 := e0.ext g10
  replace kt := kt.ext g10
  replace hs_g := hs_g.ext g10
  replace m3 := Ext.blk g10 m3
  replace sep := sep.up g10.size
  replace sep := sepo.new hlo (blk_lt m11)
  clear sepo hlo
  refine SeqK.eff (k' := 4) (Does.store (b := h7.size) (off := 0) (vs := (L.getD i []).map bv) (l := z32.map bv) (storeOp_of (by kernel_rfl) (hlm (hL.2.1.get (k := i) (by rw [hL.2.2]; omega)))) m11 (hfit rfl (hL.2.1.get (k := i) (by rw [hL.2.2]; omega))) (ones_map _)) rfl ?_
  rintro _ h14 ⟨rfl,hh⟩
  have g15 : Grew (some (h7.size)) h9 h14 := hput_gr hh
  replace m11 : h14[h7.size]? = some (.cells ((L.getD i []).map bv).toArray 31) := hput_at (off := 0) (vs := (L.getD i []).map bv) (l := (z32.map bv)) hh (hsplice rfl (hL.2.1.get (k := i) (by rw [hL.2.2]; omega))) m11
  clear hh
  replace e0 := e0.grew g15 (sep.low 0 rfl)
  replace kt := kt.grew g15 (sep.zero 0 rfl h0s)
  replace hs_g := hs_g.put g15 (sep.bp 2 0) (sep.ap 1 0)
  replace m3 := Grew.blk g15 m3 ((sep.bp 3 0))
  replace sep := sep.up g15.size
  refine sD [(2,pV h.size),(3,pV b_g),(5,pV h7.size),(7,.slice (some aa) n vc),(8,nV n),(9,nV i)] ?_
  clear hF a; intro a hF
  refine tK ?_
  refine cP 5 hF ?_
  refine sP 1 [pV b_g] ?_
  refine sC 2 (.agg ((L.getD i []).map bv).toArray) (Calm.load (T := 31) (p := ⟨h7.size,0,none⟩) (by kernel_rfl) (Loads.hash (by kernel_rfl) (hL.2.1.get (k := i) (by rw [hL.2.2]; omega)) m11)) ?_
  refine SeqK.eff (k' := 3) (Does.call (f := 31) (args := #[.pointer (some ⟨b_g,0,none⟩),.agg ((L.getD i []).map bv).toArray]) (by kernel_rfl) (add_l _ b_g o1 (L.take i) hs_g (L.getD i []) (hL.2.1.get (k := i) (by rw [hL.2.2]; omega)) kt (by have := sep.low 2 rfl _ rfl; omega) (fun e => sep.zero 1 rfl h0s e.symm) (by rw [List.length_take]; omega))) rfl ?_
  rintro _ h17 ⟨o16,hs',ho',g⟩
  have hlo := e0.size
  replace e0 := Gr.toExt e0 g (sep.lowF 2 1 rfl rfl)
  replace kt := kt.gr g (sep.zeroF 2 1 rfl rfl h0s)
  replace hs_g : GrowL h17 b_g o16 (L.take i ++ [(L.getD i [])]) := hs'
  replace m3 := g.blk m3 ((sep.gF 3 2 1 rfl rfl rfl (by decide) (by decide)) _ rfl)
  replace m11 := g.blk m11 ((sep.gF 0 2 1 rfl rfl rfl (by decide) (by decide)) _ rfl)
  replace sep := sep.set g.1 hlo 1 (y := o16) rfl (ho'.imp id .inr) (fun k e => hs'.lt.2 k e)
  replace sep : Sep h.size h17.size [some (h7.size),o16,b_g,some (h.size)] := sep
  clear hs' ho' g hlo
  refine sD [(2,pV h.size),(3,pV b_g),(7,.slice (some aa) n vc),(8,nV n),(9,nV i)] ?_
  clear hF a; intro a hF
  show C Tryd.prog (sub b21 [1,1,0,1,0,0,1,1,1]) _ a h17
  refine cP 6 hF ?_
  refine s1 1 (.int .i64 ((i + 1 : Nat) : Int)) (.int .i64 (IntKind.i64.wrap (((i : Nat) : Int) + 1))) (congrArg (Value.int .i64) (w64' (by omega) (by omega) (by omega))) ?_
  refine sP 2 [nV (i + 1)] ?_
  refine sD [(2,pV h.size),(3,pV b_g),(7,.slice (some aa) n vc),(8,nV n),(9,nV (i + 1))] ?_
  clear hF a; intro a hF
  rw [take_next hL hi2] at hs_g
  replace sep := sep.sub (l' := [o16,b_g,some (h.size)]) (.cons _ (.cons_cons _ (.cons_cons _ (.cons_cons _ (.slnil)))))
  show ∃ m',m' < _ ∧ _
  refine ⟨_,?_,(i + 1),o16,rfl,e0,kt,m3,(by omega),hs_g,sep,hF⟩
  omega
 ·skip
  replace hc8 := of_decide_eq_false hc8
  obtain rfl : i = n := by omega
  rw [List.take_of_length_le (by rw [hL.2.2]; omega)] at hs_g
  refine cX 0 ?_
  show C Tryd.prog (sub b21 [1,1,1]) _ a h7
  refine cS ?_
  refine cP 7 hF ?_
  refine sP 1 [pV b_g] ?_
  refine SeqK.eff (k' := 2) (Does.call (f := 32) (args := #[.pointer (some ⟨b_g,0,none⟩)]) (by kernel_rfl) (groot_l _ b_g o1 L hs_g kt (by omega))) rfl ?_
  rintro _ h18 ⟨rfl,g⟩
  replace e0 := e0.ext g
  replace kt := kt.ext g
  replace hs_g := hs_g.ext g
  replace m3 := Ext.blk g m3
  replace sep := sep.up g.size
  clear g
  refine SeqK.eff (k' := 3) (Does.store (b := h.size) (off := 0) (vs := (root L).map bv) (l := z32.map bv) (storeOp_of (by kernel_rfl) (hlm (root_len hL.2.1))) m3 (hfit rfl (root_len hL.2.1)) (ones_map _)) rfl ?_
  rintro _ h19 ⟨rfl,hh⟩
  have g20 : Grew (some (h.size)) h18 h19 := hput_gr hh
  replace m3 : h19[h.size]? = some (.cells ((root L).map bv).toArray 31) := hput_at (off := 0) (vs := (root L).map bv) (l := (z32.map bv)) hh (hsplice rfl (root_len hL.2.1)) m3
  clear hh
  replace e0 := e0.grew g20 (sep.low 2 rfl)
  replace kt := kt.grew g20 (sep.zero 2 rfl h0s)
  replace hs_g := hs_g.put g20 (sep.bp 1 2) (sep.ap 0 2)
  replace sep := sep.up g20.size
  refine sD [(2,pV h.size)] ?_
  clear hF a; intro a hF
  refine tK ?_
  refine cR ?_
  show retK Tryd.prog Tryd.f21 (fun v h' => v = hv (root L) ∧ Ext h h') .ret a h19
  refine ret_ok [.cell 2 31] [.agg ((root L).map bv).toArray] (.agg ((root L).map bv).toArray) rfl hF ⟨⟨_,rfl,Loads.hash (by kernel_rfl) (root_len hL.2.1) m3⟩,trivial⟩ rfl ?_
  exact ⟨rfl,e0⟩
end Go.Proofs.YtkjlafiefgbjpaaDoor
