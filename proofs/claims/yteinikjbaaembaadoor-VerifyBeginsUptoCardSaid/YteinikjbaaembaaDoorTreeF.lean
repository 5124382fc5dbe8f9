/- Walks of trees of hashes: what each function computes, as a law of its calls. No condition but those that each theorem names. -/
import Derived.Test.YteinikjbaaembaaDoorTreeA
import Derived.Test.YteinikjbaaembaaDoorTreeE
namespace Go.Proofs.YteinikjbaaembaaDoor
open Go Go.Lane Go.Sha
noncomputable def b17 : Code := Tryd.f17.body.getD .skip
theorem rroot_step (h : Heap) (L : List Hs) (va : Option Addr) (vc n : Nat) (hL : HR h va vc n L) (hn : n ≤ 1099511627000) (ih : ∀ (h' : Heap) (L' : List Hs) (va' : Option Addr) (vc' n' : Nat),n' < n → HR h' va' vc' n' L' → Sat Tryd.prog 17 #[.slice va' n' vc'] h' fun v k => v = hv (root L') ∧ Ext h' k) : Sat Tryd.prog 17 #[.slice va n vc] h fun v h' => v = hv (root L) ∧ Ext h h' := by
 have hLn := hL.2.2
 have e0 := Ext.refl h
 have sep : Sep h.size h.size [] := Sep.nil _ _
 refine sat_of (args := [.slice va n vc]) (fn := Tryd.f17) (B := b17) (n := 26) (L := [(0,.slice va n vc)]) Tryd.func17 rfl (by kernel_rfl) rfl ?_
 intro a hF
 refine cS ?_
 refine cP 0 hF ?_
 refine SeqK.eff (k' := 1) (Does.new (v := .pointer (some ⟨h.size,0,none⟩)) (o := .cells (z32.map bv).toArray 23) (by kernel_rfl)) rfl ?_
 rintro _ h1 ⟨rfl,hh⟩
 have g2 : Ext h h1 := push_ext hh
 have m3 : h1[h.size]? = some (.cells (z32.map bv).toArray 23) := push_at hh
 clear hh
 have lt4 := blk_lt m3
 have zs5 := e0.size
 have hlo := e0.size
 have sepo := sep
 replace e0 := e0.ext g2
 replace sep := sep.up g2.size
 replace sep := sepo.new hlo (blk_lt m3)
 clear sepo hlo
 refine sD [(0,.slice va n vc),(2,pV h.size)] ?_
 clear hF a; intro a hF
 refine tK ?_
 refine cS ?_
 refine cS ?_
 refine cP 1 hF ?_
 refine sP 3 [.slice va n vc,nV n,.bool (decide (((n : Nat) : Int) = (0 : Int)))] ?_
 refine sD [(0,.slice va n vc),(2,pV h.size),(6,.bool (decide (((n : Nat) : Int) = (0 : Int))))] ?_
 clear hF a; intro a hF
 refine tK ?_
 refine cC 6 (decide (((n : Nat) : Int) = (0 : Int))) hF (fun hc6 => ?_) (fun hc6 => ?_)
 ·skip
  replace hc6 := of_decide_eq_true hc6
  refine cS ?_
  refine cP 2 hF ?_
  refine SeqK.eff (k' := 1) (Does.call (f := 35) (args := #[.slice none 0 0]) (by kernel_rfl) (rsum_n _ [] 0 none 0 (Row.nil _ 1) rfl (by decide))) rfl ?_
  rintro _ h7 ⟨rfl,g⟩
  replace e0 := e0.ext g
  replace m3 := Ext.blk g m3
  replace sep := sep.up g.size
  clear g
  refine SeqK.eff (k' := 2) (Does.store (b := h.size) (off := 0) (vs := (sha []).map bv) (l := z32.map bv) (storeOp_of (by kernel_rfl) (hlm rfl)) m3 (hfit rfl rfl) (ones_map _)) rfl ?_
  rintro _ h8 ⟨rfl,hh⟩
  have g9 : Grew (some (h.size)) h7 h8 := hput_gr hh
  replace m3 : h8[h.size]? = some (.cells ((sha []).map bv).toArray 23) := hput_at (off := 0) (vs := (sha []).map bv) (l := (z32.map bv)) hh (hsplice rfl rfl) m3
  clear hh
  replace e0 := e0.grew g9 (sep.low 0 rfl)
  replace sep := sep.up g9.size
  refine sD [(2,pV h.size)] ?_
  clear hF a; intro a hF
  refine tK ?_
  refine cR ?_
  show retK Tryd.prog Tryd.f17 (fun v h' => v = hv (root L) ∧ Ext h h') .ret a h8
  refine ret_ok [.cell 2 23] [.agg ((sha []).map bv).toArray] (.agg ((sha []).map bv).toArray) rfl hF ⟨⟨_,rfl,Loads.hash (by kernel_rfl) rfl m3⟩,trivial⟩ rfl ?_
  exact ⟨congrArg hv (root_nil' (by omega)),e0⟩
 ·skip
  replace hc6 := of_decide_eq_false hc6
  refine cN ?_
  refine tK ?_
  refine cS ?_
  refine cS ?_
  refine cP 3 hF ?_
  refine sP 3 [.slice va n vc,nV n,.bool (decide (((n : Nat) : Int) = (1 : Int)))] ?_
  refine sD [(0,.slice va n vc),(2,pV h.size),(10,.bool (decide (((n : Nat) : Int) = (1 : Int))))] ?_
  clear hF a; intro a hF
  refine tK ?_
  refine cC 10 (decide (((n : Nat) : Int) = (1 : Int))) hF (fun hc10 => ?_) (fun hc10 => ?_)
  ·skip
   replace hc10 := of_decide_eq_true hc10
   obtain ⟨aa,rfl,hcap⟩ := hL.someA (by omega)
   refine cS ?_
   refine cP 4 hF ?_
   refine sP 1 [.slice (some aa) n vc] ?_
   refine sC 2 (.pointer (some aa)) ((Calm.indexA (a := aa) (len := n) (sz := 32) (k := (0 : Int)) 0 0 (by kernel_rfl) rfl (by omega) (by omega)) _) ?_
   refine sC 3 (.agg ((L.getD 0 []).map bv).toArray) (Calm.load (T := 23) (p := aa) (by kernel_rfl) (HR.loads (k := 0) (q := 0) (hL.ext e0) (by kernel_rfl) (by omega) (by omega))) ?_
   refine SeqK.eff (k' := 4) (Does.store (b := h.size) (off := 0) (vs := (L.getD 0 []).map bv) (l := z32.map bv) (storeOp_of (by kernel_rfl) (hlm (hL.2.1.get (k := 0) (by rw [hL.2.2]; omega)))) m3 (hfit rfl (hL.2.1.get (k := 0) (by rw [hL.2.2]; omega))) (ones_map _)) rfl ?_
   rintro _ h11 ⟨rfl,hh⟩
   have g12 : Grew (some (h.size)) h1 h11 := hput_gr hh
   replace m3 : h11[h.size]? = some (.cells ((L.getD 0 []).map bv).toArray 23) := hput_at (off := 0) (vs := (L.getD 0 []).map bv) (l := (z32.map bv)) hh (hsplice rfl (hL.2.1.get (k := 0) (by rw [hL.2.2]; omega))) m3
   clear hh
   replace e0 := e0.grew g12 (sep.low 0 rfl)
   replace sep := sep.up g12.size
   refine sD [(2,pV h.size)] ?_
   clear hF a; intro a hF
   refine tK ?_
   refine cR ?_
   show retK Tryd.prog Tryd.f17 (fun v h' => v = hv (root L) ∧ Ext h h') .ret a h11
   refine ret_ok [.cell 2 23] [.agg ((L.getD 0 []).map bv).toArray] (.agg ((L.getD 0 []).map bv).toArray) rfl hF ⟨⟨_,rfl,Loads.hash (by kernel_rfl) (hL.2.1.get (k := 0) (by rw [hL.2.2]; omega)) m3⟩,trivial⟩ rfl ?_
   exact ⟨congrArg hv (root_one' (by omega)),e0⟩
  ·skip
   replace hc10 := of_decide_eq_false hc10
   obtain ⟨aa,rfl,hcap⟩ := hL.someA (by omega)
   have hhl := half_lt (n := n) (by omega)
   have hhp := half_pos n
   obtain ⟨ad2,had2⟩ : ∃ x,x = if vc = half n then (some aa : Option Addr) else (some aa : Option Addr).map (·.add (half n * 32)) := ⟨_,rfl⟩
   refine cN ?_
   refine tK ?_
   refine cS ?_
   refine cP 5 hF ?_
   refine sP 2 [.slice (some aa) n vc,nV n] ?_
   refine sC 3 (.int .i64 ((half n : Nat) : Int)) (Does.call (f := 36) (args := #[.int .i64 ((n : Nat) : Int)]) (by kernel_rfl) (rhalf_sat _ n (by omega) (by omega))) ?_
   refine sP 4 [nV (half n)] ?_
   refine sD [(0,.slice (some aa) n vc),(2,pV h.size),(3,nV (half n))] ?_
   clear hF a; intro a hF
   refine tK ?_
   refine cS ?_
   refine cD [0,0,3,7,0,0,48,127,255,511] 6 mixed hF ?_
   refine mP 3 [0,1] [.slice (some aa) n vc,nV (half n)] ?_
   refine mF 7 2 (.slice (some aa) (half n) vc) (fun h => Calm.sliceO (a := (some aa)) (len := n) (cap := vc) (sz := 32) (x := (some aa)) 0 (half n) vc (half n) vc (by kernel_rfl) (.inl ⟨rfl,rfl⟩) (.inr rfl) (.inl ⟨rfl,rfl⟩) (by omega) (by omega) (opt_add0 _ 32) (by first | rfl | omega) (by first | rfl | omega) h) ?_
   refine mP 55 [4,5] [.slice (some aa) n vc,nV (half n)] ?_
   refine mF 119 6 (.slice ad2 (n - half n) (vc - half n)) (fun h => Calm.sliceO (a := (some aa)) (len := n) (cap := vc) (sz := 32) (x := ad2) (half n) n vc (n - half n) (vc - half n) (by kernel_rfl) (.inl ⟨rfl,rfl⟩) (.inl ⟨rfl,rfl⟩) (.inr rfl) (by omega) (by omega) had2 (by first | rfl | omega) (by first | rfl | omega) h) ?_
   refine SimK.eff0 (i := 3) (D' := 127) (X' := 15) (by kernel_rfl) (by kernel_rfl) (by kernel_rfl) (by kernel_rfl) (Does.call (f := 17) (args := #[.slice (some aa) (half n) vc]) (by kernel_rfl) (ih _ (L.take (half n)) _ _ (half n) (by omega) ((hL.ext e0).take (k := half n) (by omega)))) ?_
   rintro _ h13 ⟨rfl,g⟩
   replace e0 := e0.ext g
   replace m3 := Ext.blk g m3
   replace sep := sep.up g.size
   clear g
   refine SimK.eff0 (i := 7) (D' := 255) (X' := 255) (by kernel_rfl) (by kernel_rfl) (by kernel_rfl) (by kernel_rfl) (Does.call (f := 17) (args := #[.slice ad2 (n - half n) (vc - half n)]) (by kernel_rfl) (ih _ (L.drop (half n)) _ _ (n - half n) (by omega) ((hL.ext e0).drop (by omega) had2))) ?_
   rintro _ h14 ⟨rfl,g⟩
   replace e0 := e0.ext g
   replace m3 := Ext.blk g m3
   replace sep := sep.up g.size
   clear g
   refine SimK.eff0 (i := 8) (D' := 511) (X' := 511) (by kernel_rfl) (by kernel_rfl) (by kernel_rfl) (by kernel_rfl) (Does.call (f := 37) (args := #[.agg ((root (L.take (half n))).map bv).toArray,.agg ((root (L.drop (half n))).map bv).toArray]) (by kernel_rfl) (rnode_sat _ (root (L.take (half n))) (root (L.drop (half n))) (root_len (hL.2.1.take _)) (root_len (hL.2.1.drop _)))) ?_
   rintro _ h15 ⟨rfl,g⟩
   replace e0 := e0.ext g
   replace m3 := Ext.blk g m3
   replace sep := sep.up g.size
   clear g
   refine SimK.eff0 (i := 9) (D' := 1023) (X' := 1023) (by kernel_rfl) (by kernel_rfl) (by kernel_rfl) (by kernel_rfl) (Does.store (b := h.size) (off := 0) (vs := (nodeH (root (L.take (half n))) (root (L.drop (half n)))).map bv) (l := z32.map bv) (storeOp_of (by kernel_rfl) (hlm (node_len _ _))) m3 (hfit rfl (node_len _ _)) (ones_map _)) ?_
   rintro _ h16 ⟨rfl,hh⟩
   have g17 : Grew (some (h.size)) h15 h16 := hput_gr hh
   replace m3 : h16[h.size]? = some (.cells ((nodeH (root (L.take (half n))) (root (L.drop (half n)))).map bv).toArray 23) := hput_at (off := 0) (vs := (nodeH (root (L.take (half n))) (root (L.drop (half n)))).map bv) (l := (z32.map bv)) hh (hsplice rfl (node_len _ _)) m3
   clear hh
   replace e0 := e0.grew g17 (sep.low 0 rfl)
   replace sep := sep.up g17.size
   refine mD [(2,pV h.size)] ?_
   clear hF a; intro a hF
   refine tK ?_
   refine cR ?_
   show retK Tryd.prog Tryd.f17 (fun v h' => v = hv (root L) ∧ Ext h h') .ret a h16
   refine ret_ok [.cell 2 23] [.agg ((nodeH (root (L.take (half n))) (root (L.drop (half n)))).map bv).toArray] (.agg ((nodeH (root (L.take (half n))) (root (L.drop (half n)))).map bv).toArray) rfl hF ⟨⟨_,rfl,Loads.hash (by kernel_rfl) (node_len _ _) m3⟩,trivial⟩ rfl ?_
   exact ⟨congrArg hv (root_half hLn (by omega)),e0⟩
theorem rroot_all : ∀ (m n : Nat),n ≤ m → ∀ (h : Heap) (L : List Hs) (va : Option Addr) (vc : Nat),HR h va vc n L → n ≤ 1099511627000 → Sat Tryd.prog 17 #[.slice va n vc] h fun v h' => v = hv (root L) ∧ Ext h h'
 | 0,n,hm,h,L,va,vc,hL,hn => rroot_step h L va vc n hL hn fun _ _ _ _ _ hlt _ => by omega
 | m + 1,n,hm,h,L,va,vc,hL,hn => rroot_step h L va vc n hL hn fun _ _ _ _ _ hlt hL' => rroot_all m _ (by omega) _ _ _ _ hL' (by omega)
theorem rroot_sat (h : Heap) (L : List Hs) (va : Option Addr) (vc n : Nat) (hL : HR h va vc n L) (hn : n ≤ 1099511627000) : Sat Tryd.prog 17 #[.slice va n vc] h fun v h' => v = hv (root L) ∧ Ext h h' := rroot_all n n (Nat.le_refl _) h L va vc hL hn
end Go.Proofs.YteinikjbaaembaaDoor
