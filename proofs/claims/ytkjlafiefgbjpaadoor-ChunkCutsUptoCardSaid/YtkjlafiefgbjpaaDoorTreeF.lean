/- Walks of trees of hashes: what each function computes, as a law of its calls. No condition but those that each theorem names. -/
import Derived.Test.YtkjlafiefgbjpaaDoorTreeA
import Derived.Test.YtkjlafiefgbjpaaDoorTreeE
namespace Go.Proofs.YtkjlafiefgbjpaaDoor
open Go Go.Lane Go.Sha
noncomputable def b22 : Code := Tryd.f22.body.getD .skip
theorem rroot_step (h : Heap) (L : List Hs) (va : Option Addr) (vc n : Nat) (hL : HR h va vc n L) (hn : n ≤ 1099511627000) (ih : ∀ (h' : Heap) (L' : List Hs) (va' : Option Addr) (vc' n' : Nat),n' < n → HR h' va' vc' n' L' → Sat Tryd.prog 22 #[.slice va' n' vc'] h' fun v k => v = hv (root L') ∧ Ext h' k) : Sat Tryd.prog 22 #[.slice va n vc] h fun v h' => v = hv (root L) ∧ Ext h h' := by
 have hLn := hL.2.2
 have e0 := Ext.refl h
 have sep : Sep h.size h.size [] := Sep.nil _ _
 refine sat_of (args := [.slice va n vc]) (fn := Tryd.f22) (B := b22) (n := 26) (L := [(0,.slice va n vc)]) Tryd.func22 rfl (by kernel_rfl) rfl ?_
 intro a hF
 refine cS ?_
 refine cP 0 hF ?_
 refine SeqK.eff (k' := 1) (Does.new (v := .pointer (some ⟨h.size,0,none⟩)) (o := .cells (z32.map bv).toArray 31) (by kernel_rfl)) rfl ?_
 rintro _ h1 ⟨rfl,hh⟩
 have g2 : Ext h h1 := push_ext hh
 have m3 : h1[h.size]? = some (.cells (z32.map bv).toArray 31) := push_at hh
 clear hh
 have lt4 := blk_lt m3
 have zs5 := e0.size
 have hlo := e0.size
 have sepo := sep
 replace e0 := e0.ext g2
 replace sep := sep.up g2.size
 replace sep := sepo.new hlo (blk_lt m3)
 clear sepo hlo
 refine sD [(0,.slice va n vc),(2,pV h.size)] ?_
 clear hF a; intro a hF
 refine tK ?_
 refine cS ?_
 refine cS ?_
 refine cP 1 hF ?_
 refine sP 3 [.slice va n vc,nV n,.bool (decide (((n : Nat) : Int) = (0 : Int)))] ?_
 refine sD [(0,.slice va n vc),(2,pV h.size),(6,.bool (decide (((n : Nat) : Int) = (0 : Int))))] ?_
 clear hF a; intro a hF
 refine tK ?_
 refine cC 6 (decide (((n : Nat) : Int) = (0 : Int))) hF (fun hc6 => ?_) (fun hc6 => ?_)
 ·skip
  replace hc6 := of_decide_eq_true hc6
  refine cS ?_
  refine cP 2 hF ?_
  refine SeqK.eff (k' := 1) (Does.call (f := 26) (args := #[.slice none 0 0]) (by kernel_rfl) (rsum_n _ [] 0 none 0 (Row.nil _ 1) rfl (by decide))) rfl ?_
  rintro _ h7 ⟨rfl,g⟩
  replace e0 := e0.ext g
  replace m3 := Ext.blk g m3
  replace sep := sep.up g.size
  clear g
  refine SeqK.eff (k' := 2) (Does.store (b := h.size) (off := 0) (vs := (sha []).map bv) (l := z32.map bv) (storeOp_of (by kernel_rfl) (hlm rfl)) m3 (hfit rfl rfl) (ones_map _)) rfl ?_
  rintro _ h8 ⟨rfl,hh⟩
  have g9 : Grew (some (h.size)) h7 h8 := hput_gr hh
  replace m3 : h8[h.size]? = some (.cells ((sha []).map bv).toArray 31) := hput_at (off := 0) (vs := (sha []).map bv) (l := (z32.map bv)) hh (hsplice rfl rfl) m3
  clear hh
  replace e0 := e0.grew g9 (sep.low 0 rfl)
  replace sep := sep.up g9.size
  refine sD [(2,pV h.size)] ?_
  clear hF a; intro a hF
  refine tK ?_
  refine cR ?_
  show retK Tryd.prog Tryd.f22 (fun v h' => v = hv (root L) ∧ Ext h h') .ret a h8
  refine ret_ok [.cell 2 31] [.agg ((sha []).map bv).toArray] (.agg ((sha []).map bv).toArray) rfl hF ⟨⟨_,rfl,Loads.hash (by kernel_rfl) rfl m3⟩,trivial⟩ rfl ?_
  exact ⟨congrArg hv (root_nil' (by omega)),e0⟩
 ·skip
  replace hc6 := of_decide_eq_false hc6
  refine cN ?_
  refine tK ?_
  refine cS ?_
  refine cS ?_
  refine cP 3 hF ?_
  refine sP 3 [.slice va n vc,nV n,.bool (decide (((n : Nat) : Int) = (1 : Int)))] ?_
  refine sD [(0,.slice va n vc),(2,pV h.size),(10,.bool (decide (((n : Nat) : Int) = (1 : Int))))] ?_
  clear hF a; intro a hF
  refine tK ?_
  refine cC 10 (decide (((n : Nat) : Int) = (1 : Int))) hF (fun hc10 => ?_) (fun hc10 => ?_)
  ·skip
   replace hc10 := of_decide_eq_true hc10
   obtain ⟨aa,rfl,hcap⟩ := hL.someA (by omega)
   refine cS ?_
   refine cP 4 hF ?_
   refine sP 1 [.slice (some aa) n vc] ?_
   refine sC 2 (.pointer (some aa)) ((Calm.indexA (a := aa) (len := n) (sz := 32) (k := (0 : Int)) 0 0 (by kernel_rfl) rfl (by omega) (by omega)) _) ?_
   refine sC 3 (.agg ((L.getD 0 []).map bv).toArray) (Calm.load (T := 31) (p := aa) (by kernel_rfl) (HR.loads (k := 0) (q := 0) (hL.ext e0) (by kernel_rfl) (by omega) (by omega))) ?_
   refine SeqK.eff (k' := 4) (Does.store (b := h.size) (off := 0) (vs := (L.getD 0 []).map bv) (l := z32.map bv) (storeOp_of (by kernel_rfl) (hlm (hL.2.1.get (k := 0) (by rw [hL.2.2]; omega)))) m3 (hfit rfl (hL.2.1.get (k := 0) (by rw [hL.2.2]; omega))) (ones_map _)) rfl ?_
   rintro _ h11 ⟨rfl,hh⟩
   have g12 : Grew (some (h.size)) h1 h11 := hput_gr hh
   replace m3 : h11[h.size]? = some (.cells ((L.getD 0 []).map bv).toArray 31) := hput_at (off := 0) (vs := (L.getD 0 []).map bv) (l := (z32.map bv)) hh (hsplice rfl (hL.2.1.get (k := 0) (by rw [hL.2.2]; omega))) m3
   clear hh
   replace e0 := e0.grew g12 (sep.low 0 rfl)
   replace sep := sep.up g12.size
   refine sD [(2,pV h.size)] ?_
   clear hF a; intro a hF
   refine tK ?_
   refine cR ?_
   show retK Tryd.prog Tryd.f22 (fun v h' => v = hv (root L) ∧ Ext h h') .ret a h11
   refine ret_ok [.cell 2 31] [.agg ((L.getD 0 []).map bv).toArray] (.agg ((L.getD 0 []).map bv).toArray) rfl hF ⟨⟨_,rfl,Loads.hash (by kernel_rfl) (hL.2.1.get (k := 0) (by rw [hL.2.2]; omega)) m3⟩,trivial⟩ rfl ?_
   exact ⟨congrArg hv (root_one' (by omega)),e0⟩
  ·skip
   replace hc10 := of_decide_eq_false hc10
   obtain ⟨aa,rfl,hcap⟩ := hL.someA (by omega)
   have hhl := half_lt (n := n) (by omega)
   have hhp := half_pos n
   obtain ⟨ad2,had2⟩ : ∃ x,x = if vc = half n then (some aa : Option Addr) else (some aa : Option Addr).map (·.add (half n * 32)) := ⟨_,rfl⟩
   refine cN ?_
   refine tK ?_
   refine cS ?_
   refine cP 5 hF ?_
   refine sP 2 [.slice (some aa) n vc,nV n] ?_
   refine sC 3 (.int .i64 ((half n : Nat) : Int)) (Does.call (f := 33) (args := #[.int .i64 ((n : Nat) : Int)]) (by kernel_rfl) (rhalf_sat _ n (by omega) (by omega))) ?_
   refine sP 4 [nV (half n)] ?_
   refine sD [(0,.slice (some aa) n vc),(2,pV h.size),(3,nV (half n))] ?_
   clear hF a; intro a hF
   refine tK ?_
   refine cS ?_
   refine cD [0,0,3,7,0,0,48,127,255,511] 6 mixed hF ?_
   refine mP 3 [0,1] [.slice (some aa) n vc,nV (half n)] ?_
   refine mF 7 2 (.slice (some aa) (half n) vc) (fun h => Calm.sliceO (a := (some aa)) (len := n) (cap := vc) (sz := 32) (x := (some aa)) 0 (half n) vc (half n) vc (by kernel_rfl) (.inl ⟨rfl,rfl⟩) (.inr rfl) (.inl ⟨rfl,rfl⟩) (by omega) (by omega) (opt_add0 _ 32) (by first | rfl | omega) (by first | rfl | omega) h) ?_
   refine mP 55 [4,5] [.slice (some aa) n vc,nV (half n)] ?_
   refine mF 119 6 (.slice ad2 (n - half n) (vc - half n)) (fun h => Calm.sliceO (a := (some aa)) (len := n) (cap := vc) (sz := 32) (x := ad2) (half n) n vc (n - half n) (vc - half n) (by kernel_rfl) (.inl ⟨rfl,rfl⟩) (.inl ⟨rfl,rfl⟩) (.inr rfl) (by omega) (by omega) had2 (by first | rfl | omega) (by first | rfl | omega) h) ?_
   refine SimK.eff0 (i := 3) (D' := 127) (X' := 15) (by kernel_rfl) (by kernel_rfl) (by kernel_rfl) (by kernel_rfl) (Does.call (f := 22) (args := #[.slice (some aa) (half n) vc]) (by kernel_rfl) (ih _ (L.take (half n)) _ _ (half n) (by omega) ((hL.ext e0).take (k := half n) (by omega)))) ?_
   rintro _ h13 ⟨rfl,g⟩
   replace e0 := e0.ext g
   replace m3 := Ext.blk g m3
   replace sep := sep.up g.size
   clear g
   refine SimK.eff0 (i := 7) (D' := 255) (X' := 255) (by kernel_rfl) (by kernel_rfl) (by kernel_rfl) (by kernel_rfl) (Does.call (f := 22) (args := #[.slice ad2 (n - half n) (vc - half n)]) (by kernel_rfl) (ih _ (L.drop (half n)) _ _ (n - half n) (by omega) ((hL.ext e0).drop (by omega) had2))) ?_
   rintro _ h14 ⟨rfl,g⟩
   replace e0 := e0.ext g
   replace m3 := Ext.blk g m3
   replace sep := sep.up g.size
   clear g
   refine SimK.eff0 (i := 8) (D' := 511) (X' := 511) (by kernel_rfl) (by kernel_rfl) (by kernel_rfl) (by kernel_rfl) (Does.call (f := 34) (args := #[.agg ((root (L.take (half n))).map bv).toArray,.agg ((root (L.drop (half n))).map bv).toArray]) (by kernel_rfl) (rnode_sat _ (root (L.take (half n))) (root (L.drop (half n))) (root_len (hL.2.1.take _)) (root_len (hL.2.1.drop _)))) ?_
   rintro _ h15 ⟨rfl,g⟩
   replace e0 := e0.ext g
   replace m3 := Ext.blk g m3
   replace sep := sep.up g.size
   clear g
   refine SimK.eff0 (i := 9) (D' := 1023) (X' := 1023) (by kernel_rfl) (by kernel_rfl) (by kernel_rfl) (by kernel_rfl) (Does.store (b := h.size) (off := 0) (vs := (nodeH (root (L.take (half n))) (root (L.drop (half n)))).map bv) (l := z32.map bv) (storeOp_of (by kernel_rfl) (hlm (node_len _ _))) m3 (hfit rfl (node_len _ _)) (ones_map _)) ?_
   rintro _ h16 ⟨rfl,hh⟩
   have g17 : Grew (some (h.size)) h15 h16 := hput_gr hh
   replace m3 : h16[h.size]? = some (.cells ((nodeH (root (L.take (half n))) (root (L.drop (half n)))).map bv).toArray 31) := hput_at (off := 0) (vs := (nodeH (root (L.take (half n))) (root (L.drop (half n)))).map bv) (l := (z32.map bv)) hh (hsplice rfl (node_len _ _)) m3
   clear hh
   replace e0 := e0.grew g17 (sep.low 0 rfl)
   replace sep := sep.up g17.size
   refine mD [(2,pV h.size)] ?_
   clear hF a; intro a hF
   refine tK ?_
   refine cR ?_
   show retK Tryd.prog Tryd.f22 (fun v h' => v = hv (root L) ∧ Ext h h') .ret a h16
   refine ret_ok [.cell 2 31] [.agg ((nodeH (root (L.take (half n))) (root (L.drop (half n)))).map bv).toArray] (.agg ((nodeH (root (L.take (half n))) (root (L.drop (half n)))).map bv).toArray) rfl hF ⟨⟨_,rfl,Loads.hash (by kernel_rfl) (node_len _ _) m3⟩,trivial⟩ rfl ?_
   exact ⟨congrArg hv (root_half hLn (by omega)),e0⟩
theorem rroot_all : ∀ (m n : Nat),n ≤ m → ∀ (h : Heap) (L : List Hs) (va : Option Addr) (vc : Nat),HR h va vc n L → n ≤ 1099511627000 → Sat Tryd.prog 22 #[.slice va n vc] h fun v h' => v = hv (root L) ∧ Ext h h'
 | 0,n,hm,h,L,va,vc,hL,hn => rroot_step h L va vc n hL hn fun _ _ _ _ _ hlt _ => by omega
 | m + 1,n,hm,h,L,va,vc,hL,hn => rroot_step h L va vc n hL hn fun _ _ _ _ _ hlt hL' => rroot_all m _ (by omega) _ _ _ _ hL' (by omega)
theorem rroot_sat (h : Heap) (L : List Hs) (va : Option Addr) (vc n : Nat) (hL : HR h va vc n L) (hn : n ≤ 1099511627000) : Sat Tryd.prog 22 #[.slice va n vc] h fun v h' => v = hv (root L) ∧ Ext h h' := rroot_all n n (Nat.le_refl _) h L va vc hL hn
noncomputable def b29 : Code := Tryd.f29.body.getD .skip
theorem rproof_step (h : Heap) (L : List Hs) (va : Option Addr) (vc n : Nat) (hL : HR h va vc n L) (hn : n ≤ 1099511627000) (m : Nat) (hm : m < n) (ih : ∀ (h' : Heap) (L' : List Hs) (va' : Option Addr) (vc' n' m' : Nat),n' < n → m' < n' → HR h' va' vc' n' L' → Sat Tryd.prog 29 #[.slice va' n' vc',.int .i64 ((m' : Nat) : Int)] h' fun v k => OwnNew h' k 31 v (incl L' m')) : Sat Tryd.prog 29 #[.slice va n vc,.int .i64 ((m : Nat) : Int)] h fun v h' => OwnNew h h' 31 v (incl L m) := by
 have hLn := hL.2.2
 have e0 := Ext.refl h
 have sep : Sep h.size h.size [] := Sep.nil _ _
 refine sat_of (args := [.slice va n vc,.int .i64 ((m : Nat) : Int)]) (fn := Tryd.f29) (B := b29) (n := 39) (L := [(0,.slice va n vc),(1,.int .i64 ((m : Nat) : Int))]) Tryd.func29 rfl (by kernel_rfl) rfl ?_
 intro a hF
 refine cS ?_
 refine cP 0 hF ?_
 refine sP 1 [.slice none 0 0] ?_
 refine sD [(0,.slice va n vc),(1,nV m)] ?_
 clear hF a; intro a hF
 refine tK ?_
 refine cS ?_
 refine cS ?_
 refine cP 1 hF ?_
 refine sP 3 [.slice va n vc,nV n,.bool (decide (((n : Nat) : Int) = (1 : Int)))] ?_
 refine sD [(0,.slice va n vc),(1,nV m),(8,.bool (decide (((n : Nat) : Int) = (1 : Int))))] ?_
 clear hF a; intro a hF
 refine tK ?_
 refine cC 8 (decide (((n : Nat) : Int) = (1 : Int))) hF (fun hc1 => ?_) (fun hc1 => ?_)
 ·skip
  replace hc1 := of_decide_eq_true hc1
  refine cS ?_
  refine cP 2 hF ?_
  refine sP 1 [.slice none 0 0] ?_
  refine sD [(4,.slice none 0 0)] ?_
  clear hF a; intro a hF
  refine tK ?_
  refine cR ?_
  show retK Tryd.prog Tryd.f29 (fun v h' => OwnNew h h' 31 v (incl L m)) .ret a h
  refine ret_ok [.tmp 4] [.slice none 0 0] (.slice none 0 0) rfl hF ⟨rfl,trivial⟩ rfl ?_
  exact OwnNew.cast (incl_one (by omega)).symm (OwnNew.none e0)
 ·skip
  replace hc1 := of_decide_eq_false hc1
  obtain ⟨aa,rfl,hcap⟩ := hL.someA (by omega)
  have hhl := half_lt (n := n) (by omega)
  have hhp := half_pos n
  obtain ⟨ad2,had2⟩ : ∃ x,x = if vc = half n then (some aa : Option Addr) else (some aa : Option Addr).map (·.add (half n * 32)) := ⟨_,rfl⟩
  refine cN ?_
  refine tK ?_
  refine cS ?_
  refine cP 3 hF ?_
  refine sP 2 [.slice (some aa) n vc,nV n] ?_
  refine sC 3 (.int .i64 ((half n : Nat) : Int)) (Does.call (f := 33) (args := #[.int .i64 ((n : Nat) : Int)]) (by kernel_rfl) (rhalf_sat _ n (by omega) (by omega))) ?_
  refine sP 4 [nV (half n)] ?_
  refine sD [(0,.slice (some aa) n vc),(1,nV m),(5,nV (half n))] ?_
  clear hF a; intro a hF
  refine tK ?_
  refine cS ?_
  refine cS ?_
  refine cP 4 hF ?_
  refine sP 3 [nV m,nV (half n),.bool (decide (((m : Nat) : Int) < ((half n : Nat) : Int)))] ?_
  refine sD [(0,.slice (some aa) n vc),(1,nV m),(5,nV (half n)),(14,.bool (decide (((m : Nat) : Int) < ((half n : Nat) : Int))))] ?_
  clear hF a; intro a hF
  refine tK ?_
  refine cC 14 (decide (((m : Nat) : Int) < ((half n : Nat) : Int))) hF (fun hc2 => ?_) (fun hc2 => ?_)
  ·skip
   replace hc2 := of_decide_eq_true hc2
   refine cS ?_
   refine cD [0,0,3,0,15,0,0,96,255,511,1023,2047] 5 mixed hF ?_
   refine mP 3 [0,1] [.slice (some aa) n vc,nV (half n)] ?_
   refine mF 7 2 (.slice (some aa) (half n) vc) (fun h => Calm.sliceO (a := (some aa)) (len := n) (cap := vc) (sz := 32) (x := (some aa)) 0 (half n) vc (half n) vc (by kernel_rfl) (.inl ⟨rfl,rfl⟩) (.inr rfl) (.inl ⟨rfl,rfl⟩) (by omega) (by omega) (opt_add0 _ 32) (by first | rfl | omega) (by first | rfl | omega) h) ?_
   refine mP 111 [3,5,6] [nV m,.slice (some aa) n vc,nV (half n)] ?_
   refine mF 239 7 (.slice ad2 (n - half n) (vc - half n)) (fun h => Calm.sliceO (a := (some aa)) (len := n) (cap := vc) (sz := 32) (x := ad2) (half n) n vc (n - half n) (vc - half n) (by kernel_rfl) (.inl ⟨rfl,rfl⟩) (.inl ⟨rfl,rfl⟩) (.inr rfl) (by omega) (by omega) had2 (by first | rfl | omega) (by first | rfl | omega) h) ?_
   have hil := incl_len _ (L.take (half n)) m (Nat.le_refl _)
   have hpl := ((hL.ext e0).take (k := half n) (by omega)).2.2
   refine SimK.eff0 (i := 4) (D' := 255) (X' := 31) (by kernel_rfl) (by kernel_rfl) (by kernel_rfl) (by kernel_rfl) (Does.call (f := 29) (args := #[.slice (some aa) (half n) vc,.int .i64 ((m : Nat) : Int)]) (by kernel_rfl) (ih _ (L.take (half n)) _ _ (half n) m (by omega) (by omega) ((hL.ext e0).take (k := half n) (by omega)))) ?_
   rintro _ h5 ⟨ad3,cap4,rfl,ownx,hge,g⟩
   have hlo := e0.size
   have sepo := sep
   replace e0 := e0.ext g
   replace sep := sep.up g.size
   replace sep := sepo.cons (x := ad3.map (fun (x : Addr) => x.block)) g.size hlo (fun k e => ⟨hge k e,ownx.lt (by rw [blkOf_slice]; exact e)⟩)
   have own_p : Own h5 (.slice ad3 ((incl (L.take (half n)) m).length) cap4) 31 ((incl (L.take (half n)) m).length) 32 (hcs (incl (L.take (half n)) m)) := ownx; clear ownx sepo hlo hge g
   refine SimK.eff0 (i := 8) (D' := 511) (X' := 511) (by kernel_rfl) (by kernel_rfl) (by kernel_rfl) (by kernel_rfl) (Does.call (f := 22) (args := #[.slice ad2 (n - half n) (vc - half n)]) (by kernel_rfl) (rroot_sat _ (L.drop (half n)) _ _ (n - half n) ((hL.ext e0).drop (by omega) had2) (by omega))) ?_
   rintro _ h6 ⟨rfl,g⟩
   replace e0 := e0.ext g
   replace own_p := own_p.ext g
   replace sep := sep.up g.size
   clear g
   refine SimK.eff0 (i := 9) (D' := 1023) (X' := 1023) (by kernel_rfl) (by kernel_rfl) (by kernel_rfl) (by kernel_rfl) (Does.newHs (L := [root (L.drop (half n))]) (t := 26) (E := 31) (by_ := 32) (n := 1) (by kernel_rfl) (by kernel_rfl) (All32.cons (root_len (hL.2.1.drop _)) All32.nil) rfl (by decide) (by decide)) ?_
   rintro _ h7 ⟨rfl,hh⟩
   have g8 : Ext h6 h7 := push_ext hh
   have m9 : h7[h6.size]? = some (.cells (hcs [root (L.drop (half n))]).toArray 31) := push_at hh
   clear hh
   have lt10 := blk_lt m9
   have zs11 := e0.size
   have hlo := e0.size
   have sepo := sep
   replace e0 := e0.ext g8
   replace own_p := own_p.ext g8
   replace sep := sep.up g8.size
   replace sep := sepo.new hlo (blk_lt m9)
   clear sepo hlo
   refine SimK.eff0 (i := 10) (D' := 2047) (X' := 2047) (by kernel_rfl) (by kernel_rfl) (by kernel_rfl) (by kernel_rfl) (Does.append2 (t := 26) (E := 31) (sz := 32) (by_ := 32) (n := (incl (L.take (half n)) m).length) (m := 1) (v := .slice ad3 ((incl (L.take (half n)) m).length) cap4) (x := .slice (some ⟨h6.size,0,none⟩) 1 1) (xs := (hcs (incl (L.take (half n)) m))) (ys := (hcs ([root (L.drop (half n))]))) (by kernel_rfl) (by kernel_rfl) own_p (hrow1 (root_len (hL.2.1.drop _)) m9) (ones_hcs _) (by unfold maxLen; omega) (by omega)) ?_
   rintro _ h14 ⟨ad12,cap13,rfl,ownx,g,hb⟩
   rw [blkOf_slice] at g hb
   have hlo := e0.size
   have sepo := sep
   replace e0 := e0.grew g (sep.low 1 rfl)
   replace m9 := Grew.blk g m9 ((sep.bp 0 1))
   replace sep := sep.up g.size
   replace sep : Sep h.size h14.size [some (h6.size),ad12.map (·.block)] := sepo.set g.size hlo 1 (y := ad12.map (fun (x : Addr) => x.block)) rfl (hb.imp id fun e => .inr ⟨_,e,Nat.le_refl _⟩) (fun k e => ownx.lt (by rw [blkOf_slice]; exact e))
   replace own_p : Own h14 (.slice ad12 ((incl (L.take (half n)) m ++ [root (L.drop (half n))]).length) cap13) 31 ((incl (L.take (half n)) m ++ [root (L.drop (half n))]).length) 32 (hcs (incl (L.take (half n)) m ++ [root (L.drop (half n))])) := Own.appG ownx (by first | rfl | exact (hcs_append _ _).symm | simp [hcs_append]) (by first | rfl | (simp; done) | (simp; omega))
   clear ownx g hb hlo sepo
   clear m9
   replace sep := sep.sub (l' := [ad12.map (·.block)]) (.cons _ (.cons_cons _ (.slnil)))
   refine mP 4095 [11] [.slice ad12 (((incl (L.take (half n)) m).length) + 1) cap13] ?_
   refine mD [(4,.slice ad12 (((incl (L.take (half n)) m).length) + 1) cap13)] ?_
   clear hF a; intro a hF
   have hcan : (((incl (L.take (half n)) m).length) + 1 : Nat) = (incl (L.take (half n)) m ++ [root (L.drop (half n))]).length := by first | (simp; done) | (simp; omega)
   rw [hcan] at hF; clear hcan
   refine tK ?_
   refine cR ?_
   show retK Tryd.prog Tryd.f29 (fun v h' => OwnNew h h' 31 v (incl L m)) .ret a h14
   refine ret_ok [.tmp 4] [.slice ad12 ((incl (L.take (half n)) m ++ [root (L.drop (half n))]).length) cap13] (.slice ad12 ((incl (L.take (half n)) m ++ [root (L.drop (half n))]).length) cap13) rfl hF ⟨rfl,trivial⟩ rfl ?_
   exact OwnNew.cast (by have := incl_lo (l := L) (m := m) (by omega) (by rw [hLn]; omega); rw [hLn] at this; exact this.symm) ⟨ad12,cap13,rfl,own_p,sep.low 0 rfl,e0⟩
  ·skip
   replace hc2 := of_decide_eq_false hc2
   refine cN ?_
   refine tK ?_
   refine cS ?_
   refine cD [0,0,3,0,0,24,63,0,0,384,1023,2047,4095,8191] 6 mixed hF ?_
   refine mP 3 [0,1] [.slice (some aa) n vc,nV (half n)] ?_
   refine mF 7 2 (.slice ad2 (n - half n) (vc - half n)) (fun h => Calm.sliceO (a := (some aa)) (len := n) (cap := vc) (sz := 32) (x := ad2) (half n) n vc (n - half n) (vc - half n) (by kernel_rfl) (.inl ⟨rfl,rfl⟩) (.inl ⟨rfl,rfl⟩) (.inr rfl) (by omega) (by omega) had2 (by first | rfl | omega) (by first | rfl | omega) h) ?_
   refine mP 31 [3,4] [nV m,nV (half n)] ?_
   refine m1 63 5 (.int .i64 ((m - (half n) : Nat) : Int)) (.int .i64 (IntKind.i64.wrap (((m : Nat) : Int) - ((half n : Nat) : Int)))) (congrArg (Value.int .i64) (w64' (by omega) (by omega) (by omega))) ?_
   refine mP 447 [7,8] [.slice (some aa) n vc,nV (half n)] ?_
   refine mF 959 9 (.slice (some aa) (half n) vc) (fun h => Calm.sliceO (a := (some aa)) (len := n) (cap := vc) (sz := 32) (x := (some aa)) 0 (half n) vc (half n) vc (by kernel_rfl) (.inl ⟨rfl,rfl⟩) (.inr rfl) (.inl ⟨rfl,rfl⟩) (by omega) (by omega) (opt_add0 _ 32) (by first | rfl | omega) (by first | rfl | omega) h) ?_
   have hil := incl_len _ (L.drop (half n)) (m - half n) (Nat.le_refl _)
   have hpl := ((hL.ext e0).drop (by omega) had2).2.2
   refine SimK.eff0 (i := 6) (D' := 1023) (X' := 127) (by kernel_rfl) (by kernel_rfl) (by kernel_rfl) (by kernel_rfl) (Does.call (f := 29) (args := #[.slice ad2 (n - half n) (vc - half n),.int .i64 ((m - (half n) : Nat) : Int)]) (by kernel_rfl) (ih _ (L.drop (half n)) _ _ (n - half n) (m - half n) (by omega) (by omega) ((hL.ext e0).drop (by omega) had2))) ?_
   rintro _ h17 ⟨ad15,cap16,rfl,ownx,hge,g⟩
   have hlo := e0.size
   have sepo := sep
   replace e0 := e0.ext g
   replace sep := sep.up g.size
   replace sep := sepo.cons (x := ad15.map (fun (x : Addr) => x.block)) g.size hlo (fun k e => ⟨hge k e,ownx.lt (by rw [blkOf_slice]; exact e)⟩)
   have own_p : Own h17 (.slice ad15 ((incl (L.drop (half n)) (m - half n)).length) cap16) 31 ((incl (L.drop (half n)) (m - half n)).length) 32 (hcs (incl (L.drop (half n)) (m - half n))) := ownx; clear ownx sepo hlo hge g
   refine SimK.eff0 (i := 10) (D' := 2047) (X' := 2047) (by kernel_rfl) (by kernel_rfl) (by kernel_rfl) (by kernel_rfl) (Does.call (f := 22) (args := #[.slice (some aa) (half n) vc]) (by kernel_rfl) (rroot_sat _ (L.take (half n)) _ _ (half n) ((hL.ext e0).take (k := half n) (by omega)) (by omega))) ?_
   rintro _ h18 ⟨rfl,g⟩
   replace e0 := e0.ext g
   replace own_p := own_p.ext g
   replace sep := sep.up g.size
   clear g
   refine SimK.eff0 (i := 11) (D' := 4095) (X' := 4095) (by kernel_rfl) (by kernel_rfl) (by kernel_rfl) (by kernel_rfl) (Does.newHs (L := [root (L.take (half n))]) (t := 26) (E := 31) (by_ := 32) (n := 1) (by kernel_rfl) (by kernel_rfl) (All32.cons (root_len (hL.2.1.take _)) All32.nil) rfl (by decide) (by decide)) ?_
   rintro _ h19 ⟨rfl,hh⟩
   have g20 : Ext h18 h19 := push_ext hh
   have m21 : h19[h18.size]? = some (.cells (hcs [root (L.take (half n))]).toArray 31) := push_at hh
   clear hh
   have lt22 := blk_lt m21
   have zs23 := e0.size
   have hlo := e0.size
   have sepo := sep
   replace e0 := e0.ext g20
   replace own_p := own_p.ext g20
   replace sep := sep.up g20.size
   replace sep := sepo.new hlo (blk_lt m21)
   clear sepo hlo
   refine SimK.eff0 (i := 12) (D' := 8191) (X' := 8191) (by kernel_rfl) (by kernel_rfl) (by kernel_rfl) (by kernel_rfl) (Does.append2 (t := 26) (E := 31) (sz := 32) (by_ := 32) (n := (incl (L.drop (half n)) (m - half n)).length) (m := 1) (v := .slice ad15 ((incl (L.drop (half n)) (m - half n)).length) cap16) (x := .slice (some ⟨h18.size,0,none⟩) 1 1) (xs := (hcs (incl (L.drop (half n)) (m - half n)))) (ys := (hcs ([root (L.take (half n))]))) (by kernel_rfl) (by kernel_rfl) own_p (hrow1 (root_len (hL.2.1.take _)) m21) (ones_hcs _) (by unfold maxLen; omega) (by omega)) ?_
   rintro _ h26 ⟨ad24,cap25,rfl,ownx,g,hb⟩
   rw [blkOf_slice] at g hb
   have hlo := e0.size
   have sepo := sep
   replace e0 := e0.grew g (sep.low 1 rfl)
   replace m21 := Grew.blk g m21 ((sep.bp 0 1))
   replace sep := sep.up g.size
   replace sep : Sep h.size h26.size [some (h18.size),ad24.map (·.block)] := sepo.set g.size hlo 1 (y := ad24.map (fun (x : Addr) => x.block)) rfl (hb.imp id fun e => .inr ⟨_,e,Nat.le_refl _⟩) (fun k e => ownx.lt (by rw [blkOf_slice]; exact e))
   replace own_p : Own h26 (.slice ad24 ((incl (L.drop (half n)) (m - half n) ++ [root (L.take (half n))]).length) cap25) 31 ((incl (L.drop (half n)) (m - half n) ++ [root (L.take (half n))]).length) 32 (hcs (incl (L.drop (half n)) (m - half n) ++ [root (L.take (half n))])) := Own.appG ownx (by first | rfl | exact (hcs_append _ _).symm | simp [hcs_append]) (by first | rfl | (simp; done) | (simp; omega))
   clear ownx g hb hlo sepo
   clear m21
   replace sep := sep.sub (l' := [ad24.map (·.block)]) (.cons _ (.cons_cons _ (.slnil)))
   refine mP 16383 [13] [.slice ad24 (((incl (L.drop (half n)) (m - half n)).length) + 1) cap25] ?_
   refine mD [(4,.slice ad24 (((incl (L.drop (half n)) (m - half n)).length) + 1) cap25)] ?_
   clear hF a; intro a hF
   have hcan : (((incl (L.drop (half n)) (m - half n)).length) + 1 : Nat) = (incl (L.drop (half n)) (m - half n) ++ [root (L.take (half n))]).length := by first | (simp; done) | (simp; omega)
   rw [hcan] at hF; clear hcan
   refine tK ?_
   refine cR ?_
   show retK Tryd.prog Tryd.f29 (fun v h' => OwnNew h h' 31 v (incl L m)) .ret a h26
   refine ret_ok [.tmp 4] [.slice ad24 ((incl (L.drop (half n)) (m - half n) ++ [root (L.take (half n))]).length) cap25] (.slice ad24 ((incl (L.drop (half n)) (m - half n) ++ [root (L.take (half n))]).length) cap25) rfl hF ⟨rfl,trivial⟩ rfl ?_
   exact OwnNew.cast (by have := incl_hi (l := L) (m := m) (by omega) (by rw [hLn]; omega); rw [hLn] at this; exact this.symm) ⟨ad24,cap25,rfl,own_p,sep.low 0 rfl,e0⟩
theorem rproof_all : ∀ (k n : Nat),n ≤ k → ∀ (h : Heap) (L : List Hs) (va : Option Addr) (vc m : Nat),m < n → HR h va vc n L → n ≤ 1099511627000 → Sat Tryd.prog 29 #[.slice va n vc,.int .i64 ((m : Nat) : Int)] h fun v h' => OwnNew h h' 31 v (incl L m)
 | 0,n,hk,h,L,va,vc,m,hm,hL,hn => by omega
 | k + 1,n,hk,h,L,va,vc,m,hm,hL,hn => rproof_step h L va vc n hL hn m hm fun _ _ _ _ _ _ hlt hm' hL' => rproof_all k _ (by omega) _ _ _ _ _ hm' hL' (by omega)
theorem rproof_sat (h : Heap) (L : List Hs) (va : Option Addr) (vc n : Nat) (hL : HR h va vc n L) (hn : n ≤ 1099511627000) (m : Nat) (hm : m < n) : Sat Tryd.prog 29 #[.slice va n vc,.int .i64 ((m : Nat) : Int)] h fun v h' => OwnNew h h' 31 v (incl L m) := rproof_all n n (Nat.le_refl _) h L va vc m hm hL hn
noncomputable def b19 : Code := Tryd.f19.body.getD .skip
theorem rincl_sat (h : Heap) (L : List Hs) (va : Option Addr) (vc n : Nat) (hL : HR h va vc n L) (hn : n ≤ 1099511627000) (m : Int) : Sat Tryd.prog 19 #[.slice va n vc,.int .i64 m] h fun v h' => ∃ s,v = .tuple #[s,.int .i64 (inclZ L m).2] ∧ OwnNew h h' 31 s (inclZ L m).1 := by
 have hLn := hL.2.2
 have e0 := Ext.refl h
 have sep : Sep h.size h.size [] := Sep.nil _ _
 refine sat_of (args := [.slice va n vc,.int .i64 m]) (fn := Tryd.f19) (B := b19) (n := 17) (L := [(0,.slice va n vc),(1,.int .i64 m)]) Tryd.func19 rfl (by kernel_rfl) rfl ?_
 intro a hF
 refine cS ?_
 refine cP 0 hF ?_
 refine sP 2 [.slice none 0 0,.int .i64 0] ?_
 refine sD [(0,.slice va n vc),(1,.int .i64 m)] ?_
 clear hF a; intro a hF
 refine tK ?_
 refine cS ?_
 refine cS ?_
 have hm3 : m < 0 ∨ (n : Int) ≤ m ∨ ∃ k : Nat,m = (k : Int) ∧ k < n := by
  rcases Int.lt_or_le m 0 with h0 | h0
  ·exact .inl h0
  ·rcases Int.lt_or_le m n with h1 | h1
   ·exact .inr (.inr ⟨m.toNat,by omega,by omega⟩)
   ·exact .inr (.inl h1)
 rcases hm3 with hm0 | hm0 | ⟨k,rfl,hk⟩
 ·skip
  refine cP 1 hF ?_
  refine sP 1 [.int .i64 m] ?_
  refine s1 2 (.bool true) (.bool (decide (m < (0 : Int)))) (congrArg Value.bool (decide_eq_true (by omega))) ?_
  refine sP 8 [.bool true,undef,undef,undef,undef,.bool true] ?_
  refine sD [(0,.slice va n vc),(1,.int .i64 m),(13,.bool true)] ?_
  clear hF a; intro a hF
  refine tK ?_
  refine cT 13 hF ?_
  refine cS ?_
  refine cP 2 hF ?_
  refine sP 2 [.slice none 0 0,.int .i64 50] ?_
  refine sD [(4,.slice none 0 0),(5,.int .i64 50)] ?_
  clear hF a; intro a hF
  refine tK ?_
  refine cR ?_
  show retK Tryd.prog Tryd.f19 (fun v h' => ∃ s,v = .tuple #[s,.int .i64 (inclZ L m).2] ∧ OwnNew h h' 31 s (inclZ L m).1) .ret a h
  refine ret_ok [.tmp 4,.tmp 5] [.slice none 0 0,.int .i64 50] (.tuple #[.slice none 0 0,.int .i64 50]) rfl hF ⟨rfl,rfl,trivial⟩ rfl ?_
  rw [inclZ_no (by omega)]; exact ⟨_,rfl,OwnNew.none e0⟩
 ·skip
  refine cP 1 hF ?_
  refine sP 1 [.int .i64 m] ?_
  refine s1 2 (.bool false) (.bool (decide (m < (0 : Int)))) (congrArg Value.bool (decide_eq_false (by omega))) ?_
  refine sP 6 [.bool false,.int .i64 m,.slice va n vc,nV n] ?_
  refine s1 7 (.bool true) (.bool (decide (((n : Nat) : Int) ≤ m))) (congrArg Value.bool (decide_eq_true (by omega))) ?_
  refine sP 8 [.bool true] ?_
  refine sD [(0,.slice va n vc),(1,.int .i64 m),(13,.bool true)] ?_
  clear hF a; intro a hF
  refine tK ?_
  refine cT 13 hF ?_
  refine cS ?_
  refine cP 2 hF ?_
  refine sP 2 [.slice none 0 0,.int .i64 50] ?_
  refine sD [(4,.slice none 0 0),(5,.int .i64 50)] ?_
  clear hF a; intro a hF
  refine tK ?_
  refine cR ?_
  show retK Tryd.prog Tryd.f19 (fun v h' => ∃ s,v = .tuple #[s,.int .i64 (inclZ L m).2] ∧ OwnNew h h' 31 s (inclZ L m).1) .ret a h
  refine ret_ok [.tmp 4,.tmp 5] [.slice none 0 0,.int .i64 50] (.tuple #[.slice none 0 0,.int .i64 50]) rfl hF ⟨rfl,rfl,trivial⟩ rfl ?_
  rw [inclZ_no (by omega)]; exact ⟨_,rfl,OwnNew.none e0⟩
 ·skip
  refine cP 1 hF ?_
  refine sP 1 [nV k] ?_
  refine s1 2 (.bool false) (.bool (decide (((k : Nat) : Int) < (0 : Int)))) (congrArg Value.bool (decide_eq_false (by omega))) ?_
  refine sP 6 [.bool false,nV k,.slice va n vc,nV n] ?_
  refine s1 7 (.bool false) (.bool (decide (((n : Nat) : Int) ≤ ((k : Nat) : Int)))) (congrArg Value.bool (decide_eq_false (by omega))) ?_
  refine sP 8 [.bool false] ?_
  refine sD [(0,.slice va n vc),(1,nV k),(13,.bool false)] ?_
  clear hF a; intro a hF
  refine tK ?_
  refine cF 13 hF ?_
  refine cN ?_
  refine tK ?_
  refine cS ?_
  refine cP 3 hF ?_
  refine sP 2 [.slice va n vc,nV k] ?_
  refine SeqK.eff (k' := 3) (Does.call (f := 29) (args := #[.slice va n vc,.int .i64 ((k : Nat) : Int)]) (by kernel_rfl) (rproof_sat _ L _ _ _ (hL.ext e0) (by omega) k (by omega))) rfl ?_
  rintro _ h3 ⟨ad1,cap2,rfl,ownx,hge,g⟩
  have hlo := e0.size
  have sepo := sep
  replace e0 := e0.ext g
  replace sep := sep.up g.size
  replace sep := sepo.cons (x := ad1.map (fun (x : Addr) => x.block)) g.size hlo (fun k e => ⟨hge k e,ownx.lt (by rw [blkOf_slice]; exact e)⟩)
  have own_p : Own h3 (.slice ad1 ((incl L k).length) cap2) 31 ((incl L k).length) 32 (hcs (incl L k)) := ownx; clear ownx sepo hlo hge g
  refine sP 5 [.slice ad1 ((incl L k).length) cap2,.int .i64 0] ?_
  refine sD [(4,.slice ad1 ((incl L k).length) cap2),(5,.int .i64 0)] ?_
  clear hF a; intro a hF
  refine tK ?_
  refine cR ?_
  show retK Tryd.prog Tryd.f19 (fun v h' => ∃ s,v = .tuple #[s,.int .i64 (inclZ L (k : Int)).2] ∧ OwnNew h h' 31 s (inclZ L (k : Int)).1) .ret a h3
  refine ret_ok [.tmp 4,.tmp 5] [.slice ad1 ((incl L k).length) cap2,.int .i64 0] (.tuple #[.slice ad1 ((incl L k).length) cap2,.int .i64 0]) rfl hF ⟨rfl,rfl,trivial⟩ rfl ?_
  rw [inclZ_yes (by omega)]; exact ⟨_,rfl,ad1,cap2,rfl,own_p,sep.low 0 rfl,e0⟩
end Go.Proofs.YtkjlafiefgbjpaaDoor
