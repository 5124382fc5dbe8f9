/- Walks of trees of hashes: what each function computes, as a law of its calls. No condition but those that each theorem names. -/
import Derived.Test.YtfompolnofgldaaDoorTreeA
import Derived.Test.YtfompolnofgldaaDoorTreeE
namespace Go.Proofs.YtfompolnofgldaaDoor
open Go Go.Lane Go.Sha
noncomputable def b13 : Code := Tryd.f13.body.getD .skip
theorem rroot_step (h : Heap) (L : List Hs) (va : Option Addr) (vc n : Nat) (hL : HR h va vc n L) (hn : n ≤ 1099511627000) (ih : ∀ (h' : Heap) (L' : List Hs) (va' : Option Addr) (vc' n' : Nat),n' < n → HR h' va' vc' n' L' → Sat Tryd.prog 13 #[.slice va' n' vc'] h' fun v k => v = hv (root L') ∧ Ext h' k) : Sat Tryd.prog 13 #[.slice va n vc] h fun v h' => v = hv (root L) ∧ Ext h h' := by
 have hLn := hL.2.2
 have e0 := Ext.refl h
 have sep : Sep h.size h.size [] := Sep.nil _ _
 refine sat_of (args := [.slice va n vc]) (fn := Tryd.f13) (B := b13) (n := 26) (L := [(0,.slice va n vc)]) Tryd.func13 rfl (by kernel_rfl) rfl ?_
 intro a hF
 refine C.seq [0] [1] (by kernel_rfl) ?_
 refine C.plain 0 (by kernel_rfl) hF (by kernel_rfl) ?_
 refine SeqK.eff (k' := 1) (Does.new (v := .pointer (some ⟨h.size,0,none⟩)) (o := .cells (z32.map bv).toArray 27) (by kernel_rfl)) rfl ?_
 rintro _ h1 ⟨rfl,hh⟩
 have g2 : Ext h h1 := push_ext hh
 have m3 : h1[h.size]? = some (.cells (z32.map bv).toArray 27) := push_at hh
 clear hh
 have lt4 := blk_lt m3
 have z5 := e0.size
 have hlo := e0.size
 have sepo := sep
 replace e0 := e0.ext g2
 replace sep := sep.up g2.size
 replace sep := sepo.new hlo (blk_lt m3)
 clear sepo hlo
 refine SeqK.done [0,2] (L := [(0,.slice va n vc),(2,.pointer (some ⟨h.size,0,none⟩))]) (by kernel_rfl) (by kernel_rfl) ?_
 clear hF; clear a; intro a hF
 show C Tryd.prog (sub b13 [1]) _ a h1
 refine C.seq [1,0] [1,1] (by kernel_rfl) ?_
 refine C.seq [1,0,0] [1,0,1] (by kernel_rfl) ?_
 refine C.plain 1 (by kernel_rfl) hF (by kernel_rfl) ?_
 refine SeqK.pures (k' := 3) [.slice va n vc,.int .i64 ((n : Nat) : Int),.bool (decide (((n : Nat) : Int) = (0 : Int)))] (by kernel_rfl) rfl ?_
 refine SeqK.done [0,2,6] (L := [(0,.slice va n vc),(2,.pointer (some ⟨h.size,0,none⟩)),(6,.bool (decide (((n : Nat) : Int) = (0 : Int))))]) (by kernel_rfl) (by kernel_rfl) ?_
 clear hF; clear a; intro a hF
 show C Tryd.prog (sub b13 [1,0,1]) _ a h1
 refine C.condS 6 (decide (((n : Nat) : Int) = (0 : Int))) [1,0,1,0] [1,0,1,1] (by kernel_rfl) hF (fun _ => rfl) (fun hc6 => ?_) (fun hc6 => ?_)
 ·skip
  replace hc6 := of_decide_eq_true hc6
  refine C.seq [1,0,1,0,0] [1,0,1,0,1] (by kernel_rfl) ?_
  refine C.plain 2 (by kernel_rfl) hF (by kernel_rfl) ?_
  refine SeqK.eff (k' := 1) (Does.call (f := 29) (args := #[.slice none 0 0]) (by kernel_rfl) (rsum_n _ [] 0 none 0 (Row.nil _ 1) rfl (by decide))) rfl ?_
  rintro _ h7 ⟨rfl,g⟩
  replace e0 := e0.ext g
  replace m3 := Ext.blk g m3
  replace sep := sep.up g.size
  clear g
  refine SeqK.eff (k' := 2) (Does.store (b := h.size) (off := 0) (vs := (sha []).map bv) (l := z32.map bv) (storeOp_of (by kernel_rfl) (hlm rfl)) m3 (hfit rfl rfl) (ones_map _)) rfl ?_
  rintro _ h8 ⟨rfl,hh⟩
  have g9 : Grew (some (h.size)) h7 h8 := hput_gr hh
  replace m3 : h8[h.size]? = some (.cells ((sha []).map bv).toArray 27) := hput_at (off := 0) (vs := (sha []).map bv) (l := (z32.map bv)) hh (hsplice rfl rfl) m3
  clear hh
  replace e0 := e0.grew g9 (sep.low 0 rfl)
  replace sep := sep.up g9.size
  refine SeqK.done [2] (L := [(2,.pointer (some ⟨h.size,0,none⟩))]) (by kernel_rfl) (by kernel_rfl) ?_
  clear hF; clear a; intro a hF
  show C Tryd.prog (sub b13 [1,0,1,0,1]) _ a h8
  refine C.ret (by kernel_rfl) ?_
  show retK Tryd.prog Tryd.f13 (fun v h' => v = hv (root L) ∧ Ext h h') .ret a h8
  refine ret_ok [.cell 2 27] [.agg ((sha []).map bv).toArray] (.agg ((sha []).map bv).toArray) rfl hF ⟨⟨_,rfl,Loads.hash (by kernel_rfl) rfl m3⟩,trivial⟩ rfl ?_
  exact ⟨congrArg hv (root_nil' (by omega)),e0⟩
 ·skip
  replace hc6 := of_decide_eq_false hc6
  refine C.skip (by kernel_rfl) ?_
  show C Tryd.prog (sub b13 [1,1]) _ a h1
  refine C.seq [1,1,0] [1,1,1] (by kernel_rfl) ?_
  refine C.seq [1,1,0,0] [1,1,0,1] (by kernel_rfl) ?_
  refine C.plain 3 (by kernel_rfl) hF (by kernel_rfl) ?_
  refine SeqK.pures (k' := 3) [.slice va n vc,.int .i64 ((n : Nat) : Int),.bool (decide (((n : Nat) : Int) = (1 : Int)))] (by kernel_rfl) rfl ?_
  refine SeqK.done [0,2,10] (L := [(0,.slice va n vc),(2,.pointer (some ⟨h.size,0,none⟩)),(10,.bool (decide (((n : Nat) : Int) = (1 : Int))))]) (by kernel_rfl) (by kernel_rfl) ?_
  clear hF; clear a; intro a hF
  show C Tryd.prog (sub b13 [1,1,0,1]) _ a h1
  refine C.condS 10 (decide (((n : Nat) : Int) = (1 : Int))) [1,1,0,1,0] [1,1,0,1,1] (by kernel_rfl) hF (fun _ => rfl) (fun hc10 => ?_) (fun hc10 => ?_)
  ·skip
   replace hc10 := of_decide_eq_true hc10
   obtain ⟨aa,rfl,hcap⟩ := hL.someA (by omega)
   refine C.seq [1,1,0,1,0,0] [1,1,0,1,0,1] (by kernel_rfl) ?_
   refine C.plain 4 (by kernel_rfl) hF (by kernel_rfl) ?_
   refine SeqK.pures (k' := 1) [.slice (some aa) n vc] (by kernel_rfl) rfl ?_
   refine SeqK.calm (k' := 2) (v := .pointer (some aa)) ((Calm.indexA (a := aa) (len := n) (sz := 32) (k := (0 : Int)) 0 0 (by kernel_rfl) rfl (by omega) (by omega)) _) rfl ?_
   refine SeqK.calm (k' := 3) (v := .agg ((L.getD 0 []).map bv).toArray) (Calm.load (T := 27) (p := aa) (by kernel_rfl) (HR.loads (k := 0) (q := 0) (hL.ext e0) (by kernel_rfl) (by omega) (by omega))) rfl ?_
   refine SeqK.eff (k' := 4) (Does.store (b := h.size) (off := 0) (vs := (L.getD 0 []).map bv) (l := z32.map bv) (storeOp_of (by kernel_rfl) (hlm (hL.2.1.get (k := 0) (by rw [hL.2.2]; omega)))) m3 (hfit rfl (hL.2.1.get (k := 0) (by rw [hL.2.2]; omega))) (ones_map _)) rfl ?_
   rintro _ h11 ⟨rfl,hh⟩
   have g12 : Grew (some (h.size)) h1 h11 := hput_gr hh
   replace m3 : h11[h.size]? = some (.cells ((L.getD 0 []).map bv).toArray 27) := hput_at (off := 0) (vs := (L.getD 0 []).map bv) (l := (z32.map bv)) hh (hsplice rfl (hL.2.1.get (k := 0) (by rw [hL.2.2]; omega))) m3
   clear hh
   replace e0 := e0.grew g12 (sep.low 0 rfl)
   replace sep := sep.up g12.size
   refine SeqK.done [2] (L := [(2,.pointer (some ⟨h.size,0,none⟩))]) (by kernel_rfl) (by kernel_rfl) ?_
   clear hF; clear a; intro a hF
   show C Tryd.prog (sub b13 [1,1,0,1,0,1]) _ a h11
   refine C.ret (by kernel_rfl) ?_
   show retK Tryd.prog Tryd.f13 (fun v h' => v = hv (root L) ∧ Ext h h') .ret a h11
   refine ret_ok [.cell 2 27] [.agg ((L.getD 0 []).map bv).toArray] (.agg ((L.getD 0 []).map bv).toArray) rfl hF ⟨⟨_,rfl,Loads.hash (by kernel_rfl) (hL.2.1.get (k := 0) (by rw [hL.2.2]; omega)) m3⟩,trivial⟩ rfl ?_
   exact ⟨congrArg hv (root_one' (by omega)),e0⟩
  ·skip
   replace hc10 := of_decide_eq_false hc10
   obtain ⟨aa,rfl,hcap⟩ := hL.someA (by omega)
   have hhl := half_lt (n := n) (by omega)
   have hhp := half_pos n
   obtain ⟨ad2,had2⟩ : ∃ x,x = if vc = half n then (some aa : Option Addr) else (some aa : Option Addr).map (·.add (half n * 32)) := ⟨_,rfl⟩
   refine C.skip (by kernel_rfl) ?_
   show C Tryd.prog (sub b13 [1,1,1]) _ a h1
   refine C.seq [1,1,1,0] [1,1,1,1] (by kernel_rfl) ?_
   refine C.plain 5 (by kernel_rfl) hF (by kernel_rfl) ?_
   refine SeqK.pures (k' := 2) [.slice (some aa) n vc,.int .i64 ((n : Nat) : Int)] (by kernel_rfl) rfl ?_
   refine SeqK.calm (k' := 3) (v := .int .i64 ((half n : Nat) : Int)) (Does.call (f := 30) (args := #[.int .i64 ((n : Nat) : Int)]) (by kernel_rfl) (rhalf_sat _ n (by omega) (by omega))) rfl ?_
   refine SeqK.pures (k' := 4) [.int .i64 ((half n : Nat) : Int)] (by kernel_rfl) rfl ?_
   refine SeqK.done [0,2,3] (L := [(0,.slice (some aa) n vc),(2,.pointer (some ⟨h.size,0,none⟩)),(3,.int .i64 ((half n : Nat) : Int))]) (by kernel_rfl) (by kernel_rfl) ?_
   clear hF; clear a; intro a hF
   show C Tryd.prog (sub b13 [1,1,1,1]) _ a h1
   refine C.seq [1,1,1,1,0] [1,1,1,1,1] (by kernel_rfl) ?_
   refine C.draw (A := [0,0,3,7,0,0,48,127,255,511]) 6 (by kernel_rfl) mixed hF (by kernel_rfl) ?_
   refine SimK.pures (D' := 3) (is := [0,1]) (vs := [.slice (some aa) n vc,.int .i64 ((half n : Nat) : Int)]) (by kernel_rfl) ?_
   refine SimK.free (D' := 7) (i := 2) (v := .slice (some aa) (half n) vc) (by kernel_rfl) (by kernel_rfl) (fun h => Calm.sliceO (a := (some aa)) (len := n) (cap := vc) (sz := 32) (x := (some aa)) 0 (half n) vc (half n) vc (by kernel_rfl) (.inl ⟨rfl,rfl⟩) (.inr rfl) (.inl ⟨rfl,rfl⟩) (by omega) (by omega) (opt_add0 _ 32) (by first | rfl | omega) (by first | rfl | omega) h) ?_
   refine SimK.pures (D' := 55) (is := [4,5]) (vs := [.slice (some aa) n vc,.int .i64 ((half n : Nat) : Int)]) (by kernel_rfl) ?_
   refine SimK.free (D' := 119) (i := 6) (v := .slice ad2 (n - half n) (vc - half n)) (by kernel_rfl) (by kernel_rfl) (fun h => Calm.sliceO (a := (some aa)) (len := n) (cap := vc) (sz := 32) (x := ad2) (half n) n vc (n - half n) (vc - half n) (by kernel_rfl) (.inl ⟨rfl,rfl⟩) (.inl ⟨rfl,rfl⟩) (.inr rfl) (by omega) (by omega) had2 (by first | rfl | omega) (by first | rfl | omega) h) ?_
   refine SimK.eff0 (i := 3) (D' := 127) (X' := 15) (by kernel_rfl) (by kernel_rfl) (by kernel_rfl) (by kernel_rfl) (Does.call (f := 13) (args := #[.slice (some aa) (half n) vc]) (by kernel_rfl) (ih _ (L.take (half n)) _ _ (half n) (by omega) ((hL.ext e0).take (k := half n) (by omega)))) ?_
   rintro _ h13 ⟨rfl,g⟩
   replace e0 := e0.ext g
   replace m3 := Ext.blk g m3
   replace sep := sep.up g.size
   clear g
   refine SimK.eff0 (i := 7) (D' := 255) (X' := 255) (by kernel_rfl) (by kernel_rfl) (by kernel_rfl) (by kernel_rfl) (Does.call (f := 13) (args := #[.slice ad2 (n - half n) (vc - half n)]) (by kernel_rfl) (ih _ (L.drop (half n)) _ _ (n - half n) (by omega) ((hL.ext e0).drop (by omega) had2))) ?_
   rintro _ h14 ⟨rfl,g⟩
   replace e0 := e0.ext g
   replace m3 := Ext.blk g m3
   replace sep := sep.up g.size
   clear g
   refine SimK.eff0 (i := 8) (D' := 511) (X' := 511) (by kernel_rfl) (by kernel_rfl) (by kernel_rfl) (by kernel_rfl) (Does.call (f := 15) (args := #[.agg ((root (L.take (half n))).map bv).toArray,.agg ((root (L.drop (half n))).map bv).toArray]) (by kernel_rfl) (rnode_sat _ (root (L.take (half n))) (root (L.drop (half n))) (root_len (hL.2.1.take _)) (root_len (hL.2.1.drop _)))) ?_
   rintro _ h15 ⟨rfl,g⟩
   replace e0 := e0.ext g
   replace m3 := Ext.blk g m3
   replace sep := sep.up g.size
   clear g
   refine SimK.eff0 (i := 9) (D' := 1023) (X' := 1023) (by kernel_rfl) (by kernel_rfl) (by kernel_rfl) (by kernel_rfl) (Does.store (b := h.size) (off := 0) (vs := (nodeH (root (L.take (half n))) (root (L.drop (half n)))).map bv) (l := z32.map bv) (storeOp_of (by kernel_rfl) (hlm (node_len _ _))) m3 (hfit rfl (node_len _ _)) (ones_map _)) ?_
   rintro _ h16 ⟨rfl,hh⟩
   have g17 : Grew (some (h.size)) h15 h16 := hput_gr hh
   replace m3 : h16[h.size]? = some (.cells ((nodeH (root (L.take (half n))) (root (L.drop (half n)))).map bv).toArray 27) := hput_at (off := 0) (vs := (nodeH (root (L.take (half n))) (root (L.drop (half n)))).map bv) (l := (z32.map bv)) hh (hsplice rfl (node_len _ _)) m3
   clear hh
   replace e0 := e0.grew g17 (sep.low 0 rfl)
   replace sep := sep.up g17.size
   refine SimK.done [2] (L := [(2,.pointer (some ⟨h.size,0,none⟩))]) (by kernel_rfl) (by kernel_rfl) ?_
   clear hF; clear a; intro a hF
   show C Tryd.prog (sub b13 [1,1,1,1,1]) _ a h16
   refine C.ret (by kernel_rfl) ?_
   show retK Tryd.prog Tryd.f13 (fun v h' => v = hv (root L) ∧ Ext h h') .ret a h16
   refine ret_ok [.cell 2 27] [.agg ((nodeH (root (L.take (half n))) (root (L.drop (half n)))).map bv).toArray] (.agg ((nodeH (root (L.take (half n))) (root (L.drop (half n)))).map bv).toArray) rfl hF ⟨⟨_,rfl,Loads.hash (by kernel_rfl) (node_len _ _) m3⟩,trivial⟩ rfl ?_
   exact ⟨congrArg hv (root_half hLn (by omega)),e0⟩
theorem rroot_all : ∀ (m n : Nat),n ≤ m → ∀ (h : Heap) (L : List Hs) (va : Option Addr) (vc : Nat),HR h va vc n L → n ≤ 1099511627000 → Sat Tryd.prog 13 #[.slice va n vc] h fun v h' => v = hv (root L) ∧ Ext h h'
 | 0,n,hm,h,L,va,vc,hL,hn => rroot_step h L va vc n hL hn fun _ _ _ _ _ hlt _ => by omega
 | m + 1,n,hm,h,L,va,vc,hL,hn => rroot_step h L va vc n hL hn fun _ _ _ _ _ hlt hL' => rroot_all m _ (by omega) _ _ _ _ hL' (by omega)
theorem rroot_sat (h : Heap) (L : List Hs) (va : Option Addr) (vc n : Nat) (hL : HR h va vc n L) (hn : n ≤ 1099511627000) : Sat Tryd.prog 13 #[.slice va n vc] h fun v h' => v = hv (root L) ∧ Ext h h' := rroot_all n n (Nat.le_refl _) h L va vc hL hn
noncomputable def b33 : Code := Tryd.f33.body.getD .skip
theorem rproof_step (h : Heap) (L : List Hs) (va : Option Addr) (vc n : Nat) (hL : HR h va vc n L) (hn : n ≤ 1099511627000) (m : Nat) (hm : m < n) (ih : ∀ (h' : Heap) (L' : List Hs) (va' : Option Addr) (vc' n' m' : Nat),n' < n → m' < n' → HR h' va' vc' n' L' → Sat Tryd.prog 33 #[.slice va' n' vc',.int .i64 ((m' : Nat) : Int)] h' fun v k => OwnNew h' k 27 v (incl L' m')) : Sat Tryd.prog 33 #[.slice va n vc,.int .i64 ((m : Nat) : Int)] h fun v h' => OwnNew h h' 27 v (incl L m) := by
 have hLn := hL.2.2
 have e0 := Ext.refl h
 have sep : Sep h.size h.size [] := Sep.nil _ _
 refine sat_of (args := [.slice va n vc,.int .i64 ((m : Nat) : Int)]) (fn := Tryd.f33) (B := b33) (n := 39) (L := [(0,.slice va n vc),(1,.int .i64 ((m : Nat) : Int))]) Tryd.func33 rfl (by kernel_rfl) rfl ?_
 intro a hF
 refine C.seq [0] [1] (by kernel_rfl) ?_
 refine C.plain 0 (by kernel_rfl) hF (by kernel_rfl) ?_
 refine SeqK.pures (k' := 1) [.slice none 0 0] (by kernel_rfl) rfl ?_
 refine SeqK.done [0,1] (L := [(0,.slice va n vc),(1,.int .i64 ((m : Nat) : Int))]) (by kernel_rfl) (by kernel_rfl) ?_
 clear hF; clear a; intro a hF
 show C Tryd.prog (sub b33 [1]) _ a h
 refine C.seq [1,0] [1,1] (by kernel_rfl) ?_
 refine C.seq [1,0,0] [1,0,1] (by kernel_rfl) ?_
 refine C.plain 1 (by kernel_rfl) hF (by kernel_rfl) ?_
 refine SeqK.pures (k' := 3) [.slice va n vc,.int .i64 ((n : Nat) : Int),.bool (decide (((n : Nat) : Int) = (1 : Int)))] (by kernel_rfl) rfl ?_
 refine SeqK.done [0,1,8] (L := [(0,.slice va n vc),(1,.int .i64 ((m : Nat) : Int)),(8,.bool (decide (((n : Nat) : Int) = (1 : Int))))]) (by kernel_rfl) (by kernel_rfl) ?_
 clear hF; clear a; intro a hF
 show C Tryd.prog (sub b33 [1,0,1]) _ a h
 refine C.condS 8 (decide (((n : Nat) : Int) = (1 : Int))) [1,0,1,0] [1,0,1,1] (by kernel_rfl) hF (fun _ => rfl) (fun hc1 => ?_) (fun hc1 => ?_)
 ·skip
  replace hc1 := of_decide_eq_true hc1
  refine C.seq [1,0,1,0,0] [1,0,1,0,1] (by kernel_rfl) ?_
  refine C.plain 2 (by kernel_rfl) hF (by kernel_rfl) ?_
  refine SeqK.pures (k' := 1) [.slice none 0 0] (by kernel_rfl) rfl ?_
  refine SeqK.done [4] (L := [(4,.slice none 0 0)]) (by kernel_rfl) (by kernel_rfl) ?_
  clear hF; clear a; intro a hF
  show C Tryd.prog (sub b33 [1,0,1,0,1]) _ a h
  refine C.ret (by kernel_rfl) ?_
  show retK Tryd.prog Tryd.f33 (fun v h' => OwnNew h h' 27 v (incl L m)) .ret a h
  refine ret_ok [.tmp 4] [.slice none 0 0] (.slice none 0 0) rfl hF ⟨rfl,trivial⟩ rfl ?_
  exact OwnNew.cast (incl_one (by omega)).symm (OwnNew.none e0)
 ·skip
  replace hc1 := of_decide_eq_false hc1
  obtain ⟨aa,rfl,hcap⟩ := hL.someA (by omega)
  have hhl := half_lt (n := n) (by omega)
  have hhp := half_pos n
  obtain ⟨ad2,had2⟩ : ∃ x,x = if vc = half n then (some aa : Option Addr) else (some aa : Option Addr).map (·.add (half n * 32)) := ⟨_,rfl⟩
  refine C.skip (by kernel_rfl) ?_
  show C Tryd.prog (sub b33 [1,1]) _ a h
  refine C.seq [1,1,0] [1,1,1] (by kernel_rfl) ?_
  refine C.plain 3 (by kernel_rfl) hF (by kernel_rfl) ?_
  refine SeqK.pures (k' := 2) [.slice (some aa) n vc,.int .i64 ((n : Nat) : Int)] (by kernel_rfl) rfl ?_
  refine SeqK.calm (k' := 3) (v := .int .i64 ((half n : Nat) : Int)) (Does.call (f := 30) (args := #[.int .i64 ((n : Nat) : Int)]) (by kernel_rfl) (rhalf_sat _ n (by omega) (by omega))) rfl ?_
  refine SeqK.pures (k' := 4) [.int .i64 ((half n : Nat) : Int)] (by kernel_rfl) rfl ?_
  refine SeqK.done [0,1,5] (L := [(0,.slice (some aa) n vc),(1,.int .i64 ((m : Nat) : Int)),(5,.int .i64 ((half n : Nat) : Int))]) (by kernel_rfl) (by kernel_rfl) ?_
  clear hF; clear a; intro a hF
  show C Tryd.prog (sub b33 [1,1,1]) _ a h
  refine C.seq [1,1,1,0] [1,1,1,1] (by kernel_rfl) ?_
  refine C.seq [1,1,1,0,0] [1,1,1,0,1] (by kernel_rfl) ?_
  refine C.plain 4 (by kernel_rfl) hF (by kernel_rfl) ?_
  refine SeqK.pures (k' := 3) [.int .i64 ((m : Nat) : Int),.int .i64 ((half n : Nat) : Int),.bool (decide (((m : Nat) : Int) < ((half n : Nat) : Int)))] (by kernel_rfl) rfl ?_
  refine SeqK.done [0,1,5,14] (L := [(0,.slice (some aa) n vc),(1,.int .i64 ((m : Nat) : Int)),(5,.int .i64 ((half n : Nat) : Int)),(14,.bool (decide (((m : Nat) : Int) < ((half n : Nat) : Int))))]) (by kernel_rfl) (by kernel_rfl) ?_
  clear hF; clear a; intro a hF
  show C Tryd.prog (sub b33 [1,1,1,0,1]) _ a h
  refine C.condS 14 (decide (((m : Nat) : Int) < ((half n : Nat) : Int))) [1,1,1,0,1,0] [1,1,1,0,1,1] (by kernel_rfl) hF (fun _ => rfl) (fun hc2 => ?_) (fun hc2 => ?_)
  ·skip
   replace hc2 := of_decide_eq_true hc2
   refine C.seq [1,1,1,0,1,0,0] [1,1,1,0,1,0,1] (by kernel_rfl) ?_
   refine C.draw (A := [0,0,3,0,15,0,0,96,255,511,1023,2047]) 5 (by kernel_rfl) mixed hF (by kernel_rfl) ?_
   refine SimK.pures (D' := 3) (is := [0,1]) (vs := [.slice (some aa) n vc,.int .i64 ((half n : Nat) : Int)]) (by kernel_rfl) ?_
   refine SimK.free (D' := 7) (i := 2) (v := .slice (some aa) (half n) vc) (by kernel_rfl) (by kernel_rfl) (fun h => Calm.sliceO (a := (some aa)) (len := n) (cap := vc) (sz := 32) (x := (some aa)) 0 (half n) vc (half n) vc (by kernel_rfl) (.inl ⟨rfl,rfl⟩) (.inr rfl) (.inl ⟨rfl,rfl⟩) (by omega) (by omega) (opt_add0 _ 32) (by first | rfl | omega) (by first | rfl | omega) h) ?_
   refine SimK.pures (D' := 111) (is := [3,5,6]) (vs := [.int .i64 ((m : Nat) : Int),.slice (some aa) n vc,.int .i64 ((half n : Nat) : Int)]) (by kernel_rfl) ?_
   refine SimK.free (D' := 239) (i := 7) (v := .slice ad2 (n - half n) (vc - half n)) (by kernel_rfl) (by kernel_rfl) (fun h => Calm.sliceO (a := (some aa)) (len := n) (cap := vc) (sz := 32) (x := ad2) (half n) n vc (n - half n) (vc - half n) (by kernel_rfl) (.inl ⟨rfl,rfl⟩) (.inl ⟨rfl,rfl⟩) (.inr rfl) (by omega) (by omega) had2 (by first | rfl | omega) (by first | rfl | omega) h) ?_
   have hil := incl_len _ (L.take (half n)) m (Nat.le_refl _)
   have hpl := ((hL.ext e0).take (k := half n) (by omega)).2.2
   refine SimK.eff0 (i := 4) (D' := 255) (X' := 31) (by kernel_rfl) (by kernel_rfl) (by kernel_rfl) (by kernel_rfl) (Does.call (f := 33) (args := #[.slice (some aa) (half n) vc,.int .i64 ((m : Nat) : Int)]) (by kernel_rfl) (ih _ (L.take (half n)) _ _ (half n) m (by omega) (by omega) ((hL.ext e0).take (k := half n) (by omega)))) ?_
   rintro _ h5 ⟨ad3,cap4,rfl,ownx,hge,g⟩
   have hlo := e0.size
   have sepo := sep
   replace e0 := e0.ext g
   replace sep := sep.up g.size
   replace sep := sepo.cons (x := ad3.map (fun (x : Addr) => x.block)) g.size hlo (fun k e => ⟨hge k e,ownx.lt (by rw [blkOf_slice]; exact e)⟩)
   have own_p : Own h5 (.slice ad3 ((incl (L.take (half n)) m).length) cap4) 27 ((incl (L.take (half n)) m).length) 32 (hcs (incl (L.take (half n)) m)) := ownx; clear ownx sepo hlo hge g
   refine SimK.eff0 (i := 8) (D' := 511) (X' := 511) (by kernel_rfl) (by kernel_rfl) (by kernel_rfl) (by kernel_rfl) (Does.call (f := 13) (args := #[.slice ad2 (n - half n) (vc - half n)]) (by kernel_rfl) (rroot_sat _ (L.drop (half n)) _ _ (n - half n) ((hL.ext e0).drop (by omega) had2) (by omega))) ?_
   rintro _ h6 ⟨rfl,g⟩
   replace e0 := e0.ext g
   replace own_p := own_p.ext g
   replace sep := sep.up g.size
   clear g
   refine SimK.eff0 (i := 9) (D' := 1023) (X' := 1023) (by kernel_rfl) (by kernel_rfl) (by kernel_rfl) (by kernel_rfl) (Does.newHs (L := [root (L.drop (half n))]) (t := 24) (E := 27) (by_ := 32) (n := 1) (by kernel_rfl) (by kernel_rfl) (All32.cons (root_len (hL.2.1.drop _)) All32.nil) rfl (by decide) (by decide)) ?_
   rintro _ h7 ⟨rfl,hh⟩
   have g8 : Ext h6 h7 := push_ext hh
   have m9 : h7[h6.size]? = some (.cells (hcs [root (L.drop (half n))]).toArray 27) := push_at hh
   clear hh
   have lt10 := blk_lt m9
   have z11 := e0.size
   have hlo := e0.size
   have sepo := sep
   replace e0 := e0.ext g8
   replace own_p := own_p.ext g8
   replace sep := sep.up g8.size
   replace sep := sepo.new hlo (blk_lt m9)
   clear sepo hlo
   refine SimK.eff0 (i := 10) (D' := 2047) (X' := 2047) (by kernel_rfl) (by kernel_rfl) (by kernel_rfl) (by kernel_rfl) (Does.append2 (t := 24) (E := 27) (sz := 32) (by_ := 32) (n := (incl (L.take (half n)) m).length) (m := 1) (v := .slice ad3 ((incl (L.take (half n)) m).length) cap4) (x := .slice (some ⟨h6.size,0,none⟩) 1 1) (xs := (hcs (incl (L.take (half n)) m))) (ys := (hcs ([root (L.drop (half n))]))) (by kernel_rfl) (by kernel_rfl) own_p (hrow1 (root_len (hL.2.1.drop _)) m9) (ones_hcs _) (by unfold maxLen; omega) (by omega)) ?_
   rintro _ h14 ⟨ad12,cap13,rfl,ownx,g,hb⟩
   rw [blkOf_slice] at g hb
   have hlo := e0.size
   have sepo := sep
   replace e0 := e0.grew g (sep.low 1 rfl)
   replace m9 := Grew.blk g m9 ((sep.bp 0 1 rfl rfl (by decide)))
   replace sep := sep.up g.size
   replace sep : Sep h.size h14.size [some (h6.size),ad12.map (·.block)] := sepo.set g.size hlo 1 (y := ad12.map (fun (x : Addr) => x.block)) rfl (hb.imp id fun e => .inr ⟨_,e,Nat.le_refl _⟩) (fun k e => ownx.lt (by rw [blkOf_slice]; exact e))
   replace own_p : Own h14 (.slice ad12 ((incl (L.take (half n)) m ++ [root (L.drop (half n))]).length) cap13) 27 ((incl (L.take (half n)) m ++ [root (L.drop (half n))]).length) 32 (hcs (incl (L.take (half n)) m ++ [root (L.drop (half n))])) := Own.appG ownx (by first | rfl | exact (hcs_append _ _).symm | simp [hcs_append]) (by first | rfl | (simp; done) | (simp; omega))
   clear ownx g hb hlo sepo
   clear m9
   replace sep := sep.sub (l' := [ad12.map (·.block)]) (.cons _ (.cons_cons _ (.slnil)))
   refine SimK.pures (D' := 4095) (is := [11]) (vs := [.slice ad12 (((incl (L.take (half n)) m).length) + 1) cap13]) (by kernel_rfl) ?_
   refine SimK.done [4] (L := [(4,.slice ad12 (((incl (L.take (half n)) m).length) + 1) cap13)]) (by kernel_rfl) (by kernel_rfl) ?_
   clear hF; clear a; intro a hF
   have hcan : (((incl (L.take (half n)) m).length) + 1 : Nat) = (incl (L.take (half n)) m ++ [root (L.drop (half n))]).length := by first | (simp; done) | (simp; omega)
   rw [hcan] at hF; clear hcan
   show C Tryd.prog (sub b33 [1,1,1,0,1,0,1]) _ a h14
   refine C.ret (by kernel_rfl) ?_
   show retK Tryd.prog Tryd.f33 (fun v h' => OwnNew h h' 27 v (incl L m)) .ret a h14
   refine ret_ok [.tmp 4] [.slice ad12 ((incl (L.take (half n)) m ++ [root (L.drop (half n))]).length) cap13] (.slice ad12 ((incl (L.take (half n)) m ++ [root (L.drop (half n))]).length) cap13) rfl hF ⟨rfl,trivial⟩ rfl ?_
   exact OwnNew.cast (by have := incl_lo (l := L) (m := m) (by omega) (by rw [hLn]; omega); rw [hLn] at this; exact this.symm) ⟨ad12,cap13,rfl,own_p,sep.low 0 rfl,e0⟩
  ·skip
   replace hc2 := of_decide_eq_false hc2
   refine C.skip (by kernel_rfl) ?_
   show C Tryd.prog (sub b33 [1,1,1,1]) _ a h
   refine C.seq [1,1,1,1,0] [1,1,1,1,1] (by kernel_rfl) ?_
   refine C.draw (A := [0,0,3,0,0,24,63,0,0,384,1023,2047,4095,8191]) 6 (by kernel_rfl) mixed hF (by kernel_rfl) ?_
   refine SimK.pures (D' := 3) (is := [0,1]) (vs := [.slice (some aa) n vc,.int .i64 ((half n : Nat) : Int)]) (by kernel_rfl) ?_
   refine SimK.free (D' := 7) (i := 2) (v := .slice ad2 (n - half n) (vc - half n)) (by kernel_rfl) (by kernel_rfl) (fun h => Calm.sliceO (a := (some aa)) (len := n) (cap := vc) (sz := 32) (x := ad2) (half n) n vc (n - half n) (vc - half n) (by kernel_rfl) (.inl ⟨rfl,rfl⟩) (.inl ⟨rfl,rfl⟩) (.inr rfl) (by omega) (by omega) had2 (by first | rfl | omega) (by first | rfl | omega) h) ?_
   refine SimK.pures (D' := 31) (is := [3,4]) (vs := [.int .i64 ((m : Nat) : Int),.int .i64 ((half n : Nat) : Int)]) (by kernel_rfl) ?_
   refine SimK.pure1 (D' := 63) (i := 5) (v := .int .i64 ((m - (half n) : Nat) : Int)) (v' := .int .i64 (IntKind.i64.wrap (((m : Nat) : Int) - ((half n : Nat) : Int)))) (by kernel_rfl) (by kernel_rfl) (by kernel_rfl) (congrArg (Value.int .i64) (w64' (by omega) (by omega) (by omega))) ?_
   refine SimK.pures (D' := 447) (is := [7,8]) (vs := [.slice (some aa) n vc,.int .i64 ((half n : Nat) : Int)]) (by kernel_rfl) ?_
   refine SimK.free (D' := 959) (i := 9) (v := .slice (some aa) (half n) vc) (by kernel_rfl) (by kernel_rfl) (fun h => Calm.sliceO (a := (some aa)) (len := n) (cap := vc) (sz := 32) (x := (some aa)) 0 (half n) vc (half n) vc (by kernel_rfl) (.inl ⟨rfl,rfl⟩) (.inr rfl) (.inl ⟨rfl,rfl⟩) (by omega) (by omega) (opt_add0 _ 32) (by first | rfl | omega) (by first | rfl | omega) h) ?_
   have hil := incl_len _ (L.drop (half n)) (m - half n) (Nat.le_refl _)
   have hpl := ((hL.ext e0).drop (by omega) had2).2.2
   refine SimK.eff0 (i := 6) (D' := 1023) (X' := 127) (by kernel_rfl) (by kernel_rfl) (by kernel_rfl) (by kernel_rfl) (Does.call (f := 33) (args := #[.slice ad2 (n - half n) (vc - half n),.int .i64 ((m - (half n) : Nat) : Int)]) (by kernel_rfl) (ih _ (L.drop (half n)) _ _ (n - half n) (m - half n) (by omega) (by omega) ((hL.ext e0).drop (by omega) had2))) ?_
   rintro _ h17 ⟨ad15,cap16,rfl,ownx,hge,g⟩
   have hlo := e0.size
   have sepo := sep
   replace e0 := e0.ext g
   replace sep := sep.up g.size
   replace sep := sepo.cons (x := ad15.map (fun (x : Addr) => x.block)) g.size hlo (fun k e => ⟨hge k e,ownx.lt (by rw [blkOf_slice]; exact e)⟩)
   have own_p : Own h17 (.slice ad15 ((incl (L.drop (half n)) (m - half n)).length) cap16) 27 ((incl (L.drop (half n)) (m - half n)).length) 32 (hcs (incl (L.drop (half n)) (m - half n))) := ownx; clear ownx sepo hlo hge g
   refine SimK.eff0 (i := 10) (D' := 2047) (X' := 2047) (by kernel_rfl) (by kernel_rfl) (by kernel_rfl) (by kernel_rfl) (Does.call (f := 13) (args := #[.slice (some aa) (half n) vc]) (by kernel_rfl) (rroot_sat _ (L.take (half n)) _ _ (half n) ((hL.ext e0).take (k := half n) (by omega)) (by omega))) ?_
   rintro _ h18 ⟨rfl,g⟩
   replace e0 := e0.ext g
   replace own_p := own_p.ext g
   replace sep := sep.up g.size
   clear g
   refine SimK.eff0 (i := 11) (D' := 4095) (X' := 4095) (by kernel_rfl) (by kernel_rfl) (by kernel_rfl) (by kernel_rfl) (Does.newHs (L := [root (L.take (half n))]) (t := 24) (E := 27) (by_ := 32) (n := 1) (by kernel_rfl) (by kernel_rfl) (All32.cons (root_len (hL.2.1.take _)) All32.nil) rfl (by decide) (by decide)) ?_
   rintro _ h19 ⟨rfl,hh⟩
   have g20 : Ext h18 h19 := push_ext hh
   have m21 : h19[h18.size]? = some (.cells (hcs [root (L.take (half n))]).toArray 27) := push_at hh
   clear hh
   have lt22 := blk_lt m21
   have z23 := e0.size
   have hlo := e0.size
   have sepo := sep
   replace e0 := e0.ext g20
   replace own_p := own_p.ext g20
   replace sep := sep.up g20.size
   replace sep := sepo.new hlo (blk_lt m21)
   clear sepo hlo
   refine SimK.eff0 (i := 12) (D' := 8191) (X' := 8191) (by kernel_rfl) (by kernel_rfl) (by kernel_rfl) (by kernel_rfl) (Does.append2 (t := 24) (E := 27) (sz := 32) (by_ := 32) (n := (incl (L.drop (half n)) (m - half n)).length) (m := 1) (v := .slice ad15 ((incl (L.drop (half n)) (m - half n)).length) cap16) (x := .slice (some ⟨h18.size,0,none⟩) 1 1) (xs := (hcs (incl (L.drop (half n)) (m - half n)))) (ys := (hcs ([root (L.take (half n))]))) (by kernel_rfl) (by kernel_rfl) own_p (hrow1 (root_len (hL.2.1.take _)) m21) (ones_hcs _) (by unfold maxLen; omega) (by omega)) ?_
   rintro _ h26 ⟨ad24,cap25,rfl,ownx,g,hb⟩
   rw [blkOf_slice] at g hb
   have hlo := e0.size
   have sepo := sep
   replace e0 := e0.grew g (sep.low 1 rfl)
   replace m21 := Grew.blk g m21 ((sep.bp 0 1 rfl rfl (by decide)))
   replace sep := sep.up g.size
   replace sep : Sep h.size h26.size [some (h18.size),ad24.map (·.block)] := sepo.set g.size hlo 1 (y := ad24.map (fun (x : Addr) => x.block)) rfl (hb.imp id fun e => .inr ⟨_,e,Nat.le_refl _⟩) (fun k e => ownx.lt (by rw [blkOf_slice]; exact e))
   replace own_p : Own h26 (.slice ad24 ((incl (L.drop (half n)) (m - half n) ++ [root (L.take (half n))]).length) cap25) 27 ((incl (L.drop (half n)) (m - half n) ++ [root (L.take (half n))]).length) 32 (hcs (incl (L.drop (half n)) (m - half n) ++ [root (L.take (half n))])) := Own.appG ownx (by first | rfl | exact (hcs_append _ _).symm | simp [hcs_append]) (by first | rfl | (simp; done) | (simp; omega))
   clear ownx g hb hlo sepo
   clear m21
   replace sep := sep.sub (l' := [ad24.map (·.block)]) (.cons _ (.cons_cons _ (.slnil)))
   refine SimK.pures (D' := 16383) (is := [13]) (vs := [.slice ad24 (((incl (L.drop (half n)) (m - half n)).length) + 1) cap25]) (by kernel_rfl) ?_
   refine SimK.done [4] (L := [(4,.slice ad24 (((incl (L.drop (half n)) (m - half n)).length) + 1) cap25)]) (by kernel_rfl) (by kernel_rfl) ?_
   clear hF; clear a; intro a hF
   have hcan : (((incl (L.drop (half n)) (m - half n)).length) + 1 : Nat) = (incl (L.drop (half n)) (m - half n) ++ [root (L.take (half n))]).length := by first | (simp; done) | (simp; omega)
   rw [hcan] at hF; clear hcan
   show C Tryd.prog (sub b33 [1,1,1,1,1]) _ a h26
   refine C.ret (by kernel_rfl) ?_
   show retK Tryd.prog Tryd.f33 (fun v h' => OwnNew h h' 27 v (incl L m)) .ret a h26
   refine ret_ok [.tmp 4] [.slice ad24 ((incl (L.drop (half n)) (m - half n) ++ [root (L.take (half n))]).length) cap25] (.slice ad24 ((incl (L.drop (half n)) (m - half n) ++ [root (L.take (half n))]).length) cap25) rfl hF ⟨rfl,trivial⟩ rfl ?_
   exact OwnNew.cast (by have := incl_hi (l := L) (m := m) (by omega) (by rw [hLn]; omega); rw [hLn] at this; exact this.symm) ⟨ad24,cap25,rfl,own_p,sep.low 0 rfl,e0⟩
theorem rproof_all : ∀ (k n : Nat),n ≤ k → ∀ (h : Heap) (L : List Hs) (va : Option Addr) (vc m : Nat),m < n → HR h va vc n L → n ≤ 1099511627000 → Sat Tryd.prog 33 #[.slice va n vc,.int .i64 ((m : Nat) : Int)] h fun v h' => OwnNew h h' 27 v (incl L m)
 | 0,n,hk,h,L,va,vc,m,hm,hL,hn => by omega
 | k + 1,n,hk,h,L,va,vc,m,hm,hL,hn => rproof_step h L va vc n hL hn m hm fun _ _ _ _ _ _ hlt hm' hL' => rproof_all k _ (by omega) _ _ _ _ _ hm' hL' (by omega)
theorem rproof_sat (h : Heap) (L : List Hs) (va : Option Addr) (vc n : Nat) (hL : HR h va vc n L) (hn : n ≤ 1099511627000) (m : Nat) (hm : m < n) : Sat Tryd.prog 33 #[.slice va n vc,.int .i64 ((m : Nat) : Int)] h fun v h' => OwnNew h h' 27 v (incl L m) := rproof_all n n (Nat.le_refl _) h L va vc m hm hL hn
noncomputable def b35 : Code := Tryd.f35.body.getD .skip
theorem rpart_step (h : Heap) (L : List Hs) (va : Option Addr) (vc n : Nat) (hL : HR h va vc n L) (hn : n ≤ 1099511627000) (m : Nat) (whole : Bool) (hm0 : 0 < m) (hm : m ≤ n) (ih : ∀ (h' : Heap) (L' : List Hs) (va' : Option Addr) (vc' n' m' : Nat) (whole' : Bool),n' < n → 0 < m' → m' ≤ n' → HR h' va' vc' n' L' → Sat Tryd.prog 35 #[.int .i64 ((m' : Nat) : Int),.slice va' n' vc',.bool whole'] h' fun v k => OwnNew h' k 27 v (cons m' L' whole')) : Sat Tryd.prog 35 #[.int .i64 ((m : Nat) : Int),.slice va n vc,.bool whole] h fun v h' => OwnNew h h' 27 v (cons m L whole) := by
 have hLn := hL.2.2
 have e0 := Ext.refl h
 have sep : Sep h.size h.size [] := Sep.nil _ _
 refine sat_of (args := [.int .i64 ((m : Nat) : Int),.slice va n vc,.bool whole]) (fn := Tryd.f35) (B := b35) (n := 47) (L := [(0,.int .i64 ((m : Nat) : Int)),(1,.slice va n vc),(2,.bool whole)]) Tryd.func35 rfl (by kernel_rfl) rfl ?_
 intro a hF
 refine C.seq [0] [1] (by kernel_rfl) ?_
 refine C.plain 0 (by kernel_rfl) hF (by kernel_rfl) ?_
 refine SeqK.pures (k' := 1) [.slice none 0 0] (by kernel_rfl) rfl ?_
 refine SeqK.done [0,1,2] (L := [(0,.int .i64 ((m : Nat) : Int)),(1,.slice va n vc),(2,.bool whole)]) (by kernel_rfl) (by kernel_rfl) ?_
 clear hF; clear a; intro a hF
 show C Tryd.prog (sub b35 [1]) _ a h
 refine C.seq [1,0] [1,1] (by kernel_rfl) ?_
 refine C.seq [1,0,0] [1,0,1] (by kernel_rfl) ?_
 refine C.plain 1 (by kernel_rfl) hF (by kernel_rfl) ?_
 refine SeqK.pures (k' := 4) [.int .i64 ((m : Nat) : Int),.slice va n vc,.int .i64 ((n : Nat) : Int),.bool (decide (((m : Nat) : Int) = ((n : Nat) : Int)))] (by kernel_rfl) rfl ?_
 refine SeqK.done [0,1,2,11] (L := [(0,.int .i64 ((m : Nat) : Int)),(1,.slice va n vc),(2,.bool whole),(11,.bool (decide (((m : Nat) : Int) = ((n : Nat) : Int))))]) (by kernel_rfl) (by kernel_rfl) ?_
 clear hF; clear a; intro a hF
 show C Tryd.prog (sub b35 [1,0,1]) _ a h
 refine C.condS 11 (decide (((m : Nat) : Int) = ((n : Nat) : Int))) [1,0,1,0] [1,0,1,1] (by kernel_rfl) hF (fun _ => rfl) (fun hc1 => ?_) (fun hc1 => ?_)
 ·skip
  replace hc1 := of_decide_eq_true hc1
  refine C.seq [1,0,1,0,0] [1,0,1,0,1] (by kernel_rfl) ?_
  refine C.seq [1,0,1,0,0,0] [1,0,1,0,0,1] (by kernel_rfl) ?_
  refine C.plain 2 (by kernel_rfl) hF (by kernel_rfl) ?_
  refine SeqK.pures (k' := 1) [.bool whole] (by kernel_rfl) rfl ?_
  refine SeqK.done [1,12] (L := [(1,.slice va n vc),(12,.bool whole)]) (by kernel_rfl) (by kernel_rfl) ?_
  clear hF; clear a; intro a hF
  show C Tryd.prog (sub b35 [1,0,1,0,0,1]) _ a h
  refine C.condS 12 whole [1,0,1,0,0,1,0] [1,0,1,0,0,1,1] (by kernel_rfl) hF (fun _ => rfl) (fun hc2 => ?_) (fun hc2 => ?_)
  ·skip
   refine C.seq [1,0,1,0,0,1,0,0] [1,0,1,0,0,1,0,1] (by kernel_rfl) ?_
   refine C.plain 3 (by kernel_rfl) hF (by kernel_rfl) ?_
   refine SeqK.pures (k' := 1) [.slice none 0 0] (by kernel_rfl) rfl ?_
   refine SeqK.done [6] (L := [(6,.slice none 0 0)]) (by kernel_rfl) (by kernel_rfl) ?_
   clear hF; clear a; intro a hF
   show C Tryd.prog (sub b35 [1,0,1,0,0,1,0,1]) _ a h
   refine C.ret (by kernel_rfl) ?_
   show retK Tryd.prog Tryd.f35 (fun v h' => OwnNew h h' 27 v (cons m L whole)) .ret a h
   refine ret_ok [.tmp 6] [.slice none 0 0] (.slice none 0 0) rfl hF ⟨rfl,trivial⟩ rfl ?_
   exact OwnNew.cast (by rw [cons_all hm0 (by omega),hc2]; rfl) (OwnNew.none e0)
  ·skip
   refine C.skip (by kernel_rfl) ?_
   show C Tryd.prog (sub b35 [1,0,1,0,1]) _ a h
   refine C.seq [1,0,1,0,1,0] [1,0,1,0,1,1] (by kernel_rfl) ?_
   refine C.plain 4 (by kernel_rfl) hF (by kernel_rfl) ?_
   refine SeqK.pures (k' := 1) [.slice va n vc] (by kernel_rfl) rfl ?_
   refine SeqK.eff (k' := 2) (Does.call (f := 13) (args := #[.slice va n vc]) (by kernel_rfl) (rroot_sat _ (L) _ _ (n) (hL.ext e0) (by omega))) rfl ?_
   rintro _ h3 ⟨rfl,g⟩
   replace e0 := e0.ext g
   replace sep := sep.up g.size
   clear g
   refine SeqK.eff (k' := 3) (Does.newHs (L := [root L]) (t := 24) (E := 27) (by_ := 32) (n := 1) (by kernel_rfl) (by kernel_rfl) (All32.cons (root_len hL.2.1) All32.nil) rfl (by decide) (by decide)) rfl ?_
   rintro _ h4 ⟨rfl,hh⟩
   have g5 : Ext h3 h4 := push_ext hh
   have m6 : h4[h3.size]? = some (.cells (hcs [root L]).toArray 27) := push_at hh
   clear hh
   have lt7 := blk_lt m6
   have z8 := e0.size
   have hlo := e0.size
   have sepo := sep
   replace e0 := e0.ext g5
   replace sep := sep.up g5.size
   replace sep := sepo.new hlo (blk_lt m6)
   clear sepo hlo
   refine SeqK.pures (k' := 4) [.slice (some ⟨h3.size,0,none⟩) 1 1] (by kernel_rfl) rfl ?_
   refine SeqK.done [6] (L := [(6,.slice (some ⟨h3.size,0,none⟩) 1 1)]) (by kernel_rfl) (by kernel_rfl) ?_
   clear hF; clear a; intro a hF
   show C Tryd.prog (sub b35 [1,0,1,0,1,1]) _ a h4
   refine C.ret (by kernel_rfl) ?_
   show retK Tryd.prog Tryd.f35 (fun v h' => OwnNew h h' 27 v (cons m L whole)) .ret a h4
   refine ret_ok [.tmp 6] [.slice (some ⟨h3.size,0,none⟩) 1 1] (.slice (some ⟨h3.size,0,none⟩) 1 1) rfl hF ⟨rfl,trivial⟩ rfl ?_
   exact OwnNew.cast (p := [root L]) (by rw [cons_all hm0 (by omega),hc2]; rfl) ⟨_,1,rfl,Own.blk (n := 1) m6 (by rw [hcs_length (All32.one (root_len hL.2.1))]; rfl) (by unfold maxLen; decide),sep.low 0 rfl,e0⟩
 ·skip
  replace hc1 := of_decide_eq_false hc1
  obtain ⟨aa,rfl,hcap⟩ := hL.someA (by omega)
  have hhl := half_lt (n := n) (by omega)
  have hhp := half_pos n
  obtain ⟨ad2,had2⟩ : ∃ x,x = if vc = half n then (some aa : Option Addr) else (some aa : Option Addr).map (·.add (half n * 32)) := ⟨_,rfl⟩
  refine C.skip (by kernel_rfl) ?_
  show C Tryd.prog (sub b35 [1,1]) _ a h
  refine C.seq [1,1,0] [1,1,1] (by kernel_rfl) ?_
  refine C.plain 5 (by kernel_rfl) hF (by kernel_rfl) ?_
  refine SeqK.pures (k' := 2) [.slice (some aa) n vc,.int .i64 ((n : Nat) : Int)] (by kernel_rfl) rfl ?_
  refine SeqK.calm (k' := 3) (v := .int .i64 ((half n : Nat) : Int)) (Does.call (f := 30) (args := #[.int .i64 ((n : Nat) : Int)]) (by kernel_rfl) (rhalf_sat _ n (by omega) (by omega))) rfl ?_
  refine SeqK.pures (k' := 4) [.int .i64 ((half n : Nat) : Int)] (by kernel_rfl) rfl ?_
  refine SeqK.done [0,1,2,7] (L := [(0,.int .i64 ((m : Nat) : Int)),(1,.slice (some aa) n vc),(2,.bool whole),(7,.int .i64 ((half n : Nat) : Int))]) (by kernel_rfl) (by kernel_rfl) ?_
  clear hF; clear a; intro a hF
  show C Tryd.prog (sub b35 [1,1,1]) _ a h
  refine C.seq [1,1,1,0] [1,1,1,1] (by kernel_rfl) ?_
  refine C.seq [1,1,1,0,0] [1,1,1,0,1] (by kernel_rfl) ?_
  refine C.plain 6 (by kernel_rfl) hF (by kernel_rfl) ?_
  refine SeqK.pures (k' := 3) [.int .i64 ((m : Nat) : Int),.int .i64 ((half n : Nat) : Int),.bool (decide (((m : Nat) : Int) ≤ ((half n : Nat) : Int)))] (by kernel_rfl) rfl ?_
  refine SeqK.done [0,1,2,7,21] (L := [(0,.int .i64 ((m : Nat) : Int)),(1,.slice (some aa) n vc),(2,.bool whole),(7,.int .i64 ((half n : Nat) : Int)),(21,.bool (decide (((m : Nat) : Int) ≤ ((half n : Nat) : Int))))]) (by kernel_rfl) (by kernel_rfl) ?_
  clear hF; clear a; intro a hF
  show C Tryd.prog (sub b35 [1,1,1,0,1]) _ a h
  refine C.condS 21 (decide (((m : Nat) : Int) ≤ ((half n : Nat) : Int))) [1,1,1,0,1,0] [1,1,1,0,1,1] (by kernel_rfl) hF (fun _ => rfl) (fun hc9 => ?_) (fun hc9 => ?_)
  ·skip
   replace hc9 := of_decide_eq_true hc9
   refine C.seq [1,1,1,0,1,0,0] [1,1,1,0,1,0,1] (by kernel_rfl) ?_
   refine C.draw (A := [0,0,0,6,0,31,0,0,192,511,1023,2047,4095]) 7 (by kernel_rfl) mixed hF (by kernel_rfl) ?_
   refine SimK.pures (D' := 7) (is := [0,1,2]) (vs := [.int .i64 ((m : Nat) : Int),.slice (some aa) n vc,.int .i64 ((half n : Nat) : Int)]) (by kernel_rfl) ?_
   refine SimK.free (D' := 15) (i := 3) (v := .slice (some aa) (half n) vc) (by kernel_rfl) (by kernel_rfl) (fun h => Calm.sliceO (a := (some aa)) (len := n) (cap := vc) (sz := 32) (x := (some aa)) 0 (half n) vc (half n) vc (by kernel_rfl) (.inl ⟨rfl,rfl⟩) (.inr rfl) (.inl ⟨rfl,rfl⟩) (by omega) (by omega) (opt_add0 _ 32) (by first | rfl | omega) (by first | rfl | omega) h) ?_
   refine SimK.pures (D' := 223) (is := [4,6,7]) (vs := [.bool whole,.slice (some aa) n vc,.int .i64 ((half n : Nat) : Int)]) (by kernel_rfl) ?_
   refine SimK.free (D' := 479) (i := 8) (v := .slice ad2 (n - half n) (vc - half n)) (by kernel_rfl) (by kernel_rfl) (fun h => Calm.sliceO (a := (some aa)) (len := n) (cap := vc) (sz := 32) (x := ad2) (half n) n vc (n - half n) (vc - half n) (by kernel_rfl) (.inl ⟨rfl,rfl⟩) (.inl ⟨rfl,rfl⟩) (.inr rfl) (by omega) (by omega) had2 (by first | rfl | omega) (by first | rfl | omega) h) ?_
   have hpl := ((hL.ext e0).take (k := half n) (by omega)).2.2
   have hil := cons_len _ (L.take (half n)) m whole (Nat.le_refl _) (by omega) (by omega)
   refine SimK.eff0 (i := 5) (D' := 511) (X' := 63) (by kernel_rfl) (by kernel_rfl) (by kernel_rfl) (by kernel_rfl) (Does.call (f := 35) (args := #[.int .i64 ((m : Nat) : Int),.slice (some aa) (half n) vc,.bool whole]) (by kernel_rfl) (ih _ (L.take (half n)) _ _ (half n) m whole (by omega) (by omega) (by omega) ((hL.ext e0).take (k := half n) (by omega)))) ?_
   rintro _ h12 ⟨ad10,cap11,rfl,ownx,hge,g⟩
   have hlo := e0.size
   have sepo := sep
   replace e0 := e0.ext g
   replace sep := sep.up g.size
   replace sep := sepo.cons (x := ad10.map (fun (x : Addr) => x.block)) g.size hlo (fun k e => ⟨hge k e,ownx.lt (by rw [blkOf_slice]; exact e)⟩)
   have own_p : Own h12 (.slice ad10 ((cons m (L.take (half n)) whole).length) cap11) 27 ((cons m (L.take (half n)) whole).length) 32 (hcs (cons m (L.take (half n)) whole)) := ownx; clear ownx sepo hlo hge g
   refine SimK.eff0 (i := 9) (D' := 1023) (X' := 1023) (by kernel_rfl) (by kernel_rfl) (by kernel_rfl) (by kernel_rfl) (Does.call (f := 13) (args := #[.slice ad2 (n - half n) (vc - half n)]) (by kernel_rfl) (rroot_sat _ (L.drop (half n)) _ _ (n - half n) ((hL.ext e0).drop (by omega) had2) (by omega))) ?_
   rintro _ h13 ⟨rfl,g⟩
   replace e0 := e0.ext g
   replace own_p := own_p.ext g
   replace sep := sep.up g.size
   clear g
   refine SimK.eff0 (i := 10) (D' := 2047) (X' := 2047) (by kernel_rfl) (by kernel_rfl) (by kernel_rfl) (by kernel_rfl) (Does.newHs (L := [root (L.drop (half n))]) (t := 24) (E := 27) (by_ := 32) (n := 1) (by kernel_rfl) (by kernel_rfl) (All32.cons (root_len (hL.2.1.drop _)) All32.nil) rfl (by decide) (by decide)) ?_
   rintro _ h14 ⟨rfl,hh⟩
   have g15 : Ext h13 h14 := push_ext hh
   have m16 : h14[h13.size]? = some (.cells (hcs [root (L.drop (half n))]).toArray 27) := push_at hh
   clear hh
   have lt17 := blk_lt m16
   have z18 := e0.size
   have hlo := e0.size
   have sepo := sep
   replace e0 := e0.ext g15
   replace own_p := own_p.ext g15
   replace sep := sep.up g15.size
   replace sep := sepo.new hlo (blk_lt m16)
   clear sepo hlo
   refine SimK.eff0 (i := 11) (D' := 4095) (X' := 4095) (by kernel_rfl) (by kernel_rfl) (by kernel_rfl) (by kernel_rfl) (Does.append2 (t := 24) (E := 27) (sz := 32) (by_ := 32) (n := (cons m (L.take (half n)) whole).length) (m := 1) (v := .slice ad10 ((cons m (L.take (half n)) whole).length) cap11) (x := .slice (some ⟨h13.size,0,none⟩) 1 1) (xs := (hcs (cons m (L.take (half n)) whole))) (ys := (hcs ([root (L.drop (half n))]))) (by kernel_rfl) (by kernel_rfl) own_p (hrow1 (root_len (hL.2.1.drop _)) m16) (ones_hcs _) (by unfold maxLen; omega) (by omega)) ?_
   rintro _ h21 ⟨ad19,cap20,rfl,ownx,g,hb⟩
   rw [blkOf_slice] at g hb
   have hlo := e0.size
   have sepo := sep
   replace e0 := e0.grew g (sep.low 1 rfl)
   replace m16 := Grew.blk g m16 ((sep.bp 0 1 rfl rfl (by decide)))
   replace sep := sep.up g.size
   replace sep : Sep h.size h21.size [some (h13.size),ad19.map (·.block)] := sepo.set g.size hlo 1 (y := ad19.map (fun (x : Addr) => x.block)) rfl (hb.imp id fun e => .inr ⟨_,e,Nat.le_refl _⟩) (fun k e => ownx.lt (by rw [blkOf_slice]; exact e))
   replace own_p : Own h21 (.slice ad19 ((cons m (L.take (half n)) whole ++ [root (L.drop (half n))]).length) cap20) 27 ((cons m (L.take (half n)) whole ++ [root (L.drop (half n))]).length) 32 (hcs (cons m (L.take (half n)) whole ++ [root (L.drop (half n))])) := Own.appG ownx (by first | rfl | exact (hcs_append _ _).symm | simp [hcs_append]) (by first | rfl | (simp; done) | (simp; omega))
   clear ownx g hb hlo sepo
   clear m16
   replace sep := sep.sub (l' := [ad19.map (·.block)]) (.cons _ (.cons_cons _ (.slnil)))
   refine SimK.pures (D' := 8191) (is := [12]) (vs := [.slice ad19 (((cons m (L.take (half n)) whole).length) + 1) cap20]) (by kernel_rfl) ?_
   refine SimK.done [6] (L := [(6,.slice ad19 (((cons m (L.take (half n)) whole).length) + 1) cap20)]) (by kernel_rfl) (by kernel_rfl) ?_
   clear hF; clear a; intro a hF
   have hcan : (((cons m (L.take (half n)) whole).length) + 1 : Nat) = (cons m (L.take (half n)) whole ++ [root (L.drop (half n))]).length := by first | (simp; done) | (simp; omega)
   rw [hcan] at hF; clear hcan
   show C Tryd.prog (sub b35 [1,1,1,0,1,0,1]) _ a h21
   refine C.ret (by kernel_rfl) ?_
   show retK Tryd.prog Tryd.f35 (fun v h' => OwnNew h h' 27 v (cons m L whole)) .ret a h21
   refine ret_ok [.tmp 6] [.slice ad19 ((cons m (L.take (half n)) whole ++ [root (L.drop (half n))]).length) cap20] (.slice ad19 ((cons m (L.take (half n)) whole ++ [root (L.drop (half n))]).length) cap20) rfl hF ⟨rfl,trivial⟩ rfl ?_
   exact OwnNew.cast (by have := cons_lo (l := L) (m := m) (w := whole) (by omega) (by omega) (by rw [hLn]; omega); rw [hLn] at this; exact this.symm) ⟨ad19,cap20,rfl,own_p,sep.low 0 rfl,e0⟩
  ·skip
   replace hc9 := of_decide_eq_false hc9
   refine C.skip (by kernel_rfl) ?_
   show C Tryd.prog (sub b35 [1,1,1,1]) _ a h
   refine C.seq [1,1,1,1,0] [1,1,1,1,1] (by kernel_rfl) ?_
   refine C.draw (A := [0,0,3,0,0,24,63,0,0,384,1023,2047,4095,8191]) 8 (by kernel_rfl) mixed hF (by kernel_rfl) ?_
   refine SimK.pures (D' := 3) (is := [0,1]) (vs := [.int .i64 ((m : Nat) : Int),.int .i64 ((half n : Nat) : Int)]) (by kernel_rfl) ?_
   refine SimK.pure1 (D' := 7) (i := 2) (v := .int .i64 ((m - (half n) : Nat) : Int)) (v' := .int .i64 (IntKind.i64.wrap (((m : Nat) : Int) - ((half n : Nat) : Int)))) (by kernel_rfl) (by kernel_rfl) (by kernel_rfl) (congrArg (Value.int .i64) (w64' (by omega) (by omega) (by omega))) ?_
   refine SimK.pures (D' := 31) (is := [3,4]) (vs := [.slice (some aa) n vc,.int .i64 ((half n : Nat) : Int)]) (by kernel_rfl) ?_
   refine SimK.free (D' := 63) (i := 5) (v := .slice ad2 (n - half n) (vc - half n)) (by kernel_rfl) (by kernel_rfl) (fun h => Calm.sliceO (a := (some aa)) (len := n) (cap := vc) (sz := 32) (x := ad2) (half n) n vc (n - half n) (vc - half n) (by kernel_rfl) (.inl ⟨rfl,rfl⟩) (.inl ⟨rfl,rfl⟩) (.inr rfl) (by omega) (by omega) had2 (by first | rfl | omega) (by first | rfl | omega) h) ?_
   refine SimK.pures (D' := 447) (is := [7,8]) (vs := [.slice (some aa) n vc,.int .i64 ((half n : Nat) : Int)]) (by kernel_rfl) ?_
   refine SimK.free (D' := 959) (i := 9) (v := .slice (some aa) (half n) vc) (by kernel_rfl) (by kernel_rfl) (fun h => Calm.sliceO (a := (some aa)) (len := n) (cap := vc) (sz := 32) (x := (some aa)) 0 (half n) vc (half n) vc (by kernel_rfl) (.inl ⟨rfl,rfl⟩) (.inr rfl) (.inl ⟨rfl,rfl⟩) (by omega) (by omega) (opt_add0 _ 32) (by first | rfl | omega) (by first | rfl | omega) h) ?_
   have hpl := ((hL.ext e0).drop (by omega) had2).2.2
   have hil := cons_len _ (L.drop (half n)) (m - half n) false (Nat.le_refl _) (by omega) (by omega)
   refine SimK.eff0 (i := 6) (D' := 1023) (X' := 127) (by kernel_rfl) (by kernel_rfl) (by kernel_rfl) (by kernel_rfl) (Does.call (f := 35) (args := #[.int .i64 ((m - (half n) : Nat) : Int),.slice ad2 (n - half n) (vc - half n),.bool false]) (by kernel_rfl) (ih _ (L.drop (half n)) _ _ (n - half n) (m - half n) false (by omega) (by omega) (by omega) ((hL.ext e0).drop (by omega) had2))) ?_
   rintro _ h24 ⟨ad22,cap23,rfl,ownx,hge,g⟩
   have hlo := e0.size
   have sepo := sep
   replace e0 := e0.ext g
   replace sep := sep.up g.size
   replace sep := sepo.cons (x := ad22.map (fun (x : Addr) => x.block)) g.size hlo (fun k e => ⟨hge k e,ownx.lt (by rw [blkOf_slice]; exact e)⟩)
   have own_p : Own h24 (.slice ad22 ((cons (m - half n) (L.drop (half n)) false).length) cap23) 27 ((cons (m - half n) (L.drop (half n)) false).length) 32 (hcs (cons (m - half n) (L.drop (half n)) false)) := ownx; clear ownx sepo hlo hge g
   refine SimK.eff0 (i := 10) (D' := 2047) (X' := 2047) (by kernel_rfl) (by kernel_rfl) (by kernel_rfl) (by kernel_rfl) (Does.call (f := 13) (args := #[.slice (some aa) (half n) vc]) (by kernel_rfl) (rroot_sat _ (L.take (half n)) _ _ (half n) ((hL.ext e0).take (k := half n) (by omega)) (by omega))) ?_
   rintro _ h25 ⟨rfl,g⟩
   replace e0 := e0.ext g
   replace own_p := own_p.ext g
   replace sep := sep.up g.size
   clear g
   refine SimK.eff0 (i := 11) (D' := 4095) (X' := 4095) (by kernel_rfl) (by kernel_rfl) (by kernel_rfl) (by kernel_rfl) (Does.newHs (L := [root (L.take (half n))]) (t := 24) (E := 27) (by_ := 32) (n := 1) (by kernel_rfl) (by kernel_rfl) (All32.cons (root_len (hL.2.1.take _)) All32.nil) rfl (by decide) (by decide)) ?_
   rintro _ h26 ⟨rfl,hh⟩
   have g27 : Ext h25 h26 := push_ext hh
   have m28 : h26[h25.size]? = some (.cells (hcs [root (L.take (half n))]).toArray 27) := push_at hh
   clear hh
   have lt29 := blk_lt m28
   have z30 := e0.size
   have hlo := e0.size
   have sepo := sep
   replace e0 := e0.ext g27
   replace own_p := own_p.ext g27
   replace sep := sep.up g27.size
   replace sep := sepo.new hlo (blk_lt m28)
   clear sepo hlo
   refine SimK.eff0 (i := 12) (D' := 8191) (X' := 8191) (by kernel_rfl) (by kernel_rfl) (by kernel_rfl) (by kernel_rfl) (Does.append2 (t := 24) (E := 27) (sz := 32) (by_ := 32) (n := (cons (m - half n) (L.drop (half n)) false).length) (m := 1) (v := .slice ad22 ((cons (m - half n) (L.drop (half n)) false).length) cap23) (x := .slice (some ⟨h25.size,0,none⟩) 1 1) (xs := (hcs (cons (m - half n) (L.drop (half n)) false))) (ys := (hcs ([root (L.take (half n))]))) (by kernel_rfl) (by kernel_rfl) own_p (hrow1 (root_len (hL.2.1.take _)) m28) (ones_hcs _) (by unfold maxLen; omega) (by omega)) ?_
   rintro _ h33 ⟨ad31,cap32,rfl,ownx,g,hb⟩
   rw [blkOf_slice] at g hb
   have hlo := e0.size
   have sepo := sep
   replace e0 := e0.grew g (sep.low 1 rfl)
   replace m28 := Grew.blk g m28 ((sep.bp 0 1 rfl rfl (by decide)))
   replace sep := sep.up g.size
   replace sep : Sep h.size h33.size [some (h25.size),ad31.map (·.block)] := sepo.set g.size hlo 1 (y := ad31.map (fun (x : Addr) => x.block)) rfl (hb.imp id fun e => .inr ⟨_,e,Nat.le_refl _⟩) (fun k e => ownx.lt (by rw [blkOf_slice]; exact e))
   replace own_p : Own h33 (.slice ad31 ((cons (m - half n) (L.drop (half n)) false ++ [root (L.take (half n))]).length) cap32) 27 ((cons (m - half n) (L.drop (half n)) false ++ [root (L.take (half n))]).length) 32 (hcs (cons (m - half n) (L.drop (half n)) false ++ [root (L.take (half n))])) := Own.appG ownx (by first | rfl | exact (hcs_append _ _).symm | simp [hcs_append]) (by first | rfl | (simp; done) | (simp; omega))
   clear ownx g hb hlo sepo
   clear m28
   replace sep := sep.sub (l' := [ad31.map (·.block)]) (.cons _ (.cons_cons _ (.slnil)))
   refine SimK.pures (D' := 16383) (is := [13]) (vs := [.slice ad31 (((cons (m - half n) (L.drop (half n)) false).length) + 1) cap32]) (by kernel_rfl) ?_
   refine SimK.done [6] (L := [(6,.slice ad31 (((cons (m - half n) (L.drop (half n)) false).length) + 1) cap32)]) (by kernel_rfl) (by kernel_rfl) ?_
   clear hF; clear a; intro a hF
   have hcan : (((cons (m - half n) (L.drop (half n)) false).length) + 1 : Nat) = (cons (m - half n) (L.drop (half n)) false ++ [root (L.take (half n))]).length := by first | (simp; done) | (simp; omega)
   rw [hcan] at hF; clear hcan
   show C Tryd.prog (sub b35 [1,1,1,1,1]) _ a h33
   refine C.ret (by kernel_rfl) ?_
   show retK Tryd.prog Tryd.f35 (fun v h' => OwnNew h h' 27 v (cons m L whole)) .ret a h33
   refine ret_ok [.tmp 6] [.slice ad31 ((cons (m - half n) (L.drop (half n)) false ++ [root (L.take (half n))]).length) cap32] (.slice ad31 ((cons (m - half n) (L.drop (half n)) false ++ [root (L.take (half n))]).length) cap32) rfl hF ⟨rfl,trivial⟩ rfl ?_
   exact OwnNew.cast (by have := cons_hi (l := L) (m := m) (w := whole) (by omega) (by rw [hLn]; omega); rw [hLn] at this; exact this.symm) ⟨ad31,cap32,rfl,own_p,sep.low 0 rfl,e0⟩
theorem rpart_all : ∀ (k n : Nat),n ≤ k → ∀ (h : Heap) (L : List Hs) (va : Option Addr) (vc m : Nat) (whole : Bool),0 < m → m ≤ n → HR h va vc n L → n ≤ 1099511627000 → Sat Tryd.prog 35 #[.int .i64 ((m : Nat) : Int),.slice va n vc,.bool whole] h fun v h' => OwnNew h h' 27 v (cons m L whole)
 | 0,n,hk,h,L,va,vc,m,whole,hm0,hm,hL,hn => by omega
 | k + 1,n,hk,h,L,va,vc,m,whole,hm0,hm,hL,hn => rpart_step h L va vc n hL hn m whole hm0 hm fun _ _ _ _ _ _ _ hlt hm0' hm' hL' => rpart_all k _ (by omega) _ _ _ _ _ _ hm0' hm' hL' (by omega)
theorem rpart_sat (h : Heap) (L : List Hs) (va : Option Addr) (vc n : Nat) (hL : HR h va vc n L) (hn : n ≤ 1099511627000) (m : Nat) (whole : Bool) (hm0 : 0 < m) (hm : m ≤ n) : Sat Tryd.prog 35 #[.int .i64 ((m : Nat) : Int),.slice va n vc,.bool whole] h fun v h' => OwnNew h h' 27 v (cons m L whole) := rpart_all n n (Nat.le_refl _) h L va vc m whole hm0 hm hL hn
noncomputable def b17 : Code := Tryd.f17.body.getD .skip
theorem rincl_sat (h : Heap) (L : List Hs) (va : Option Addr) (vc n : Nat) (hL : HR h va vc n L) (hn : n ≤ 1099511627000) (m : Int) : Sat Tryd.prog 17 #[.slice va n vc,.int .i64 m] h fun v h' => ∃ s,v = .tuple #[s,.int .i64 (inclZ L m).2] ∧ OwnNew h h' 27 s (inclZ L m).1 := by
 have hLn := hL.2.2
 have e0 := Ext.refl h
 have sep : Sep h.size h.size [] := Sep.nil _ _
 refine sat_of (args := [.slice va n vc,.int .i64 m]) (fn := Tryd.f17) (B := b17) (n := 17) (L := [(0,.slice va n vc),(1,.int .i64 m)]) Tryd.func17 rfl (by kernel_rfl) rfl ?_
 intro a hF
 refine C.seq [0] [1] (by kernel_rfl) ?_
 refine C.plain 0 (by kernel_rfl) hF (by kernel_rfl) ?_
 refine SeqK.pures (k' := 2) [.slice none 0 0,.int .i64 0] (by kernel_rfl) rfl ?_
 refine SeqK.done [0,1] (L := [(0,.slice va n vc),(1,.int .i64 m)]) (by kernel_rfl) (by kernel_rfl) ?_
 clear hF; clear a; intro a hF
 show C Tryd.prog (sub b17 [1]) _ a h
 refine C.seq [1,0] [1,1] (by kernel_rfl) ?_
 refine C.seq [1,0,0] [1,0,1] (by kernel_rfl) ?_
 have hm3 : m < 0 ∨ (n : Int) ≤ m ∨ ∃ k : Nat,m = (k : Int) ∧ k < n := by
  rcases Int.lt_or_le m 0 with h0 | h0
  ·exact .inl h0
  ·rcases Int.lt_or_le m n with h1 | h1
   ·exact .inr (.inr ⟨m.toNat,by omega,by omega⟩)
   ·exact .inr (.inl h1)
 rcases hm3 with hm0 | hm0 | ⟨k,rfl,hk⟩
 ·skip
  refine C.plain 1 (by kernel_rfl) hF (by kernel_rfl) ?_
  refine SeqK.pures (k' := 1) [.int .i64 m] (by kernel_rfl) rfl ?_
  refine SeqK.pure1 (k' := 2) (v := .bool true) (v' := .bool (decide (m < (0 : Int)))) (by kernel_rfl) (congrArg Value.bool (decide_eq_true (by omega))) rfl ?_
  refine SeqK.pures (k' := 8) [.bool true,undef,undef,undef,undef,.bool true] (by kernel_rfl) rfl ?_
  refine SeqK.done [0,1,13] (L := [(0,.slice va n vc),(1,.int .i64 m),(13,.bool true)]) (by kernel_rfl) (by kernel_rfl) ?_
  clear hF; clear a; intro a hF
  show C Tryd.prog (sub b17 [1,0,1]) _ a h
  refine C.condT 13 [1,0,1,0] [1,0,1,1] (by kernel_rfl) hF (fun _ => rfl) ?_
  refine C.seq [1,0,1,0,0] [1,0,1,0,1] (by kernel_rfl) ?_
  refine C.plain 2 (by kernel_rfl) hF (by kernel_rfl) ?_
  refine SeqK.pures (k' := 2) [.slice none 0 0,.int .i64 50] (by kernel_rfl) rfl ?_
  refine SeqK.done [4,5] (L := [(4,.slice none 0 0),(5,.int .i64 50)]) (by kernel_rfl) (by kernel_rfl) ?_
  clear hF; clear a; intro a hF
  show C Tryd.prog (sub b17 [1,0,1,0,1]) _ a h
  refine C.ret (by kernel_rfl) ?_
  show retK Tryd.prog Tryd.f17 (fun v h' => ∃ s,v = .tuple #[s,.int .i64 (inclZ L m).2] ∧ OwnNew h h' 27 s (inclZ L m).1) .ret a h
  refine ret_ok [.tmp 4,.tmp 5] [.slice none 0 0,.int .i64 50] (.tuple #[.slice none 0 0,.int .i64 50]) rfl hF ⟨rfl,rfl,trivial⟩ rfl ?_
  rw [inclZ_no (by omega)]; exact ⟨_,rfl,OwnNew.none e0⟩
 ·skip
  refine C.plain 1 (by kernel_rfl) hF (by kernel_rfl) ?_
  refine SeqK.pures (k' := 1) [.int .i64 m] (by kernel_rfl) rfl ?_
  refine SeqK.pure1 (k' := 2) (v := .bool false) (v' := .bool (decide (m < (0 : Int)))) (by kernel_rfl) (congrArg Value.bool (decide_eq_false (by omega))) rfl ?_
  refine SeqK.pures (k' := 6) [.bool false,.int .i64 m,.slice va n vc,.int .i64 ((n : Nat) : Int)] (by kernel_rfl) rfl ?_
  refine SeqK.pure1 (k' := 7) (v := .bool true) (v' := .bool (decide (((n : Nat) : Int) ≤ m))) (by kernel_rfl) (congrArg Value.bool (decide_eq_true (by omega))) rfl ?_
  refine SeqK.pures (k' := 8) [.bool true] (by kernel_rfl) rfl ?_
  refine SeqK.done [0,1,13] (L := [(0,.slice va n vc),(1,.int .i64 m),(13,.bool true)]) (by kernel_rfl) (by kernel_rfl) ?_
  clear hF; clear a; intro a hF
  show C Tryd.prog (sub b17 [1,0,1]) _ a h
  refine C.condT 13 [1,0,1,0] [1,0,1,1] (by kernel_rfl) hF (fun _ => rfl) ?_
  refine C.seq [1,0,1,0,0] [1,0,1,0,1] (by kernel_rfl) ?_
  refine C.plain 2 (by kernel_rfl) hF (by kernel_rfl) ?_
  refine SeqK.pures (k' := 2) [.slice none 0 0,.int .i64 50] (by kernel_rfl) rfl ?_
  refine SeqK.done [4,5] (L := [(4,.slice none 0 0),(5,.int .i64 50)]) (by kernel_rfl) (by kernel_rfl) ?_
  clear hF; clear a; intro a hF
  show C Tryd.prog (sub b17 [1,0,1,0,1]) _ a h
  refine C.ret (by kernel_rfl) ?_
  show retK Tryd.prog Tryd.f17 (fun v h' => ∃ s,v = .tuple #[s,.int .i64 (inclZ L m).2] ∧ OwnNew h h' 27 s (inclZ L m).1) .ret a h
  refine ret_ok [.tmp 4,.tmp 5] [.slice none 0 0,.int .i64 50] (.tuple #[.slice none 0 0,.int .i64 50]) rfl hF ⟨rfl,rfl,trivial⟩ rfl ?_
  rw [inclZ_no (by omega)]; exact ⟨_,rfl,OwnNew.none e0⟩
 ·skip
  refine C.plain 1 (by kernel_rfl) hF (by kernel_rfl) ?_
  refine SeqK.pures (k' := 1) [.int .i64 ((k : Nat) : Int)] (by kernel_rfl) rfl ?_
  refine SeqK.pure1 (k' := 2) (v := .bool false) (v' := .bool (decide (((k : Nat) : Int) < (0 : Int)))) (by kernel_rfl) (congrArg Value.bool (decide_eq_false (by omega))) rfl ?_
  refine SeqK.pures (k' := 6) [.bool false,.int .i64 ((k : Nat) : Int),.slice va n vc,.int .i64 ((n : Nat) : Int)] (by kernel_rfl) rfl ?_
  refine SeqK.pure1 (k' := 7) (v := .bool false) (v' := .bool (decide (((n : Nat) : Int) ≤ ((k : Nat) : Int)))) (by kernel_rfl) (congrArg Value.bool (decide_eq_false (by omega))) rfl ?_
  refine SeqK.pures (k' := 8) [.bool false] (by kernel_rfl) rfl ?_
  refine SeqK.done [0,1,13] (L := [(0,.slice va n vc),(1,.int .i64 ((k : Nat) : Int)),(13,.bool false)]) (by kernel_rfl) (by kernel_rfl) ?_
  clear hF; clear a; intro a hF
  show C Tryd.prog (sub b17 [1,0,1]) _ a h
  refine C.condF 13 [1,0,1,0] [1,0,1,1] (by kernel_rfl) hF (fun _ => rfl) ?_
  refine C.skip (by kernel_rfl) ?_
  show C Tryd.prog (sub b17 [1,1]) _ a h
  refine C.seq [1,1,0] [1,1,1] (by kernel_rfl) ?_
  refine C.plain 3 (by kernel_rfl) hF (by kernel_rfl) ?_
  refine SeqK.pures (k' := 2) [.slice va n vc,.int .i64 ((k : Nat) : Int)] (by kernel_rfl) rfl ?_
  refine SeqK.eff (k' := 3) (Does.call (f := 33) (args := #[.slice va n vc,.int .i64 ((k : Nat) : Int)]) (by kernel_rfl) (rproof_sat _ L _ _ _ (hL.ext e0) (by omega) k (by omega))) rfl ?_
  rintro _ h3 ⟨ad1,cap2,rfl,ownx,hge,g⟩
  have hlo := e0.size
  have sepo := sep
  replace e0 := e0.ext g
  replace sep := sep.up g.size
  replace sep := sepo.cons (x := ad1.map (fun (x : Addr) => x.block)) g.size hlo (fun k e => ⟨hge k e,ownx.lt (by rw [blkOf_slice]; exact e)⟩)
  have own_p : Own h3 (.slice ad1 ((incl L k).length) cap2) 27 ((incl L k).length) 32 (hcs (incl L k)) := ownx; clear ownx sepo hlo hge g
  refine SeqK.pures (k' := 5) [.slice ad1 ((incl L k).length) cap2,.int .i64 0] (by kernel_rfl) rfl ?_
  refine SeqK.done [4,5] (L := [(4,.slice ad1 ((incl L k).length) cap2),(5,.int .i64 0)]) (by kernel_rfl) (by kernel_rfl) ?_
  clear hF; clear a; intro a hF
  show C Tryd.prog (sub b17 [1,1,1]) _ a h3
  refine C.ret (by kernel_rfl) ?_
  show retK Tryd.prog Tryd.f17 (fun v h' => ∃ s,v = .tuple #[s,.int .i64 (inclZ L (k : Int)).2] ∧ OwnNew h h' 27 s (inclZ L (k : Int)).1) .ret a h3
  refine ret_ok [.tmp 4,.tmp 5] [.slice ad1 ((incl L k).length) cap2,.int .i64 0] (.tuple #[.slice ad1 ((incl L k).length) cap2,.int .i64 0]) rfl hF ⟨rfl,rfl,trivial⟩ rfl ?_
  rw [inclZ_yes (by omega)]; exact ⟨_,rfl,ad1,cap2,rfl,own_p,sep.low 0 rfl,e0⟩
noncomputable def b19 : Code := Tryd.f19.body.getD .skip
theorem rcons_sat (h : Heap) (L : List Hs) (va : Option Addr) (vc n : Nat) (hL : HR h va vc n L) (hn : n ≤ 1099511627000) (m : Int) : Sat Tryd.prog 19 #[.slice va n vc,.int .i64 m] h fun v h' => ∃ s,v = .tuple #[s,.int .i64 (consZ L m).2] ∧ OwnNew h h' 27 s (consZ L m).1 := by
 have hLn := hL.2.2
 have e0 := Ext.refl h
 have sep : Sep h.size h.size [] := Sep.nil _ _
 refine sat_of (args := [.slice va n vc,.int .i64 m]) (fn := Tryd.f19) (B := b19) (n := 25) (L := [(0,.slice va n vc),(1,.int .i64 m)]) Tryd.func19 rfl (by kernel_rfl) rfl ?_
 intro a hF
 refine C.seq [0] [1] (by kernel_rfl) ?_
 refine C.plain 0 (by kernel_rfl) hF (by kernel_rfl) ?_
 refine SeqK.pures (k' := 2) [.slice none 0 0,.int .i64 0] (by kernel_rfl) rfl ?_
 refine SeqK.done [0,1] (L := [(0,.slice va n vc),(1,.int .i64 m)]) (by kernel_rfl) (by kernel_rfl) ?_
 clear hF; clear a; intro a hF
 show C Tryd.prog (sub b19 [1]) _ a h
 refine C.seq [1,0] [1,1] (by kernel_rfl) ?_
 refine C.seq [1,0,0] [1,0,1] (by kernel_rfl) ?_
 have hm3 : m < 0 ∨ (n : Int) < m ∨ ∃ k : Nat,m = (k : Int) ∧ k ≤ n := by
  rcases Int.lt_or_le m 0 with h0 | h0
  ·exact .inl h0
  ·rcases Int.lt_or_le n m with h1 | h1
   ·exact .inr (.inl h1)
   ·exact .inr (.inr ⟨m.toNat,by omega,by omega⟩)
 rcases hm3 with hm0 | hm0 | ⟨k,rfl,hk⟩
 rotate_left 2
 rcases (show k = 0 ∨ k = n ∧ 0 < n ∨ 0 < k ∧ k < n by omega) with hk2 | hk2 | hk2
 rotate_left 3
 ·skip
  refine C.plain 1 (by kernel_rfl) hF (by kernel_rfl) ?_
  refine SeqK.pures (k' := 1) [.int .i64 m] (by kernel_rfl) rfl ?_
  refine SeqK.pure1 (k' := 2) (v := .bool true) (v' := .bool (decide (m < (0 : Int)))) (by kernel_rfl) (congrArg Value.bool (decide_eq_true (by omega))) rfl ?_
  refine SeqK.pures (k' := 8) [.bool true,undef,undef,undef,undef,.bool true] (by kernel_rfl) rfl ?_
  refine SeqK.done [0,1,13] (L := [(0,.slice va n vc),(1,.int .i64 m),(13,.bool true)]) (by kernel_rfl) (by kernel_rfl) ?_
  clear hF; clear a; intro a hF
  show C Tryd.prog (sub b19 [1,0,1]) _ a h
  refine C.condT 13 [1,0,1,0] [1,0,1,1] (by kernel_rfl) hF (fun _ => rfl) ?_
  refine C.seq [1,0,1,0,0] [1,0,1,0,1] (by kernel_rfl) ?_
  refine C.plain 2 (by kernel_rfl) hF (by kernel_rfl) ?_
  refine SeqK.pures (k' := 2) [.slice none 0 0,.int .i64 50] (by kernel_rfl) rfl ?_
  refine SeqK.done [4,5] (L := [(4,.slice none 0 0),(5,.int .i64 50)]) (by kernel_rfl) (by kernel_rfl) ?_
  clear hF; clear a; intro a hF
  show C Tryd.prog (sub b19 [1,0,1,0,1]) _ a h
  refine C.ret (by kernel_rfl) ?_
  show retK Tryd.prog Tryd.f19 (fun v h' => ∃ s,v = .tuple #[s,.int .i64 (consZ L m).2] ∧ OwnNew h h' 27 s (consZ L m).1) .ret a h
  refine ret_ok [.tmp 4,.tmp 5] [.slice none 0 0,.int .i64 50] (.tuple #[.slice none 0 0,.int .i64 50]) rfl hF ⟨rfl,rfl,trivial⟩ rfl ?_
  rw [consZ_no (by omega)]; exact ⟨_,rfl,OwnNew.none e0⟩
 ·skip
  refine C.plain 1 (by kernel_rfl) hF (by kernel_rfl) ?_
  refine SeqK.pures (k' := 1) [.int .i64 m] (by kernel_rfl) rfl ?_
  refine SeqK.pure1 (k' := 2) (v := .bool false) (v' := .bool (decide (m < (0 : Int)))) (by kernel_rfl) (congrArg Value.bool (decide_eq_false (by omega))) rfl ?_
  refine SeqK.pures (k' := 6) [.bool false,.int .i64 m,.slice va n vc,.int .i64 ((n : Nat) : Int)] (by kernel_rfl) rfl ?_
  refine SeqK.pure1 (k' := 7) (v := .bool true) (v' := .bool (decide (((n : Nat) : Int) < m))) (by kernel_rfl) (congrArg Value.bool (decide_eq_true (by omega))) rfl ?_
  refine SeqK.pures (k' := 8) [.bool true] (by kernel_rfl) rfl ?_
  refine SeqK.done [0,1,13] (L := [(0,.slice va n vc),(1,.int .i64 m),(13,.bool true)]) (by kernel_rfl) (by kernel_rfl) ?_
  clear hF; clear a; intro a hF
  show C Tryd.prog (sub b19 [1,0,1]) _ a h
  refine C.condT 13 [1,0,1,0] [1,0,1,1] (by kernel_rfl) hF (fun _ => rfl) ?_
  refine C.seq [1,0,1,0,0] [1,0,1,0,1] (by kernel_rfl) ?_
  refine C.plain 2 (by kernel_rfl) hF (by kernel_rfl) ?_
  refine SeqK.pures (k' := 2) [.slice none 0 0,.int .i64 50] (by kernel_rfl) rfl ?_
  refine SeqK.done [4,5] (L := [(4,.slice none 0 0),(5,.int .i64 50)]) (by kernel_rfl) (by kernel_rfl) ?_
  clear hF; clear a; intro a hF
  show C Tryd.prog (sub b19 [1,0,1,0,1]) _ a h
  refine C.ret (by kernel_rfl) ?_
  show retK Tryd.prog Tryd.f19 (fun v h' => ∃ s,v = .tuple #[s,.int .i64 (consZ L m).2] ∧ OwnNew h h' 27 s (consZ L m).1) .ret a h
  refine ret_ok [.tmp 4,.tmp 5] [.slice none 0 0,.int .i64 50] (.tuple #[.slice none 0 0,.int .i64 50]) rfl hF ⟨rfl,rfl,trivial⟩ rfl ?_
  rw [consZ_no (by omega)]; exact ⟨_,rfl,OwnNew.none e0⟩
 ·skip
  refine C.plain 1 (by kernel_rfl) hF (by kernel_rfl) ?_
  refine SeqK.pures (k' := 1) [.int .i64 ((k : Nat) : Int)] (by kernel_rfl) rfl ?_
  refine SeqK.pure1 (k' := 2) (v := .bool false) (v' := .bool (decide (((k : Nat) : Int) < (0 : Int)))) (by kernel_rfl) (congrArg Value.bool (decide_eq_false (by omega))) rfl ?_
  refine SeqK.pures (k' := 6) [.bool false,.int .i64 ((k : Nat) : Int),.slice va n vc,.int .i64 ((n : Nat) : Int)] (by kernel_rfl) rfl ?_
  refine SeqK.pure1 (k' := 7) (v := .bool false) (v' := .bool (decide (((n : Nat) : Int) < ((k : Nat) : Int)))) (by kernel_rfl) (congrArg Value.bool (decide_eq_false (by omega))) rfl ?_
  refine SeqK.pures (k' := 8) [.bool false] (by kernel_rfl) rfl ?_
  refine SeqK.done [0,1,13] (L := [(0,.slice va n vc),(1,.int .i64 ((k : Nat) : Int)),(13,.bool false)]) (by kernel_rfl) (by kernel_rfl) ?_
  clear hF; clear a; intro a hF
  show C Tryd.prog (sub b19 [1,0,1]) _ a h
  refine C.condF 13 [1,0,1,0] [1,0,1,1] (by kernel_rfl) hF (fun _ => rfl) ?_
  refine C.skip (by kernel_rfl) ?_
  show C Tryd.prog (sub b19 [1,1]) _ a h
  refine C.seq [1,1,0] [1,1,1] (by kernel_rfl) ?_
  refine C.seq [1,1,0,0] [1,1,0,1] (by kernel_rfl) ?_
  refine C.plain 3 (by kernel_rfl) hF (by kernel_rfl) ?_
  refine SeqK.pures (k' := 1) [.int .i64 ((k : Nat) : Int)] (by kernel_rfl) rfl ?_
  refine SeqK.pure1 (k' := 2) (v := .bool true) (v' := .bool (((k : Nat) : Int) == (0 : Int))) (by kernel_rfl) (congrArg Value.bool (beq_iff_eq.2 (by omega))) rfl ?_
  refine SeqK.pures (k' := 8) [.bool true,undef,undef,undef,undef,.bool true] (by kernel_rfl) rfl ?_
  refine SeqK.done [0,1,21] (L := [(0,.slice va n vc),(1,.int .i64 ((k : Nat) : Int)),(21,.bool true)]) (by kernel_rfl) (by kernel_rfl) ?_
  clear hF; clear a; intro a hF
  show C Tryd.prog (sub b19 [1,1,0,1]) _ a h
  refine C.condT 21 [1,1,0,1,0] [1,1,0,1,1] (by kernel_rfl) hF (fun _ => rfl) ?_
  refine C.seq [1,1,0,1,0,0] [1,1,0,1,0,1] (by kernel_rfl) ?_
  refine C.plain 4 (by kernel_rfl) hF (by kernel_rfl) ?_
  refine SeqK.pures (k' := 2) [.slice none 0 0,.int .i64 0] (by kernel_rfl) rfl ?_
  refine SeqK.done [4,5] (L := [(4,.slice none 0 0),(5,.int .i64 0)]) (by kernel_rfl) (by kernel_rfl) ?_
  clear hF; clear a; intro a hF
  show C Tryd.prog (sub b19 [1,1,0,1,0,1]) _ a h
  refine C.ret (by kernel_rfl) ?_
  show retK Tryd.prog Tryd.f19 (fun v h' => ∃ s,v = .tuple #[s,.int .i64 (consZ L (k : Int)).2] ∧ OwnNew h h' 27 s (consZ L (k : Int)).1) .ret a h
  refine ret_ok [.tmp 4,.tmp 5] [.slice none 0 0,.int .i64 0] (.tuple #[.slice none 0 0,.int .i64 0]) rfl hF ⟨rfl,rfl,trivial⟩ rfl ?_
  rw [consZ_ok (by omega) (by omega)]; exact ⟨_,rfl,OwnNew.none e0⟩
 ·skip
  refine C.plain 1 (by kernel_rfl) hF (by kernel_rfl) ?_
  refine SeqK.pures (k' := 1) [.int .i64 ((k : Nat) : Int)] (by kernel_rfl) rfl ?_
  refine SeqK.pure1 (k' := 2) (v := .bool false) (v' := .bool (decide (((k : Nat) : Int) < (0 : Int)))) (by kernel_rfl) (congrArg Value.bool (decide_eq_false (by omega))) rfl ?_
  refine SeqK.pures (k' := 6) [.bool false,.int .i64 ((k : Nat) : Int),.slice va n vc,.int .i64 ((n : Nat) : Int)] (by kernel_rfl) rfl ?_
  refine SeqK.pure1 (k' := 7) (v := .bool false) (v' := .bool (decide (((n : Nat) : Int) < ((k : Nat) : Int)))) (by kernel_rfl) (congrArg Value.bool (decide_eq_false (by omega))) rfl ?_
  refine SeqK.pures (k' := 8) [.bool false] (by kernel_rfl) rfl ?_
  refine SeqK.done [0,1,13] (L := [(0,.slice va n vc),(1,.int .i64 ((k : Nat) : Int)),(13,.bool false)]) (by kernel_rfl) (by kernel_rfl) ?_
  clear hF; clear a; intro a hF
  show C Tryd.prog (sub b19 [1,0,1]) _ a h
  refine C.condF 13 [1,0,1,0] [1,0,1,1] (by kernel_rfl) hF (fun _ => rfl) ?_
  refine C.skip (by kernel_rfl) ?_
  show C Tryd.prog (sub b19 [1,1]) _ a h
  refine C.seq [1,1,0] [1,1,1] (by kernel_rfl) ?_
  refine C.seq [1,1,0,0] [1,1,0,1] (by kernel_rfl) ?_
  refine C.plain 3 (by kernel_rfl) hF (by kernel_rfl) ?_
  refine SeqK.pures (k' := 1) [.int .i64 ((k : Nat) : Int)] (by kernel_rfl) rfl ?_
  refine SeqK.pure1 (k' := 2) (v := .bool false) (v' := .bool (((k : Nat) : Int) == (0 : Int))) (by kernel_rfl) (congrArg Value.bool (beq_eq_false_iff_ne.2 (by omega))) rfl ?_
  refine SeqK.pures (k' := 6) [.bool false,.int .i64 ((k : Nat) : Int),.slice va n vc,.int .i64 ((n : Nat) : Int)] (by kernel_rfl) rfl ?_
  refine SeqK.pure1 (k' := 7) (v := .bool true) (v' := .bool (((k : Nat) : Int) == ((n : Nat) : Int))) (by kernel_rfl) (congrArg Value.bool (beq_iff_eq.2 (by omega))) rfl ?_
  refine SeqK.pures (k' := 8) [.bool true] (by kernel_rfl) rfl ?_
  refine SeqK.done [0,1,21] (L := [(0,.slice va n vc),(1,.int .i64 ((k : Nat) : Int)),(21,.bool true)]) (by kernel_rfl) (by kernel_rfl) ?_
  clear hF; clear a; intro a hF
  show C Tryd.prog (sub b19 [1,1,0,1]) _ a h
  refine C.condT 21 [1,1,0,1,0] [1,1,0,1,1] (by kernel_rfl) hF (fun _ => rfl) ?_
  refine C.seq [1,1,0,1,0,0] [1,1,0,1,0,1] (by kernel_rfl) ?_
  refine C.plain 4 (by kernel_rfl) hF (by kernel_rfl) ?_
  refine SeqK.pures (k' := 2) [.slice none 0 0,.int .i64 0] (by kernel_rfl) rfl ?_
  refine SeqK.done [4,5] (L := [(4,.slice none 0 0),(5,.int .i64 0)]) (by kernel_rfl) (by kernel_rfl) ?_
  clear hF; clear a; intro a hF
  show C Tryd.prog (sub b19 [1,1,0,1,0,1]) _ a h
  refine C.ret (by kernel_rfl) ?_
  show retK Tryd.prog Tryd.f19 (fun v h' => ∃ s,v = .tuple #[s,.int .i64 (consZ L (k : Int)).2] ∧ OwnNew h h' 27 s (consZ L (k : Int)).1) .ret a h
  refine ret_ok [.tmp 4,.tmp 5] [.slice none 0 0,.int .i64 0] (.tuple #[.slice none 0 0,.int .i64 0]) rfl hF ⟨rfl,rfl,trivial⟩ rfl ?_
  rw [consZ_ok (by omega) (by omega)]; exact ⟨_,rfl,OwnNew.none e0⟩
 ·skip
  refine C.plain 1 (by kernel_rfl) hF (by kernel_rfl) ?_
  refine SeqK.pures (k' := 1) [.int .i64 ((k : Nat) : Int)] (by kernel_rfl) rfl ?_
  refine SeqK.pure1 (k' := 2) (v := .bool false) (v' := .bool (decide (((k : Nat) : Int) < (0 : Int)))) (by kernel_rfl) (congrArg Value.bool (decide_eq_false (by omega))) rfl ?_
  refine SeqK.pures (k' := 6) [.bool false,.int .i64 ((k : Nat) : Int),.slice va n vc,.int .i64 ((n : Nat) : Int)] (by kernel_rfl) rfl ?_
  refine SeqK.pure1 (k' := 7) (v := .bool false) (v' := .bool (decide (((n : Nat) : Int) < ((k : Nat) : Int)))) (by kernel_rfl) (congrArg Value.bool (decide_eq_false (by omega))) rfl ?_
  refine SeqK.pures (k' := 8) [.bool false] (by kernel_rfl) rfl ?_
  refine SeqK.done [0,1,13] (L := [(0,.slice va n vc),(1,.int .i64 ((k : Nat) : Int)),(13,.bool false)]) (by kernel_rfl) (by kernel_rfl) ?_
  clear hF; clear a; intro a hF
  show C Tryd.prog (sub b19 [1,0,1]) _ a h
  refine C.condF 13 [1,0,1,0] [1,0,1,1] (by kernel_rfl) hF (fun _ => rfl) ?_
  refine C.skip (by kernel_rfl) ?_
  show C Tryd.prog (sub b19 [1,1]) _ a h
  refine C.seq [1,1,0] [1,1,1] (by kernel_rfl) ?_
  refine C.seq [1,1,0,0] [1,1,0,1] (by kernel_rfl) ?_
  refine C.plain 3 (by kernel_rfl) hF (by kernel_rfl) ?_
  refine SeqK.pures (k' := 1) [.int .i64 ((k : Nat) : Int)] (by kernel_rfl) rfl ?_
  refine SeqK.pure1 (k' := 2) (v := .bool false) (v' := .bool (((k : Nat) : Int) == (0 : Int))) (by kernel_rfl) (congrArg Value.bool (beq_eq_false_iff_ne.2 (by omega))) rfl ?_
  refine SeqK.pures (k' := 6) [.bool false,.int .i64 ((k : Nat) : Int),.slice va n vc,.int .i64 ((n : Nat) : Int)] (by kernel_rfl) rfl ?_
  refine SeqK.pure1 (k' := 7) (v := .bool false) (v' := .bool (((k : Nat) : Int) == ((n : Nat) : Int))) (by kernel_rfl) (congrArg Value.bool (beq_eq_false_iff_ne.2 (by omega))) rfl ?_
  refine SeqK.pures (k' := 8) [.bool false] (by kernel_rfl) rfl ?_
  refine SeqK.done [0,1,21] (L := [(0,.slice va n vc),(1,.int .i64 ((k : Nat) : Int)),(21,.bool false)]) (by kernel_rfl) (by kernel_rfl) ?_
  clear hF; clear a; intro a hF
  show C Tryd.prog (sub b19 [1,1,0,1]) _ a h
  refine C.condF 21 [1,1,0,1,0] [1,1,0,1,1] (by kernel_rfl) hF (fun _ => rfl) ?_
  refine C.skip (by kernel_rfl) ?_
  show C Tryd.prog (sub b19 [1,1,1]) _ a h
  refine C.seq [1,1,1,0] [1,1,1,1] (by kernel_rfl) ?_
  refine C.plain 5 (by kernel_rfl) hF (by kernel_rfl) ?_
  refine SeqK.pures (k' := 2) [.int .i64 ((k : Nat) : Int),.slice va n vc] (by kernel_rfl) rfl ?_
  refine SeqK.eff (k' := 3) (Does.call (f := 35) (args := #[.int .i64 ((k : Nat) : Int),.slice va n vc,.bool true]) (by kernel_rfl) (rpart_sat _ L _ _ _ (hL.ext e0) (by omega) k true (by omega) (by omega))) rfl ?_
  rintro _ h3 ⟨ad1,cap2,rfl,ownx,hge,g⟩
  have hlo := e0.size
  have sepo := sep
  replace e0 := e0.ext g
  replace sep := sep.up g.size
  replace sep := sepo.cons (x := ad1.map (fun (x : Addr) => x.block)) g.size hlo (fun k e => ⟨hge k e,ownx.lt (by rw [blkOf_slice]; exact e)⟩)
  have own_p : Own h3 (.slice ad1 ((cons k L true).length) cap2) 27 ((cons k L true).length) 32 (hcs (cons k L true)) := ownx; clear ownx sepo hlo hge g
  refine SeqK.pures (k' := 5) [.slice ad1 ((cons k L true).length) cap2,.int .i64 0] (by kernel_rfl) rfl ?_
  refine SeqK.done [4,5] (L := [(4,.slice ad1 ((cons k L true).length) cap2),(5,.int .i64 0)]) (by kernel_rfl) (by kernel_rfl) ?_
  clear hF; clear a; intro a hF
  show C Tryd.prog (sub b19 [1,1,1,1]) _ a h3
  refine C.ret (by kernel_rfl) ?_
  show retK Tryd.prog Tryd.f19 (fun v h' => ∃ s,v = .tuple #[s,.int .i64 (consZ L (k : Int)).2] ∧ OwnNew h h' 27 s (consZ L (k : Int)).1) .ret a h3
  refine ret_ok [.tmp 4,.tmp 5] [.slice ad1 ((cons k L true).length) cap2,.int .i64 0] (.tuple #[.slice ad1 ((cons k L true).length) cap2,.int .i64 0]) rfl hF ⟨rfl,rfl,trivial⟩ rfl ?_
  rw [consZ_yes (by omega) (by omega)]; exact ⟨_,rfl,ad1,cap2,rfl,own_p,sep.low 0 rfl,e0⟩
end Go.Proofs.YtfompolnofgldaaDoor
