/- Walks of the laws of the trees: what each function computes, as a law of its calls. No condition but those that each theorem names. -/
import Derived.Test.YtfompolnofgldaaDoorLaw05B
namespace Go.Proofs.YtfompolnofgldaaDoor
open Go Go.Lane Go.Sha
theorem leaves_k (h : Heap) (l : List UInt8) (va : Option Addr) (vc n : Nat) (hr : Row h (.slice va n vc) n 1 (l.map bv)) (hl : l.length = n) (hn : n ≤ 1048576) : Sat Tryd.prog 9 #[.slice va n vc] h fun v h' => ∃ ad cap,v = .slice ad n cap ∧ Own h' (.slice ad n cap) 27 n 32 (hcs (lvs l n)) ∧ (∀ k,ad.map (fun (x : Addr) => x.block) = some k → h.size ≤ k) ∧ Ext h h' := by
 subst hl; exact leaves_n h l va vc hr hn
noncomputable def b25 : Code := Tryd.f25.body.getD .skip
set_option maxHeartbeats 1000000 in
theorem met_step (h : Heap) (A B : List Hs) (va vb : Option Addr) (vc vd n : Nat) (ih : ∀ (h : Heap) (A B : List Hs) (va vb : Option Addr) (vc vd n' : Nat),n' < n → HR h va vc n' A → HR h vb vd n' B → root A = root B → A ≠ B → Ktab h → Sat Tryd.prog 25 #[.slice va n' vc,.slice vb n' vd] h fun v h' => v = .bool true ∧ Ext h h') (hA : HR h va vc n A) (hB : HR h vb vd n B) (heq : root A = root B) (hne : A ≠ B) (kt : Ktab h) (hn : n ≤ 1048576) : Sat Tryd.prog 25 #[.slice va n vc,.slice vb n vd] h fun v h' => v = .bool true ∧ Ext h h' := by
 have e0 := Ext.refl h
 have h0s := kt.lt
 have sep : Sep h.size h.size [] := Sep.nil _ _
 refine sat_of (args := [.slice va n vc,.slice vb n vd]) (fn := Tryd.f25) (B := b25) (n := 85) (L := [(0,.slice va n vc),(1,.slice vb n vd)]) Tryd.func25 rfl (by kernel_rfl) rfl ?_
 intro a hF
 refine C.seq [0] [1] (by kernel_rfl) ?_
 refine C.plain 0 (by kernel_rfl) hF (by kernel_rfl) ?_
 refine SeqK.pures (k' := 1) [.bool false] (by kernel_rfl) rfl ?_
 refine SeqK.done [0,1] (L := [(0,.slice va n vc),(1,.slice vb n vd)]) (by kernel_rfl) (by kernel_rfl) ?_
 clear hF; clear a; intro a hF
 show C Tryd.prog (sub b25 [1]) _ a h
 refine C.seq [1,0] [1,1] (by kernel_rfl) ?_
 refine C.seq [1,0,0] [1,0,1] (by kernel_rfl) ?_
 refine C.plain 1 (by kernel_rfl) hF (by kernel_rfl) ?_
 refine SeqK.pures (k' := 3) [.slice va n vc,.int .i64 ((n : Nat) : Int),.bool (decide (((n : Nat) : Int) < (2 : Int)))] (by kernel_rfl) rfl ?_
 refine SeqK.done [0,1,15] (L := [(0,.slice va n vc),(1,.slice vb n vd),(15,.bool (decide (((n : Nat) : Int) < (2 : Int))))]) (by kernel_rfl) (by kernel_rfl) ?_
 clear hF; clear a; intro a hF
 show C Tryd.prog (sub b25 [1,0,1]) _ a h
 refine C.condS 15 (decide (((n : Nat) : Int) < (2 : Int))) [1,0,1,0] [1,0,1,1] (by kernel_rfl) hF (fun _ => rfl) (fun hc1 => ?_) (fun hc1 => ?_)
 ·skip
  replace hc1 := of_decide_eq_true hc1
  exact absurd (small_eq hA.2.2 hB.2.2 (by omega) heq) hne
 ·skip
  replace hc1 := of_decide_eq_false hc1
  refine C.skip (by kernel_rfl) ?_
  show C Tryd.prog (sub b25 [1,1]) _ a h
  refine C.seq [1,1,0] [1,1,1] (by kernel_rfl) ?_
  refine C.plain 3 (by kernel_rfl) hF (by kernel_rfl) ?_
  refine SeqK.pures (k' := 1) [.int .i64 1] (by kernel_rfl) rfl ?_
  refine SeqK.done [0,1,5] (L := [(0,.slice va n vc),(1,.slice vb n vd),(5,.int .i64 1)]) (by kernel_rfl) (by kernel_rfl) ?_
  clear hF; clear a; intro a hF
  show C Tryd.prog (sub b25 [1,1,1]) _ a h
  refine C.seq [1,1,1,0] [1,1,1,1] (by kernel_rfl) ?_
  refine C.block 0 [1,1,1,0,0] (by kernel_rfl) ?_
  refine C.loop (fun m a h' => ∃ j : Nat,m = n - 2 ^ j ∧ (Ext h h') ∧ (Ktab h') ∧ (2 ^ j < n) ∧ (Sep h.size h'.size []) ∧ (Fr a 85 [(0,.slice va n vc),(1,.slice vb n vd),(5,.int .i64 ((2 ^ j : Nat) : Int))])) (n - 1) [1,1,1,0,0,0] (by kernel_rfl) ⟨0,rfl,e0,kt,(by omega),sep,hF⟩ ?_
  clear hF a
  clear e0
  clear kt
  clear sep
  rintro m a h2 ⟨j,rfl,e0,kt,hj,sep,hF⟩
  have hp := Nat.two_pow_pos j
  refine C.seq [1,1,1,0,0,0,0] [1,1,1,0,0,0,1] (by kernel_rfl) ?_
  refine C.seq [1,1,1,0,0,0,0,0] [1,1,1,0,0,0,0,1] (by kernel_rfl) ?_
  refine C.plain 4 (by kernel_rfl) hF (by kernel_rfl) ?_
  refine SeqK.pures (k' := 1) [.int .i64 ((2 ^ j : Nat) : Int)] (by kernel_rfl) rfl ?_
  refine SeqK.pure1 (k' := 2) (v := .int .i64 ((2 * (2 ^ j) : Nat) : Int)) (v' := .int .i64 (IntKind.i64.wrap (2 * ((2 ^ j : Nat) : Int)))) (by kernel_rfl) (congrArg (Value.int .i64) (w64' (by omega) (by omega) (by omega))) rfl ?_
  refine SeqK.pures (k' := 5) [.slice va n vc,.int .i64 ((n : Nat) : Int),.bool (decide (((2 * (2 ^ j) : Nat) : Int) < ((n : Nat) : Int)))] (by kernel_rfl) rfl ?_
  refine SeqK.done [0,1,5,20] (L := [(0,.slice va n vc),(1,.slice vb n vd),(5,.int .i64 ((2 ^ j : Nat) : Int)),(20,.bool (decide (((2 * (2 ^ j) : Nat) : Int) < ((n : Nat) : Int))))]) (by kernel_rfl) (by kernel_rfl) ?_
  clear hF; clear a; intro a hF
  show C Tryd.prog (sub b25 [1,1,1,0,0,0,0,1]) _ a h2
  refine C.condS 20 (decide (((2 * (2 ^ j) : Nat) : Int) < ((n : Nat) : Int))) [1,1,1,0,0,0,0,1,0] [1,1,1,0,0,0,0,1,1] (by kernel_rfl) hF (fun _ => rfl) (fun hc3 => ?_) (fun hc3 => ?_)
  ·skip
   replace hc3 := of_decide_eq_true hc3
   refine C.skip (by kernel_rfl) ?_
   show C Tryd.prog (sub b25 [1,1,1,0,0,0,1]) _ a h2
   refine C.block 1 [1,1,1,0,0,0,1,0] (by kernel_rfl) ?_
   refine C.plain 5 (by kernel_rfl) hF (by kernel_rfl) ?_
   refine SeqK.pures (k' := 1) [.int .i64 ((2 ^ j : Nat) : Int)] (by kernel_rfl) rfl ?_
   refine SeqK.pure1 (k' := 2) (v := .int .i64 ((2 * (2 ^ j) : Nat) : Int)) (v' := .int .i64 (IntKind.i64.wrap (2 * ((2 ^ j : Nat) : Int)))) (by kernel_rfl) (congrArg (Value.int .i64) (w64' (by omega) (by omega) (by omega))) rfl ?_
   refine SeqK.pures (k' := 3) [.int .i64 ((2 * (2 ^ j) : Nat) : Int)] (by kernel_rfl) rfl ?_
   refine SeqK.done [0,1,5] (L := [(0,.slice va n vc),(1,.slice vb n vd),(5,.int .i64 ((2 * (2 ^ j) : Nat) : Int))]) (by kernel_rfl) (by kernel_rfl) ?_
   clear hF; clear a; intro a hF
   have hk2 : 2 * 2 ^ j = 2 ^ (j + 1) := by rw [Nat.pow_succ,Nat.mul_comm]
   rw [hk2] at hF
   show ∃ m',m' < _ ∧ _
   refine ⟨_,?_,(j + 1),rfl,e0,kt,(by rw [Nat.pow_succ]; omega),sep,hF⟩
   omega
  ·skip
   replace hc3 := of_decide_eq_false hc3
   have hk : 2 ^ j = half n := (half_eq hj (by omega)).symm
   rw [hk] at hF
   have hhl := half_lt (n := n) (by omega)
   have hhp := half_pos n
   obtain ⟨aa,rfl,hca⟩ := hA.someA (by omega)
   obtain ⟨ab,rfl,hcb⟩ := hB.someA (by omega)
   obtain ⟨xa,hxa⟩ : ∃ x,x = if vc = half n then (some aa : Option Addr) else (some aa : Option Addr).map (·.add (half n * 32)) := ⟨_,rfl⟩
   obtain ⟨xb,hxb⟩ : ∃ x,x = if vd = half n then (some ab : Option Addr) else (some ab : Option Addr).map (·.add (half n * 32)) := ⟨_,rfl⟩
   have hsA := root_half hA.2.2 (by omega)
   have hsB := root_half hB.2.2 (by omega)
   refine C.exit 0 (by kernel_rfl) ?_
   show C Tryd.prog (sub b25 [1,1,1,1]) _ a h2
   refine C.seq [1,1,1,1,0] [1,1,1,1,1] (by kernel_rfl) ?_
   refine C.plain 6 (by kernel_rfl) hF (by kernel_rfl) ?_
   refine SeqK.pures (k' := 2) [.slice (some aa) n vc,.int .i64 ((half n : Nat) : Int)] (by kernel_rfl) rfl ?_
   refine SeqK.calm (k' := 3) (v := .slice (some aa) (half n) vc) ((fun h => Calm.sliceO (a := (some aa)) (len := n) (cap := vc) (sz := 32) (x := (some aa)) 0 (half n) vc (half n) vc (by kernel_rfl) (.inl ⟨rfl,rfl⟩) (.inr rfl) (.inl ⟨rfl,rfl⟩) (by omega) (by omega) (opt_add0 _ 32) (by first | rfl | omega) (by first | rfl | omega) h) _) rfl ?_
   refine SeqK.eff (k' := 4) (Does.call (f := 12) (args := #[.slice (some aa) (half n) vc]) (by kernel_rfl) (troot_sat _ (A.take (half n)) _ _ (half n) ((hA.ext e0).take (k := half n) (by omega)) kt (by omega))) rfl ?_
   rintro _ h4 ⟨rfl,g⟩
   replace e0 := e0.ext g
   replace kt := kt.ext g
   replace sep := sep.up g.size
   clear g
   refine SeqK.eff (k' := 5) (Does.new (v := .pointer (some ⟨h4.size,0,none⟩)) (o := .cells (z32.map bv).toArray 27) (by kernel_rfl)) rfl ?_
   rintro _ h5 ⟨rfl,hh⟩
   have g6 : Ext h4 h5 := push_ext hh
   have m7 : h5[h4.size]? = some (.cells (z32.map bv).toArray 27) := push_at hh
   clear hh
   have lt8 := blk_lt m7
   have z9 := e0.size
   have hlo := e0.size
   have sepo := sep
   replace e0 := e0.ext g6
   replace kt := kt.ext g6
   replace sep := sep.up g6.size
   replace sep := sepo.new hlo (blk_lt m7)
   clear sepo hlo
   refine SeqK.eff (k' := 6) (Does.store (b := h4.size) (off := 0) (vs := (root (A.take (half n))).map bv) (l := z32.map bv) (storeOp_of (by kernel_rfl) (hlm (root_len (hA.2.1.take _)))) m7 (hfit rfl (root_len (hA.2.1.take _))) (ones_map _)) rfl ?_
   rintro _ h10 ⟨rfl,hh⟩
   have g11 : Grew (some (h4.size)) h5 h10 := hput_gr hh
   replace m7 : h10[h4.size]? = some (.cells ((root (A.take (half n))).map bv).toArray 27) := hput_at (off := 0) (vs := (root (A.take (half n))).map bv) (l := (z32.map bv)) hh (hsplice rfl (root_len (hA.2.1.take _))) m7
   clear hh
   replace e0 := e0.grew g11 (sep.low 0 rfl)
   replace kt := kt.grew g11 (sep.zero 0 rfl h0s)
   replace sep := sep.up g11.size
   refine SeqK.done [0,1,5,6] (L := [(0,.slice (some aa) n vc),(1,.slice (some ab) n vd),(5,.int .i64 ((half n : Nat) : Int)),(6,.pointer (some ⟨h4.size,0,none⟩))]) (by kernel_rfl) (by kernel_rfl) ?_
   clear hF; clear a; intro a hF
   show C Tryd.prog (sub b25 [1,1,1,1,1]) _ a h10
   refine C.seq [1,1,1,1,1,0] [1,1,1,1,1,1] (by kernel_rfl) ?_
   refine C.plain 7 (by kernel_rfl) hF (by kernel_rfl) ?_
   refine SeqK.pures (k' := 2) [.slice (some aa) n vc,.int .i64 ((half n : Nat) : Int)] (by kernel_rfl) rfl ?_
   refine SeqK.calm (k' := 3) (v := .slice xa (n - half n) (vc - half n)) ((fun h => Calm.sliceO (a := (some aa)) (len := n) (cap := vc) (sz := 32) (x := xa) (half n) n vc (n - half n) (vc - half n) (by kernel_rfl) (.inl ⟨rfl,rfl⟩) (.inl ⟨rfl,rfl⟩) (.inr rfl) (by omega) (by omega) hxa (by first | rfl | omega) (by first | rfl | omega) h) _) rfl ?_
   refine SeqK.eff (k' := 4) (Does.call (f := 12) (args := #[.slice xa (n - half n) (vc - half n)]) (by kernel_rfl) (troot_sat _ (A.drop (half n)) _ _ (n - half n) ((hA.ext e0).drop (k := half n) (by omega) hxa) kt (by omega))) rfl ?_
   rintro _ h12 ⟨rfl,g⟩
   replace e0 := e0.ext g
   replace kt := kt.ext g
   replace m7 := Ext.blk g m7
   replace sep := sep.up g.size
   clear g
   refine SeqK.eff (k' := 5) (Does.new (v := .pointer (some ⟨h12.size,0,none⟩)) (o := .cells (z32.map bv).toArray 27) (by kernel_rfl)) rfl ?_
   rintro _ h13 ⟨rfl,hh⟩
   have g14 : Ext h12 h13 := push_ext hh
   have m15 : h13[h12.size]? = some (.cells (z32.map bv).toArray 27) := push_at hh
   clear hh
   have lt16 := blk_lt m15
   have z17 := e0.size
   have hlo := e0.size
   have sepo := sep
   replace e0 := e0.ext g14
   replace kt := kt.ext g14
   replace m7 := Ext.blk g14 m7
   replace sep := sep.up g14.size
   replace sep := sepo.new hlo (blk_lt m15)
   clear sepo hlo
   refine SeqK.eff (k' := 6) (Does.store (b := h12.size) (off := 0) (vs := (root (A.drop (half n))).map bv) (l := z32.map bv) (storeOp_of (by kernel_rfl) (hlm (root_len (hA.2.1.drop _)))) m15 (hfit rfl (root_len (hA.2.1.drop _))) (ones_map _)) rfl ?_
   rintro _ h18 ⟨rfl,hh⟩
   have g19 : Grew (some (h12.size)) h13 h18 := hput_gr hh
   replace m15 : h18[h12.size]? = some (.cells ((root (A.drop (half n))).map bv).toArray 27) := hput_at (off := 0) (vs := (root (A.drop (half n))).map bv) (l := (z32.map bv)) hh (hsplice rfl (root_len (hA.2.1.drop _))) m15
   clear hh
   replace e0 := e0.grew g19 (sep.low 0 rfl)
   replace kt := kt.grew g19 (sep.zero 0 rfl h0s)
   replace m7 := Grew.blk g19 m7 ((sep.bp 1 0 rfl rfl (by decide)))
   replace sep := sep.up g19.size
   refine SeqK.done [0,1,5,6,7] (L := [(0,.slice (some aa) n vc),(1,.slice (some ab) n vd),(5,.int .i64 ((half n : Nat) : Int)),(6,.pointer (some ⟨h4.size,0,none⟩)),(7,.pointer (some ⟨h12.size,0,none⟩))]) (by kernel_rfl) (by kernel_rfl) ?_
   clear hF; clear a; intro a hF
   show C Tryd.prog (sub b25 [1,1,1,1,1,1]) _ a h18
   refine C.seq [1,1,1,1,1,1,0] [1,1,1,1,1,1,1] (by kernel_rfl) ?_
   refine C.plain 8 (by kernel_rfl) hF (by kernel_rfl) ?_
   refine SeqK.pures (k' := 2) [.slice (some ab) n vd,.int .i64 ((half n : Nat) : Int)] (by kernel_rfl) rfl ?_
   refine SeqK.calm (k' := 3) (v := .slice (some ab) (half n) vd) ((fun h => Calm.sliceO (a := (some ab)) (len := n) (cap := vd) (sz := 32) (x := (some ab)) 0 (half n) vd (half n) vd (by kernel_rfl) (.inl ⟨rfl,rfl⟩) (.inr rfl) (.inl ⟨rfl,rfl⟩) (by omega) (by omega) (opt_add0 _ 32) (by first | rfl | omega) (by first | rfl | omega) h) _) rfl ?_
   refine SeqK.eff (k' := 4) (Does.call (f := 12) (args := #[.slice (some ab) (half n) vd]) (by kernel_rfl) (troot_sat _ (B.take (half n)) _ _ (half n) ((hB.ext e0).take (k := half n) (by omega)) kt (by omega))) rfl ?_
   rintro _ h20 ⟨rfl,g⟩
   replace e0 := e0.ext g
   replace kt := kt.ext g
   replace m7 := Ext.blk g m7
   replace m15 := Ext.blk g m15
   replace sep := sep.up g.size
   clear g
   refine SeqK.eff (k' := 5) (Does.new (v := .pointer (some ⟨h20.size,0,none⟩)) (o := .cells (z32.map bv).toArray 27) (by kernel_rfl)) rfl ?_
   rintro _ h21 ⟨rfl,hh⟩
   have g22 : Ext h20 h21 := push_ext hh
   have m23 : h21[h20.size]? = some (.cells (z32.map bv).toArray 27) := push_at hh
   clear hh
   have lt24 := blk_lt m23
   have z25 := e0.size
   have hlo := e0.size
   have sepo := sep
   replace e0 := e0.ext g22
   replace kt := kt.ext g22
   replace m7 := Ext.blk g22 m7
   replace m15 := Ext.blk g22 m15
   replace sep := sep.up g22.size
   replace sep := sepo.new hlo (blk_lt m23)
   clear sepo hlo
   refine SeqK.eff (k' := 6) (Does.store (b := h20.size) (off := 0) (vs := (root (B.take (half n))).map bv) (l := z32.map bv) (storeOp_of (by kernel_rfl) (hlm (root_len (hB.2.1.take _)))) m23 (hfit rfl (root_len (hB.2.1.take _))) (ones_map _)) rfl ?_
   rintro _ h26 ⟨rfl,hh⟩
   have g27 : Grew (some (h20.size)) h21 h26 := hput_gr hh
   replace m23 : h26[h20.size]? = some (.cells ((root (B.take (half n))).map bv).toArray 27) := hput_at (off := 0) (vs := (root (B.take (half n))).map bv) (l := (z32.map bv)) hh (hsplice rfl (root_len (hB.2.1.take _))) m23
   clear hh
   replace e0 := e0.grew g27 (sep.low 0 rfl)
   replace kt := kt.grew g27 (sep.zero 0 rfl h0s)
   replace m7 := Grew.blk g27 m7 ((sep.bp 2 0 rfl rfl (by decide)))
   replace m15 := Grew.blk g27 m15 ((sep.bp 1 0 rfl rfl (by decide)))
   replace sep := sep.up g27.size
   refine SeqK.done [0,1,5,6,7,8] (L := [(0,.slice (some aa) n vc),(1,.slice (some ab) n vd),(5,.int .i64 ((half n : Nat) : Int)),(6,.pointer (some ⟨h4.size,0,none⟩)),(7,.pointer (some ⟨h12.size,0,none⟩)),(8,.pointer (some ⟨h20.size,0,none⟩))]) (by kernel_rfl) (by kernel_rfl) ?_
   clear hF; clear a; intro a hF
   show C Tryd.prog (sub b25 [1,1,1,1,1,1,1]) _ a h26
   refine C.seq [1,1,1,1,1,1,1,0] [1,1,1,1,1,1,1,1] (by kernel_rfl) ?_
   refine C.plain 9 (by kernel_rfl) hF (by kernel_rfl) ?_
   refine SeqK.pures (k' := 2) [.slice (some ab) n vd,.int .i64 ((half n : Nat) : Int)] (by kernel_rfl) rfl ?_
   refine SeqK.calm (k' := 3) (v := .slice xb (n - half n) (vd - half n)) ((fun h => Calm.sliceO (a := (some ab)) (len := n) (cap := vd) (sz := 32) (x := xb) (half n) n vd (n - half n) (vd - half n) (by kernel_rfl) (.inl ⟨rfl,rfl⟩) (.inl ⟨rfl,rfl⟩) (.inr rfl) (by omega) (by omega) hxb (by first | rfl | omega) (by first | rfl | omega) h) _) rfl ?_
   refine SeqK.eff (k' := 4) (Does.call (f := 12) (args := #[.slice xb (n - half n) (vd - half n)]) (by kernel_rfl) (troot_sat _ (B.drop (half n)) _ _ (n - half n) ((hB.ext e0).drop (k := half n) (by omega) hxb) kt (by omega))) rfl ?_
   rintro _ h28 ⟨rfl,g⟩
   replace e0 := e0.ext g
   replace kt := kt.ext g
   replace m7 := Ext.blk g m7
   replace m15 := Ext.blk g m15
   replace m23 := Ext.blk g m23
   replace sep := sep.up g.size
   clear g
   refine SeqK.eff (k' := 5) (Does.new (v := .pointer (some ⟨h28.size,0,none⟩)) (o := .cells (z32.map bv).toArray 27) (by kernel_rfl)) rfl ?_
   rintro _ h29 ⟨rfl,hh⟩
   have g30 : Ext h28 h29 := push_ext hh
   have m31 : h29[h28.size]? = some (.cells (z32.map bv).toArray 27) := push_at hh
   clear hh
   have lt32 := blk_lt m31
   have z33 := e0.size
   have hlo := e0.size
   have sepo := sep
   replace e0 := e0.ext g30
   replace kt := kt.ext g30
   replace m7 := Ext.blk g30 m7
   replace m15 := Ext.blk g30 m15
   replace m23 := Ext.blk g30 m23
   replace sep := sep.up g30.size
   replace sep := sepo.new hlo (blk_lt m31)
   clear sepo hlo
   refine SeqK.eff (k' := 6) (Does.store (b := h28.size) (off := 0) (vs := (root (B.drop (half n))).map bv) (l := z32.map bv) (storeOp_of (by kernel_rfl) (hlm (root_len (hB.2.1.drop _)))) m31 (hfit rfl (root_len (hB.2.1.drop _))) (ones_map _)) rfl ?_
   rintro _ h34 ⟨rfl,hh⟩
   have g35 : Grew (some (h28.size)) h29 h34 := hput_gr hh
   replace m31 : h34[h28.size]? = some (.cells ((root (B.drop (half n))).map bv).toArray 27) := hput_at (off := 0) (vs := (root (B.drop (half n))).map bv) (l := (z32.map bv)) hh (hsplice rfl (root_len (hB.2.1.drop _))) m31
   clear hh
   replace e0 := e0.grew g35 (sep.low 0 rfl)
   replace kt := kt.grew g35 (sep.zero 0 rfl h0s)
   replace m7 := Grew.blk g35 m7 ((sep.bp 3 0 rfl rfl (by decide)))
   replace m15 := Grew.blk g35 m15 ((sep.bp 2 0 rfl rfl (by decide)))
   replace m23 := Grew.blk g35 m23 ((sep.bp 1 0 rfl rfl (by decide)))
   replace sep := sep.up g35.size
   refine SeqK.done [0,1,5,6,7,8,9] (L := [(0,.slice (some aa) n vc),(1,.slice (some ab) n vd),(5,.int .i64 ((half n : Nat) : Int)),(6,.pointer (some ⟨h4.size,0,none⟩)),(7,.pointer (some ⟨h12.size,0,none⟩)),(8,.pointer (some ⟨h20.size,0,none⟩)),(9,.pointer (some ⟨h28.size,0,none⟩))]) (by kernel_rfl) (by kernel_rfl) ?_
   clear hF; clear a; intro a hF
   show C Tryd.prog (sub b25 [1,1,1,1,1,1,1,1]) _ a h34
   refine C.seq [1,1,1,1,1,1,1,1,0] [1,1,1,1,1,1,1,1,1] (by kernel_rfl) ?_
   refine C.seq [1,1,1,1,1,1,1,1,0,0] [1,1,1,1,1,1,1,1,0,1] (by kernel_rfl) ?_
   rcases Decidable.em (root (A.take (half n)) = root (B.take (half n))) with hea | hea
   rcases Decidable.em (root (A.drop (half n)) = root (B.drop (half n))) with heb | heb
   ·skip
    refine C.plain 10 (by kernel_rfl) hF (by kernel_rfl) ?_
    refine SeqK.calm (k' := 1) (v := .agg ((root (A.take (half n))).map bv).toArray) (Calm.load (T := 27) (p := ⟨h4.size,0,none⟩) (by kernel_rfl) (Loads.hash (by kernel_rfl) (root_len (hA.2.1.take _)) m7)) rfl ?_
    refine SeqK.calm (k' := 2) (v := .agg ((root (B.take (half n))).map bv).toArray) (Calm.load (T := 27) (p := ⟨h20.size,0,none⟩) (by kernel_rfl) (Loads.hash (by kernel_rfl) (root_len (hB.2.1.take _)) m23)) rfl ?_
    refine SeqK.calm (k' := 3) (v := .bool false) ((eqHT (q := false) (l := root (A.take (half n))) (r := root (B.take (half n))) (n := 32) (by kernel_rfl) (root_len (hA.2.1.take _)) (root_len (hB.2.1.take _)) hea) _) rfl ?_
    refine SeqK.pures (k' := 4) [.bool false] (by kernel_rfl) rfl ?_
    refine SeqK.calm (k' := 5) (v := .agg ((root (A.drop (half n))).map bv).toArray) (Calm.load (T := 27) (p := ⟨h12.size,0,none⟩) (by kernel_rfl) (Loads.hash (by kernel_rfl) (root_len (hA.2.1.drop _)) m15)) rfl ?_
    refine SeqK.calm (k' := 6) (v := .agg ((root (B.drop (half n))).map bv).toArray) (Calm.load (T := 27) (p := ⟨h28.size,0,none⟩) (by kernel_rfl) (Loads.hash (by kernel_rfl) (root_len (hB.2.1.drop _)) m31)) rfl ?_
    refine SeqK.calm (k' := 7) (v := .bool false) ((eqHT (q := false) (l := root (A.drop (half n))) (r := root (B.drop (half n))) (n := 32) (by kernel_rfl) (root_len (hA.2.1.drop _)) (root_len (hB.2.1.drop _)) heb) _) rfl ?_
    refine SeqK.pures (k' := 8) [.bool false] (by kernel_rfl) rfl ?_
    refine SeqK.done [0,1,5,6,7,8,9,46] (L := [(0,.slice (some aa) n vc),(1,.slice (some ab) n vd),(5,.int .i64 ((half n : Nat) : Int)),(6,.pointer (some ⟨h4.size,0,none⟩)),(7,.pointer (some ⟨h12.size,0,none⟩)),(8,.pointer (some ⟨h20.size,0,none⟩)),(9,.pointer (some ⟨h28.size,0,none⟩)),(46,.bool false)]) (by kernel_rfl) (by kernel_rfl) ?_
    clear hF; clear a; intro a hF
    show C Tryd.prog (sub b25 [1,1,1,1,1,1,1,1,0,1]) _ a h34
    refine C.condF 46 [1,1,1,1,1,1,1,1,0,1,0] [1,1,1,1,1,1,1,1,0,1,1] (by kernel_rfl) hF (fun _ => rfl) ?_
    refine C.skip (by kernel_rfl) ?_
    show C Tryd.prog (sub b25 [1,1,1,1,1,1,1,1,1]) _ a h34
    refine C.seq [1,1,1,1,1,1,1,1,1,0] [1,1,1,1,1,1,1,1,1,1] (by kernel_rfl) ?_
    refine C.draw (A := [0,0,3,0,0,24,63,127]) 14 (by kernel_rfl) mixed hF (by kernel_rfl) ?_
    refine SimK.pures (D' := 3) (is := [0,1]) (vs := [.slice (some aa) n vc,.int .i64 ((half n : Nat) : Int)]) (by kernel_rfl) ?_
    refine SimK.free (D' := 7) (i := 2) (v := .slice (some aa) (half n) vc) (by kernel_rfl) (by kernel_rfl) (fun h => Calm.sliceO (a := (some aa)) (len := n) (cap := vc) (sz := 32) (x := (some aa)) 0 (half n) vc (half n) vc (by kernel_rfl) (.inl ⟨rfl,rfl⟩) (.inr rfl) (.inl ⟨rfl,rfl⟩) (by omega) (by omega) (opt_add0 _ 32) (by first | rfl | omega) (by first | rfl | omega) h) ?_
    refine SimK.pures (D' := 31) (is := [3,4]) (vs := [.slice (some ab) n vd,.int .i64 ((half n : Nat) : Int)]) (by kernel_rfl) ?_
    refine SimK.free (D' := 63) (i := 5) (v := .slice (some ab) (half n) vd) (by kernel_rfl) (by kernel_rfl) (fun h => Calm.sliceO (a := (some ab)) (len := n) (cap := vd) (sz := 32) (x := (some ab)) 0 (half n) vd (half n) vd (by kernel_rfl) (.inl ⟨rfl,rfl⟩) (.inr rfl) (.inl ⟨rfl,rfl⟩) (by omega) (by omega) (opt_add0 _ 32) (by first | rfl | omega) (by first | rfl | omega) h) ?_
    refine SimK.look (D' := 127) (Wd' := 64) (i := 6) (v := .bool (decide (A.take (half n) = B.take (half n)))) (by kernel_rfl) (by kernel_rfl) (by kernel_rfl) (Does.call (f := 20) (args := #[.slice (some aa) (half n) vc,.slice (some ab) (half n) vd]) (by kernel_rfl) (hsame_sat _ (A.take (half n)) (B.take (half n)) _ _ _ _ (half n) (half n) ((hA.ext e0).take (k := half n) (by omega)) ((hB.ext e0).take (k := half n) (by omega)) (by omega))) ?_
    refine SimK.pures (D' := 255) (is := [7]) (vs := [.bool (decide (A.take (half n) = B.take (half n)))]) (by kernel_rfl) ?_
    refine SimK.done [0,1,5,12] (L := [(0,.slice (some aa) n vc),(1,.slice (some ab) n vd),(5,.int .i64 ((half n : Nat) : Int)),(12,.bool (decide (A.take (half n) = B.take (half n))))]) (by kernel_rfl) (by kernel_rfl) ?_
    clear hF; clear a; intro a hF
    show C Tryd.prog (sub b25 [1,1,1,1,1,1,1,1,1,1]) _ a h34
    refine C.seq [1,1,1,1,1,1,1,1,1,1,0] [1,1,1,1,1,1,1,1,1,1,1] (by kernel_rfl) ?_
    refine C.seq [1,1,1,1,1,1,1,1,1,1,0,0] [1,1,1,1,1,1,1,1,1,1,0,1] (by kernel_rfl) ?_
    refine C.plain 15 (by kernel_rfl) hF (by kernel_rfl) ?_
    refine SeqK.pures (k' := 2) [.bool (decide (A.take (half n) = B.take (half n))),.bool (!(decide (A.take (half n) = B.take (half n))))] (by kernel_rfl) rfl ?_
    refine SeqK.done [0,1,5,70] (L := [(0,.slice (some aa) n vc),(1,.slice (some ab) n vd),(5,.int .i64 ((half n : Nat) : Int)),(70,.bool (!(decide (A.take (half n) = B.take (half n)))))]) (by kernel_rfl) (by kernel_rfl) ?_
    clear hF; clear a; intro a hF
    show C Tryd.prog (sub b25 [1,1,1,1,1,1,1,1,1,1,0,1]) _ a h34
    refine C.condS 70 (!(decide (A.take (half n) = B.take (half n)))) [1,1,1,1,1,1,1,1,1,1,0,1,0] [1,1,1,1,1,1,1,1,1,1,0,1,1] (by kernel_rfl) hF (fun _ => rfl) (fun hc36 => ?_) (fun hc36 => ?_)
    ·skip
     have hts : ¬ (A.take (half n) = B.take (half n)) := by simpa using hc36
     refine C.seq [1,1,1,1,1,1,1,1,1,1,0,1,0,0] [1,1,1,1,1,1,1,1,1,1,0,1,0,1] (by kernel_rfl) ?_
     refine C.draw (A := [0,0,3,0,0,24,63,127]) 16 (by kernel_rfl) mixed hF (by kernel_rfl) ?_
     refine SimK.pures (D' := 3) (is := [0,1]) (vs := [.slice (some aa) n vc,.int .i64 ((half n : Nat) : Int)]) (by kernel_rfl) ?_
     refine SimK.free (D' := 7) (i := 2) (v := .slice (some aa) (half n) vc) (by kernel_rfl) (by kernel_rfl) (fun h => Calm.sliceO (a := (some aa)) (len := n) (cap := vc) (sz := 32) (x := (some aa)) 0 (half n) vc (half n) vc (by kernel_rfl) (.inl ⟨rfl,rfl⟩) (.inr rfl) (.inl ⟨rfl,rfl⟩) (by omega) (by omega) (opt_add0 _ 32) (by first | rfl | omega) (by first | rfl | omega) h) ?_
     refine SimK.pures (D' := 31) (is := [3,4]) (vs := [.slice (some ab) n vd,.int .i64 ((half n : Nat) : Int)]) (by kernel_rfl) ?_
     refine SimK.free (D' := 63) (i := 5) (v := .slice (some ab) (half n) vd) (by kernel_rfl) (by kernel_rfl) (fun h => Calm.sliceO (a := (some ab)) (len := n) (cap := vd) (sz := 32) (x := (some ab)) 0 (half n) vd (half n) vd (by kernel_rfl) (.inl ⟨rfl,rfl⟩) (.inr rfl) (.inl ⟨rfl,rfl⟩) (by omega) (by omega) (opt_add0 _ 32) (by first | rfl | omega) (by first | rfl | omega) h) ?_
     refine SimK.eff0 (i := 6) (D' := 127) (X' := 127) (by kernel_rfl) (by kernel_rfl) (by kernel_rfl) (by kernel_rfl) (Does.call (f := 25) (args := #[.slice (some aa) (half n) vc,.slice (some ab) (half n) vd]) (by kernel_rfl) (ih _ (A.take (half n)) (B.take (half n)) _ _ _ _ (half n) (by omega) ((hA.ext e0).take (k := half n) (by omega)) ((hB.ext e0).take (k := half n) (by omega)) hea hts kt)) ?_
     rintro _ h37 ⟨rfl,g⟩
     replace e0 := e0.ext g
     replace kt := kt.ext g
     replace m7 := Ext.blk g m7
     replace m15 := Ext.blk g m15
     replace m23 := Ext.blk g m23
     replace m31 := Ext.blk g m31
     replace sep := sep.up g.size
     clear g
     refine SimK.pures (D' := 255) (is := [7]) (vs := [.bool true]) (by kernel_rfl) ?_
     refine SimK.done [4] (L := [(4,.bool true)]) (by kernel_rfl) (by kernel_rfl) ?_
     clear hF; clear a; intro a hF
     show C Tryd.prog (sub b25 [1,1,1,1,1,1,1,1,1,1,0,1,0,1]) _ a h37
     refine C.ret (by kernel_rfl) ?_
     show retK Tryd.prog Tryd.f25 (fun v h' => v = .bool true ∧ Ext h h') .ret a h37
     refine ret_ok [.tmp 4] [.bool true] (.bool true) rfl hF ⟨rfl,trivial⟩ rfl ?_
     exact ⟨rfl,e0⟩
    ·skip
     have hts : (A.take (half n) = B.take (half n)) := by simpa using hc36
     refine C.skip (by kernel_rfl) ?_
     show C Tryd.prog (sub b25 [1,1,1,1,1,1,1,1,1,1,1]) _ a h34
     refine C.seq [1,1,1,1,1,1,1,1,1,1,1,0] [1,1,1,1,1,1,1,1,1,1,1,1] (by kernel_rfl) ?_
     refine C.draw (A := [0,0,3,0,0,24,63,127]) 17 (by kernel_rfl) mixed hF (by kernel_rfl) ?_
     refine SimK.pures (D' := 3) (is := [0,1]) (vs := [.slice (some aa) n vc,.int .i64 ((half n : Nat) : Int)]) (by kernel_rfl) ?_
     refine SimK.free (D' := 7) (i := 2) (v := .slice xa (n - half n) (vc - half n)) (by kernel_rfl) (by kernel_rfl) (fun h => Calm.sliceO (a := (some aa)) (len := n) (cap := vc) (sz := 32) (x := xa) (half n) n vc (n - half n) (vc - half n) (by kernel_rfl) (.inl ⟨rfl,rfl⟩) (.inl ⟨rfl,rfl⟩) (.inr rfl) (by omega) (by omega) hxa (by first | rfl | omega) (by first | rfl | omega) h) ?_
     refine SimK.pures (D' := 31) (is := [3,4]) (vs := [.slice (some ab) n vd,.int .i64 ((half n : Nat) : Int)]) (by kernel_rfl) ?_
     refine SimK.free (D' := 63) (i := 5) (v := .slice xb (n - half n) (vd - half n)) (by kernel_rfl) (by kernel_rfl) (fun h => Calm.sliceO (a := (some ab)) (len := n) (cap := vd) (sz := 32) (x := xb) (half n) n vd (n - half n) (vd - half n) (by kernel_rfl) (.inl ⟨rfl,rfl⟩) (.inl ⟨rfl,rfl⟩) (.inr rfl) (by omega) (by omega) hxb (by first | rfl | omega) (by first | rfl | omega) h) ?_
     refine SimK.eff0 (i := 6) (D' := 127) (X' := 127) (by kernel_rfl) (by kernel_rfl) (by kernel_rfl) (by kernel_rfl) (Does.call (f := 25) (args := #[.slice xa (n - half n) (vc - half n),.slice xb (n - half n) (vd - half n)]) (by kernel_rfl) (ih _ (A.drop (half n)) (B.drop (half n)) _ _ _ _ (n - half n) (by omega) ((hA.ext e0).drop (k := half n) (by omega) hxa) ((hB.ext e0).drop (k := half n) (by omega) hxb) heb (drop_ne hne hts) kt)) ?_
     rintro _ h38 ⟨rfl,g⟩
     replace e0 := e0.ext g
     replace kt := kt.ext g
     replace m7 := Ext.blk g m7
     replace m15 := Ext.blk g m15
     replace m23 := Ext.blk g m23
     replace m31 := Ext.blk g m31
     replace sep := sep.up g.size
     clear g
     refine SimK.pures (D' := 255) (is := [7]) (vs := [.bool true]) (by kernel_rfl) ?_
     refine SimK.done [4] (L := [(4,.bool true)]) (by kernel_rfl) (by kernel_rfl) ?_
     clear hF; clear a; intro a hF
     show C Tryd.prog (sub b25 [1,1,1,1,1,1,1,1,1,1,1,1]) _ a h38
     refine C.ret (by kernel_rfl) ?_
     show retK Tryd.prog Tryd.f25 (fun v h' => v = .bool true ∧ Ext h h') .ret a h38
     refine ret_ok [.tmp 4] [.bool true] (.bool true) rfl hF ⟨rfl,trivial⟩ rfl ?_
     exact ⟨rfl,e0⟩
   ·skip
    refine C.plain 10 (by kernel_rfl) hF (by kernel_rfl) ?_
    refine SeqK.calm (k' := 1) (v := .agg ((root (A.take (half n))).map bv).toArray) (Calm.load (T := 27) (p := ⟨h4.size,0,none⟩) (by kernel_rfl) (Loads.hash (by kernel_rfl) (root_len (hA.2.1.take _)) m7)) rfl ?_
    refine SeqK.calm (k' := 2) (v := .agg ((root (B.take (half n))).map bv).toArray) (Calm.load (T := 27) (p := ⟨h20.size,0,none⟩) (by kernel_rfl) (Loads.hash (by kernel_rfl) (root_len (hB.2.1.take _)) m23)) rfl ?_
    refine SeqK.calm (k' := 3) (v := .bool false) ((eqHT (q := false) (l := root (A.take (half n))) (r := root (B.take (half n))) (n := 32) (by kernel_rfl) (root_len (hA.2.1.take _)) (root_len (hB.2.1.take _)) hea) _) rfl ?_
    refine SeqK.pures (k' := 4) [.bool false] (by kernel_rfl) rfl ?_
    refine SeqK.calm (k' := 5) (v := .agg ((root (A.drop (half n))).map bv).toArray) (Calm.load (T := 27) (p := ⟨h12.size,0,none⟩) (by kernel_rfl) (Loads.hash (by kernel_rfl) (root_len (hA.2.1.drop _)) m15)) rfl ?_
    refine SeqK.calm (k' := 6) (v := .agg ((root (B.drop (half n))).map bv).toArray) (Calm.load (T := 27) (p := ⟨h28.size,0,none⟩) (by kernel_rfl) (Loads.hash (by kernel_rfl) (root_len (hB.2.1.drop _)) m31)) rfl ?_
    refine SeqK.calm (k' := 7) (v := .bool true) ((eqHF (q := false) (l := root (A.drop (half n))) (r := root (B.drop (half n))) (n := 32) (by kernel_rfl) (root_len (hA.2.1.drop _)) (root_len (hB.2.1.drop _)) heb) _) rfl ?_
    refine SeqK.pures (k' := 8) [.bool true] (by kernel_rfl) rfl ?_
    refine SeqK.done [0,1,5,6,7,8,9,46] (L := [(0,.slice (some aa) n vc),(1,.slice (some ab) n vd),(5,.int .i64 ((half n : Nat) : Int)),(6,.pointer (some ⟨h4.size,0,none⟩)),(7,.pointer (some ⟨h12.size,0,none⟩)),(8,.pointer (some ⟨h20.size,0,none⟩)),(9,.pointer (some ⟨h28.size,0,none⟩)),(46,.bool true)]) (by kernel_rfl) (by kernel_rfl) ?_
    clear hF; clear a; intro a hF
    show C Tryd.prog (sub b25 [1,1,1,1,1,1,1,1,0,1]) _ a h34
    refine C.condT 46 [1,1,1,1,1,1,1,1,0,1,0] [1,1,1,1,1,1,1,1,0,1,1] (by kernel_rfl) hF (fun _ => rfl) ?_
    refine C.seq [1,1,1,1,1,1,1,1,0,1,0,0] [1,1,1,1,1,1,1,1,0,1,0,1] (by kernel_rfl) ?_
    refine C.draw (A := [0,0,3,0,15,31]) 11 (by kernel_rfl) mixed hF (by kernel_rfl) ?_
    refine SimK.pures (D' := 10) (is := [1,3]) (vs := [.slice (some ⟨h4.size,0,none⟩) 32 32,.slice (some ⟨h12.size,0,none⟩) 32 32]) (by kernel_rfl) ?_
    refine SimK.eff0 (i := 0) (D' := 11) (X' := 1) (by kernel_rfl) (by kernel_rfl) (by kernel_rfl) (by kernel_rfl) (Does.new (v := .slice (some ⟨h34.size,0,none⟩) 1 1) (o := .cells #[.int .u8 1] 5) (by kernel_rfl)) ?_
    rintro _ h39 ⟨rfl,hh⟩
    have g40 : Ext h34 h39 := push_ext hh
    have m41 : h39[h34.size]? = some (.cells #[.int .u8 1] 5) := push_at hh
    clear hh
    have lt42 := blk_lt m41
    have z43 := e0.size
    have hlo := e0.size
    have sepo := sep
    replace e0 := e0.ext g40
    replace kt := kt.ext g40
    replace m7 := Ext.blk g40 m7
    replace m15 := Ext.blk g40 m15
    replace m23 := Ext.blk g40 m23
    replace m31 := Ext.blk g40 m31
    replace sep := sep.up g40.size
    replace sep := sepo.new hlo (blk_lt m41)
    clear sepo hlo
    have own_x : Own h39 (.slice (some ⟨h34.size,0,none⟩) 1 1) 5 1 1 (([1]).map bv) := Own.blk m41 rfl (by unfold maxLen; decide)
    replace sep : Sep h.size h39.size [(some ⟨h34.size,0,none⟩ : Option Addr).map (·.block),some (h28.size),some (h20.size),some (h12.size),some (h4.size)] := sep
    clear m41 lt42 z43
    refine SimK.eff0 (i := 2) (D' := 15) (X' := 7) (by kernel_rfl) (by kernel_rfl) (by kernel_rfl) (by kernel_rfl) (Does.append2 (t := 22) (E := 5) (sz := 1) (by_ := 1) (n := 1) (m := 32) (v := .slice (some ⟨h34.size,0,none⟩) 1 1) (x := .slice (some ⟨h4.size,0,none⟩) 32 32) (xs := (([1]).map bv)) (ys := ((root (A.take (half n))).map bv)) (by kernel_rfl) (by kernel_rfl) own_x (hrow (root_len (hA.2.1.take _)) m7) (ones_map _) (by unfold maxLen; omega) (by omega)) ?_
    rintro _ h46 ⟨ad44,cap45,rfl,ownx,g,hb⟩
    rw [blkOf_slice] at g hb
    have hlo := e0.size
    have sepo := sep
    replace e0 := e0.grew g (sep.low 0 rfl)
    replace kt := kt.grew g (sep.zero 0 rfl h0s)
    replace m7 := Grew.blk g m7 ((sep.bp 4 0 rfl rfl (by decide)))
    replace m15 := Grew.blk g m15 ((sep.bp 3 0 rfl rfl (by decide)))
    replace m23 := Grew.blk g m23 ((sep.bp 2 0 rfl rfl (by decide)))
    replace m31 := Grew.blk g m31 ((sep.bp 1 0 rfl rfl (by decide)))
    replace sep := sep.up g.size
    replace sep : Sep h.size h46.size [ad44.map (·.block),some (h28.size),some (h20.size),some (h12.size),some (h4.size)] := sepo.set g.size hlo 0 (y := ad44.map (fun (x : Addr) => x.block)) rfl (hb.imp id fun e => .inr ⟨_,e,Nat.le_refl _⟩) (fun k e => ownx.lt (by rw [blkOf_slice]; exact e))
    replace own_x : Own h46 (.slice ad44 33 cap45) 5 33 1 (([1] ++ root (A.take (half n))).map bv) := Own.appG ownx (by first | rfl | simp) (by first | rfl | (simp; done) | (simp; omega))
    clear ownx g hb hlo sepo
    refine SimK.eff0 (i := 4) (D' := 31) (X' := 31) (by kernel_rfl) (by kernel_rfl) (by kernel_rfl) (by kernel_rfl) (Does.append2 (t := 22) (E := 5) (sz := 1) (by_ := 1) (n := 33) (m := 32) (v := .slice ad44 (1 + 32) cap45) (x := .slice (some ⟨h12.size,0,none⟩) 32 32) (xs := (([1] ++ root (A.take (half n))).map bv)) (ys := ((root (A.drop (half n))).map bv)) (by kernel_rfl) (by kernel_rfl) own_x (hrow (root_len (hA.2.1.drop _)) m15) (ones_map _) (by unfold maxLen; omega) (by omega)) ?_
    rintro _ h49 ⟨ad47,cap48,rfl,ownx,g,hb⟩
    rw [blkOf_slice] at g hb
    have hlo := e0.size
    have sepo := sep
    replace e0 := e0.grew g (sep.low 0 rfl)
    replace kt := kt.grew g (sep.zero 0 rfl h0s)
    replace m7 := Grew.blk g m7 ((sep.bp 4 0 rfl rfl (by decide)))
    replace m15 := Grew.blk g m15 ((sep.bp 3 0 rfl rfl (by decide)))
    replace m23 := Grew.blk g m23 ((sep.bp 2 0 rfl rfl (by decide)))
    replace m31 := Grew.blk g m31 ((sep.bp 1 0 rfl rfl (by decide)))
    replace sep := sep.up g.size
    replace sep : Sep h.size h49.size [ad47.map (·.block),some (h28.size),some (h20.size),some (h12.size),some (h4.size)] := sepo.set g.size hlo 0 (y := ad47.map (fun (x : Addr) => x.block)) rfl (hb.imp id fun e => .inr ⟨_,e,Nat.le_refl _⟩) (fun k e => ownx.lt (by rw [blkOf_slice]; exact e))
    replace own_x : Own h49 (.slice ad47 65 cap48) 5 65 1 (([1] ++ root (A.take (half n)) ++ root (A.drop (half n))).map bv) := Own.appG ownx (by first | rfl | simp) (by first | rfl | (simp; done) | (simp; omega))
    clear ownx g hb hlo sepo
    refine SimK.pures (D' := 63) (is := [5]) (vs := [.slice ad47 (33 + 32) cap48]) (by kernel_rfl) ?_
    refine SimK.done [8,9,10] (L := [(8,.pointer (some ⟨h20.size,0,none⟩)),(9,.pointer (some ⟨h28.size,0,none⟩)),(10,.slice ad47 (33 + 32) cap48)]) (by kernel_rfl) (by kernel_rfl) ?_
    clear hF; clear a; intro a hF
    have hcan : (33 + 32 : Nat) = 65 := by first | (simp; done) | (simp; omega)
    rw [hcan] at hF; clear hcan
    show C Tryd.prog (sub b25 [1,1,1,1,1,1,1,1,0,1,0,1]) _ a h49
    refine C.seq [1,1,1,1,1,1,1,1,0,1,0,1,0] [1,1,1,1,1,1,1,1,0,1,0,1,1] (by kernel_rfl) ?_
    refine C.draw (A := [0,0,3,0,15,31]) 12 (by kernel_rfl) mixed hF (by kernel_rfl) ?_
    refine SimK.pures (D' := 10) (is := [1,3]) (vs := [.slice (some ⟨h20.size,0,none⟩) 32 32,.slice (some ⟨h28.size,0,none⟩) 32 32]) (by kernel_rfl) ?_
    refine SimK.eff0 (i := 0) (D' := 11) (X' := 1) (by kernel_rfl) (by kernel_rfl) (by kernel_rfl) (by kernel_rfl) (Does.new (v := .slice (some ⟨h49.size,0,none⟩) 1 1) (o := .cells #[.int .u8 1] 5) (by kernel_rfl)) ?_
    rintro _ h50 ⟨rfl,hh⟩
    have g51 : Ext h49 h50 := push_ext hh
    have m52 : h50[h49.size]? = some (.cells #[.int .u8 1] 5) := push_at hh
    clear hh
    have lt53 := blk_lt m52
    have z54 := e0.size
    have hlo := e0.size
    have sepo := sep
    replace e0 := e0.ext g51
    replace kt := kt.ext g51
    replace own_x := own_x.ext g51
    replace m7 := Ext.blk g51 m7
    replace m15 := Ext.blk g51 m15
    replace m23 := Ext.blk g51 m23
    replace m31 := Ext.blk g51 m31
    replace sep := sep.up g51.size
    replace sep := sepo.new hlo (blk_lt m52)
    clear sepo hlo
    have own_y : Own h50 (.slice (some ⟨h49.size,0,none⟩) 1 1) 5 1 1 (([1]).map bv) := Own.blk m52 rfl (by unfold maxLen; decide)
    replace sep : Sep h.size h50.size [(some ⟨h49.size,0,none⟩ : Option Addr).map (·.block),ad47.map (·.block),some (h28.size),some (h20.size),some (h12.size),some (h4.size)] := sep
    clear m52 lt53 z54
    refine SimK.eff0 (i := 2) (D' := 15) (X' := 7) (by kernel_rfl) (by kernel_rfl) (by kernel_rfl) (by kernel_rfl) (Does.append2 (t := 22) (E := 5) (sz := 1) (by_ := 1) (n := 1) (m := 32) (v := .slice (some ⟨h49.size,0,none⟩) 1 1) (x := .slice (some ⟨h20.size,0,none⟩) 32 32) (xs := (([1]).map bv)) (ys := ((root (B.take (half n))).map bv)) (by kernel_rfl) (by kernel_rfl) own_y (hrow (root_len (hB.2.1.take _)) m23) (ones_map _) (by unfold maxLen; omega) (by omega)) ?_
    rintro _ h57 ⟨ad55,cap56,rfl,ownx,g,hb⟩
    rw [blkOf_slice] at g hb
    have hlo := e0.size
    have sepo := sep
    replace e0 := e0.grew g (sep.low 0 rfl)
    replace kt := kt.grew g (sep.zero 0 rfl h0s)
    replace own_x := own_x.kept g (by rw [blkOf_slice]; exact (sep.ap 1 0 rfl rfl (by decide)))
    replace m7 := Grew.blk g m7 ((sep.bp 5 0 rfl rfl (by decide)))
    replace m15 := Grew.blk g m15 ((sep.bp 4 0 rfl rfl (by decide)))
    replace m23 := Grew.blk g m23 ((sep.bp 3 0 rfl rfl (by decide)))
    replace m31 := Grew.blk g m31 ((sep.bp 2 0 rfl rfl (by decide)))
    replace sep := sep.up g.size
    replace sep : Sep h.size h57.size [ad55.map (·.block),ad47.map (·.block),some (h28.size),some (h20.size),some (h12.size),some (h4.size)] := sepo.set g.size hlo 0 (y := ad55.map (fun (x : Addr) => x.block)) rfl (hb.imp id fun e => .inr ⟨_,e,Nat.le_refl _⟩) (fun k e => ownx.lt (by rw [blkOf_slice]; exact e))
    replace own_y : Own h57 (.slice ad55 33 cap56) 5 33 1 (([1] ++ root (B.take (half n))).map bv) := Own.appG ownx (by first | rfl | simp) (by first | rfl | (simp; done) | (simp; omega))
    clear ownx g hb hlo sepo
    refine SimK.eff0 (i := 4) (D' := 31) (X' := 31) (by kernel_rfl) (by kernel_rfl) (by kernel_rfl) (by kernel_rfl) (Does.append2 (t := 22) (E := 5) (sz := 1) (by_ := 1) (n := 33) (m := 32) (v := .slice ad55 (1 + 32) cap56) (x := .slice (some ⟨h28.size,0,none⟩) 32 32) (xs := (([1] ++ root (B.take (half n))).map bv)) (ys := ((root (B.drop (half n))).map bv)) (by kernel_rfl) (by kernel_rfl) own_y (hrow (root_len (hB.2.1.drop _)) m31) (ones_map _) (by unfold maxLen; omega) (by omega)) ?_
    rintro _ h60 ⟨ad58,cap59,rfl,ownx,g,hb⟩
    rw [blkOf_slice] at g hb
    have hlo := e0.size
    have sepo := sep
    replace e0 := e0.grew g (sep.low 0 rfl)
    replace kt := kt.grew g (sep.zero 0 rfl h0s)
    replace own_x := own_x.kept g (by rw [blkOf_slice]; exact (sep.ap 1 0 rfl rfl (by decide)))
    replace m7 := Grew.blk g m7 ((sep.bp 5 0 rfl rfl (by decide)))
    replace m15 := Grew.blk g m15 ((sep.bp 4 0 rfl rfl (by decide)))
    replace m23 := Grew.blk g m23 ((sep.bp 3 0 rfl rfl (by decide)))
    replace m31 := Grew.blk g m31 ((sep.bp 2 0 rfl rfl (by decide)))
    replace sep := sep.up g.size
    replace sep : Sep h.size h60.size [ad58.map (·.block),ad47.map (·.block),some (h28.size),some (h20.size),some (h12.size),some (h4.size)] := sepo.set g.size hlo 0 (y := ad58.map (fun (x : Addr) => x.block)) rfl (hb.imp id fun e => .inr ⟨_,e,Nat.le_refl _⟩) (fun k e => ownx.lt (by rw [blkOf_slice]; exact e))
    replace own_y : Own h60 (.slice ad58 65 cap59) 5 65 1 (([1] ++ root (B.take (half n)) ++ root (B.drop (half n))).map bv) := Own.appG ownx (by first | rfl | simp) (by first | rfl | (simp; done) | (simp; omega))
    clear ownx g hb hlo sepo
    refine SimK.pures (D' := 63) (is := [5]) (vs := [.slice ad58 (33 + 32) cap59]) (by kernel_rfl) ?_
    refine SimK.done [10,11] (L := [(10,.slice ad47 65 cap48),(11,.slice ad58 (33 + 32) cap59)]) (by kernel_rfl) (by kernel_rfl) ?_
    clear hF; clear a; intro a hF
    have hcan : (33 + 32 : Nat) = 65 := by first | (simp; done) | (simp; omega)
    rw [hcan] at hF; clear hcan
    show C Tryd.prog (sub b25 [1,1,1,1,1,1,1,1,0,1,0,1,1]) _ a h60
    refine C.seq [1,1,1,1,1,1,1,1,0,1,0,1,1,0] [1,1,1,1,1,1,1,1,0,1,0,1,1,1] (by kernel_rfl) ?_
    refine C.plain 13 (by kernel_rfl) hF (by kernel_rfl) ?_
    refine SeqK.pures (k' := 1) [.slice ad47 65 cap48] (by kernel_rfl) rfl ?_
    have hlx : ([1] ++ root (A.take (half n)) ++ root (A.drop (half n))).length = 65 := (by simp only [List.length_append,List.length_cons,List.length_nil,root_len (hA.2.1.take _),root_len (hA.2.1.drop _)])
    refine SeqK.eff (k' := 2) (Does.call (f := 29) (args := #[.slice ad47 65 cap48]) (by kernel_rfl) (rsum_n _ ([1] ++ root (A.take (half n)) ++ root (A.drop (half n))) _ _ _ own_x.row hlx (by omega))) rfl ?_
    rintro _ h61 ⟨rfl,g⟩
    replace e0 := e0.ext g
    replace kt := kt.ext g
    replace own_x := own_x.ext g
    replace own_y := own_y.ext g
    replace m7 := Ext.blk g m7
    replace m15 := Ext.blk g m15
    replace m23 := Ext.blk g m23
    replace m31 := Ext.blk g m31
    replace sep := sep.up g.size
    clear g
    refine SeqK.pures (k' := 3) [.slice ad58 65 cap59] (by kernel_rfl) rfl ?_
    have hly : ([1] ++ root (B.take (half n)) ++ root (B.drop (half n))).length = 65 := (by simp only [List.length_append,List.length_cons,List.length_nil,root_len (hB.2.1.take _),root_len (hB.2.1.drop _)])
    refine SeqK.eff (k' := 4) (Does.call (f := 29) (args := #[.slice ad58 65 cap59]) (by kernel_rfl) (rsum_n _ ([1] ++ root (B.take (half n)) ++ root (B.drop (half n))) _ _ _ own_y.row hly (by omega))) rfl ?_
    rintro _ h62 ⟨rfl,g⟩
    replace e0 := e0.ext g
    replace kt := kt.ext g
    replace own_x := own_x.ext g
    replace own_y := own_y.ext g
    replace m7 := Ext.blk g m7
    replace m15 := Ext.blk g m15
    replace m23 := Ext.blk g m23
    replace m31 := Ext.blk g m31
    replace sep := sep.up g.size
    clear g
    refine SeqK.calm (k' := 5) (v := .bool true) ((eqHT (q := true) (l := sha ([1] ++ root (A.take (half n)) ++ root (A.drop (half n)))) (r := sha ([1] ++ root (B.take (half n)) ++ root (B.drop (half n)))) (n := 32) (by kernel_rfl) rfl rfl ((sha_node _ _).trans ((hsA.trans (heq.trans hsB.symm)).trans (sha_node _ _).symm))) _) rfl ?_
    refine SeqK.pures (k' := 6) [.bool true] (by kernel_rfl) rfl ?_
    refine SeqK.done [4] (L := [(4,.bool true)]) (by kernel_rfl) (by kernel_rfl) ?_
    clear hF; clear a; intro a hF
    show C Tryd.prog (sub b25 [1,1,1,1,1,1,1,1,0,1,0,1,1,1]) _ a h62
    refine C.ret (by kernel_rfl) ?_
    show retK Tryd.prog Tryd.f25 (fun v h' => v = .bool true ∧ Ext h h') .ret a h62
    refine ret_ok [.tmp 4] [.bool true] (.bool true) rfl hF ⟨rfl,trivial⟩ rfl ?_
    exact ⟨rfl,e0⟩
   ·skip
    refine C.plain 10 (by kernel_rfl) hF (by kernel_rfl) ?_
    refine SeqK.calm (k' := 1) (v := .agg ((root (A.take (half n))).map bv).toArray) (Calm.load (T := 27) (p := ⟨h4.size,0,none⟩) (by kernel_rfl) (Loads.hash (by kernel_rfl) (root_len (hA.2.1.take _)) m7)) rfl ?_
    refine SeqK.calm (k' := 2) (v := .agg ((root (B.take (half n))).map bv).toArray) (Calm.load (T := 27) (p := ⟨h20.size,0,none⟩) (by kernel_rfl) (Loads.hash (by kernel_rfl) (root_len (hB.2.1.take _)) m23)) rfl ?_
    refine SeqK.calm (k' := 3) (v := .bool true) ((eqHF (q := false) (l := root (A.take (half n))) (r := root (B.take (half n))) (n := 32) (by kernel_rfl) (root_len (hA.2.1.take _)) (root_len (hB.2.1.take _)) hea) _) rfl ?_
    refine SeqK.pures (k' := 8) [.bool true,undef,undef,undef,.bool true] (by kernel_rfl) rfl ?_
    refine SeqK.done [0,1,5,6,7,8,9,46] (L := [(0,.slice (some aa) n vc),(1,.slice (some ab) n vd),(5,.int .i64 ((half n : Nat) : Int)),(6,.pointer (some ⟨h4.size,0,none⟩)),(7,.pointer (some ⟨h12.size,0,none⟩)),(8,.pointer (some ⟨h20.size,0,none⟩)),(9,.pointer (some ⟨h28.size,0,none⟩)),(46,.bool true)]) (by kernel_rfl) (by kernel_rfl) ?_
    clear hF; clear a; intro a hF
    show C Tryd.prog (sub b25 [1,1,1,1,1,1,1,1,0,1]) _ a h34
    refine C.condT 46 [1,1,1,1,1,1,1,1,0,1,0] [1,1,1,1,1,1,1,1,0,1,1] (by kernel_rfl) hF (fun _ => rfl) ?_
    refine C.seq [1,1,1,1,1,1,1,1,0,1,0,0] [1,1,1,1,1,1,1,1,0,1,0,1] (by kernel_rfl) ?_
    refine C.draw (A := [0,0,3,0,15,31]) 11 (by kernel_rfl) mixed hF (by kernel_rfl) ?_
    refine SimK.pures (D' := 10) (is := [1,3]) (vs := [.slice (some ⟨h4.size,0,none⟩) 32 32,.slice (some ⟨h12.size,0,none⟩) 32 32]) (by kernel_rfl) ?_
    refine SimK.eff0 (i := 0) (D' := 11) (X' := 1) (by kernel_rfl) (by kernel_rfl) (by kernel_rfl) (by kernel_rfl) (Does.new (v := .slice (some ⟨h34.size,0,none⟩) 1 1) (o := .cells #[.int .u8 1] 5) (by kernel_rfl)) ?_
    rintro _ h63 ⟨rfl,hh⟩
    have g64 : Ext h34 h63 := push_ext hh
    have m65 : h63[h34.size]? = some (.cells #[.int .u8 1] 5) := push_at hh
    clear hh
    have lt66 := blk_lt m65
    have z67 := e0.size
    have hlo := e0.size
    have sepo := sep
    replace e0 := e0.ext g64
    replace kt := kt.ext g64
    replace m7 := Ext.blk g64 m7
    replace m15 := Ext.blk g64 m15
    replace m23 := Ext.blk g64 m23
    replace m31 := Ext.blk g64 m31
    replace sep := sep.up g64.size
    replace sep := sepo.new hlo (blk_lt m65)
    clear sepo hlo
    have own_x : Own h63 (.slice (some ⟨h34.size,0,none⟩) 1 1) 5 1 1 (([1]).map bv) := Own.blk m65 rfl (by unfold maxLen; decide)
    replace sep : Sep h.size h63.size [(some ⟨h34.size,0,none⟩ : Option Addr).map (·.block),some (h28.size),some (h20.size),some (h12.size),some (h4.size)] := sep
    clear m65 lt66 z67
    refine SimK.eff0 (i := 2) (D' := 15) (X' := 7) (by kernel_rfl) (by kernel_rfl) (by kernel_rfl) (by kernel_rfl) (Does.append2 (t := 22) (E := 5) (sz := 1) (by_ := 1) (n := 1) (m := 32) (v := .slice (some ⟨h34.size,0,none⟩) 1 1) (x := .slice (some ⟨h4.size,0,none⟩) 32 32) (xs := (([1]).map bv)) (ys := ((root (A.take (half n))).map bv)) (by kernel_rfl) (by kernel_rfl) own_x (hrow (root_len (hA.2.1.take _)) m7) (ones_map _) (by unfold maxLen; omega) (by omega)) ?_
    rintro _ h70 ⟨ad68,cap69,rfl,ownx,g,hb⟩
    rw [blkOf_slice] at g hb
    have hlo := e0.size
    have sepo := sep
    replace e0 := e0.grew g (sep.low 0 rfl)
    replace kt := kt.grew g (sep.zero 0 rfl h0s)
    replace m7 := Grew.blk g m7 ((sep.bp 4 0 rfl rfl (by decide)))
    replace m15 := Grew.blk g m15 ((sep.bp 3 0 rfl rfl (by decide)))
    replace m23 := Grew.blk g m23 ((sep.bp 2 0 rfl rfl (by decide)))
    replace m31 := Grew.blk g m31 ((sep.bp 1 0 rfl rfl (by decide)))
    replace sep := sep.up g.size
    replace sep : Sep h.size h70.size [ad68.map (·.block),some (h28.size),some (h20.size),some (h12.size),some (h4.size)] := sepo.set g.size hlo 0 (y := ad68.map (fun (x : Addr) => x.block)) rfl (hb.imp id fun e => .inr ⟨_,e,Nat.le_refl _⟩) (fun k e => ownx.lt (by rw [blkOf_slice]; exact e))
    replace own_x : Own h70 (.slice ad68 33 cap69) 5 33 1 (([1] ++ root (A.take (half n))).map bv) := Own.appG ownx (by first | rfl | simp) (by first | rfl | (simp; done) | (simp; omega))
    clear ownx g hb hlo sepo
    refine SimK.eff0 (i := 4) (D' := 31) (X' := 31) (by kernel_rfl) (by kernel_rfl) (by kernel_rfl) (by kernel_rfl) (Does.append2 (t := 22) (E := 5) (sz := 1) (by_ := 1) (n := 33) (m := 32) (v := .slice ad68 (1 + 32) cap69) (x := .slice (some ⟨h12.size,0,none⟩) 32 32) (xs := (([1] ++ root (A.take (half n))).map bv)) (ys := ((root (A.drop (half n))).map bv)) (by kernel_rfl) (by kernel_rfl) own_x (hrow (root_len (hA.2.1.drop _)) m15) (ones_map _) (by unfold maxLen; omega) (by omega)) ?_
    rintro _ h73 ⟨ad71,cap72,rfl,ownx,g,hb⟩
    rw [blkOf_slice] at g hb
    have hlo := e0.size
    have sepo := sep
    replace e0 := e0.grew g (sep.low 0 rfl)
    replace kt := kt.grew g (sep.zero 0 rfl h0s)
    replace m7 := Grew.blk g m7 ((sep.bp 4 0 rfl rfl (by decide)))
    replace m15 := Grew.blk g m15 ((sep.bp 3 0 rfl rfl (by decide)))
    replace m23 := Grew.blk g m23 ((sep.bp 2 0 rfl rfl (by decide)))
    replace m31 := Grew.blk g m31 ((sep.bp 1 0 rfl rfl (by decide)))
    replace sep := sep.up g.size
    replace sep : Sep h.size h73.size [ad71.map (·.block),some (h28.size),some (h20.size),some (h12.size),some (h4.size)] := sepo.set g.size hlo 0 (y := ad71.map (fun (x : Addr) => x.block)) rfl (hb.imp id fun e => .inr ⟨_,e,Nat.le_refl _⟩) (fun k e => ownx.lt (by rw [blkOf_slice]; exact e))
    replace own_x : Own h73 (.slice ad71 65 cap72) 5 65 1 (([1] ++ root (A.take (half n)) ++ root (A.drop (half n))).map bv) := Own.appG ownx (by first | rfl | simp) (by first | rfl | (simp; done) | (simp; omega))
    clear ownx g hb hlo sepo
    refine SimK.pures (D' := 63) (is := [5]) (vs := [.slice ad71 (33 + 32) cap72]) (by kernel_rfl) ?_
    refine SimK.done [8,9,10] (L := [(8,.pointer (some ⟨h20.size,0,none⟩)),(9,.pointer (some ⟨h28.size,0,none⟩)),(10,.slice ad71 (33 + 32) cap72)]) (by kernel_rfl) (by kernel_rfl) ?_
    clear hF; clear a; intro a hF
    have hcan : (33 + 32 : Nat) = 65 := by first | (simp; done) | (simp; omega)
    rw [hcan] at hF; clear hcan
    show C Tryd.prog (sub b25 [1,1,1,1,1,1,1,1,0,1,0,1]) _ a h73
    refine C.seq [1,1,1,1,1,1,1,1,0,1,0,1,0] [1,1,1,1,1,1,1,1,0,1,0,1,1] (by kernel_rfl) ?_
    refine C.draw (A := [0,0,3,0,15,31]) 12 (by kernel_rfl) mixed hF (by kernel_rfl) ?_
    refine SimK.pures (D' := 10) (is := [1,3]) (vs := [.slice (some ⟨h20.size,0,none⟩) 32 32,.slice (some ⟨h28.size,0,none⟩) 32 32]) (by kernel_rfl) ?_
    refine SimK.eff0 (i := 0) (D' := 11) (X' := 1) (by kernel_rfl) (by kernel_rfl) (by kernel_rfl) (by kernel_rfl) (Does.new (v := .slice (some ⟨h73.size,0,none⟩) 1 1) (o := .cells #[.int .u8 1] 5) (by kernel_rfl)) ?_
    rintro _ h74 ⟨rfl,hh⟩
    have g75 : Ext h73 h74 := push_ext hh
    have m76 : h74[h73.size]? = some (.cells #[.int .u8 1] 5) := push_at hh
    clear hh
    have lt77 := blk_lt m76
    have z78 := e0.size
    have hlo := e0.size
    have sepo := sep
    replace e0 := e0.ext g75
    replace kt := kt.ext g75
    replace own_x := own_x.ext g75
    replace m7 := Ext.blk g75 m7
    replace m15 := Ext.blk g75 m15
    replace m23 := Ext.blk g75 m23
    replace m31 := Ext.blk g75 m31
    replace sep := sep.up g75.size
    replace sep := sepo.new hlo (blk_lt m76)
    clear sepo hlo
    have own_y : Own h74 (.slice (some ⟨h73.size,0,none⟩) 1 1) 5 1 1 (([1]).map bv) := Own.blk m76 rfl (by unfold maxLen; decide)
    replace sep : Sep h.size h74.size [(some ⟨h73.size,0,none⟩ : Option Addr).map (·.block),ad71.map (·.block),some (h28.size),some (h20.size),some (h12.size),some (h4.size)] := sep
    clear m76 lt77 z78
    refine SimK.eff0 (i := 2) (D' := 15) (X' := 7) (by kernel_rfl) (by kernel_rfl) (by kernel_rfl) (by kernel_rfl) (Does.append2 (t := 22) (E := 5) (sz := 1) (by_ := 1) (n := 1) (m := 32) (v := .slice (some ⟨h73.size,0,none⟩) 1 1) (x := .slice (some ⟨h20.size,0,none⟩) 32 32) (xs := (([1]).map bv)) (ys := ((root (B.take (half n))).map bv)) (by kernel_rfl) (by kernel_rfl) own_y (hrow (root_len (hB.2.1.take _)) m23) (ones_map _) (by unfold maxLen; omega) (by omega)) ?_
    rintro _ h81 ⟨ad79,cap80,rfl,ownx,g,hb⟩
    rw [blkOf_slice] at g hb
    have hlo := e0.size
    have sepo := sep
    replace e0 := e0.grew g (sep.low 0 rfl)
    replace kt := kt.grew g (sep.zero 0 rfl h0s)
    replace own_x := own_x.kept g (by rw [blkOf_slice]; exact (sep.ap 1 0 rfl rfl (by decide)))
    replace m7 := Grew.blk g m7 ((sep.bp 5 0 rfl rfl (by decide)))
    replace m15 := Grew.blk g m15 ((sep.bp 4 0 rfl rfl (by decide)))
    replace m23 := Grew.blk g m23 ((sep.bp 3 0 rfl rfl (by decide)))
    replace m31 := Grew.blk g m31 ((sep.bp 2 0 rfl rfl (by decide)))
    replace sep := sep.up g.size
    replace sep : Sep h.size h81.size [ad79.map (·.block),ad71.map (·.block),some (h28.size),some (h20.size),some (h12.size),some (h4.size)] := sepo.set g.size hlo 0 (y := ad79.map (fun (x : Addr) => x.block)) rfl (hb.imp id fun e => .inr ⟨_,e,Nat.le_refl _⟩) (fun k e => ownx.lt (by rw [blkOf_slice]; exact e))
    replace own_y : Own h81 (.slice ad79 33 cap80) 5 33 1 (([1] ++ root (B.take (half n))).map bv) := Own.appG ownx (by first | rfl | simp) (by first | rfl | (simp; done) | (simp; omega))
    clear ownx g hb hlo sepo
    refine SimK.eff0 (i := 4) (D' := 31) (X' := 31) (by kernel_rfl) (by kernel_rfl) (by kernel_rfl) (by kernel_rfl) (Does.append2 (t := 22) (E := 5) (sz := 1) (by_ := 1) (n := 33) (m := 32) (v := .slice ad79 (1 + 32) cap80) (x := .slice (some ⟨h28.size,0,none⟩) 32 32) (xs := (([1] ++ root (B.take (half n))).map bv)) (ys := ((root (B.drop (half n))).map bv)) (by kernel_rfl) (by kernel_rfl) own_y (hrow (root_len (hB.2.1.drop _)) m31) (ones_map _) (by unfold maxLen; omega) (by omega)) ?_
    rintro _ h84 ⟨ad82,cap83,rfl,ownx,g,hb⟩
    rw [blkOf_slice] at g hb
    have hlo := e0.size
    have sepo := sep
    replace e0 := e0.grew g (sep.low 0 rfl)
    replace kt := kt.grew g (sep.zero 0 rfl h0s)
    replace own_x := own_x.kept g (by rw [blkOf_slice]; exact (sep.ap 1 0 rfl rfl (by decide)))
    replace m7 := Grew.blk g m7 ((sep.bp 5 0 rfl rfl (by decide)))
    replace m15 := Grew.blk g m15 ((sep.bp 4 0 rfl rfl (by decide)))
    replace m23 := Grew.blk g m23 ((sep.bp 3 0 rfl rfl (by decide)))
    replace m31 := Grew.blk g m31 ((sep.bp 2 0 rfl rfl (by decide)))
    replace sep := sep.up g.size
    replace sep : Sep h.size h84.size [ad82.map (·.block),ad71.map (·.block),some (h28.size),some (h20.size),some (h12.size),some (h4.size)] := sepo.set g.size hlo 0 (y := ad82.map (fun (x : Addr) => x.block)) rfl (hb.imp id fun e => .inr ⟨_,e,Nat.le_refl _⟩) (fun k e => ownx.lt (by rw [blkOf_slice]; exact e))
    replace own_y : Own h84 (.slice ad82 65 cap83) 5 65 1 (([1] ++ root (B.take (half n)) ++ root (B.drop (half n))).map bv) := Own.appG ownx (by first | rfl | simp) (by first | rfl | (simp; done) | (simp; omega))
    clear ownx g hb hlo sepo
    refine SimK.pures (D' := 63) (is := [5]) (vs := [.slice ad82 (33 + 32) cap83]) (by kernel_rfl) ?_
    refine SimK.done [10,11] (L := [(10,.slice ad71 65 cap72),(11,.slice ad82 (33 + 32) cap83)]) (by kernel_rfl) (by kernel_rfl) ?_
    clear hF; clear a; intro a hF
    have hcan : (33 + 32 : Nat) = 65 := by first | (simp; done) | (simp; omega)
    rw [hcan] at hF; clear hcan
    show C Tryd.prog (sub b25 [1,1,1,1,1,1,1,1,0,1,0,1,1]) _ a h84
    refine C.seq [1,1,1,1,1,1,1,1,0,1,0,1,1,0] [1,1,1,1,1,1,1,1,0,1,0,1,1,1] (by kernel_rfl) ?_
    refine C.plain 13 (by kernel_rfl) hF (by kernel_rfl) ?_
    refine SeqK.pures (k' := 1) [.slice ad71 65 cap72] (by kernel_rfl) rfl ?_
    have hlx : ([1] ++ root (A.take (half n)) ++ root (A.drop (half n))).length = 65 := (by simp only [List.length_append,List.length_cons,List.length_nil,root_len (hA.2.1.take _),root_len (hA.2.1.drop _)])
    refine SeqK.eff (k' := 2) (Does.call (f := 29) (args := #[.slice ad71 65 cap72]) (by kernel_rfl) (rsum_n _ ([1] ++ root (A.take (half n)) ++ root (A.drop (half n))) _ _ _ own_x.row hlx (by omega))) rfl ?_
    rintro _ h85 ⟨rfl,g⟩
    replace e0 := e0.ext g
    replace kt := kt.ext g
    replace own_x := own_x.ext g
    replace own_y := own_y.ext g
    replace m7 := Ext.blk g m7
    replace m15 := Ext.blk g m15
    replace m23 := Ext.blk g m23
    replace m31 := Ext.blk g m31
    replace sep := sep.up g.size
    clear g
    refine SeqK.pures (k' := 3) [.slice ad82 65 cap83] (by kernel_rfl) rfl ?_
    have hly : ([1] ++ root (B.take (half n)) ++ root (B.drop (half n))).length = 65 := (by simp only [List.length_append,List.length_cons,List.length_nil,root_len (hB.2.1.take _),root_len (hB.2.1.drop _)])
    refine SeqK.eff (k' := 4) (Does.call (f := 29) (args := #[.slice ad82 65 cap83]) (by kernel_rfl) (rsum_n _ ([1] ++ root (B.take (half n)) ++ root (B.drop (half n))) _ _ _ own_y.row hly (by omega))) rfl ?_
    rintro _ h86 ⟨rfl,g⟩
    replace e0 := e0.ext g
    replace kt := kt.ext g
    replace own_x := own_x.ext g
    replace own_y := own_y.ext g
    replace m7 := Ext.blk g m7
    replace m15 := Ext.blk g m15
    replace m23 := Ext.blk g m23
    replace m31 := Ext.blk g m31
    replace sep := sep.up g.size
    clear g
    refine SeqK.calm (k' := 5) (v := .bool true) ((eqHT (q := true) (l := sha ([1] ++ root (A.take (half n)) ++ root (A.drop (half n)))) (r := sha ([1] ++ root (B.take (half n)) ++ root (B.drop (half n)))) (n := 32) (by kernel_rfl) rfl rfl ((sha_node _ _).trans ((hsA.trans (heq.trans hsB.symm)).trans (sha_node _ _).symm))) _) rfl ?_
    refine SeqK.pures (k' := 6) [.bool true] (by kernel_rfl) rfl ?_
    refine SeqK.done [4] (L := [(4,.bool true)]) (by kernel_rfl) (by kernel_rfl) ?_
    clear hF; clear a; intro a hF
    show C Tryd.prog (sub b25 [1,1,1,1,1,1,1,1,0,1,0,1,1,1]) _ a h86
    refine C.ret (by kernel_rfl) ?_
    show retK Tryd.prog Tryd.f25 (fun v h' => v = .bool true ∧ Ext h h') .ret a h86
    refine ret_ok [.tmp 4] [.bool true] (.bool true) rfl hF ⟨rfl,trivial⟩ rfl ?_
    exact ⟨rfl,e0⟩
theorem met_all : ∀ (k n : Nat),n ≤ k → n ≤ 1048576 → ∀ (h : Heap) (A B : List Hs) (va vb : Option Addr) (vc vd : Nat),HR h va vc n A → HR h vb vd n B → root A = root B → A ≠ B → Ktab h → Sat Tryd.prog 25 #[.slice va n vc,.slice vb n vd] h fun v h' => v = .bool true ∧ Ext h h'
 | 0,n,hk,hn,h,A,B,va,vb,vc,vd,hA,hB,heq,hne,kt => met_step h A B va vb vc vd n (fun _ _ _ _ _ _ _ _ hlt => by omega) hA hB heq hne kt hn
 | k + 1,n,hk,hn,h,A,B,va,vb,vc,vd,hA,hB,heq,hne,kt => met_step h A B va vb vc vd n (fun h A B va vb vc vd n' hlt hA hB heq hne kt => met_all k n' (by omega) (by omega) h A B va vb vc vd hA hB heq hne kt) hA hB heq hne kt hn
end Go.Proofs.YtfompolnofgldaaDoor
