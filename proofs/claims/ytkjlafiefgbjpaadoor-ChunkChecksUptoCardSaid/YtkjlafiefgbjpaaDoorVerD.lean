/- Walks of proofs held: what each function computes, as a law of its calls. No condition but those that each theorem names. -/
import Derived.Test.YtkjlafiefgbjpaaDoorVerA
namespace Go.Proofs.YtkjlafiefgbjpaaDoor
open Go Go.Lane Go.Sha
noncomputable def b42 : Code := Tryd.f42.body.getD .skip
theorem rup_step (x : Hs) (hx : x.length = 32) (va : Option Addr) (vc rl : Nat) (ih : ∀ (h : Heap) (m n : Nat) (r : List Hs) (k : Nat),r.length = k → k < rl → HR h va vc k r → m < n → n ≤ 9223372036854775807 → Sat Tryd.prog 42 #[.agg (x.map bv).toArray,.int .i64 ((m : Nat) : Int),.int .i64 ((n : Nat) : Int),.slice va k vc] h fun v h' => v = .tuple #[.agg ((upV x m n r).1.map bv).toArray,.bool (upV x m n r).2] ∧ Ext h h') (h : Heap) (m n : Nat) (r : List Hs) (hrl : r.length = rl) (hr : HR h va vc r.length r) (hmn : m < n) (hn : n ≤ 9223372036854775807) (hl : r.length ≤ 1099511627776) : Sat Tryd.prog 42 #[.agg (x.map bv).toArray,.int .i64 ((m : Nat) : Int),.int .i64 ((n : Nat) : Int),.slice va r.length vc] h fun v h' => v = .tuple #[.agg ((upV x m n r).1.map bv).toArray,.bool (upV x m n r).2] ∧ Ext h h' := by
 have e0 := Ext.refl h
 have sep : Sep h.size h.size [] := Sep.nil _ _
 refine sat_of (args := [.agg (x.map bv).toArray,.int .i64 ((m : Nat) : Int),.int .i64 ((n : Nat) : Int),.slice va r.length vc]) (fn := Tryd.f42) (B := b42) (n := 71) (L := [(0,.agg (x.map bv).toArray),(1,.int .i64 ((m : Nat) : Int)),(2,.int .i64 ((n : Nat) : Int)),(3,.slice va r.length vc)]) Tryd.func42 rfl (by kernel_rfl) rfl ?_
 intro a hF
 refine cS ?_
 refine cP 0 hF ?_
 refine SeqK.eff (k' := 1) (Does.new (v := .pointer (some ⟨h.size,0,none⟩)) (o := .cells (x.map bv).toArray 31) (by kernel_rfl)) rfl ?_
 rintro _ h1 ⟨rfl,hh⟩
 have g2 : Ext h h1 := push_ext hh
 have m3 : h1[h.size]? = some (.cells (x.map bv).toArray 31) := push_at hh
 clear hh
 have lt4 := blk_lt m3
 have zs5 := e0.size
 have hlo := e0.size
 have sepo := sep
 replace e0 := e0.ext g2
 replace sep := sep.up g2.size
 replace sep := sepo.new hlo (blk_lt m3)
 clear sepo hlo
 refine SeqK.eff (k' := 2) (Does.new (v := .pointer (some ⟨h1.size,0,none⟩)) (o := .cells (z32.map bv).toArray 31) (by kernel_rfl)) rfl ?_
 rintro _ h6 ⟨rfl,hh⟩
 have g7 : Ext h1 h6 := push_ext hh
 have m8 : h6[h1.size]? = some (.cells (z32.map bv).toArray 31) := push_at hh
 clear hh
 have lt9 := blk_lt m8
 have zs10 := e0.size
 have hlo := e0.size
 have sepo := sep
 replace e0 := e0.ext g7
 replace m3 := Ext.blk g7 m3
 replace sep := sep.up g7.size
 replace sep := sepo.new hlo (blk_lt m8)
 clear sepo hlo
 refine sP 3 [.bool false] ?_
 refine sD [(1,nV m),(2,nV n),(3,.slice va r.length vc),(4,pV h.size),(8,pV h1.size)] ?_
 clear hF a; intro a hF
 refine tK ?_
 refine cS ?_
 refine cS ?_
 refine cP 1 hF ?_
 refine sP 2 [nV n,.bool (decide (((n : Nat) : Int) = (1 : Int)))] ?_
 refine sD [(1,nV m),(2,nV n),(3,.slice va r.length vc),(4,pV h.size),(8,pV h1.size),(18,.bool (decide (((n : Nat) : Int) = (1 : Int))))] ?_
 clear hF a; intro a hF
 refine tK ?_
 refine cC 18 (decide (((n : Nat) : Int) = (1 : Int))) hF (fun hc11 => ?_) (fun hc11 => ?_)
 ·skip
  replace hc11 := of_decide_eq_true hc11
  refine cS ?_
  refine cP 2 hF ?_
  refine sC 1 (.agg (x.map bv).toArray) (Calm.load (T := 31) (p := ⟨h.size,0,none⟩) (by kernel_rfl) (Loads.hash (by kernel_rfl) hx m3)) ?_
  refine sP 4 [.slice va r.length vc,nV r.length,.bool (decide (((r.length : Nat) : Int) = (0 : Int)))] ?_
  refine SeqK.eff (k' := 5) (Does.store (b := h1.size) (off := 0) (vs := x.map bv) (l := z32.map bv) (storeOp_of (by kernel_rfl) (hlm hx)) m8 (hfit rfl hx) (ones_map _)) rfl ?_
  rintro _ h12 ⟨rfl,hh⟩
  have g13 : Grew (some (h1.size)) h6 h12 := hput_gr hh
  replace m8 : h12[h1.size]? = some (.cells (x.map bv).toArray 31) := hput_at (off := 0) (vs := x.map bv) (l := (z32.map bv)) hh (hsplice rfl hx) m8
  clear hh
  replace e0 := e0.grew g13 (sep.low 0 rfl)
  replace m3 := Grew.blk g13 m3 ((sep.bp 1 0))
  replace sep := sep.up g13.size
  refine sP 6 [.bool (decide (((r.length : Nat) : Int) = (0 : Int)))] ?_
  refine sD [(8,pV h1.size),(9,.bool (decide (((r.length : Nat) : Int) = (0 : Int))))] ?_
  clear hF a; intro a hF
  refine tK ?_
  refine cR ?_
  show retK Tryd.prog Tryd.f42 (fun v h' => v = .tuple #[.agg ((upV x m n r).1.map bv).toArray,.bool (upV x m n r).2] ∧ Ext h h') .ret a h12
  refine ret_ok [.cell 8 31,.tmp 9] [.agg (x.map bv).toArray,.bool (decide (((r.length : Nat) : Int) = (0 : Int)))] (.tuple #[.agg (x.map bv).toArray,.bool (decide (((r.length : Nat) : Int) = (0 : Int)))]) rfl hF ⟨⟨_,rfl,Loads.hash (by kernel_rfl) hx m8⟩,rfl,trivial⟩ rfl ?_
  exact ⟨by rw [show n = 1 by omega,up_one,show (decide (((r.length : Nat) : Int) = 0)) = decide (r.length = 0) by simp] <;> rfl,e0⟩
 ·skip
  replace hc11 := of_decide_eq_false hc11
  refine cN ?_
  refine tK ?_
  refine cS ?_
  refine cS ?_
  refine cP 3 hF ?_
  refine sP 3 [.slice va r.length vc,nV r.length,.bool (decide (((r.length : Nat) : Int) = (0 : Int)))] ?_
  refine sD [(1,nV m),(2,nV n),(3,.slice va r.length vc),(4,pV h.size),(8,pV h1.size),(25,.bool (decide (((r.length : Nat) : Int) = (0 : Int))))] ?_
  clear hF a; intro a hF
  refine tK ?_
  refine cC 25 (decide (((r.length : Nat) : Int) = (0 : Int))) hF (fun hc14 => ?_) (fun hc14 => ?_)
  ·skip
   replace hc14 := of_decide_eq_true hc14
   refine cS ?_
   refine cP 4 hF ?_
   refine sC 1 (.agg (x.map bv).toArray) (Calm.load (T := 31) (p := ⟨h.size,0,none⟩) (by kernel_rfl) (Loads.hash (by kernel_rfl) hx m3)) ?_
   refine SeqK.eff (k' := 2) (Does.store (b := h1.size) (off := 0) (vs := x.map bv) (l := z32.map bv) (storeOp_of (by kernel_rfl) (hlm hx)) m8 (hfit rfl hx) (ones_map _)) rfl ?_
   rintro _ h15 ⟨rfl,hh⟩
   have g16 : Grew (some (h1.size)) h6 h15 := hput_gr hh
   replace m8 : h15[h1.size]? = some (.cells (x.map bv).toArray 31) := hput_at (off := 0) (vs := x.map bv) (l := (z32.map bv)) hh (hsplice rfl hx) m8
   clear hh
   replace e0 := e0.grew g16 (sep.low 0 rfl)
   replace m3 := Grew.blk g16 m3 ((sep.bp 1 0))
   replace sep := sep.up g16.size
   refine sP 3 [.bool false] ?_
   refine sD [(8,pV h1.size),(9,.bool false)] ?_
   clear hF a; intro a hF
   refine tK ?_
   refine cR ?_
   show retK Tryd.prog Tryd.f42 (fun v h' => v = .tuple #[.agg ((upV x m n r).1.map bv).toArray,.bool (upV x m n r).2] ∧ Ext h h') .ret a h15
   refine ret_ok [.cell 8 31,.tmp 9] [.agg (x.map bv).toArray,.bool false] (.tuple #[.agg (x.map bv).toArray,.bool false]) rfl hF ⟨⟨_,rfl,Loads.hash (by kernel_rfl) hx m8⟩,rfl,trivial⟩ rfl ?_
   exact ⟨by rw [up_none (by omega) (by omega)] <;> rfl,e0⟩
  ·skip
   replace hc14 := of_decide_eq_false hc14
   have hr0 : 0 < r.length := by omega
   obtain ⟨aa,rfl,hcap⟩ := hr.someA (by omega)
   have hhl := half_lt (n := n) (by omega); have hhp := half_pos n
   refine cN ?_
   refine tK ?_
   refine cS ?_
   refine cP 5 hF ?_
   refine sP 3 [.slice (some aa) r.length vc,.slice (some aa) r.length vc,nV r.length] ?_
   refine s1 4 (.int .i64 ((r.length - 1 : Nat) : Int)) (.int .i64 (IntKind.i64.wrap (((r.length : Nat) : Int) - 1))) (congrArg (Value.int .i64) (w64' (by omega) (by omega) (by omega))) ?_
   refine sC 5 (.pointer (some (Addr.add aa ((r.length - 1) * 32)))) ((Calm.indexA (a := aa) (len := r.length) (sz := 32) (k := ((r.length - 1 : Nat) : Int)) (r.length - 1) ((r.length - 1) * 32) (by kernel_rfl) rfl (by omega) (by omega)) _) ?_
   refine sC 6 (.agg ((r.getD (r.length - 1) []).map bv).toArray) (Calm.load (T := 31) (p := (Addr.add aa ((r.length - 1) * 32))) (by kernel_rfl) (HR.loads (k := (r.length - 1)) (q := (r.length - 1) * 32) (hr.ext e0) (by kernel_rfl) (by omega) (by omega))) ?_
   refine SeqK.eff (k' := 7) (Does.new (v := .pointer (some ⟨h6.size,0,none⟩)) (o := .cells (z32.map bv).toArray 31) (by kernel_rfl)) rfl ?_
   rintro _ h17 ⟨rfl,hh⟩
   have g18 : Ext h6 h17 := push_ext hh
   have m19 : h17[h6.size]? = some (.cells (z32.map bv).toArray 31) := push_at hh
   clear hh
   have lt20 := blk_lt m19
   have zs21 := e0.size
   have hlo := e0.size
   have sepo := sep
   replace e0 := e0.ext g18
   replace m3 := Ext.blk g18 m3
   replace m8 := Ext.blk g18 m8
   replace sep := sep.up g18.size
   replace sep := sepo.new hlo (blk_lt m19)
   clear sepo hlo
   refine SeqK.eff (k' := 8) (Does.store (b := h6.size) (off := 0) (vs := (r.getD (r.length - 1) []).map bv) (l := z32.map bv) (storeOp_of (by kernel_rfl) (hlm (hr.2.1.get (k := (r.length - 1)) (by rw [hr.2.2]; omega)))) m19 (hfit rfl (hr.2.1.get (k := (r.length - 1)) (by rw [hr.2.2]; omega))) (ones_map _)) rfl ?_
   rintro _ h22 ⟨rfl,hh⟩
   have g23 : Grew (some (h6.size)) h17 h22 := hput_gr hh
   replace m19 : h22[h6.size]? = some (.cells ((r.getD (r.length - 1) []).map bv).toArray 31) := hput_at (off := 0) (vs := (r.getD (r.length - 1) []).map bv) (l := (z32.map bv)) hh (hsplice rfl (hr.2.1.get (k := (r.length - 1)) (by rw [hr.2.2]; omega))) m19
   clear hh
   replace e0 := e0.grew g23 (sep.low 0 rfl)
   replace m3 := Grew.blk g23 m3 ((sep.bp 2 0))
   replace m8 := Grew.blk g23 m8 ((sep.bp 1 0))
   replace sep := sep.up g23.size
   refine sD [(1,nV m),(2,nV n),(3,.slice (some aa) r.length vc),(4,pV h.size),(8,pV h1.size),(10,pV h6.size)] ?_
   clear hF a; intro a hF
   refine tK ?_
   refine cS ?_
   refine cP 6 hF ?_
   refine sP 3 [.slice (some aa) r.length vc,.slice (some aa) r.length vc,nV r.length] ?_
   refine s1 4 (.int .i64 ((r.length - 1 : Nat) : Int)) (.int .i64 (IntKind.i64.wrap (((r.length : Nat) : Int) - 1))) (congrArg (Value.int .i64) (w64' (by omega) (by omega) (by omega))) ?_
   refine sC 5 (.slice (some aa) (r.length - 1) vc) ((fun h => Calm.sliceO (a := (some aa)) (len := r.length) (cap := vc) (sz := 32) (x := (some aa)) 0 (r.length - 1) vc (r.length - 1) vc (by kernel_rfl) (.inl ⟨rfl,rfl⟩) (.inr rfl) (.inl ⟨rfl,rfl⟩) (by omega) (by omega) (opt_add0 _ 32) (by first | rfl | omega) (by first | rfl | omega) h) _) ?_
   refine sP 6 [.slice (some aa) (r.length - 1) vc] ?_
   refine sD [(1,nV m),(2,nV n),(4,pV h.size),(8,pV h1.size),(10,pV h6.size),(11,.slice (some aa) (r.length - 1) vc)] ?_
   clear hF a; intro a hF
   refine tK ?_
   refine cS ?_
   refine cP 7 hF ?_
   refine sP 1 [nV n] ?_
   refine sC 2 (.int .i64 ((half n : Nat) : Int)) (Does.call (f := 49) (args := #[.int .i64 ((n : Nat) : Int)]) (by kernel_rfl) (below_sat _ n (by omega) (by omega))) ?_
   refine sP 3 [nV (half n)] ?_
   refine sD [(1,nV m),(2,nV n),(4,pV h.size),(8,pV h1.size),(10,pV h6.size),(11,.slice (some aa) (r.length - 1) vc),(12,nV (half n))] ?_
   clear hF a; intro a hF
   refine tK ?_
   refine cS ?_
   refine cS ?_
   refine cP 8 hF ?_
   refine sP 3 [nV m,nV (half n),.bool (decide (((m : Nat) : Int) < ((half n : Nat) : Int)))] ?_
   refine sD [(1,nV m),(2,nV n),(4,pV h.size),(8,pV h1.size),(10,pV h6.size),(11,.slice (some aa) (r.length - 1) vc),(12,nV (half n)),(42,.bool (decide (((m : Nat) : Int) < ((half n : Nat) : Int))))] ?_
   clear hF a; intro a hF
   refine tK ?_
   refine cC 42 (decide (((m : Nat) : Int) < ((half n : Nat) : Int))) hF (fun hc24 => ?_) (fun hc24 => ?_)
   ·skip
    replace hc24 := of_decide_eq_true hc24
    refine cS ?_
    refine cP 9 hF ?_
    refine sC 1 (.agg (x.map bv).toArray) (Calm.load (T := 31) (p := ⟨h.size,0,none⟩) (by kernel_rfl) (Loads.hash (by kernel_rfl) hx m3)) ?_
    refine sP 4 [nV m,nV (half n),.slice (some aa) (r.length - 1) vc] ?_
    refine SeqK.eff (k' := 5) (Does.call (f := 42) (args := #[.agg (x.map bv).toArray,.int .i64 ((m : Nat) : Int),.int .i64 ((half n : Nat) : Int),.slice (some aa) (r.length - 1) vc]) (by kernel_rfl) (ih _ m (half n) (initH r) (r.length - 1) (initH_len r) (by omega) ((hr.ext e0).take (by omega)) (by omega) (by omega))) rfl ?_
    rintro _ h25 ⟨rfl,g⟩
    replace e0 := e0.ext g
    replace m3 := Ext.blk g m3
    replace m8 := Ext.blk g m8
    replace m19 := Ext.blk g m19
    replace sep := sep.up g.size
    clear g
    refine sP 8 [.tuple #[.agg (((upV x m (half n) (initH r)).1).map bv).toArray,.bool ((upV x m (half n) (initH r)).2)],.agg (((upV x m (half n) (initH r)).1).map bv).toArray,.bool ((upV x m (half n) (initH r)).2)] ?_
    refine SeqK.eff (k' := 9) (Does.new (v := .pointer (some ⟨h25.size,0,none⟩)) (o := .cells (z32.map bv).toArray 31) (by kernel_rfl)) rfl ?_
    rintro _ h26 ⟨rfl,hh⟩
    have g27 : Ext h25 h26 := push_ext hh
    have m28 : h26[h25.size]? = some (.cells (z32.map bv).toArray 31) := push_at hh
    clear hh
    have lt29 := blk_lt m28
    have zs30 := e0.size
    have hlo := e0.size
    have sepo := sep
    replace e0 := e0.ext g27
    replace m3 := Ext.blk g27 m3
    replace m8 := Ext.blk g27 m8
    replace m19 := Ext.blk g27 m19
    replace sep := sep.up g27.size
    replace sep := sepo.new hlo (blk_lt m28)
    clear sepo hlo
    refine SeqK.eff (k' := 10) (Does.store (b := h25.size) (off := 0) (vs := ((upV x m (half n) (initH r)).1).map bv) (l := z32.map bv) (storeOp_of (by kernel_rfl) (hlm (up_len hx))) m28 (hfit rfl (up_len hx)) (ones_map _)) rfl ?_
    rintro _ h31 ⟨rfl,hh⟩
    have g32 : Grew (some (h25.size)) h26 h31 := hput_gr hh
    replace m28 : h31[h25.size]? = some (.cells (((upV x m (half n) (initH r)).1).map bv).toArray 31) := hput_at (off := 0) (vs := ((upV x m (half n) (initH r)).1).map bv) (l := (z32.map bv)) hh (hsplice rfl (up_len hx)) m28
    clear hh
    replace e0 := e0.grew g32 (sep.low 0 rfl)
    replace m3 := Grew.blk g32 m3 ((sep.bp 3 0))
    replace m8 := Grew.blk g32 m8 ((sep.bp 2 0))
    replace m19 := Grew.blk g32 m19 ((sep.bp 1 0))
    replace sep := sep.up g32.size
    refine sP 11 [.bool ((upV x m (half n) (initH r)).2)] ?_
    refine sD [(8,pV h1.size),(10,pV h6.size),(13,pV h25.size),(14,.bool ((upV x m (half n) (initH r)).2))] ?_
    clear hF a; intro a hF
    refine tK ?_
    refine cS ?_
    refine cP 10 hF ?_
    refine sC 1 (.agg (((upV x m (half n) (initH r)).1).map bv).toArray) (Calm.load (T := 31) (p := ⟨h25.size,0,none⟩) (by kernel_rfl) (Loads.hash (by kernel_rfl) (up_len hx) m28)) ?_
    refine sC 2 (.agg ((r.getD (r.length - 1) []).map bv).toArray) (Calm.load (T := 31) (p := ⟨h6.size,0,none⟩) (by kernel_rfl) (Loads.hash (by kernel_rfl) (hr.2.1.get (k := (r.length - 1)) (by rw [hr.2.2]; omega)) m19)) ?_
    refine SeqK.eff (k' := 3) (Does.call (f := 34) (args := #[.agg (((upV x m (half n) (initH r)).1).map bv).toArray,.agg ((r.getD (r.length - 1) []).map bv).toArray]) (by kernel_rfl) (rnode_sat _ ((upV x m (half n) (initH r)).1) (r.getD (r.length - 1) []) (up_len hx) (hr.2.1.get (k := (r.length - 1)) (by rw [hr.2.2]; omega)))) rfl ?_
    rintro _ h33 ⟨rfl,g⟩
    replace e0 := e0.ext g
    replace m3 := Ext.blk g m3
    replace m8 := Ext.blk g m8
    replace m19 := Ext.blk g m19
    replace m28 := Ext.blk g m28
    replace sep := sep.up g.size
    clear g
    refine sP 4 [.bool ((upV x m (half n) (initH r)).2)] ?_
    refine SeqK.eff (k' := 5) (Does.store (b := h1.size) (off := 0) (vs := (nodeH ((upV x m (half n) (initH r)).1) (r.getD (r.length - 1) [])).map bv) (l := z32.map bv) (storeOp_of (by kernel_rfl) (hlm (node_len _ _))) m8 (hfit rfl (node_len _ _)) (ones_map _)) rfl ?_
    rintro _ h34 ⟨rfl,hh⟩
    have g35 : Grew (some (h1.size)) h33 h34 := hput_gr hh
    replace m8 : h34[h1.size]? = some (.cells ((nodeH ((upV x m (half n) (initH r)).1) (r.getD (r.length - 1) [])).map bv).toArray 31) := hput_at (off := 0) (vs := (nodeH ((upV x m (half n) (initH r)).1) (r.getD (r.length - 1) [])).map bv) (l := (z32.map bv)) hh (hsplice rfl (node_len _ _)) m8
    clear hh
    replace e0 := e0.grew g35 (sep.low 2 rfl)
    replace m3 := Grew.blk g35 m3 ((sep.bp 3 2))
    replace m19 := Grew.blk g35 m19 ((sep.bp 1 2))
    replace m28 := Grew.blk g35 m28 ((sep.bp 0 2))
    replace sep := sep.up g35.size
    refine sP 6 [.bool ((upV x m (half n) (initH r)).2)] ?_
    refine sD [(8,pV h1.size),(9,.bool ((upV x m (half n) (initH r)).2))] ?_
    clear hF a; intro a hF
    refine tK ?_
    refine cR ?_
    show retK Tryd.prog Tryd.f42 (fun v h' => v = .tuple #[.agg ((upV x m n r).1.map bv).toArray,.bool (upV x m n r).2] ∧ Ext h h') .ret a h34
    refine ret_ok [.cell 8 31,.tmp 9] [.agg ((nodeH ((upV x m (half n) (initH r)).1) (r.getD (r.length - 1) [])).map bv).toArray,.bool ((upV x m (half n) (initH r)).2)] (.tuple #[.agg ((nodeH ((upV x m (half n) (initH r)).1) (r.getD (r.length - 1) [])).map bv).toArray,.bool ((upV x m (half n) (initH r)).2)]) rfl hF ⟨⟨_,rfl,Loads.hash (by kernel_rfl) (node_len _ _) m8⟩,rfl,trivial⟩ rfl ?_
    exact ⟨by rw [up_lo (by omega) hr0 (by omega)] <;> rfl,e0⟩
   ·skip
    replace hc24 := of_decide_eq_false hc24
    refine cN ?_
    refine tK ?_
    refine cS ?_
    refine cP 11 hF ?_
    refine sC 1 (.agg (x.map bv).toArray) (Calm.load (T := 31) (p := ⟨h.size,0,none⟩) (by kernel_rfl) (Loads.hash (by kernel_rfl) hx m3)) ?_
    refine sP 3 [nV m,nV (half n)] ?_
    refine s1 4 (.int .i64 ((m - (half n) : Nat) : Int)) (.int .i64 (IntKind.i64.wrap (((m : Nat) : Int) - ((half n : Nat) : Int)))) (congrArg (Value.int .i64) (w64' (by omega) (by omega) (by omega))) ?_
    refine sP 6 [nV n,nV (half n)] ?_
    refine s1 7 (.int .i64 ((n - (half n) : Nat) : Int)) (.int .i64 (IntKind.i64.wrap (((n : Nat) : Int) - ((half n : Nat) : Int)))) (congrArg (Value.int .i64) (w64' (by omega) (by omega) (by omega))) ?_
    refine sP 8 [.slice (some aa) (r.length - 1) vc] ?_
    refine SeqK.eff (k' := 9) (Does.call (f := 42) (args := #[.agg (x.map bv).toArray,.int .i64 ((m - (half n) : Nat) : Int),.int .i64 ((n - (half n) : Nat) : Int),.slice (some aa) (r.length - 1) vc]) (by kernel_rfl) (ih _ (m - half n) (n - half n) (initH r) (r.length - 1) (initH_len r) (by omega) ((hr.ext e0).take (by omega)) (by omega) (by omega))) rfl ?_
    rintro _ h36 ⟨rfl,g⟩
    replace e0 := e0.ext g
    replace m3 := Ext.blk g m3
    replace m8 := Ext.blk g m8
    replace m19 := Ext.blk g m19
    replace sep := sep.up g.size
    clear g
    refine sP 12 [.tuple #[.agg (((upV x (m - half n) (n - half n) (initH r)).1).map bv).toArray,.bool ((upV x (m - half n) (n - half n) (initH r)).2)],.agg (((upV x (m - half n) (n - half n) (initH r)).1).map bv).toArray,.bool ((upV x (m - half n) (n - half n) (initH r)).2)] ?_
    refine SeqK.eff (k' := 13) (Does.new (v := .pointer (some ⟨h36.size,0,none⟩)) (o := .cells (z32.map bv).toArray 31) (by kernel_rfl)) rfl ?_
    rintro _ h37 ⟨rfl,hh⟩
    have g38 : Ext h36 h37 := push_ext hh
    have m39 : h37[h36.size]? = some (.cells (z32.map bv).toArray 31) := push_at hh
    clear hh
    have lt40 := blk_lt m39
    have zs41 := e0.size
    have hlo := e0.size
    have sepo := sep
    replace e0 := e0.ext g38
    replace m3 := Ext.blk g38 m3
    replace m8 := Ext.blk g38 m8
    replace m19 := Ext.blk g38 m19
    replace sep := sep.up g38.size
    replace sep := sepo.new hlo (blk_lt m39)
    clear sepo hlo
    refine SeqK.eff (k' := 14) (Does.store (b := h36.size) (off := 0) (vs := ((upV x (m - half n) (n - half n) (initH r)).1).map bv) (l := z32.map bv) (storeOp_of (by kernel_rfl) (hlm (up_len hx))) m39 (hfit rfl (up_len hx)) (ones_map _)) rfl ?_
    rintro _ h42 ⟨rfl,hh⟩
    have g43 : Grew (some (h36.size)) h37 h42 := hput_gr hh
    replace m39 : h42[h36.size]? = some (.cells (((upV x (m - half n) (n - half n) (initH r)).1).map bv).toArray 31) := hput_at (off := 0) (vs := ((upV x (m - half n) (n - half n) (initH r)).1).map bv) (l := (z32.map bv)) hh (hsplice rfl (up_len hx)) m39
    clear hh
    replace e0 := e0.grew g43 (sep.low 0 rfl)
    replace m3 := Grew.blk g43 m3 ((sep.bp 3 0))
    replace m8 := Grew.blk g43 m8 ((sep.bp 2 0))
    replace m19 := Grew.blk g43 m19 ((sep.bp 1 0))
    replace sep := sep.up g43.size
    refine sP 15 [.bool ((upV x (m - half n) (n - half n) (initH r)).2)] ?_
    refine sD [(8,pV h1.size),(10,pV h6.size),(15,pV h36.size),(16,.bool ((upV x (m - half n) (n - half n) (initH r)).2))] ?_
    clear hF a; intro a hF
    refine tK ?_
    refine cS ?_
    refine cP 12 hF ?_
    refine sC 1 (.agg ((r.getD (r.length - 1) []).map bv).toArray) (Calm.load (T := 31) (p := ⟨h6.size,0,none⟩) (by kernel_rfl) (Loads.hash (by kernel_rfl) (hr.2.1.get (k := (r.length - 1)) (by rw [hr.2.2]; omega)) m19)) ?_
    refine sC 2 (.agg (((upV x (m - half n) (n - half n) (initH r)).1).map bv).toArray) (Calm.load (T := 31) (p := ⟨h36.size,0,none⟩) (by kernel_rfl) (Loads.hash (by kernel_rfl) (up_len hx) m39)) ?_
    refine SeqK.eff (k' := 3) (Does.call (f := 34) (args := #[.agg ((r.getD (r.length - 1) []).map bv).toArray,.agg (((upV x (m - half n) (n - half n) (initH r)).1).map bv).toArray]) (by kernel_rfl) (rnode_sat _ (r.getD (r.length - 1) []) ((upV x (m - half n) (n - half n) (initH r)).1) (hr.2.1.get (k := (r.length - 1)) (by rw [hr.2.2]; omega)) (up_len hx))) rfl ?_
    rintro _ h44 ⟨rfl,g⟩
    replace e0 := e0.ext g
    replace m3 := Ext.blk g m3
    replace m8 := Ext.blk g m8
    replace m19 := Ext.blk g m19
    replace m39 := Ext.blk g m39
    replace sep := sep.up g.size
    clear g
    refine sP 4 [.bool ((upV x (m - half n) (n - half n) (initH r)).2)] ?_
    refine SeqK.eff (k' := 5) (Does.store (b := h1.size) (off := 0) (vs := (nodeH (r.getD (r.length - 1) []) ((upV x (m - half n) (n - half n) (initH r)).1)).map bv) (l := z32.map bv) (storeOp_of (by kernel_rfl) (hlm (node_len _ _))) m8 (hfit rfl (node_len _ _)) (ones_map _)) rfl ?_
    rintro _ h45 ⟨rfl,hh⟩
    have g46 : Grew (some (h1.size)) h44 h45 := hput_gr hh
    replace m8 : h45[h1.size]? = some (.cells ((nodeH (r.getD (r.length - 1) []) ((upV x (m - half n) (n - half n) (initH r)).1)).map bv).toArray 31) := hput_at (off := 0) (vs := (nodeH (r.getD (r.length - 1) []) ((upV x (m - half n) (n - half n) (initH r)).1)).map bv) (l := (z32.map bv)) hh (hsplice rfl (node_len _ _)) m8
    clear hh
    replace e0 := e0.grew g46 (sep.low 2 rfl)
    replace m3 := Grew.blk g46 m3 ((sep.bp 3 2))
    replace m19 := Grew.blk g46 m19 ((sep.bp 1 2))
    replace m39 := Grew.blk g46 m39 ((sep.bp 0 2))
    replace sep := sep.up g46.size
    refine sP 6 [.bool ((upV x (m - half n) (n - half n) (initH r)).2)] ?_
    refine sD [(8,pV h1.size),(9,.bool ((upV x (m - half n) (n - half n) (initH r)).2))] ?_
    clear hF a; intro a hF
    refine tK ?_
    refine cR ?_
    show retK Tryd.prog Tryd.f42 (fun v h' => v = .tuple #[.agg ((upV x m n r).1.map bv).toArray,.bool (upV x m n r).2] ∧ Ext h h') .ret a h45
    refine ret_ok [.cell 8 31,.tmp 9] [.agg ((nodeH (r.getD (r.length - 1) []) ((upV x (m - half n) (n - half n) (initH r)).1)).map bv).toArray,.bool ((upV x (m - half n) (n - half n) (initH r)).2)] (.tuple #[.agg ((nodeH (r.getD (r.length - 1) []) ((upV x (m - half n) (n - half n) (initH r)).1)).map bv).toArray,.bool ((upV x (m - half n) (n - half n) (initH r)).2)]) rfl hF ⟨⟨_,rfl,Loads.hash (by kernel_rfl) (node_len _ _) m8⟩,rfl,trivial⟩ rfl ?_
    exact ⟨by rw [up_hi (by omega) hr0 (by omega)] <;> rfl,e0⟩
theorem rup_all (x : Hs) (hx : x.length = 32) (va : Option Addr) (vc : Nat) : ∀ (q : Nat) (h : Heap) (m n : Nat) (r : List Hs) (k : Nat),r.length = k → k ≤ q → q ≤ 1099511627776 → HR h va vc k r → m < n → n ≤ 9223372036854775807 → Sat Tryd.prog 42 #[.agg (x.map bv).toArray,.int .i64 ((m : Nat) : Int),.int .i64 ((n : Nat) : Int),.slice va k vc] h fun v h' => v = .tuple #[.agg ((upV x m n r).1.map bv).toArray,.bool (upV x m n r).2] ∧ Ext h h'
 | 0,h,m,n,r,k,hk,hq,hql,hr,hmn,hn => by subst hk; exact rup_step x hx va vc r.length (fun _ _ _ _ _ _ hlt => by omega) h m n r rfl hr hmn hn (by omega)
 | q + 1,h,m,n,r,k,hk,hq,hql,hr,hmn,hn => by subst hk; exact rup_step x hx va vc r.length (fun h m n r k hk hlt hr hmn hn => rup_all x hx va vc q h m n r k hk (by omega) (by omega) hr hmn hn) h m n r rfl hr hmn hn (by omega)
noncomputable def b25 : Code := Tryd.f25.body.getD .skip
theorem rincl6_sat (h : Heap) (x : Hs) (m n : Int) (r : List Hs) (va : Option Addr) (vc : Nat) (t : Hs) (hx : x.length = 32) (ht : t.length = 32) (hr : HR h va vc r.length r) (hrl : r.length ≤ 1099511627776) (hn : n ≤ 9223372036854775807) : Sat Tryd.prog 25 #[.agg (x.map bv).toArray,.int .i64 m,.int .i64 n,.slice va r.length vc,.agg (t.map bv).toArray] h fun v h' => v = .bool (inclB x m n r t) ∧ Ext h h' := by
 have e0 := Ext.refl h
 have sep : Sep h.size h.size [] := Sep.nil _ _
 refine sat_of (args := [.agg (x.map bv).toArray,.int .i64 m,.int .i64 n,.slice va r.length vc,.agg (t.map bv).toArray]) (fn := Tryd.f25) (B := b25) (n := 34) (L := [(0,.agg (x.map bv).toArray),(1,.int .i64 m),(2,.int .i64 n),(3,.slice va r.length vc),(4,.agg (t.map bv).toArray)]) Tryd.func25 rfl (by kernel_rfl) rfl ?_
 intro a hF
 refine cS ?_
 refine cP 0 hF ?_
 refine SeqK.eff (k' := 1) (Does.new (v := .pointer (some ⟨h.size,0,none⟩)) (o := .cells (x.map bv).toArray 31) (by kernel_rfl)) rfl ?_
 rintro _ h1 ⟨rfl,hh⟩
 have g2 : Ext h h1 := push_ext hh
 have m3 : h1[h.size]? = some (.cells (x.map bv).toArray 31) := push_at hh
 clear hh
 have lt4 := blk_lt m3
 have zs5 := e0.size
 have hlo := e0.size
 have sepo := sep
 replace e0 := e0.ext g2
 replace sep := sep.up g2.size
 replace sep := sepo.new hlo (blk_lt m3)
 clear sepo hlo
 refine SeqK.eff (k' := 2) (Does.new (v := .pointer (some ⟨h1.size,0,none⟩)) (o := .cells (t.map bv).toArray 31) (by kernel_rfl)) rfl ?_
 rintro _ h6 ⟨rfl,hh⟩
 have g7 : Ext h1 h6 := push_ext hh
 have m8 : h6[h1.size]? = some (.cells (t.map bv).toArray 31) := push_at hh
 clear hh
 have lt9 := blk_lt m8
 have zs10 := e0.size
 have hlo := e0.size
 have sepo := sep
 replace e0 := e0.ext g7
 replace m3 := Ext.blk g7 m3
 replace sep := sep.up g7.size
 replace sep := sepo.new hlo (blk_lt m8)
 clear sepo hlo
 refine sP 3 [.bool false] ?_
 refine sD [(1,.int .i64 m),(2,.int .i64 n),(3,.slice va r.length vc),(5,pV h.size),(9,pV h1.size)] ?_
 clear hF a; intro a hF
 refine tK ?_
 refine cS ?_
 refine cS ?_
 have hm3 : m < 0 ∨ (0 ≤ m ∧ n ≤ m) ∨ ∃ a b : Nat,m = (a : Int) ∧ n = (b : Int) ∧ a < b := by
  rcases Int.lt_or_le m 0 with h0 | h0
  ·exact .inl h0
  ·rcases Int.lt_or_le m n with h1 | h1
   ·exact .inr (.inr ⟨m.toNat,n.toNat,by omega,by omega,by omega⟩)
   ·exact .inr (.inl ⟨h0,h1⟩)
 rcases hm3 with hm0 | hm0 | ⟨mi,ni,rfl,rfl,hmn⟩
 ·skip
  refine cP 1 hF ?_
  refine sP 1 [.int .i64 m] ?_
  refine s1 2 (.bool true) (.bool (decide (m < (0 : Int)))) (congrArg Value.bool (decide_eq_true (by omega))) ?_
  refine sP 7 [.bool true,undef,undef,undef,.bool true] ?_
  refine sD [(1,.int .i64 m),(2,.int .i64 n),(3,.slice va r.length vc),(5,pV h.size),(9,pV h1.size),(19,.bool true)] ?_
  clear hF a; intro a hF
  refine tK ?_
  refine cT 19 hF ?_
  refine cS ?_
  refine cP 2 hF ?_
  refine sP 1 [.bool false] ?_
  refine sD [(10,.bool false)] ?_
  clear hF a; intro a hF
  refine tK ?_
  refine cR ?_
  show retK Tryd.prog Tryd.f25 (fun v h' => v = .bool (inclB x m n r t) ∧ Ext h h') .ret a h6
  refine ret_ok [.tmp 10] [.bool false] (.bool false) rfl hF ⟨rfl,trivial⟩ rfl ?_
  exact ⟨by rw [inclB_no (by omega)] <;> rfl,e0⟩
 ·skip
  refine cP 1 hF ?_
  refine sP 1 [.int .i64 m] ?_
  refine s1 2 (.bool false) (.bool (decide (m < (0 : Int)))) (congrArg Value.bool (decide_eq_false (by omega))) ?_
  refine sP 5 [.bool false,.int .i64 m,.int .i64 n] ?_
  refine s1 6 (.bool true) (.bool (decide (n ≤ m))) (congrArg Value.bool (decide_eq_true (by omega))) ?_
  refine sP 7 [.bool true] ?_
  refine sD [(1,.int .i64 m),(2,.int .i64 n),(3,.slice va r.length vc),(5,pV h.size),(9,pV h1.size),(19,.bool true)] ?_
  clear hF a; intro a hF
  refine tK ?_
  refine cT 19 hF ?_
  refine cS ?_
  refine cP 2 hF ?_
  refine sP 1 [.bool false] ?_
  refine sD [(10,.bool false)] ?_
  clear hF a; intro a hF
  refine tK ?_
  refine cR ?_
  show retK Tryd.prog Tryd.f25 (fun v h' => v = .bool (inclB x m n r t) ∧ Ext h h') .ret a h6
  refine ret_ok [.tmp 10] [.bool false] (.bool false) rfl hF ⟨rfl,trivial⟩ rfl ?_
  exact ⟨by rw [inclB_no (by omega)] <;> rfl,e0⟩
 ·skip
  refine cP 1 hF ?_
  refine sP 1 [nV mi] ?_
  refine s1 2 (.bool false) (.bool (decide (((mi : Nat) : Int) < (0 : Int)))) (congrArg Value.bool (decide_eq_false (by omega))) ?_
  refine sP 5 [.bool false,nV mi,nV ni] ?_
  refine s1 6 (.bool false) (.bool (decide (((ni : Nat) : Int) ≤ ((mi : Nat) : Int)))) (congrArg Value.bool (decide_eq_false (by omega))) ?_
  refine sP 7 [.bool false] ?_
  refine sD [(1,nV mi),(2,nV ni),(3,.slice va r.length vc),(5,pV h.size),(9,pV h1.size),(19,.bool false)] ?_
  clear hF a; intro a hF
  refine tK ?_
  refine cF 19 hF ?_
  refine cN ?_
  refine tK ?_
  refine cS ?_
  refine cP 3 hF ?_
  refine sC 1 (.agg (x.map bv).toArray) (Calm.load (T := 31) (p := ⟨h.size,0,none⟩) (by kernel_rfl) (Loads.hash (by kernel_rfl) hx m3)) ?_
  refine sP 4 [nV mi,nV ni,.slice va r.length vc] ?_
  refine SeqK.eff (k' := 5) (Does.call (f := 42) (args := #[.agg (x.map bv).toArray,.int .i64 ((mi : Nat) : Int),.int .i64 ((ni : Nat) : Int),.slice va r.length vc]) (by kernel_rfl) (rup_all x hx va vc r.length _ mi ni r r.length rfl (Nat.le_refl _) hrl (hr.ext e0) hmn (by omega))) rfl ?_
  rintro _ h11 ⟨rfl,g⟩
  replace e0 := e0.ext g
  replace m3 := Ext.blk g m3
  replace m8 := Ext.blk g m8
  replace sep := sep.up g.size
  clear g
  refine sP 8 [.tuple #[.agg (((upV x mi ni r).1).map bv).toArray,.bool ((upV x mi ni r).2)],.agg (((upV x mi ni r).1).map bv).toArray,.bool ((upV x mi ni r).2)] ?_
  refine SeqK.eff (k' := 9) (Does.new (v := .pointer (some ⟨h11.size,0,none⟩)) (o := .cells (z32.map bv).toArray 31) (by kernel_rfl)) rfl ?_
  rintro _ h12 ⟨rfl,hh⟩
  have g13 : Ext h11 h12 := push_ext hh
  have m14 : h12[h11.size]? = some (.cells (z32.map bv).toArray 31) := push_at hh
  clear hh
  have lt15 := blk_lt m14
  have zs16 := e0.size
  have hlo := e0.size
  have sepo := sep
  replace e0 := e0.ext g13
  replace m3 := Ext.blk g13 m3
  replace m8 := Ext.blk g13 m8
  replace sep := sep.up g13.size
  replace sep := sepo.new hlo (blk_lt m14)
  clear sepo hlo
  refine SeqK.eff (k' := 10) (Does.store (b := h11.size) (off := 0) (vs := ((upV x mi ni r).1).map bv) (l := z32.map bv) (storeOp_of (by kernel_rfl) (hlm (up_len hx))) m14 (hfit rfl (up_len hx)) (ones_map _)) rfl ?_
  rintro _ h17 ⟨rfl,hh⟩
  have g18 : Grew (some (h11.size)) h12 h17 := hput_gr hh
  replace m14 : h17[h11.size]? = some (.cells (((upV x mi ni r).1).map bv).toArray 31) := hput_at (off := 0) (vs := ((upV x mi ni r).1).map bv) (l := (z32.map bv)) hh (hsplice rfl (up_len hx)) m14
  clear hh
  replace e0 := e0.grew g18 (sep.low 0 rfl)
  replace m3 := Grew.blk g18 m3 ((sep.bp 2 0))
  replace m8 := Grew.blk g18 m8 ((sep.bp 1 0))
  replace sep := sep.up g18.size
  refine sP 11 [.bool ((upV x mi ni r).2)] ?_
  refine sD [(9,pV h1.size),(11,pV h11.size),(12,.bool ((upV x mi ni r).2))] ?_
  clear hF a; intro a hF
  refine tK ?_
  refine cS ?_
  cases hok : (upV x mi ni r).2
  all_goals rw [hok] at hF
  ·skip
   refine cP 4 hF ?_
   refine sP 7 [.bool false,.bool false,undef,undef,undef,.bool false,.bool false] ?_
   refine sD [(10,.bool false)] ?_
   clear hF a; intro a hF
   refine tK ?_
   refine cR ?_
   show retK Tryd.prog Tryd.f25 (fun v h' => v = .bool (inclB x (mi : Int) (ni : Int) r t) ∧ Ext h h') .ret a h17
   refine ret_ok [.tmp 10] [.bool false] (.bool false) rfl hF ⟨rfl,trivial⟩ rfl ?_
   exact ⟨by rw [inclB_yes (by omega),hok] <;> rfl,e0⟩
  ·skip
   refine cP 4 hF ?_
   refine sP 2 [.bool true,.bool true] ?_
   refine sC 3 (.agg (((upV x mi ni r).1).map bv).toArray) (Calm.load (T := 31) (p := ⟨h11.size,0,none⟩) (by kernel_rfl) (Loads.hash (by kernel_rfl) (up_len hx) m14)) ?_
   refine sC 4 (.agg (t.map bv).toArray) (Calm.load (T := 31) (p := ⟨h1.size,0,none⟩) (by kernel_rfl) (Loads.hash (by kernel_rfl) ht m8)) ?_
   refine sC 5 (.bool (decide ((upV x mi ni r).1 = t))) ((eqH1 (l := (upV x mi ni r).1) (r := t) (n := 32) (by kernel_rfl) (up_len hx) ht) _) ?_
   refine sP 7 [.bool (decide ((upV x mi ni r).1 = t)),.bool (decide ((upV x mi ni r).1 = t))] ?_
   refine sD [(10,.bool (decide ((upV x mi ni r).1 = t)))] ?_
   clear hF a; intro a hF
   refine tK ?_
   refine cR ?_
   show retK Tryd.prog Tryd.f25 (fun v h' => v = .bool (inclB x (mi : Int) (ni : Int) r t) ∧ Ext h h') .ret a h17
   refine ret_ok [.tmp 10] [.bool (decide ((upV x mi ni r).1 = t))] (.bool (decide ((upV x mi ni r).1 = t))) rfl hF ⟨rfl,trivial⟩ rfl ?_
   exact ⟨by rw [inclB_yes (by omega),hok] <;> rfl,e0⟩
end Go.Proofs.YtkjlafiefgbjpaaDoor
