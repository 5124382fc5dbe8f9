/- Walks of proofs held: what each function computes, as a law of its calls. No condition but those that each theorem names. -/
import Derived.Test.YteinikjbaaembaaDoorVerA
import Derived.Test.YteinikjbaaembaaDoorTreeF
namespace Go.Proofs.YteinikjbaaembaaDoor
open Go Go.Lane Go.Sha
noncomputable def b33 : Code := Tryd.f33.body.getD .skip
set_option maxHeartbeats 1000000 in
theorem rtwo_step (x : Hs) (hx : x.length = 32) (va : Option Addr) (vc rl : Nat) (ih : ∀ (h : Heap) (m n : Nat) (r : List Hs) (whole : Bool) (k : Nat),r.length = k → k < rl → HR h va vc k r → 0 < m → m ≤ n → n ≤ 9223372036854775807 → Sat Tryd.prog 33 #[.int .i64 ((m : Nat) : Int),.int .i64 ((n : Nat) : Int),.agg (x.map bv).toArray,.slice va k vc,.bool whole] h (fun v h' => v = .tuple #[hv (twV x m n r whole).1,hv (twV x m n r whole).2.1,.bool (twV x m n r whole).2.2] ∧ Ext h h')) (h : Heap) (m n : Nat) (r : List Hs) (whole : Bool) (hrl : r.length = rl) (hr : HR h va vc r.length r) (hm0 : 0 < m) (hmn : m ≤ n) (hn : n ≤ 9223372036854775807) (hl : r.length ≤ 1099511627776) : Sat Tryd.prog 33 #[.int .i64 ((m : Nat) : Int),.int .i64 ((n : Nat) : Int),.agg (x.map bv).toArray,.slice va r.length vc,.bool whole] h fun v h' => v = .tuple #[hv (twV x m n r whole).1,hv (twV x m n r whole).2.1,.bool (twV x m n r whole).2.2] ∧ Ext h h' := by
 have e0 := Ext.refl h
 have sep : Sep h.size h.size [] := Sep.nil _ _
 refine sat_of (args := [.int .i64 ((m : Nat) : Int),.int .i64 ((n : Nat) : Int),.agg (x.map bv).toArray,.slice va r.length vc,.bool whole]) (fn := Tryd.f33) (B := b33) (n := 97) (L := [(0,.int .i64 ((m : Nat) : Int)),(1,.int .i64 ((n : Nat) : Int)),(2,.agg (x.map bv).toArray),(3,.slice va r.length vc),(4,.bool whole)]) Tryd.func33 rfl (by kernel_rfl) rfl ?_
 intro a hF
 refine cS ?_
 refine cP 0 hF ?_
 refine SeqK.eff (k' := 1) (Does.new (v := .pointer (some ⟨h.size,0,none⟩)) (o := .cells (x.map bv).toArray 23) (by kernel_rfl)) rfl ?_
 rintro _ h1 ⟨rfl,hh⟩
 have g2 : Ext h h1 := push_ext hh
 have m3 : h1[h.size]? = some (.cells (x.map bv).toArray 23) := push_at hh
 clear hh
 have lt4 := blk_lt m3
 have zs5 := e0.size
 have hlo := e0.size
 have sepo := sep
 replace e0 := e0.ext g2
 replace sep := sep.up g2.size
 replace sep := sepo.new hlo (blk_lt m3)
 clear sepo hlo
 refine SeqK.eff (k' := 2) (Does.new (v := .pointer (some ⟨h1.size,0,none⟩)) (o := .cells (z32.map bv).toArray 23) (by kernel_rfl)) rfl ?_
 rintro _ h6 ⟨rfl,hh⟩
 have g7 : Ext h1 h6 := push_ext hh
 have m8 : h6[h1.size]? = some (.cells (z32.map bv).toArray 23) := push_at hh
 clear hh
 have lt9 := blk_lt m8
 have zs10 := e0.size
 have hlo := e0.size
 have sepo := sep
 replace e0 := e0.ext g7
 replace m3 := Ext.blk g7 m3
 replace sep := sep.up g7.size
 replace sep := sepo.new hlo (blk_lt m8)
 clear sepo hlo
 refine SeqK.eff (k' := 3) (Does.new (v := .pointer (some ⟨h6.size,0,none⟩)) (o := .cells (z32.map bv).toArray 23) (by kernel_rfl)) rfl ?_
 rintro _ h11 ⟨rfl,hh⟩
 have g12 : Ext h6 h11 := push_ext hh
 have m13 : h11[h6.size]? = some (.cells (z32.map bv).toArray 23) := push_at hh
 clear hh
 have lt14 := blk_lt m13
 have zs15 := e0.size
 have hlo := e0.size
 have sepo := sep
 replace e0 := e0.ext g12
 replace m3 := Ext.blk g12 m3
 replace m8 := Ext.blk g12 m8
 replace sep := sep.up g12.size
 replace sep := sepo.new hlo (blk_lt m13)
 clear sepo hlo
 refine sP 4 [.bool false] ?_
 refine sD [(0,.int .i64 ((m : Nat) : Int)),(1,.int .i64 ((n : Nat) : Int)),(3,.slice va r.length vc),(4,.bool whole),(7,.pointer (some ⟨h.size,0,none⟩)),(10,.pointer (some ⟨h1.size,0,none⟩)),(11,.pointer (some ⟨h6.size,0,none⟩))] ?_
 clear hF a; intro a hF
 refine tK ?_
 refine cS ?_
 refine cS ?_
 rcases Nat.decEq m n with hne | heq <;> cases whole
 ·skip
  refine cP 1 hF ?_
  refine sP 2 [.int .i64 ((m : Nat) : Int),.int .i64 ((n : Nat) : Int)] ?_
  refine s1 3 (.bool false) (.bool (((m : Nat) : Int) == ((n : Nat) : Int))) (congrArg Value.bool (beq_eq_false_iff_ne.2 (by omega))) ?_
  refine sP 6 [.bool false,undef,.bool false] ?_
  refine sD [(0,.int .i64 ((m : Nat) : Int)),(1,.int .i64 ((n : Nat) : Int)),(3,.slice va r.length vc),(4,.bool false),(7,.pointer (some ⟨h.size,0,none⟩)),(10,.pointer (some ⟨h1.size,0,none⟩)),(11,.pointer (some ⟨h6.size,0,none⟩)),(27,.bool false)] ?_
  clear hF a; intro a hF
  refine tK ?_
  refine C.condF 27 [1,0,1,0] [1,0,1,1] (by kernel_rfl) hF (fun _ => rfl) ?_
  refine C.skip (by kernel_rfl) ?_
  refine tK ?_
  refine cS ?_
  refine cS ?_
  refine cP 3 hF ?_
  refine sP 3 [.slice va r.length vc,.int .i64 ((r.length : Nat) : Int),.bool (decide (((r.length : Nat) : Int) = (0 : Int)))] ?_
  refine sD [(0,.int .i64 ((m : Nat) : Int)),(1,.int .i64 ((n : Nat) : Int)),(3,.slice va r.length vc),(4,.bool false),(7,.pointer (some ⟨h.size,0,none⟩)),(10,.pointer (some ⟨h1.size,0,none⟩)),(11,.pointer (some ⟨h6.size,0,none⟩)),(35,.bool (decide (((r.length : Nat) : Int) = (0 : Int))))] ?_
  clear hF a; intro a hF
  refine tK ?_
  refine C.condS 35 (decide (((r.length : Nat) : Int) = (0 : Int))) [1,1,0,1,0] [1,1,0,1,1] (by kernel_rfl) hF (fun _ => rfl) (fun hc16 => ?_) (fun hc16 => ?_)
  ·skip
   replace hc16 := of_decide_eq_true hc16
   refine cS ?_
   refine cD [0,0,1,7,15] 4 mixed hF ?_
   refine mL 1 1 0 (.agg (x.map bv).toArray) (Calm.load (T := 23) (p := ⟨h.size,0,none⟩) (by kernel_rfl) (Loads.hash (by kernel_rfl) hx m3)) ?_
   refine mL 3 3 1 (.agg (x.map bv).toArray) (Calm.load (T := 23) (p := ⟨h.size,0,none⟩) (by kernel_rfl) (Loads.hash (by kernel_rfl) hx m3)) ?_
   refine SimK.eff (i := 2) (D' := 7) (X' := 5) (by kernel_rfl) (by kernel_rfl) (by kernel_rfl) [1] (by kernel_rfl) (Does.store (b := h1.size) (off := 0) (vs := x.map bv) (l := z32.map bv) (storeOp_of (by kernel_rfl) (hlm hx)) m8 (hfit rfl hx) (ones_map _)) ?_
   rintro _ h17 ⟨rfl,hh⟩
   have g18 : Grew (some (h1.size)) h11 h17 := hput_gr hh
   replace m8 : h17[h1.size]? = some (.cells (x.map bv).toArray 23) := hput_at (off := 0) (vs := x.map bv) (l := (z32.map bv)) hh (hsplice rfl hx) m8
   clear hh
   replace e0 := e0.grew g18 (sep.low 1 rfl)
   replace m3 := Grew.blk g18 m3 ((sep.bp 2 1 rfl rfl (by decide)))
   replace m13 := Grew.blk g18 m13 ((sep.bp 0 1 rfl rfl (by decide)))
   replace sep := sep.up g18.size
   refine ⟨?_,?_⟩
   ·intro j hj
    simp only [List.mem_cons,List.not_mem_nil,or_false] at hj
    subst hj
    exact goodOf (Calm.load (T := 23) (p := ⟨h.size,0,none⟩) (by kernel_rfl) (Loads.hash (by kernel_rfl) hx m3))
   refine SimK.eff0 (i := 3) (D' := 15) (X' := 15) (by kernel_rfl) (by kernel_rfl) (by kernel_rfl) (by kernel_rfl) (Does.store (b := h6.size) (off := 0) (vs := x.map bv) (l := z32.map bv) (storeOp_of (by kernel_rfl) (hlm hx)) m13 (hfit rfl hx) (ones_map _)) ?_
   rintro _ h19 ⟨rfl,hh⟩
   have g20 : Grew (some (h6.size)) h17 h19 := hput_gr hh
   replace m13 : h19[h6.size]? = some (.cells (x.map bv).toArray 23) := hput_at (off := 0) (vs := x.map bv) (l := (z32.map bv)) hh (hsplice rfl hx) m13
   clear hh
   replace e0 := e0.grew g20 (sep.low 0 rfl)
   replace m3 := Grew.blk g20 m3 ((sep.bp 2 0 rfl rfl (by decide)))
   replace m8 := Grew.blk g20 m8 ((sep.bp 1 0 rfl rfl (by decide)))
   replace sep := sep.up g20.size
   refine mP 31 [4] [.bool false] ?_
   refine mD [(10,.pointer (some ⟨h1.size,0,none⟩)),(11,.pointer (some ⟨h6.size,0,none⟩)),(12,.bool false)] ?_
   clear hF a; intro a hF
   refine tK ?_
   refine C.ret (by kernel_rfl) ?_
   show retK Tryd.prog Tryd.f33 (fun v h' => v = .tuple #[hv (twV x m n r false).1,hv (twV x m n r false).2.1,.bool (twV x m n r false).2.2] ∧ Ext h h') .ret a h19
   refine ret_ok [.cell 10 23,.cell 11 23,.tmp 12] [.agg (x.map bv).toArray,.agg (x.map bv).toArray,.bool false] (.tuple #[.agg (x.map bv).toArray,.agg (x.map bv).toArray,.bool false]) rfl hF ⟨⟨_,rfl,Loads.hash (by kernel_rfl) hx m8⟩,⟨_,rfl,Loads.hash (by kernel_rfl) hx m13⟩,rfl,trivial⟩ rfl ?_
   exact ⟨by rw [tw_none (by simp) (by omega)] <;> rfl,e0⟩
  ·skip
   replace hc16 := of_decide_eq_false hc16
   have hr0 : 0 < r.length := by omega
   obtain ⟨aa,rfl,hcap⟩ := hr.someA (by omega)
   refine C.skip (by kernel_rfl) ?_
   refine tK ?_
   refine cS ?_
   refine cP 5 hF ?_
   refine sP 3 [.slice (some aa) r.length vc,.slice (some aa) r.length vc,.int .i64 ((r.length : Nat) : Int)] ?_
   refine s1 4 (.int .i64 ((r.length - 1 : Nat) : Int)) (.int .i64 (IntKind.i64.wrap (((r.length : Nat) : Int) - 1))) (congrArg (Value.int .i64) (w64' (by omega) (by omega) (by omega))) ?_
   refine sC 5 (.pointer (some (Addr.add aa ((r.length - 1) * 32)))) ((Calm.indexA (a := aa) (len := r.length) (sz := 32) (k := ((r.length - 1 : Nat) : Int)) (r.length - 1) ((r.length - 1) * 32) (by kernel_rfl) rfl (by omega) (by omega)) _) ?_
   refine sC 6 (.agg ((r.getD (r.length - 1) []).map bv).toArray) (Calm.load (T := 23) (p := (Addr.add aa ((r.length - 1) * 32))) (by kernel_rfl) (HR.loads (k := (r.length - 1)) (q := (r.length - 1) * 32) (hr.ext e0) (by kernel_rfl) (by omega) (by omega))) ?_
   refine SeqK.eff (k' := 7) (Does.new (v := .pointer (some ⟨h11.size,0,none⟩)) (o := .cells (z32.map bv).toArray 23) (by kernel_rfl)) rfl ?_
   rintro _ h21 ⟨rfl,hh⟩
   have g22 : Ext h11 h21 := push_ext hh
   have m23 : h21[h11.size]? = some (.cells (z32.map bv).toArray 23) := push_at hh
   clear hh
   have lt24 := blk_lt m23
   have zs25 := e0.size
   have hlo := e0.size
   have sepo := sep
   replace e0 := e0.ext g22
   replace m3 := Ext.blk g22 m3
   replace m8 := Ext.blk g22 m8
   replace m13 := Ext.blk g22 m13
   replace sep := sep.up g22.size
   replace sep := sepo.new hlo (blk_lt m23)
   clear sepo hlo
   refine SeqK.eff (k' := 8) (Does.store (b := h11.size) (off := 0) (vs := (r.getD (r.length - 1) []).map bv) (l := z32.map bv) (storeOp_of (by kernel_rfl) (hlm (hr.2.1.get (k := (r.length - 1)) (by rw [hr.2.2]; omega)))) m23 (hfit rfl (hr.2.1.get (k := (r.length - 1)) (by rw [hr.2.2]; omega))) (ones_map _)) rfl ?_
   rintro _ h26 ⟨rfl,hh⟩
   have g27 : Grew (some (h11.size)) h21 h26 := hput_gr hh
   replace m23 : h26[h11.size]? = some (.cells ((r.getD (r.length - 1) []).map bv).toArray 23) := hput_at (off := 0) (vs := (r.getD (r.length - 1) []).map bv) (l := (z32.map bv)) hh (hsplice rfl (hr.2.1.get (k := (r.length - 1)) (by rw [hr.2.2]; omega))) m23
   clear hh
   replace e0 := e0.grew g27 (sep.low 0 rfl)
   replace m3 := Grew.blk g27 m3 ((sep.bp 3 0 rfl rfl (by decide)))
   replace m8 := Grew.blk g27 m8 ((sep.bp 2 0 rfl rfl (by decide)))
   replace m13 := Grew.blk g27 m13 ((sep.bp 1 0 rfl rfl (by decide)))
   replace sep := sep.up g27.size
   refine sD [(0,.int .i64 ((m : Nat) : Int)),(1,.int .i64 ((n : Nat) : Int)),(3,.slice (some aa) r.length vc),(4,.bool false),(7,.pointer (some ⟨h.size,0,none⟩)),(10,.pointer (some ⟨h1.size,0,none⟩)),(11,.pointer (some ⟨h6.size,0,none⟩)),(13,.pointer (some ⟨h11.size,0,none⟩))] ?_
   clear hF a; intro a hF
   refine tK ?_
   refine cS ?_
   refine cP 6 hF ?_
   refine sP 3 [.slice (some aa) r.length vc,.slice (some aa) r.length vc,.int .i64 ((r.length : Nat) : Int)] ?_
   refine s1 4 (.int .i64 ((r.length - 1 : Nat) : Int)) (.int .i64 (IntKind.i64.wrap (((r.length : Nat) : Int) - 1))) (congrArg (Value.int .i64) (w64' (by omega) (by omega) (by omega))) ?_
   refine sC 5 (.slice (some aa) (r.length - 1) vc) ((fun h => Calm.sliceO (a := (some aa)) (len := r.length) (cap := vc) (sz := 32) (x := (some aa)) 0 (r.length - 1) vc (r.length - 1) vc (by kernel_rfl) (.inl ⟨rfl,rfl⟩) (.inr rfl) (.inl ⟨rfl,rfl⟩) (by omega) (by omega) (opt_add0 _ 32) (by first | rfl | omega) (by first | rfl | omega) h) _) ?_
   refine sP 6 [.slice (some aa) (r.length - 1) vc] ?_
   refine sD [(0,.int .i64 ((m : Nat) : Int)),(1,.int .i64 ((n : Nat) : Int)),(4,.bool false),(7,.pointer (some ⟨h.size,0,none⟩)),(10,.pointer (some ⟨h1.size,0,none⟩)),(11,.pointer (some ⟨h6.size,0,none⟩)),(13,.pointer (some ⟨h11.size,0,none⟩)),(14,.slice (some aa) (r.length - 1) vc)] ?_
   clear hF a; intro a hF
   refine tK ?_
   refine cS ?_
   refine cS ?_
   refine cP 7 hF ?_
   refine sP 2 [.int .i64 ((m : Nat) : Int),.int .i64 ((n : Nat) : Int)] ?_
   refine s1 3 (.bool false) (.bool (((m : Nat) : Int) == ((n : Nat) : Int))) (congrArg Value.bool (beq_eq_false_iff_ne.2 (by omega))) ?_
   refine sD [(0,.int .i64 ((m : Nat) : Int)),(1,.int .i64 ((n : Nat) : Int)),(4,.bool false),(7,.pointer (some ⟨h.size,0,none⟩)),(10,.pointer (some ⟨h1.size,0,none⟩)),(11,.pointer (some ⟨h6.size,0,none⟩)),(13,.pointer (some ⟨h11.size,0,none⟩)),(14,.slice (some aa) (r.length - 1) vc),(51,.bool false)] ?_
   clear hF a; intro a hF
   refine tK ?_
   refine C.condF 51 [1,1,1,1,1,0,1,0] [1,1,1,1,1,0,1,1] (by kernel_rfl) hF (fun _ => rfl) ?_
   refine C.skip (by kernel_rfl) ?_
   refine tK ?_
   refine cS ?_
   refine cP 9 hF ?_
   refine sP 1 [.int .i64 ((n : Nat) : Int)] ?_
   refine sC 2 (.int .i64 ((half n : Nat) : Int)) (Does.call (f := 49) (args := #[.int .i64 ((n : Nat) : Int)]) (by kernel_rfl) (below_sat _ n (by omega) (by omega))) ?_
   refine sP 3 [.int .i64 ((half n : Nat) : Int)] ?_
   refine sD [(0,.int .i64 ((m : Nat) : Int)),(1,.int .i64 ((n : Nat) : Int)),(4,.bool false),(7,.pointer (some ⟨h.size,0,none⟩)),(10,.pointer (some ⟨h1.size,0,none⟩)),(11,.pointer (some ⟨h6.size,0,none⟩)),(13,.pointer (some ⟨h11.size,0,none⟩)),(14,.slice (some aa) (r.length - 1) vc),(15,.int .i64 ((half n : Nat) : Int))] ?_
   clear hF a; intro a hF
   refine tK ?_
   refine cS ?_
   refine cS ?_
   refine cP 10 hF ?_
   refine sP 3 [.int .i64 ((m : Nat) : Int),.int .i64 ((half n : Nat) : Int),.bool (decide (((m : Nat) : Int) ≤ ((half n : Nat) : Int)))] ?_
   refine sD [(0,.int .i64 ((m : Nat) : Int)),(1,.int .i64 ((n : Nat) : Int)),(4,.bool false),(7,.pointer (some ⟨h.size,0,none⟩)),(10,.pointer (some ⟨h1.size,0,none⟩)),(11,.pointer (some ⟨h6.size,0,none⟩)),(13,.pointer (some ⟨h11.size,0,none⟩)),(14,.slice (some aa) (r.length - 1) vc),(15,.int .i64 ((half n : Nat) : Int)),(61,.bool (decide (((m : Nat) : Int) ≤ ((half n : Nat) : Int))))] ?_
   clear hF a; intro a hF
   refine tK ?_
   refine C.condS 61 (decide (((m : Nat) : Int) ≤ ((half n : Nat) : Int))) [1,1,1,1,1,1,1,0,1,0] [1,1,1,1,1,1,1,0,1,1] (by kernel_rfl) hF (fun _ => rfl) (fun hc28 => ?_) (fun hc28 => ?_)
   ·skip
    replace hc28 := of_decide_eq_true hc28
    refine cS ?_
    refine cP 11 hF ?_
    refine sP 2 [.int .i64 ((m : Nat) : Int),.int .i64 ((half n : Nat) : Int)] ?_
    refine sC 3 (.agg (x.map bv).toArray) (Calm.load (T := 23) (p := ⟨h.size,0,none⟩) (by kernel_rfl) (Loads.hash (by kernel_rfl) hx m3)) ?_
    refine sP 5 [.slice (some aa) (r.length - 1) vc,.bool false] ?_
    have hhl := half_lt (n := n) (by omega); have hhp := half_pos n
    refine SeqK.eff (k' := 6) (Does.call (f := 33) (args := #[.int .i64 ((m : Nat) : Int),.int .i64 ((half n : Nat) : Int),.agg (x.map bv).toArray,.slice (some aa) (r.length - 1) vc,.bool false]) (by kernel_rfl) (ih _ m (half n) (initH r) false (r.length - 1) (initH_len r) (by omega) ((hr.ext e0).take (by omega)) (by omega) (by omega) (by omega))) rfl ?_
    rintro _ h29 ⟨rfl,g⟩
    replace e0 := e0.ext g
    replace m3 := Ext.blk g m3
    replace m8 := Ext.blk g m8
    replace m13 := Ext.blk g m13
    replace m23 := Ext.blk g m23
    replace sep := sep.up g.size
    clear g
    refine sP 10 [.tuple #[.agg (((twV x m (half n) (initH r) false).1).map bv).toArray,.agg (((twV x m (half n) (initH r) false).2.1).map bv).toArray,.bool ((twV x m (half n) (initH r) false).2.2)],.agg (((twV x m (half n) (initH r) false).1).map bv).toArray,.agg (((twV x m (half n) (initH r) false).2.1).map bv).toArray,.bool ((twV x m (half n) (initH r) false).2.2)] ?_
    refine SeqK.eff (k' := 11) (Does.new (v := .pointer (some ⟨h29.size,0,none⟩)) (o := .cells (z32.map bv).toArray 23) (by kernel_rfl)) rfl ?_
    rintro _ h30 ⟨rfl,hh⟩
    have g31 : Ext h29 h30 := push_ext hh
    have m32 : h30[h29.size]? = some (.cells (z32.map bv).toArray 23) := push_at hh
    clear hh
    have lt33 := blk_lt m32
    have zs34 := e0.size
    have hlo := e0.size
    have sepo := sep
    replace e0 := e0.ext g31
    replace m3 := Ext.blk g31 m3
    replace m8 := Ext.blk g31 m8
    replace m13 := Ext.blk g31 m13
    replace m23 := Ext.blk g31 m23
    replace sep := sep.up g31.size
    replace sep := sepo.new hlo (blk_lt m32)
    clear sepo hlo
    refine SeqK.eff (k' := 12) (Does.new (v := .pointer (some ⟨h30.size,0,none⟩)) (o := .cells (z32.map bv).toArray 23) (by kernel_rfl)) rfl ?_
    rintro _ h35 ⟨rfl,hh⟩
    have g36 : Ext h30 h35 := push_ext hh
    have m37 : h35[h30.size]? = some (.cells (z32.map bv).toArray 23) := push_at hh
    clear hh
    have lt38 := blk_lt m37
    have zs39 := e0.size
    have hlo := e0.size
    have sepo := sep
    replace e0 := e0.ext g36
    replace m3 := Ext.blk g36 m3
    replace m8 := Ext.blk g36 m8
    replace m13 := Ext.blk g36 m13
    replace m23 := Ext.blk g36 m23
    replace m32 := Ext.blk g36 m32
    replace sep := sep.up g36.size
    replace sep := sepo.new hlo (blk_lt m37)
    clear sepo hlo
    refine SeqK.eff (k' := 13) (Does.store (b := h29.size) (off := 0) (vs := ((twV x m (half n) (initH r) false).1).map bv) (l := z32.map bv) (storeOp_of (by kernel_rfl) (hlm (tw_len _ (Nat.le_refl _) hx (init_32 hr.2.1)).1)) m32 (hfit rfl (tw_len _ (Nat.le_refl _) hx (init_32 hr.2.1)).1) (ones_map _)) rfl ?_
    rintro _ h40 ⟨rfl,hh⟩
    have g41 : Grew (some (h29.size)) h35 h40 := hput_gr hh
    replace m32 : h40[h29.size]? = some (.cells (((twV x m (half n) (initH r) false).1).map bv).toArray 23) := hput_at (off := 0) (vs := ((twV x m (half n) (initH r) false).1).map bv) (l := (z32.map bv)) hh (hsplice rfl (tw_len _ (Nat.le_refl _) hx (init_32 hr.2.1)).1) m32
    clear hh
    replace e0 := e0.grew g41 (sep.low 1 rfl)
    replace m3 := Grew.blk g41 m3 ((sep.bp 5 1 rfl rfl (by decide)))
    replace m8 := Grew.blk g41 m8 ((sep.bp 4 1 rfl rfl (by decide)))
    replace m13 := Grew.blk g41 m13 ((sep.bp 3 1 rfl rfl (by decide)))
    replace m23 := Grew.blk g41 m23 ((sep.bp 2 1 rfl rfl (by decide)))
    replace m37 := Grew.blk g41 m37 ((sep.bp 0 1 rfl rfl (by decide)))
    replace sep := sep.up g41.size
    refine SeqK.eff (k' := 14) (Does.store (b := h30.size) (off := 0) (vs := ((twV x m (half n) (initH r) false).2.1).map bv) (l := z32.map bv) (storeOp_of (by kernel_rfl) (hlm (tw_len _ (Nat.le_refl _) hx (init_32 hr.2.1)).2)) m37 (hfit rfl (tw_len _ (Nat.le_refl _) hx (init_32 hr.2.1)).2) (ones_map _)) rfl ?_
    rintro _ h42 ⟨rfl,hh⟩
    have g43 : Grew (some (h30.size)) h40 h42 := hput_gr hh
    replace m37 : h42[h30.size]? = some (.cells (((twV x m (half n) (initH r) false).2.1).map bv).toArray 23) := hput_at (off := 0) (vs := ((twV x m (half n) (initH r) false).2.1).map bv) (l := (z32.map bv)) hh (hsplice rfl (tw_len _ (Nat.le_refl _) hx (init_32 hr.2.1)).2) m37
    clear hh
    replace e0 := e0.grew g43 (sep.low 0 rfl)
    replace m3 := Grew.blk g43 m3 ((sep.bp 5 0 rfl rfl (by decide)))
    replace m8 := Grew.blk g43 m8 ((sep.bp 4 0 rfl rfl (by decide)))
    replace m13 := Grew.blk g43 m13 ((sep.bp 3 0 rfl rfl (by decide)))
    replace m23 := Grew.blk g43 m23 ((sep.bp 2 0 rfl rfl (by decide)))
    replace m32 := Grew.blk g43 m32 ((sep.bp 1 0 rfl rfl (by decide)))
    replace sep := sep.up g43.size
    refine sP 15 [.bool ((twV x m (half n) (initH r) false).2.2)] ?_
    refine sD [(10,.pointer (some ⟨h1.size,0,none⟩)),(11,.pointer (some ⟨h6.size,0,none⟩)),(13,.pointer (some ⟨h11.size,0,none⟩)),(16,.pointer (some ⟨h29.size,0,none⟩)),(17,.pointer (some ⟨h30.size,0,none⟩)),(18,.bool ((twV x m (half n) (initH r) false).2.2))] ?_
    clear hF a; intro a hF
    refine tK ?_
    refine cS ?_
    refine cD [0,0,0,6,0,15,47,127] 12 mixed hF ?_
    refine mL 1 1 0 (.agg (((twV x m (half n) (initH r) false).1).map bv).toArray) (Calm.load (T := 23) (p := ⟨h29.size,0,none⟩) (by kernel_rfl) (Loads.hash (by kernel_rfl) (tw_len _ (Nat.le_refl _) hx (init_32 hr.2.1)).1 m32)) ?_
    refine mL 3 3 1 (.agg (((twV x m (half n) (initH r) false).2.1).map bv).toArray) (Calm.load (T := 23) (p := ⟨h30.size,0,none⟩) (by kernel_rfl) (Loads.hash (by kernel_rfl) (tw_len _ (Nat.le_refl _) hx (init_32 hr.2.1)).2 m37)) ?_
    refine mL 7 7 2 (.agg ((r.getD (r.length - 1) []).map bv).toArray) (Calm.load (T := 23) (p := ⟨h11.size,0,none⟩) (by kernel_rfl) (Loads.hash (by kernel_rfl) (hr.2.1.get (k := (r.length - 1)) (by rw [hr.2.2]; omega)) m23)) ?_
    refine mP 23 [4] [.bool ((twV x m (half n) (initH r) false).2.2)] ?_
    refine SimK.eff (i := 3) (D' := 31) (X' := 14) (by kernel_rfl) (by kernel_rfl) (by kernel_rfl) [0] (by kernel_rfl) (Does.call (f := 37) (args := #[.agg (((twV x m (half n) (initH r) false).2.1).map bv).toArray,.agg ((r.getD (r.length - 1) []).map bv).toArray]) (by kernel_rfl) (rnode_sat _ ((twV x m (half n) (initH r) false).2.1) (r.getD (r.length - 1) []) (tw_len _ (Nat.le_refl _) hx (init_32 hr.2.1)).2 (hr.2.1.get (k := (r.length - 1)) (by rw [hr.2.2]; omega)))) ?_
    rintro _ h44 ⟨rfl,g⟩
    replace e0 := e0.ext g
    replace m3 := Ext.blk g m3
    replace m8 := Ext.blk g m8
    replace m13 := Ext.blk g m13
    replace m23 := Ext.blk g m23
    replace m32 := Ext.blk g m32
    replace m37 := Ext.blk g m37
    replace sep := sep.up g.size
    refine ⟨?_,?_⟩
    ·intro j hj
     simp only [List.mem_cons,List.not_mem_nil,or_false] at hj
     subst hj
     exact goodOf (Calm.load (T := 23) (p := ⟨h29.size,0,none⟩) (by kernel_rfl) (Loads.hash (by kernel_rfl) (tw_len _ (Nat.le_refl _) hx (init_32 hr.2.1)).1 m32))
    clear g
    refine SimK.eff0 (i := 5) (D' := 63) (X' := 47) (by kernel_rfl) (by kernel_rfl) (by kernel_rfl) (by kernel_rfl) (Does.store (b := h1.size) (off := 0) (vs := ((twV x m (half n) (initH r) false).1).map bv) (l := z32.map bv) (storeOp_of (by kernel_rfl) (hlm (tw_len _ (Nat.le_refl _) hx (init_32 hr.2.1)).1)) m8 (hfit rfl (tw_len _ (Nat.le_refl _) hx (init_32 hr.2.1)).1) (ones_map _)) ?_
    rintro _ h45 ⟨rfl,hh⟩
    have g46 : Grew (some (h1.size)) h44 h45 := hput_gr hh
    replace m8 : h45[h1.size]? = some (.cells (((twV x m (half n) (initH r) false).1).map bv).toArray 23) := hput_at (off := 0) (vs := ((twV x m (half n) (initH r) false).1).map bv) (l := (z32.map bv)) hh (hsplice rfl (tw_len _ (Nat.le_refl _) hx (init_32 hr.2.1)).1) m8
    clear hh
    replace e0 := e0.grew g46 (sep.low 4 rfl)
    replace m3 := Grew.blk g46 m3 ((sep.bp 5 4 rfl rfl (by decide)))
    replace m13 := Grew.blk g46 m13 ((sep.bp 3 4 rfl rfl (by decide)))
    replace m23 := Grew.blk g46 m23 ((sep.bp 2 4 rfl rfl (by decide)))
    replace m32 := Grew.blk g46 m32 ((sep.bp 1 4 rfl rfl (by decide)))
    replace m37 := Grew.blk g46 m37 ((sep.bp 0 4 rfl rfl (by decide)))
    replace sep := sep.up g46.size
    refine SimK.eff0 (i := 6) (D' := 127) (X' := 111) (by kernel_rfl) (by kernel_rfl) (by kernel_rfl) (by kernel_rfl) (Does.store (b := h6.size) (off := 0) (vs := (nodeH ((twV x m (half n) (initH r) false).2.1) (r.getD (r.length - 1) [])).map bv) (l := z32.map bv) (storeOp_of (by kernel_rfl) (hlm (node_len _ _))) m13 (hfit rfl (node_len _ _)) (ones_map _)) ?_
    rintro _ h47 ⟨rfl,hh⟩
    have g48 : Grew (some (h6.size)) h45 h47 := hput_gr hh
    replace m13 : h47[h6.size]? = some (.cells ((nodeH ((twV x m (half n) (initH r) false).2.1) (r.getD (r.length - 1) [])).map bv).toArray 23) := hput_at (off := 0) (vs := (nodeH ((twV x m (half n) (initH r) false).2.1) (r.getD (r.length - 1) [])).map bv) (l := (z32.map bv)) hh (hsplice rfl (node_len _ _)) m13
    clear hh
    replace e0 := e0.grew g48 (sep.low 3 rfl)
    replace m3 := Grew.blk g48 m3 ((sep.bp 5 3 rfl rfl (by decide)))
    replace m8 := Grew.blk g48 m8 ((sep.bp 4 3 rfl rfl (by decide)))
    replace m23 := Grew.blk g48 m23 ((sep.bp 2 3 rfl rfl (by decide)))
    replace m32 := Grew.blk g48 m32 ((sep.bp 1 3 rfl rfl (by decide)))
    replace m37 := Grew.blk g48 m37 ((sep.bp 0 3 rfl rfl (by decide)))
    replace sep := sep.up g48.size
    refine mP 255 [7] [.bool ((twV x m (half n) (initH r) false).2.2)] ?_
    refine mD [(10,.pointer (some ⟨h1.size,0,none⟩)),(11,.pointer (some ⟨h6.size,0,none⟩)),(12,.bool ((twV x m (half n) (initH r) false).2.2))] ?_
    clear hF a; intro a hF
    refine tK ?_
    refine C.ret (by kernel_rfl) ?_
    show retK Tryd.prog Tryd.f33 (fun v h' => v = .tuple #[hv (twV x m n r false).1,hv (twV x m n r false).2.1,.bool (twV x m n r false).2.2] ∧ Ext h h') .ret a h47
    refine ret_ok [.cell 10 23,.cell 11 23,.tmp 12] [.agg (((twV x m (half n) (initH r) false).1).map bv).toArray,.agg ((nodeH ((twV x m (half n) (initH r) false).2.1) (r.getD (r.length - 1) [])).map bv).toArray,.bool ((twV x m (half n) (initH r) false).2.2)] (.tuple #[.agg (((twV x m (half n) (initH r) false).1).map bv).toArray,.agg ((nodeH ((twV x m (half n) (initH r) false).2.1) (r.getD (r.length - 1) [])).map bv).toArray,.bool ((twV x m (half n) (initH r) false).2.2)]) rfl hF ⟨⟨_,rfl,Loads.hash (by kernel_rfl) (tw_len _ (Nat.le_refl _) hx (init_32 hr.2.1)).1 m8⟩,⟨_,rfl,Loads.hash (by kernel_rfl) (node_len _ _) m13⟩,rfl,trivial⟩ rfl ?_
    exact ⟨by rw [tw_lo hr0 (by omega) (by omega)] <;> rfl,e0⟩
   ·skip
    replace hc28 := of_decide_eq_false hc28
    refine C.skip (by kernel_rfl) ?_
    refine tK ?_
    refine cS ?_
    refine cP 13 hF ?_
    refine sP 2 [.int .i64 ((m : Nat) : Int),.int .i64 ((half n : Nat) : Int)] ?_
    refine s1 3 (.int .i64 ((m - (half n) : Nat) : Int)) (.int .i64 (IntKind.i64.wrap (((m : Nat) : Int) - ((half n : Nat) : Int)))) (congrArg (Value.int .i64) (w64' (by omega) (by omega) (by omega))) ?_
    refine sP 5 [.int .i64 ((n : Nat) : Int),.int .i64 ((half n : Nat) : Int)] ?_
    refine s1 6 (.int .i64 ((n - (half n) : Nat) : Int)) (.int .i64 (IntKind.i64.wrap (((n : Nat) : Int) - ((half n : Nat) : Int)))) (congrArg (Value.int .i64) (w64' (by omega) (by omega) (by omega))) ?_
    refine sC 7 (.agg (x.map bv).toArray) (Calm.load (T := 23) (p := ⟨h.size,0,none⟩) (by kernel_rfl) (Loads.hash (by kernel_rfl) hx m3)) ?_
    refine sP 8 [.slice (some aa) (r.length - 1) vc] ?_
    have hhl := half_lt (n := n) (by omega); have hhp := half_pos n
    refine SeqK.eff (k' := 9) (Does.call (f := 33) (args := #[.int .i64 ((m - (half n) : Nat) : Int),.int .i64 ((n - (half n) : Nat) : Int),.agg (x.map bv).toArray,.slice (some aa) (r.length - 1) vc,.bool false]) (by kernel_rfl) (ih _ (m - half n) (n - half n) (initH r) false (r.length - 1) (initH_len r) (by omega) ((hr.ext e0).take (by omega)) (by omega) (by omega) (by omega))) rfl ?_
    rintro _ h49 ⟨rfl,g⟩
    replace e0 := e0.ext g
    replace m3 := Ext.blk g m3
    replace m8 := Ext.blk g m8
    replace m13 := Ext.blk g m13
    replace m23 := Ext.blk g m23
    replace sep := sep.up g.size
    clear g
    refine sP 13 [.tuple #[.agg (((twV x (m - half n) (n - half n) (initH r) false).1).map bv).toArray,.agg (((twV x (m - half n) (n - half n) (initH r) false).2.1).map bv).toArray,.bool ((twV x (m - half n) (n - half n) (initH r) false).2.2)],.agg (((twV x (m - half n) (n - half n) (initH r) false).1).map bv).toArray,.agg (((twV x (m - half n) (n - half n) (initH r) false).2.1).map bv).toArray,.bool ((twV x (m - half n) (n - half n) (initH r) false).2.2)] ?_
    refine SeqK.eff (k' := 14) (Does.new (v := .pointer (some ⟨h49.size,0,none⟩)) (o := .cells (z32.map bv).toArray 23) (by kernel_rfl)) rfl ?_
    rintro _ h50 ⟨rfl,hh⟩
    have g51 : Ext h49 h50 := push_ext hh
    have m52 : h50[h49.size]? = some (.cells (z32.map bv).toArray 23) := push_at hh
    clear hh
    have lt53 := blk_lt m52
    have zs54 := e0.size
    have hlo := e0.size
    have sepo := sep
    replace e0 := e0.ext g51
    replace m3 := Ext.blk g51 m3
    replace m8 := Ext.blk g51 m8
    replace m13 := Ext.blk g51 m13
    replace m23 := Ext.blk g51 m23
    replace sep := sep.up g51.size
    replace sep := sepo.new hlo (blk_lt m52)
    clear sepo hlo
    refine SeqK.eff (k' := 15) (Does.new (v := .pointer (some ⟨h50.size,0,none⟩)) (o := .cells (z32.map bv).toArray 23) (by kernel_rfl)) rfl ?_
    rintro _ h55 ⟨rfl,hh⟩
    have g56 : Ext h50 h55 := push_ext hh
    have m57 : h55[h50.size]? = some (.cells (z32.map bv).toArray 23) := push_at hh
    clear hh
    have lt58 := blk_lt m57
    have zs59 := e0.size
    have hlo := e0.size
    have sepo := sep
    replace e0 := e0.ext g56
    replace m3 := Ext.blk g56 m3
    replace m8 := Ext.blk g56 m8
    replace m13 := Ext.blk g56 m13
    replace m23 := Ext.blk g56 m23
    replace m52 := Ext.blk g56 m52
    replace sep := sep.up g56.size
    replace sep := sepo.new hlo (blk_lt m57)
    clear sepo hlo
    refine SeqK.eff (k' := 16) (Does.store (b := h49.size) (off := 0) (vs := ((twV x (m - half n) (n - half n) (initH r) false).1).map bv) (l := z32.map bv) (storeOp_of (by kernel_rfl) (hlm (tw_len _ (Nat.le_refl _) hx (init_32 hr.2.1)).1)) m52 (hfit rfl (tw_len _ (Nat.le_refl _) hx (init_32 hr.2.1)).1) (ones_map _)) rfl ?_
    rintro _ h60 ⟨rfl,hh⟩
    have g61 : Grew (some (h49.size)) h55 h60 := hput_gr hh
    replace m52 : h60[h49.size]? = some (.cells (((twV x (m - half n) (n - half n) (initH r) false).1).map bv).toArray 23) := hput_at (off := 0) (vs := ((twV x (m - half n) (n - half n) (initH r) false).1).map bv) (l := (z32.map bv)) hh (hsplice rfl (tw_len _ (Nat.le_refl _) hx (init_32 hr.2.1)).1) m52
    clear hh
    replace e0 := e0.grew g61 (sep.low 1 rfl)
    replace m3 := Grew.blk g61 m3 ((sep.bp 5 1 rfl rfl (by decide)))
    replace m8 := Grew.blk g61 m8 ((sep.bp 4 1 rfl rfl (by decide)))
    replace m13 := Grew.blk g61 m13 ((sep.bp 3 1 rfl rfl (by decide)))
    replace m23 := Grew.blk g61 m23 ((sep.bp 2 1 rfl rfl (by decide)))
    replace m57 := Grew.blk g61 m57 ((sep.bp 0 1 rfl rfl (by decide)))
    replace sep := sep.up g61.size
    refine SeqK.eff (k' := 17) (Does.store (b := h50.size) (off := 0) (vs := ((twV x (m - half n) (n - half n) (initH r) false).2.1).map bv) (l := z32.map bv) (storeOp_of (by kernel_rfl) (hlm (tw_len _ (Nat.le_refl _) hx (init_32 hr.2.1)).2)) m57 (hfit rfl (tw_len _ (Nat.le_refl _) hx (init_32 hr.2.1)).2) (ones_map _)) rfl ?_
    rintro _ h62 ⟨rfl,hh⟩
    have g63 : Grew (some (h50.size)) h60 h62 := hput_gr hh
    replace m57 : h62[h50.size]? = some (.cells (((twV x (m - half n) (n - half n) (initH r) false).2.1).map bv).toArray 23) := hput_at (off := 0) (vs := ((twV x (m - half n) (n - half n) (initH r) false).2.1).map bv) (l := (z32.map bv)) hh (hsplice rfl (tw_len _ (Nat.le_refl _) hx (init_32 hr.2.1)).2) m57
    clear hh
    replace e0 := e0.grew g63 (sep.low 0 rfl)
    replace m3 := Grew.blk g63 m3 ((sep.bp 5 0 rfl rfl (by decide)))
    replace m8 := Grew.blk g63 m8 ((sep.bp 4 0 rfl rfl (by decide)))
    replace m13 := Grew.blk g63 m13 ((sep.bp 3 0 rfl rfl (by decide)))
    replace m23 := Grew.blk g63 m23 ((sep.bp 2 0 rfl rfl (by decide)))
    replace m52 := Grew.blk g63 m52 ((sep.bp 1 0 rfl rfl (by decide)))
    replace sep := sep.up g63.size
    refine sP 18 [.bool ((twV x (m - half n) (n - half n) (initH r) false).2.2)] ?_
    refine sD [(10,.pointer (some ⟨h1.size,0,none⟩)),(11,.pointer (some ⟨h6.size,0,none⟩)),(13,.pointer (some ⟨h11.size,0,none⟩)),(19,.pointer (some ⟨h49.size,0,none⟩)),(20,.pointer (some ⟨h50.size,0,none⟩)),(21,.bool ((twV x (m - half n) (n - half n) (initH r) false).2.2))] ?_
    clear hF a; intro a hF
    refine tK ?_
    refine cS ?_
    refine cD [0,0,3,0,0,31,0,63,191,511] 14 mixed hF ?_
    refine mL 1 1 0 (.agg ((r.getD (r.length - 1) []).map bv).toArray) (Calm.load (T := 23) (p := ⟨h11.size,0,none⟩) (by kernel_rfl) (Loads.hash (by kernel_rfl) (hr.2.1.get (k := (r.length - 1)) (by rw [hr.2.2]; omega)) m23)) ?_
    refine mL 3 3 1 (.agg (((twV x (m - half n) (n - half n) (initH r) false).1).map bv).toArray) (Calm.load (T := 23) (p := ⟨h49.size,0,none⟩) (by kernel_rfl) (Loads.hash (by kernel_rfl) (tw_len _ (Nat.le_refl _) hx (init_32 hr.2.1)).1 m52)) ?_
    refine mL 11 11 3 (.agg ((r.getD (r.length - 1) []).map bv).toArray) (Calm.load (T := 23) (p := ⟨h11.size,0,none⟩) (by kernel_rfl) (Loads.hash (by kernel_rfl) (hr.2.1.get (k := (r.length - 1)) (by rw [hr.2.2]; omega)) m23)) ?_
    refine mL 27 27 4 (.agg (((twV x (m - half n) (n - half n) (initH r) false).2.1).map bv).toArray) (Calm.load (T := 23) (p := ⟨h50.size,0,none⟩) (by kernel_rfl) (Loads.hash (by kernel_rfl) (tw_len _ (Nat.le_refl _) hx (init_32 hr.2.1)).2 m57)) ?_
    refine mP 91 [6] [.bool ((twV x (m - half n) (n - half n) (initH r) false).2.2)] ?_
    refine SimK.eff (i := 2) (D' := 95) (X' := 7) (by kernel_rfl) (by kernel_rfl) (by kernel_rfl) [3,4] (by kernel_rfl) (Does.call (f := 37) (args := #[.agg ((r.getD (r.length - 1) []).map bv).toArray,.agg (((twV x (m - half n) (n - half n) (initH r) false).1).map bv).toArray]) (by kernel_rfl) (rnode_sat _ (r.getD (r.length - 1) []) ((twV x (m - half n) (n - half n) (initH r) false).1) (hr.2.1.get (k := (r.length - 1)) (by rw [hr.2.2]; omega)) (tw_len _ (Nat.le_refl _) hx (init_32 hr.2.1)).1)) ?_
    rintro _ h64 ⟨rfl,g⟩
    replace e0 := e0.ext g
    replace m3 := Ext.blk g m3
    replace m8 := Ext.blk g m8
    replace m13 := Ext.blk g m13
    replace m23 := Ext.blk g m23
    replace m52 := Ext.blk g m52
    replace m57 := Ext.blk g m57
    replace sep := sep.up g.size
    refine ⟨?_,?_⟩
    ·intro j hj
     simp only [List.mem_cons,List.not_mem_nil,or_false] at hj
     rcases hj with rfl | rfl
     ·exact goodOf (Calm.load (T := 23) (p := ⟨h11.size,0,none⟩) (by kernel_rfl) (Loads.hash (by kernel_rfl) (hr.2.1.get (k := (r.length - 1)) (by rw [hr.2.2]; omega)) m23))
     ·exact goodOf (Calm.load (T := 23) (p := ⟨h50.size,0,none⟩) (by kernel_rfl) (Loads.hash (by kernel_rfl) (tw_len _ (Nat.le_refl _) hx (init_32 hr.2.1)).2 m57))
    clear g
    refine SimK.eff0 (i := 5) (D' := 127) (X' := 63) (by kernel_rfl) (by kernel_rfl) (by kernel_rfl) (by kernel_rfl) (Does.call (f := 37) (args := #[.agg ((r.getD (r.length - 1) []).map bv).toArray,.agg (((twV x (m - half n) (n - half n) (initH r) false).2.1).map bv).toArray]) (by kernel_rfl) (rnode_sat _ (r.getD (r.length - 1) []) ((twV x (m - half n) (n - half n) (initH r) false).2.1) (hr.2.1.get (k := (r.length - 1)) (by rw [hr.2.2]; omega)) (tw_len _ (Nat.le_refl _) hx (init_32 hr.2.1)).2)) ?_
    rintro _ h65 ⟨rfl,g⟩
    replace e0 := e0.ext g
    replace m3 := Ext.blk g m3
    replace m8 := Ext.blk g m8
    replace m13 := Ext.blk g m13
    replace m23 := Ext.blk g m23
    replace m52 := Ext.blk g m52
    replace m57 := Ext.blk g m57
    replace sep := sep.up g.size
    clear g
    refine SimK.eff0 (i := 7) (D' := 255) (X' := 191) (by kernel_rfl) (by kernel_rfl) (by kernel_rfl) (by kernel_rfl) (Does.store (b := h1.size) (off := 0) (vs := (nodeH (r.getD (r.length - 1) []) ((twV x (m - half n) (n - half n) (initH r) false).1)).map bv) (l := z32.map bv) (storeOp_of (by kernel_rfl) (hlm (node_len _ _))) m8 (hfit rfl (node_len _ _)) (ones_map _)) ?_
    rintro _ h66 ⟨rfl,hh⟩
    have g67 : Grew (some (h1.size)) h65 h66 := hput_gr hh
    replace m8 : h66[h1.size]? = some (.cells ((nodeH (r.getD (r.length - 1) []) ((twV x (m - half n) (n - half n) (initH r) false).1)).map bv).toArray 23) := hput_at (off := 0) (vs := (nodeH (r.getD (r.length - 1) []) ((twV x (m - half n) (n - half n) (initH r) false).1)).map bv) (l := (z32.map bv)) hh (hsplice rfl (node_len _ _)) m8
    clear hh
    replace e0 := e0.grew g67 (sep.low 4 rfl)
    replace m3 := Grew.blk g67 m3 ((sep.bp 5 4 rfl rfl (by decide)))
    replace m13 := Grew.blk g67 m13 ((sep.bp 3 4 rfl rfl (by decide)))
    replace m23 := Grew.blk g67 m23 ((sep.bp 2 4 rfl rfl (by decide)))
    replace m52 := Grew.blk g67 m52 ((sep.bp 1 4 rfl rfl (by decide)))
    replace m57 := Grew.blk g67 m57 ((sep.bp 0 4 rfl rfl (by decide)))
    replace sep := sep.up g67.size
    refine SimK.eff0 (i := 8) (D' := 511) (X' := 447) (by kernel_rfl) (by kernel_rfl) (by kernel_rfl) (by kernel_rfl) (Does.store (b := h6.size) (off := 0) (vs := (nodeH (r.getD (r.length - 1) []) ((twV x (m - half n) (n - half n) (initH r) false).2.1)).map bv) (l := z32.map bv) (storeOp_of (by kernel_rfl) (hlm (node_len _ _))) m13 (hfit rfl (node_len _ _)) (ones_map _)) ?_
    rintro _ h68 ⟨rfl,hh⟩
    have g69 : Grew (some (h6.size)) h66 h68 := hput_gr hh
    replace m13 : h68[h6.size]? = some (.cells ((nodeH (r.getD (r.length - 1) []) ((twV x (m - half n) (n - half n) (initH r) false).2.1)).map bv).toArray 23) := hput_at (off := 0) (vs := (nodeH (r.getD (r.length - 1) []) ((twV x (m - half n) (n - half n) (initH r) false).2.1)).map bv) (l := (z32.map bv)) hh (hsplice rfl (node_len _ _)) m13
    clear hh
    replace e0 := e0.grew g69 (sep.low 3 rfl)
    replace m3 := Grew.blk g69 m3 ((sep.bp 5 3 rfl rfl (by decide)))
    replace m8 := Grew.blk g69 m8 ((sep.bp 4 3 rfl rfl (by decide)))
    replace m23 := Grew.blk g69 m23 ((sep.bp 2 3 rfl rfl (by decide)))
    replace m52 := Grew.blk g69 m52 ((sep.bp 1 3 rfl rfl (by decide)))
    replace m57 := Grew.blk g69 m57 ((sep.bp 0 3 rfl rfl (by decide)))
    replace sep := sep.up g69.size
    refine mP 1023 [9] [.bool ((twV x (m - half n) (n - half n) (initH r) false).2.2)] ?_
    refine mD [(10,.pointer (some ⟨h1.size,0,none⟩)),(11,.pointer (some ⟨h6.size,0,none⟩)),(12,.bool ((twV x (m - half n) (n - half n) (initH r) false).2.2))] ?_
    clear hF a; intro a hF
    refine tK ?_
    refine C.ret (by kernel_rfl) ?_
    show retK Tryd.prog Tryd.f33 (fun v h' => v = .tuple #[hv (twV x m n r false).1,hv (twV x m n r false).2.1,.bool (twV x m n r false).2.2] ∧ Ext h h') .ret a h68
    refine ret_ok [.cell 10 23,.cell 11 23,.tmp 12] [.agg ((nodeH (r.getD (r.length - 1) []) ((twV x (m - half n) (n - half n) (initH r) false).1)).map bv).toArray,.agg ((nodeH (r.getD (r.length - 1) []) ((twV x (m - half n) (n - half n) (initH r) false).2.1)).map bv).toArray,.bool ((twV x (m - half n) (n - half n) (initH r) false).2.2)] (.tuple #[.agg ((nodeH (r.getD (r.length - 1) []) ((twV x (m - half n) (n - half n) (initH r) false).1)).map bv).toArray,.agg ((nodeH (r.getD (r.length - 1) []) ((twV x (m - half n) (n - half n) (initH r) false).2.1)).map bv).toArray,.bool ((twV x (m - half n) (n - half n) (initH r) false).2.2)]) rfl hF ⟨⟨_,rfl,Loads.hash (by kernel_rfl) (node_len _ _) m8⟩,⟨_,rfl,Loads.hash (by kernel_rfl) (node_len _ _) m13⟩,rfl,trivial⟩ rfl ?_
    exact ⟨by rw [tw_hi hr0 (by omega) (by omega)] <;> rfl,e0⟩
 ·skip
  refine cP 1 hF ?_
  refine sP 2 [.int .i64 ((m : Nat) : Int),.int .i64 ((n : Nat) : Int)] ?_
  refine s1 3 (.bool false) (.bool (((m : Nat) : Int) == ((n : Nat) : Int))) (congrArg Value.bool (beq_eq_false_iff_ne.2 (by omega))) ?_
  refine sP 6 [.bool false,undef,.bool false] ?_
  refine sD [(0,.int .i64 ((m : Nat) : Int)),(1,.int .i64 ((n : Nat) : Int)),(3,.slice va r.length vc),(4,.bool true),(7,.pointer (some ⟨h.size,0,none⟩)),(10,.pointer (some ⟨h1.size,0,none⟩)),(11,.pointer (some ⟨h6.size,0,none⟩)),(27,.bool false)] ?_
  clear hF a; intro a hF
  refine tK ?_
  refine C.condF 27 [1,0,1,0] [1,0,1,1] (by kernel_rfl) hF (fun _ => rfl) ?_
  refine C.skip (by kernel_rfl) ?_
  refine tK ?_
  refine cS ?_
  refine cS ?_
  refine cP 3 hF ?_
  refine sP 3 [.slice va r.length vc,.int .i64 ((r.length : Nat) : Int),.bool (decide (((r.length : Nat) : Int) = (0 : Int)))] ?_
  refine sD [(0,.int .i64 ((m : Nat) : Int)),(1,.int .i64 ((n : Nat) : Int)),(3,.slice va r.length vc),(4,.bool true),(7,.pointer (some ⟨h.size,0,none⟩)),(10,.pointer (some ⟨h1.size,0,none⟩)),(11,.pointer (some ⟨h6.size,0,none⟩)),(35,.bool (decide (((r.length : Nat) : Int) = (0 : Int))))] ?_
  clear hF a; intro a hF
  refine tK ?_
  refine C.condS 35 (decide (((r.length : Nat) : Int) = (0 : Int))) [1,1,0,1,0] [1,1,0,1,1] (by kernel_rfl) hF (fun _ => rfl) (fun hc70 => ?_) (fun hc70 => ?_)
  ·skip
   replace hc70 := of_decide_eq_true hc70
   refine cS ?_
   refine cD [0,0,1,7,15] 4 mixed hF ?_
   refine mL 1 1 0 (.agg (x.map bv).toArray) (Calm.load (T := 23) (p := ⟨h.size,0,none⟩) (by kernel_rfl) (Loads.hash (by kernel_rfl) hx m3)) ?_
   refine mL 3 3 1 (.agg (x.map bv).toArray) (Calm.load (T := 23) (p := ⟨h.size,0,none⟩) (by kernel_rfl) (Loads.hash (by kernel_rfl) hx m3)) ?_
   refine SimK.eff (i := 2) (D' := 7) (X' := 5) (by kernel_rfl) (by kernel_rfl) (by kernel_rfl) [1] (by kernel_rfl) (Does.store (b := h1.size) (off := 0) (vs := x.map bv) (l := z32.map bv) (storeOp_of (by kernel_rfl) (hlm hx)) m8 (hfit rfl hx) (ones_map _)) ?_
   rintro _ h71 ⟨rfl,hh⟩
   have g72 : Grew (some (h1.size)) h11 h71 := hput_gr hh
   replace m8 : h71[h1.size]? = some (.cells (x.map bv).toArray 23) := hput_at (off := 0) (vs := x.map bv) (l := (z32.map bv)) hh (hsplice rfl hx) m8
   clear hh
   replace e0 := e0.grew g72 (sep.low 1 rfl)
   replace m3 := Grew.blk g72 m3 ((sep.bp 2 1 rfl rfl (by decide)))
   replace m13 := Grew.blk g72 m13 ((sep.bp 0 1 rfl rfl (by decide)))
   replace sep := sep.up g72.size
   refine ⟨?_,?_⟩
   ·intro j hj
    simp only [List.mem_cons,List.not_mem_nil,or_false] at hj
    subst hj
    exact goodOf (Calm.load (T := 23) (p := ⟨h.size,0,none⟩) (by kernel_rfl) (Loads.hash (by kernel_rfl) hx m3))
   refine SimK.eff0 (i := 3) (D' := 15) (X' := 15) (by kernel_rfl) (by kernel_rfl) (by kernel_rfl) (by kernel_rfl) (Does.store (b := h6.size) (off := 0) (vs := x.map bv) (l := z32.map bv) (storeOp_of (by kernel_rfl) (hlm hx)) m13 (hfit rfl hx) (ones_map _)) ?_
   rintro _ h73 ⟨rfl,hh⟩
   have g74 : Grew (some (h6.size)) h71 h73 := hput_gr hh
   replace m13 : h73[h6.size]? = some (.cells (x.map bv).toArray 23) := hput_at (off := 0) (vs := x.map bv) (l := (z32.map bv)) hh (hsplice rfl hx) m13
   clear hh
   replace e0 := e0.grew g74 (sep.low 0 rfl)
   replace m3 := Grew.blk g74 m3 ((sep.bp 2 0 rfl rfl (by decide)))
   replace m8 := Grew.blk g74 m8 ((sep.bp 1 0 rfl rfl (by decide)))
   replace sep := sep.up g74.size
   refine mP 31 [4] [.bool false] ?_
   refine mD [(10,.pointer (some ⟨h1.size,0,none⟩)),(11,.pointer (some ⟨h6.size,0,none⟩)),(12,.bool false)] ?_
   clear hF a; intro a hF
   refine tK ?_
   refine C.ret (by kernel_rfl) ?_
   show retK Tryd.prog Tryd.f33 (fun v h' => v = .tuple #[hv (twV x m n r true).1,hv (twV x m n r true).2.1,.bool (twV x m n r true).2.2] ∧ Ext h h') .ret a h73
   refine ret_ok [.cell 10 23,.cell 11 23,.tmp 12] [.agg (x.map bv).toArray,.agg (x.map bv).toArray,.bool false] (.tuple #[.agg (x.map bv).toArray,.agg (x.map bv).toArray,.bool false]) rfl hF ⟨⟨_,rfl,Loads.hash (by kernel_rfl) hx m8⟩,⟨_,rfl,Loads.hash (by kernel_rfl) hx m13⟩,rfl,trivial⟩ rfl ?_
   exact ⟨by rw [tw_none (by intro e; omega) (by omega)] <;> rfl,e0⟩
  ·skip
   replace hc70 := of_decide_eq_false hc70
   have hr0 : 0 < r.length := by omega
   obtain ⟨aa,rfl,hcap⟩ := hr.someA (by omega)
   refine C.skip (by kernel_rfl) ?_
   refine tK ?_
   refine cS ?_
   refine cP 5 hF ?_
   refine sP 3 [.slice (some aa) r.length vc,.slice (some aa) r.length vc,.int .i64 ((r.length : Nat) : Int)] ?_
   refine s1 4 (.int .i64 ((r.length - 1 : Nat) : Int)) (.int .i64 (IntKind.i64.wrap (((r.length : Nat) : Int) - 1))) (congrArg (Value.int .i64) (w64' (by omega) (by omega) (by omega))) ?_
   refine sC 5 (.pointer (some (Addr.add aa ((r.length - 1) * 32)))) ((Calm.indexA (a := aa) (len := r.length) (sz := 32) (k := ((r.length - 1 : Nat) : Int)) (r.length - 1) ((r.length - 1) * 32) (by kernel_rfl) rfl (by omega) (by omega)) _) ?_
   refine sC 6 (.agg ((r.getD (r.length - 1) []).map bv).toArray) (Calm.load (T := 23) (p := (Addr.add aa ((r.length - 1) * 32))) (by kernel_rfl) (HR.loads (k := (r.length - 1)) (q := (r.length - 1) * 32) (hr.ext e0) (by kernel_rfl) (by omega) (by omega))) ?_
   refine SeqK.eff (k' := 7) (Does.new (v := .pointer (some ⟨h11.size,0,none⟩)) (o := .cells (z32.map bv).toArray 23) (by kernel_rfl)) rfl ?_
   rintro _ h75 ⟨rfl,hh⟩
   have g76 : Ext h11 h75 := push_ext hh
   have m77 : h75[h11.size]? = some (.cells (z32.map bv).toArray 23) := push_at hh
   clear hh
   have lt78 := blk_lt m77
   have zs79 := e0.size
   have hlo := e0.size
   have sepo := sep
   replace e0 := e0.ext g76
   replace m3 := Ext.blk g76 m3
   replace m8 := Ext.blk g76 m8
   replace m13 := Ext.blk g76 m13
   replace sep := sep.up g76.size
   replace sep := sepo.new hlo (blk_lt m77)
   clear sepo hlo
   refine SeqK.eff (k' := 8) (Does.store (b := h11.size) (off := 0) (vs := (r.getD (r.length - 1) []).map bv) (l := z32.map bv) (storeOp_of (by kernel_rfl) (hlm (hr.2.1.get (k := (r.length - 1)) (by rw [hr.2.2]; omega)))) m77 (hfit rfl (hr.2.1.get (k := (r.length - 1)) (by rw [hr.2.2]; omega))) (ones_map _)) rfl ?_
   rintro _ h80 ⟨rfl,hh⟩
   have g81 : Grew (some (h11.size)) h75 h80 := hput_gr hh
   replace m77 : h80[h11.size]? = some (.cells ((r.getD (r.length - 1) []).map bv).toArray 23) := hput_at (off := 0) (vs := (r.getD (r.length - 1) []).map bv) (l := (z32.map bv)) hh (hsplice rfl (hr.2.1.get (k := (r.length - 1)) (by rw [hr.2.2]; omega))) m77
   clear hh
   replace e0 := e0.grew g81 (sep.low 0 rfl)
   replace m3 := Grew.blk g81 m3 ((sep.bp 3 0 rfl rfl (by decide)))
   replace m8 := Grew.blk g81 m8 ((sep.bp 2 0 rfl rfl (by decide)))
   replace m13 := Grew.blk g81 m13 ((sep.bp 1 0 rfl rfl (by decide)))
   replace sep := sep.up g81.size
   refine sD [(0,.int .i64 ((m : Nat) : Int)),(1,.int .i64 ((n : Nat) : Int)),(3,.slice (some aa) r.length vc),(4,.bool true),(7,.pointer (some ⟨h.size,0,none⟩)),(10,.pointer (some ⟨h1.size,0,none⟩)),(11,.pointer (some ⟨h6.size,0,none⟩)),(13,.pointer (some ⟨h11.size,0,none⟩))] ?_
   clear hF a; intro a hF
   refine tK ?_
   refine cS ?_
   refine cP 6 hF ?_
   refine sP 3 [.slice (some aa) r.length vc,.slice (some aa) r.length vc,.int .i64 ((r.length : Nat) : Int)] ?_
   refine s1 4 (.int .i64 ((r.length - 1 : Nat) : Int)) (.int .i64 (IntKind.i64.wrap (((r.length : Nat) : Int) - 1))) (congrArg (Value.int .i64) (w64' (by omega) (by omega) (by omega))) ?_
   refine sC 5 (.slice (some aa) (r.length - 1) vc) ((fun h => Calm.sliceO (a := (some aa)) (len := r.length) (cap := vc) (sz := 32) (x := (some aa)) 0 (r.length - 1) vc (r.length - 1) vc (by kernel_rfl) (.inl ⟨rfl,rfl⟩) (.inr rfl) (.inl ⟨rfl,rfl⟩) (by omega) (by omega) (opt_add0 _ 32) (by first | rfl | omega) (by first | rfl | omega) h) _) ?_
   refine sP 6 [.slice (some aa) (r.length - 1) vc] ?_
   refine sD [(0,.int .i64 ((m : Nat) : Int)),(1,.int .i64 ((n : Nat) : Int)),(4,.bool true),(7,.pointer (some ⟨h.size,0,none⟩)),(10,.pointer (some ⟨h1.size,0,none⟩)),(11,.pointer (some ⟨h6.size,0,none⟩)),(13,.pointer (some ⟨h11.size,0,none⟩)),(14,.slice (some aa) (r.length - 1) vc)] ?_
   clear hF a; intro a hF
   refine tK ?_
   refine cS ?_
   refine cS ?_
   refine cP 7 hF ?_
   refine sP 2 [.int .i64 ((m : Nat) : Int),.int .i64 ((n : Nat) : Int)] ?_
   refine s1 3 (.bool false) (.bool (((m : Nat) : Int) == ((n : Nat) : Int))) (congrArg Value.bool (beq_eq_false_iff_ne.2 (by omega))) ?_
   refine sD [(0,.int .i64 ((m : Nat) : Int)),(1,.int .i64 ((n : Nat) : Int)),(4,.bool true),(7,.pointer (some ⟨h.size,0,none⟩)),(10,.pointer (some ⟨h1.size,0,none⟩)),(11,.pointer (some ⟨h6.size,0,none⟩)),(13,.pointer (some ⟨h11.size,0,none⟩)),(14,.slice (some aa) (r.length - 1) vc),(51,.bool false)] ?_
   clear hF a; intro a hF
   refine tK ?_
   refine C.condF 51 [1,1,1,1,1,0,1,0] [1,1,1,1,1,0,1,1] (by kernel_rfl) hF (fun _ => rfl) ?_
   refine C.skip (by kernel_rfl) ?_
   refine tK ?_
   refine cS ?_
   refine cP 9 hF ?_
   refine sP 1 [.int .i64 ((n : Nat) : Int)] ?_
   refine sC 2 (.int .i64 ((half n : Nat) : Int)) (Does.call (f := 49) (args := #[.int .i64 ((n : Nat) : Int)]) (by kernel_rfl) (below_sat _ n (by omega) (by omega))) ?_
   refine sP 3 [.int .i64 ((half n : Nat) : Int)] ?_
   refine sD [(0,.int .i64 ((m : Nat) : Int)),(1,.int .i64 ((n : Nat) : Int)),(4,.bool true),(7,.pointer (some ⟨h.size,0,none⟩)),(10,.pointer (some ⟨h1.size,0,none⟩)),(11,.pointer (some ⟨h6.size,0,none⟩)),(13,.pointer (some ⟨h11.size,0,none⟩)),(14,.slice (some aa) (r.length - 1) vc),(15,.int .i64 ((half n : Nat) : Int))] ?_
   clear hF a; intro a hF
   refine tK ?_
   refine cS ?_
   refine cS ?_
   refine cP 10 hF ?_
   refine sP 3 [.int .i64 ((m : Nat) : Int),.int .i64 ((half n : Nat) : Int),.bool (decide (((m : Nat) : Int) ≤ ((half n : Nat) : Int)))] ?_
   refine sD [(0,.int .i64 ((m : Nat) : Int)),(1,.int .i64 ((n : Nat) : Int)),(4,.bool true),(7,.pointer (some ⟨h.size,0,none⟩)),(10,.pointer (some ⟨h1.size,0,none⟩)),(11,.pointer (some ⟨h6.size,0,none⟩)),(13,.pointer (some ⟨h11.size,0,none⟩)),(14,.slice (some aa) (r.length - 1) vc),(15,.int .i64 ((half n : Nat) : Int)),(61,.bool (decide (((m : Nat) : Int) ≤ ((half n : Nat) : Int))))] ?_
   clear hF a; intro a hF
   refine tK ?_
   refine C.condS 61 (decide (((m : Nat) : Int) ≤ ((half n : Nat) : Int))) [1,1,1,1,1,1,1,0,1,0] [1,1,1,1,1,1,1,0,1,1] (by kernel_rfl) hF (fun _ => rfl) (fun hc82 => ?_) (fun hc82 => ?_)
   ·skip
    replace hc82 := of_decide_eq_true hc82
    refine cS ?_
    refine cP 11 hF ?_
    refine sP 2 [.int .i64 ((m : Nat) : Int),.int .i64 ((half n : Nat) : Int)] ?_
    refine sC 3 (.agg (x.map bv).toArray) (Calm.load (T := 23) (p := ⟨h.size,0,none⟩) (by kernel_rfl) (Loads.hash (by kernel_rfl) hx m3)) ?_
    refine sP 5 [.slice (some aa) (r.length - 1) vc,.bool true] ?_
    have hhl := half_lt (n := n) (by omega); have hhp := half_pos n
    refine SeqK.eff (k' := 6) (Does.call (f := 33) (args := #[.int .i64 ((m : Nat) : Int),.int .i64 ((half n : Nat) : Int),.agg (x.map bv).toArray,.slice (some aa) (r.length - 1) vc,.bool true]) (by kernel_rfl) (ih _ m (half n) (initH r) true (r.length - 1) (initH_len r) (by omega) ((hr.ext e0).take (by omega)) (by omega) (by omega) (by omega))) rfl ?_
    rintro _ h83 ⟨rfl,g⟩
    replace e0 := e0.ext g
    replace m3 := Ext.blk g m3
    replace m8 := Ext.blk g m8
    replace m13 := Ext.blk g m13
    replace m77 := Ext.blk g m77
    replace sep := sep.up g.size
    clear g
    refine sP 10 [.tuple #[.agg (((twV x m (half n) (initH r) true).1).map bv).toArray,.agg (((twV x m (half n) (initH r) true).2.1).map bv).toArray,.bool ((twV x m (half n) (initH r) true).2.2)],.agg (((twV x m (half n) (initH r) true).1).map bv).toArray,.agg (((twV x m (half n) (initH r) true).2.1).map bv).toArray,.bool ((twV x m (half n) (initH r) true).2.2)] ?_
    refine SeqK.eff (k' := 11) (Does.new (v := .pointer (some ⟨h83.size,0,none⟩)) (o := .cells (z32.map bv).toArray 23) (by kernel_rfl)) rfl ?_
    rintro _ h84 ⟨rfl,hh⟩
    have g85 : Ext h83 h84 := push_ext hh
    have m86 : h84[h83.size]? = some (.cells (z32.map bv).toArray 23) := push_at hh
    clear hh
    have lt87 := blk_lt m86
    have zs88 := e0.size
    have hlo := e0.size
    have sepo := sep
    replace e0 := e0.ext g85
    replace m3 := Ext.blk g85 m3
    replace m8 := Ext.blk g85 m8
    replace m13 := Ext.blk g85 m13
    replace m77 := Ext.blk g85 m77
    replace sep := sep.up g85.size
    replace sep := sepo.new hlo (blk_lt m86)
    clear sepo hlo
    refine SeqK.eff (k' := 12) (Does.new (v := .pointer (some ⟨h84.size,0,none⟩)) (o := .cells (z32.map bv).toArray 23) (by kernel_rfl)) rfl ?_
    rintro _ h89 ⟨rfl,hh⟩
    have g90 : Ext h84 h89 := push_ext hh
    have m91 : h89[h84.size]? = some (.cells (z32.map bv).toArray 23) := push_at hh
    clear hh
    have lt92 := blk_lt m91
    have zs93 := e0.size
    have hlo := e0.size
    have sepo := sep
    replace e0 := e0.ext g90
    replace m3 := Ext.blk g90 m3
    replace m8 := Ext.blk g90 m8
    replace m13 := Ext.blk g90 m13
    replace m77 := Ext.blk g90 m77
    replace m86 := Ext.blk g90 m86
    replace sep := sep.up g90.size
    replace sep := sepo.new hlo (blk_lt m91)
    clear sepo hlo
    refine SeqK.eff (k' := 13) (Does.store (b := h83.size) (off := 0) (vs := ((twV x m (half n) (initH r) true).1).map bv) (l := z32.map bv) (storeOp_of (by kernel_rfl) (hlm (tw_len _ (Nat.le_refl _) hx (init_32 hr.2.1)).1)) m86 (hfit rfl (tw_len _ (Nat.le_refl _) hx (init_32 hr.2.1)).1) (ones_map _)) rfl ?_
    rintro _ h94 ⟨rfl,hh⟩
    have g95 : Grew (some (h83.size)) h89 h94 := hput_gr hh
    replace m86 : h94[h83.size]? = some (.cells (((twV x m (half n) (initH r) true).1).map bv).toArray 23) := hput_at (off := 0) (vs := ((twV x m (half n) (initH r) true).1).map bv) (l := (z32.map bv)) hh (hsplice rfl (tw_len _ (Nat.le_refl _) hx (init_32 hr.2.1)).1) m86
    clear hh
    replace e0 := e0.grew g95 (sep.low 1 rfl)
    replace m3 := Grew.blk g95 m3 ((sep.bp 5 1 rfl rfl (by decide)))
    replace m8 := Grew.blk g95 m8 ((sep.bp 4 1 rfl rfl (by decide)))
    replace m13 := Grew.blk g95 m13 ((sep.bp 3 1 rfl rfl (by decide)))
    replace m77 := Grew.blk g95 m77 ((sep.bp 2 1 rfl rfl (by decide)))
    replace m91 := Grew.blk g95 m91 ((sep.bp 0 1 rfl rfl (by decide)))
    replace sep := sep.up g95.size
    refine SeqK.eff (k' := 14) (Does.store (b := h84.size) (off := 0) (vs := ((twV x m (half n) (initH r) true).2.1).map bv) (l := z32.map bv) (storeOp_of (by kernel_rfl) (hlm (tw_len _ (Nat.le_refl _) hx (init_32 hr.2.1)).2)) m91 (hfit rfl (tw_len _ (Nat.le_refl _) hx (init_32 hr.2.1)).2) (ones_map _)) rfl ?_
    rintro _ h96 ⟨rfl,hh⟩
    have g97 : Grew (some (h84.size)) h94 h96 := hput_gr hh
    replace m91 : h96[h84.size]? = some (.cells (((twV x m (half n) (initH r) true).2.1).map bv).toArray 23) := hput_at (off := 0) (vs := ((twV x m (half n) (initH r) true).2.1).map bv) (l := (z32.map bv)) hh (hsplice rfl (tw_len _ (Nat.le_refl _) hx (init_32 hr.2.1)).2) m91
    clear hh
    replace e0 := e0.grew g97 (sep.low 0 rfl)
    replace m3 := Grew.blk g97 m3 ((sep.bp 5 0 rfl rfl (by decide)))
    replace m8 := Grew.blk g97 m8 ((sep.bp 4 0 rfl rfl (by decide)))
    replace m13 := Grew.blk g97 m13 ((sep.bp 3 0 rfl rfl (by decide)))
    replace m77 := Grew.blk g97 m77 ((sep.bp 2 0 rfl rfl (by decide)))
    replace m86 := Grew.blk g97 m86 ((sep.bp 1 0 rfl rfl (by decide)))
    replace sep := sep.up g97.size
    refine sP 15 [.bool ((twV x m (half n) (initH r) true).2.2)] ?_
    refine sD [(10,.pointer (some ⟨h1.size,0,none⟩)),(11,.pointer (some ⟨h6.size,0,none⟩)),(13,.pointer (some ⟨h11.size,0,none⟩)),(16,.pointer (some ⟨h83.size,0,none⟩)),(17,.pointer (some ⟨h84.size,0,none⟩)),(18,.bool ((twV x m (half n) (initH r) true).2.2))] ?_
    clear hF a; intro a hF
    refine tK ?_
    refine cS ?_
    refine cD [0,0,0,6,0,15,47,127] 12 mixed hF ?_
    refine mL 1 1 0 (.agg (((twV x m (half n) (initH r) true).1).map bv).toArray) (Calm.load (T := 23) (p := ⟨h83.size,0,none⟩) (by kernel_rfl) (Loads.hash (by kernel_rfl) (tw_len _ (Nat.le_refl _) hx (init_32 hr.2.1)).1 m86)) ?_
    refine mL 3 3 1 (.agg (((twV x m (half n) (initH r) true).2.1).map bv).toArray) (Calm.load (T := 23) (p := ⟨h84.size,0,none⟩) (by kernel_rfl) (Loads.hash (by kernel_rfl) (tw_len _ (Nat.le_refl _) hx (init_32 hr.2.1)).2 m91)) ?_
    refine mL 7 7 2 (.agg ((r.getD (r.length - 1) []).map bv).toArray) (Calm.load (T := 23) (p := ⟨h11.size,0,none⟩) (by kernel_rfl) (Loads.hash (by kernel_rfl) (hr.2.1.get (k := (r.length - 1)) (by rw [hr.2.2]; omega)) m77)) ?_
    refine mP 23 [4] [.bool ((twV x m (half n) (initH r) true).2.2)] ?_
    refine SimK.eff (i := 3) (D' := 31) (X' := 14) (by kernel_rfl) (by kernel_rfl) (by kernel_rfl) [0] (by kernel_rfl) (Does.call (f := 37) (args := #[.agg (((twV x m (half n) (initH r) true).2.1).map bv).toArray,.agg ((r.getD (r.length - 1) []).map bv).toArray]) (by kernel_rfl) (rnode_sat _ ((twV x m (half n) (initH r) true).2.1) (r.getD (r.length - 1) []) (tw_len _ (Nat.le_refl _) hx (init_32 hr.2.1)).2 (hr.2.1.get (k := (r.length - 1)) (by rw [hr.2.2]; omega)))) ?_
    rintro _ h98 ⟨rfl,g⟩
    replace e0 := e0.ext g
    replace m3 := Ext.blk g m3
    replace m8 := Ext.blk g m8
    replace m13 := Ext.blk g m13
    replace m77 := Ext.blk g m77
    replace m86 := Ext.blk g m86
    replace m91 := Ext.blk g m91
    replace sep := sep.up g.size
    refine ⟨?_,?_⟩
    ·intro j hj
     simp only [List.mem_cons,List.not_mem_nil,or_false] at hj
     subst hj
     exact goodOf (Calm.load (T := 23) (p := ⟨h83.size,0,none⟩) (by kernel_rfl) (Loads.hash (by kernel_rfl) (tw_len _ (Nat.le_refl _) hx (init_32 hr.2.1)).1 m86))
    clear g
    refine SimK.eff0 (i := 5) (D' := 63) (X' := 47) (by kernel_rfl) (by kernel_rfl) (by kernel_rfl) (by kernel_rfl) (Does.store (b := h1.size) (off := 0) (vs := ((twV x m (half n) (initH r) true).1).map bv) (l := z32.map bv) (storeOp_of (by kernel_rfl) (hlm (tw_len _ (Nat.le_refl _) hx (init_32 hr.2.1)).1)) m8 (hfit rfl (tw_len _ (Nat.le_refl _) hx (init_32 hr.2.1)).1) (ones_map _)) ?_
    rintro _ h99 ⟨rfl,hh⟩
    have g100 : Grew (some (h1.size)) h98 h99 := hput_gr hh
    replace m8 : h99[h1.size]? = some (.cells (((twV x m (half n) (initH r) true).1).map bv).toArray 23) := hput_at (off := 0) (vs := ((twV x m (half n) (initH r) true).1).map bv) (l := (z32.map bv)) hh (hsplice rfl (tw_len _ (Nat.le_refl _) hx (init_32 hr.2.1)).1) m8
    clear hh
    replace e0 := e0.grew g100 (sep.low 4 rfl)
    replace m3 := Grew.blk g100 m3 ((sep.bp 5 4 rfl rfl (by decide)))
    replace m13 := Grew.blk g100 m13 ((sep.bp 3 4 rfl rfl (by decide)))
    replace m77 := Grew.blk g100 m77 ((sep.bp 2 4 rfl rfl (by decide)))
    replace m86 := Grew.blk g100 m86 ((sep.bp 1 4 rfl rfl (by decide)))
    replace m91 := Grew.blk g100 m91 ((sep.bp 0 4 rfl rfl (by decide)))
    replace sep := sep.up g100.size
    refine SimK.eff0 (i := 6) (D' := 127) (X' := 111) (by kernel_rfl) (by kernel_rfl) (by kernel_rfl) (by kernel_rfl) (Does.store (b := h6.size) (off := 0) (vs := (nodeH ((twV x m (half n) (initH r) true).2.1) (r.getD (r.length - 1) [])).map bv) (l := z32.map bv) (storeOp_of (by kernel_rfl) (hlm (node_len _ _))) m13 (hfit rfl (node_len _ _)) (ones_map _)) ?_
    rintro _ h101 ⟨rfl,hh⟩
    have g102 : Grew (some (h6.size)) h99 h101 := hput_gr hh
    replace m13 : h101[h6.size]? = some (.cells ((nodeH ((twV x m (half n) (initH r) true).2.1) (r.getD (r.length - 1) [])).map bv).toArray 23) := hput_at (off := 0) (vs := (nodeH ((twV x m (half n) (initH r) true).2.1) (r.getD (r.length - 1) [])).map bv) (l := (z32.map bv)) hh (hsplice rfl (node_len _ _)) m13
    clear hh
    replace e0 := e0.grew g102 (sep.low 3 rfl)
    replace m3 := Grew.blk g102 m3 ((sep.bp 5 3 rfl rfl (by decide)))
    replace m8 := Grew.blk g102 m8 ((sep.bp 4 3 rfl rfl (by decide)))
    replace m77 := Grew.blk g102 m77 ((sep.bp 2 3 rfl rfl (by decide)))
    replace m86 := Grew.blk g102 m86 ((sep.bp 1 3 rfl rfl (by decide)))
    replace m91 := Grew.blk g102 m91 ((sep.bp 0 3 rfl rfl (by decide)))
    replace sep := sep.up g102.size
    refine mP 255 [7] [.bool ((twV x m (half n) (initH r) true).2.2)] ?_
    refine mD [(10,.pointer (some ⟨h1.size,0,none⟩)),(11,.pointer (some ⟨h6.size,0,none⟩)),(12,.bool ((twV x m (half n) (initH r) true).2.2))] ?_
    clear hF a; intro a hF
    refine tK ?_
    refine C.ret (by kernel_rfl) ?_
    show retK Tryd.prog Tryd.f33 (fun v h' => v = .tuple #[hv (twV x m n r true).1,hv (twV x m n r true).2.1,.bool (twV x m n r true).2.2] ∧ Ext h h') .ret a h101
    refine ret_ok [.cell 10 23,.cell 11 23,.tmp 12] [.agg (((twV x m (half n) (initH r) true).1).map bv).toArray,.agg ((nodeH ((twV x m (half n) (initH r) true).2.1) (r.getD (r.length - 1) [])).map bv).toArray,.bool ((twV x m (half n) (initH r) true).2.2)] (.tuple #[.agg (((twV x m (half n) (initH r) true).1).map bv).toArray,.agg ((nodeH ((twV x m (half n) (initH r) true).2.1) (r.getD (r.length - 1) [])).map bv).toArray,.bool ((twV x m (half n) (initH r) true).2.2)]) rfl hF ⟨⟨_,rfl,Loads.hash (by kernel_rfl) (tw_len _ (Nat.le_refl _) hx (init_32 hr.2.1)).1 m8⟩,⟨_,rfl,Loads.hash (by kernel_rfl) (node_len _ _) m13⟩,rfl,trivial⟩ rfl ?_
    exact ⟨by rw [tw_lo hr0 (by omega) (by omega)] <;> rfl,e0⟩
   ·skip
    replace hc82 := of_decide_eq_false hc82
    refine C.skip (by kernel_rfl) ?_
    refine tK ?_
    refine cS ?_
    refine cP 13 hF ?_
    refine sP 2 [.int .i64 ((m : Nat) : Int),.int .i64 ((half n : Nat) : Int)] ?_
    refine s1 3 (.int .i64 ((m - (half n) : Nat) : Int)) (.int .i64 (IntKind.i64.wrap (((m : Nat) : Int) - ((half n : Nat) : Int)))) (congrArg (Value.int .i64) (w64' (by omega) (by omega) (by omega))) ?_
    refine sP 5 [.int .i64 ((n : Nat) : Int),.int .i64 ((half n : Nat) : Int)] ?_
    refine s1 6 (.int .i64 ((n - (half n) : Nat) : Int)) (.int .i64 (IntKind.i64.wrap (((n : Nat) : Int) - ((half n : Nat) : Int)))) (congrArg (Value.int .i64) (w64' (by omega) (by omega) (by omega))) ?_
    refine sC 7 (.agg (x.map bv).toArray) (Calm.load (T := 23) (p := ⟨h.size,0,none⟩) (by kernel_rfl) (Loads.hash (by kernel_rfl) hx m3)) ?_
    refine sP 8 [.slice (some aa) (r.length - 1) vc] ?_
    have hhl := half_lt (n := n) (by omega); have hhp := half_pos n
    refine SeqK.eff (k' := 9) (Does.call (f := 33) (args := #[.int .i64 ((m - (half n) : Nat) : Int),.int .i64 ((n - (half n) : Nat) : Int),.agg (x.map bv).toArray,.slice (some aa) (r.length - 1) vc,.bool false]) (by kernel_rfl) (ih _ (m - half n) (n - half n) (initH r) false (r.length - 1) (initH_len r) (by omega) ((hr.ext e0).take (by omega)) (by omega) (by omega) (by omega))) rfl ?_
    rintro _ h103 ⟨rfl,g⟩
    replace e0 := e0.ext g
    replace m3 := Ext.blk g m3
    replace m8 := Ext.blk g m8
    replace m13 := Ext.blk g m13
    replace m77 := Ext.blk g m77
    replace sep := sep.up g.size
    clear g
    refine sP 13 [.tuple #[.agg (((twV x (m - half n) (n - half n) (initH r) false).1).map bv).toArray,.agg (((twV x (m - half n) (n - half n) (initH r) false).2.1).map bv).toArray,.bool ((twV x (m - half n) (n - half n) (initH r) false).2.2)],.agg (((twV x (m - half n) (n - half n) (initH r) false).1).map bv).toArray,.agg (((twV x (m - half n) (n - half n) (initH r) false).2.1).map bv).toArray,.bool ((twV x (m - half n) (n - half n) (initH r) false).2.2)] ?_
    refine SeqK.eff (k' := 14) (Does.new (v := .pointer (some ⟨h103.size,0,none⟩)) (o := .cells (z32.map bv).toArray 23) (by kernel_rfl)) rfl ?_
    rintro _ h104 ⟨rfl,hh⟩
    have g105 : Ext h103 h104 := push_ext hh
    have m106 : h104[h103.size]? = some (.cells (z32.map bv).toArray 23) := push_at hh
    clear hh
    have lt107 := blk_lt m106
    have zs108 := e0.size
    have hlo := e0.size
    have sepo := sep
    replace e0 := e0.ext g105
    replace m3 := Ext.blk g105 m3
    replace m8 := Ext.blk g105 m8
    replace m13 := Ext.blk g105 m13
    replace m77 := Ext.blk g105 m77
    replace sep := sep.up g105.size
    replace sep := sepo.new hlo (blk_lt m106)
    clear sepo hlo
    refine SeqK.eff (k' := 15) (Does.new (v := .pointer (some ⟨h104.size,0,none⟩)) (o := .cells (z32.map bv).toArray 23) (by kernel_rfl)) rfl ?_
    rintro _ h109 ⟨rfl,hh⟩
    have g110 : Ext h104 h109 := push_ext hh
    have m111 : h109[h104.size]? = some (.cells (z32.map bv).toArray 23) := push_at hh
    clear hh
    have lt112 := blk_lt m111
    have zs113 := e0.size
    have hlo := e0.size
    have sepo := sep
    replace e0 := e0.ext g110
    replace m3 := Ext.blk g110 m3
    replace m8 := Ext.blk g110 m8
    replace m13 := Ext.blk g110 m13
    replace m77 := Ext.blk g110 m77
    replace m106 := Ext.blk g110 m106
    replace sep := sep.up g110.size
    replace sep := sepo.new hlo (blk_lt m111)
    clear sepo hlo
    refine SeqK.eff (k' := 16) (Does.store (b := h103.size) (off := 0) (vs := ((twV x (m - half n) (n - half n) (initH r) false).1).map bv) (l := z32.map bv) (storeOp_of (by kernel_rfl) (hlm (tw_len _ (Nat.le_refl _) hx (init_32 hr.2.1)).1)) m106 (hfit rfl (tw_len _ (Nat.le_refl _) hx (init_32 hr.2.1)).1) (ones_map _)) rfl ?_
    rintro _ h114 ⟨rfl,hh⟩
    have g115 : Grew (some (h103.size)) h109 h114 := hput_gr hh
    replace m106 : h114[h103.size]? = some (.cells (((twV x (m - half n) (n - half n) (initH r) false).1).map bv).toArray 23) := hput_at (off := 0) (vs := ((twV x (m - half n) (n - half n) (initH r) false).1).map bv) (l := (z32.map bv)) hh (hsplice rfl (tw_len _ (Nat.le_refl _) hx (init_32 hr.2.1)).1) m106
    clear hh
    replace e0 := e0.grew g115 (sep.low 1 rfl)
    replace m3 := Grew.blk g115 m3 ((sep.bp 5 1 rfl rfl (by decide)))
    replace m8 := Grew.blk g115 m8 ((sep.bp 4 1 rfl rfl (by decide)))
    replace m13 := Grew.blk g115 m13 ((sep.bp 3 1 rfl rfl (by decide)))
    replace m77 := Grew.blk g115 m77 ((sep.bp 2 1 rfl rfl (by decide)))
    replace m111 := Grew.blk g115 m111 ((sep.bp 0 1 rfl rfl (by decide)))
    replace sep := sep.up g115.size
    refine SeqK.eff (k' := 17) (Does.store (b := h104.size) (off := 0) (vs := ((twV x (m - half n) (n - half n) (initH r) false).2.1).map bv) (l := z32.map bv) (storeOp_of (by kernel_rfl) (hlm (tw_len _ (Nat.le_refl _) hx (init_32 hr.2.1)).2)) m111 (hfit rfl (tw_len _ (Nat.le_refl _) hx (init_32 hr.2.1)).2) (ones_map _)) rfl ?_
    rintro _ h116 ⟨rfl,hh⟩
    have g117 : Grew (some (h104.size)) h114 h116 := hput_gr hh
    replace m111 : h116[h104.size]? = some (.cells (((twV x (m - half n) (n - half n) (initH r) false).2.1).map bv).toArray 23) := hput_at (off := 0) (vs := ((twV x (m - half n) (n - half n) (initH r) false).2.1).map bv) (l := (z32.map bv)) hh (hsplice rfl (tw_len _ (Nat.le_refl _) hx (init_32 hr.2.1)).2) m111
    clear hh
    replace e0 := e0.grew g117 (sep.low 0 rfl)
    replace m3 := Grew.blk g117 m3 ((sep.bp 5 0 rfl rfl (by decide)))
    replace m8 := Grew.blk g117 m8 ((sep.bp 4 0 rfl rfl (by decide)))
    replace m13 := Grew.blk g117 m13 ((sep.bp 3 0 rfl rfl (by decide)))
    replace m77 := Grew.blk g117 m77 ((sep.bp 2 0 rfl rfl (by decide)))
    replace m106 := Grew.blk g117 m106 ((sep.bp 1 0 rfl rfl (by decide)))
    replace sep := sep.up g117.size
    refine sP 18 [.bool ((twV x (m - half n) (n - half n) (initH r) false).2.2)] ?_
    refine sD [(10,.pointer (some ⟨h1.size,0,none⟩)),(11,.pointer (some ⟨h6.size,0,none⟩)),(13,.pointer (some ⟨h11.size,0,none⟩)),(19,.pointer (some ⟨h103.size,0,none⟩)),(20,.pointer (some ⟨h104.size,0,none⟩)),(21,.bool ((twV x (m - half n) (n - half n) (initH r) false).2.2))] ?_
    clear hF a; intro a hF
    refine tK ?_
    refine cS ?_
    refine cD [0,0,3,0,0,31,0,63,191,511] 14 mixed hF ?_
    refine mL 1 1 0 (.agg ((r.getD (r.length - 1) []).map bv).toArray) (Calm.load (T := 23) (p := ⟨h11.size,0,none⟩) (by kernel_rfl) (Loads.hash (by kernel_rfl) (hr.2.1.get (k := (r.length - 1)) (by rw [hr.2.2]; omega)) m77)) ?_
    refine mL 3 3 1 (.agg (((twV x (m - half n) (n - half n) (initH r) false).1).map bv).toArray) (Calm.load (T := 23) (p := ⟨h103.size,0,none⟩) (by kernel_rfl) (Loads.hash (by kernel_rfl) (tw_len _ (Nat.le_refl _) hx (init_32 hr.2.1)).1 m106)) ?_
    refine mL 11 11 3 (.agg ((r.getD (r.length - 1) []).map bv).toArray) (Calm.load (T := 23) (p := ⟨h11.size,0,none⟩) (by kernel_rfl) (Loads.hash (by kernel_rfl) (hr.2.1.get (k := (r.length - 1)) (by rw [hr.2.2]; omega)) m77)) ?_
    refine mL 27 27 4 (.agg (((twV x (m - half n) (n - half n) (initH r) false).2.1).map bv).toArray) (Calm.load (T := 23) (p := ⟨h104.size,0,none⟩) (by kernel_rfl) (Loads.hash (by kernel_rfl) (tw_len _ (Nat.le_refl _) hx (init_32 hr.2.1)).2 m111)) ?_
    refine mP 91 [6] [.bool ((twV x (m - half n) (n - half n) (initH r) false).2.2)] ?_
    refine SimK.eff (i := 2) (D' := 95) (X' := 7) (by kernel_rfl) (by kernel_rfl) (by kernel_rfl) [3,4] (by kernel_rfl) (Does.call (f := 37) (args := #[.agg ((r.getD (r.length - 1) []).map bv).toArray,.agg (((twV x (m - half n) (n - half n) (initH r) false).1).map bv).toArray]) (by kernel_rfl) (rnode_sat _ (r.getD (r.length - 1) []) ((twV x (m - half n) (n - half n) (initH r) false).1) (hr.2.1.get (k := (r.length - 1)) (by rw [hr.2.2]; omega)) (tw_len _ (Nat.le_refl _) hx (init_32 hr.2.1)).1)) ?_
    rintro _ h118 ⟨rfl,g⟩
    replace e0 := e0.ext g
    replace m3 := Ext.blk g m3
    replace m8 := Ext.blk g m8
    replace m13 := Ext.blk g m13
    replace m77 := Ext.blk g m77
    replace m106 := Ext.blk g m106
    replace m111 := Ext.blk g m111
    replace sep := sep.up g.size
    refine ⟨?_,?_⟩
    ·intro j hj
     simp only [List.mem_cons,List.not_mem_nil,or_false] at hj
     rcases hj with rfl | rfl
     ·exact goodOf (Calm.load (T := 23) (p := ⟨h11.size,0,none⟩) (by kernel_rfl) (Loads.hash (by kernel_rfl) (hr.2.1.get (k := (r.length - 1)) (by rw [hr.2.2]; omega)) m77))
     ·exact goodOf (Calm.load (T := 23) (p := ⟨h104.size,0,none⟩) (by kernel_rfl) (Loads.hash (by kernel_rfl) (tw_len _ (Nat.le_refl _) hx (init_32 hr.2.1)).2 m111))
    clear g
    refine SimK.eff0 (i := 5) (D' := 127) (X' := 63) (by kernel_rfl) (by kernel_rfl) (by kernel_rfl) (by kernel_rfl) (Does.call (f := 37) (args := #[.agg ((r.getD (r.length - 1) []).map bv).toArray,.agg (((twV x (m - half n) (n - half n) (initH r) false).2.1).map bv).toArray]) (by kernel_rfl) (rnode_sat _ (r.getD (r.length - 1) []) ((twV x (m - half n) (n - half n) (initH r) false).2.1) (hr.2.1.get (k := (r.length - 1)) (by rw [hr.2.2]; omega)) (tw_len _ (Nat.le_refl _) hx (init_32 hr.2.1)).2)) ?_
    rintro _ h119 ⟨rfl,g⟩
    replace e0 := e0.ext g
    replace m3 := Ext.blk g m3
    replace m8 := Ext.blk g m8
    replace m13 := Ext.blk g m13
    replace m77 := Ext.blk g m77
    replace m106 := Ext.blk g m106
    replace m111 := Ext.blk g m111
    replace sep := sep.up g.size
    clear g
    refine SimK.eff0 (i := 7) (D' := 255) (X' := 191) (by kernel_rfl) (by kernel_rfl) (by kernel_rfl) (by kernel_rfl) (Does.store (b := h1.size) (off := 0) (vs := (nodeH (r.getD (r.length - 1) []) ((twV x (m - half n) (n - half n) (initH r) false).1)).map bv) (l := z32.map bv) (storeOp_of (by kernel_rfl) (hlm (node_len _ _))) m8 (hfit rfl (node_len _ _)) (ones_map _)) ?_
    rintro _ h120 ⟨rfl,hh⟩
    have g121 : Grew (some (h1.size)) h119 h120 := hput_gr hh
    replace m8 : h120[h1.size]? = some (.cells ((nodeH (r.getD (r.length - 1) []) ((twV x (m - half n) (n - half n) (initH r) false).1)).map bv).toArray 23) := hput_at (off := 0) (vs := (nodeH (r.getD (r.length - 1) []) ((twV x (m - half n) (n - half n) (initH r) false).1)).map bv) (l := (z32.map bv)) hh (hsplice rfl (node_len _ _)) m8
    clear hh
    replace e0 := e0.grew g121 (sep.low 4 rfl)
    replace m3 := Grew.blk g121 m3 ((sep.bp 5 4 rfl rfl (by decide)))
    replace m13 := Grew.blk g121 m13 ((sep.bp 3 4 rfl rfl (by decide)))
    replace m77 := Grew.blk g121 m77 ((sep.bp 2 4 rfl rfl (by decide)))
    replace m106 := Grew.blk g121 m106 ((sep.bp 1 4 rfl rfl (by decide)))
    replace m111 := Grew.blk g121 m111 ((sep.bp 0 4 rfl rfl (by decide)))
    replace sep := sep.up g121.size
    refine SimK.eff0 (i := 8) (D' := 511) (X' := 447) (by kernel_rfl) (by kernel_rfl) (by kernel_rfl) (by kernel_rfl) (Does.store (b := h6.size) (off := 0) (vs := (nodeH (r.getD (r.length - 1) []) ((twV x (m - half n) (n - half n) (initH r) false).2.1)).map bv) (l := z32.map bv) (storeOp_of (by kernel_rfl) (hlm (node_len _ _))) m13 (hfit rfl (node_len _ _)) (ones_map _)) ?_
    rintro _ h122 ⟨rfl,hh⟩
    have g123 : Grew (some (h6.size)) h120 h122 := hput_gr hh
    replace m13 : h122[h6.size]? = some (.cells ((nodeH (r.getD (r.length - 1) []) ((twV x (m - half n) (n - half n) (initH r) false).2.1)).map bv).toArray 23) := hput_at (off := 0) (vs := (nodeH (r.getD (r.length - 1) []) ((twV x (m - half n) (n - half n) (initH r) false).2.1)).map bv) (l := (z32.map bv)) hh (hsplice rfl (node_len _ _)) m13
    clear hh
    replace e0 := e0.grew g123 (sep.low 3 rfl)
    replace m3 := Grew.blk g123 m3 ((sep.bp 5 3 rfl rfl (by decide)))
    replace m8 := Grew.blk g123 m8 ((sep.bp 4 3 rfl rfl (by decide)))
    replace m77 := Grew.blk g123 m77 ((sep.bp 2 3 rfl rfl (by decide)))
    replace m106 := Grew.blk g123 m106 ((sep.bp 1 3 rfl rfl (by decide)))
    replace m111 := Grew.blk g123 m111 ((sep.bp 0 3 rfl rfl (by decide)))
    replace sep := sep.up g123.size
    refine mP 1023 [9] [.bool ((twV x (m - half n) (n - half n) (initH r) false).2.2)] ?_
    refine mD [(10,.pointer (some ⟨h1.size,0,none⟩)),(11,.pointer (some ⟨h6.size,0,none⟩)),(12,.bool ((twV x (m - half n) (n - half n) (initH r) false).2.2))] ?_
    clear hF a; intro a hF
    refine tK ?_
    refine C.ret (by kernel_rfl) ?_
    show retK Tryd.prog Tryd.f33 (fun v h' => v = .tuple #[hv (twV x m n r true).1,hv (twV x m n r true).2.1,.bool (twV x m n r true).2.2] ∧ Ext h h') .ret a h122
    refine ret_ok [.cell 10 23,.cell 11 23,.tmp 12] [.agg ((nodeH (r.getD (r.length - 1) []) ((twV x (m - half n) (n - half n) (initH r) false).1)).map bv).toArray,.agg ((nodeH (r.getD (r.length - 1) []) ((twV x (m - half n) (n - half n) (initH r) false).2.1)).map bv).toArray,.bool ((twV x (m - half n) (n - half n) (initH r) false).2.2)] (.tuple #[.agg ((nodeH (r.getD (r.length - 1) []) ((twV x (m - half n) (n - half n) (initH r) false).1)).map bv).toArray,.agg ((nodeH (r.getD (r.length - 1) []) ((twV x (m - half n) (n - half n) (initH r) false).2.1)).map bv).toArray,.bool ((twV x (m - half n) (n - half n) (initH r) false).2.2)]) rfl hF ⟨⟨_,rfl,Loads.hash (by kernel_rfl) (node_len _ _) m8⟩,⟨_,rfl,Loads.hash (by kernel_rfl) (node_len _ _) m13⟩,rfl,trivial⟩ rfl ?_
    exact ⟨by rw [tw_hi hr0 (by omega) (by omega)] <;> rfl,e0⟩
 ·skip
  refine cP 1 hF ?_
  refine sP 2 [.int .i64 ((m : Nat) : Int),.int .i64 ((n : Nat) : Int)] ?_
  refine s1 3 (.bool true) (.bool (((m : Nat) : Int) == ((n : Nat) : Int))) (congrArg Value.bool (beq_iff_eq.2 (by omega))) ?_
  refine sP 6 [.bool true,.bool false,.bool false] ?_
  refine sD [(0,.int .i64 ((m : Nat) : Int)),(1,.int .i64 ((n : Nat) : Int)),(3,.slice va r.length vc),(4,.bool false),(7,.pointer (some ⟨h.size,0,none⟩)),(10,.pointer (some ⟨h1.size,0,none⟩)),(11,.pointer (some ⟨h6.size,0,none⟩)),(27,.bool false)] ?_
  clear hF a; intro a hF
  refine tK ?_
  refine C.condF 27 [1,0,1,0] [1,0,1,1] (by kernel_rfl) hF (fun _ => rfl) ?_
  refine C.skip (by kernel_rfl) ?_
  refine tK ?_
  refine cS ?_
  refine cS ?_
  refine cP 3 hF ?_
  refine sP 3 [.slice va r.length vc,.int .i64 ((r.length : Nat) : Int),.bool (decide (((r.length : Nat) : Int) = (0 : Int)))] ?_
  refine sD [(0,.int .i64 ((m : Nat) : Int)),(1,.int .i64 ((n : Nat) : Int)),(3,.slice va r.length vc),(4,.bool false),(7,.pointer (some ⟨h.size,0,none⟩)),(10,.pointer (some ⟨h1.size,0,none⟩)),(11,.pointer (some ⟨h6.size,0,none⟩)),(35,.bool (decide (((r.length : Nat) : Int) = (0 : Int))))] ?_
  clear hF a; intro a hF
  refine tK ?_
  refine C.condS 35 (decide (((r.length : Nat) : Int) = (0 : Int))) [1,1,0,1,0] [1,1,0,1,1] (by kernel_rfl) hF (fun _ => rfl) (fun hc124 => ?_) (fun hc124 => ?_)
  ·skip
   replace hc124 := of_decide_eq_true hc124
   refine cS ?_
   refine cD [0,0,1,7,15] 4 mixed hF ?_
   refine mL 1 1 0 (.agg (x.map bv).toArray) (Calm.load (T := 23) (p := ⟨h.size,0,none⟩) (by kernel_rfl) (Loads.hash (by kernel_rfl) hx m3)) ?_
   refine mL 3 3 1 (.agg (x.map bv).toArray) (Calm.load (T := 23) (p := ⟨h.size,0,none⟩) (by kernel_rfl) (Loads.hash (by kernel_rfl) hx m3)) ?_
   refine SimK.eff (i := 2) (D' := 7) (X' := 5) (by kernel_rfl) (by kernel_rfl) (by kernel_rfl) [1] (by kernel_rfl) (Does.store (b := h1.size) (off := 0) (vs := x.map bv) (l := z32.map bv) (storeOp_of (by kernel_rfl) (hlm hx)) m8 (hfit rfl hx) (ones_map _)) ?_
   rintro _ h125 ⟨rfl,hh⟩
   have g126 : Grew (some (h1.size)) h11 h125 := hput_gr hh
   replace m8 : h125[h1.size]? = some (.cells (x.map bv).toArray 23) := hput_at (off := 0) (vs := x.map bv) (l := (z32.map bv)) hh (hsplice rfl hx) m8
   clear hh
   replace e0 := e0.grew g126 (sep.low 1 rfl)
   replace m3 := Grew.blk g126 m3 ((sep.bp 2 1 rfl rfl (by decide)))
   replace m13 := Grew.blk g126 m13 ((sep.bp 0 1 rfl rfl (by decide)))
   replace sep := sep.up g126.size
   refine ⟨?_,?_⟩
   ·intro j hj
    simp only [List.mem_cons,List.not_mem_nil,or_false] at hj
    subst hj
    exact goodOf (Calm.load (T := 23) (p := ⟨h.size,0,none⟩) (by kernel_rfl) (Loads.hash (by kernel_rfl) hx m3))
   refine SimK.eff0 (i := 3) (D' := 15) (X' := 15) (by kernel_rfl) (by kernel_rfl) (by kernel_rfl) (by kernel_rfl) (Does.store (b := h6.size) (off := 0) (vs := x.map bv) (l := z32.map bv) (storeOp_of (by kernel_rfl) (hlm hx)) m13 (hfit rfl hx) (ones_map _)) ?_
   rintro _ h127 ⟨rfl,hh⟩
   have g128 : Grew (some (h6.size)) h125 h127 := hput_gr hh
   replace m13 : h127[h6.size]? = some (.cells (x.map bv).toArray 23) := hput_at (off := 0) (vs := x.map bv) (l := (z32.map bv)) hh (hsplice rfl hx) m13
   clear hh
   replace e0 := e0.grew g128 (sep.low 0 rfl)
   replace m3 := Grew.blk g128 m3 ((sep.bp 2 0 rfl rfl (by decide)))
   replace m8 := Grew.blk g128 m8 ((sep.bp 1 0 rfl rfl (by decide)))
   replace sep := sep.up g128.size
   refine mP 31 [4] [.bool false] ?_
   refine mD [(10,.pointer (some ⟨h1.size,0,none⟩)),(11,.pointer (some ⟨h6.size,0,none⟩)),(12,.bool false)] ?_
   clear hF a; intro a hF
   refine tK ?_
   refine C.ret (by kernel_rfl) ?_
   show retK Tryd.prog Tryd.f33 (fun v h' => v = .tuple #[hv (twV x m n r false).1,hv (twV x m n r false).2.1,.bool (twV x m n r false).2.2] ∧ Ext h h') .ret a h127
   refine ret_ok [.cell 10 23,.cell 11 23,.tmp 12] [.agg (x.map bv).toArray,.agg (x.map bv).toArray,.bool false] (.tuple #[.agg (x.map bv).toArray,.agg (x.map bv).toArray,.bool false]) rfl hF ⟨⟨_,rfl,Loads.hash (by kernel_rfl) hx m8⟩,⟨_,rfl,Loads.hash (by kernel_rfl) hx m13⟩,rfl,trivial⟩ rfl ?_
   exact ⟨by rw [tw_none (by simp) (by omega)] <;> rfl,e0⟩
  ·skip
   replace hc124 := of_decide_eq_false hc124
   have hr0 : 0 < r.length := by omega
   obtain ⟨aa,rfl,hcap⟩ := hr.someA (by omega)
   refine C.skip (by kernel_rfl) ?_
   refine tK ?_
   refine cS ?_
   refine cP 5 hF ?_
   refine sP 3 [.slice (some aa) r.length vc,.slice (some aa) r.length vc,.int .i64 ((r.length : Nat) : Int)] ?_
   refine s1 4 (.int .i64 ((r.length - 1 : Nat) : Int)) (.int .i64 (IntKind.i64.wrap (((r.length : Nat) : Int) - 1))) (congrArg (Value.int .i64) (w64' (by omega) (by omega) (by omega))) ?_
   refine sC 5 (.pointer (some (Addr.add aa ((r.length - 1) * 32)))) ((Calm.indexA (a := aa) (len := r.length) (sz := 32) (k := ((r.length - 1 : Nat) : Int)) (r.length - 1) ((r.length - 1) * 32) (by kernel_rfl) rfl (by omega) (by omega)) _) ?_
   refine sC 6 (.agg ((r.getD (r.length - 1) []).map bv).toArray) (Calm.load (T := 23) (p := (Addr.add aa ((r.length - 1) * 32))) (by kernel_rfl) (HR.loads (k := (r.length - 1)) (q := (r.length - 1) * 32) (hr.ext e0) (by kernel_rfl) (by omega) (by omega))) ?_
   refine SeqK.eff (k' := 7) (Does.new (v := .pointer (some ⟨h11.size,0,none⟩)) (o := .cells (z32.map bv).toArray 23) (by kernel_rfl)) rfl ?_
   rintro _ h129 ⟨rfl,hh⟩
   have g130 : Ext h11 h129 := push_ext hh
   have m131 : h129[h11.size]? = some (.cells (z32.map bv).toArray 23) := push_at hh
   clear hh
   have lt132 := blk_lt m131
   have zs133 := e0.size
   have hlo := e0.size
   have sepo := sep
   replace e0 := e0.ext g130
   replace m3 := Ext.blk g130 m3
   replace m8 := Ext.blk g130 m8
   replace m13 := Ext.blk g130 m13
   replace sep := sep.up g130.size
   replace sep := sepo.new hlo (blk_lt m131)
   clear sepo hlo
   refine SeqK.eff (k' := 8) (Does.store (b := h11.size) (off := 0) (vs := (r.getD (r.length - 1) []).map bv) (l := z32.map bv) (storeOp_of (by kernel_rfl) (hlm (hr.2.1.get (k := (r.length - 1)) (by rw [hr.2.2]; omega)))) m131 (hfit rfl (hr.2.1.get (k := (r.length - 1)) (by rw [hr.2.2]; omega))) (ones_map _)) rfl ?_
   rintro _ h134 ⟨rfl,hh⟩
   have g135 : Grew (some (h11.size)) h129 h134 := hput_gr hh
   replace m131 : h134[h11.size]? = some (.cells ((r.getD (r.length - 1) []).map bv).toArray 23) := hput_at (off := 0) (vs := (r.getD (r.length - 1) []).map bv) (l := (z32.map bv)) hh (hsplice rfl (hr.2.1.get (k := (r.length - 1)) (by rw [hr.2.2]; omega))) m131
   clear hh
   replace e0 := e0.grew g135 (sep.low 0 rfl)
   replace m3 := Grew.blk g135 m3 ((sep.bp 3 0 rfl rfl (by decide)))
   replace m8 := Grew.blk g135 m8 ((sep.bp 2 0 rfl rfl (by decide)))
   replace m13 := Grew.blk g135 m13 ((sep.bp 1 0 rfl rfl (by decide)))
   replace sep := sep.up g135.size
   refine sD [(0,.int .i64 ((m : Nat) : Int)),(1,.int .i64 ((n : Nat) : Int)),(3,.slice (some aa) r.length vc),(4,.bool false),(7,.pointer (some ⟨h.size,0,none⟩)),(10,.pointer (some ⟨h1.size,0,none⟩)),(11,.pointer (some ⟨h6.size,0,none⟩)),(13,.pointer (some ⟨h11.size,0,none⟩))] ?_
   clear hF a; intro a hF
   refine tK ?_
   refine cS ?_
   refine cP 6 hF ?_
   refine sP 3 [.slice (some aa) r.length vc,.slice (some aa) r.length vc,.int .i64 ((r.length : Nat) : Int)] ?_
   refine s1 4 (.int .i64 ((r.length - 1 : Nat) : Int)) (.int .i64 (IntKind.i64.wrap (((r.length : Nat) : Int) - 1))) (congrArg (Value.int .i64) (w64' (by omega) (by omega) (by omega))) ?_
   refine sC 5 (.slice (some aa) (r.length - 1) vc) ((fun h => Calm.sliceO (a := (some aa)) (len := r.length) (cap := vc) (sz := 32) (x := (some aa)) 0 (r.length - 1) vc (r.length - 1) vc (by kernel_rfl) (.inl ⟨rfl,rfl⟩) (.inr rfl) (.inl ⟨rfl,rfl⟩) (by omega) (by omega) (opt_add0 _ 32) (by first | rfl | omega) (by first | rfl | omega) h) _) ?_
   refine sP 6 [.slice (some aa) (r.length - 1) vc] ?_
   refine sD [(0,.int .i64 ((m : Nat) : Int)),(1,.int .i64 ((n : Nat) : Int)),(4,.bool false),(7,.pointer (some ⟨h.size,0,none⟩)),(10,.pointer (some ⟨h1.size,0,none⟩)),(11,.pointer (some ⟨h6.size,0,none⟩)),(13,.pointer (some ⟨h11.size,0,none⟩)),(14,.slice (some aa) (r.length - 1) vc)] ?_
   clear hF a; intro a hF
   refine tK ?_
   refine cS ?_
   refine cS ?_
   refine cP 7 hF ?_
   refine sP 2 [.int .i64 ((m : Nat) : Int),.int .i64 ((n : Nat) : Int)] ?_
   refine s1 3 (.bool true) (.bool (((m : Nat) : Int) == ((n : Nat) : Int))) (congrArg Value.bool (beq_iff_eq.2 (by omega))) ?_
   refine sD [(0,.int .i64 ((m : Nat) : Int)),(1,.int .i64 ((n : Nat) : Int)),(4,.bool false),(7,.pointer (some ⟨h.size,0,none⟩)),(10,.pointer (some ⟨h1.size,0,none⟩)),(11,.pointer (some ⟨h6.size,0,none⟩)),(13,.pointer (some ⟨h11.size,0,none⟩)),(14,.slice (some aa) (r.length - 1) vc),(51,.bool true)] ?_
   clear hF a; intro a hF
   refine tK ?_
   refine C.condT 51 [1,1,1,1,1,0,1,0] [1,1,1,1,1,0,1,1] (by kernel_rfl) hF (fun _ => rfl) ?_
   refine cS ?_
   refine cD [0,0,0,4,12,1,35,127] 8 mixed hF ?_
   refine mL 1 1 0 (.agg ((r.getD (r.length - 1) []).map bv).toArray) (Calm.load (T := 23) (p := ⟨h11.size,0,none⟩) (by kernel_rfl) (Loads.hash (by kernel_rfl) (hr.2.1.get (k := (r.length - 1)) (by rw [hr.2.2]; omega)) m131)) ?_
   refine mL 3 3 1 (.agg ((r.getD (r.length - 1) []).map bv).toArray) (Calm.load (T := 23) (p := ⟨h11.size,0,none⟩) (by kernel_rfl) (Loads.hash (by kernel_rfl) (hr.2.1.get (k := (r.length - 1)) (by rw [hr.2.2]; omega)) m131)) ?_
   refine mP 31 [2,3,4] [.slice (some aa) (r.length - 1) vc,.int .i64 ((r.length - 1 : Nat) : Int),.bool (decide (((r.length - 1 : Nat) : Int) = (0 : Int)))] ?_
   refine SimK.eff (i := 5) (D' := 63) (X' := 33) (by kernel_rfl) (by kernel_rfl) (by kernel_rfl) [1] (by kernel_rfl) (Does.store (b := h1.size) (off := 0) (vs := (r.getD (r.length - 1) []).map bv) (l := z32.map bv) (storeOp_of (by kernel_rfl) (hlm (hr.2.1.get (k := (r.length - 1)) (by rw [hr.2.2]; omega)))) m8 (hfit rfl (hr.2.1.get (k := (r.length - 1)) (by rw [hr.2.2]; omega))) (ones_map _)) ?_
   rintro _ h136 ⟨rfl,hh⟩
   have g137 : Grew (some (h1.size)) h134 h136 := hput_gr hh
   replace m8 : h136[h1.size]? = some (.cells ((r.getD (r.length - 1) []).map bv).toArray 23) := hput_at (off := 0) (vs := (r.getD (r.length - 1) []).map bv) (l := (z32.map bv)) hh (hsplice rfl (hr.2.1.get (k := (r.length - 1)) (by rw [hr.2.2]; omega))) m8
   clear hh
   replace e0 := e0.grew g137 (sep.low 2 rfl)
   replace m3 := Grew.blk g137 m3 ((sep.bp 3 2 rfl rfl (by decide)))
   replace m13 := Grew.blk g137 m13 ((sep.bp 1 2 rfl rfl (by decide)))
   replace m131 := Grew.blk g137 m131 ((sep.bp 0 2 rfl rfl (by decide)))
   replace sep := sep.up g137.size
   refine ⟨?_,?_⟩
   ·intro j hj
    simp only [List.mem_cons,List.not_mem_nil,or_false] at hj
    subst hj
    exact goodOf (Calm.load (T := 23) (p := ⟨h11.size,0,none⟩) (by kernel_rfl) (Loads.hash (by kernel_rfl) (hr.2.1.get (k := (r.length - 1)) (by rw [hr.2.2]; omega)) m131))
   refine SimK.eff0 (i := 6) (D' := 127) (X' := 99) (by kernel_rfl) (by kernel_rfl) (by kernel_rfl) (by kernel_rfl) (Does.store (b := h6.size) (off := 0) (vs := (r.getD (r.length - 1) []).map bv) (l := z32.map bv) (storeOp_of (by kernel_rfl) (hlm (hr.2.1.get (k := (r.length - 1)) (by rw [hr.2.2]; omega)))) m13 (hfit rfl (hr.2.1.get (k := (r.length - 1)) (by rw [hr.2.2]; omega))) (ones_map _)) ?_
   rintro _ h138 ⟨rfl,hh⟩
   have g139 : Grew (some (h6.size)) h136 h138 := hput_gr hh
   replace m13 : h138[h6.size]? = some (.cells ((r.getD (r.length - 1) []).map bv).toArray 23) := hput_at (off := 0) (vs := (r.getD (r.length - 1) []).map bv) (l := (z32.map bv)) hh (hsplice rfl (hr.2.1.get (k := (r.length - 1)) (by rw [hr.2.2]; omega))) m13
   clear hh
   replace e0 := e0.grew g139 (sep.low 1 rfl)
   replace m3 := Grew.blk g139 m3 ((sep.bp 3 1 rfl rfl (by decide)))
   replace m8 := Grew.blk g139 m8 ((sep.bp 2 1 rfl rfl (by decide)))
   replace m131 := Grew.blk g139 m131 ((sep.bp 0 1 rfl rfl (by decide)))
   replace sep := sep.up g139.size
   refine mP 255 [7] [.bool (decide (((r.length - 1 : Nat) : Int) = (0 : Int)))] ?_
   refine mD [(10,.pointer (some ⟨h1.size,0,none⟩)),(11,.pointer (some ⟨h6.size,0,none⟩)),(12,.bool (decide (((r.length - 1 : Nat) : Int) = (0 : Int))))] ?_
   clear hF a; intro a hF
   refine tK ?_
   refine C.ret (by kernel_rfl) ?_
   show retK Tryd.prog Tryd.f33 (fun v h' => v = .tuple #[hv (twV x m n r false).1,hv (twV x m n r false).2.1,.bool (twV x m n r false).2.2] ∧ Ext h h') .ret a h138
   refine ret_ok [.cell 10 23,.cell 11 23,.tmp 12] [.agg ((r.getD (r.length - 1) []).map bv).toArray,.agg ((r.getD (r.length - 1) []).map bv).toArray,.bool (decide (((r.length - 1 : Nat) : Int) = (0 : Int)))] (.tuple #[.agg ((r.getD (r.length - 1) []).map bv).toArray,.agg ((r.getD (r.length - 1) []).map bv).toArray,.bool (decide (((r.length - 1 : Nat) : Int) = (0 : Int)))]) rfl hF ⟨⟨_,rfl,Loads.hash (by kernel_rfl) (hr.2.1.get (k := (r.length - 1)) (by rw [hr.2.2]; omega)) m8⟩,⟨_,rfl,Loads.hash (by kernel_rfl) (hr.2.1.get (k := (r.length - 1)) (by rw [hr.2.2]; omega)) m13⟩,rfl,trivial⟩ rfl ?_
   exact ⟨by rw [tw_end (by simp) hr0 (by omega),initH_len]; simp [hv,lastH],e0⟩
 ·skip
  refine cP 1 hF ?_
  refine sP 2 [.int .i64 ((m : Nat) : Int),.int .i64 ((n : Nat) : Int)] ?_
  refine s1 3 (.bool true) (.bool (((m : Nat) : Int) == ((n : Nat) : Int))) (congrArg Value.bool (beq_iff_eq.2 (by omega))) ?_
  refine sP 6 [.bool true,.bool true,.bool true] ?_
  refine sD [(0,.int .i64 ((m : Nat) : Int)),(1,.int .i64 ((n : Nat) : Int)),(3,.slice va r.length vc),(4,.bool true),(7,.pointer (some ⟨h.size,0,none⟩)),(10,.pointer (some ⟨h1.size,0,none⟩)),(11,.pointer (some ⟨h6.size,0,none⟩)),(27,.bool true)] ?_
  clear hF a; intro a hF
  refine tK ?_
  refine C.condT 27 [1,0,1,0] [1,0,1,1] (by kernel_rfl) hF (fun _ => rfl) ?_
  refine cS ?_
  refine cD [0,0,0,4,12,1,35,127] 2 mixed hF ?_
  refine mL 1 1 0 (.agg (x.map bv).toArray) (Calm.load (T := 23) (p := ⟨h.size,0,none⟩) (by kernel_rfl) (Loads.hash (by kernel_rfl) hx m3)) ?_
  refine mL 3 3 1 (.agg (x.map bv).toArray) (Calm.load (T := 23) (p := ⟨h.size,0,none⟩) (by kernel_rfl) (Loads.hash (by kernel_rfl) hx m3)) ?_
  refine mP 31 [2,3,4] [.slice va r.length vc,.int .i64 ((r.length : Nat) : Int),.bool (decide (((r.length : Nat) : Int) = (0 : Int)))] ?_
  refine SimK.eff (i := 5) (D' := 63) (X' := 33) (by kernel_rfl) (by kernel_rfl) (by kernel_rfl) [1] (by kernel_rfl) (Does.store (b := h1.size) (off := 0) (vs := x.map bv) (l := z32.map bv) (storeOp_of (by kernel_rfl) (hlm hx)) m8 (hfit rfl hx) (ones_map _)) ?_
  rintro _ h140 ⟨rfl,hh⟩
  have g141 : Grew (some (h1.size)) h11 h140 := hput_gr hh
  replace m8 : h140[h1.size]? = some (.cells (x.map bv).toArray 23) := hput_at (off := 0) (vs := x.map bv) (l := (z32.map bv)) hh (hsplice rfl hx) m8
  clear hh
  replace e0 := e0.grew g141 (sep.low 1 rfl)
  replace m3 := Grew.blk g141 m3 ((sep.bp 2 1 rfl rfl (by decide)))
  replace m13 := Grew.blk g141 m13 ((sep.bp 0 1 rfl rfl (by decide)))
  replace sep := sep.up g141.size
  refine ⟨?_,?_⟩
  ·intro j hj
   simp only [List.mem_cons,List.not_mem_nil,or_false] at hj
   subst hj
   exact goodOf (Calm.load (T := 23) (p := ⟨h.size,0,none⟩) (by kernel_rfl) (Loads.hash (by kernel_rfl) hx m3))
  refine SimK.eff0 (i := 6) (D' := 127) (X' := 99) (by kernel_rfl) (by kernel_rfl) (by kernel_rfl) (by kernel_rfl) (Does.store (b := h6.size) (off := 0) (vs := x.map bv) (l := z32.map bv) (storeOp_of (by kernel_rfl) (hlm hx)) m13 (hfit rfl hx) (ones_map _)) ?_
  rintro _ h142 ⟨rfl,hh⟩
  have g143 : Grew (some (h6.size)) h140 h142 := hput_gr hh
  replace m13 : h142[h6.size]? = some (.cells (x.map bv).toArray 23) := hput_at (off := 0) (vs := x.map bv) (l := (z32.map bv)) hh (hsplice rfl hx) m13
  clear hh
  replace e0 := e0.grew g143 (sep.low 0 rfl)
  replace m3 := Grew.blk g143 m3 ((sep.bp 2 0 rfl rfl (by decide)))
  replace m8 := Grew.blk g143 m8 ((sep.bp 1 0 rfl rfl (by decide)))
  replace sep := sep.up g143.size
  refine mP 255 [7] [.bool (decide (((r.length : Nat) : Int) = (0 : Int)))] ?_
  refine mD [(10,.pointer (some ⟨h1.size,0,none⟩)),(11,.pointer (some ⟨h6.size,0,none⟩)),(12,.bool (decide (((r.length : Nat) : Int) = (0 : Int))))] ?_
  clear hF a; intro a hF
  refine tK ?_
  refine C.ret (by kernel_rfl) ?_
  show retK Tryd.prog Tryd.f33 (fun v h' => v = .tuple #[hv (twV x m n r true).1,hv (twV x m n r true).2.1,.bool (twV x m n r true).2.2] ∧ Ext h h') .ret a h142
  refine ret_ok [.cell 10 23,.cell 11 23,.tmp 12] [.agg (x.map bv).toArray,.agg (x.map bv).toArray,.bool (decide (((r.length : Nat) : Int) = (0 : Int)))] (.tuple #[.agg (x.map bv).toArray,.agg (x.map bv).toArray,.bool (decide (((r.length : Nat) : Int) = (0 : Int)))]) rfl hF ⟨⟨_,rfl,Loads.hash (by kernel_rfl) hx m8⟩,⟨_,rfl,Loads.hash (by kernel_rfl) hx m13⟩,rfl,trivial⟩ rfl ?_
  exact ⟨by rw [tw_all ⟨by omega,rfl⟩]; simp [hv],e0⟩
theorem rtwo_all (x : Hs) (hx : x.length = 32) (va : Option Addr) (vc : Nat) : ∀ (q : Nat) (h : Heap) (m n : Nat) (r : List Hs) (whole : Bool) (k : Nat),r.length = k → k ≤ q → q ≤ 1099511627776 → HR h va vc k r → 0 < m → m ≤ n → n ≤ 9223372036854775807 → Sat Tryd.prog 33 #[.int .i64 ((m : Nat) : Int),.int .i64 ((n : Nat) : Int),.agg (x.map bv).toArray,.slice va k vc,.bool whole] h (fun v h' => v = .tuple #[hv (twV x m n r whole).1,hv (twV x m n r whole).2.1,.bool (twV x m n r whole).2.2] ∧ Ext h h')
 | 0,h,m,n,r,whole,k,hk,hq,hql,hr,hm0,hmn,hn => by subst hk; exact rtwo_step x hx va vc r.length (fun _ _ _ _ _ _ _ hlt => by omega) h m n r whole rfl hr hm0 hmn hn (by omega)
 | q + 1,h,m,n,r,whole,k,hk,hq,hql,hr,hm0,hmn,hn => by subst hk; exact rtwo_step x hx va vc r.length (fun h m n r whole k hk hlt hr hm0 hmn hn => rtwo_all x hx va vc q h m n r whole k hk (by omega) (by omega) hr hm0 hmn hn) h m n r whole rfl hr hm0 hmn hn (by omega)
noncomputable def b15 : Code := Tryd.f15.body.getD .skip
set_option maxHeartbeats 1000000 in
theorem rcons6_sat (h : Heap) (m n : Int) (x t : Hs) (r : List Hs) (va : Option Addr) (vc : Nat) (hx : x.length = 32) (ht : t.length = 32) (hr : HR h va vc r.length r) (hrl : r.length ≤ 1099511627776) (hn : n ≤ 9223372036854775807) : Sat Tryd.prog 15 #[.int .i64 m,.int .i64 n,.agg (x.map bv).toArray,.agg (t.map bv).toArray,.slice va r.length vc] h fun v h' => v = .bool (consB m n x t r) ∧ Ext h h' := by
 have e0 := Ext.refl h
 have sep : Sep h.size h.size [] := Sep.nil _ _
 refine sat_of (args := [.int .i64 m,.int .i64 n,.agg (x.map bv).toArray,.agg (t.map bv).toArray,.slice va r.length vc]) (fn := Tryd.f15) (B := b15) (n := 60) (L := [(0,.int .i64 m),(1,.int .i64 n),(2,.agg (x.map bv).toArray),(3,.agg (t.map bv).toArray),(4,.slice va r.length vc)]) Tryd.func15 rfl (by kernel_rfl) rfl ?_
 intro a hF
 refine cS ?_
 refine cP 0 hF ?_
 refine SeqK.eff (k' := 1) (Does.new (v := .pointer (some ⟨h.size,0,none⟩)) (o := .cells (x.map bv).toArray 23) (by kernel_rfl)) rfl ?_
 rintro _ h1 ⟨rfl,hh⟩
 have g2 : Ext h h1 := push_ext hh
 have m3 : h1[h.size]? = some (.cells (x.map bv).toArray 23) := push_at hh
 clear hh
 have lt4 := blk_lt m3
 have zs5 := e0.size
 have hlo := e0.size
 have sepo := sep
 replace e0 := e0.ext g2
 replace sep := sep.up g2.size
 replace sep := sepo.new hlo (blk_lt m3)
 clear sepo hlo
 refine SeqK.eff (k' := 2) (Does.new (v := .pointer (some ⟨h1.size,0,none⟩)) (o := .cells (t.map bv).toArray 23) (by kernel_rfl)) rfl ?_
 rintro _ h6 ⟨rfl,hh⟩
 have g7 : Ext h1 h6 := push_ext hh
 have m8 : h6[h1.size]? = some (.cells (t.map bv).toArray 23) := push_at hh
 clear hh
 have lt9 := blk_lt m8
 have zs10 := e0.size
 have hlo := e0.size
 have sepo := sep
 replace e0 := e0.ext g7
 replace m3 := Ext.blk g7 m3
 replace sep := sep.up g7.size
 replace sep := sepo.new hlo (blk_lt m8)
 clear sepo hlo
 refine sP 3 [.bool false] ?_
 refine sD [(0,.int .i64 m),(1,.int .i64 n),(4,.slice va r.length vc),(7,.pointer (some ⟨h.size,0,none⟩)),(8,.pointer (some ⟨h1.size,0,none⟩))] ?_
 clear hF a; intro a hF
 refine tK ?_
 refine cS ?_
 refine cS ?_
 rcases ccases4 m n with hm0 | hm0 | ⟨ni,rfl,rfl⟩ | ⟨mi,ni,rfl,rfl,hmn,hmi0⟩
 ·skip
  refine cP 1 hF ?_
  refine sP 1 [.int .i64 m] ?_
  refine s1 2 (.bool true) (.bool (decide (m < (0 : Int)))) (congrArg Value.bool (decide_eq_true (by omega))) ?_
  refine sP 7 [.bool true,undef,undef,undef,.bool true] ?_
  refine sD [(0,.int .i64 m),(1,.int .i64 n),(4,.slice va r.length vc),(7,.pointer (some ⟨h.size,0,none⟩)),(8,.pointer (some ⟨h1.size,0,none⟩)),(20,.bool true)] ?_
  clear hF a; intro a hF
  refine tK ?_
  refine C.condT 20 [1,0,1,0] [1,0,1,1] (by kernel_rfl) hF (fun _ => rfl) ?_
  refine cS ?_
  refine cP 2 hF ?_
  refine sP 1 [.bool false] ?_
  refine sD [(10,.bool false)] ?_
  clear hF a; intro a hF
  refine tK ?_
  refine C.ret (by kernel_rfl) ?_
  show retK Tryd.prog Tryd.f15 (fun v h' => v = .bool (consB m n x t r) ∧ Ext h h') .ret a h6
  refine ret_ok [.tmp 10] [.bool false] (.bool false) rfl hF ⟨rfl,trivial⟩ rfl ?_
  exact ⟨by rw [consB_no (by omega)] <;> first | rfl | simp,e0⟩
 ·skip
  refine cP 1 hF ?_
  refine sP 1 [.int .i64 m] ?_
  refine s1 2 (.bool false) (.bool (decide (m < (0 : Int)))) (congrArg Value.bool (decide_eq_false (by omega))) ?_
  refine sP 5 [.bool false,.int .i64 m,.int .i64 n] ?_
  refine s1 6 (.bool true) (.bool (decide (n < m))) (congrArg Value.bool (decide_eq_true (by omega))) ?_
  refine sP 7 [.bool true] ?_
  refine sD [(0,.int .i64 m),(1,.int .i64 n),(4,.slice va r.length vc),(7,.pointer (some ⟨h.size,0,none⟩)),(8,.pointer (some ⟨h1.size,0,none⟩)),(20,.bool true)] ?_
  clear hF a; intro a hF
  refine tK ?_
  refine C.condT 20 [1,0,1,0] [1,0,1,1] (by kernel_rfl) hF (fun _ => rfl) ?_
  refine cS ?_
  refine cP 2 hF ?_
  refine sP 1 [.bool false] ?_
  refine sD [(10,.bool false)] ?_
  clear hF a; intro a hF
  refine tK ?_
  refine C.ret (by kernel_rfl) ?_
  show retK Tryd.prog Tryd.f15 (fun v h' => v = .bool (consB m n x t r) ∧ Ext h h') .ret a h6
  refine ret_ok [.tmp 10] [.bool false] (.bool false) rfl hF ⟨rfl,trivial⟩ rfl ?_
  exact ⟨by rw [consB_no (by omega)] <;> first | rfl | simp,e0⟩
 ·skip
  refine cP 1 hF ?_
  refine sP 1 [.int .i64 ((0 : Nat) : Int)] ?_
  refine s1 2 (.bool false) (.bool (decide (((0 : Nat) : Int) < (0 : Int)))) (congrArg Value.bool (decide_eq_false (by omega))) ?_
  refine sP 5 [.bool false,.int .i64 ((0 : Nat) : Int),.int .i64 ((ni : Nat) : Int)] ?_
  refine s1 6 (.bool false) (.bool (decide (((ni : Nat) : Int) < ((0 : Nat) : Int)))) (congrArg Value.bool (decide_eq_false (by omega))) ?_
  refine sP 7 [.bool false] ?_
  refine sD [(0,.int .i64 ((0 : Nat) : Int)),(1,.int .i64 ((ni : Nat) : Int)),(4,.slice va r.length vc),(7,.pointer (some ⟨h.size,0,none⟩)),(8,.pointer (some ⟨h1.size,0,none⟩)),(20,.bool false)] ?_
  clear hF a; intro a hF
  refine tK ?_
  refine C.condF 20 [1,0,1,0] [1,0,1,1] (by kernel_rfl) hF (fun _ => rfl) ?_
  refine C.skip (by kernel_rfl) ?_
  refine tK ?_
  refine cS ?_
  refine cS ?_
  refine cP 3 hF ?_
  refine sP 1 [.int .i64 ((0 : Nat) : Int)] ?_
  refine s1 2 (.bool true) (.bool (((0 : Nat) : Int) == (0 : Int))) (congrArg Value.bool (beq_iff_eq.2 (by omega))) ?_
  refine sD [(0,.int .i64 ((0 : Nat) : Int)),(1,.int .i64 ((ni : Nat) : Int)),(4,.slice va r.length vc),(7,.pointer (some ⟨h.size,0,none⟩)),(8,.pointer (some ⟨h1.size,0,none⟩)),(22,.bool true)] ?_
  clear hF a; intro a hF
  refine tK ?_
  refine C.condT 22 [1,1,0,1,0] [1,1,0,1,1] (by kernel_rfl) hF (fun _ => rfl) ?_
  refine cS ?_
  rcases zcases r.length ni x (root []) t with hz1 | ⟨hz1,hz2⟩ | ⟨hz1,hz2,hz3⟩ | ⟨hz1,hz2,hz3,hz4⟩ | ⟨hz1,hz2,hz3,hz4⟩
  ·skip
   refine cD [0,1,3,7,15,15,63,127,255,511,1023,2047,4095,4095,16383,32767,65535,131071] 4 mixed hF ?_
   refine mP 3 [0,1] [.slice va r.length vc,.int .i64 ((r.length : Nat) : Int)] ?_
   refine m1 7 2 (.bool false) (.bool (((r.length : Nat) : Int) == (0 : Int))) (congrArg Value.bool (beq_eq_false_iff_ne.2 (by omega))) ?_
   refine mP 262143 [3,4,5,6,7,8,9,10,11,12,13,14,15,16,17] [.bool false,undef,undef,undef,.bool false,.bool false,undef,undef,undef,undef,undef,undef,undef,.bool false,.bool false] ?_
   refine mD [(10,.bool false)] ?_
   clear hF a; intro a hF
   refine tK ?_
   refine C.ret (by kernel_rfl) ?_
   show retK Tryd.prog Tryd.f15 (fun v h' => v = .bool (consB ((0 : Nat) : Int) (ni : Int) x t r) ∧ Ext h h') .ret a h6
   refine ret_ok [.tmp 10] [.bool false] (.bool false) rfl hF ⟨rfl,trivial⟩ rfl ?_
   exact ⟨by rw [consB_zero,decide_eq_false hz1] <;> first | rfl | simp,e0⟩
  ·skip
   refine cD [0,1,3,7,15,15,63,127,255,511,1023,2047,4095,4095,16383,32767,65535,131071] 4 mixed hF ?_
   refine mP 3 [0,1] [.slice va r.length vc,.int .i64 ((r.length : Nat) : Int)] ?_
   refine m1 7 2 (.bool true) (.bool (((r.length : Nat) : Int) == (0 : Int))) (congrArg Value.bool (beq_iff_eq.2 (by omega))) ?_
   refine mP 15 [3] [.bool true] ?_
   refine mL 31 16 4 (.agg (x.map bv).toArray) (Calm.load (T := 23) (p := ⟨h.size,0,none⟩) (by kernel_rfl) (Loads.hash (by kernel_rfl) hx m3)) ?_
   refine SimK.eff (i := 5) (D' := 63) (X' := 47) (by kernel_rfl) (by kernel_rfl) (by kernel_rfl) [4] (by kernel_rfl) (Does.call (f := 17) (args := #[.slice none 0 0]) (by kernel_rfl) (rroot_sat _ [] none 0 0 (HR.nil _) (by decide))) ?_
   rintro _ h11 ⟨rfl,g⟩
   replace e0 := e0.ext g
   replace m3 := Ext.blk g m3
   replace m8 := Ext.blk g m8
   replace sep := sep.up g.size
   refine ⟨?_,?_⟩
   ·intro j hj
    simp only [List.mem_cons,List.not_mem_nil,or_false] at hj
    subst hj
    exact goodOf (Calm.load (T := 23) (p := ⟨h.size,0,none⟩) (by kernel_rfl) (Loads.hash (by kernel_rfl) hx m3))
   clear g
   refine mF 127 6 (.bool false) (eqHF (q := true) (l := x) (r := root []) (n := 32) (by kernel_rfl) hx (root_len All32.nil) hz2) ?_
   refine mP 262143 [7,8,9,10,11,12,13,14,15,16,17] [.bool false,.bool false,undef,undef,undef,undef,undef,undef,undef,.bool false,.bool false] ?_
   refine mD [(10,.bool false)] ?_
   clear hF a; intro a hF
   refine tK ?_
   refine C.ret (by kernel_rfl) ?_
   show retK Tryd.prog Tryd.f15 (fun v h' => v = .bool (consB ((0 : Nat) : Int) (ni : Int) x t r) ∧ Ext h h') .ret a h11
   refine ret_ok [.tmp 10] [.bool false] (.bool false) rfl hF ⟨rfl,trivial⟩ rfl ?_
   exact ⟨by rw [consB_zero,decide_eq_true hz1,decide_eq_false hz2] <;> first | rfl | simp,e0⟩
  ·skip
   refine cD [0,1,3,7,15,15,63,127,255,511,1023,2047,4095,4095,16383,32767,65535,131071] 4 mixed hF ?_
   refine mP 3 [0,1] [.slice va r.length vc,.int .i64 ((r.length : Nat) : Int)] ?_
   refine m1 7 2 (.bool true) (.bool (((r.length : Nat) : Int) == (0 : Int))) (congrArg Value.bool (beq_iff_eq.2 (by omega))) ?_
   refine mP 15 [3] [.bool true] ?_
   refine mL 31 16 4 (.agg (x.map bv).toArray) (Calm.load (T := 23) (p := ⟨h.size,0,none⟩) (by kernel_rfl) (Loads.hash (by kernel_rfl) hx m3)) ?_
   refine SimK.eff (i := 5) (D' := 63) (X' := 47) (by kernel_rfl) (by kernel_rfl) (by kernel_rfl) [4] (by kernel_rfl) (Does.call (f := 17) (args := #[.slice none 0 0]) (by kernel_rfl) (rroot_sat _ [] none 0 0 (HR.nil _) (by decide))) ?_
   rintro _ h12 ⟨rfl,g⟩
   replace e0 := e0.ext g
   replace m3 := Ext.blk g m3
   replace m8 := Ext.blk g m8
   replace sep := sep.up g.size
   refine ⟨?_,?_⟩
   ·intro j hj
    simp only [List.mem_cons,List.not_mem_nil,or_false] at hj
    subst hj
    exact goodOf (Calm.load (T := 23) (p := ⟨h.size,0,none⟩) (by kernel_rfl) (Loads.hash (by kernel_rfl) hx m3))
   clear g
   refine mF 127 6 (.bool true) (eqHT (q := true) (l := x) (r := root []) (n := 32) (by kernel_rfl) hx (root_len All32.nil) hz2) ?_
   refine mP 1023 [7,8,9] [.bool true,.bool true,.int .i64 ((ni : Nat) : Int)] ?_
   refine m1 2047 10 (.bool true) (.bool (decide ((0 : Int) < ((ni : Nat) : Int)))) (congrArg Value.bool (decide_eq_true (by omega))) ?_
   refine mP 262143 [11,12,13,14,15,16,17] [.bool true,undef,undef,undef,.bool true,.bool true,.bool true] ?_
   refine mD [(10,.bool true)] ?_
   clear hF a; intro a hF
   refine tK ?_
   refine C.ret (by kernel_rfl) ?_
   show retK Tryd.prog Tryd.f15 (fun v h' => v = .bool (consB ((0 : Nat) : Int) (ni : Int) x t r) ∧ Ext h h') .ret a h12
   refine ret_ok [.tmp 10] [.bool true] (.bool true) rfl hF ⟨rfl,trivial⟩ rfl ?_
   exact ⟨by rw [consB_zero,decide_eq_true hz1,decide_eq_true hz2,decide_eq_true hz3] <;> first | rfl | simp,e0⟩
  ·skip
   refine cD [0,1,3,7,15,15,63,127,255,511,1023,2047,4095,4095,16383,32767,65535,131071] 4 mixed hF ?_
   refine mP 3 [0,1] [.slice va r.length vc,.int .i64 ((r.length : Nat) : Int)] ?_
   refine m1 7 2 (.bool true) (.bool (((r.length : Nat) : Int) == (0 : Int))) (congrArg Value.bool (beq_iff_eq.2 (by omega))) ?_
   refine mP 15 [3] [.bool true] ?_
   refine mL 31 16 4 (.agg (x.map bv).toArray) (Calm.load (T := 23) (p := ⟨h.size,0,none⟩) (by kernel_rfl) (Loads.hash (by kernel_rfl) hx m3)) ?_
   refine SimK.eff (i := 5) (D' := 63) (X' := 47) (by kernel_rfl) (by kernel_rfl) (by kernel_rfl) [4] (by kernel_rfl) (Does.call (f := 17) (args := #[.slice none 0 0]) (by kernel_rfl) (rroot_sat _ [] none 0 0 (HR.nil _) (by decide))) ?_
   rintro _ h13 ⟨rfl,g⟩
   replace e0 := e0.ext g
   replace m3 := Ext.blk g m3
   replace m8 := Ext.blk g m8
   replace sep := sep.up g.size
   refine ⟨?_,?_⟩
   ·intro j hj
    simp only [List.mem_cons,List.not_mem_nil,or_false] at hj
    subst hj
    exact goodOf (Calm.load (T := 23) (p := ⟨h.size,0,none⟩) (by kernel_rfl) (Loads.hash (by kernel_rfl) hx m3))
   clear g
   refine mF 127 6 (.bool true) (eqHT (q := true) (l := x) (r := root []) (n := 32) (by kernel_rfl) hx (root_len All32.nil) hz2) ?_
   refine mP 1023 [7,8,9] [.bool true,.bool true,.int .i64 ((ni : Nat) : Int)] ?_
   refine m1 2047 10 (.bool false) (.bool (decide ((0 : Int) < ((ni : Nat) : Int)))) (congrArg Value.bool (decide_eq_false (by omega))) ?_
   refine mP 4095 [11] [.bool false] ?_
   refine mL 8191 4112 12 (.agg (t.map bv).toArray) (Calm.load (T := 23) (p := ⟨h1.size,0,none⟩) (by kernel_rfl) (Loads.hash (by kernel_rfl) ht m8)) ?_
   refine mL 16383 12304 13 (.agg (x.map bv).toArray) (Calm.load (T := 23) (p := ⟨h.size,0,none⟩) (by kernel_rfl) (Loads.hash (by kernel_rfl) hx m3)) ?_
   refine mF 32767 14 (.bool true) (eqHT (q := true) (l := t) (r := x) (n := 32) (by kernel_rfl) ht hx hz4.symm) ?_
   refine mP 262143 [15,16,17] [.bool true,.bool true,.bool true] ?_
   refine mD [(10,.bool true)] ?_
   clear hF a; intro a hF
   refine tK ?_
   refine C.ret (by kernel_rfl) ?_
   show retK Tryd.prog Tryd.f15 (fun v h' => v = .bool (consB ((0 : Nat) : Int) (ni : Int) x t r) ∧ Ext h h') .ret a h13
   refine ret_ok [.tmp 10] [.bool true] (.bool true) rfl hF ⟨rfl,trivial⟩ rfl ?_
   exact ⟨by rw [consB_zero,decide_eq_true hz1,decide_eq_true hz2,decide_eq_false hz3,decide_eq_true hz4] <;> first | rfl | simp,e0⟩
  ·skip
   refine cD [0,1,3,7,15,15,63,127,255,511,1023,2047,4095,4095,16383,32767,65535,131071] 4 mixed hF ?_
   refine mP 3 [0,1] [.slice va r.length vc,.int .i64 ((r.length : Nat) : Int)] ?_
   refine m1 7 2 (.bool true) (.bool (((r.length : Nat) : Int) == (0 : Int))) (congrArg Value.bool (beq_iff_eq.2 (by omega))) ?_
   refine mP 15 [3] [.bool true] ?_
   refine mL 31 16 4 (.agg (x.map bv).toArray) (Calm.load (T := 23) (p := ⟨h.size,0,none⟩) (by kernel_rfl) (Loads.hash (by kernel_rfl) hx m3)) ?_
   refine SimK.eff (i := 5) (D' := 63) (X' := 47) (by kernel_rfl) (by kernel_rfl) (by kernel_rfl) [4] (by kernel_rfl) (Does.call (f := 17) (args := #[.slice none 0 0]) (by kernel_rfl) (rroot_sat _ [] none 0 0 (HR.nil _) (by decide))) ?_
   rintro _ h14 ⟨rfl,g⟩
   replace e0 := e0.ext g
   replace m3 := Ext.blk g m3
   replace m8 := Ext.blk g m8
   replace sep := sep.up g.size
   refine ⟨?_,?_⟩
   ·intro j hj
    simp only [List.mem_cons,List.not_mem_nil,or_false] at hj
    subst hj
    exact goodOf (Calm.load (T := 23) (p := ⟨h.size,0,none⟩) (by kernel_rfl) (Loads.hash (by kernel_rfl) hx m3))
   clear g
   refine mF 127 6 (.bool true) (eqHT (q := true) (l := x) (r := root []) (n := 32) (by kernel_rfl) hx (root_len All32.nil) hz2) ?_
   refine mP 1023 [7,8,9] [.bool true,.bool true,.int .i64 ((ni : Nat) : Int)] ?_
   refine m1 2047 10 (.bool false) (.bool (decide ((0 : Int) < ((ni : Nat) : Int)))) (congrArg Value.bool (decide_eq_false (by omega))) ?_
   refine mP 4095 [11] [.bool false] ?_
   refine mL 8191 4112 12 (.agg (t.map bv).toArray) (Calm.load (T := 23) (p := ⟨h1.size,0,none⟩) (by kernel_rfl) (Loads.hash (by kernel_rfl) ht m8)) ?_
   refine mL 16383 12304 13 (.agg (x.map bv).toArray) (Calm.load (T := 23) (p := ⟨h.size,0,none⟩) (by kernel_rfl) (Loads.hash (by kernel_rfl) hx m3)) ?_
   refine mF 32767 14 (.bool false) (eqHF (q := true) (l := t) (r := x) (n := 32) (by kernel_rfl) ht hx (fun e => hz4 e.symm)) ?_
   refine mP 262143 [15,16,17] [.bool false,.bool false,.bool false] ?_
   refine mD [(10,.bool false)] ?_
   clear hF a; intro a hF
   refine tK ?_
   refine C.ret (by kernel_rfl) ?_
   show retK Tryd.prog Tryd.f15 (fun v h' => v = .bool (consB ((0 : Nat) : Int) (ni : Int) x t r) ∧ Ext h h') .ret a h14
   refine ret_ok [.tmp 10] [.bool false] (.bool false) rfl hF ⟨rfl,trivial⟩ rfl ?_
   exact ⟨by rw [consB_zero,decide_eq_true hz1,decide_eq_true hz2,decide_eq_false hz3,decide_eq_false hz4] <;> first | rfl | simp,e0⟩
 ·skip
  refine cP 1 hF ?_
  refine sP 1 [.int .i64 ((mi : Nat) : Int)] ?_
  refine s1 2 (.bool false) (.bool (decide (((mi : Nat) : Int) < (0 : Int)))) (congrArg Value.bool (decide_eq_false (by omega))) ?_
  refine sP 5 [.bool false,.int .i64 ((mi : Nat) : Int),.int .i64 ((ni : Nat) : Int)] ?_
  refine s1 6 (.bool false) (.bool (decide (((ni : Nat) : Int) < ((mi : Nat) : Int)))) (congrArg Value.bool (decide_eq_false (by omega))) ?_
  refine sP 7 [.bool false] ?_
  refine sD [(0,.int .i64 ((mi : Nat) : Int)),(1,.int .i64 ((ni : Nat) : Int)),(4,.slice va r.length vc),(7,.pointer (some ⟨h.size,0,none⟩)),(8,.pointer (some ⟨h1.size,0,none⟩)),(20,.bool false)] ?_
  clear hF a; intro a hF
  refine tK ?_
  refine C.condF 20 [1,0,1,0] [1,0,1,1] (by kernel_rfl) hF (fun _ => rfl) ?_
  refine C.skip (by kernel_rfl) ?_
  refine tK ?_
  refine cS ?_
  refine cS ?_
  refine cP 3 hF ?_
  refine sP 1 [.int .i64 ((mi : Nat) : Int)] ?_
  refine s1 2 (.bool false) (.bool (((mi : Nat) : Int) == (0 : Int))) (congrArg Value.bool (beq_eq_false_iff_ne.2 (by omega))) ?_
  refine sD [(0,.int .i64 ((mi : Nat) : Int)),(1,.int .i64 ((ni : Nat) : Int)),(4,.slice va r.length vc),(7,.pointer (some ⟨h.size,0,none⟩)),(8,.pointer (some ⟨h1.size,0,none⟩)),(22,.bool false)] ?_
  clear hF a; intro a hF
  refine tK ?_
  refine C.condF 22 [1,1,0,1,0] [1,1,0,1,1] (by kernel_rfl) hF (fun _ => rfl) ?_
  refine C.skip (by kernel_rfl) ?_
  refine tK ?_
  refine cS ?_
  refine cP 5 hF ?_
  refine sP 2 [.int .i64 ((mi : Nat) : Int),.int .i64 ((ni : Nat) : Int)] ?_
  refine sC 3 (.agg (x.map bv).toArray) (Calm.load (T := 23) (p := ⟨h.size,0,none⟩) (by kernel_rfl) (Loads.hash (by kernel_rfl) hx m3)) ?_
  refine sP 4 [.slice va r.length vc] ?_
  refine SeqK.eff (k' := 5) (Does.call (f := 33) (args := #[.int .i64 ((mi : Nat) : Int),.int .i64 ((ni : Nat) : Int),.agg (x.map bv).toArray,.slice va r.length vc,.bool true]) (by kernel_rfl) (rtwo_all x hx va vc r.length _ mi ni r true r.length rfl (Nat.le_refl _) hrl (hr.ext e0) hmi0 hmn (by omega))) rfl ?_
  rintro _ h15 ⟨rfl,g⟩
  replace e0 := e0.ext g
  replace m3 := Ext.blk g m3
  replace m8 := Ext.blk g m8
  replace sep := sep.up g.size
  clear g
  refine sP 9 [.tuple #[.agg (((twV x mi ni r true).1).map bv).toArray,.agg (((twV x mi ni r true).2.1).map bv).toArray,.bool ((twV x mi ni r true).2.2)],.agg (((twV x mi ni r true).1).map bv).toArray,.agg (((twV x mi ni r true).2.1).map bv).toArray,.bool ((twV x mi ni r true).2.2)] ?_
  refine SeqK.eff (k' := 10) (Does.new (v := .pointer (some ⟨h15.size,0,none⟩)) (o := .cells (z32.map bv).toArray 23) (by kernel_rfl)) rfl ?_
  rintro _ h16 ⟨rfl,hh⟩
  have g17 : Ext h15 h16 := push_ext hh
  have m18 : h16[h15.size]? = some (.cells (z32.map bv).toArray 23) := push_at hh
  clear hh
  have lt19 := blk_lt m18
  have zs20 := e0.size
  have hlo := e0.size
  have sepo := sep
  replace e0 := e0.ext g17
  replace m3 := Ext.blk g17 m3
  replace m8 := Ext.blk g17 m8
  replace sep := sep.up g17.size
  replace sep := sepo.new hlo (blk_lt m18)
  clear sepo hlo
  refine SeqK.eff (k' := 11) (Does.new (v := .pointer (some ⟨h16.size,0,none⟩)) (o := .cells (z32.map bv).toArray 23) (by kernel_rfl)) rfl ?_
  rintro _ h21 ⟨rfl,hh⟩
  have g22 : Ext h16 h21 := push_ext hh
  have m23 : h21[h16.size]? = some (.cells (z32.map bv).toArray 23) := push_at hh
  clear hh
  have lt24 := blk_lt m23
  have zs25 := e0.size
  have hlo := e0.size
  have sepo := sep
  replace e0 := e0.ext g22
  replace m3 := Ext.blk g22 m3
  replace m8 := Ext.blk g22 m8
  replace m18 := Ext.blk g22 m18
  replace sep := sep.up g22.size
  replace sep := sepo.new hlo (blk_lt m23)
  clear sepo hlo
  refine SeqK.eff (k' := 12) (Does.store (b := h15.size) (off := 0) (vs := ((twV x mi ni r true).1).map bv) (l := z32.map bv) (storeOp_of (by kernel_rfl) (hlm (tw_len _ (Nat.le_refl _) hx hr.2.1).1)) m18 (hfit rfl (tw_len _ (Nat.le_refl _) hx hr.2.1).1) (ones_map _)) rfl ?_
  rintro _ h26 ⟨rfl,hh⟩
  have g27 : Grew (some (h15.size)) h21 h26 := hput_gr hh
  replace m18 : h26[h15.size]? = some (.cells (((twV x mi ni r true).1).map bv).toArray 23) := hput_at (off := 0) (vs := ((twV x mi ni r true).1).map bv) (l := (z32.map bv)) hh (hsplice rfl (tw_len _ (Nat.le_refl _) hx hr.2.1).1) m18
  clear hh
  replace e0 := e0.grew g27 (sep.low 1 rfl)
  replace m3 := Grew.blk g27 m3 ((sep.bp 3 1 rfl rfl (by decide)))
  replace m8 := Grew.blk g27 m8 ((sep.bp 2 1 rfl rfl (by decide)))
  replace m23 := Grew.blk g27 m23 ((sep.bp 0 1 rfl rfl (by decide)))
  replace sep := sep.up g27.size
  refine SeqK.eff (k' := 13) (Does.store (b := h16.size) (off := 0) (vs := ((twV x mi ni r true).2.1).map bv) (l := z32.map bv) (storeOp_of (by kernel_rfl) (hlm (tw_len _ (Nat.le_refl _) hx hr.2.1).2)) m23 (hfit rfl (tw_len _ (Nat.le_refl _) hx hr.2.1).2) (ones_map _)) rfl ?_
  rintro _ h28 ⟨rfl,hh⟩
  have g29 : Grew (some (h16.size)) h26 h28 := hput_gr hh
  replace m23 : h28[h16.size]? = some (.cells (((twV x mi ni r true).2.1).map bv).toArray 23) := hput_at (off := 0) (vs := ((twV x mi ni r true).2.1).map bv) (l := (z32.map bv)) hh (hsplice rfl (tw_len _ (Nat.le_refl _) hx hr.2.1).2) m23
  clear hh
  replace e0 := e0.grew g29 (sep.low 0 rfl)
  replace m3 := Grew.blk g29 m3 ((sep.bp 3 0 rfl rfl (by decide)))
  replace m8 := Grew.blk g29 m8 ((sep.bp 2 0 rfl rfl (by decide)))
  replace m18 := Grew.blk g29 m18 ((sep.bp 1 0 rfl rfl (by decide)))
  replace sep := sep.up g29.size
  refine sP 14 [.bool ((twV x mi ni r true).2.2)] ?_
  refine sD [(7,.pointer (some ⟨h.size,0,none⟩)),(8,.pointer (some ⟨h1.size,0,none⟩)),(11,.pointer (some ⟨h15.size,0,none⟩)),(12,.pointer (some ⟨h16.size,0,none⟩)),(13,.bool ((twV x mi ni r true).2.2))] ?_
  clear hF a; intro a hF
  refine tK ?_
  refine cS ?_
  cases hok : (twV x mi ni r true).2.2
  all_goals rw [hok] at hF
  rotate_left 1
  rcases Decidable.em ((twV x mi ni r true).1 = x) with hxx | hxx
  rotate_left 2
  ·skip
   refine cP 6 hF ?_
   refine sP 12 [.bool false,.bool false,undef,undef,undef,.bool false,.bool false,undef,undef,undef,.bool false,.bool false] ?_
   refine sD [(10,.bool false)] ?_
   clear hF a; intro a hF
   refine tK ?_
   refine C.ret (by kernel_rfl) ?_
   show retK Tryd.prog Tryd.f15 (fun v h' => v = .bool (consB (mi : Int) (ni : Int) x t r) ∧ Ext h h') .ret a h28
   refine ret_ok [.tmp 10] [.bool false] (.bool false) rfl hF ⟨rfl,trivial⟩ rfl ?_
   exact ⟨by rw [consB_yes hmi0 hmn,hok] <;> first | rfl | simp,e0⟩
  ·skip
   refine cP 6 hF ?_
   refine sP 2 [.bool true,.bool true] ?_
   refine sC 3 (.agg (((twV x mi ni r true).1).map bv).toArray) (Calm.load (T := 23) (p := ⟨h15.size,0,none⟩) (by kernel_rfl) (Loads.hash (by kernel_rfl) (tw_len _ (Nat.le_refl _) hx hr.2.1).1 m18)) ?_
   refine sC 4 (.agg (x.map bv).toArray) (Calm.load (T := 23) (p := ⟨h.size,0,none⟩) (by kernel_rfl) (Loads.hash (by kernel_rfl) hx m3)) ?_
   refine sC 5 (.bool true) ((eqHT (q := true) (l := (twV x mi ni r true).1) (r := x) (n := 32) (by kernel_rfl) (tw_len _ (Nat.le_refl _) hx hr.2.1).1 hx hxx) _) ?_
   refine sP 7 [.bool true,.bool true] ?_
   refine sC 8 (.agg (((twV x mi ni r true).2.1).map bv).toArray) (Calm.load (T := 23) (p := ⟨h16.size,0,none⟩) (by kernel_rfl) (Loads.hash (by kernel_rfl) (tw_len _ (Nat.le_refl _) hx hr.2.1).2 m23)) ?_
   refine sC 9 (.agg (t.map bv).toArray) (Calm.load (T := 23) (p := ⟨h1.size,0,none⟩) (by kernel_rfl) (Loads.hash (by kernel_rfl) ht m8)) ?_
   refine sC 10 (.bool (decide ((twV x mi ni r true).2.1 = t))) ((eqH1 (l := (twV x mi ni r true).2.1) (r := t) (n := 32) (by kernel_rfl) (tw_len _ (Nat.le_refl _) hx hr.2.1).2 ht) _) ?_
   refine sP 12 [.bool (decide ((twV x mi ni r true).2.1 = t)),.bool (decide ((twV x mi ni r true).2.1 = t))] ?_
   refine sD [(10,.bool (decide ((twV x mi ni r true).2.1 = t)))] ?_
   clear hF a; intro a hF
   refine tK ?_
   refine C.ret (by kernel_rfl) ?_
   show retK Tryd.prog Tryd.f15 (fun v h' => v = .bool (consB (mi : Int) (ni : Int) x t r) ∧ Ext h h') .ret a h28
   refine ret_ok [.tmp 10] [.bool (decide ((twV x mi ni r true).2.1 = t))] (.bool (decide ((twV x mi ni r true).2.1 = t))) rfl hF ⟨rfl,trivial⟩ rfl ?_
   exact ⟨by rw [consB_yes hmi0 hmn,hok,decide_eq_true hxx] <;> first | rfl | simp,e0⟩
  ·skip
   refine cP 6 hF ?_
   refine sP 2 [.bool true,.bool true] ?_
   refine sC 3 (.agg (((twV x mi ni r true).1).map bv).toArray) (Calm.load (T := 23) (p := ⟨h15.size,0,none⟩) (by kernel_rfl) (Loads.hash (by kernel_rfl) (tw_len _ (Nat.le_refl _) hx hr.2.1).1 m18)) ?_
   refine sC 4 (.agg (x.map bv).toArray) (Calm.load (T := 23) (p := ⟨h.size,0,none⟩) (by kernel_rfl) (Loads.hash (by kernel_rfl) hx m3)) ?_
   refine sC 5 (.bool false) ((eqHF (q := true) (l := (twV x mi ni r true).1) (r := x) (n := 32) (by kernel_rfl) (tw_len _ (Nat.le_refl _) hx hr.2.1).1 hx hxx) _) ?_
   refine sP 12 [.bool false,.bool false,undef,undef,undef,.bool false,.bool false] ?_
   refine sD [(10,.bool false)] ?_
   clear hF a; intro a hF
   refine tK ?_
   refine C.ret (by kernel_rfl) ?_
   show retK Tryd.prog Tryd.f15 (fun v h' => v = .bool (consB (mi : Int) (ni : Int) x t r) ∧ Ext h h') .ret a h28
   refine ret_ok [.tmp 10] [.bool false] (.bool false) rfl hF ⟨rfl,trivial⟩ rfl ?_
   exact ⟨by rw [consB_yes hmi0 hmn,hok,decide_eq_false hxx] <;> first | rfl | simp,e0⟩
end Go.Proofs.YteinikjbaaembaaDoor
