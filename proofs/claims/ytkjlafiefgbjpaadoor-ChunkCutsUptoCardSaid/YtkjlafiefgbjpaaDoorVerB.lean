/- Walks of proofs held: what each function computes, as a law of its calls. No condition but those that each theorem names. -/
import Derived.Test.YtkjlafiefgbjpaaDoorVerA
namespace Go.Proofs.YtkjlafiefgbjpaaDoor
open Go Go.Lane Go.Sha
noncomputable def b35 : Code := Tryd.f35.body.getD .skip
set_option maxHeartbeats 1000000 in
theorem upc_step (hz : Heap) (bl br bu : Nat) (x : Hs) (va : Option Addr) (vc : Nat) (hx : x.length = 32) (h0s : 0 < hz.size) (k : Nat) (ih : ∀ (h : Heap) (m n : Nat) (r : List Hs),r.length < k → h[bl]? = some (.cells (x.map bv).toArray 31) → h[br]? = some (.cells #[.slice va r.length vc] 26) → h[bu]? = some (.cells #[.func (.func 35) #[] #[.pointer (some ⟨bl,0,none⟩),.pointer (some ⟨br,0,none⟩),.pointer (some ⟨bu,0,none⟩)]] 52) → HR hz va vc r.length r → (r = [] ∨ ∀ k,va.map (fun (x : Addr) => x.block) = some k → k < hz.size) → Sep hz.size h.size [some bl,some br,some bu] → Ext hz h → Ktab h → m < n → n ≤ 9223372036854775807 → Sat Tryd.prog 35 #[.int .i64 ((m : Nat) : Int),.int .i64 ((n : Nat) : Int),.pointer (some ⟨bl,0,none⟩),.pointer (some ⟨br,0,none⟩),.pointer (some ⟨bu,0,none⟩)] h (fun v h' => v = .tuple #[hv (upV x m n r).1,.bool (upV x m n r).2] ∧ h'[bl]? = some (.cells (x.map bv).toArray 31) ∧ ∃ r',h'[br]? = some (.cells #[.slice va r' vc] 26) ∧ h'[bu]? = some (.cells #[.func (.func 35) #[] #[.pointer (some ⟨bl,0,none⟩),.pointer (some ⟨br,0,none⟩),.pointer (some ⟨bu,0,none⟩)]] 52) ∧ Grew (some br) h h' ∧ Ext hz h' ∧ Ktab h')) (h : Heap) (m n : Nat) (r : List Hs) (hrk : r.length = k) (hl : h[bl]? = some (.cells (x.map bv).toArray 31)) (hm : h[br]? = some (.cells #[.slice va r.length vc] 26)) (hu : h[bu]? = some (.cells #[.func (.func 35) #[] #[.pointer (some ⟨bl,0,none⟩),.pointer (some ⟨br,0,none⟩),.pointer (some ⟨bu,0,none⟩)]] 52)) (hr : HR hz va vc r.length r) (hz0 : (r = [] ∨ ∀ k,va.map (fun (x : Addr) => x.block) = some k → k < hz.size)) (sep : Sep hz.size h.size [some bl,some br,some bu]) (e0 : Ext hz h) (kt : Ktab h) (hmn : m < n) (hn : n ≤ 9223372036854775807) (hrl : r.length ≤ 1099511627776) : Sat Tryd.prog 35 #[.int .i64 ((m : Nat) : Int),.int .i64 ((n : Nat) : Int),.pointer (some ⟨bl,0,none⟩),.pointer (some ⟨br,0,none⟩),.pointer (some ⟨bu,0,none⟩)] h fun v h' => v = .tuple #[hv (upV x m n r).1,.bool (upV x m n r).2] ∧ h'[bl]? = some (.cells (x.map bv).toArray 31) ∧ ∃ r',h'[br]? = some (.cells #[.slice va r' vc] 26) ∧ h'[bu]? = some (.cells #[.func (.func 35) #[] #[.pointer (some ⟨bl,0,none⟩),.pointer (some ⟨br,0,none⟩),.pointer (some ⟨bu,0,none⟩)]] 52) ∧ Grew (some br) h h' ∧ Ext hz h' ∧ Ktab h' := by
 have g0 := Gr.refl (fun k => k = br) h
 refine sat_of (args := [.int .i64 ((m : Nat) : Int),.int .i64 ((n : Nat) : Int),.pointer (some ⟨bl,0,none⟩),.pointer (some ⟨br,0,none⟩),.pointer (some ⟨bu,0,none⟩)]) (fn := Tryd.f35) (B := b35) (n := 60) (L := [(0,.int .i64 ((m : Nat) : Int)),(1,.int .i64 ((n : Nat) : Int)),(2,.pointer (some ⟨bl,0,none⟩)),(3,.pointer (some ⟨br,0,none⟩)),(4,.pointer (some ⟨bu,0,none⟩))]) Tryd.func35 rfl (by kernel_rfl) rfl ?_
 intro a hF
 refine cS ?_
 refine cP 0 hF ?_
 refine SeqK.eff (k' := 1) (Does.new (v := .pointer (some ⟨h.size,0,none⟩)) (o := .cells (z32.map bv).toArray 31) (by kernel_rfl)) rfl ?_
 rintro _ h1 ⟨rfl,hh⟩
 have g2 : Ext h h1 := push_ext hh
 have m3 : h1[h.size]? = some (.cells (z32.map bv).toArray 31) := push_at hh
 clear hh
 have lt4 := blk_lt m3
 have zs5 := e0.size
 have zs6 := g0.1
 have hlo := e0.size
 have sepo := sep
 replace e0 := e0.ext g2
 replace kt := kt.ext g2
 replace g0 := g0.ext g2
 replace hl := Ext.blk g2 hl
 replace hm := Ext.blk g2 hm
 replace hu := Ext.blk g2 hu
 replace sep := sep.up g2.size
 replace sep := sepo.new hlo (blk_lt m3)
 clear sepo hlo
 refine sP 2 [.bool false] ?_
 refine sD [(0,nV m),(1,nV n),(2,pV bl),(3,pV br),(4,pV bu),(7,pV h.size)] ?_
 clear hF a; intro a hF
 refine tK ?_
 refine cS ?_
 refine cS ?_
 refine cP 1 hF ?_
 refine sP 2 [nV n,.bool (decide (((n : Nat) : Int) = (1 : Int)))] ?_
 refine sD [(0,nV m),(1,nV n),(2,pV bl),(3,pV br),(4,pV bu),(7,pV h.size),(17,.bool (decide (((n : Nat) : Int) = (1 : Int))))] ?_
 clear hF a; intro a hF
 refine tK ?_
 refine cC 17 (decide (((n : Nat) : Int) = (1 : Int))) hF (fun hc7 => ?_) (fun hc7 => ?_)
 ·skip
  replace hc7 := of_decide_eq_true hc7
  refine cS ?_
  refine cD [0,0,2,6,1,31] 2 mixed hF ?_
  refine mL 1 1 0 (.agg (x.map bv).toArray) (Calm.load (T := 31) (p := ⟨bl,0,none⟩) (by kernel_rfl) (Loads.hash (by kernel_rfl) hx hl)) ?_
  refine mL 3 3 1 (.slice va r.length vc) (Calm.load (T := 26) (p := ⟨br,0,none⟩) (by kernel_rfl) (Loads.one (k := 1) (by kernel_rfl) ((hcell_blk hm).trans rfl))) ?_
  refine mP 15 [2,3] [nV r.length,.bool (decide (((r.length : Nat) : Int) = (0 : Int)))] ?_
  refine SimK.eff (i := 4) (D' := 31) (X' := 17) (by kernel_rfl) (by kernel_rfl) (by kernel_rfl) [1] (by kernel_rfl) (Does.store (b := h.size) (off := 0) (vs := x.map bv) (l := z32.map bv) (storeOp_of (by kernel_rfl) (hlm hx)) m3 (hfit rfl hx) (ones_map _)) ?_
  rintro _ h8 ⟨rfl,hh⟩
  have g9 : Grew (some (h.size)) h1 h8 := hput_gr hh
  replace m3 : h8[h.size]? = some (.cells (x.map bv).toArray 31) := hput_at (off := 0) (vs := x.map bv) (l := (z32.map bv)) hh (hsplice rfl hx) m3
  clear hh
  replace e0 := e0.grew g9 (sep.low 0 rfl)
  replace kt := kt.grew g9 (sep.zero 0 rfl h0s)
  replace g0 := g0.grew g9 (fun i e => .inr (by cases e; omega))
  replace hl := Grew.blk g9 hl ((sep.bp 1 0))
  replace hm := Grew.blk g9 hm ((sep.bp 2 0))
  replace hu := Grew.blk g9 hu ((sep.bp 3 0))
  replace sep := sep.up g9.size
  refine ⟨?_,?_⟩
  ·intro j hj
   simp only [List.mem_cons,List.not_mem_nil,or_false] at hj
   subst hj
   exact goodOf (Calm.load (T := 26) (p := ⟨br,0,none⟩) (by kernel_rfl) (Loads.one (k := 1) (by kernel_rfl) ((hcell_blk hm).trans rfl)))
  refine mP 63 [5] [.bool (decide (((r.length : Nat) : Int) = (0 : Int)))] ?_
  refine mD [(7,pV h.size),(8,.bool (decide (((r.length : Nat) : Int) = (0 : Int))))] ?_
  clear hF a; intro a hF
  refine tK ?_
  refine cR ?_
  show retK Tryd.prog Tryd.f35 (fun v h' => v = .tuple #[hv (upV x m n r).1,.bool (upV x m n r).2] ∧ h'[bl]? = some (.cells (x.map bv).toArray 31) ∧ ∃ r',h'[br]? = some (.cells #[.slice va r' vc] 26) ∧ h'[bu]? = some (.cells #[.func (.func 35) #[] #[.pointer (some ⟨bl,0,none⟩),.pointer (some ⟨br,0,none⟩),.pointer (some ⟨bu,0,none⟩)]] 52) ∧ Grew (some br) h h' ∧ Ext hz h' ∧ Ktab h') .ret a h8
  refine ret_ok [.cell 7 31,.tmp 8] [.agg (x.map bv).toArray,.bool (decide (((r.length : Nat) : Int) = (0 : Int)))] (.tuple #[.agg (x.map bv).toArray,.bool (decide (((r.length : Nat) : Int) = (0 : Int)))]) rfl hF ⟨⟨_,rfl,Loads.hash (by kernel_rfl) hx m3⟩,rfl,trivial⟩ rfl ?_
  exact ⟨by rw [show n = 1 by omega,up_one,show (decide (((r.length : Nat) : Int) = 0)) = decide (r.length = 0) by simp] <;> rfl,hl,_,hm,hu,g0.toGrew,e0,kt⟩
 ·skip
  replace hc7 := of_decide_eq_false hc7
  refine cN ?_
  refine tK ?_
  refine cS ?_
  rcases Nat.eq_zero_or_pos r.length with hr0 | hr0
  ·skip
   refine cP 3 hF ?_
   refine SeqK.eff (k' := 1) (Does.call (f := 36) (args := #[.pointer (some ⟨br,0,none⟩)]) (by kernel_rfl) (pop_no _ br r va vc hm (hr.ext e0) (hz0.imp id fun z => ⟨by intro e; have := z _ e; have := sep.low 2 rfl _ rfl; omega,by intro k e; have := z _ e; have := e0.size; omega⟩) (by omega) (by omega))) rfl ?_
   rintro _ h10 ⟨rfl,hm2,g⟩
   replace e0 := e0.grew g (sep.low 2 rfl)
   replace kt := kt.grew g (sep.zero 2 rfl h0s)
   replace g0 := g0.grew g (fun i e => .inl (by cases e; rfl))
   replace hl := Grew.blk g hl ((sep.bp 1 2))
   replace hu := Grew.blk g hu ((sep.bp 3 2))
   replace m3 := Grew.blk g m3 ((sep.bp 0 2))
   replace sep := sep.up g.size
   clear hm g; have hm := hm2; clear hm2
   refine sP 4 [.tuple #[.agg (z32.map bv).toArray,.bool false],.agg (z32.map bv).toArray,.bool false] ?_
   refine SeqK.eff (k' := 5) (Does.new (v := .pointer (some ⟨h10.size,0,none⟩)) (o := .cells (z32.map bv).toArray 31) (by kernel_rfl)) rfl ?_
   rintro _ h11 ⟨rfl,hh⟩
   have g12 : Ext h10 h11 := push_ext hh
   have m13 : h11[h10.size]? = some (.cells (z32.map bv).toArray 31) := push_at hh
   clear hh
   have lt14 := blk_lt m13
   have zs15 := e0.size
   have zs16 := g0.1
   have hlo := e0.size
   have sepo := sep
   replace e0 := e0.ext g12
   replace kt := kt.ext g12
   replace g0 := g0.ext g12
   replace hl := Ext.blk g12 hl
   replace hm := Ext.blk g12 hm
   replace hu := Ext.blk g12 hu
   replace m3 := Ext.blk g12 m3
   replace sep := sep.up g12.size
   replace sep := sepo.new hlo (blk_lt m13)
   clear sepo hlo
   refine SeqK.eff (k' := 6) (Does.store (b := h10.size) (off := 0) (vs := z32.map bv) (l := z32.map bv) (storeOp_of (by kernel_rfl) (hlm rfl)) m13 (hfit rfl rfl) (ones_map _)) rfl ?_
   rintro _ h17 ⟨rfl,hh⟩
   have g18 : Grew (some (h10.size)) h11 h17 := hput_gr hh
   replace m13 : h17[h10.size]? = some (.cells (z32.map bv).toArray 31) := hput_at (off := 0) (vs := z32.map bv) (l := (z32.map bv)) hh (hsplice rfl rfl) m13
   clear hh
   replace e0 := e0.grew g18 (sep.low 0 rfl)
   replace kt := kt.grew g18 (sep.zero 0 rfl h0s)
   replace g0 := g0.grew g18 (fun i e => .inr (by cases e; omega))
   replace hl := Grew.blk g18 hl ((sep.bp 2 0))
   replace hm := Grew.blk g18 hm ((sep.bp 3 0))
   replace hu := Grew.blk g18 hu ((sep.bp 4 0))
   replace m3 := Grew.blk g18 m3 ((sep.bp 1 0))
   replace sep := sep.up g18.size
   refine sP 7 [.bool false] ?_
   refine sD [(0,nV m),(1,nV n),(2,pV bl),(4,pV bu),(7,pV h.size),(9,pV h10.size),(10,.bool false)] ?_
   clear hF a; intro a hF
   refine tK ?_
   refine cS ?_
   refine cS ?_
   refine cP 4 hF ?_
   refine sP 2 [.bool false,.bool true] ?_
   refine sD [(0,nV m),(1,nV n),(2,pV bl),(4,pV bu),(7,pV h.size),(9,pV h10.size),(27,.bool true)] ?_
   clear hF a; intro a hF
   refine tK ?_
   refine cT 27 hF ?_
   refine cS ?_
   refine cP 5 hF ?_
   refine sC 1 (.agg (x.map bv).toArray) (Calm.load (T := 31) (p := ⟨bl,0,none⟩) (by kernel_rfl) (Loads.hash (by kernel_rfl) hx hl)) ?_
   refine SeqK.eff (k' := 2) (Does.store (b := h.size) (off := 0) (vs := x.map bv) (l := z32.map bv) (storeOp_of (by kernel_rfl) (hlm hx)) m3 (hfit rfl hx) (ones_map _)) rfl ?_
   rintro _ h19 ⟨rfl,hh⟩
   have g20 : Grew (some (h.size)) h17 h19 := hput_gr hh
   replace m3 : h19[h.size]? = some (.cells (x.map bv).toArray 31) := hput_at (off := 0) (vs := x.map bv) (l := (z32.map bv)) hh (hsplice rfl hx) m3
   clear hh
   replace e0 := e0.grew g20 (sep.low 1 rfl)
   replace kt := kt.grew g20 (sep.zero 1 rfl h0s)
   replace g0 := g0.grew g20 (fun i e => .inr (by cases e; omega))
   replace hl := Grew.blk g20 hl ((sep.bp 2 1))
   replace hm := Grew.blk g20 hm ((sep.bp 3 1))
   replace hu := Grew.blk g20 hu ((sep.bp 4 1))
   replace m13 := Grew.blk g20 m13 ((sep.bp 0 1))
   replace sep := sep.up g20.size
   refine sP 3 [.bool false] ?_
   refine sD [(7,pV h.size),(8,.bool false)] ?_
   clear hF a; intro a hF
   refine tK ?_
   refine cR ?_
   show retK Tryd.prog Tryd.f35 (fun v h' => v = .tuple #[hv (upV x m n r).1,.bool (upV x m n r).2] ∧ h'[bl]? = some (.cells (x.map bv).toArray 31) ∧ ∃ r',h'[br]? = some (.cells #[.slice va r' vc] 26) ∧ h'[bu]? = some (.cells #[.func (.func 35) #[] #[.pointer (some ⟨bl,0,none⟩),.pointer (some ⟨br,0,none⟩),.pointer (some ⟨bu,0,none⟩)]] 52) ∧ Grew (some br) h h' ∧ Ext hz h' ∧ Ktab h') .ret a h19
   refine ret_ok [.cell 7 31,.tmp 8] [.agg (x.map bv).toArray,.bool false] (.tuple #[.agg (x.map bv).toArray,.bool false]) rfl hF ⟨⟨_,rfl,Loads.hash (by kernel_rfl) hx m3⟩,rfl,trivial⟩ rfl ?_
   exact ⟨by rw [up_none (by omega) hr0] <;> rfl,hl,_,hm,hu,g0.toGrew,e0,kt⟩
  ·skip
   refine cP 3 hF ?_
   refine SeqK.eff (k' := 1) (Does.call (f := 36) (args := #[.pointer (some ⟨br,0,none⟩)]) (by kernel_rfl) (pop_ok _ br r va vc hm (hr.ext e0) (hz0.imp id fun z => ⟨by intro e; have := z _ e; have := sep.low 2 rfl _ rfl; omega,by intro k e; have := z _ e; have := e0.size; omega⟩) (by omega) (by omega))) rfl ?_
   rintro _ h21 ⟨rfl,hm2,g⟩
   replace e0 := e0.grew g (sep.low 2 rfl)
   replace kt := kt.grew g (sep.zero 2 rfl h0s)
   replace g0 := g0.grew g (fun i e => .inl (by cases e; rfl))
   replace hl := Grew.blk g hl ((sep.bp 1 2))
   replace hu := Grew.blk g hu ((sep.bp 3 2))
   replace m3 := Grew.blk g m3 ((sep.bp 0 2))
   replace sep := sep.up g.size
   clear hm g; have hm := hm2; clear hm2
   refine sP 4 [.tuple #[.agg ((lastH r).map bv).toArray,.bool true],.agg ((lastH r).map bv).toArray,.bool true] ?_
   refine SeqK.eff (k' := 5) (Does.new (v := .pointer (some ⟨h21.size,0,none⟩)) (o := .cells (z32.map bv).toArray 31) (by kernel_rfl)) rfl ?_
   rintro _ h22 ⟨rfl,hh⟩
   have g23 : Ext h21 h22 := push_ext hh
   have m24 : h22[h21.size]? = some (.cells (z32.map bv).toArray 31) := push_at hh
   clear hh
   have lt25 := blk_lt m24
   have zs26 := e0.size
   have zs27 := g0.1
   have hlo := e0.size
   have sepo := sep
   replace e0 := e0.ext g23
   replace kt := kt.ext g23
   replace g0 := g0.ext g23
   replace hl := Ext.blk g23 hl
   replace hm := Ext.blk g23 hm
   replace hu := Ext.blk g23 hu
   replace m3 := Ext.blk g23 m3
   replace sep := sep.up g23.size
   replace sep := sepo.new hlo (blk_lt m24)
   clear sepo hlo
   refine SeqK.eff (k' := 6) (Does.store (b := h21.size) (off := 0) (vs := (lastH r).map bv) (l := z32.map bv) (storeOp_of (by kernel_rfl) (hlm (last_len hr.2.1 (by omega)))) m24 (hfit rfl (last_len hr.2.1 (by omega))) (ones_map _)) rfl ?_
   rintro _ h28 ⟨rfl,hh⟩
   have g29 : Grew (some (h21.size)) h22 h28 := hput_gr hh
   replace m24 : h28[h21.size]? = some (.cells ((lastH r).map bv).toArray 31) := hput_at (off := 0) (vs := (lastH r).map bv) (l := (z32.map bv)) hh (hsplice rfl (last_len hr.2.1 (by omega))) m24
   clear hh
   replace e0 := e0.grew g29 (sep.low 0 rfl)
   replace kt := kt.grew g29 (sep.zero 0 rfl h0s)
   replace g0 := g0.grew g29 (fun i e => .inr (by cases e; omega))
   replace hl := Grew.blk g29 hl ((sep.bp 2 0))
   replace hm := Grew.blk g29 hm ((sep.bp 3 0))
   replace hu := Grew.blk g29 hu ((sep.bp 4 0))
   replace m3 := Grew.blk g29 m3 ((sep.bp 1 0))
   replace sep := sep.up g29.size
   refine sP 7 [.bool true] ?_
   refine sD [(0,nV m),(1,nV n),(2,pV bl),(4,pV bu),(7,pV h.size),(9,pV h21.size),(10,.bool true)] ?_
   clear hF a; intro a hF
   refine tK ?_
   refine cS ?_
   refine cS ?_
   refine cP 4 hF ?_
   refine sP 2 [.bool true,.bool false] ?_
   refine sD [(0,nV m),(1,nV n),(2,pV bl),(4,pV bu),(7,pV h.size),(9,pV h21.size),(27,.bool false)] ?_
   clear hF a; intro a hF
   refine tK ?_
   refine cF 27 hF ?_
   refine cN ?_
   refine tK ?_
   refine cS ?_
   refine cP 6 hF ?_
   refine sP 1 [nV n] ?_
   refine sC 2 (.int .i64 ((half n : Nat) : Int)) (Does.call (f := 37) (args := #[.int .i64 ((n : Nat) : Int)]) (by kernel_rfl) (vsplit_sat _ n (by omega) (by omega))) ?_
   refine sP 3 [nV (half n)] ?_
   refine sD [(0,nV m),(1,nV n),(4,pV bu),(7,pV h.size),(9,pV h21.size),(11,nV (half n))] ?_
   clear hF a; intro a hF
   refine tK ?_
   refine cS ?_
   refine cP 7 hF ?_
   refine sP 3 [nV m,nV (half n),.bool (decide (((m : Nat) : Int) < ((half n : Nat) : Int)))] ?_
   refine sD [(0,nV m),(1,nV n),(4,pV bu),(7,pV h.size),(9,pV h21.size),(11,nV (half n)),(33,.bool (decide (((m : Nat) : Int) < ((half n : Nat) : Int))))] ?_
   clear hF a; intro a hF
   refine tK ?_
   refine cC 33 (decide (((m : Nat) : Int) < ((half n : Nat) : Int))) hF (fun hc30 => ?_) (fun hc30 => ?_)
   ·skip
    replace hc30 := of_decide_eq_true hc30
    refine cS ?_
    refine cP 8 hF ?_
    refine sC 1 (.func (.func 35) #[] #[.pointer (some ⟨bl,0,none⟩),.pointer (some ⟨br,0,none⟩),.pointer (some ⟨bu,0,none⟩)]) (Calm.load (T := 52) (p := ⟨bu,0,none⟩) (by kernel_rfl) (Loads.one (k := 1) (by kernel_rfl) ((hcell_blk hu).trans rfl))) ?_
    refine sP 3 [nV m,nV (half n)] ?_
    have hil := initH_len r
    have hri : HR hz va vc (initH r).length (initH r) := by rw [hil]; exact hr.take (by omega)
    rw [← hil] at hm
    have hhl := half_lt (n := n) (by omega); have hhp := half_pos n
    refine SeqK.eff (k' := 4) (Does.call (f := 35) (args := #[.int .i64 ((m : Nat) : Int),.int .i64 ((half n : Nat) : Int),.pointer (some ⟨bl,0,none⟩),.pointer (some ⟨br,0,none⟩),.pointer (some ⟨bu,0,none⟩)]) (by kernel_rfl) (ih _ m (half n) (initH r) (by rw [hil]; omega) hl hm hu hri (hz0.imp (fun e => by rw [e]; rfl) id) (sep.sub (l' := [some bl,some br,some bu]) (.cons _ (.cons _ (.cons_cons _ (.cons_cons _ (.cons_cons _ (.slnil))))))) e0 kt (by omega) (by omega))) rfl ?_
    rintro _ h31 ⟨rfl,hl3,r3,hm3,hu3,g3,e3,kt3⟩
    have sepo := sep; clear hl hm hu e0 kt; have hl := hl3; have hm := hm3; have hu := hu3; have e0 := e3; have kt := kt3; clear hl3 hm3 hu3 e3 kt3
    replace m3 := Grew.blk g3 m3 (sep.bp 1 3)
    replace m24 := Grew.blk g3 m24 (sep.bp 0 3)
    replace g0 := g0.grew g3 (fun i e => .inl (by cases e; rfl))
    replace sep := sepo.up g3.size; clear sepo g3
    refine sP 7 [.tuple #[.agg (((upV x m (half n) (initH r)).1).map bv).toArray,.bool ((upV x m (half n) (initH r)).2)],.agg (((upV x m (half n) (initH r)).1).map bv).toArray,.bool ((upV x m (half n) (initH r)).2)] ?_
    refine SeqK.eff (k' := 8) (Does.new (v := .pointer (some ⟨h31.size,0,none⟩)) (o := .cells (z32.map bv).toArray 31) (by kernel_rfl)) rfl ?_
    rintro _ h32 ⟨rfl,hh⟩
    have g33 : Ext h31 h32 := push_ext hh
    have m34 : h32[h31.size]? = some (.cells (z32.map bv).toArray 31) := push_at hh
    clear hh
    have lt35 := blk_lt m34
    have zs36 := e0.size
    have zs37 := g0.1
    have hlo := e0.size
    have sepo := sep
    replace e0 := e0.ext g33
    replace kt := kt.ext g33
    replace g0 := g0.ext g33
    replace hl := Ext.blk g33 hl
    replace hm := Ext.blk g33 hm
    replace hu := Ext.blk g33 hu
    replace m3 := Ext.blk g33 m3
    replace m24 := Ext.blk g33 m24
    replace sep := sep.up g33.size
    replace sep := sepo.new hlo (blk_lt m34)
    clear sepo hlo
    refine SeqK.eff (k' := 9) (Does.store (b := h31.size) (off := 0) (vs := ((upV x m (half n) (initH r)).1).map bv) (l := z32.map bv) (storeOp_of (by kernel_rfl) (hlm (up_len hx))) m34 (hfit rfl (up_len hx)) (ones_map _)) rfl ?_
    rintro _ h38 ⟨rfl,hh⟩
    have g39 : Grew (some (h31.size)) h32 h38 := hput_gr hh
    replace m34 : h38[h31.size]? = some (.cells (((upV x m (half n) (initH r)).1).map bv).toArray 31) := hput_at (off := 0) (vs := ((upV x m (half n) (initH r)).1).map bv) (l := (z32.map bv)) hh (hsplice rfl (up_len hx)) m34
    clear hh
    replace e0 := e0.grew g39 (sep.low 0 rfl)
    replace kt := kt.grew g39 (sep.zero 0 rfl h0s)
    replace g0 := g0.grew g39 (fun i e => .inr (by cases e; omega))
    replace hl := Grew.blk g39 hl ((sep.bp 3 0))
    replace hm := Grew.blk g39 hm ((sep.bp 4 0))
    replace hu := Grew.blk g39 hu ((sep.bp 5 0))
    replace m3 := Grew.blk g39 m3 ((sep.bp 2 0))
    replace m24 := Grew.blk g39 m24 ((sep.bp 1 0))
    replace sep := sep.up g39.size
    refine sP 10 [.bool ((upV x m (half n) (initH r)).2)] ?_
    refine sD [(7,pV h.size),(9,pV h21.size),(12,pV h31.size),(13,.bool ((upV x m (half n) (initH r)).2))] ?_
    clear hF a; intro a hF
    refine tK ?_
    refine cS ?_
    refine cP 9 hF ?_
    refine sC 1 (.agg (((upV x m (half n) (initH r)).1).map bv).toArray) (Calm.load (T := 31) (p := ⟨h31.size,0,none⟩) (by kernel_rfl) (Loads.hash (by kernel_rfl) (up_len hx) m34)) ?_
    refine sC 2 (.agg ((lastH r).map bv).toArray) (Calm.load (T := 31) (p := ⟨h21.size,0,none⟩) (by kernel_rfl) (Loads.hash (by kernel_rfl) (last_len hr.2.1 (by omega)) m24)) ?_
    refine SeqK.eff (k' := 3) (Does.call (f := 38) (args := #[.agg (((upV x m (half n) (initH r)).1).map bv).toArray,.agg ((lastH r).map bv).toArray]) (by kernel_rfl) (node_sat _ ((upV x m (half n) (initH r)).1) (lastH r) (up_len hx) (last_len hr.2.1 (by omega)) kt)) rfl ?_
    rintro _ h40 ⟨rfl,g⟩
    replace e0 := e0.ext g
    replace kt := kt.ext g
    replace g0 := g0.ext g
    replace hl := Ext.blk g hl
    replace hm := Ext.blk g hm
    replace hu := Ext.blk g hu
    replace m3 := Ext.blk g m3
    replace m24 := Ext.blk g m24
    replace m34 := Ext.blk g m34
    replace sep := sep.up g.size
    clear g
    refine sP 4 [.bool ((upV x m (half n) (initH r)).2)] ?_
    refine SeqK.eff (k' := 5) (Does.store (b := h.size) (off := 0) (vs := (nodeH ((upV x m (half n) (initH r)).1) (lastH r)).map bv) (l := z32.map bv) (storeOp_of (by kernel_rfl) (hlm (node_len _ _))) m3 (hfit rfl (node_len _ _)) (ones_map _)) rfl ?_
    rintro _ h41 ⟨rfl,hh⟩
    have g42 : Grew (some (h.size)) h40 h41 := hput_gr hh
    replace m3 : h41[h.size]? = some (.cells ((nodeH ((upV x m (half n) (initH r)).1) (lastH r)).map bv).toArray 31) := hput_at (off := 0) (vs := (nodeH ((upV x m (half n) (initH r)).1) (lastH r)).map bv) (l := (z32.map bv)) hh (hsplice rfl (node_len _ _)) m3
    clear hh
    replace e0 := e0.grew g42 (sep.low 2 rfl)
    replace kt := kt.grew g42 (sep.zero 2 rfl h0s)
    replace g0 := g0.grew g42 (fun i e => .inr (by cases e; omega))
    replace hl := Grew.blk g42 hl ((sep.bp 3 2))
    replace hm := Grew.blk g42 hm ((sep.bp 4 2))
    replace hu := Grew.blk g42 hu ((sep.bp 5 2))
    replace m24 := Grew.blk g42 m24 ((sep.bp 1 2))
    replace m34 := Grew.blk g42 m34 ((sep.bp 0 2))
    replace sep := sep.up g42.size
    refine sP 6 [.bool ((upV x m (half n) (initH r)).2)] ?_
    refine sD [(7,pV h.size),(8,.bool ((upV x m (half n) (initH r)).2))] ?_
    clear hF a; intro a hF
    refine tK ?_
    refine cR ?_
    show retK Tryd.prog Tryd.f35 (fun v h' => v = .tuple #[hv (upV x m n r).1,.bool (upV x m n r).2] ∧ h'[bl]? = some (.cells (x.map bv).toArray 31) ∧ ∃ r',h'[br]? = some (.cells #[.slice va r' vc] 26) ∧ h'[bu]? = some (.cells #[.func (.func 35) #[] #[.pointer (some ⟨bl,0,none⟩),.pointer (some ⟨br,0,none⟩),.pointer (some ⟨bu,0,none⟩)]] 52) ∧ Grew (some br) h h' ∧ Ext hz h' ∧ Ktab h') .ret a h41
    refine ret_ok [.cell 7 31,.tmp 8] [.agg ((nodeH ((upV x m (half n) (initH r)).1) (lastH r)).map bv).toArray,.bool ((upV x m (half n) (initH r)).2)] (.tuple #[.agg ((nodeH ((upV x m (half n) (initH r)).1) (lastH r)).map bv).toArray,.bool ((upV x m (half n) (initH r)).2)]) rfl hF ⟨⟨_,rfl,Loads.hash (by kernel_rfl) (node_len _ _) m3⟩,rfl,trivial⟩ rfl ?_
    exact ⟨by rw [up_lo (by omega) hr0 (by omega)] <;> rfl,hl,_,hm,hu,g0.toGrew,e0,kt⟩
   ·skip
    replace hc30 := of_decide_eq_false hc30
    refine cS ?_
    refine cP 10 hF ?_
    refine sC 1 (.func (.func 35) #[] #[.pointer (some ⟨bl,0,none⟩),.pointer (some ⟨br,0,none⟩),.pointer (some ⟨bu,0,none⟩)]) (Calm.load (T := 52) (p := ⟨bu,0,none⟩) (by kernel_rfl) (Loads.one (k := 1) (by kernel_rfl) ((hcell_blk hu).trans rfl))) ?_
    refine sP 3 [nV m,nV (half n)] ?_
    refine s1 4 (.int .i64 ((m - (half n) : Nat) : Int)) (.int .i64 (IntKind.i64.wrap (((m : Nat) : Int) - ((half n : Nat) : Int)))) (congrArg (Value.int .i64) (w64' (by omega) (by omega) (by omega))) ?_
    refine sP 6 [nV n,nV (half n)] ?_
    refine s1 7 (.int .i64 ((n - (half n) : Nat) : Int)) (.int .i64 (IntKind.i64.wrap (((n : Nat) : Int) - ((half n : Nat) : Int)))) (congrArg (Value.int .i64) (w64' (by omega) (by omega) (by omega))) ?_
    have hil := initH_len r
    have hri : HR hz va vc (initH r).length (initH r) := by rw [hil]; exact hr.take (by omega)
    rw [← hil] at hm
    have hhl := half_lt (n := n) (by omega); have hhp := half_pos n
    refine SeqK.eff (k' := 8) (Does.call (f := 35) (args := #[.int .i64 ((m - (half n) : Nat) : Int),.int .i64 ((n - (half n) : Nat) : Int),.pointer (some ⟨bl,0,none⟩),.pointer (some ⟨br,0,none⟩),.pointer (some ⟨bu,0,none⟩)]) (by kernel_rfl) (ih _ (m - half n) (n - half n) (initH r) (by rw [hil]; omega) hl hm hu hri (hz0.imp (fun e => by rw [e]; rfl) id) (sep.sub (l' := [some bl,some br,some bu]) (.cons _ (.cons _ (.cons_cons _ (.cons_cons _ (.cons_cons _ (.slnil))))))) e0 kt (by omega) (by omega))) rfl ?_
    rintro _ h43 ⟨rfl,hl3,r3,hm3,hu3,g3,e3,kt3⟩
    have sepo := sep; clear hl hm hu e0 kt; have hl := hl3; have hm := hm3; have hu := hu3; have e0 := e3; have kt := kt3; clear hl3 hm3 hu3 e3 kt3
    replace m3 := Grew.blk g3 m3 (sep.bp 1 3)
    replace m24 := Grew.blk g3 m24 (sep.bp 0 3)
    replace g0 := g0.grew g3 (fun i e => .inl (by cases e; rfl))
    replace sep := sepo.up g3.size; clear sepo g3
    refine sP 11 [.tuple #[.agg (((upV x (m - half n) (n - half n) (initH r)).1).map bv).toArray,.bool ((upV x (m - half n) (n - half n) (initH r)).2)],.agg (((upV x (m - half n) (n - half n) (initH r)).1).map bv).toArray,.bool ((upV x (m - half n) (n - half n) (initH r)).2)] ?_
    refine SeqK.eff (k' := 12) (Does.new (v := .pointer (some ⟨h43.size,0,none⟩)) (o := .cells (z32.map bv).toArray 31) (by kernel_rfl)) rfl ?_
    rintro _ h44 ⟨rfl,hh⟩
    have g45 : Ext h43 h44 := push_ext hh
    have m46 : h44[h43.size]? = some (.cells (z32.map bv).toArray 31) := push_at hh
    clear hh
    have lt47 := blk_lt m46
    have zs48 := e0.size
    have zs49 := g0.1
    have hlo := e0.size
    have sepo := sep
    replace e0 := e0.ext g45
    replace kt := kt.ext g45
    replace g0 := g0.ext g45
    replace hl := Ext.blk g45 hl
    replace hm := Ext.blk g45 hm
    replace hu := Ext.blk g45 hu
    replace m3 := Ext.blk g45 m3
    replace m24 := Ext.blk g45 m24
    replace sep := sep.up g45.size
    replace sep := sepo.new hlo (blk_lt m46)
    clear sepo hlo
    refine SeqK.eff (k' := 13) (Does.store (b := h43.size) (off := 0) (vs := ((upV x (m - half n) (n - half n) (initH r)).1).map bv) (l := z32.map bv) (storeOp_of (by kernel_rfl) (hlm (up_len hx))) m46 (hfit rfl (up_len hx)) (ones_map _)) rfl ?_
    rintro _ h50 ⟨rfl,hh⟩
    have g51 : Grew (some (h43.size)) h44 h50 := hput_gr hh
    replace m46 : h50[h43.size]? = some (.cells (((upV x (m - half n) (n - half n) (initH r)).1).map bv).toArray 31) := hput_at (off := 0) (vs := ((upV x (m - half n) (n - half n) (initH r)).1).map bv) (l := (z32.map bv)) hh (hsplice rfl (up_len hx)) m46
    clear hh
    replace e0 := e0.grew g51 (sep.low 0 rfl)
    replace kt := kt.grew g51 (sep.zero 0 rfl h0s)
    replace g0 := g0.grew g51 (fun i e => .inr (by cases e; omega))
    replace hl := Grew.blk g51 hl ((sep.bp 3 0))
    replace hm := Grew.blk g51 hm ((sep.bp 4 0))
    replace hu := Grew.blk g51 hu ((sep.bp 5 0))
    replace m3 := Grew.blk g51 m3 ((sep.bp 2 0))
    replace m24 := Grew.blk g51 m24 ((sep.bp 1 0))
    replace sep := sep.up g51.size
    refine sP 14 [.bool ((upV x (m - half n) (n - half n) (initH r)).2)] ?_
    refine sD [(7,pV h.size),(9,pV h21.size),(14,pV h43.size),(15,.bool ((upV x (m - half n) (n - half n) (initH r)).2))] ?_
    clear hF a; intro a hF
    refine tK ?_
    refine cS ?_
    refine cP 11 hF ?_
    refine sC 1 (.agg ((lastH r).map bv).toArray) (Calm.load (T := 31) (p := ⟨h21.size,0,none⟩) (by kernel_rfl) (Loads.hash (by kernel_rfl) (last_len hr.2.1 (by omega)) m24)) ?_
    refine sC 2 (.agg (((upV x (m - half n) (n - half n) (initH r)).1).map bv).toArray) (Calm.load (T := 31) (p := ⟨h43.size,0,none⟩) (by kernel_rfl) (Loads.hash (by kernel_rfl) (up_len hx) m46)) ?_
    refine SeqK.eff (k' := 3) (Does.call (f := 38) (args := #[.agg ((lastH r).map bv).toArray,.agg (((upV x (m - half n) (n - half n) (initH r)).1).map bv).toArray]) (by kernel_rfl) (node_sat _ (lastH r) ((upV x (m - half n) (n - half n) (initH r)).1) (last_len hr.2.1 (by omega)) (up_len hx) kt)) rfl ?_
    rintro _ h52 ⟨rfl,g⟩
    replace e0 := e0.ext g
    replace kt := kt.ext g
    replace g0 := g0.ext g
    replace hl := Ext.blk g hl
    replace hm := Ext.blk g hm
    replace hu := Ext.blk g hu
    replace m3 := Ext.blk g m3
    replace m24 := Ext.blk g m24
    replace m46 := Ext.blk g m46
    replace sep := sep.up g.size
    clear g
    refine sP 4 [.bool ((upV x (m - half n) (n - half n) (initH r)).2)] ?_
    refine SeqK.eff (k' := 5) (Does.store (b := h.size) (off := 0) (vs := (nodeH (lastH r) ((upV x (m - half n) (n - half n) (initH r)).1)).map bv) (l := z32.map bv) (storeOp_of (by kernel_rfl) (hlm (node_len _ _))) m3 (hfit rfl (node_len _ _)) (ones_map _)) rfl ?_
    rintro _ h53 ⟨rfl,hh⟩
    have g54 : Grew (some (h.size)) h52 h53 := hput_gr hh
    replace m3 : h53[h.size]? = some (.cells ((nodeH (lastH r) ((upV x (m - half n) (n - half n) (initH r)).1)).map bv).toArray 31) := hput_at (off := 0) (vs := (nodeH (lastH r) ((upV x (m - half n) (n - half n) (initH r)).1)).map bv) (l := (z32.map bv)) hh (hsplice rfl (node_len _ _)) m3
    clear hh
    replace e0 := e0.grew g54 (sep.low 2 rfl)
    replace kt := kt.grew g54 (sep.zero 2 rfl h0s)
    replace g0 := g0.grew g54 (fun i e => .inr (by cases e; omega))
    replace hl := Grew.blk g54 hl ((sep.bp 3 2))
    replace hm := Grew.blk g54 hm ((sep.bp 4 2))
    replace hu := Grew.blk g54 hu ((sep.bp 5 2))
    replace m24 := Grew.blk g54 m24 ((sep.bp 1 2))
    replace m46 := Grew.blk g54 m46 ((sep.bp 0 2))
    replace sep := sep.up g54.size
    refine sP 6 [.bool ((upV x (m - half n) (n - half n) (initH r)).2)] ?_
    refine sD [(7,pV h.size),(8,.bool ((upV x (m - half n) (n - half n) (initH r)).2))] ?_
    clear hF a; intro a hF
    refine tK ?_
    refine cR ?_
    show retK Tryd.prog Tryd.f35 (fun v h' => v = .tuple #[hv (upV x m n r).1,.bool (upV x m n r).2] ∧ h'[bl]? = some (.cells (x.map bv).toArray 31) ∧ ∃ r',h'[br]? = some (.cells #[.slice va r' vc] 26) ∧ h'[bu]? = some (.cells #[.func (.func 35) #[] #[.pointer (some ⟨bl,0,none⟩),.pointer (some ⟨br,0,none⟩),.pointer (some ⟨bu,0,none⟩)]] 52) ∧ Grew (some br) h h' ∧ Ext hz h' ∧ Ktab h') .ret a h53
    refine ret_ok [.cell 7 31,.tmp 8] [.agg ((nodeH (lastH r) ((upV x (m - half n) (n - half n) (initH r)).1)).map bv).toArray,.bool ((upV x (m - half n) (n - half n) (initH r)).2)] (.tuple #[.agg ((nodeH (lastH r) ((upV x (m - half n) (n - half n) (initH r)).1)).map bv).toArray,.bool ((upV x (m - half n) (n - half n) (initH r)).2)]) rfl hF ⟨⟨_,rfl,Loads.hash (by kernel_rfl) (node_len _ _) m3⟩,rfl,trivial⟩ rfl ?_
    exact ⟨by rw [up_hi (by omega) hr0 (by omega)] <;> rfl,hl,_,hm,hu,g0.toGrew,e0,kt⟩
theorem upc_all (hz : Heap) (bl br bu : Nat) (x : Hs) (va : Option Addr) (vc : Nat) (hx : x.length = 32) (h0s : 0 < hz.size) : ∀ (k : Nat) (h : Heap) (m n : Nat) (r : List Hs),r.length ≤ k → k ≤ 1099511627776 → h[bl]? = some (.cells (x.map bv).toArray 31) → h[br]? = some (.cells #[.slice va r.length vc] 26) → h[bu]? = some (.cells #[.func (.func 35) #[] #[.pointer (some ⟨bl,0,none⟩),.pointer (some ⟨br,0,none⟩),.pointer (some ⟨bu,0,none⟩)]] 52) → HR hz va vc r.length r → (r = [] ∨ ∀ k,va.map (fun (x : Addr) => x.block) = some k → k < hz.size) → Sep hz.size h.size [some bl,some br,some bu] → Ext hz h → Ktab h → m < n → n ≤ 9223372036854775807 → Sat Tryd.prog 35 #[.int .i64 ((m : Nat) : Int),.int .i64 ((n : Nat) : Int),.pointer (some ⟨bl,0,none⟩),.pointer (some ⟨br,0,none⟩),.pointer (some ⟨bu,0,none⟩)] h (fun v h' => v = .tuple #[hv (upV x m n r).1,.bool (upV x m n r).2] ∧ h'[bl]? = some (.cells (x.map bv).toArray 31) ∧ ∃ r',h'[br]? = some (.cells #[.slice va r' vc] 26) ∧ h'[bu]? = some (.cells #[.func (.func 35) #[] #[.pointer (some ⟨bl,0,none⟩),.pointer (some ⟨br,0,none⟩),.pointer (some ⟨bu,0,none⟩)]] 52) ∧ Grew (some br) h h' ∧ Ext hz h' ∧ Ktab h')
 | 0,h,m,n,r,hk,hkl,hl,hm,hu,hr,hz0,sep,e0,kt,hmn,hn => upc_step hz bl br bu x va vc hx h0s r.length (fun _ _ _ _ hlt => by omega) h m n r rfl hl hm hu hr hz0 sep e0 kt hmn hn (by omega)
 | k + 1,h,m,n,r,hk,hkl,hl,hm,hu,hr,hz0,sep,e0,kt,hmn,hn => upc_step hz bl br bu x va vc hx h0s r.length (fun h m n r hlt hl hm hu hr hz0 sep e0 kt hmn hn => upc_all hz bl br bu x va vc hx h0s k h m n r (by omega) (by omega) hl hm hu hr hz0 sep e0 kt hmn hn) h m n r rfl hl hm hu hr hz0 sep e0 kt hmn hn (by omega)
end Go.Proofs.YtkjlafiefgbjpaaDoor
