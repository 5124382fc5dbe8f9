/- Walks of proofs held: what each function computes, as a law of its calls. No condition but those that each theorem names. -/
import Derived.Test.YteinikjbaaembaaDoorVerA
import Derived.Test.YteinikjbaaembaaDoorTreeD
namespace Go.Proofs.YteinikjbaaembaaDoor
open Go Go.Lane Go.Sha
noncomputable def b32 : Code := Tryd.f32.body.getD .skip
set_option maxHeartbeats 1000000 in
theorem wayc_step (hz : Heap) (bl br bu : Nat) (x : Hs) (va : Option Addr) (vc : Nat) (hx : x.length = 32) (h0s : 0 < hz.size) (k : Nat) (ih : ∀ (h : Heap) (m n : Nat) (r : List Hs) (whole : Bool),r.length < k → h[bl]? = some (.cells (x.map bv).toArray 23) → h[br]? = some (.cells #[.slice va r.length vc] 24) → h[bu]? = some (.cells #[.func (.func 32) #[] #[.pointer (some ⟨bl,0,none⟩),.pointer (some ⟨br,0,none⟩),.pointer (some ⟨bu,0,none⟩)]] 56) → HR hz va vc r.length r → (r = [] ∨ ∀ k,va.map (fun (x : Addr) => x.block) = some k → k < hz.size) → Sep hz.size h.size [some bl,some br,some bu] → Ext hz h → Ktab h → 0 < m → m ≤ n → n ≤ 9223372036854775807 → Sat Tryd.prog 32 #[.int .i64 ((m : Nat) : Int),.int .i64 ((n : Nat) : Int),.bool whole,.pointer (some ⟨bl,0,none⟩),.pointer (some ⟨br,0,none⟩),.pointer (some ⟨bu,0,none⟩)] h (fun v h' => ∃ X Y,v = .tuple #[hv X,hv Y,.bool (twV x m n r whole).2.2] ∧ X.length = 32 ∧ Y.length = 32 ∧ ((twV x m n r whole).2.2 = true → X = (twV x m n r whole).1 ∧ Y = (twV x m n r whole).2.1) ∧ h'[bl]? = some (.cells (x.map bv).toArray 23) ∧ ∃ r',h'[br]? = some (.cells #[.slice va r' vc] 24) ∧ h'[bu]? = some (.cells #[.func (.func 32) #[] #[.pointer (some ⟨bl,0,none⟩),.pointer (some ⟨br,0,none⟩),.pointer (some ⟨bu,0,none⟩)]] 56) ∧ Grew (some br) h h' ∧ Ext hz h' ∧ Ktab h')) (h : Heap) (m n : Nat) (r : List Hs) (whole : Bool) (hrk : r.length = k) (hl : h[bl]? = some (.cells (x.map bv).toArray 23)) (hm : h[br]? = some (.cells #[.slice va r.length vc] 24)) (hu : h[bu]? = some (.cells #[.func (.func 32) #[] #[.pointer (some ⟨bl,0,none⟩),.pointer (some ⟨br,0,none⟩),.pointer (some ⟨bu,0,none⟩)]] 56)) (hr : HR hz va vc r.length r) (hz0 : (r = [] ∨ ∀ k,va.map (fun (x : Addr) => x.block) = some k → k < hz.size)) (sep : Sep hz.size h.size [some bl,some br,some bu]) (e0 : Ext hz h) (kt : Ktab h) (hm0 : 0 < m) (hmn : m ≤ n) (hn : n ≤ 9223372036854775807) (hrl : r.length ≤ 1099511627776) : Sat Tryd.prog 32 #[.int .i64 ((m : Nat) : Int),.int .i64 ((n : Nat) : Int),.bool whole,.pointer (some ⟨bl,0,none⟩),.pointer (some ⟨br,0,none⟩),.pointer (some ⟨bu,0,none⟩)] h fun v h' => ∃ X Y,v = .tuple #[hv X,hv Y,.bool (twV x m n r whole).2.2] ∧ X.length = 32 ∧ Y.length = 32 ∧ ((twV x m n r whole).2.2 = true → X = (twV x m n r whole).1 ∧ Y = (twV x m n r whole).2.1) ∧ h'[bl]? = some (.cells (x.map bv).toArray 23) ∧ ∃ r',h'[br]? = some (.cells #[.slice va r' vc] 24) ∧ h'[bu]? = some (.cells #[.func (.func 32) #[] #[.pointer (some ⟨bl,0,none⟩),.pointer (some ⟨br,0,none⟩),.pointer (some ⟨bu,0,none⟩)]] 56) ∧ Grew (some br) h h' ∧ Ext hz h' ∧ Ktab h' := by
 have g0 := Gr.refl (fun k => k = br) h
 refine sat_of (args := [.int .i64 ((m : Nat) : Int),.int .i64 ((n : Nat) : Int),.bool whole,.pointer (some ⟨bl,0,none⟩),.pointer (some ⟨br,0,none⟩),.pointer (some ⟨bu,0,none⟩)]) (fn := Tryd.f32) (B := b32) (n := 89) (L := [(0,.int .i64 ((m : Nat) : Int)),(1,.int .i64 ((n : Nat) : Int)),(2,.bool whole),(3,.pointer (some ⟨bl,0,none⟩)),(4,.pointer (some ⟨br,0,none⟩)),(5,.pointer (some ⟨bu,0,none⟩))]) Tryd.func32 rfl (by kernel_rfl) rfl ?_
 intro a hF
 refine cS ?_
 refine cP 0 hF ?_
 refine SeqK.eff (k' := 1) (Does.new (v := .pointer (some ⟨h.size,0,none⟩)) (o := .cells (z32.map bv).toArray 23) (by kernel_rfl)) rfl ?_
 rintro _ h1 ⟨rfl,hh⟩
 have g2 : Ext h h1 := push_ext hh
 have m3 : h1[h.size]? = some (.cells (z32.map bv).toArray 23) := push_at hh
 clear hh
 have lt4 := blk_lt m3
 have zs5 := e0.size
 have zs6 := g0.1
 have hlo := e0.size
 have sepo := sep
 replace e0 := e0.ext g2
 replace kt := kt.ext g2
 replace g0 := g0.ext g2
 replace hl := Ext.blk g2 hl
 replace hm := Ext.blk g2 hm
 replace hu := Ext.blk g2 hu
 replace sep := sep.up g2.size
 replace sep := sepo.new hlo (blk_lt m3)
 clear sepo hlo
 refine SeqK.eff (k' := 2) (Does.new (v := .pointer (some ⟨h1.size,0,none⟩)) (o := .cells (z32.map bv).toArray 23) (by kernel_rfl)) rfl ?_
 rintro _ h7 ⟨rfl,hh⟩
 have g8 : Ext h1 h7 := push_ext hh
 have m9 : h7[h1.size]? = some (.cells (z32.map bv).toArray 23) := push_at hh
 clear hh
 have lt10 := blk_lt m9
 have zs11 := e0.size
 have zs12 := g0.1
 have hlo := e0.size
 have sepo := sep
 replace e0 := e0.ext g8
 replace kt := kt.ext g8
 replace g0 := g0.ext g8
 replace hl := Ext.blk g8 hl
 replace hm := Ext.blk g8 hm
 replace hu := Ext.blk g8 hu
 replace m3 := Ext.blk g8 m3
 replace sep := sep.up g8.size
 replace sep := sepo.new hlo (blk_lt m9)
 clear sepo hlo
 refine sP 3 [.bool false] ?_
 refine sD [(0,nV m),(1,nV n),(2,.bool whole),(3,pV bl),(4,pV br),(5,pV bu),(9,pV h.size),(10,pV h1.size)] ?_
 clear hF a; intro a hF
 refine tK ?_
 refine cS ?_
 refine cS ?_
 rcases Nat.decEq m n with hne | heq <;> cases whole
 ·skip
  refine cP 1 hF ?_
  refine sP 2 [nV m,nV n] ?_
  refine s1 3 (.bool false) (.bool (((m : Nat) : Int) == ((n : Nat) : Int))) (congrArg Value.bool (beq_eq_false_iff_ne.2 (by omega))) ?_
  refine sP 6 [.bool false,undef,.bool false] ?_
  refine sD [(0,nV m),(1,nV n),(2,.bool false),(3,pV bl),(4,pV br),(5,pV bu),(9,pV h.size),(10,pV h1.size),(26,.bool false)] ?_
  clear hF a; intro a hF
  refine tK ?_
  refine cF 26 hF ?_
  refine cN ?_
  refine tK ?_
  refine cS ?_
  rcases Nat.eq_zero_or_pos r.length with hr0 | hr0
  ·skip
   refine cP 3 hF ?_
   refine SeqK.eff (k' := 1) (Does.call (f := 29) (args := #[.pointer (some ⟨br,0,none⟩)]) (by kernel_rfl) (pop_no _ br r va vc hm (hr.ext e0) (hz0.imp id fun z => ⟨by intro e; have := z _ e; have := sep.low 3 rfl _ rfl; omega,by intro k e; have := z _ e; have := e0.size; omega⟩) (by omega) (by omega))) rfl ?_
   rintro _ h13 ⟨rfl,hm2,g⟩
   replace e0 := e0.grew g (sep.low 3 rfl)
   replace kt := kt.grew g (sep.zero 3 rfl h0s)
   replace g0 := g0.grew g (fun i e => .inl (by cases e; rfl))
   replace hl := Grew.blk g hl ((sep.bp 2 3))
   replace hu := Grew.blk g hu ((sep.bp 4 3))
   replace m3 := Grew.blk g m3 ((sep.bp 1 3))
   replace m9 := Grew.blk g m9 ((sep.bp 0 3))
   replace sep := sep.up g.size
   clear hm g; have hm := hm2; clear hm2
   refine sP 4 [.tuple #[.agg (z32.map bv).toArray,.bool false],.agg (z32.map bv).toArray,.bool false] ?_
   refine SeqK.eff (k' := 5) (Does.new (v := .pointer (some ⟨h13.size,0,none⟩)) (o := .cells (z32.map bv).toArray 23) (by kernel_rfl)) rfl ?_
   rintro _ h14 ⟨rfl,hh⟩
   have g15 : Ext h13 h14 := push_ext hh
   have m16 : h14[h13.size]? = some (.cells (z32.map bv).toArray 23) := push_at hh
   clear hh
   have lt17 := blk_lt m16
   have zs18 := e0.size
   have zs19 := g0.1
   have hlo := e0.size
   have sepo := sep
   replace e0 := e0.ext g15
   replace kt := kt.ext g15
   replace g0 := g0.ext g15
   replace hl := Ext.blk g15 hl
   replace hm := Ext.blk g15 hm
   replace hu := Ext.blk g15 hu
   replace m3 := Ext.blk g15 m3
   replace m9 := Ext.blk g15 m9
   replace sep := sep.up g15.size
   replace sep := sepo.new hlo (blk_lt m16)
   clear sepo hlo
   refine SeqK.eff (k' := 6) (Does.store (b := h13.size) (off := 0) (vs := z32.map bv) (l := z32.map bv) (storeOp_of (by kernel_rfl) (hlm rfl)) m16 (hfit rfl rfl) (ones_map _)) rfl ?_
   rintro _ h20 ⟨rfl,hh⟩
   have g21 : Grew (some (h13.size)) h14 h20 := hput_gr hh
   replace m16 : h20[h13.size]? = some (.cells (z32.map bv).toArray 23) := hput_at (off := 0) (vs := z32.map bv) (l := (z32.map bv)) hh (hsplice rfl rfl) m16
   clear hh
   replace e0 := e0.grew g21 (sep.low 0 rfl)
   replace kt := kt.grew g21 (sep.zero 0 rfl h0s)
   replace g0 := g0.grew g21 (fun i e => .inr (by cases e; omega))
   replace hl := Grew.blk g21 hl ((sep.bp 3 0))
   replace hm := Grew.blk g21 hm ((sep.bp 4 0))
   replace hu := Grew.blk g21 hu ((sep.bp 5 0))
   replace m3 := Grew.blk g21 m3 ((sep.bp 2 0))
   replace m9 := Grew.blk g21 m9 ((sep.bp 1 0))
   replace sep := sep.up g21.size
   refine sP 7 [.bool false] ?_
   refine sD [(0,nV m),(1,nV n),(2,.bool false),(4,pV br),(5,pV bu),(9,pV h.size),(10,pV h1.size),(12,pV h13.size),(13,.bool false)] ?_
   clear hF a; intro a hF
   refine tK ?_
   refine cS ?_
   refine cS ?_
   refine cP 4 hF ?_
   refine sP 7 [.bool false,.bool true,.bool true,undef,undef,undef,.bool true] ?_
   refine sD [(0,nV m),(1,nV n),(2,.bool false),(4,pV br),(5,pV bu),(9,pV h.size),(10,pV h1.size),(12,pV h13.size),(13,.bool false),(42,.bool true)] ?_
   clear hF a; intro a hF
   refine tK ?_
   refine cT 42 hF ?_
   refine cS ?_
   refine cD [0,0,0,4,12,28,60,124,13,271,1023] 5 mixed hF ?_
   refine mL 1 1 0 (.agg (z32.map bv).toArray) (Calm.load (T := 23) (p := ⟨h13.size,0,none⟩) (by kernel_rfl) (Loads.hash (by kernel_rfl) rfl m16)) ?_
   refine mL 3 3 1 (.agg (z32.map bv).toArray) (Calm.load (T := 23) (p := ⟨h13.size,0,none⟩) (by kernel_rfl) (Loads.hash (by kernel_rfl) rfl m16)) ?_
   refine mP 255 [2,3,4,5,6,7] [.bool false,.bool false,undef,undef,undef,.bool false] ?_
   refine SimK.eff (i := 8) (D' := 511) (X' := 269) (by kernel_rfl) (by kernel_rfl) (by kernel_rfl) [1] (by kernel_rfl) (Does.store (b := h.size) (off := 0) (vs := z32.map bv) (l := z32.map bv) (storeOp_of (by kernel_rfl) (hlm rfl)) m3 (hfit rfl rfl) (ones_map _)) ?_
   rintro _ h22 ⟨rfl,hh⟩
   have g23 : Grew (some (h.size)) h20 h22 := hput_gr hh
   replace m3 : h22[h.size]? = some (.cells (z32.map bv).toArray 23) := hput_at (off := 0) (vs := z32.map bv) (l := (z32.map bv)) hh (hsplice rfl rfl) m3
   clear hh
   replace e0 := e0.grew g23 (sep.low 2 rfl)
   replace kt := kt.grew g23 (sep.zero 2 rfl h0s)
   replace g0 := g0.grew g23 (fun i e => .inr (by cases e; omega))
   replace hl := Grew.blk g23 hl ((sep.bp 3 2))
   replace hm := Grew.blk g23 hm ((sep.bp 4 2))
   replace hu := Grew.blk g23 hu ((sep.bp 5 2))
   replace m9 := Grew.blk g23 m9 ((sep.bp 1 2))
   replace m16 := Grew.blk g23 m16 ((sep.bp 0 2))
   replace sep := sep.up g23.size
   refine ⟨?_,?_⟩
   ·intro j hj
    simp only [List.mem_cons,List.not_mem_nil,or_false] at hj
    subst hj
    exact goodOf (Calm.load (T := 23) (p := ⟨h13.size,0,none⟩) (by kernel_rfl) (Loads.hash (by kernel_rfl) rfl m16))
   refine SimK.eff0 (i := 9) (D' := 1023) (X' := 783) (by kernel_rfl) (by kernel_rfl) (by kernel_rfl) (by kernel_rfl) (Does.store (b := h1.size) (off := 0) (vs := z32.map bv) (l := z32.map bv) (storeOp_of (by kernel_rfl) (hlm rfl)) m9 (hfit rfl rfl) (ones_map _)) ?_
   rintro _ h24 ⟨rfl,hh⟩
   have g25 : Grew (some (h1.size)) h22 h24 := hput_gr hh
   replace m9 : h24[h1.size]? = some (.cells (z32.map bv).toArray 23) := hput_at (off := 0) (vs := z32.map bv) (l := (z32.map bv)) hh (hsplice rfl rfl) m9
   clear hh
   replace e0 := e0.grew g25 (sep.low 1 rfl)
   replace kt := kt.grew g25 (sep.zero 1 rfl h0s)
   replace g0 := g0.grew g25 (fun i e => .inr (by cases e; omega))
   replace hl := Grew.blk g25 hl ((sep.bp 3 1))
   replace hm := Grew.blk g25 hm ((sep.bp 4 1))
   replace hu := Grew.blk g25 hu ((sep.bp 5 1))
   replace m3 := Grew.blk g25 m3 ((sep.bp 2 1))
   replace m16 := Grew.blk g25 m16 ((sep.bp 0 1))
   replace sep := sep.up g25.size
   refine mP 2047 [10] [.bool false] ?_
   refine mD [(9,pV h.size),(10,pV h1.size),(11,.bool false)] ?_
   clear hF a; intro a hF
   refine tK ?_
   refine cR ?_
   show retK Tryd.prog Tryd.f32 (fun v h' => ∃ X Y,v = .tuple #[hv X,hv Y,.bool (twV x m n r false).2.2] ∧ X.length = 32 ∧ Y.length = 32 ∧ ((twV x m n r false).2.2 = true → X = (twV x m n r false).1 ∧ Y = (twV x m n r false).2.1) ∧ h'[bl]? = some (.cells (x.map bv).toArray 23) ∧ ∃ r',h'[br]? = some (.cells #[.slice va r' vc] 24) ∧ h'[bu]? = some (.cells #[.func (.func 32) #[] #[.pointer (some ⟨bl,0,none⟩),.pointer (some ⟨br,0,none⟩),.pointer (some ⟨bu,0,none⟩)]] 56) ∧ Grew (some br) h h' ∧ Ext hz h' ∧ Ktab h') .ret a h24
   refine ret_ok [.cell 9 23,.cell 10 23,.tmp 11] [.agg (z32.map bv).toArray,.agg (z32.map bv).toArray,.bool false] (.tuple #[.agg (z32.map bv).toArray,.agg (z32.map bv).toArray,.bool false]) rfl hF ⟨⟨_,rfl,Loads.hash (by kernel_rfl) rfl m3⟩,⟨_,rfl,Loads.hash (by kernel_rfl) rfl m9⟩,rfl,trivial⟩ rfl ?_
   exact ⟨z32,z32,by rw [tw_none (by simp) hr0] <;> rfl,rfl,rfl,(fun e => by rw [tw_none (by simp) hr0] at e; cases e),hl,_,hm,hu,g0.toGrew,e0,kt⟩
  ·skip
   refine cP 3 hF ?_
   refine SeqK.eff (k' := 1) (Does.call (f := 29) (args := #[.pointer (some ⟨br,0,none⟩)]) (by kernel_rfl) (pop_ok _ br r va vc hm (hr.ext e0) (hz0.imp id fun z => ⟨by intro e; have := z _ e; have := sep.low 3 rfl _ rfl; omega,by intro k e; have := z _ e; have := e0.size; omega⟩) (by omega) (by omega))) rfl ?_
   rintro _ h26 ⟨rfl,hm2,g⟩
   replace e0 := e0.grew g (sep.low 3 rfl)
   replace kt := kt.grew g (sep.zero 3 rfl h0s)
   replace g0 := g0.grew g (fun i e => .inl (by cases e; rfl))
   replace hl := Grew.blk g hl ((sep.bp 2 3))
   replace hu := Grew.blk g hu ((sep.bp 4 3))
   replace m3 := Grew.blk g m3 ((sep.bp 1 3))
   replace m9 := Grew.blk g m9 ((sep.bp 0 3))
   replace sep := sep.up g.size
   clear hm g; have hm := hm2; clear hm2
   refine sP 4 [.tuple #[.agg ((lastH r).map bv).toArray,.bool true],.agg ((lastH r).map bv).toArray,.bool true] ?_
   refine SeqK.eff (k' := 5) (Does.new (v := .pointer (some ⟨h26.size,0,none⟩)) (o := .cells (z32.map bv).toArray 23) (by kernel_rfl)) rfl ?_
   rintro _ h27 ⟨rfl,hh⟩
   have g28 : Ext h26 h27 := push_ext hh
   have m29 : h27[h26.size]? = some (.cells (z32.map bv).toArray 23) := push_at hh
   clear hh
   have lt30 := blk_lt m29
   have zs31 := e0.size
   have zs32 := g0.1
   have hlo := e0.size
   have sepo := sep
   replace e0 := e0.ext g28
   replace kt := kt.ext g28
   replace g0 := g0.ext g28
   replace hl := Ext.blk g28 hl
   replace hm := Ext.blk g28 hm
   replace hu := Ext.blk g28 hu
   replace m3 := Ext.blk g28 m3
   replace m9 := Ext.blk g28 m9
   replace sep := sep.up g28.size
   replace sep := sepo.new hlo (blk_lt m29)
   clear sepo hlo
   refine SeqK.eff (k' := 6) (Does.store (b := h26.size) (off := 0) (vs := (lastH r).map bv) (l := z32.map bv) (storeOp_of (by kernel_rfl) (hlm (last_len hr.2.1 (by omega)))) m29 (hfit rfl (last_len hr.2.1 (by omega))) (ones_map _)) rfl ?_
   rintro _ h33 ⟨rfl,hh⟩
   have g34 : Grew (some (h26.size)) h27 h33 := hput_gr hh
   replace m29 : h33[h26.size]? = some (.cells ((lastH r).map bv).toArray 23) := hput_at (off := 0) (vs := (lastH r).map bv) (l := (z32.map bv)) hh (hsplice rfl (last_len hr.2.1 (by omega))) m29
   clear hh
   replace e0 := e0.grew g34 (sep.low 0 rfl)
   replace kt := kt.grew g34 (sep.zero 0 rfl h0s)
   replace g0 := g0.grew g34 (fun i e => .inr (by cases e; omega))
   replace hl := Grew.blk g34 hl ((sep.bp 3 0))
   replace hm := Grew.blk g34 hm ((sep.bp 4 0))
   replace hu := Grew.blk g34 hu ((sep.bp 5 0))
   replace m3 := Grew.blk g34 m3 ((sep.bp 2 0))
   replace m9 := Grew.blk g34 m9 ((sep.bp 1 0))
   replace sep := sep.up g34.size
   refine sP 7 [.bool true] ?_
   refine sD [(0,nV m),(1,nV n),(2,.bool false),(4,pV br),(5,pV bu),(9,pV h.size),(10,pV h1.size),(12,pV h26.size),(13,.bool true)] ?_
   clear hF a; intro a hF
   refine tK ?_
   refine cS ?_
   refine cS ?_
   refine cP 4 hF ?_
   refine sP 5 [.bool true,.bool false,.bool false,nV m,nV n] ?_
   refine s1 6 (.bool false) (.bool (((m : Nat) : Int) == ((n : Nat) : Int))) (congrArg Value.bool (beq_eq_false_iff_ne.2 (by omega))) ?_
   refine sP 7 [.bool false] ?_
   refine sD [(0,nV m),(1,nV n),(2,.bool false),(4,pV br),(5,pV bu),(9,pV h.size),(10,pV h1.size),(12,pV h26.size),(13,.bool true),(42,.bool false)] ?_
   clear hF a; intro a hF
   refine tK ?_
   refine cF 42 hF ?_
   refine cN ?_
   refine tK ?_
   refine cS ?_
   refine cP 6 hF ?_
   refine sP 1 [nV n] ?_
   refine sC 2 (.int .i64 ((half n : Nat) : Int)) (Does.call (f := 30) (args := #[.int .i64 ((n : Nat) : Int)]) (by kernel_rfl) (vsplit_sat _ n (by omega) (by omega))) ?_
   refine sP 3 [nV (half n)] ?_
   refine sD [(0,nV m),(1,nV n),(2,.bool false),(5,pV bu),(9,pV h.size),(10,pV h1.size),(12,pV h26.size),(14,nV (half n))] ?_
   clear hF a; intro a hF
   refine tK ?_
   refine cS ?_
   refine cP 7 hF ?_
   refine sP 3 [nV m,nV (half n),.bool (decide (((m : Nat) : Int) ≤ ((half n : Nat) : Int)))] ?_
   refine sD [(0,nV m),(1,nV n),(2,.bool false),(5,pV bu),(9,pV h.size),(10,pV h1.size),(12,pV h26.size),(14,nV (half n)),(55,.bool (decide (((m : Nat) : Int) ≤ ((half n : Nat) : Int))))] ?_
   clear hF a; intro a hF
   refine tK ?_
   refine cC 55 (decide (((m : Nat) : Int) ≤ ((half n : Nat) : Int))) hF (fun hc35 => ?_) (fun hc35 => ?_)
   ·skip
    replace hc35 := of_decide_eq_true hc35
    refine cS ?_
    refine cP 8 hF ?_
    refine sC 1 (.func (.func 32) #[] #[.pointer (some ⟨bl,0,none⟩),.pointer (some ⟨br,0,none⟩),.pointer (some ⟨bu,0,none⟩)]) (Calm.load (T := 56) (p := ⟨bu,0,none⟩) (by kernel_rfl) (Loads.one (k := 1) (by kernel_rfl) ((hcell_blk hu).trans rfl))) ?_
    refine sP 4 [nV m,nV (half n),.bool false] ?_
    have hil := initH_len r
    have hri : HR hz va vc (initH r).length (initH r) := by rw [hil]; exact hr.take (by omega)
    rw [← hil] at hm
    have hhl := half_lt (n := n) (by omega); have hhp := half_pos n
    refine SeqK.eff (k' := 5) (Does.call (f := 32) (args := #[.int .i64 ((m : Nat) : Int),.int .i64 ((half n : Nat) : Int),.bool false,.pointer (some ⟨bl,0,none⟩),.pointer (some ⟨br,0,none⟩),.pointer (some ⟨bu,0,none⟩)]) (by kernel_rfl) (ih _ m (half n) (initH r) false (by rw [hil]; omega) hl hm hu hri (hz0.imp (fun e => by rw [e]; rfl) id) (sep.sub (l' := [some bl,some br,some bu]) (.cons _ (.cons _ (.cons _ (.cons_cons _ (.cons_cons _ (.cons_cons _ (.slnil)))))))) e0 kt (by omega) (by omega) (by omega))) rfl ?_
    rintro _ h36 ⟨X3,Y3,rfl,hX3,hY3,hXY,hl3,r3,hm3,hu3,g3,e3,kt3⟩
    have sepo := sep; clear hl hm hu e0 kt; have hl := hl3; have hm := hm3; have hu := hu3; have e0 := e3; have kt := kt3; clear hl3 hm3 hu3 e3 kt3
    replace m3 := Grew.blk g3 m3 (sep.bp 2 4)
    replace m9 := Grew.blk g3 m9 (sep.bp 1 4)
    replace m29 := Grew.blk g3 m29 (sep.bp 0 4)
    replace g0 := g0.grew g3 (fun i e => .inl (by cases e; rfl))
    replace sep := sepo.up g3.size; clear sepo g3
    refine sP 9 [.tuple #[.agg (X3.map bv).toArray,.agg (Y3.map bv).toArray,.bool ((twV x m (half n) (initH r) false).2.2)],.agg (X3.map bv).toArray,.agg (Y3.map bv).toArray,.bool ((twV x m (half n) (initH r) false).2.2)] ?_
    refine SeqK.eff (k' := 10) (Does.new (v := .pointer (some ⟨h36.size,0,none⟩)) (o := .cells (z32.map bv).toArray 23) (by kernel_rfl)) rfl ?_
    rintro _ h37 ⟨rfl,hh⟩
    have g38 : Ext h36 h37 := push_ext hh
    have m39 : h37[h36.size]? = some (.cells (z32.map bv).toArray 23) := push_at hh
    clear hh
    have lt40 := blk_lt m39
    have zs41 := e0.size
    have zs42 := g0.1
    have hlo := e0.size
    have sepo := sep
    replace e0 := e0.ext g38
    replace kt := kt.ext g38
    replace g0 := g0.ext g38
    replace hl := Ext.blk g38 hl
    replace hm := Ext.blk g38 hm
    replace hu := Ext.blk g38 hu
    replace m3 := Ext.blk g38 m3
    replace m9 := Ext.blk g38 m9
    replace m29 := Ext.blk g38 m29
    replace sep := sep.up g38.size
    replace sep := sepo.new hlo (blk_lt m39)
    clear sepo hlo
    refine SeqK.eff (k' := 11) (Does.new (v := .pointer (some ⟨h37.size,0,none⟩)) (o := .cells (z32.map bv).toArray 23) (by kernel_rfl)) rfl ?_
    rintro _ h43 ⟨rfl,hh⟩
    have g44 : Ext h37 h43 := push_ext hh
    have m45 : h43[h37.size]? = some (.cells (z32.map bv).toArray 23) := push_at hh
    clear hh
    have lt46 := blk_lt m45
    have zs47 := e0.size
    have zs48 := g0.1
    have hlo := e0.size
    have sepo := sep
    replace e0 := e0.ext g44
    replace kt := kt.ext g44
    replace g0 := g0.ext g44
    replace hl := Ext.blk g44 hl
    replace hm := Ext.blk g44 hm
    replace hu := Ext.blk g44 hu
    replace m3 := Ext.blk g44 m3
    replace m9 := Ext.blk g44 m9
    replace m29 := Ext.blk g44 m29
    replace m39 := Ext.blk g44 m39
    replace sep := sep.up g44.size
    replace sep := sepo.new hlo (blk_lt m45)
    clear sepo hlo
    refine SeqK.eff (k' := 12) (Does.store (b := h36.size) (off := 0) (vs := X3.map bv) (l := z32.map bv) (storeOp_of (by kernel_rfl) (hlm hX3)) m39 (hfit rfl hX3) (ones_map _)) rfl ?_
    rintro _ h49 ⟨rfl,hh⟩
    have g50 : Grew (some (h36.size)) h43 h49 := hput_gr hh
    replace m39 : h49[h36.size]? = some (.cells (X3.map bv).toArray 23) := hput_at (off := 0) (vs := X3.map bv) (l := (z32.map bv)) hh (hsplice rfl hX3) m39
    clear hh
    replace e0 := e0.grew g50 (sep.low 1 rfl)
    replace kt := kt.grew g50 (sep.zero 1 rfl h0s)
    replace g0 := g0.grew g50 (fun i e => .inr (by cases e; omega))
    replace hl := Grew.blk g50 hl ((sep.bp 5 1))
    replace hm := Grew.blk g50 hm ((sep.bp 6 1))
    replace hu := Grew.blk g50 hu ((sep.bp 7 1))
    replace m3 := Grew.blk g50 m3 ((sep.bp 4 1))
    replace m9 := Grew.blk g50 m9 ((sep.bp 3 1))
    replace m29 := Grew.blk g50 m29 ((sep.bp 2 1))
    replace m45 := Grew.blk g50 m45 ((sep.bp 0 1))
    replace sep := sep.up g50.size
    refine SeqK.eff (k' := 13) (Does.store (b := h37.size) (off := 0) (vs := Y3.map bv) (l := z32.map bv) (storeOp_of (by kernel_rfl) (hlm hY3)) m45 (hfit rfl hY3) (ones_map _)) rfl ?_
    rintro _ h51 ⟨rfl,hh⟩
    have g52 : Grew (some (h37.size)) h49 h51 := hput_gr hh
    replace m45 : h51[h37.size]? = some (.cells (Y3.map bv).toArray 23) := hput_at (off := 0) (vs := Y3.map bv) (l := (z32.map bv)) hh (hsplice rfl hY3) m45
    clear hh
    replace e0 := e0.grew g52 (sep.low 0 rfl)
    replace kt := kt.grew g52 (sep.zero 0 rfl h0s)
    replace g0 := g0.grew g52 (fun i e => .inr (by cases e; omega))
    replace hl := Grew.blk g52 hl ((sep.bp 5 0))
    replace hm := Grew.blk g52 hm ((sep.bp 6 0))
    replace hu := Grew.blk g52 hu ((sep.bp 7 0))
    replace m3 := Grew.blk g52 m3 ((sep.bp 4 0))
    replace m9 := Grew.blk g52 m9 ((sep.bp 3 0))
    replace m29 := Grew.blk g52 m29 ((sep.bp 2 0))
    replace m39 := Grew.blk g52 m39 ((sep.bp 1 0))
    replace sep := sep.up g52.size
    refine sP 14 [.bool ((twV x m (half n) (initH r) false).2.2)] ?_
    refine sD [(9,pV h.size),(10,pV h1.size),(12,pV h26.size),(15,pV h36.size),(16,pV h37.size),(17,.bool ((twV x m (half n) (initH r) false).2.2))] ?_
    clear hF a; intro a hF
    refine tK ?_
    refine cS ?_
    refine cD [0,0,0,6,0,15,47,127] 9 mixed hF ?_
    refine mL 1 1 0 (.agg (X3.map bv).toArray) (Calm.load (T := 23) (p := ⟨h36.size,0,none⟩) (by kernel_rfl) (Loads.hash (by kernel_rfl) hX3 m39)) ?_
    refine mL 3 3 1 (.agg (Y3.map bv).toArray) (Calm.load (T := 23) (p := ⟨h37.size,0,none⟩) (by kernel_rfl) (Loads.hash (by kernel_rfl) hY3 m45)) ?_
    refine mL 7 7 2 (.agg ((lastH r).map bv).toArray) (Calm.load (T := 23) (p := ⟨h26.size,0,none⟩) (by kernel_rfl) (Loads.hash (by kernel_rfl) (last_len hr.2.1 (by omega)) m29)) ?_
    refine mP 23 [4] [.bool ((twV x m (half n) (initH r) false).2.2)] ?_
    refine SimK.eff (i := 3) (D' := 31) (X' := 14) (by kernel_rfl) (by kernel_rfl) (by kernel_rfl) [0] (by kernel_rfl) (Does.call (f := 27) (args := #[.agg (Y3.map bv).toArray,.agg ((lastH r).map bv).toArray]) (by kernel_rfl) (node_sat _ Y3 (lastH r) hY3 (last_len hr.2.1 (by omega)) kt)) ?_
    rintro _ h53 ⟨rfl,g⟩
    replace e0 := e0.ext g
    replace kt := kt.ext g
    replace g0 := g0.ext g
    replace hl := Ext.blk g hl
    replace hm := Ext.blk g hm
    replace hu := Ext.blk g hu
    replace m3 := Ext.blk g m3
    replace m9 := Ext.blk g m9
    replace m29 := Ext.blk g m29
    replace m39 := Ext.blk g m39
    replace m45 := Ext.blk g m45
    replace sep := sep.up g.size
    refine ⟨?_,?_⟩
    ·intro j hj
     simp only [List.mem_cons,List.not_mem_nil,or_false] at hj
     subst hj
     exact goodOf (Calm.load (T := 23) (p := ⟨h36.size,0,none⟩) (by kernel_rfl) (Loads.hash (by kernel_rfl) hX3 m39))
    clear g
    refine SimK.eff0 (i := 5) (D' := 63) (X' := 47) (by kernel_rfl) (by kernel_rfl) (by kernel_rfl) (by kernel_rfl) (Does.store (b := h.size) (off := 0) (vs := X3.map bv) (l := z32.map bv) (storeOp_of (by kernel_rfl) (hlm hX3)) m3 (hfit rfl hX3) (ones_map _)) ?_
    rintro _ h54 ⟨rfl,hh⟩
    have g55 : Grew (some (h.size)) h53 h54 := hput_gr hh
    replace m3 : h54[h.size]? = some (.cells (X3.map bv).toArray 23) := hput_at (off := 0) (vs := X3.map bv) (l := (z32.map bv)) hh (hsplice rfl hX3) m3
    clear hh
    replace e0 := e0.grew g55 (sep.low 4 rfl)
    replace kt := kt.grew g55 (sep.zero 4 rfl h0s)
    replace g0 := g0.grew g55 (fun i e => .inr (by cases e; omega))
    replace hl := Grew.blk g55 hl ((sep.bp 5 4))
    replace hm := Grew.blk g55 hm ((sep.bp 6 4))
    replace hu := Grew.blk g55 hu ((sep.bp 7 4))
    replace m9 := Grew.blk g55 m9 ((sep.bp 3 4))
    replace m29 := Grew.blk g55 m29 ((sep.bp 2 4))
    replace m39 := Grew.blk g55 m39 ((sep.bp 1 4))
    replace m45 := Grew.blk g55 m45 ((sep.bp 0 4))
    replace sep := sep.up g55.size
    refine SimK.eff0 (i := 6) (D' := 127) (X' := 111) (by kernel_rfl) (by kernel_rfl) (by kernel_rfl) (by kernel_rfl) (Does.store (b := h1.size) (off := 0) (vs := (nodeH Y3 (lastH r)).map bv) (l := z32.map bv) (storeOp_of (by kernel_rfl) (hlm (node_len _ _))) m9 (hfit rfl (node_len _ _)) (ones_map _)) ?_
    rintro _ h56 ⟨rfl,hh⟩
    have g57 : Grew (some (h1.size)) h54 h56 := hput_gr hh
    replace m9 : h56[h1.size]? = some (.cells ((nodeH Y3 (lastH r)).map bv).toArray 23) := hput_at (off := 0) (vs := (nodeH Y3 (lastH r)).map bv) (l := (z32.map bv)) hh (hsplice rfl (node_len _ _)) m9
    clear hh
    replace e0 := e0.grew g57 (sep.low 3 rfl)
    replace kt := kt.grew g57 (sep.zero 3 rfl h0s)
    replace g0 := g0.grew g57 (fun i e => .inr (by cases e; omega))
    replace hl := Grew.blk g57 hl ((sep.bp 5 3))
    replace hm := Grew.blk g57 hm ((sep.bp 6 3))
    replace hu := Grew.blk g57 hu ((sep.bp 7 3))
    replace m3 := Grew.blk g57 m3 ((sep.bp 4 3))
    replace m29 := Grew.blk g57 m29 ((sep.bp 2 3))
    replace m39 := Grew.blk g57 m39 ((sep.bp 1 3))
    replace m45 := Grew.blk g57 m45 ((sep.bp 0 3))
    replace sep := sep.up g57.size
    refine mP 255 [7] [.bool ((twV x m (half n) (initH r) false).2.2)] ?_
    refine mD [(9,pV h.size),(10,pV h1.size),(11,.bool ((twV x m (half n) (initH r) false).2.2))] ?_
    clear hF a; intro a hF
    refine tK ?_
    refine cR ?_
    show retK Tryd.prog Tryd.f32 (fun v h' => ∃ X Y,v = .tuple #[hv X,hv Y,.bool (twV x m n r false).2.2] ∧ X.length = 32 ∧ Y.length = 32 ∧ ((twV x m n r false).2.2 = true → X = (twV x m n r false).1 ∧ Y = (twV x m n r false).2.1) ∧ h'[bl]? = some (.cells (x.map bv).toArray 23) ∧ ∃ r',h'[br]? = some (.cells #[.slice va r' vc] 24) ∧ h'[bu]? = some (.cells #[.func (.func 32) #[] #[.pointer (some ⟨bl,0,none⟩),.pointer (some ⟨br,0,none⟩),.pointer (some ⟨bu,0,none⟩)]] 56) ∧ Grew (some br) h h' ∧ Ext hz h' ∧ Ktab h') .ret a h56
    refine ret_ok [.cell 9 23,.cell 10 23,.tmp 11] [.agg (X3.map bv).toArray,.agg ((nodeH Y3 (lastH r)).map bv).toArray,.bool ((twV x m (half n) (initH r) false).2.2)] (.tuple #[.agg (X3.map bv).toArray,.agg ((nodeH Y3 (lastH r)).map bv).toArray,.bool ((twV x m (half n) (initH r) false).2.2)]) rfl hF ⟨⟨_,rfl,Loads.hash (by kernel_rfl) hX3 m3⟩,⟨_,rfl,Loads.hash (by kernel_rfl) (node_len _ _) m9⟩,rfl,trivial⟩ rfl ?_
    exact ⟨X3,nodeH Y3 (lastH r),by rw [tw_lo hr0 (by omega) (by omega)] <;> rfl,hX3,node_len _ _,(fun e => by rw [tw_lo hr0 (by omega) (by omega)] at e ⊢; obtain ⟨e1,e2⟩ := hXY e; rw [e1,e2]; exact ⟨rfl,rfl⟩),hl,_,hm,hu,g0.toGrew,e0,kt⟩
   ·skip
    replace hc35 := of_decide_eq_false hc35
    refine cS ?_
    refine cP 10 hF ?_
    refine sC 1 (.func (.func 32) #[] #[.pointer (some ⟨bl,0,none⟩),.pointer (some ⟨br,0,none⟩),.pointer (some ⟨bu,0,none⟩)]) (Calm.load (T := 56) (p := ⟨bu,0,none⟩) (by kernel_rfl) (Loads.one (k := 1) (by kernel_rfl) ((hcell_blk hu).trans rfl))) ?_
    refine sP 3 [nV m,nV (half n)] ?_
    refine s1 4 (.int .i64 ((m - (half n) : Nat) : Int)) (.int .i64 (IntKind.i64.wrap (((m : Nat) : Int) - ((half n : Nat) : Int)))) (congrArg (Value.int .i64) (w64' (by omega) (by omega) (by omega))) ?_
    refine sP 6 [nV n,nV (half n)] ?_
    refine s1 7 (.int .i64 ((n - (half n) : Nat) : Int)) (.int .i64 (IntKind.i64.wrap (((n : Nat) : Int) - ((half n : Nat) : Int)))) (congrArg (Value.int .i64) (w64' (by omega) (by omega) (by omega))) ?_
    have hil := initH_len r
    have hri : HR hz va vc (initH r).length (initH r) := by rw [hil]; exact hr.take (by omega)
    rw [← hil] at hm
    have hhl := half_lt (n := n) (by omega); have hhp := half_pos n
    refine SeqK.eff (k' := 8) (Does.call (f := 32) (args := #[.int .i64 ((m - (half n) : Nat) : Int),.int .i64 ((n - (half n) : Nat) : Int),.bool false,.pointer (some ⟨bl,0,none⟩),.pointer (some ⟨br,0,none⟩),.pointer (some ⟨bu,0,none⟩)]) (by kernel_rfl) (ih _ (m - half n) (n - half n) (initH r) false (by rw [hil]; omega) hl hm hu hri (hz0.imp (fun e => by rw [e]; rfl) id) (sep.sub (l' := [some bl,some br,some bu]) (.cons _ (.cons _ (.cons _ (.cons_cons _ (.cons_cons _ (.cons_cons _ (.slnil)))))))) e0 kt (by omega) (by omega) (by omega))) rfl ?_
    rintro _ h58 ⟨X3,Y3,rfl,hX3,hY3,hXY,hl3,r3,hm3,hu3,g3,e3,kt3⟩
    have sepo := sep; clear hl hm hu e0 kt; have hl := hl3; have hm := hm3; have hu := hu3; have e0 := e3; have kt := kt3; clear hl3 hm3 hu3 e3 kt3
    replace m3 := Grew.blk g3 m3 (sep.bp 2 4)
    replace m9 := Grew.blk g3 m9 (sep.bp 1 4)
    replace m29 := Grew.blk g3 m29 (sep.bp 0 4)
    replace g0 := g0.grew g3 (fun i e => .inl (by cases e; rfl))
    replace sep := sepo.up g3.size; clear sepo g3
    refine sP 12 [.tuple #[.agg (X3.map bv).toArray,.agg (Y3.map bv).toArray,.bool ((twV x (m - half n) (n - half n) (initH r) false).2.2)],.agg (X3.map bv).toArray,.agg (Y3.map bv).toArray,.bool ((twV x (m - half n) (n - half n) (initH r) false).2.2)] ?_
    refine SeqK.eff (k' := 13) (Does.new (v := .pointer (some ⟨h58.size,0,none⟩)) (o := .cells (z32.map bv).toArray 23) (by kernel_rfl)) rfl ?_
    rintro _ h59 ⟨rfl,hh⟩
    have g60 : Ext h58 h59 := push_ext hh
    have m61 : h59[h58.size]? = some (.cells (z32.map bv).toArray 23) := push_at hh
    clear hh
    have lt62 := blk_lt m61
    have zs63 := e0.size
    have zs64 := g0.1
    have hlo := e0.size
    have sepo := sep
    replace e0 := e0.ext g60
    replace kt := kt.ext g60
    replace g0 := g0.ext g60
    replace hl := Ext.blk g60 hl
    replace hm := Ext.blk g60 hm
    replace hu := Ext.blk g60 hu
    replace m3 := Ext.blk g60 m3
    replace m9 := Ext.blk g60 m9
    replace m29 := Ext.blk g60 m29
    replace sep := sep.up g60.size
    replace sep := sepo.new hlo (blk_lt m61)
    clear sepo hlo
    refine SeqK.eff (k' := 14) (Does.new (v := .pointer (some ⟨h59.size,0,none⟩)) (o := .cells (z32.map bv).toArray 23) (by kernel_rfl)) rfl ?_
    rintro _ h65 ⟨rfl,hh⟩
    have g66 : Ext h59 h65 := push_ext hh
    have m67 : h65[h59.size]? = some (.cells (z32.map bv).toArray 23) := push_at hh
    clear hh
    have lt68 := blk_lt m67
    have zs69 := e0.size
    have zs70 := g0.1
    have hlo := e0.size
    have sepo := sep
    replace e0 := e0.ext g66
    replace kt := kt.ext g66
    replace g0 := g0.ext g66
    replace hl := Ext.blk g66 hl
    replace hm := Ext.blk g66 hm
    replace hu := Ext.blk g66 hu
    replace m3 := Ext.blk g66 m3
    replace m9 := Ext.blk g66 m9
    replace m29 := Ext.blk g66 m29
    replace m61 := Ext.blk g66 m61
    replace sep := sep.up g66.size
    replace sep := sepo.new hlo (blk_lt m67)
    clear sepo hlo
    refine SeqK.eff (k' := 15) (Does.store (b := h58.size) (off := 0) (vs := X3.map bv) (l := z32.map bv) (storeOp_of (by kernel_rfl) (hlm hX3)) m61 (hfit rfl hX3) (ones_map _)) rfl ?_
    rintro _ h71 ⟨rfl,hh⟩
    have g72 : Grew (some (h58.size)) h65 h71 := hput_gr hh
    replace m61 : h71[h58.size]? = some (.cells (X3.map bv).toArray 23) := hput_at (off := 0) (vs := X3.map bv) (l := (z32.map bv)) hh (hsplice rfl hX3) m61
    clear hh
    replace e0 := e0.grew g72 (sep.low 1 rfl)
    replace kt := kt.grew g72 (sep.zero 1 rfl h0s)
    replace g0 := g0.grew g72 (fun i e => .inr (by cases e; omega))
    replace hl := Grew.blk g72 hl ((sep.bp 5 1))
    replace hm := Grew.blk g72 hm ((sep.bp 6 1))
    replace hu := Grew.blk g72 hu ((sep.bp 7 1))
    replace m3 := Grew.blk g72 m3 ((sep.bp 4 1))
    replace m9 := Grew.blk g72 m9 ((sep.bp 3 1))
    replace m29 := Grew.blk g72 m29 ((sep.bp 2 1))
    replace m67 := Grew.blk g72 m67 ((sep.bp 0 1))
    replace sep := sep.up g72.size
    refine SeqK.eff (k' := 16) (Does.store (b := h59.size) (off := 0) (vs := Y3.map bv) (l := z32.map bv) (storeOp_of (by kernel_rfl) (hlm hY3)) m67 (hfit rfl hY3) (ones_map _)) rfl ?_
    rintro _ h73 ⟨rfl,hh⟩
    have g74 : Grew (some (h59.size)) h71 h73 := hput_gr hh
    replace m67 : h73[h59.size]? = some (.cells (Y3.map bv).toArray 23) := hput_at (off := 0) (vs := Y3.map bv) (l := (z32.map bv)) hh (hsplice rfl hY3) m67
    clear hh
    replace e0 := e0.grew g74 (sep.low 0 rfl)
    replace kt := kt.grew g74 (sep.zero 0 rfl h0s)
    replace g0 := g0.grew g74 (fun i e => .inr (by cases e; omega))
    replace hl := Grew.blk g74 hl ((sep.bp 5 0))
    replace hm := Grew.blk g74 hm ((sep.bp 6 0))
    replace hu := Grew.blk g74 hu ((sep.bp 7 0))
    replace m3 := Grew.blk g74 m3 ((sep.bp 4 0))
    replace m9 := Grew.blk g74 m9 ((sep.bp 3 0))
    replace m29 := Grew.blk g74 m29 ((sep.bp 2 0))
    replace m61 := Grew.blk g74 m61 ((sep.bp 1 0))
    replace sep := sep.up g74.size
    refine sP 17 [.bool ((twV x (m - half n) (n - half n) (initH r) false).2.2)] ?_
    refine sD [(9,pV h.size),(10,pV h1.size),(12,pV h26.size),(18,pV h58.size),(19,pV h59.size),(20,.bool ((twV x (m - half n) (n - half n) (initH r) false).2.2))] ?_
    clear hF a; intro a hF
    refine tK ?_
    refine cS ?_
    refine cD [0,0,3,0,0,31,0,63,191,511] 11 mixed hF ?_
    refine mL 1 1 0 (.agg ((lastH r).map bv).toArray) (Calm.load (T := 23) (p := ⟨h26.size,0,none⟩) (by kernel_rfl) (Loads.hash (by kernel_rfl) (last_len hr.2.1 (by omega)) m29)) ?_
    refine mL 3 3 1 (.agg (X3.map bv).toArray) (Calm.load (T := 23) (p := ⟨h58.size,0,none⟩) (by kernel_rfl) (Loads.hash (by kernel_rfl) hX3 m61)) ?_
    refine mL 11 11 3 (.agg ((lastH r).map bv).toArray) (Calm.load (T := 23) (p := ⟨h26.size,0,none⟩) (by kernel_rfl) (Loads.hash (by kernel_rfl) (last_len hr.2.1 (by omega)) m29)) ?_
    refine mL 27 27 4 (.agg (Y3.map bv).toArray) (Calm.load (T := 23) (p := ⟨h59.size,0,none⟩) (by kernel_rfl) (Loads.hash (by kernel_rfl) hY3 m67)) ?_
    refine mP 91 [6] [.bool ((twV x (m - half n) (n - half n) (initH r) false).2.2)] ?_
    refine SimK.eff (i := 2) (D' := 95) (X' := 7) (by kernel_rfl) (by kernel_rfl) (by kernel_rfl) [3,4] (by kernel_rfl) (Does.call (f := 27) (args := #[.agg ((lastH r).map bv).toArray,.agg (X3.map bv).toArray]) (by kernel_rfl) (node_sat _ (lastH r) X3 (last_len hr.2.1 (by omega)) hX3 kt)) ?_
    rintro _ h75 ⟨rfl,g⟩
    replace e0 := e0.ext g
    replace kt := kt.ext g
    replace g0 := g0.ext g
    replace hl := Ext.blk g hl
    replace hm := Ext.blk g hm
    replace hu := Ext.blk g hu
    replace m3 := Ext.blk g m3
    replace m9 := Ext.blk g m9
    replace m29 := Ext.blk g m29
    replace m61 := Ext.blk g m61
    replace m67 := Ext.blk g m67
    replace sep := sep.up g.size
    refine ⟨?_,?_⟩
    ·intro j hj
     simp only [List.mem_cons,List.not_mem_nil,or_false] at hj
     rcases hj with rfl | rfl
     ·exact goodOf (Calm.load (T := 23) (p := ⟨h26.size,0,none⟩) (by kernel_rfl) (Loads.hash (by kernel_rfl) (last_len hr.2.1 (by omega)) m29))
     ·exact goodOf (Calm.load (T := 23) (p := ⟨h59.size,0,none⟩) (by kernel_rfl) (Loads.hash (by kernel_rfl) hY3 m67))
    clear g
    refine SimK.eff0 (i := 5) (D' := 127) (X' := 63) (by kernel_rfl) (by kernel_rfl) (by kernel_rfl) (by kernel_rfl) (Does.call (f := 27) (args := #[.agg ((lastH r).map bv).toArray,.agg (Y3.map bv).toArray]) (by kernel_rfl) (node_sat _ (lastH r) Y3 (last_len hr.2.1 (by omega)) hY3 kt)) ?_
    rintro _ h76 ⟨rfl,g⟩
    replace e0 := e0.ext g
    replace kt := kt.ext g
    replace g0 := g0.ext g
    replace hl := Ext.blk g hl
    replace hm := Ext.blk g hm
    replace hu := Ext.blk g hu
    replace m3 := Ext.blk g m3
    replace m9 := Ext.blk g m9
    replace m29 := Ext.blk g m29
    replace m61 := Ext.blk g m61
    replace m67 := Ext.blk g m67
    replace sep := sep.up g.size
    clear g
    refine SimK.eff0 (i := 7) (D' := 255) (X' := 191) (by kernel_rfl) (by kernel_rfl) (by kernel_rfl) (by kernel_rfl) (Does.store (b := h.size) (off := 0) (vs := (nodeH (lastH r) X3).map bv) (l := z32.map bv) (storeOp_of (by kernel_rfl) (hlm (node_len _ _))) m3 (hfit rfl (node_len _ _)) (ones_map _)) ?_
    rintro _ h77 ⟨rfl,hh⟩
    have g78 : Grew (some (h.size)) h76 h77 := hput_gr hh
    replace m3 : h77[h.size]? = some (.cells ((nodeH (lastH r) X3).map bv).toArray 23) := hput_at (off := 0) (vs := (nodeH (lastH r) X3).map bv) (l := (z32.map bv)) hh (hsplice rfl (node_len _ _)) m3
    clear hh
    replace e0 := e0.grew g78 (sep.low 4 rfl)
    replace kt := kt.grew g78 (sep.zero 4 rfl h0s)
    replace g0 := g0.grew g78 (fun i e => .inr (by cases e; omega))
    replace hl := Grew.blk g78 hl ((sep.bp 5 4))
    replace hm := Grew.blk g78 hm ((sep.bp 6 4))
    replace hu := Grew.blk g78 hu ((sep.bp 7 4))
    replace m9 := Grew.blk g78 m9 ((sep.bp 3 4))
    replace m29 := Grew.blk g78 m29 ((sep.bp 2 4))
    replace m61 := Grew.blk g78 m61 ((sep.bp 1 4))
    replace m67 := Grew.blk g78 m67 ((sep.bp 0 4))
    replace sep := sep.up g78.size
    refine SimK.eff0 (i := 8) (D' := 511) (X' := 447) (by kernel_rfl) (by kernel_rfl) (by kernel_rfl) (by kernel_rfl) (Does.store (b := h1.size) (off := 0) (vs := (nodeH (lastH r) Y3).map bv) (l := z32.map bv) (storeOp_of (by kernel_rfl) (hlm (node_len _ _))) m9 (hfit rfl (node_len _ _)) (ones_map _)) ?_
    rintro _ h79 ⟨rfl,hh⟩
    have g80 : Grew (some (h1.size)) h77 h79 := hput_gr hh
    replace m9 : h79[h1.size]? = some (.cells ((nodeH (lastH r) Y3).map bv).toArray 23) := hput_at (off := 0) (vs := (nodeH (lastH r) Y3).map bv) (l := (z32.map bv)) hh (hsplice rfl (node_len _ _)) m9
    clear hh
    replace e0 := e0.grew g80 (sep.low 3 rfl)
    replace kt := kt.grew g80 (sep.zero 3 rfl h0s)
    replace g0 := g0.grew g80 (fun i e => .inr (by cases e; omega))
    replace hl := Grew.blk g80 hl ((sep.bp 5 3))
    replace hm := Grew.blk g80 hm ((sep.bp 6 3))
    replace hu := Grew.blk g80 hu ((sep.bp 7 3))
    replace m3 := Grew.blk g80 m3 ((sep.bp 4 3))
    replace m29 := Grew.blk g80 m29 ((sep.bp 2 3))
    replace m61 := Grew.blk g80 m61 ((sep.bp 1 3))
    replace m67 := Grew.blk g80 m67 ((sep.bp 0 3))
    replace sep := sep.up g80.size
    refine mP 1023 [9] [.bool ((twV x (m - half n) (n - half n) (initH r) false).2.2)] ?_
    refine mD [(9,pV h.size),(10,pV h1.size),(11,.bool ((twV x (m - half n) (n - half n) (initH r) false).2.2))] ?_
    clear hF a; intro a hF
    refine tK ?_
    refine cR ?_
    show retK Tryd.prog Tryd.f32 (fun v h' => ∃ X Y,v = .tuple #[hv X,hv Y,.bool (twV x m n r false).2.2] ∧ X.length = 32 ∧ Y.length = 32 ∧ ((twV x m n r false).2.2 = true → X = (twV x m n r false).1 ∧ Y = (twV x m n r false).2.1) ∧ h'[bl]? = some (.cells (x.map bv).toArray 23) ∧ ∃ r',h'[br]? = some (.cells #[.slice va r' vc] 24) ∧ h'[bu]? = some (.cells #[.func (.func 32) #[] #[.pointer (some ⟨bl,0,none⟩),.pointer (some ⟨br,0,none⟩),.pointer (some ⟨bu,0,none⟩)]] 56) ∧ Grew (some br) h h' ∧ Ext hz h' ∧ Ktab h') .ret a h79
    refine ret_ok [.cell 9 23,.cell 10 23,.tmp 11] [.agg ((nodeH (lastH r) X3).map bv).toArray,.agg ((nodeH (lastH r) Y3).map bv).toArray,.bool ((twV x (m - half n) (n - half n) (initH r) false).2.2)] (.tuple #[.agg ((nodeH (lastH r) X3).map bv).toArray,.agg ((nodeH (lastH r) Y3).map bv).toArray,.bool ((twV x (m - half n) (n - half n) (initH r) false).2.2)]) rfl hF ⟨⟨_,rfl,Loads.hash (by kernel_rfl) (node_len _ _) m3⟩,⟨_,rfl,Loads.hash (by kernel_rfl) (node_len _ _) m9⟩,rfl,trivial⟩ rfl ?_
    exact ⟨nodeH (lastH r) X3,nodeH (lastH r) Y3,by rw [tw_hi hr0 (by omega) (by omega)] <;> rfl,node_len _ _,node_len _ _,(fun e => by rw [tw_hi hr0 (by omega) (by omega)] at e ⊢; obtain ⟨e1,e2⟩ := hXY e; rw [e1,e2]; exact ⟨rfl,rfl⟩),hl,_,hm,hu,g0.toGrew,e0,kt⟩
 ·skip
  refine cP 1 hF ?_
  refine sP 2 [nV m,nV n] ?_
  refine s1 3 (.bool false) (.bool (((m : Nat) : Int) == ((n : Nat) : Int))) (congrArg Value.bool (beq_eq_false_iff_ne.2 (by omega))) ?_
  refine sP 6 [.bool false,undef,.bool false] ?_
  refine sD [(0,nV m),(1,nV n),(2,.bool true),(3,pV bl),(4,pV br),(5,pV bu),(9,pV h.size),(10,pV h1.size),(26,.bool false)] ?_
  clear hF a; intro a hF
  refine tK ?_
  refine cF 26 hF ?_
  refine cN ?_
  refine tK ?_
  refine cS ?_
  rcases Nat.eq_zero_or_pos r.length with hr0 | hr0
  ·skip
   refine cP 3 hF ?_
   refine SeqK.eff (k' := 1) (Does.call (f := 29) (args := #[.pointer (some ⟨br,0,none⟩)]) (by kernel_rfl) (pop_no _ br r va vc hm (hr.ext e0) (hz0.imp id fun z => ⟨by intro e; have := z _ e; have := sep.low 3 rfl _ rfl; omega,by intro k e; have := z _ e; have := e0.size; omega⟩) (by omega) (by omega))) rfl ?_
   rintro _ h81 ⟨rfl,hm2,g⟩
   replace e0 := e0.grew g (sep.low 3 rfl)
   replace kt := kt.grew g (sep.zero 3 rfl h0s)
   replace g0 := g0.grew g (fun i e => .inl (by cases e; rfl))
   replace hl := Grew.blk g hl ((sep.bp 2 3))
   replace hu := Grew.blk g hu ((sep.bp 4 3))
   replace m3 := Grew.blk g m3 ((sep.bp 1 3))
   replace m9 := Grew.blk g m9 ((sep.bp 0 3))
   replace sep := sep.up g.size
   clear hm g; have hm := hm2; clear hm2
   refine sP 4 [.tuple #[.agg (z32.map bv).toArray,.bool false],.agg (z32.map bv).toArray,.bool false] ?_
   refine SeqK.eff (k' := 5) (Does.new (v := .pointer (some ⟨h81.size,0,none⟩)) (o := .cells (z32.map bv).toArray 23) (by kernel_rfl)) rfl ?_
   rintro _ h82 ⟨rfl,hh⟩
   have g83 : Ext h81 h82 := push_ext hh
   have m84 : h82[h81.size]? = some (.cells (z32.map bv).toArray 23) := push_at hh
   clear hh
   have lt85 := blk_lt m84
   have zs86 := e0.size
   have zs87 := g0.1
   have hlo := e0.size
   have sepo := sep
   replace e0 := e0.ext g83
   replace kt := kt.ext g83
   replace g0 := g0.ext g83
   replace hl := Ext.blk g83 hl
   replace hm := Ext.blk g83 hm
   replace hu := Ext.blk g83 hu
   replace m3 := Ext.blk g83 m3
   replace m9 := Ext.blk g83 m9
   replace sep := sep.up g83.size
   replace sep := sepo.new hlo (blk_lt m84)
   clear sepo hlo
   refine SeqK.eff (k' := 6) (Does.store (b := h81.size) (off := 0) (vs := z32.map bv) (l := z32.map bv) (storeOp_of (by kernel_rfl) (hlm rfl)) m84 (hfit rfl rfl) (ones_map _)) rfl ?_
   rintro _ h88 ⟨rfl,hh⟩
   have g89 : Grew (some (h81.size)) h82 h88 := hput_gr hh
   replace m84 : h88[h81.size]? = some (.cells (z32.map bv).toArray 23) := hput_at (off := 0) (vs := z32.map bv) (l := (z32.map bv)) hh (hsplice rfl rfl) m84
   clear hh
   replace e0 := e0.grew g89 (sep.low 0 rfl)
   replace kt := kt.grew g89 (sep.zero 0 rfl h0s)
   replace g0 := g0.grew g89 (fun i e => .inr (by cases e; omega))
   replace hl := Grew.blk g89 hl ((sep.bp 3 0))
   replace hm := Grew.blk g89 hm ((sep.bp 4 0))
   replace hu := Grew.blk g89 hu ((sep.bp 5 0))
   replace m3 := Grew.blk g89 m3 ((sep.bp 2 0))
   replace m9 := Grew.blk g89 m9 ((sep.bp 1 0))
   replace sep := sep.up g89.size
   refine sP 7 [.bool false] ?_
   refine sD [(0,nV m),(1,nV n),(2,.bool true),(4,pV br),(5,pV bu),(9,pV h.size),(10,pV h1.size),(12,pV h81.size),(13,.bool false)] ?_
   clear hF a; intro a hF
   refine tK ?_
   refine cS ?_
   refine cS ?_
   refine cP 4 hF ?_
   refine sP 7 [.bool false,.bool true,.bool true,undef,undef,undef,.bool true] ?_
   refine sD [(0,nV m),(1,nV n),(2,.bool true),(4,pV br),(5,pV bu),(9,pV h.size),(10,pV h1.size),(12,pV h81.size),(13,.bool false),(42,.bool true)] ?_
   clear hF a; intro a hF
   refine tK ?_
   refine cT 42 hF ?_
   refine cS ?_
   refine cD [0,0,0,4,12,28,60,124,13,271,1023] 5 mixed hF ?_
   refine mL 1 1 0 (.agg (z32.map bv).toArray) (Calm.load (T := 23) (p := ⟨h81.size,0,none⟩) (by kernel_rfl) (Loads.hash (by kernel_rfl) rfl m84)) ?_
   refine mL 3 3 1 (.agg (z32.map bv).toArray) (Calm.load (T := 23) (p := ⟨h81.size,0,none⟩) (by kernel_rfl) (Loads.hash (by kernel_rfl) rfl m84)) ?_
   refine mP 255 [2,3,4,5,6,7] [.bool false,.bool false,undef,undef,undef,.bool false] ?_
   refine SimK.eff (i := 8) (D' := 511) (X' := 269) (by kernel_rfl) (by kernel_rfl) (by kernel_rfl) [1] (by kernel_rfl) (Does.store (b := h.size) (off := 0) (vs := z32.map bv) (l := z32.map bv) (storeOp_of (by kernel_rfl) (hlm rfl)) m3 (hfit rfl rfl) (ones_map _)) ?_
   rintro _ h90 ⟨rfl,hh⟩
   have g91 : Grew (some (h.size)) h88 h90 := hput_gr hh
   replace m3 : h90[h.size]? = some (.cells (z32.map bv).toArray 23) := hput_at (off := 0) (vs := z32.map bv) (l := (z32.map bv)) hh (hsplice rfl rfl) m3
   clear hh
   replace e0 := e0.grew g91 (sep.low 2 rfl)
   replace kt := kt.grew g91 (sep.zero 2 rfl h0s)
   replace g0 := g0.grew g91 (fun i e => .inr (by cases e; omega))
   replace hl := Grew.blk g91 hl ((sep.bp 3 2))
   replace hm := Grew.blk g91 hm ((sep.bp 4 2))
   replace hu := Grew.blk g91 hu ((sep.bp 5 2))
   replace m9 := Grew.blk g91 m9 ((sep.bp 1 2))
   replace m84 := Grew.blk g91 m84 ((sep.bp 0 2))
   replace sep := sep.up g91.size
   refine ⟨?_,?_⟩
   ·intro j hj
    simp only [List.mem_cons,List.not_mem_nil,or_false] at hj
    subst hj
    exact goodOf (Calm.load (T := 23) (p := ⟨h81.size,0,none⟩) (by kernel_rfl) (Loads.hash (by kernel_rfl) rfl m84))
   refine SimK.eff0 (i := 9) (D' := 1023) (X' := 783) (by kernel_rfl) (by kernel_rfl) (by kernel_rfl) (by kernel_rfl) (Does.store (b := h1.size) (off := 0) (vs := z32.map bv) (l := z32.map bv) (storeOp_of (by kernel_rfl) (hlm rfl)) m9 (hfit rfl rfl) (ones_map _)) ?_
   rintro _ h92 ⟨rfl,hh⟩
   have g93 : Grew (some (h1.size)) h90 h92 := hput_gr hh
   replace m9 : h92[h1.size]? = some (.cells (z32.map bv).toArray 23) := hput_at (off := 0) (vs := z32.map bv) (l := (z32.map bv)) hh (hsplice rfl rfl) m9
   clear hh
   replace e0 := e0.grew g93 (sep.low 1 rfl)
   replace kt := kt.grew g93 (sep.zero 1 rfl h0s)
   replace g0 := g0.grew g93 (fun i e => .inr (by cases e; omega))
   replace hl := Grew.blk g93 hl ((sep.bp 3 1))
   replace hm := Grew.blk g93 hm ((sep.bp 4 1))
   replace hu := Grew.blk g93 hu ((sep.bp 5 1))
   replace m3 := Grew.blk g93 m3 ((sep.bp 2 1))
   replace m84 := Grew.blk g93 m84 ((sep.bp 0 1))
   replace sep := sep.up g93.size
   refine mP 2047 [10] [.bool false] ?_
   refine mD [(9,pV h.size),(10,pV h1.size),(11,.bool false)] ?_
   clear hF a; intro a hF
   refine tK ?_
   refine cR ?_
   show retK Tryd.prog Tryd.f32 (fun v h' => ∃ X Y,v = .tuple #[hv X,hv Y,.bool (twV x m n r true).2.2] ∧ X.length = 32 ∧ Y.length = 32 ∧ ((twV x m n r true).2.2 = true → X = (twV x m n r true).1 ∧ Y = (twV x m n r true).2.1) ∧ h'[bl]? = some (.cells (x.map bv).toArray 23) ∧ ∃ r',h'[br]? = some (.cells #[.slice va r' vc] 24) ∧ h'[bu]? = some (.cells #[.func (.func 32) #[] #[.pointer (some ⟨bl,0,none⟩),.pointer (some ⟨br,0,none⟩),.pointer (some ⟨bu,0,none⟩)]] 56) ∧ Grew (some br) h h' ∧ Ext hz h' ∧ Ktab h') .ret a h92
   refine ret_ok [.cell 9 23,.cell 10 23,.tmp 11] [.agg (z32.map bv).toArray,.agg (z32.map bv).toArray,.bool false] (.tuple #[.agg (z32.map bv).toArray,.agg (z32.map bv).toArray,.bool false]) rfl hF ⟨⟨_,rfl,Loads.hash (by kernel_rfl) rfl m3⟩,⟨_,rfl,Loads.hash (by kernel_rfl) rfl m9⟩,rfl,trivial⟩ rfl ?_
   exact ⟨z32,z32,by rw [tw_none (by intro e; omega) hr0] <;> rfl,rfl,rfl,(fun e => by rw [tw_none (by intro e; omega) hr0] at e; cases e),hl,_,hm,hu,g0.toGrew,e0,kt⟩
  ·skip
   refine cP 3 hF ?_
   refine SeqK.eff (k' := 1) (Does.call (f := 29) (args := #[.pointer (some ⟨br,0,none⟩)]) (by kernel_rfl) (pop_ok _ br r va vc hm (hr.ext e0) (hz0.imp id fun z => ⟨by intro e; have := z _ e; have := sep.low 3 rfl _ rfl; omega,by intro k e; have := z _ e; have := e0.size; omega⟩) (by omega) (by omega))) rfl ?_
   rintro _ h94 ⟨rfl,hm2,g⟩
   replace e0 := e0.grew g (sep.low 3 rfl)
   replace kt := kt.grew g (sep.zero 3 rfl h0s)
   replace g0 := g0.grew g (fun i e => .inl (by cases e; rfl))
   replace hl := Grew.blk g hl ((sep.bp 2 3))
   replace hu := Grew.blk g hu ((sep.bp 4 3))
   replace m3 := Grew.blk g m3 ((sep.bp 1 3))
   replace m9 := Grew.blk g m9 ((sep.bp 0 3))
   replace sep := sep.up g.size
   clear hm g; have hm := hm2; clear hm2
   refine sP 4 [.tuple #[.agg ((lastH r).map bv).toArray,.bool true],.agg ((lastH r).map bv).toArray,.bool true] ?_
   refine SeqK.eff (k' := 5) (Does.new (v := .pointer (some ⟨h94.size,0,none⟩)) (o := .cells (z32.map bv).toArray 23) (by kernel_rfl)) rfl ?_
   rintro _ h95 ⟨rfl,hh⟩
   have g96 : Ext h94 h95 := push_ext hh
   have m97 : h95[h94.size]? = some (.cells (z32.map bv).toArray 23) := push_at hh
   clear hh
   have lt98 := blk_lt m97
   have zs99 := e0.size
   have zs100 := g0.1
   have hlo := e0.size
   have sepo := sep
   replace e0 := e0.ext g96
   replace kt := kt.ext g96
   replace g0 := g0.ext g96
   replace hl := Ext.blk g96 hl
   replace hm := Ext.blk g96 hm
   replace hu := Ext.blk g96 hu
   replace m3 := Ext.blk g96 m3
   replace m9 := Ext.blk g96 m9
   replace sep := sep.up g96.size
   replace sep := sepo.new hlo (blk_lt m97)
   clear sepo hlo
   refine SeqK.eff (k' := 6) (Does.store (b := h94.size) (off := 0) (vs := (lastH r).map bv) (l := z32.map bv) (storeOp_of (by kernel_rfl) (hlm (last_len hr.2.1 (by omega)))) m97 (hfit rfl (last_len hr.2.1 (by omega))) (ones_map _)) rfl ?_
   rintro _ h101 ⟨rfl,hh⟩
   have g102 : Grew (some (h94.size)) h95 h101 := hput_gr hh
   replace m97 : h101[h94.size]? = some (.cells ((lastH r).map bv).toArray 23) := hput_at (off := 0) (vs := (lastH r).map bv) (l := (z32.map bv)) hh (hsplice rfl (last_len hr.2.1 (by omega))) m97
   clear hh
   replace e0 := e0.grew g102 (sep.low 0 rfl)
   replace kt := kt.grew g102 (sep.zero 0 rfl h0s)
   replace g0 := g0.grew g102 (fun i e => .inr (by cases e; omega))
   replace hl := Grew.blk g102 hl ((sep.bp 3 0))
   replace hm := Grew.blk g102 hm ((sep.bp 4 0))
   replace hu := Grew.blk g102 hu ((sep.bp 5 0))
   replace m3 := Grew.blk g102 m3 ((sep.bp 2 0))
   replace m9 := Grew.blk g102 m9 ((sep.bp 1 0))
   replace sep := sep.up g102.size
   refine sP 7 [.bool true] ?_
   refine sD [(0,nV m),(1,nV n),(2,.bool true),(4,pV br),(5,pV bu),(9,pV h.size),(10,pV h1.size),(12,pV h94.size),(13,.bool true)] ?_
   clear hF a; intro a hF
   refine tK ?_
   refine cS ?_
   refine cS ?_
   refine cP 4 hF ?_
   refine sP 5 [.bool true,.bool false,.bool false,nV m,nV n] ?_
   refine s1 6 (.bool false) (.bool (((m : Nat) : Int) == ((n : Nat) : Int))) (congrArg Value.bool (beq_eq_false_iff_ne.2 (by omega))) ?_
   refine sP 7 [.bool false] ?_
   refine sD [(0,nV m),(1,nV n),(2,.bool true),(4,pV br),(5,pV bu),(9,pV h.size),(10,pV h1.size),(12,pV h94.size),(13,.bool true),(42,.bool false)] ?_
   clear hF a; intro a hF
   refine tK ?_
   refine cF 42 hF ?_
   refine cN ?_
   refine tK ?_
   refine cS ?_
   refine cP 6 hF ?_
   refine sP 1 [nV n] ?_
   refine sC 2 (.int .i64 ((half n : Nat) : Int)) (Does.call (f := 30) (args := #[.int .i64 ((n : Nat) : Int)]) (by kernel_rfl) (vsplit_sat _ n (by omega) (by omega))) ?_
   refine sP 3 [nV (half n)] ?_
   refine sD [(0,nV m),(1,nV n),(2,.bool true),(5,pV bu),(9,pV h.size),(10,pV h1.size),(12,pV h94.size),(14,nV (half n))] ?_
   clear hF a; intro a hF
   refine tK ?_
   refine cS ?_
   refine cP 7 hF ?_
   refine sP 3 [nV m,nV (half n),.bool (decide (((m : Nat) : Int) ≤ ((half n : Nat) : Int)))] ?_
   refine sD [(0,nV m),(1,nV n),(2,.bool true),(5,pV bu),(9,pV h.size),(10,pV h1.size),(12,pV h94.size),(14,nV (half n)),(55,.bool (decide (((m : Nat) : Int) ≤ ((half n : Nat) : Int))))] ?_
   clear hF a; intro a hF
   refine tK ?_
   refine cC 55 (decide (((m : Nat) : Int) ≤ ((half n : Nat) : Int))) hF (fun hc103 => ?_) (fun hc103 => ?_)
   ·skip
    replace hc103 := of_decide_eq_true hc103
    refine cS ?_
    refine cP 8 hF ?_
    refine sC 1 (.func (.func 32) #[] #[.pointer (some ⟨bl,0,none⟩),.pointer (some ⟨br,0,none⟩),.pointer (some ⟨bu,0,none⟩)]) (Calm.load (T := 56) (p := ⟨bu,0,none⟩) (by kernel_rfl) (Loads.one (k := 1) (by kernel_rfl) ((hcell_blk hu).trans rfl))) ?_
    refine sP 4 [nV m,nV (half n),.bool true] ?_
    have hil := initH_len r
    have hri : HR hz va vc (initH r).length (initH r) := by rw [hil]; exact hr.take (by omega)
    rw [← hil] at hm
    have hhl := half_lt (n := n) (by omega); have hhp := half_pos n
    refine SeqK.eff (k' := 5) (Does.call (f := 32) (args := #[.int .i64 ((m : Nat) : Int),.int .i64 ((half n : Nat) : Int),.bool true,.pointer (some ⟨bl,0,none⟩),.pointer (some ⟨br,0,none⟩),.pointer (some ⟨bu,0,none⟩)]) (by kernel_rfl) (ih _ m (half n) (initH r) true (by rw [hil]; omega) hl hm hu hri (hz0.imp (fun e => by rw [e]; rfl) id) (sep.sub (l' := [some bl,some br,some bu]) (.cons _ (.cons _ (.cons _ (.cons_cons _ (.cons_cons _ (.cons_cons _ (.slnil)))))))) e0 kt (by omega) (by omega) (by omega))) rfl ?_
    rintro _ h104 ⟨X3,Y3,rfl,hX3,hY3,hXY,hl3,r3,hm3,hu3,g3,e3,kt3⟩
    have sepo := sep; clear hl hm hu e0 kt; have hl := hl3; have hm := hm3; have hu := hu3; have e0 := e3; have kt := kt3; clear hl3 hm3 hu3 e3 kt3
    replace m3 := Grew.blk g3 m3 (sep.bp 2 4)
    replace m9 := Grew.blk g3 m9 (sep.bp 1 4)
    replace m97 := Grew.blk g3 m97 (sep.bp 0 4)
    replace g0 := g0.grew g3 (fun i e => .inl (by cases e; rfl))
    replace sep := sepo.up g3.size; clear sepo g3
    refine sP 9 [.tuple #[.agg (X3.map bv).toArray,.agg (Y3.map bv).toArray,.bool ((twV x m (half n) (initH r) true).2.2)],.agg (X3.map bv).toArray,.agg (Y3.map bv).toArray,.bool ((twV x m (half n) (initH r) true).2.2)] ?_
    refine SeqK.eff (k' := 10) (Does.new (v := .pointer (some ⟨h104.size,0,none⟩)) (o := .cells (z32.map bv).toArray 23) (by kernel_rfl)) rfl ?_
    rintro _ h105 ⟨rfl,hh⟩
    have g106 : Ext h104 h105 := push_ext hh
    have m107 : h105[h104.size]? = some (.cells (z32.map bv).toArray 23) := push_at hh
    clear hh
    have lt108 := blk_lt m107
    have zs109 := e0.size
    have zs110 := g0.1
    have hlo := e0.size
    have sepo := sep
    replace e0 := e0.ext g106
    replace kt := kt.ext g106
    replace g0 := g0.ext g106
    replace hl := Ext.blk g106 hl
    replace hm := Ext.blk g106 hm
    replace hu := Ext.blk g106 hu
    replace m3 := Ext.blk g106 m3
    replace m9 := Ext.blk g106 m9
    replace m97 := Ext.blk g106 m97
    replace sep := sep.up g106.size
    replace sep := sepo.new hlo (blk_lt m107)
    clear sepo hlo
    refine SeqK.eff (k' := 11) (Does.new (v := .pointer (some ⟨h105.size,0,none⟩)) (o := .cells (z32.map bv).toArray 23) (by kernel_rfl)) rfl ?_
    rintro _ h111 ⟨rfl,hh⟩
    have g112 : Ext h105 h111 := push_ext hh
    have m113 : h111[h105.size]? = some (.cells (z32.map bv).toArray 23) := push_at hh
    clear hh
    have lt114 := blk_lt m113
    have zs115 := e0.size
    have zs116 := g0.1
    have hlo := e0.size
    have sepo := sep
    replace e0 := e0.ext g112
    replace kt := kt.ext g112
    replace g0 := g0.ext g112
    replace hl := Ext.blk g112 hl
    replace hm := Ext.blk g112 hm
    replace hu := Ext.blk g112 hu
    replace m3 := Ext.blk g112 m3
    replace m9 := Ext.blk g112 m9
    replace m97 := Ext.blk g112 m97
    replace m107 := Ext.blk g112 m107
    replace sep := sep.up g112.size
    replace sep := sepo.new hlo (blk_lt m113)
    clear sepo hlo
    refine SeqK.eff (k' := 12) (Does.store (b := h104.size) (off := 0) (vs := X3.map bv) (l := z32.map bv) (storeOp_of (by kernel_rfl) (hlm hX3)) m107 (hfit rfl hX3) (ones_map _)) rfl ?_
    rintro _ h117 ⟨rfl,hh⟩
    have g118 : Grew (some (h104.size)) h111 h117 := hput_gr hh
    replace m107 : h117[h104.size]? = some (.cells (X3.map bv).toArray 23) := hput_at (off := 0) (vs := X3.map bv) (l := (z32.map bv)) hh (hsplice rfl hX3) m107
    clear hh
    replace e0 := e0.grew g118 (sep.low 1 rfl)
    replace kt := kt.grew g118 (sep.zero 1 rfl h0s)
    replace g0 := g0.grew g118 (fun i e => .inr (by cases e; omega))
    replace hl := Grew.blk g118 hl ((sep.bp 5 1))
    replace hm := Grew.blk g118 hm ((sep.bp 6 1))
    replace hu := Grew.blk g118 hu ((sep.bp 7 1))
    replace m3 := Grew.blk g118 m3 ((sep.bp 4 1))
    replace m9 := Grew.blk g118 m9 ((sep.bp 3 1))
    replace m97 := Grew.blk g118 m97 ((sep.bp 2 1))
    replace m113 := Grew.blk g118 m113 ((sep.bp 0 1))
    replace sep := sep.up g118.size
    refine SeqK.eff (k' := 13) (Does.store (b := h105.size) (off := 0) (vs := Y3.map bv) (l := z32.map bv) (storeOp_of (by kernel_rfl) (hlm hY3)) m113 (hfit rfl hY3) (ones_map _)) rfl ?_
    rintro _ h119 ⟨rfl,hh⟩
    have g120 : Grew (some (h105.size)) h117 h119 := hput_gr hh
    replace m113 : h119[h105.size]? = some (.cells (Y3.map bv).toArray 23) := hput_at (off := 0) (vs := Y3.map bv) (l := (z32.map bv)) hh (hsplice rfl hY3) m113
    clear hh
    replace e0 := e0.grew g120 (sep.low 0 rfl)
    replace kt := kt.grew g120 (sep.zero 0 rfl h0s)
    replace g0 := g0.grew g120 (fun i e => .inr (by cases e; omega))
    replace hl := Grew.blk g120 hl ((sep.bp 5 0))
    replace hm := Grew.blk g120 hm ((sep.bp 6 0))
    replace hu := Grew.blk g120 hu ((sep.bp 7 0))
    replace m3 := Grew.blk g120 m3 ((sep.bp 4 0))
    replace m9 := Grew.blk g120 m9 ((sep.bp 3 0))
    replace m97 := Grew.blk g120 m97 ((sep.bp 2 0))
    replace m107 := Grew.blk g120 m107 ((sep.bp 1 0))
    replace sep := sep.up g120.size
    refine sP 14 [.bool ((twV x m (half n) (initH r) true).2.2)] ?_
    refine sD [(9,pV h.size),(10,pV h1.size),(12,pV h94.size),(15,pV h104.size),(16,pV h105.size),(17,.bool ((twV x m (half n) (initH r) true).2.2))] ?_
    clear hF a; intro a hF
    refine tK ?_
    refine cS ?_
    refine cD [0,0,0,6,0,15,47,127] 9 mixed hF ?_
    refine mL 1 1 0 (.agg (X3.map bv).toArray) (Calm.load (T := 23) (p := ⟨h104.size,0,none⟩) (by kernel_rfl) (Loads.hash (by kernel_rfl) hX3 m107)) ?_
    refine mL 3 3 1 (.agg (Y3.map bv).toArray) (Calm.load (T := 23) (p := ⟨h105.size,0,none⟩) (by kernel_rfl) (Loads.hash (by kernel_rfl) hY3 m113)) ?_
    refine mL 7 7 2 (.agg ((lastH r).map bv).toArray) (Calm.load (T := 23) (p := ⟨h94.size,0,none⟩) (by kernel_rfl) (Loads.hash (by kernel_rfl) (last_len hr.2.1 (by omega)) m97)) ?_
    refine mP 23 [4] [.bool ((twV x m (half n) (initH r) true).2.2)] ?_
    refine SimK.eff (i := 3) (D' := 31) (X' := 14) (by kernel_rfl) (by kernel_rfl) (by kernel_rfl) [0] (by kernel_rfl) (Does.call (f := 27) (args := #[.agg (Y3.map bv).toArray,.agg ((lastH r).map bv).toArray]) (by kernel_rfl) (node_sat _ Y3 (lastH r) hY3 (last_len hr.2.1 (by omega)) kt)) ?_
    rintro _ h121 ⟨rfl,g⟩
    replace e0 := e0.ext g
    replace kt := kt.ext g
    replace g0 := g0.ext g
    replace hl := Ext.blk g hl
    replace hm := Ext.blk g hm
    replace hu := Ext.blk g hu
    replace m3 := Ext.blk g m3
    replace m9 := Ext.blk g m9
    replace m97 := Ext.blk g m97
    replace m107 := Ext.blk g m107
    replace m113 := Ext.blk g m113
    replace sep := sep.up g.size
    refine ⟨?_,?_⟩
    ·intro j hj
     simp only [List.mem_cons,List.not_mem_nil,or_false] at hj
     subst hj
     exact goodOf (Calm.load (T := 23) (p := ⟨h104.size,0,none⟩) (by kernel_rfl) (Loads.hash (by kernel_rfl) hX3 m107))
    clear g
    refine SimK.eff0 (i := 5) (D' := 63) (X' := 47) (by kernel_rfl) (by kernel_rfl) (by kernel_rfl) (by kernel_rfl) (Does.store (b := h.size) (off := 0) (vs := X3.map bv) (l := z32.map bv) (storeOp_of (by kernel_rfl) (hlm hX3)) m3 (hfit rfl hX3) (ones_map _)) ?_
    rintro _ h122 ⟨rfl,hh⟩
    have g123 : Grew (some (h.size)) h121 h122 := hput_gr hh
    replace m3 : h122[h.size]? = some (.cells (X3.map bv).toArray 23) := hput_at (off := 0) (vs := X3.map bv) (l := (z32.map bv)) hh (hsplice rfl hX3) m3
    clear hh
    replace e0 := e0.grew g123 (sep.low 4 rfl)
    replace kt := kt.grew g123 (sep.zero 4 rfl h0s)
    replace g0 := g0.grew g123 (fun i e => .inr (by cases e; omega))
    replace hl := Grew.blk g123 hl ((sep.bp 5 4))
    replace hm := Grew.blk g123 hm ((sep.bp 6 4))
    replace hu := Grew.blk g123 hu ((sep.bp 7 4))
    replace m9 := Grew.blk g123 m9 ((sep.bp 3 4))
    replace m97 := Grew.blk g123 m97 ((sep.bp 2 4))
    replace m107 := Grew.blk g123 m107 ((sep.bp 1 4))
    replace m113 := Grew.blk g123 m113 ((sep.bp 0 4))
    replace sep := sep.up g123.size
    refine SimK.eff0 (i := 6) (D' := 127) (X' := 111) (by kernel_rfl) (by kernel_rfl) (by kernel_rfl) (by kernel_rfl) (Does.store (b := h1.size) (off := 0) (vs := (nodeH Y3 (lastH r)).map bv) (l := z32.map bv) (storeOp_of (by kernel_rfl) (hlm (node_len _ _))) m9 (hfit rfl (node_len _ _)) (ones_map _)) ?_
    rintro _ h124 ⟨rfl,hh⟩
    have g125 : Grew (some (h1.size)) h122 h124 := hput_gr hh
    replace m9 : h124[h1.size]? = some (.cells ((nodeH Y3 (lastH r)).map bv).toArray 23) := hput_at (off := 0) (vs := (nodeH Y3 (lastH r)).map bv) (l := (z32.map bv)) hh (hsplice rfl (node_len _ _)) m9
    clear hh
    replace e0 := e0.grew g125 (sep.low 3 rfl)
    replace kt := kt.grew g125 (sep.zero 3 rfl h0s)
    replace g0 := g0.grew g125 (fun i e => .inr (by cases e; omega))
    replace hl := Grew.blk g125 hl ((sep.bp 5 3))
    replace hm := Grew.blk g125 hm ((sep.bp 6 3))
    replace hu := Grew.blk g125 hu ((sep.bp 7 3))
    replace m3 := Grew.blk g125 m3 ((sep.bp 4 3))
    replace m97 := Grew.blk g125 m97 ((sep.bp 2 3))
    replace m107 := Grew.blk g125 m107 ((sep.bp 1 3))
    replace m113 := Grew.blk g125 m113 ((sep.bp 0 3))
    replace sep := sep.up g125.size
    refine mP 255 [7] [.bool ((twV x m (half n) (initH r) true).2.2)] ?_
    refine mD [(9,pV h.size),(10,pV h1.size),(11,.bool ((twV x m (half n) (initH r) true).2.2))] ?_
    clear hF a; intro a hF
    refine tK ?_
    refine cR ?_
    show retK Tryd.prog Tryd.f32 (fun v h' => ∃ X Y,v = .tuple #[hv X,hv Y,.bool (twV x m n r true).2.2] ∧ X.length = 32 ∧ Y.length = 32 ∧ ((twV x m n r true).2.2 = true → X = (twV x m n r true).1 ∧ Y = (twV x m n r true).2.1) ∧ h'[bl]? = some (.cells (x.map bv).toArray 23) ∧ ∃ r',h'[br]? = some (.cells #[.slice va r' vc] 24) ∧ h'[bu]? = some (.cells #[.func (.func 32) #[] #[.pointer (some ⟨bl,0,none⟩),.pointer (some ⟨br,0,none⟩),.pointer (some ⟨bu,0,none⟩)]] 56) ∧ Grew (some br) h h' ∧ Ext hz h' ∧ Ktab h') .ret a h124
    refine ret_ok [.cell 9 23,.cell 10 23,.tmp 11] [.agg (X3.map bv).toArray,.agg ((nodeH Y3 (lastH r)).map bv).toArray,.bool ((twV x m (half n) (initH r) true).2.2)] (.tuple #[.agg (X3.map bv).toArray,.agg ((nodeH Y3 (lastH r)).map bv).toArray,.bool ((twV x m (half n) (initH r) true).2.2)]) rfl hF ⟨⟨_,rfl,Loads.hash (by kernel_rfl) hX3 m3⟩,⟨_,rfl,Loads.hash (by kernel_rfl) (node_len _ _) m9⟩,rfl,trivial⟩ rfl ?_
    exact ⟨X3,nodeH Y3 (lastH r),by rw [tw_lo hr0 (by omega) (by omega)] <;> rfl,hX3,node_len _ _,(fun e => by rw [tw_lo hr0 (by omega) (by omega)] at e ⊢; obtain ⟨e1,e2⟩ := hXY e; rw [e1,e2]; exact ⟨rfl,rfl⟩),hl,_,hm,hu,g0.toGrew,e0,kt⟩
   ·skip
    replace hc103 := of_decide_eq_false hc103
    refine cS ?_
    refine cP 10 hF ?_
    refine sC 1 (.func (.func 32) #[] #[.pointer (some ⟨bl,0,none⟩),.pointer (some ⟨br,0,none⟩),.pointer (some ⟨bu,0,none⟩)]) (Calm.load (T := 56) (p := ⟨bu,0,none⟩) (by kernel_rfl) (Loads.one (k := 1) (by kernel_rfl) ((hcell_blk hu).trans rfl))) ?_
    refine sP 3 [nV m,nV (half n)] ?_
    refine s1 4 (.int .i64 ((m - (half n) : Nat) : Int)) (.int .i64 (IntKind.i64.wrap (((m : Nat) : Int) - ((half n : Nat) : Int)))) (congrArg (Value.int .i64) (w64' (by omega) (by omega) (by omega))) ?_
    refine sP 6 [nV n,nV (half n)] ?_
    refine s1 7 (.int .i64 ((n - (half n) : Nat) : Int)) (.int .i64 (IntKind.i64.wrap (((n : Nat) : Int) - ((half n : Nat) : Int)))) (congrArg (Value.int .i64) (w64' (by omega) (by omega) (by omega))) ?_
    have hil := initH_len r
    have hri : HR hz va vc (initH r).length (initH r) := by rw [hil]; exact hr.take (by omega)
    rw [← hil] at hm
    have hhl := half_lt (n := n) (by omega); have hhp := half_pos n
    refine SeqK.eff (k' := 8) (Does.call (f := 32) (args := #[.int .i64 ((m - (half n) : Nat) : Int),.int .i64 ((n - (half n) : Nat) : Int),.bool false,.pointer (some ⟨bl,0,none⟩),.pointer (some ⟨br,0,none⟩),.pointer (some ⟨bu,0,none⟩)]) (by kernel_rfl) (ih _ (m - half n) (n - half n) (initH r) false (by rw [hil]; omega) hl hm hu hri (hz0.imp (fun e => by rw [e]; rfl) id) (sep.sub (l' := [some bl,some br,some bu]) (.cons _ (.cons _ (.cons _ (.cons_cons _ (.cons_cons _ (.cons_cons _ (.slnil)))))))) e0 kt (by omega) (by omega) (by omega))) rfl ?_
    rintro _ h126 ⟨X3,Y3,rfl,hX3,hY3,hXY,hl3,r3,hm3,hu3,g3,e3,kt3⟩
    have sepo := sep; clear hl hm hu e0 kt; have hl := hl3; have hm := hm3; have hu := hu3; have e0 := e3; have kt := kt3; clear hl3 hm3 hu3 e3 kt3
    replace m3 := Grew.blk g3 m3 (sep.bp 2 4)
    replace m9 := Grew.blk g3 m9 (sep.bp 1 4)
    replace m97 := Grew.blk g3 m97 (sep.bp 0 4)
    replace g0 := g0.grew g3 (fun i e => .inl (by cases e; rfl))
    replace sep := sepo.up g3.size; clear sepo g3
    refine sP 12 [.tuple #[.agg (X3.map bv).toArray,.agg (Y3.map bv).toArray,.bool ((twV x (m - half n) (n - half n) (initH r) false).2.2)],.agg (X3.map bv).toArray,.agg (Y3.map bv).toArray,.bool ((twV x (m - half n) (n - half n) (initH r) false).2.2)] ?_
    refine SeqK.eff (k' := 13) (Does.new (v := .pointer (some ⟨h126.size,0,none⟩)) (o := .cells (z32.map bv).toArray 23) (by kernel_rfl)) rfl ?_
    rintro _ h127 ⟨rfl,hh⟩
    have g128 : Ext h126 h127 := push_ext hh
    have m129 : h127[h126.size]? = some (.cells (z32.map bv).toArray 23) := push_at hh
    clear hh
    have lt130 := blk_lt m129
    have zs131 := e0.size
    have zs132 := g0.1
    have hlo := e0.size
    have sepo := sep
    replace e0 := e0.ext g128
    replace kt := kt.ext g128
    replace g0 := g0.ext g128
    replace hl := Ext.blk g128 hl
    replace hm := Ext.blk g128 hm
    replace hu := Ext.blk g128 hu
    replace m3 := Ext.blk g128 m3
    replace m9 := Ext.blk g128 m9
    replace m97 := Ext.blk g128 m97
    replace sep := sep.up g128.size
    replace sep := sepo.new hlo (blk_lt m129)
    clear sepo hlo
    refine SeqK.eff (k' := 14) (Does.new (v := .pointer (some ⟨h127.size,0,none⟩)) (o := .cells (z32.map bv).toArray 23) (by kernel_rfl)) rfl ?_
    rintro _ h133 ⟨rfl,hh⟩
    have g134 : Ext h127 h133 := push_ext hh
    have m135 : h133[h127.size]? = some (.cells (z32.map bv).toArray 23) := push_at hh
    clear hh
    have lt136 := blk_lt m135
    have zs137 := e0.size
    have zs138 := g0.1
    have hlo := e0.size
    have sepo := sep
    replace e0 := e0.ext g134
    replace kt := kt.ext g134
    replace g0 := g0.ext g134
    replace hl := Ext.blk g134 hl
    replace hm := Ext.blk g134 hm
    replace hu := Ext.blk g134 hu
    replace m3 := Ext.blk g134 m3
    replace m9 := Ext.blk g134 m9
    replace m97 := Ext.blk g134 m97
    replace m129 := Ext.blk g134 m129
    replace sep := sep.up g134.size
    replace sep := sepo.new hlo (blk_lt m135)
    clear sepo hlo
    refine SeqK.eff (k' := 15) (Does.store (b := h126.size) (off := 0) (vs := X3.map bv) (l := z32.map bv) (storeOp_of (by kernel_rfl) (hlm hX3)) m129 (hfit rfl hX3) (ones_map _)) rfl ?_
    rintro _ h139 ⟨rfl,hh⟩
    have g140 : Grew (some (h126.size)) h133 h139 := hput_gr hh
    replace m129 : h139[h126.size]? = some (.cells (X3.map bv).toArray 23) := hput_at (off := 0) (vs := X3.map bv) (l := (z32.map bv)) hh (hsplice rfl hX3) m129
    clear hh
    replace e0 := e0.grew g140 (sep.low 1 rfl)
    replace kt := kt.grew g140 (sep.zero 1 rfl h0s)
    replace g0 := g0.grew g140 (fun i e => .inr (by cases e; omega))
    replace hl := Grew.blk g140 hl ((sep.bp 5 1))
    replace hm := Grew.blk g140 hm ((sep.bp 6 1))
    replace hu := Grew.blk g140 hu ((sep.bp 7 1))
    replace m3 := Grew.blk g140 m3 ((sep.bp 4 1))
    replace m9 := Grew.blk g140 m9 ((sep.bp 3 1))
    replace m97 := Grew.blk g140 m97 ((sep.bp 2 1))
    replace m135 := Grew.blk g140 m135 ((sep.bp 0 1))
    replace sep := sep.up g140.size
    refine SeqK.eff (k' := 16) (Does.store (b := h127.size) (off := 0) (vs := Y3.map bv) (l := z32.map bv) (storeOp_of (by kernel_rfl) (hlm hY3)) m135 (hfit rfl hY3) (ones_map _)) rfl ?_
    rintro _ h141 ⟨rfl,hh⟩
    have g142 : Grew (some (h127.size)) h139 h141 := hput_gr hh
    replace m135 : h141[h127.size]? = some (.cells (Y3.map bv).toArray 23) := hput_at (off := 0) (vs := Y3.map bv) (l := (z32.map bv)) hh (hsplice rfl hY3) m135
    clear hh
    replace e0 := e0.grew g142 (sep.low 0 rfl)
    replace kt := kt.grew g142 (sep.zero 0 rfl h0s)
    replace g0 := g0.grew g142 (fun i e => .inr (by cases e; omega))
    replace hl := Grew.blk g142 hl ((sep.bp 5 0))
    replace hm := Grew.blk g142 hm ((sep.bp 6 0))
    replace hu := Grew.blk g142 hu ((sep.bp 7 0))
    replace m3 := Grew.blk g142 m3 ((sep.bp 4 0))
    replace m9 := Grew.blk g142 m9 ((sep.bp 3 0))
    replace m97 := Grew.blk g142 m97 ((sep.bp 2 0))
    replace m129 := Grew.blk g142 m129 ((sep.bp 1 0))
    replace sep := sep.up g142.size
    refine sP 17 [.bool ((twV x (m - half n) (n - half n) (initH r) false).2.2)] ?_
    refine sD [(9,pV h.size),(10,pV h1.size),(12,pV h94.size),(18,pV h126.size),(19,pV h127.size),(20,.bool ((twV x (m - half n) (n - half n) (initH r) false).2.2))] ?_
    clear hF a; intro a hF
    refine tK ?_
    refine cS ?_
    refine cD [0,0,3,0,0,31,0,63,191,511] 11 mixed hF ?_
    refine mL 1 1 0 (.agg ((lastH r).map bv).toArray) (Calm.load (T := 23) (p := ⟨h94.size,0,none⟩) (by kernel_rfl) (Loads.hash (by kernel_rfl) (last_len hr.2.1 (by omega)) m97)) ?_
    refine mL 3 3 1 (.agg (X3.map bv).toArray) (Calm.load (T := 23) (p := ⟨h126.size,0,none⟩) (by kernel_rfl) (Loads.hash (by kernel_rfl) hX3 m129)) ?_
    refine mL 11 11 3 (.agg ((lastH r).map bv).toArray) (Calm.load (T := 23) (p := ⟨h94.size,0,none⟩) (by kernel_rfl) (Loads.hash (by kernel_rfl) (last_len hr.2.1 (by omega)) m97)) ?_
    refine mL 27 27 4 (.agg (Y3.map bv).toArray) (Calm.load (T := 23) (p := ⟨h127.size,0,none⟩) (by kernel_rfl) (Loads.hash (by kernel_rfl) hY3 m135)) ?_
    refine mP 91 [6] [.bool ((twV x (m - half n) (n - half n) (initH r) false).2.2)] ?_
    refine SimK.eff (i := 2) (D' := 95) (X' := 7) (by kernel_rfl) (by kernel_rfl) (by kernel_rfl) [3,4] (by kernel_rfl) (Does.call (f := 27) (args := #[.agg ((lastH r).map bv).toArray,.agg (X3.map bv).toArray]) (by kernel_rfl) (node_sat _ (lastH r) X3 (last_len hr.2.1 (by omega)) hX3 kt)) ?_
    rintro _ h143 ⟨rfl,g⟩
    replace e0 := e0.ext g
    replace kt := kt.ext g
    replace g0 := g0.ext g
    replace hl := Ext.blk g hl
    replace hm := Ext.blk g hm
    replace hu := Ext.blk g hu
    replace m3 := Ext.blk g m3
    replace m9 := Ext.blk g m9
    replace m97 := Ext.blk g m97
    replace m129 := Ext.blk g m129
    replace m135 := Ext.blk g m135
    replace sep := sep.up g.size
    refine ⟨?_,?_⟩
    ·intro j hj
     simp only [List.mem_cons,List.not_mem_nil,or_false] at hj
     rcases hj with rfl | rfl
     ·exact goodOf (Calm.load (T := 23) (p := ⟨h94.size,0,none⟩) (by kernel_rfl) (Loads.hash (by kernel_rfl) (last_len hr.2.1 (by omega)) m97))
     ·exact goodOf (Calm.load (T := 23) (p := ⟨h127.size,0,none⟩) (by kernel_rfl) (Loads.hash (by kernel_rfl) hY3 m135))
    clear g
    refine SimK.eff0 (i := 5) (D' := 127) (X' := 63) (by kernel_rfl) (by kernel_rfl) (by kernel_rfl) (by kernel_rfl) (Does.call (f := 27) (args := #[.agg ((lastH r).map bv).toArray,.agg (Y3.map bv).toArray]) (by kernel_rfl) (node_sat _ (lastH r) Y3 (last_len hr.2.1 (by omega)) hY3 kt)) ?_
    rintro _ h144 ⟨rfl,g⟩
    replace e0 := e0.ext g
    replace kt := kt.ext g
    replace g0 := g0.ext g
    replace hl := Ext.blk g hl
    replace hm := Ext.blk g hm
    replace hu := Ext.blk g hu
    replace m3 := Ext.blk g m3
    replace m9 := Ext.blk g m9
    replace m97 := Ext.blk g m97
    replace m129 := Ext.blk g m129
    replace m135 := Ext.blk g m135
    replace sep := sep.up g.size
    clear g
    refine SimK.eff0 (i := 7) (D' := 255) (X' := 191) (by kernel_rfl) (by kernel_rfl) (by kernel_rfl) (by kernel_rfl) (Does.store (b := h.size) (off := 0) (vs := (nodeH (lastH r) X3).map bv) (l := z32.map bv) (storeOp_of (by kernel_rfl) (hlm (node_len _ _))) m3 (hfit rfl (node_len _ _)) (ones_map _)) ?_
    rintro _ h145 ⟨rfl,hh⟩
    have g146 : Grew (some (h.size)) h144 h145 := hput_gr hh
    replace m3 : h145[h.size]? = some (.cells ((nodeH (lastH r) X3).map bv).toArray 23) := hput_at (off := 0) (vs := (nodeH (lastH r) X3).map bv) (l := (z32.map bv)) hh (hsplice rfl (node_len _ _)) m3
    clear hh
    replace e0 := e0.grew g146 (sep.low 4 rfl)
    replace kt := kt.grew g146 (sep.zero 4 rfl h0s)
    replace g0 := g0.grew g146 (fun i e => .inr (by cases e; omega))
    replace hl := Grew.blk g146 hl ((sep.bp 5 4))
    replace hm := Grew.blk g146 hm ((sep.bp 6 4))
    replace hu := Grew.blk g146 hu ((sep.bp 7 4))
    replace m9 := Grew.blk g146 m9 ((sep.bp 3 4))
    replace m97 := Grew.blk g146 m97 ((sep.bp 2 4))
    replace m129 := Grew.blk g146 m129 ((sep.bp 1 4))
    replace m135 := Grew.blk g146 m135 ((sep.bp 0 4))
    replace sep := sep.up g146.size
    refine SimK.eff0 (i := 8) (D' := 511) (X' := 447) (by kernel_rfl) (by kernel_rfl) (by kernel_rfl) (by kernel_rfl) (Does.store (b := h1.size) (off := 0) (vs := (nodeH (lastH r) Y3).map bv) (l := z32.map bv) (storeOp_of (by kernel_rfl) (hlm (node_len _ _))) m9 (hfit rfl (node_len _ _)) (ones_map _)) ?_
    rintro _ h147 ⟨rfl,hh⟩
    have g148 : Grew (some (h1.size)) h145 h147 := hput_gr hh
    replace m9 : h147[h1.size]? = some (.cells ((nodeH (lastH r) Y3).map bv).toArray 23) := hput_at (off := 0) (vs := (nodeH (lastH r) Y3).map bv) (l := (z32.map bv)) hh (hsplice rfl (node_len _ _)) m9
    clear hh
    replace e0 := e0.grew g148 (sep.low 3 rfl)
    replace kt := kt.grew g148 (sep.zero 3 rfl h0s)
    replace g0 := g0.grew g148 (fun i e => .inr (by cases e; omega))
    replace hl := Grew.blk g148 hl ((sep.bp 5 3))
    replace hm := Grew.blk g148 hm ((sep.bp 6 3))
    replace hu := Grew.blk g148 hu ((sep.bp 7 3))
    replace m3 := Grew.blk g148 m3 ((sep.bp 4 3))
    replace m97 := Grew.blk g148 m97 ((sep.bp 2 3))
    replace m129 := Grew.blk g148 m129 ((sep.bp 1 3))
    replace m135 := Grew.blk g148 m135 ((sep.bp 0 3))
    replace sep := sep.up g148.size
    refine mP 1023 [9] [.bool ((twV x (m - half n) (n - half n) (initH r) false).2.2)] ?_
    refine mD [(9,pV h.size),(10,pV h1.size),(11,.bool ((twV x (m - half n) (n - half n) (initH r) false).2.2))] ?_
    clear hF a; intro a hF
    refine tK ?_
    refine cR ?_
    show retK Tryd.prog Tryd.f32 (fun v h' => ∃ X Y,v = .tuple #[hv X,hv Y,.bool (twV x m n r true).2.2] ∧ X.length = 32 ∧ Y.length = 32 ∧ ((twV x m n r true).2.2 = true → X = (twV x m n r true).1 ∧ Y = (twV x m n r true).2.1) ∧ h'[bl]? = some (.cells (x.map bv).toArray 23) ∧ ∃ r',h'[br]? = some (.cells #[.slice va r' vc] 24) ∧ h'[bu]? = some (.cells #[.func (.func 32) #[] #[.pointer (some ⟨bl,0,none⟩),.pointer (some ⟨br,0,none⟩),.pointer (some ⟨bu,0,none⟩)]] 56) ∧ Grew (some br) h h' ∧ Ext hz h' ∧ Ktab h') .ret a h147
    refine ret_ok [.cell 9 23,.cell 10 23,.tmp 11] [.agg ((nodeH (lastH r) X3).map bv).toArray,.agg ((nodeH (lastH r) Y3).map bv).toArray,.bool ((twV x (m - half n) (n - half n) (initH r) false).2.2)] (.tuple #[.agg ((nodeH (lastH r) X3).map bv).toArray,.agg ((nodeH (lastH r) Y3).map bv).toArray,.bool ((twV x (m - half n) (n - half n) (initH r) false).2.2)]) rfl hF ⟨⟨_,rfl,Loads.hash (by kernel_rfl) (node_len _ _) m3⟩,⟨_,rfl,Loads.hash (by kernel_rfl) (node_len _ _) m9⟩,rfl,trivial⟩ rfl ?_
    exact ⟨nodeH (lastH r) X3,nodeH (lastH r) Y3,by rw [tw_hi hr0 (by omega) (by omega)] <;> rfl,node_len _ _,node_len _ _,(fun e => by rw [tw_hi hr0 (by omega) (by omega)] at e ⊢; obtain ⟨e1,e2⟩ := hXY e; rw [e1,e2]; exact ⟨rfl,rfl⟩),hl,_,hm,hu,g0.toGrew,e0,kt⟩
 ·skip
  refine cP 1 hF ?_
  refine sP 2 [nV m,nV n] ?_
  refine s1 3 (.bool true) (.bool (((m : Nat) : Int) == ((n : Nat) : Int))) (congrArg Value.bool (beq_iff_eq.2 (by omega))) ?_
  refine sP 6 [.bool true,.bool false,.bool false] ?_
  refine sD [(0,nV m),(1,nV n),(2,.bool false),(3,pV bl),(4,pV br),(5,pV bu),(9,pV h.size),(10,pV h1.size),(26,.bool false)] ?_
  clear hF a; intro a hF
  refine tK ?_
  refine cF 26 hF ?_
  refine cN ?_
  refine tK ?_
  refine cS ?_
  rcases Nat.eq_zero_or_pos r.length with hr0 | hr0
  ·skip
   refine cP 3 hF ?_
   refine SeqK.eff (k' := 1) (Does.call (f := 29) (args := #[.pointer (some ⟨br,0,none⟩)]) (by kernel_rfl) (pop_no _ br r va vc hm (hr.ext e0) (hz0.imp id fun z => ⟨by intro e; have := z _ e; have := sep.low 3 rfl _ rfl; omega,by intro k e; have := z _ e; have := e0.size; omega⟩) (by omega) (by omega))) rfl ?_
   rintro _ h149 ⟨rfl,hm2,g⟩
   replace e0 := e0.grew g (sep.low 3 rfl)
   replace kt := kt.grew g (sep.zero 3 rfl h0s)
   replace g0 := g0.grew g (fun i e => .inl (by cases e; rfl))
   replace hl := Grew.blk g hl ((sep.bp 2 3))
   replace hu := Grew.blk g hu ((sep.bp 4 3))
   replace m3 := Grew.blk g m3 ((sep.bp 1 3))
   replace m9 := Grew.blk g m9 ((sep.bp 0 3))
   replace sep := sep.up g.size
   clear hm g; have hm := hm2; clear hm2
   refine sP 4 [.tuple #[.agg (z32.map bv).toArray,.bool false],.agg (z32.map bv).toArray,.bool false] ?_
   refine SeqK.eff (k' := 5) (Does.new (v := .pointer (some ⟨h149.size,0,none⟩)) (o := .cells (z32.map bv).toArray 23) (by kernel_rfl)) rfl ?_
   rintro _ h150 ⟨rfl,hh⟩
   have g151 : Ext h149 h150 := push_ext hh
   have m152 : h150[h149.size]? = some (.cells (z32.map bv).toArray 23) := push_at hh
   clear hh
   have lt153 := blk_lt m152
   have zs154 := e0.size
   have zs155 := g0.1
   have hlo := e0.size
   have sepo := sep
   replace e0 := e0.ext g151
   replace kt := kt.ext g151
   replace g0 := g0.ext g151
   replace hl := Ext.blk g151 hl
   replace hm := Ext.blk g151 hm
   replace hu := Ext.blk g151 hu
   replace m3 := Ext.blk g151 m3
   replace m9 := Ext.blk g151 m9
   replace sep := sep.up g151.size
   replace sep := sepo.new hlo (blk_lt m152)
   clear sepo hlo
   refine SeqK.eff (k' := 6) (Does.store (b := h149.size) (off := 0) (vs := z32.map bv) (l := z32.map bv) (storeOp_of (by kernel_rfl) (hlm rfl)) m152 (hfit rfl rfl) (ones_map _)) rfl ?_
   rintro _ h156 ⟨rfl,hh⟩
   have g157 : Grew (some (h149.size)) h150 h156 := hput_gr hh
   replace m152 : h156[h149.size]? = some (.cells (z32.map bv).toArray 23) := hput_at (off := 0) (vs := z32.map bv) (l := (z32.map bv)) hh (hsplice rfl rfl) m152
   clear hh
   replace e0 := e0.grew g157 (sep.low 0 rfl)
   replace kt := kt.grew g157 (sep.zero 0 rfl h0s)
   replace g0 := g0.grew g157 (fun i e => .inr (by cases e; omega))
   replace hl := Grew.blk g157 hl ((sep.bp 3 0))
   replace hm := Grew.blk g157 hm ((sep.bp 4 0))
   replace hu := Grew.blk g157 hu ((sep.bp 5 0))
   replace m3 := Grew.blk g157 m3 ((sep.bp 2 0))
   replace m9 := Grew.blk g157 m9 ((sep.bp 1 0))
   replace sep := sep.up g157.size
   refine sP 7 [.bool false] ?_
   refine sD [(0,nV m),(1,nV n),(2,.bool false),(4,pV br),(5,pV bu),(9,pV h.size),(10,pV h1.size),(12,pV h149.size),(13,.bool false)] ?_
   clear hF a; intro a hF
   refine tK ?_
   refine cS ?_
   refine cS ?_
   refine cP 4 hF ?_
   refine sP 7 [.bool false,.bool true,.bool true,undef,undef,undef,.bool true] ?_
   refine sD [(0,nV m),(1,nV n),(2,.bool false),(4,pV br),(5,pV bu),(9,pV h.size),(10,pV h1.size),(12,pV h149.size),(13,.bool false),(42,.bool true)] ?_
   clear hF a; intro a hF
   refine tK ?_
   refine cT 42 hF ?_
   refine cS ?_
   refine cD [0,0,0,4,12,28,60,124,13,271,1023] 5 mixed hF ?_
   refine mL 1 1 0 (.agg (z32.map bv).toArray) (Calm.load (T := 23) (p := ⟨h149.size,0,none⟩) (by kernel_rfl) (Loads.hash (by kernel_rfl) rfl m152)) ?_
   refine mL 3 3 1 (.agg (z32.map bv).toArray) (Calm.load (T := 23) (p := ⟨h149.size,0,none⟩) (by kernel_rfl) (Loads.hash (by kernel_rfl) rfl m152)) ?_
   refine mP 255 [2,3,4,5,6,7] [.bool false,.bool false,undef,undef,undef,.bool false] ?_
   refine SimK.eff (i := 8) (D' := 511) (X' := 269) (by kernel_rfl) (by kernel_rfl) (by kernel_rfl) [1] (by kernel_rfl) (Does.store (b := h.size) (off := 0) (vs := z32.map bv) (l := z32.map bv) (storeOp_of (by kernel_rfl) (hlm rfl)) m3 (hfit rfl rfl) (ones_map _)) ?_
   rintro _ h158 ⟨rfl,hh⟩
   have g159 : Grew (some (h.size)) h156 h158 := hput_gr hh
   replace m3 : h158[h.size]? = some (.cells (z32.map bv).toArray 23) := hput_at (off := 0) (vs := z32.map bv) (l := (z32.map bv)) hh (hsplice rfl rfl) m3
   clear hh
   replace e0 := e0.grew g159 (sep.low 2 rfl)
   replace kt := kt.grew g159 (sep.zero 2 rfl h0s)
   replace g0 := g0.grew g159 (fun i e => .inr (by cases e; omega))
   replace hl := Grew.blk g159 hl ((sep.bp 3 2))
   replace hm := Grew.blk g159 hm ((sep.bp 4 2))
   replace hu := Grew.blk g159 hu ((sep.bp 5 2))
   replace m9 := Grew.blk g159 m9 ((sep.bp 1 2))
   replace m152 := Grew.blk g159 m152 ((sep.bp 0 2))
   replace sep := sep.up g159.size
   refine ⟨?_,?_⟩
   ·intro j hj
    simp only [List.mem_cons,List.not_mem_nil,or_false] at hj
    subst hj
    exact goodOf (Calm.load (T := 23) (p := ⟨h149.size,0,none⟩) (by kernel_rfl) (Loads.hash (by kernel_rfl) rfl m152))
   refine SimK.eff0 (i := 9) (D' := 1023) (X' := 783) (by kernel_rfl) (by kernel_rfl) (by kernel_rfl) (by kernel_rfl) (Does.store (b := h1.size) (off := 0) (vs := z32.map bv) (l := z32.map bv) (storeOp_of (by kernel_rfl) (hlm rfl)) m9 (hfit rfl rfl) (ones_map _)) ?_
   rintro _ h160 ⟨rfl,hh⟩
   have g161 : Grew (some (h1.size)) h158 h160 := hput_gr hh
   replace m9 : h160[h1.size]? = some (.cells (z32.map bv).toArray 23) := hput_at (off := 0) (vs := z32.map bv) (l := (z32.map bv)) hh (hsplice rfl rfl) m9
   clear hh
   replace e0 := e0.grew g161 (sep.low 1 rfl)
   replace kt := kt.grew g161 (sep.zero 1 rfl h0s)
   replace g0 := g0.grew g161 (fun i e => .inr (by cases e; omega))
   replace hl := Grew.blk g161 hl ((sep.bp 3 1))
   replace hm := Grew.blk g161 hm ((sep.bp 4 1))
   replace hu := Grew.blk g161 hu ((sep.bp 5 1))
   replace m3 := Grew.blk g161 m3 ((sep.bp 2 1))
   replace m152 := Grew.blk g161 m152 ((sep.bp 0 1))
   replace sep := sep.up g161.size
   refine mP 2047 [10] [.bool false] ?_
   refine mD [(9,pV h.size),(10,pV h1.size),(11,.bool false)] ?_
   clear hF a; intro a hF
   refine tK ?_
   refine cR ?_
   show retK Tryd.prog Tryd.f32 (fun v h' => ∃ X Y,v = .tuple #[hv X,hv Y,.bool (twV x m n r false).2.2] ∧ X.length = 32 ∧ Y.length = 32 ∧ ((twV x m n r false).2.2 = true → X = (twV x m n r false).1 ∧ Y = (twV x m n r false).2.1) ∧ h'[bl]? = some (.cells (x.map bv).toArray 23) ∧ ∃ r',h'[br]? = some (.cells #[.slice va r' vc] 24) ∧ h'[bu]? = some (.cells #[.func (.func 32) #[] #[.pointer (some ⟨bl,0,none⟩),.pointer (some ⟨br,0,none⟩),.pointer (some ⟨bu,0,none⟩)]] 56) ∧ Grew (some br) h h' ∧ Ext hz h' ∧ Ktab h') .ret a h160
   refine ret_ok [.cell 9 23,.cell 10 23,.tmp 11] [.agg (z32.map bv).toArray,.agg (z32.map bv).toArray,.bool false] (.tuple #[.agg (z32.map bv).toArray,.agg (z32.map bv).toArray,.bool false]) rfl hF ⟨⟨_,rfl,Loads.hash (by kernel_rfl) rfl m3⟩,⟨_,rfl,Loads.hash (by kernel_rfl) rfl m9⟩,rfl,trivial⟩ rfl ?_
   exact ⟨z32,z32,by rw [tw_none (by simp) hr0] <;> rfl,rfl,rfl,(fun e => by rw [tw_none (by simp) hr0] at e; cases e),hl,_,hm,hu,g0.toGrew,e0,kt⟩
  ·skip
   refine cP 3 hF ?_
   refine SeqK.eff (k' := 1) (Does.call (f := 29) (args := #[.pointer (some ⟨br,0,none⟩)]) (by kernel_rfl) (pop_ok _ br r va vc hm (hr.ext e0) (hz0.imp id fun z => ⟨by intro e; have := z _ e; have := sep.low 3 rfl _ rfl; omega,by intro k e; have := z _ e; have := e0.size; omega⟩) (by omega) (by omega))) rfl ?_
   rintro _ h162 ⟨rfl,hm2,g⟩
   replace e0 := e0.grew g (sep.low 3 rfl)
   replace kt := kt.grew g (sep.zero 3 rfl h0s)
   replace g0 := g0.grew g (fun i e => .inl (by cases e; rfl))
   replace hl := Grew.blk g hl ((sep.bp 2 3))
   replace hu := Grew.blk g hu ((sep.bp 4 3))
   replace m3 := Grew.blk g m3 ((sep.bp 1 3))
   replace m9 := Grew.blk g m9 ((sep.bp 0 3))
   replace sep := sep.up g.size
   clear hm g; have hm := hm2; clear hm2
   refine sP 4 [.tuple #[.agg ((lastH r).map bv).toArray,.bool true],.agg ((lastH r).map bv).toArray,.bool true] ?_
   refine SeqK.eff (k' := 5) (Does.new (v := .pointer (some ⟨h162.size,0,none⟩)) (o := .cells (z32.map bv).toArray 23) (by kernel_rfl)) rfl ?_
   rintro _ h163 ⟨rfl,hh⟩
   have g164 : Ext h162 h163 := push_ext hh
   have m165 : h163[h162.size]? = some (.cells (z32.map bv).toArray 23) := push_at hh
   clear hh
   have lt166 := blk_lt m165
   have zs167 := e0.size
   have zs168 := g0.1
   have hlo := e0.size
   have sepo := sep
   replace e0 := e0.ext g164
   replace kt := kt.ext g164
   replace g0 := g0.ext g164
   replace hl := Ext.blk g164 hl
   replace hm := Ext.blk g164 hm
   replace hu := Ext.blk g164 hu
   replace m3 := Ext.blk g164 m3
   replace m9 := Ext.blk g164 m9
   replace sep := sep.up g164.size
   replace sep := sepo.new hlo (blk_lt m165)
   clear sepo hlo
   refine SeqK.eff (k' := 6) (Does.store (b := h162.size) (off := 0) (vs := (lastH r).map bv) (l := z32.map bv) (storeOp_of (by kernel_rfl) (hlm (last_len hr.2.1 (by omega)))) m165 (hfit rfl (last_len hr.2.1 (by omega))) (ones_map _)) rfl ?_
   rintro _ h169 ⟨rfl,hh⟩
   have g170 : Grew (some (h162.size)) h163 h169 := hput_gr hh
   replace m165 : h169[h162.size]? = some (.cells ((lastH r).map bv).toArray 23) := hput_at (off := 0) (vs := (lastH r).map bv) (l := (z32.map bv)) hh (hsplice rfl (last_len hr.2.1 (by omega))) m165
   clear hh
   replace e0 := e0.grew g170 (sep.low 0 rfl)
   replace kt := kt.grew g170 (sep.zero 0 rfl h0s)
   replace g0 := g0.grew g170 (fun i e => .inr (by cases e; omega))
   replace hl := Grew.blk g170 hl ((sep.bp 3 0))
   replace hm := Grew.blk g170 hm ((sep.bp 4 0))
   replace hu := Grew.blk g170 hu ((sep.bp 5 0))
   replace m3 := Grew.blk g170 m3 ((sep.bp 2 0))
   replace m9 := Grew.blk g170 m9 ((sep.bp 1 0))
   replace sep := sep.up g170.size
   refine sP 7 [.bool true] ?_
   refine sD [(0,nV m),(1,nV n),(2,.bool false),(4,pV br),(5,pV bu),(9,pV h.size),(10,pV h1.size),(12,pV h162.size),(13,.bool true)] ?_
   clear hF a; intro a hF
   refine tK ?_
   refine cS ?_
   refine cS ?_
   refine cP 4 hF ?_
   refine sP 5 [.bool true,.bool false,.bool false,nV m,nV n] ?_
   refine s1 6 (.bool true) (.bool (((m : Nat) : Int) == ((n : Nat) : Int))) (congrArg Value.bool (beq_iff_eq.2 (by omega))) ?_
   refine sP 7 [.bool true] ?_
   refine sD [(0,nV m),(1,nV n),(2,.bool false),(4,pV br),(5,pV bu),(9,pV h.size),(10,pV h1.size),(12,pV h162.size),(13,.bool true),(42,.bool true)] ?_
   clear hF a; intro a hF
   refine tK ?_
   refine cT 42 hF ?_
   refine cS ?_
   refine cD [0,0,0,4,12,28,60,124,13,271,1023] 5 mixed hF ?_
   refine mL 1 1 0 (.agg ((lastH r).map bv).toArray) (Calm.load (T := 23) (p := ⟨h162.size,0,none⟩) (by kernel_rfl) (Loads.hash (by kernel_rfl) (last_len hr.2.1 (by omega)) m165)) ?_
   refine mL 3 3 1 (.agg ((lastH r).map bv).toArray) (Calm.load (T := 23) (p := ⟨h162.size,0,none⟩) (by kernel_rfl) (Loads.hash (by kernel_rfl) (last_len hr.2.1 (by omega)) m165)) ?_
   refine mP 15 [2,3] [.bool true,.bool true] ?_
   refine mL 31 19 4 (.slice va (r.length - 1) vc) (Calm.load (T := 24) (p := ⟨br,0,none⟩) (by kernel_rfl) (Loads.one (k := 1) (by kernel_rfl) ((hcell_blk hm).trans rfl))) ?_
   refine mP 255 [5,6,7] [nV (r.length - 1),.bool (decide (((r.length - 1 : Nat) : Int) = (0 : Int))),.bool (decide (((r.length - 1 : Nat) : Int) = (0 : Int)))] ?_
   refine SimK.eff (i := 8) (D' := 511) (X' := 269) (by kernel_rfl) (by kernel_rfl) (by kernel_rfl) [1,4] (by kernel_rfl) (Does.store (b := h.size) (off := 0) (vs := (lastH r).map bv) (l := z32.map bv) (storeOp_of (by kernel_rfl) (hlm (last_len hr.2.1 (by omega)))) m3 (hfit rfl (last_len hr.2.1 (by omega))) (ones_map _)) ?_
   rintro _ h171 ⟨rfl,hh⟩
   have g172 : Grew (some (h.size)) h169 h171 := hput_gr hh
   replace m3 : h171[h.size]? = some (.cells ((lastH r).map bv).toArray 23) := hput_at (off := 0) (vs := (lastH r).map bv) (l := (z32.map bv)) hh (hsplice rfl (last_len hr.2.1 (by omega))) m3
   clear hh
   replace e0 := e0.grew g172 (sep.low 2 rfl)
   replace kt := kt.grew g172 (sep.zero 2 rfl h0s)
   replace g0 := g0.grew g172 (fun i e => .inr (by cases e; omega))
   replace hl := Grew.blk g172 hl ((sep.bp 3 2))
   replace hm := Grew.blk g172 hm ((sep.bp 4 2))
   replace hu := Grew.blk g172 hu ((sep.bp 5 2))
   replace m9 := Grew.blk g172 m9 ((sep.bp 1 2))
   replace m165 := Grew.blk g172 m165 ((sep.bp 0 2))
   replace sep := sep.up g172.size
   refine ⟨?_,?_⟩
   ·intro j hj
    simp only [List.mem_cons,List.not_mem_nil,or_false] at hj
    rcases hj with rfl | rfl
    ·exact goodOf (Calm.load (T := 23) (p := ⟨h162.size,0,none⟩) (by kernel_rfl) (Loads.hash (by kernel_rfl) (last_len hr.2.1 (by omega)) m165))
    ·exact goodOf (Calm.load (T := 24) (p := ⟨br,0,none⟩) (by kernel_rfl) (Loads.one (k := 1) (by kernel_rfl) ((hcell_blk hm).trans rfl)))
   refine SimK.eff (i := 9) (D' := 1023) (X' := 783) (by kernel_rfl) (by kernel_rfl) (by kernel_rfl) [4] (by kernel_rfl) (Does.store (b := h1.size) (off := 0) (vs := (lastH r).map bv) (l := z32.map bv) (storeOp_of (by kernel_rfl) (hlm (last_len hr.2.1 (by omega)))) m9 (hfit rfl (last_len hr.2.1 (by omega))) (ones_map _)) ?_
   rintro _ h173 ⟨rfl,hh⟩
   have g174 : Grew (some (h1.size)) h171 h173 := hput_gr hh
   replace m9 : h173[h1.size]? = some (.cells ((lastH r).map bv).toArray 23) := hput_at (off := 0) (vs := (lastH r).map bv) (l := (z32.map bv)) hh (hsplice rfl (last_len hr.2.1 (by omega))) m9
   clear hh
   replace e0 := e0.grew g174 (sep.low 1 rfl)
   replace kt := kt.grew g174 (sep.zero 1 rfl h0s)
   replace g0 := g0.grew g174 (fun i e => .inr (by cases e; omega))
   replace hl := Grew.blk g174 hl ((sep.bp 3 1))
   replace hm := Grew.blk g174 hm ((sep.bp 4 1))
   replace hu := Grew.blk g174 hu ((sep.bp 5 1))
   replace m3 := Grew.blk g174 m3 ((sep.bp 2 1))
   replace m165 := Grew.blk g174 m165 ((sep.bp 0 1))
   replace sep := sep.up g174.size
   refine ⟨?_,?_⟩
   ·intro j hj
    simp only [List.mem_cons,List.not_mem_nil,or_false] at hj
    subst hj
    exact goodOf (Calm.load (T := 24) (p := ⟨br,0,none⟩) (by kernel_rfl) (Loads.one (k := 1) (by kernel_rfl) ((hcell_blk hm).trans rfl)))
   refine mP 2047 [10] [.bool (decide (((r.length - 1 : Nat) : Int) = (0 : Int)))] ?_
   refine mD [(9,pV h.size),(10,pV h1.size),(11,.bool (decide (((r.length - 1 : Nat) : Int) = (0 : Int))))] ?_
   clear hF a; intro a hF
   refine tK ?_
   refine cR ?_
   show retK Tryd.prog Tryd.f32 (fun v h' => ∃ X Y,v = .tuple #[hv X,hv Y,.bool (twV x m n r false).2.2] ∧ X.length = 32 ∧ Y.length = 32 ∧ ((twV x m n r false).2.2 = true → X = (twV x m n r false).1 ∧ Y = (twV x m n r false).2.1) ∧ h'[bl]? = some (.cells (x.map bv).toArray 23) ∧ ∃ r',h'[br]? = some (.cells #[.slice va r' vc] 24) ∧ h'[bu]? = some (.cells #[.func (.func 32) #[] #[.pointer (some ⟨bl,0,none⟩),.pointer (some ⟨br,0,none⟩),.pointer (some ⟨bu,0,none⟩)]] 56) ∧ Grew (some br) h h' ∧ Ext hz h' ∧ Ktab h') .ret a h173
   refine ret_ok [.cell 9 23,.cell 10 23,.tmp 11] [.agg ((lastH r).map bv).toArray,.agg ((lastH r).map bv).toArray,.bool (decide (((r.length - 1 : Nat) : Int) = (0 : Int)))] (.tuple #[.agg ((lastH r).map bv).toArray,.agg ((lastH r).map bv).toArray,.bool (decide (((r.length - 1 : Nat) : Int) = (0 : Int)))]) rfl hF ⟨⟨_,rfl,Loads.hash (by kernel_rfl) (last_len hr.2.1 (by omega)) m3⟩,⟨_,rfl,Loads.hash (by kernel_rfl) (last_len hr.2.1 (by omega)) m9⟩,rfl,trivial⟩ rfl ?_
   exact ⟨lastH r,lastH r,by rw [tw_end (by simp) hr0 (by omega),initH_len]; simp [hv],last_len hr.2.1 hr0,last_len hr.2.1 hr0,(fun _ => by rw [tw_end (by simp) hr0 (by omega)]; exact ⟨rfl,rfl⟩),hl,_,hm,hu,g0.toGrew,e0,kt⟩
 ·skip
  refine cP 1 hF ?_
  refine sP 2 [nV m,nV n] ?_
  refine s1 3 (.bool true) (.bool (((m : Nat) : Int) == ((n : Nat) : Int))) (congrArg Value.bool (beq_iff_eq.2 (by omega))) ?_
  refine sP 6 [.bool true,.bool true,.bool true] ?_
  refine sD [(0,nV m),(1,nV n),(2,.bool true),(3,pV bl),(4,pV br),(5,pV bu),(9,pV h.size),(10,pV h1.size),(26,.bool true)] ?_
  clear hF a; intro a hF
  refine tK ?_
  refine cT 26 hF ?_
  refine cS ?_
  refine cD [0,0,0,4,12,1,35,127] 2 mixed hF ?_
  refine mL 1 1 0 (.agg (x.map bv).toArray) (Calm.load (T := 23) (p := ⟨bl,0,none⟩) (by kernel_rfl) (Loads.hash (by kernel_rfl) hx hl)) ?_
  refine mL 3 3 1 (.agg (x.map bv).toArray) (Calm.load (T := 23) (p := ⟨bl,0,none⟩) (by kernel_rfl) (Loads.hash (by kernel_rfl) hx hl)) ?_
  refine mL 7 7 2 (.slice va r.length vc) (Calm.load (T := 24) (p := ⟨br,0,none⟩) (by kernel_rfl) (Loads.one (k := 1) (by kernel_rfl) ((hcell_blk hm).trans rfl))) ?_
  refine mP 31 [3,4] [nV r.length,.bool (decide (((r.length : Nat) : Int) = (0 : Int)))] ?_
  refine SimK.eff (i := 5) (D' := 63) (X' := 33) (by kernel_rfl) (by kernel_rfl) (by kernel_rfl) [1,2] (by kernel_rfl) (Does.store (b := h.size) (off := 0) (vs := x.map bv) (l := z32.map bv) (storeOp_of (by kernel_rfl) (hlm hx)) m3 (hfit rfl hx) (ones_map _)) ?_
  rintro _ h175 ⟨rfl,hh⟩
  have g176 : Grew (some (h.size)) h7 h175 := hput_gr hh
  replace m3 : h175[h.size]? = some (.cells (x.map bv).toArray 23) := hput_at (off := 0) (vs := x.map bv) (l := (z32.map bv)) hh (hsplice rfl hx) m3
  clear hh
  replace e0 := e0.grew g176 (sep.low 1 rfl)
  replace kt := kt.grew g176 (sep.zero 1 rfl h0s)
  replace g0 := g0.grew g176 (fun i e => .inr (by cases e; omega))
  replace hl := Grew.blk g176 hl ((sep.bp 2 1))
  replace hm := Grew.blk g176 hm ((sep.bp 3 1))
  replace hu := Grew.blk g176 hu ((sep.bp 4 1))
  replace m9 := Grew.blk g176 m9 ((sep.bp 0 1))
  replace sep := sep.up g176.size
  refine ⟨?_,?_⟩
  ·intro j hj
   simp only [List.mem_cons,List.not_mem_nil,or_false] at hj
   rcases hj with rfl | rfl
   ·exact goodOf (Calm.load (T := 23) (p := ⟨bl,0,none⟩) (by kernel_rfl) (Loads.hash (by kernel_rfl) hx hl))
   ·exact goodOf (Calm.load (T := 24) (p := ⟨br,0,none⟩) (by kernel_rfl) (Loads.one (k := 1) (by kernel_rfl) ((hcell_blk hm).trans rfl)))
  refine SimK.eff (i := 6) (D' := 127) (X' := 99) (by kernel_rfl) (by kernel_rfl) (by kernel_rfl) [2] (by kernel_rfl) (Does.store (b := h1.size) (off := 0) (vs := x.map bv) (l := z32.map bv) (storeOp_of (by kernel_rfl) (hlm hx)) m9 (hfit rfl hx) (ones_map _)) ?_
  rintro _ h177 ⟨rfl,hh⟩
  have g178 : Grew (some (h1.size)) h175 h177 := hput_gr hh
  replace m9 : h177[h1.size]? = some (.cells (x.map bv).toArray 23) := hput_at (off := 0) (vs := x.map bv) (l := (z32.map bv)) hh (hsplice rfl hx) m9
  clear hh
  replace e0 := e0.grew g178 (sep.low 0 rfl)
  replace kt := kt.grew g178 (sep.zero 0 rfl h0s)
  replace g0 := g0.grew g178 (fun i e => .inr (by cases e; omega))
  replace hl := Grew.blk g178 hl ((sep.bp 2 0))
  replace hm := Grew.blk g178 hm ((sep.bp 3 0))
  replace hu := Grew.blk g178 hu ((sep.bp 4 0))
  replace m3 := Grew.blk g178 m3 ((sep.bp 1 0))
  replace sep := sep.up g178.size
  refine ⟨?_,?_⟩
  ·intro j hj
   simp only [List.mem_cons,List.not_mem_nil,or_false] at hj
   subst hj
   exact goodOf (Calm.load (T := 24) (p := ⟨br,0,none⟩) (by kernel_rfl) (Loads.one (k := 1) (by kernel_rfl) ((hcell_blk hm).trans rfl)))
  refine mP 255 [7] [.bool (decide (((r.length : Nat) : Int) = (0 : Int)))] ?_
  refine mD [(9,pV h.size),(10,pV h1.size),(11,.bool (decide (((r.length : Nat) : Int) = (0 : Int))))] ?_
  clear hF a; intro a hF
  refine tK ?_
  refine cR ?_
  show retK Tryd.prog Tryd.f32 (fun v h' => ∃ X Y,v = .tuple #[hv X,hv Y,.bool (twV x m n r true).2.2] ∧ X.length = 32 ∧ Y.length = 32 ∧ ((twV x m n r true).2.2 = true → X = (twV x m n r true).1 ∧ Y = (twV x m n r true).2.1) ∧ h'[bl]? = some (.cells (x.map bv).toArray 23) ∧ ∃ r',h'[br]? = some (.cells #[.slice va r' vc] 24) ∧ h'[bu]? = some (.cells #[.func (.func 32) #[] #[.pointer (some ⟨bl,0,none⟩),.pointer (some ⟨br,0,none⟩),.pointer (some ⟨bu,0,none⟩)]] 56) ∧ Grew (some br) h h' ∧ Ext hz h' ∧ Ktab h') .ret a h177
  refine ret_ok [.cell 9 23,.cell 10 23,.tmp 11] [.agg (x.map bv).toArray,.agg (x.map bv).toArray,.bool (decide (((r.length : Nat) : Int) = (0 : Int)))] (.tuple #[.agg (x.map bv).toArray,.agg (x.map bv).toArray,.bool (decide (((r.length : Nat) : Int) = (0 : Int)))]) rfl hF ⟨⟨_,rfl,Loads.hash (by kernel_rfl) hx m3⟩,⟨_,rfl,Loads.hash (by kernel_rfl) hx m9⟩,rfl,trivial⟩ rfl ?_
  exact ⟨x,x,by rw [tw_all ⟨by omega,rfl⟩]; simp [hv],hx,hx,(fun _ => by rw [tw_all ⟨by omega,rfl⟩]; exact ⟨rfl,rfl⟩),hl,_,hm,hu,g0.toGrew,e0,kt⟩
theorem wayc_all (hz : Heap) (bl br bu : Nat) (x : Hs) (va : Option Addr) (vc : Nat) (hx : x.length = 32) (h0s : 0 < hz.size) : ∀ (k : Nat) (h : Heap) (m n : Nat) (r : List Hs) (whole : Bool),r.length ≤ k → k ≤ 1099511627776 → h[bl]? = some (.cells (x.map bv).toArray 23) → h[br]? = some (.cells #[.slice va r.length vc] 24) → h[bu]? = some (.cells #[.func (.func 32) #[] #[.pointer (some ⟨bl,0,none⟩),.pointer (some ⟨br,0,none⟩),.pointer (some ⟨bu,0,none⟩)]] 56) → HR hz va vc r.length r → (r = [] ∨ ∀ k,va.map (fun (x : Addr) => x.block) = some k → k < hz.size) → Sep hz.size h.size [some bl,some br,some bu] → Ext hz h → Ktab h → 0 < m → m ≤ n → n ≤ 9223372036854775807 → Sat Tryd.prog 32 #[.int .i64 ((m : Nat) : Int),.int .i64 ((n : Nat) : Int),.bool whole,.pointer (some ⟨bl,0,none⟩),.pointer (some ⟨br,0,none⟩),.pointer (some ⟨bu,0,none⟩)] h (fun v h' => ∃ X Y,v = .tuple #[hv X,hv Y,.bool (twV x m n r whole).2.2] ∧ X.length = 32 ∧ Y.length = 32 ∧ ((twV x m n r whole).2.2 = true → X = (twV x m n r whole).1 ∧ Y = (twV x m n r whole).2.1) ∧ h'[bl]? = some (.cells (x.map bv).toArray 23) ∧ ∃ r',h'[br]? = some (.cells #[.slice va r' vc] 24) ∧ h'[bu]? = some (.cells #[.func (.func 32) #[] #[.pointer (some ⟨bl,0,none⟩),.pointer (some ⟨br,0,none⟩),.pointer (some ⟨bu,0,none⟩)]] 56) ∧ Grew (some br) h h' ∧ Ext hz h' ∧ Ktab h')
 | 0,h,m,n,r,whole,hk,hkl,hl,hm,hu,hr,hz0,sep,e0,kt,hm0,hmn,hn => wayc_step hz bl br bu x va vc hx h0s r.length (fun _ _ _ _ _ hlt => by omega) h m n r whole rfl hl hm hu hr hz0 sep e0 kt hm0 hmn hn (by omega)
 | k + 1,h,m,n,r,whole,hk,hkl,hl,hm,hu,hr,hz0,sep,e0,kt,hm0,hmn,hn => wayc_step hz bl br bu x va vc hx h0s r.length (fun h m n r whole hlt hl hm hu hr hz0 sep e0 kt hm0 hmn hn => wayc_all hz bl br bu x va vc hx h0s k h m n r whole (by omega) (by omega) hl hm hu hr hz0 sep e0 kt hm0 hmn hn) h m n r whole rfl hl hm hu hr hz0 sep e0 kt hm0 hmn hn (by omega)
noncomputable def b14 : Code := Tryd.f14.body.getD .skip
set_option maxHeartbeats 1000000 in
theorem vcons_gen (h : Heap) (m n : Int) (x t : Hs) (r : List Hs) (va : Option Addr) (vc : Nat) (hx : x.length = 32) (ht : t.length = 32) (hr : HR h va vc r.length r) (hrl : r.length ≤ 1099511627776) (hn : n ≤ 9223372036854775807) (kt : Ktab h) (hz0 : r = [] ∨ ∀ k,va.map (fun (x : Addr) => x.block) = some k → k < h.size) : Sat Tryd.prog 14 #[.int .i64 m,.int .i64 n,.agg (x.map bv).toArray,.agg (t.map bv).toArray,.slice va r.length vc] h fun v h' => v = .bool (consB m n x t r) ∧ Ext h h' := by
 have e0 := Ext.refl h
 have h0s := kt.lt
 have sep : Sep h.size h.size [] := Sep.nil _ _
 refine sat_of (args := [.int .i64 m,.int .i64 n,.agg (x.map bv).toArray,.agg (t.map bv).toArray,.slice va r.length vc]) (fn := Tryd.f14) (B := b14) (n := 70) (L := [(0,.int .i64 m),(1,.int .i64 n),(2,.agg (x.map bv).toArray),(3,.agg (t.map bv).toArray),(4,.slice va r.length vc)]) Tryd.func14 rfl (by kernel_rfl) rfl ?_
 intro a hF
 refine cS ?_
 refine cP 0 hF ?_
 refine SeqK.eff (k' := 1) (Does.new (v := .pointer (some ⟨h.size,0,none⟩)) (o := .cells (x.map bv).toArray 23) (by kernel_rfl)) rfl ?_
 rintro _ h1 ⟨rfl,hh⟩
 have g2 : Ext h h1 := push_ext hh
 have m3 : h1[h.size]? = some (.cells (x.map bv).toArray 23) := push_at hh
 clear hh
 have lt4 := blk_lt m3
 have zs5 := e0.size
 have hlo := e0.size
 have sepo := sep
 replace e0 := e0.ext g2
 replace kt := kt.ext g2
 replace sep := sep.up g2.size
 replace sep := sepo.new hlo (blk_lt m3)
 clear sepo hlo
 refine SeqK.eff (k' := 2) (Does.new (v := .pointer (some ⟨h1.size,0,none⟩)) (o := .cells (t.map bv).toArray 23) (by kernel_rfl)) rfl ?_
 rintro _ h6 ⟨rfl,hh⟩
 have g7 : Ext h1 h6 := push_ext hh
 have m8 : h6[h1.size]? = some (.cells (t.map bv).toArray 23) := push_at hh
 clear hh
 have lt9 := blk_lt m8
 have zs10 := e0.size
 have hlo := e0.size
 have sepo := sep
 replace e0 := e0.ext g7
 replace kt := kt.ext g7
 replace m3 := Ext.blk g7 m3
 replace sep := sep.up g7.size
 replace sep := sepo.new hlo (blk_lt m8)
 clear sepo hlo
 refine sP 3 [.bool false] ?_
 refine sD [(0,.int .i64 m),(1,.int .i64 n),(4,.slice va r.length vc),(7,pV h.size),(8,pV h1.size)] ?_
 clear hF a; intro a hF
 refine tK ?_
 refine cS ?_
 refine cB 0 ?_
 refine cS ?_
 rcases ccases m n r.length with hm0 | hm0 | ⟨mi,ni,rfl,rfl,hmn,h64⟩ | ⟨ni,rfl,rfl,h64⟩ | ⟨mi,ni,rfl,rfl,hmn,hmi0,h64⟩
 ·skip
  refine cP 1 hF ?_
  refine sP 1 [.int .i64 m] ?_
  refine s1 2 (.bool true) (.bool (decide (m < (0 : Int)))) (congrArg Value.bool (decide_eq_true (by omega))) ?_
  refine sP 13 [.bool true,undef,undef,undef,.bool true,.bool true,undef,undef,undef,.bool true,.bool true] ?_
  refine sD [(0,.int .i64 m),(1,.int .i64 n),(4,.slice va r.length vc),(7,pV h.size),(8,pV h1.size),(16,.bool true)] ?_
  clear hF a; intro a hF
  refine tK ?_
  refine cT 16 hF ?_
  refine cS ?_
  refine cP 2 hF ?_
  refine sP 1 [.bool false] ?_
  refine sD [(10,.bool false)] ?_
  clear hF a; intro a hF
  refine tK ?_
  refine cR ?_
  show retK Tryd.prog Tryd.f14 (fun v h' => v = .bool (consB m n x t r) ∧ Ext h h') .ret a h6
  refine ret_ok [.tmp 10] [.bool false] (.bool false) rfl hF ⟨rfl,trivial⟩ rfl ?_
  exact ⟨by rw [consB_no (by omega)] <;> first | rfl | simp,e0⟩
 ·skip
  refine cP 1 hF ?_
  refine sP 1 [.int .i64 m] ?_
  refine s1 2 (.bool false) (.bool (decide (m < (0 : Int)))) (congrArg Value.bool (decide_eq_false (by omega))) ?_
  refine sP 5 [.bool false,.int .i64 m,.int .i64 n] ?_
  refine s1 6 (.bool true) (.bool (decide (n < m))) (congrArg Value.bool (decide_eq_true (by omega))) ?_
  refine sP 13 [.bool true,.bool true,undef,undef,undef,.bool true,.bool true] ?_
  refine sD [(0,.int .i64 m),(1,.int .i64 n),(4,.slice va r.length vc),(7,pV h.size),(8,pV h1.size),(16,.bool true)] ?_
  clear hF a; intro a hF
  refine tK ?_
  refine cT 16 hF ?_
  refine cS ?_
  refine cP 2 hF ?_
  refine sP 1 [.bool false] ?_
  refine sD [(10,.bool false)] ?_
  clear hF a; intro a hF
  refine tK ?_
  refine cR ?_
  show retK Tryd.prog Tryd.f14 (fun v h' => v = .bool (consB m n x t r) ∧ Ext h h') .ret a h6
  refine ret_ok [.tmp 10] [.bool false] (.bool false) rfl hF ⟨rfl,trivial⟩ rfl ?_
  exact ⟨by rw [consB_no (by omega)] <;> first | rfl | simp,e0⟩
 ·skip
  refine cP 1 hF ?_
  refine sP 1 [nV mi] ?_
  refine s1 2 (.bool false) (.bool (decide (((mi : Nat) : Int) < (0 : Int)))) (congrArg Value.bool (decide_eq_false (by omega))) ?_
  refine sP 5 [.bool false,nV mi,nV ni] ?_
  refine s1 6 (.bool false) (.bool (decide (((ni : Nat) : Int) < ((mi : Nat) : Int)))) (congrArg Value.bool (decide_eq_false (by omega))) ?_
  refine sP 10 [.bool false,.bool false,.slice va r.length vc,nV r.length] ?_
  refine s1 11 (.bool true) (.bool (decide ((64 : Int) < ((r.length : Nat) : Int)))) (congrArg Value.bool (decide_eq_true (by omega))) ?_
  refine sP 13 [.bool true,.bool true] ?_
  refine sD [(0,nV mi),(1,nV ni),(4,.slice va r.length vc),(7,pV h.size),(8,pV h1.size),(16,.bool true)] ?_
  clear hF a; intro a hF
  refine tK ?_
  refine cT 16 hF ?_
  refine cS ?_
  refine cP 2 hF ?_
  refine sP 1 [.bool false] ?_
  refine sD [(10,.bool false)] ?_
  clear hF a; intro a hF
  refine tK ?_
  refine cR ?_
  show retK Tryd.prog Tryd.f14 (fun v h' => v = .bool (consB (mi : Int) (ni : Int) x t r) ∧ Ext h h') .ret a h6
  refine ret_ok [.tmp 10] [.bool false] (.bool false) rfl hF ⟨rfl,trivial⟩ rfl ?_
  exact ⟨by rw [consB_long hmn (by omega) h64] <;> first | rfl | simp,e0⟩
 ·skip
  refine cP 1 hF ?_
  refine sP 1 [nV 0] ?_
  refine s1 2 (.bool false) (.bool (decide (((0 : Nat) : Int) < (0 : Int)))) (congrArg Value.bool (decide_eq_false (by omega))) ?_
  refine sP 5 [.bool false,nV 0,nV ni] ?_
  refine s1 6 (.bool false) (.bool (decide (((ni : Nat) : Int) < ((0 : Nat) : Int)))) (congrArg Value.bool (decide_eq_false (by omega))) ?_
  refine sP 10 [.bool false,.bool false,.slice va r.length vc,nV r.length] ?_
  refine s1 11 (.bool false) (.bool (decide ((64 : Int) < ((r.length : Nat) : Int)))) (congrArg Value.bool (decide_eq_false (by omega))) ?_
  refine sP 13 [.bool false,.bool false] ?_
  refine sD [(0,nV 0),(1,nV ni),(4,.slice va r.length vc),(7,pV h.size),(8,pV h1.size),(16,.bool false)] ?_
  clear hF a; intro a hF
  refine tK ?_
  refine cF 16 hF ?_
  refine cS ?_
  refine cP 3 hF ?_
  refine sP 1 [nV 0] ?_
  refine s1 2 (.bool true) (.bool (((0 : Nat) : Int) == (0 : Int))) (congrArg Value.bool (beq_iff_eq.2 (by omega))) ?_
  refine sP 3 [.bool true] ?_
  refine sD [(0,nV 0),(1,nV ni),(4,.slice va r.length vc),(7,pV h.size),(8,pV h1.size),(29,.bool true)] ?_
  clear hF a; intro a hF
  refine tK ?_
  refine cT 29 hF ?_
  refine cS ?_
  rcases zcases r.length ni x (root []) t with hz1 | ⟨hz1,hz2⟩ | ⟨hz1,hz2,hz3⟩ | ⟨hz1,hz2,hz3,hz4⟩ | ⟨hz1,hz2,hz3,hz4⟩
  ·skip
   refine cD [0,1,3,7,15,15,63,127,255,511,1023,2047,4095,4095,16383,32767,65535,131071] 4 mixed hF ?_
   refine mP 3 [0,1] [.slice va r.length vc,nV r.length] ?_
   refine m1 7 2 (.bool false) (.bool (((r.length : Nat) : Int) == (0 : Int))) (congrArg Value.bool (beq_eq_false_iff_ne.2 (by omega))) ?_
   refine mP 262143 [3,4,5,6,7,8,9,10,11,12,13,14,15,16,17] [.bool false,undef,undef,undef,.bool false,.bool false,undef,undef,undef,undef,undef,undef,undef,.bool false,.bool false] ?_
   refine mD [(10,.bool false)] ?_
   clear hF a; intro a hF
   refine tK ?_
   refine cR ?_
   show retK Tryd.prog Tryd.f14 (fun v h' => v = .bool (consB ((0 : Nat) : Int) (ni : Int) x t r) ∧ Ext h h') .ret a h6
   refine ret_ok [.tmp 10] [.bool false] (.bool false) rfl hF ⟨rfl,trivial⟩ rfl ?_
   exact ⟨by rw [consB_zero,decide_eq_false hz1] <;> first | rfl | simp,e0⟩
  ·skip
   refine cD [0,1,3,7,15,15,63,127,255,511,1023,2047,4095,4095,16383,32767,65535,131071] 4 mixed hF ?_
   refine mP 3 [0,1] [.slice va r.length vc,nV r.length] ?_
   refine m1 7 2 (.bool true) (.bool (((r.length : Nat) : Int) == (0 : Int))) (congrArg Value.bool (beq_iff_eq.2 (by omega))) ?_
   refine mP 15 [3] [.bool true] ?_
   refine mL 31 16 4 (.agg (x.map bv).toArray) (Calm.load (T := 23) (p := ⟨h.size,0,none⟩) (by kernel_rfl) (Loads.hash (by kernel_rfl) hx m3)) ?_
   refine SimK.eff (i := 5) (D' := 63) (X' := 47) (by kernel_rfl) (by kernel_rfl) (by kernel_rfl) [4] (by kernel_rfl) (Does.call (f := 20) (args := #[.slice none 0 0]) (by kernel_rfl) (troot_sat _ [] none 0 0 (HR.nil _) kt (by decide))) ?_
   rintro _ h11 ⟨rfl,g⟩
   replace e0 := e0.ext g
   replace kt := kt.ext g
   replace m3 := Ext.blk g m3
   replace m8 := Ext.blk g m8
   replace sep := sep.up g.size
   refine ⟨?_,?_⟩
   ·intro j hj
    simp only [List.mem_cons,List.not_mem_nil,or_false] at hj
    subst hj
    exact goodOf (Calm.load (T := 23) (p := ⟨h.size,0,none⟩) (by kernel_rfl) (Loads.hash (by kernel_rfl) hx m3))
   clear g
   refine mF 127 6 (.bool false) (eqHF (q := true) (l := x) (r := root []) (n := 32) (by kernel_rfl) hx (root_len All32.nil) hz2) ?_
   refine mP 262143 [7,8,9,10,11,12,13,14,15,16,17] [.bool false,.bool false,undef,undef,undef,undef,undef,undef,undef,.bool false,.bool false] ?_
   refine mD [(10,.bool false)] ?_
   clear hF a; intro a hF
   refine tK ?_
   refine cR ?_
   show retK Tryd.prog Tryd.f14 (fun v h' => v = .bool (consB ((0 : Nat) : Int) (ni : Int) x t r) ∧ Ext h h') .ret a h11
   refine ret_ok [.tmp 10] [.bool false] (.bool false) rfl hF ⟨rfl,trivial⟩ rfl ?_
   exact ⟨by rw [consB_zero,decide_eq_true hz1,decide_eq_false hz2] <;> first | rfl | simp,e0⟩
  ·skip
   refine cD [0,1,3,7,15,15,63,127,255,511,1023,2047,4095,4095,16383,32767,65535,131071] 4 mixed hF ?_
   refine mP 3 [0,1] [.slice va r.length vc,nV r.length] ?_
   refine m1 7 2 (.bool true) (.bool (((r.length : Nat) : Int) == (0 : Int))) (congrArg Value.bool (beq_iff_eq.2 (by omega))) ?_
   refine mP 15 [3] [.bool true] ?_
   refine mL 31 16 4 (.agg (x.map bv).toArray) (Calm.load (T := 23) (p := ⟨h.size,0,none⟩) (by kernel_rfl) (Loads.hash (by kernel_rfl) hx m3)) ?_
   refine SimK.eff (i := 5) (D' := 63) (X' := 47) (by kernel_rfl) (by kernel_rfl) (by kernel_rfl) [4] (by kernel_rfl) (Does.call (f := 20) (args := #[.slice none 0 0]) (by kernel_rfl) (troot_sat _ [] none 0 0 (HR.nil _) kt (by decide))) ?_
   rintro _ h12 ⟨rfl,g⟩
   replace e0 := e0.ext g
   replace kt := kt.ext g
   replace m3 := Ext.blk g m3
   replace m8 := Ext.blk g m8
   replace sep := sep.up g.size
   refine ⟨?_,?_⟩
   ·intro j hj
    simp only [List.mem_cons,List.not_mem_nil,or_false] at hj
    subst hj
    exact goodOf (Calm.load (T := 23) (p := ⟨h.size,0,none⟩) (by kernel_rfl) (Loads.hash (by kernel_rfl) hx m3))
   clear g
   refine mF 127 6 (.bool true) (eqHT (q := true) (l := x) (r := root []) (n := 32) (by kernel_rfl) hx (root_len All32.nil) hz2) ?_
   refine mP 1023 [7,8,9] [.bool true,.bool true,nV ni] ?_
   refine m1 2047 10 (.bool true) (.bool (decide ((0 : Int) < ((ni : Nat) : Int)))) (congrArg Value.bool (decide_eq_true (by omega))) ?_
   refine mP 262143 [11,12,13,14,15,16,17] [.bool true,undef,undef,undef,.bool true,.bool true,.bool true] ?_
   refine mD [(10,.bool true)] ?_
   clear hF a; intro a hF
   refine tK ?_
   refine cR ?_
   show retK Tryd.prog Tryd.f14 (fun v h' => v = .bool (consB ((0 : Nat) : Int) (ni : Int) x t r) ∧ Ext h h') .ret a h12
   refine ret_ok [.tmp 10] [.bool true] (.bool true) rfl hF ⟨rfl,trivial⟩ rfl ?_
   exact ⟨by rw [consB_zero,decide_eq_true hz1,decide_eq_true hz2,decide_eq_true hz3] <;> first | rfl | simp,e0⟩
  ·skip
   refine cD [0,1,3,7,15,15,63,127,255,511,1023,2047,4095,4095,16383,32767,65535,131071] 4 mixed hF ?_
   refine mP 3 [0,1] [.slice va r.length vc,nV r.length] ?_
   refine m1 7 2 (.bool true) (.bool (((r.length : Nat) : Int) == (0 : Int))) (congrArg Value.bool (beq_iff_eq.2 (by omega))) ?_
   refine mP 15 [3] [.bool true] ?_
   refine mL 31 16 4 (.agg (x.map bv).toArray) (Calm.load (T := 23) (p := ⟨h.size,0,none⟩) (by kernel_rfl) (Loads.hash (by kernel_rfl) hx m3)) ?_
   refine SimK.eff (i := 5) (D' := 63) (X' := 47) (by kernel_rfl) (by kernel_rfl) (by kernel_rfl) [4] (by kernel_rfl) (Does.call (f := 20) (args := #[.slice none 0 0]) (by kernel_rfl) (troot_sat _ [] none 0 0 (HR.nil _) kt (by decide))) ?_
   rintro _ h13 ⟨rfl,g⟩
   replace e0 := e0.ext g
   replace kt := kt.ext g
   replace m3 := Ext.blk g m3
   replace m8 := Ext.blk g m8
   replace sep := sep.up g.size
   refine ⟨?_,?_⟩
   ·intro j hj
    simp only [List.mem_cons,List.not_mem_nil,or_false] at hj
    subst hj
    exact goodOf (Calm.load (T := 23) (p := ⟨h.size,0,none⟩) (by kernel_rfl) (Loads.hash (by kernel_rfl) hx m3))
   clear g
   refine mF 127 6 (.bool true) (eqHT (q := true) (l := x) (r := root []) (n := 32) (by kernel_rfl) hx (root_len All32.nil) hz2) ?_
   refine mP 1023 [7,8,9] [.bool true,.bool true,nV ni] ?_
   refine m1 2047 10 (.bool false) (.bool (decide ((0 : Int) < ((ni : Nat) : Int)))) (congrArg Value.bool (decide_eq_false (by omega))) ?_
   refine mP 4095 [11] [.bool false] ?_
   refine mL 8191 4112 12 (.agg (x.map bv).toArray) (Calm.load (T := 23) (p := ⟨h.size,0,none⟩) (by kernel_rfl) (Loads.hash (by kernel_rfl) hx m3)) ?_
   refine mL 16383 12304 13 (.agg (t.map bv).toArray) (Calm.load (T := 23) (p := ⟨h1.size,0,none⟩) (by kernel_rfl) (Loads.hash (by kernel_rfl) ht m8)) ?_
   refine mF 32767 14 (.bool true) (eqHT (q := true) (l := x) (r := t) (n := 32) (by kernel_rfl) hx ht hz4) ?_
   refine mP 262143 [15,16,17] [.bool true,.bool true,.bool true] ?_
   refine mD [(10,.bool true)] ?_
   clear hF a; intro a hF
   refine tK ?_
   refine cR ?_
   show retK Tryd.prog Tryd.f14 (fun v h' => v = .bool (consB ((0 : Nat) : Int) (ni : Int) x t r) ∧ Ext h h') .ret a h13
   refine ret_ok [.tmp 10] [.bool true] (.bool true) rfl hF ⟨rfl,trivial⟩ rfl ?_
   exact ⟨by rw [consB_zero,decide_eq_true hz1,decide_eq_true hz2,decide_eq_false hz3,decide_eq_true hz4] <;> first | rfl | simp,e0⟩
  ·skip
   refine cD [0,1,3,7,15,15,63,127,255,511,1023,2047,4095,4095,16383,32767,65535,131071] 4 mixed hF ?_
   refine mP 3 [0,1] [.slice va r.length vc,nV r.length] ?_
   refine m1 7 2 (.bool true) (.bool (((r.length : Nat) : Int) == (0 : Int))) (congrArg Value.bool (beq_iff_eq.2 (by omega))) ?_
   refine mP 15 [3] [.bool true] ?_
   refine mL 31 16 4 (.agg (x.map bv).toArray) (Calm.load (T := 23) (p := ⟨h.size,0,none⟩) (by kernel_rfl) (Loads.hash (by kernel_rfl) hx m3)) ?_
   refine SimK.eff (i := 5) (D' := 63) (X' := 47) (by kernel_rfl) (by kernel_rfl) (by kernel_rfl) [4] (by kernel_rfl) (Does.call (f := 20) (args := #[.slice none 0 0]) (by kernel_rfl) (troot_sat _ [] none 0 0 (HR.nil _) kt (by decide))) ?_
   rintro _ h14 ⟨rfl,g⟩
   replace e0 := e0.ext g
   replace kt := kt.ext g
   replace m3 := Ext.blk g m3
   replace m8 := Ext.blk g m8
   replace sep := sep.up g.size
   refine ⟨?_,?_⟩
   ·intro j hj
    simp only [List.mem_cons,List.not_mem_nil,or_false] at hj
    subst hj
    exact goodOf (Calm.load (T := 23) (p := ⟨h.size,0,none⟩) (by kernel_rfl) (Loads.hash (by kernel_rfl) hx m3))
   clear g
   refine mF 127 6 (.bool true) (eqHT (q := true) (l := x) (r := root []) (n := 32) (by kernel_rfl) hx (root_len All32.nil) hz2) ?_
   refine mP 1023 [7,8,9] [.bool true,.bool true,nV ni] ?_
   refine m1 2047 10 (.bool false) (.bool (decide ((0 : Int) < ((ni : Nat) : Int)))) (congrArg Value.bool (decide_eq_false (by omega))) ?_
   refine mP 4095 [11] [.bool false] ?_
   refine mL 8191 4112 12 (.agg (x.map bv).toArray) (Calm.load (T := 23) (p := ⟨h.size,0,none⟩) (by kernel_rfl) (Loads.hash (by kernel_rfl) hx m3)) ?_
   refine mL 16383 12304 13 (.agg (t.map bv).toArray) (Calm.load (T := 23) (p := ⟨h1.size,0,none⟩) (by kernel_rfl) (Loads.hash (by kernel_rfl) ht m8)) ?_
   refine mF 32767 14 (.bool false) (eqHF (q := true) (l := x) (r := t) (n := 32) (by kernel_rfl) hx ht hz4) ?_
   refine mP 262143 [15,16,17] [.bool false,.bool false,.bool false] ?_
   refine mD [(10,.bool false)] ?_
   clear hF a; intro a hF
   refine tK ?_
   refine cR ?_
   show retK Tryd.prog Tryd.f14 (fun v h' => v = .bool (consB ((0 : Nat) : Int) (ni : Int) x t r) ∧ Ext h h') .ret a h14
   refine ret_ok [.tmp 10] [.bool false] (.bool false) rfl hF ⟨rfl,trivial⟩ rfl ?_
   exact ⟨by rw [consB_zero,decide_eq_true hz1,decide_eq_true hz2,decide_eq_false hz3,decide_eq_false hz4] <;> first | rfl | simp,e0⟩
 ·skip
  refine cP 1 hF ?_
  refine sP 1 [nV mi] ?_
  refine s1 2 (.bool false) (.bool (decide (((mi : Nat) : Int) < (0 : Int)))) (congrArg Value.bool (decide_eq_false (by omega))) ?_
  refine sP 5 [.bool false,nV mi,nV ni] ?_
  refine s1 6 (.bool false) (.bool (decide (((ni : Nat) : Int) < ((mi : Nat) : Int)))) (congrArg Value.bool (decide_eq_false (by omega))) ?_
  refine sP 10 [.bool false,.bool false,.slice va r.length vc,nV r.length] ?_
  refine s1 11 (.bool false) (.bool (decide ((64 : Int) < ((r.length : Nat) : Int)))) (congrArg Value.bool (decide_eq_false (by omega))) ?_
  refine sP 13 [.bool false,.bool false] ?_
  refine sD [(0,nV mi),(1,nV ni),(4,.slice va r.length vc),(7,pV h.size),(8,pV h1.size),(16,.bool false)] ?_
  clear hF a; intro a hF
  refine tK ?_
  refine cF 16 hF ?_
  refine cS ?_
  refine cP 3 hF ?_
  refine sP 1 [nV mi] ?_
  refine s1 2 (.bool false) (.bool (((mi : Nat) : Int) == (0 : Int))) (congrArg Value.bool (beq_eq_false_iff_ne.2 (by omega))) ?_
  refine sP 3 [.bool false] ?_
  refine sD [(0,nV mi),(1,nV ni),(4,.slice va r.length vc),(7,pV h.size),(8,pV h1.size),(29,.bool false)] ?_
  clear hF a; intro a hF
  refine tK ?_
  refine cF 29 hF ?_
  refine cN ?_
  show C Tryd.prog (sub b14 [1,1]) _ a h6
  refine cS ?_
  refine cP 5 hF ?_
  refine sP 1 [.slice va r.length vc] ?_
  refine SeqK.eff (k' := 2) (Does.new (v := .pointer (some ⟨h6.size,0,none⟩)) (o := .cells #[.slice none 0 0] 24) (by kernel_rfl)) rfl ?_
  rintro _ h15 ⟨rfl,hh⟩
  have g16 : Ext h6 h15 := push_ext hh
  have m17 : h15[h6.size]? = some (.cells #[.slice none 0 0] 24) := push_at hh
  clear hh
  have lt18 := blk_lt m17
  have zs19 := e0.size
  have hlo := e0.size
  have sepo := sep
  replace e0 := e0.ext g16
  replace kt := kt.ext g16
  replace m3 := Ext.blk g16 m3
  replace m8 := Ext.blk g16 m8
  replace sep := sep.up g16.size
  replace sep := sepo.new hlo (blk_lt m17)
  clear sepo hlo
  refine SeqK.eff (k' := 3) (Does.store (b := h6.size) (off := 0) (vs := [.slice va r.length vc]) (l := [.slice none 0 0]) (by kernel_rfl) m17 (of_decide_eq_true (by kernel_rfl)) (List.all_eq_true.1 (by kernel_rfl))) rfl ?_
  rintro _ h20 ⟨rfl,hh⟩
  have g21 : Grew (some (h6.size)) h15 h20 := hput_gr hh
  replace m17 : h20[h6.size]? = some (.cells ([.slice va r.length vc]).toArray 24) := hput_at (off := 0) (vs := [.slice va r.length vc]) (l := ([.slice none 0 0])) hh (by kernel_rfl) m17
  clear hh
  replace e0 := e0.grew g21 (sep.low 0 rfl)
  replace kt := kt.grew g21 (sep.zero 0 rfl h0s)
  replace m3 := Grew.blk g21 m3 ((sep.bp 2 0))
  replace m8 := Grew.blk g21 m8 ((sep.bp 1 0))
  replace sep := sep.up g21.size
  refine sD [(0,nV mi),(1,nV ni),(7,pV h.size),(8,pV h1.size),(11,pV h6.size)] ?_
  clear hF a; intro a hF
  refine tK ?_
  refine cS ?_
  refine cP 6 hF ?_
  refine SeqK.eff (k' := 1) (Does.new (v := .pointer (some ⟨h20.size,0,none⟩)) (o := .cells #[.nilFunc] 56) (by kernel_rfl)) rfl ?_
  rintro _ h22 ⟨rfl,hh⟩
  have g23 : Ext h20 h22 := push_ext hh
  have m24 : h22[h20.size]? = some (.cells #[.nilFunc] 56) := push_at hh
  clear hh
  have lt25 := blk_lt m24
  have zs26 := e0.size
  have hlo := e0.size
  have sepo := sep
  replace e0 := e0.ext g23
  replace kt := kt.ext g23
  replace m3 := Ext.blk g23 m3
  replace m8 := Ext.blk g23 m8
  replace m17 := Ext.blk g23 m17
  replace sep := sep.up g23.size
  replace sep := sepo.new hlo (blk_lt m24)
  clear sepo hlo
  refine sD [(0,nV mi),(1,nV ni),(7,pV h.size),(8,pV h1.size),(11,pV h6.size),(12,pV h20.size)] ?_
  clear hF a; intro a hF
  refine tK ?_
  refine cS ?_
  refine cP 7 hF ?_
  refine sP 1 [.func (.func 32) #[] #[pV h.size,pV h6.size,pV h20.size]] ?_
  refine SeqK.eff (k' := 2) (Does.store (b := h20.size) (off := 0) (vs := [.func (.func 32) #[] #[.pointer (some ⟨h.size,0,none⟩),.pointer (some ⟨h6.size,0,none⟩),.pointer (some ⟨h20.size,0,none⟩)]]) (l := [.nilFunc]) (by kernel_rfl) m24 (of_decide_eq_true (by kernel_rfl)) (List.all_eq_true.1 (by kernel_rfl))) rfl ?_
  rintro _ h27 ⟨rfl,hh⟩
  have g28 : Grew (some (h20.size)) h22 h27 := hput_gr hh
  replace m24 : h27[h20.size]? = some (.cells ([.func (.func 32) #[] #[.pointer (some ⟨h.size,0,none⟩),.pointer (some ⟨h6.size,0,none⟩),.pointer (some ⟨h20.size,0,none⟩)]]).toArray 56) := hput_at (off := 0) (vs := [.func (.func 32) #[] #[.pointer (some ⟨h.size,0,none⟩),.pointer (some ⟨h6.size,0,none⟩),.pointer (some ⟨h20.size,0,none⟩)]]) (l := ([.nilFunc])) hh (by kernel_rfl) m24
  clear hh
  replace e0 := e0.grew g28 (sep.low 0 rfl)
  replace kt := kt.grew g28 (sep.zero 0 rfl h0s)
  replace m3 := Grew.blk g28 m3 ((sep.bp 3 0))
  replace m8 := Grew.blk g28 m8 ((sep.bp 2 0))
  replace m17 := Grew.blk g28 m17 ((sep.bp 1 0))
  replace sep := sep.up g28.size
  refine sD [(0,nV mi),(1,nV ni),(7,pV h.size),(8,pV h1.size),(12,pV h20.size)] ?_
  clear hF a; intro a hF
  refine tK ?_
  refine cS ?_
  refine cP 8 hF ?_
  refine sC 1 (.func (.func 32) #[] #[.pointer (some ⟨h.size,0,none⟩),.pointer (some ⟨h6.size,0,none⟩),.pointer (some ⟨h20.size,0,none⟩)]) (Calm.load (T := 56) (p := ⟨h20.size,0,none⟩) (by kernel_rfl) (Loads.one (k := 1) (by kernel_rfl) ((hcell_blk m24).trans rfl))) ?_
  refine sP 3 [nV mi,nV ni] ?_
  have sepq : Sep h.size h27.size [some (h.size),some (h6.size),some (h20.size)] := sep.pick3' 3 1 0 rfl rfl rfl (by decide) (by decide) (by decide)
  refine SeqK.eff (k' := 4) (Does.call (f := 32) (args := #[.int .i64 ((mi : Nat) : Int),.int .i64 ((ni : Nat) : Int),.bool true,.pointer (some ⟨h.size,0,none⟩),.pointer (some ⟨h6.size,0,none⟩),.pointer (some ⟨h20.size,0,none⟩)]) (by kernel_rfl) (wayc_all h (h.size) (h6.size) (h20.size) x va vc hx h0s r.length _ mi ni r true (Nat.le_refl _) hrl m3 m17 m24 hr hz0 sepq e0 kt hmi0 hmn (by omega))) rfl ?_
  rintro _ h29 ⟨X3,Y3,rfl,hX3,hY3,hXY,hl3,r3,hm3,hu3,g3,e3,kt3⟩
  replace m8 := Grew.blk g3 m8 (sep.bp 2 1)
  have sepo := sep; clear sep sepq e0 kt m3 m17 m24; have m3 := hl3; have sep := sepo.up g3.size; have e0 := e3; have kt := kt3; clear e3 kt3 hl3 hm3 hu3 g3 sepo
  refine sP 8 [.tuple #[.agg (X3.map bv).toArray,.agg (Y3.map bv).toArray,.bool ((twV x mi ni r true).2.2)],.agg (X3.map bv).toArray,.agg (Y3.map bv).toArray,.bool ((twV x mi ni r true).2.2)] ?_
  refine SeqK.eff (k' := 9) (Does.new (v := .pointer (some ⟨h29.size,0,none⟩)) (o := .cells (z32.map bv).toArray 23) (by kernel_rfl)) rfl ?_
  rintro _ h30 ⟨rfl,hh⟩
  have g31 : Ext h29 h30 := push_ext hh
  have m32 : h30[h29.size]? = some (.cells (z32.map bv).toArray 23) := push_at hh
  clear hh
  have lt33 := blk_lt m32
  have zs34 := e0.size
  have hlo := e0.size
  have sepo := sep
  replace e0 := e0.ext g31
  replace kt := kt.ext g31
  replace m3 := Ext.blk g31 m3
  replace m8 := Ext.blk g31 m8
  replace sep := sep.up g31.size
  replace sep := sepo.new hlo (blk_lt m32)
  clear sepo hlo
  refine SeqK.eff (k' := 10) (Does.new (v := .pointer (some ⟨h30.size,0,none⟩)) (o := .cells (z32.map bv).toArray 23) (by kernel_rfl)) rfl ?_
  rintro _ h35 ⟨rfl,hh⟩
  have g36 : Ext h30 h35 := push_ext hh
  have m37 : h35[h30.size]? = some (.cells (z32.map bv).toArray 23) := push_at hh
  clear hh
  have lt38 := blk_lt m37
  have zs39 := e0.size
  have hlo := e0.size
  have sepo := sep
  replace e0 := e0.ext g36
  replace kt := kt.ext g36
  replace m3 := Ext.blk g36 m3
  replace m8 := Ext.blk g36 m8
  replace m32 := Ext.blk g36 m32
  replace sep := sep.up g36.size
  replace sep := sepo.new hlo (blk_lt m37)
  clear sepo hlo
  refine SeqK.eff (k' := 11) (Does.store (b := h29.size) (off := 0) (vs := X3.map bv) (l := z32.map bv) (storeOp_of (by kernel_rfl) (hlm hX3)) m32 (hfit rfl hX3) (ones_map _)) rfl ?_
  rintro _ h40 ⟨rfl,hh⟩
  have g41 : Grew (some (h29.size)) h35 h40 := hput_gr hh
  replace m32 : h40[h29.size]? = some (.cells (X3.map bv).toArray 23) := hput_at (off := 0) (vs := X3.map bv) (l := (z32.map bv)) hh (hsplice rfl hX3) m32
  clear hh
  replace e0 := e0.grew g41 (sep.low 1 rfl)
  replace kt := kt.grew g41 (sep.zero 1 rfl h0s)
  replace m3 := Grew.blk g41 m3 ((sep.bp 5 1))
  replace m8 := Grew.blk g41 m8 ((sep.bp 4 1))
  replace m37 := Grew.blk g41 m37 ((sep.bp 0 1))
  replace sep := sep.up g41.size
  refine SeqK.eff (k' := 12) (Does.store (b := h30.size) (off := 0) (vs := Y3.map bv) (l := z32.map bv) (storeOp_of (by kernel_rfl) (hlm hY3)) m37 (hfit rfl hY3) (ones_map _)) rfl ?_
  rintro _ h42 ⟨rfl,hh⟩
  have g43 : Grew (some (h30.size)) h40 h42 := hput_gr hh
  replace m37 : h42[h30.size]? = some (.cells (Y3.map bv).toArray 23) := hput_at (off := 0) (vs := Y3.map bv) (l := (z32.map bv)) hh (hsplice rfl hY3) m37
  clear hh
  replace e0 := e0.grew g43 (sep.low 0 rfl)
  replace kt := kt.grew g43 (sep.zero 0 rfl h0s)
  replace m3 := Grew.blk g43 m3 ((sep.bp 5 0))
  replace m8 := Grew.blk g43 m8 ((sep.bp 4 0))
  replace m32 := Grew.blk g43 m32 ((sep.bp 1 0))
  replace sep := sep.up g43.size
  refine sP 13 [.bool ((twV x mi ni r true).2.2)] ?_
  refine sD [(7,pV h.size),(8,pV h1.size),(13,pV h29.size),(14,pV h30.size),(15,.bool ((twV x mi ni r true).2.2))] ?_
  clear hF a; intro a hF
  refine tK ?_
  refine cS ?_
  cases hok : (twV x mi ni r true).2.2
  all_goals rw [hok] at hF
  rotate_left 1
  rcases Decidable.em (X3 = x) with hxx | hxx
  rotate_left 2
  ·skip
   refine cP 9 hF ?_
   refine sP 12 [.bool false,.bool false,undef,undef,undef,.bool false,.bool false,undef,undef,undef,.bool false,.bool false] ?_
   refine sD [(10,.bool false)] ?_
   clear hF a; intro a hF
   refine tK ?_
   refine cR ?_
   show retK Tryd.prog Tryd.f14 (fun v h' => v = .bool (consB (mi : Int) (ni : Int) x t r) ∧ Ext h h') .ret a h42
   refine ret_ok [.tmp 10] [.bool false] (.bool false) rfl hF ⟨rfl,trivial⟩ rfl ?_
   exact ⟨by rw [consB_yes hmi0 hmn,hok] <;> first | rfl | simp,e0⟩
  ·skip
   refine cP 9 hF ?_
   refine sP 2 [.bool true,.bool true] ?_
   refine sC 3 (.agg (X3.map bv).toArray) (Calm.load (T := 23) (p := ⟨h29.size,0,none⟩) (by kernel_rfl) (Loads.hash (by kernel_rfl) hX3 m32)) ?_
   refine sC 4 (.agg (x.map bv).toArray) (Calm.load (T := 23) (p := ⟨h.size,0,none⟩) (by kernel_rfl) (Loads.hash (by kernel_rfl) hx m3)) ?_
   refine sC 5 (.bool true) ((eqHT (q := true) (l := X3) (r := x) (n := 32) (by kernel_rfl) hX3 hx hxx) _) ?_
   refine sP 7 [.bool true,.bool true] ?_
   refine sC 8 (.agg (Y3.map bv).toArray) (Calm.load (T := 23) (p := ⟨h30.size,0,none⟩) (by kernel_rfl) (Loads.hash (by kernel_rfl) hY3 m37)) ?_
   refine sC 9 (.agg (t.map bv).toArray) (Calm.load (T := 23) (p := ⟨h1.size,0,none⟩) (by kernel_rfl) (Loads.hash (by kernel_rfl) ht m8)) ?_
   refine sC 10 (.bool (decide (Y3 = t))) ((eqH1 (l := Y3) (r := t) (n := 32) (by kernel_rfl) hY3 ht) _) ?_
   refine sP 12 [.bool (decide (Y3 = t)),.bool (decide (Y3 = t))] ?_
   refine sD [(10,.bool (decide (Y3 = t)))] ?_
   clear hF a; intro a hF
   refine tK ?_
   refine cR ?_
   show retK Tryd.prog Tryd.f14 (fun v h' => v = .bool (consB (mi : Int) (ni : Int) x t r) ∧ Ext h h') .ret a h42
   refine ret_ok [.tmp 10] [.bool (decide (Y3 = t))] (.bool (decide (Y3 = t))) rfl hF ⟨rfl,trivial⟩ rfl ?_
   exact ⟨by rw [consB_yes hmi0 hmn,hok,← (hXY hok).1,← (hXY hok).2,decide_eq_true hxx] <;> first | rfl | simp,e0⟩
  ·skip
   refine cP 9 hF ?_
   refine sP 2 [.bool true,.bool true] ?_
   refine sC 3 (.agg (X3.map bv).toArray) (Calm.load (T := 23) (p := ⟨h29.size,0,none⟩) (by kernel_rfl) (Loads.hash (by kernel_rfl) hX3 m32)) ?_
   refine sC 4 (.agg (x.map bv).toArray) (Calm.load (T := 23) (p := ⟨h.size,0,none⟩) (by kernel_rfl) (Loads.hash (by kernel_rfl) hx m3)) ?_
   refine sC 5 (.bool false) ((eqHF (q := true) (l := X3) (r := x) (n := 32) (by kernel_rfl) hX3 hx hxx) _) ?_
   refine sP 12 [.bool false,.bool false,undef,undef,undef,.bool false,.bool false] ?_
   refine sD [(10,.bool false)] ?_
   clear hF a; intro a hF
   refine tK ?_
   refine cR ?_
   show retK Tryd.prog Tryd.f14 (fun v h' => v = .bool (consB (mi : Int) (ni : Int) x t r) ∧ Ext h h') .ret a h42
   refine ret_ok [.tmp 10] [.bool false] (.bool false) rfl hF ⟨rfl,trivial⟩ rfl ?_
   exact ⟨by rw [consB_yes hmi0 hmn,hok,← (hXY hok).1,← (hXY hok).2,decide_eq_false hxx] <;> first | rfl | simp,e0⟩
end Go.Proofs.YteinikjbaaembaaDoor
