/- Walks of trees of hashes: what each function computes, as a law of its calls. No condition but those that each theorem names. -/
import Derived.Test.YtkjlafiefgbjpaaDoorTreeMath
import Derived.Test.YtkjlafiefgbjpaaDoorRefC
namespace Go.Proofs.YtkjlafiefgbjpaaDoor
open Go Go.Lane Go.Sha
noncomputable def b24 : Code := Tryd.f24.body.getD .skip
theorem leaf_sat (h : Heap) (l : List UInt8) (va : Option Addr) (vc : Nat) (hr : Row h (.slice va l.length vc) l.length 1 (l.map bv)) (hlt : l = [] ∨ ∀ k,blkOf (.slice va l.length vc) = some k → k < h.size) (kt : Ktab h) (hn : l.length ≤ 1099511627000) : Sat Tryd.prog 24 #[.slice va l.length vc] h fun v h' => v = hv (leafH l) ∧ Ext h h' := by
 have e0 := Ext.refl h
 have h0s := kt.lt
 have sep : Sep h.size h.size [] := Sep.nil _ _
 refine sat_of (args := [.slice va l.length vc]) (fn := Tryd.f24) (B := b24) (n := 13) (L := [(0,.slice va l.length vc)]) Tryd.func24 rfl (by kernel_rfl) rfl ?_
 intro a hF
 refine cS ?_
 refine cP 0 hF ?_
 refine SeqK.eff (k' := 1) (Does.new (v := .pointer (some ⟨h.size,0,none⟩)) (o := .cells (z32.map bv).toArray 31) (by kernel_rfl)) rfl ?_
 rintro _ h1 ⟨rfl,hh⟩
 have g2 : Ext h h1 := push_ext hh
 have m3 : h1[h.size]? = some (.cells (z32.map bv).toArray 31) := push_at hh
 clear hh
 have lt4 := blk_lt m3
 have zs5 := e0.size
 have hlo := e0.size
 have sepo := sep
 replace e0 := e0.ext g2
 replace kt := kt.ext g2
 replace sep := sep.up g2.size
 replace sep := sepo.new hlo (blk_lt m3)
 clear sepo hlo
 refine sD [(0,.slice va l.length vc),(2,pV h.size)] ?_
 clear hF a; intro a hF
 refine tK ?_
 refine cS ?_
 refine cP 1 hF ?_
 refine SeqK.eff (k' := 1) (Does.call (f := 39) (args := #[]) (by kernel_rfl) (new_l _)) rfl ?_
 rintro _ h6 ⟨b_s,rfl,hs_s,hge,g⟩
 have hlo := e0.size
 have sepo := sep
 replace e0 := e0.ext g
 replace kt := kt.ext g
 replace m3 := Ext.blk g m3
 replace sep := sep.up g.size
 have hlt := hs_s.lt.1
 replace sep := (sepo.cons (x := some b_s) g.size (by omega) (fun k e => by cases e; exact ⟨hge,hlt⟩)).none (by omega)
 clear hge hlo hlt g sepo
 refine sP 2 [pV b_s] ?_
 refine sD [(0,.slice va l.length vc),(2,pV h.size),(3,pV b_s)] ?_
 clear hF a; intro a hF
 refine tK ?_
 refine cS ?_
 refine cP 2 hF ?_
 refine sP 1 [pV b_s] ?_
 refine SeqK.eff (k' := 2) (Does.new (v := .slice (some ⟨h6.size,0,none⟩) 1 1) (o := .cells #[.int .u8 0] 5) (by kernel_rfl)) rfl ?_
 rintro _ h7 ⟨rfl,hh⟩
 have g8 : Ext h6 h7 := push_ext hh
 have m9 : h7[h6.size]? = some (.cells #[.int .u8 0] 5) := push_at hh
 clear hh
 have lt10 := blk_lt m9
 have zs11 := e0.size
 have hlo := e0.size
 have sepo := sep
 replace e0 := e0.ext g8
 replace kt := kt.ext g8
 replace hs_s := hs_s.ext g8
 replace m3 := Ext.blk g8 m3
 replace sep := sep.up g8.size
 replace sep := sepo.new hlo (blk_lt m9)
 clear sepo hlo
 refine SeqK.eff (k' := 3) (Does.call (f := 40) (args := #[.pointer (some ⟨b_s,0,none⟩),.slice (some ⟨h6.size,0,none⟩) 1 1]) (by kernel_rfl) (write_l _ b_s none ([]) ([0]) _ _ hs_s (Row.blk (l := ([0] : List UInt8).map bv) m9 rfl) (.inr (sep.bp 0 2)) (by have := sep.low 2 rfl _ rfl; omega) (fun e => sep.zero 1 rfl h0s e.symm) kt (by decide))) rfl ?_
 rintro _ h13 ⟨o12,hs',ho',g⟩
 have hlo := e0.size
 replace e0 := Gr.toExt e0 g (sep.lowF 2 1 rfl rfl)
 replace kt := kt.gr g (sep.zeroF 2 1 rfl rfl h0s)
 replace hs_s : StL h13 b_s o12 ([0]) := (by first | exact hs' | simpa using hs')
 replace m3 := g.blk m3 ((sep.gF 3 2 1 rfl rfl rfl (by decide) (by decide)) _ rfl)
 replace m9 := g.blk m9 ((sep.gF 0 2 1 rfl rfl rfl (by decide) (by decide)) _ rfl)
 replace sep := sep.set g.1 hlo 1 (y := o12) rfl (ho'.imp id .inr) (fun k e => hs'.lt.2 k e)
 replace sep : Sep h.size h13.size [some (h6.size),o12,b_s,some (h.size)] := sep
 clear hs' ho' g hlo
 refine sD [(0,.slice va l.length vc),(2,pV h.size),(3,pV b_s)] ?_
 clear hF a; intro a hF
 refine tK ?_
 refine cS ?_
 refine cP 3 hF ?_
 refine sP 2 [pV b_s,.slice va l.length vc] ?_
 refine SeqK.eff (k' := 3) (Does.call (f := 40) (args := #[.pointer (some ⟨b_s,0,none⟩),.slice va l.length vc]) (by kernel_rfl) (write_l _ b_s o12 ([0]) l _ _ hs_s (hr.ext e0) (hlt.imp id fun hl e => by have := hl _ e; have := sep.low 2 rfl _ rfl; omega) (by have := sep.low 2 rfl _ rfl; omega) (fun e => sep.zero 1 rfl h0s e.symm) kt (by simp; omega))) rfl ?_
 rintro _ h15 ⟨o14,hs',ho',g⟩
 have hlo := e0.size
 replace e0 := Gr.toExt e0 g (sep.lowF 2 1 rfl rfl)
 replace kt := kt.gr g (sep.zeroF 2 1 rfl rfl h0s)
 replace hs_s : StL h15 b_s o14 ([0] ++ l) := (by first | exact hs' | simpa using hs')
 replace m3 := g.blk m3 ((sep.gF 3 2 1 rfl rfl rfl (by decide) (by decide)) _ rfl)
 replace m9 := g.blk m9 ((sep.gF 0 2 1 rfl rfl rfl (by decide) (by decide)) _ rfl)
 replace sep := sep.set g.1 hlo 1 (y := o14) rfl (ho'.imp id .inr) (fun k e => hs'.lt.2 k e)
 replace sep : Sep h.size h15.size [some (h6.size),o14,b_s,some (h.size)] := sep
 clear hs' ho' g hlo
 refine sD [(2,pV h.size),(3,pV b_s)] ?_
 clear hF a; intro a hF
 refine tK ?_
 refine cS ?_
 refine cP 4 hF ?_
 refine sP 1 [pV b_s] ?_
 refine SeqK.eff (k' := 2) (Does.call (f := 41) (args := #[.pointer (some ⟨b_s,0,none⟩)]) (by kernel_rfl) (sum_l _ b_s o14 ([0] ++ l) hs_s kt (by simp <;> omega))) rfl ?_
 rintro _ h16 ⟨rfl,g⟩
 replace e0 := e0.ext g
 replace kt := kt.ext g
 replace hs_s := hs_s.ext g
 replace m3 := Ext.blk g m3
 replace m9 := Ext.blk g m9
 replace sep := sep.up g.size
 clear g
 refine SeqK.eff (k' := 3) (Does.store (b := h.size) (off := 0) (vs := (sha ([0] ++ l)).map bv) (l := z32.map bv) (storeOp_of (by kernel_rfl) (hlm rfl)) m3 (hfit rfl rfl) (ones_map _)) rfl ?_
 rintro _ h17 ⟨rfl,hh⟩
 have g18 : Grew (some (h.size)) h16 h17 := hput_gr hh
 replace m3 : h17[h.size]? = some (.cells ((sha ([0] ++ l)).map bv).toArray 31) := hput_at (off := 0) (vs := (sha ([0] ++ l)).map bv) (l := (z32.map bv)) hh (hsplice rfl rfl) m3
 clear hh
 replace e0 := e0.grew g18 (sep.low 3 rfl)
 replace kt := kt.grew g18 (sep.zero 3 rfl h0s)
 replace hs_s := hs_s.put g18 (sep.bp 2 3) (sep.ap 1 3)
 replace m9 := Grew.blk g18 m9 ((sep.bp 0 3))
 replace sep := sep.up g18.size
 refine sD [(2,pV h.size)] ?_
 clear hF a; intro a hF
 refine tK ?_
 refine cR ?_
 show retK Tryd.prog Tryd.f24 (fun v h' => v = hv (leafH l) ∧ Ext h h') .ret a h17
 refine ret_ok [.cell 2 31] [.agg ((sha ([0] ++ l)).map bv).toArray] (.agg ((sha ([0] ++ l)).map bv).toArray) rfl hF ⟨⟨_,rfl,Loads.hash (by kernel_rfl) rfl m3⟩,trivial⟩ rfl ?_
 exact ⟨rfl,e0⟩
noncomputable def b38 : Code := Tryd.f38.body.getD .skip
theorem node_sat (h : Heap) (x y : Hs) (hx : x.length = 32) (hy : y.length = 32) (kt : Ktab h) : Sat Tryd.prog 38 #[.agg (x.map bv).toArray,.agg (y.map bv).toArray] h fun v h' => v = hv (nodeH x y) ∧ Ext h h' := by
 have e0 := Ext.refl h
 have h0s := kt.lt
 have sep : Sep h.size h.size [] := Sep.nil _ _
 refine sat_of (args := [.agg (x.map bv).toArray,.agg (y.map bv).toArray]) (fn := Tryd.f38) (B := b38) (n := 18) (L := [(0,.agg (x.map bv).toArray),(1,.agg (y.map bv).toArray)]) Tryd.func38 rfl (by kernel_rfl) rfl ?_
 intro a hF
 refine cS ?_
 refine cP 0 hF ?_
 refine SeqK.eff (k' := 1) (Does.new (v := .pointer (some ⟨h.size,0,none⟩)) (o := .cells (x.map bv).toArray 31) (by kernel_rfl)) rfl ?_
 rintro _ h1 ⟨rfl,hh⟩
 have g2 : Ext h h1 := push_ext hh
 have m3 : h1[h.size]? = some (.cells (x.map bv).toArray 31) := push_at hh
 clear hh
 have lt4 := blk_lt m3
 have zs5 := e0.size
 have hlo := e0.size
 have sepo := sep
 replace e0 := e0.ext g2
 replace kt := kt.ext g2
 replace sep := sep.up g2.size
 replace sep := sepo.new hlo (blk_lt m3)
 clear sepo hlo
 refine SeqK.eff (k' := 2) (Does.new (v := .pointer (some ⟨h1.size,0,none⟩)) (o := .cells (y.map bv).toArray 31) (by kernel_rfl)) rfl ?_
 rintro _ h6 ⟨rfl,hh⟩
 have g7 : Ext h1 h6 := push_ext hh
 have m8 : h6[h1.size]? = some (.cells (y.map bv).toArray 31) := push_at hh
 clear hh
 have lt9 := blk_lt m8
 have zs10 := e0.size
 have hlo := e0.size
 have sepo := sep
 replace e0 := e0.ext g7
 replace kt := kt.ext g7
 replace m3 := Ext.blk g7 m3
 replace sep := sep.up g7.size
 replace sep := sepo.new hlo (blk_lt m8)
 clear sepo hlo
 refine SeqK.eff (k' := 3) (Does.new (v := .pointer (some ⟨h6.size,0,none⟩)) (o := .cells (z32.map bv).toArray 31) (by kernel_rfl)) rfl ?_
 rintro _ h11 ⟨rfl,hh⟩
 have g12 : Ext h6 h11 := push_ext hh
 have m13 : h11[h6.size]? = some (.cells (z32.map bv).toArray 31) := push_at hh
 clear hh
 have lt14 := blk_lt m13
 have zs15 := e0.size
 have hlo := e0.size
 have sepo := sep
 replace e0 := e0.ext g12
 replace kt := kt.ext g12
 replace m3 := Ext.blk g12 m3
 replace m8 := Ext.blk g12 m8
 replace sep := sep.up g12.size
 replace sep := sepo.new hlo (blk_lt m13)
 clear sepo hlo
 refine sD [(2,pV h.size),(3,pV h1.size),(4,pV h6.size)] ?_
 clear hF a; intro a hF
 refine tK ?_
 refine cS ?_
 refine cP 1 hF ?_
 refine SeqK.eff (k' := 1) (Does.call (f := 39) (args := #[]) (by kernel_rfl) (new_l _)) rfl ?_
 rintro _ h16 ⟨b_s,rfl,hs_s,hge,g⟩
 have hlo := e0.size
 have sepo := sep
 replace e0 := e0.ext g
 replace kt := kt.ext g
 replace m3 := Ext.blk g m3
 replace m8 := Ext.blk g m8
 replace m13 := Ext.blk g m13
 replace sep := sep.up g.size
 have hlt := hs_s.lt.1
 replace sep := (sepo.cons (x := some b_s) g.size (by omega) (fun k e => by cases e; exact ⟨hge,hlt⟩)).none (by omega)
 clear hge hlo hlt g sepo
 refine sP 2 [pV b_s] ?_
 refine sD [(2,pV h.size),(3,pV h1.size),(4,pV h6.size),(5,pV b_s)] ?_
 clear hF a; intro a hF
 refine tK ?_
 refine cS ?_
 refine cP 2 hF ?_
 refine sP 1 [pV b_s] ?_
 refine SeqK.eff (k' := 2) (Does.new (v := .slice (some ⟨h16.size,0,none⟩) 1 1) (o := .cells #[.int .u8 1] 5) (by kernel_rfl)) rfl ?_
 rintro _ h17 ⟨rfl,hh⟩
 have g18 : Ext h16 h17 := push_ext hh
 have m19 : h17[h16.size]? = some (.cells #[.int .u8 1] 5) := push_at hh
 clear hh
 have lt20 := blk_lt m19
 have zs21 := e0.size
 have hlo := e0.size
 have sepo := sep
 replace e0 := e0.ext g18
 replace kt := kt.ext g18
 replace hs_s := hs_s.ext g18
 replace m3 := Ext.blk g18 m3
 replace m8 := Ext.blk g18 m8
 replace m13 := Ext.blk g18 m13
 replace sep := sep.up g18.size
 replace sep := sepo.new hlo (blk_lt m19)
 clear sepo hlo
 refine SeqK.eff (k' := 3) (Does.call (f := 40) (args := #[.pointer (some ⟨b_s,0,none⟩),.slice (some ⟨h16.size,0,none⟩) 1 1]) (by kernel_rfl) (write_l _ b_s none ([]) ([1]) _ _ hs_s (Row.blk (l := ([1] : List UInt8).map bv) m19 rfl) (.inr (sep.bp 0 2)) (by have := sep.low 2 rfl _ rfl; omega) (fun e => sep.zero 1 rfl h0s e.symm) kt (by decide))) rfl ?_
 rintro _ h23 ⟨o22,hs',ho',g⟩
 have hlo := e0.size
 replace e0 := Gr.toExt e0 g (sep.lowF 2 1 rfl rfl)
 replace kt := kt.gr g (sep.zeroF 2 1 rfl rfl h0s)
 replace hs_s : StL h23 b_s o22 ([1]) := (by first | exact hs' | simpa using hs')
 replace m3 := g.blk m3 ((sep.gF 5 2 1 rfl rfl rfl (by decide) (by decide)) _ rfl)
 replace m8 := g.blk m8 ((sep.gF 4 2 1 rfl rfl rfl (by decide) (by decide)) _ rfl)
 replace m13 := g.blk m13 ((sep.gF 3 2 1 rfl rfl rfl (by decide) (by decide)) _ rfl)
 replace m19 := g.blk m19 ((sep.gF 0 2 1 rfl rfl rfl (by decide) (by decide)) _ rfl)
 replace sep := sep.set g.1 hlo 1 (y := o22) rfl (ho'.imp id .inr) (fun k e => hs'.lt.2 k e)
 replace sep : Sep h.size h23.size [some (h16.size),o22,b_s,some (h6.size),some (h1.size),some (h.size)] := sep
 clear hs' ho' g hlo
 refine sD [(2,pV h.size),(3,pV h1.size),(4,pV h6.size),(5,pV b_s)] ?_
 clear hF a; intro a hF
 refine tK ?_
 refine cS ?_
 refine cP 3 hF ?_
 refine sP 2 [pV b_s,.slice (some ⟨h.size,0,none⟩) 32 32] ?_
 refine SeqK.eff (k' := 3) (Does.call (f := 40) (args := #[.pointer (some ⟨b_s,0,none⟩),.slice (some ⟨h.size,0,none⟩) 32 32]) (by kernel_rfl) (write_n _ b_s o22 ([1]) x _ _ _ hs_s (hrow hx m3) hx (.inr (sep.bp 5 2)) (by have := sep.low 2 rfl _ rfl; omega) (fun e => sep.zero 1 rfl h0s e.symm) kt (by simp <;> omega))) rfl ?_
 rintro _ h25 ⟨o24,hs',ho',g⟩
 have hlo := e0.size
 replace e0 := Gr.toExt e0 g (sep.lowF 2 1 rfl rfl)
 replace kt := kt.gr g (sep.zeroF 2 1 rfl rfl h0s)
 replace hs_s : StL h25 b_s o24 ([1] ++ x) := (by first | exact hs' | simpa using hs')
 replace m3 := g.blk m3 ((sep.gF 5 2 1 rfl rfl rfl (by decide) (by decide)) _ rfl)
 replace m8 := g.blk m8 ((sep.gF 4 2 1 rfl rfl rfl (by decide) (by decide)) _ rfl)
 replace m13 := g.blk m13 ((sep.gF 3 2 1 rfl rfl rfl (by decide) (by decide)) _ rfl)
 replace m19 := g.blk m19 ((sep.gF 0 2 1 rfl rfl rfl (by decide) (by decide)) _ rfl)
 replace sep := sep.set g.1 hlo 1 (y := o24) rfl (ho'.imp id .inr) (fun k e => hs'.lt.2 k e)
 replace sep : Sep h.size h25.size [some (h16.size),o24,b_s,some (h6.size),some (h1.size),some (h.size)] := sep
 clear hs' ho' g hlo
 refine sD [(3,pV h1.size),(4,pV h6.size),(5,pV b_s)] ?_
 clear hF a; intro a hF
 refine tK ?_
 refine cS ?_
 refine cP 4 hF ?_
 refine sP 2 [pV b_s,.slice (some ⟨h1.size,0,none⟩) 32 32] ?_
 refine SeqK.eff (k' := 3) (Does.call (f := 40) (args := #[.pointer (some ⟨b_s,0,none⟩),.slice (some ⟨h1.size,0,none⟩) 32 32]) (by kernel_rfl) (write_n _ b_s o24 ([1] ++ x) y _ _ _ hs_s (hrow hy m8) hy (.inr (sep.bp 4 2)) (by have := sep.low 2 rfl _ rfl; omega) (fun e => sep.zero 1 rfl h0s e.symm) kt (by simp <;> omega))) rfl ?_
 rintro _ h27 ⟨o26,hs',ho',g⟩
 have hlo := e0.size
 replace e0 := Gr.toExt e0 g (sep.lowF 2 1 rfl rfl)
 replace kt := kt.gr g (sep.zeroF 2 1 rfl rfl h0s)
 replace hs_s : StL h27 b_s o26 ([1] ++ x ++ y) := (by first | exact hs' | simpa using hs')
 replace m3 := g.blk m3 ((sep.gF 5 2 1 rfl rfl rfl (by decide) (by decide)) _ rfl)
 replace m8 := g.blk m8 ((sep.gF 4 2 1 rfl rfl rfl (by decide) (by decide)) _ rfl)
 replace m13 := g.blk m13 ((sep.gF 3 2 1 rfl rfl rfl (by decide) (by decide)) _ rfl)
 replace m19 := g.blk m19 ((sep.gF 0 2 1 rfl rfl rfl (by decide) (by decide)) _ rfl)
 replace sep := sep.set g.1 hlo 1 (y := o26) rfl (ho'.imp id .inr) (fun k e => hs'.lt.2 k e)
 replace sep : Sep h.size h27.size [some (h16.size),o26,b_s,some (h6.size),some (h1.size),some (h.size)] := sep
 clear hs' ho' g hlo
 refine sD [(4,pV h6.size),(5,pV b_s)] ?_
 clear hF a; intro a hF
 refine tK ?_
 refine cS ?_
 refine cP 5 hF ?_
 refine sP 1 [pV b_s] ?_
 refine SeqK.eff (k' := 2) (Does.call (f := 41) (args := #[.pointer (some ⟨b_s,0,none⟩)]) (by kernel_rfl) (sum_l _ b_s o26 ([1] ++ x ++ y) hs_s kt (by simp <;> omega))) rfl ?_
 rintro _ h28 ⟨rfl,g⟩
 replace e0 := e0.ext g
 replace kt := kt.ext g
 replace hs_s := hs_s.ext g
 replace m3 := Ext.blk g m3
 replace m8 := Ext.blk g m8
 replace m13 := Ext.blk g m13
 replace m19 := Ext.blk g m19
 replace sep := sep.up g.size
 clear g
 refine SeqK.eff (k' := 3) (Does.store (b := h6.size) (off := 0) (vs := (sha ([1] ++ x ++ y)).map bv) (l := z32.map bv) (storeOp_of (by kernel_rfl) (hlm rfl)) m13 (hfit rfl rfl) (ones_map _)) rfl ?_
 rintro _ h29 ⟨rfl,hh⟩
 have g30 : Grew (some (h6.size)) h28 h29 := hput_gr hh
 replace m13 : h29[h6.size]? = some (.cells ((sha ([1] ++ x ++ y)).map bv).toArray 31) := hput_at (off := 0) (vs := (sha ([1] ++ x ++ y)).map bv) (l := (z32.map bv)) hh (hsplice rfl rfl) m13
 clear hh
 replace e0 := e0.grew g30 (sep.low 3 rfl)
 replace kt := kt.grew g30 (sep.zero 3 rfl h0s)
 replace hs_s := hs_s.put g30 (sep.bp 2 3) (sep.ap 1 3)
 replace m3 := Grew.blk g30 m3 ((sep.bp 5 3))
 replace m8 := Grew.blk g30 m8 ((sep.bp 4 3))
 replace m19 := Grew.blk g30 m19 ((sep.bp 0 3))
 replace sep := sep.up g30.size
 refine sD [(4,pV h6.size)] ?_
 clear hF a; intro a hF
 refine tK ?_
 refine cR ?_
 show retK Tryd.prog Tryd.f38 (fun v h' => v = hv (nodeH x y) ∧ Ext h h') .ret a h29
 refine ret_ok [.cell 4 31] [.agg ((sha ([1] ++ x ++ y)).map bv).toArray] (.agg ((sha ([1] ++ x ++ y)).map bv).toArray) rfl hF ⟨⟨_,rfl,Loads.hash (by kernel_rfl) rfl m13⟩,trivial⟩ rfl ?_
 exact ⟨rfl,e0⟩
theorem rsum_n (h : Heap) (l : List UInt8) (n : Nat) (va : Option Addr) (vc : Nat) (hr : Row h (.slice va n vc) n 1 (l.map bv)) (hl : l.length = n) (hn : l.length ≤ 1099511627776) : Sat Tryd.prog 26 #[.slice va n vc] h fun v h' => v = hv (sha l) ∧ Ext h h' := by
 subst hl; exact rsum_sat h l va vc hr hn
noncomputable def b16 : Code := Tryd.f16.body.getD .skip
theorem rleaf_sat (h : Heap) (l : List UInt8) (va : Option Addr) (vc : Nat) (hr : Row h (.slice va l.length vc) l.length 1 (l.map bv)) (hn : l.length ≤ 1099511627000) : Sat Tryd.prog 16 #[.slice va l.length vc] h fun v h' => v = hv (leafH l) ∧ Ext h h' := by
 have e0 := Ext.refl h
 have sep : Sep h.size h.size [] := Sep.nil _ _
 refine sat_of (args := [.slice va l.length vc]) (fn := Tryd.f16) (B := b16) (n := 7) (L := [(0,.slice va l.length vc)]) Tryd.func16 rfl (by kernel_rfl) rfl ?_
 intro a hF
 refine cS ?_
 refine cP 0 hF ?_
 refine SeqK.eff (k' := 1) (Does.new (v := .pointer (some ⟨h.size,0,none⟩)) (o := .cells (z32.map bv).toArray 31) (by kernel_rfl)) rfl ?_
 rintro _ h1 ⟨rfl,hh⟩
 have g2 : Ext h h1 := push_ext hh
 have m3 : h1[h.size]? = some (.cells (z32.map bv).toArray 31) := push_at hh
 clear hh
 have lt4 := blk_lt m3
 have zs5 := e0.size
 have hlo := e0.size
 have sepo := sep
 replace e0 := e0.ext g2
 replace sep := sep.up g2.size
 replace sep := sepo.new hlo (blk_lt m3)
 clear sepo hlo
 refine sD [(0,.slice va l.length vc),(2,pV h.size)] ?_
 clear hF a; intro a hF
 refine tK ?_
 refine cS ?_
 refine cP 1 hF ?_
 refine SeqK.eff (k' := 1) (Does.new (v := .slice (some ⟨h1.size,0,none⟩) 1 1) (o := .cells #[.int .u8 0] 5) (by kernel_rfl)) rfl ?_
 rintro _ h6 ⟨rfl,hh⟩
 have g7 : Ext h1 h6 := push_ext hh
 have m8 : h6[h1.size]? = some (.cells #[.int .u8 0] 5) := push_at hh
 clear hh
 have lt9 := blk_lt m8
 have zs10 := e0.size
 have hlo := e0.size
 have sepo := sep
 replace e0 := e0.ext g7
 replace m3 := Ext.blk g7 m3
 replace sep := sep.up g7.size
 replace sep := sepo.new hlo (blk_lt m8)
 clear sepo hlo
 refine sP 2 [.slice va l.length vc] ?_
 have own_t : Own h6 (.slice (some ⟨h1.size,0,none⟩) 1 1) 5 1 1 (([0]).map bv) := Own.blk m8 rfl (by unfold maxLen; decide)
 replace sep : Sep h.size h6.size [(some ⟨h1.size,0,none⟩ : Option Addr).map (·.block),some (h.size)] := sep
 clear m8 lt9 zs10
 refine SeqK.eff (k' := 3) (Does.append2 (t := 22) (E := 5) (sz := 1) (by_ := 1) (n := 1) (m := l.length) (v := .slice (some ⟨h1.size,0,none⟩) 1 1) (x := .slice va l.length vc) (xs := (([0]).map bv)) (ys := (l.map bv)) (by kernel_rfl) (by kernel_rfl) own_t (hr.ext e0) (ones_map _) (by unfold maxLen; omega) (by omega)) rfl ?_
 rintro _ h13 ⟨ad11,cap12,rfl,ownx,g,hb⟩
 rw [blkOf_slice] at g hb
 have hlo := e0.size
 have sepo := sep
 replace e0 := e0.grew g (sep.low 0 rfl)
 replace m3 := Grew.blk g m3 ((sep.bp 1 0))
 replace sep := sep.up g.size
 replace sep : Sep h.size h13.size [ad11.map (·.block),some (h.size)] := sepo.set g.size hlo 0 (y := ad11.map (fun (x : Addr) => x.block)) rfl (hb.imp id fun e => .inr ⟨_,e,Nat.le_refl _⟩) (fun k e => ownx.lt (by rw [blkOf_slice]; exact e))
 replace own_t : Own h13 (.slice ad11 (1 + l.length) cap12) 5 (1 + l.length) 1 (([0] ++ l).map bv) := Own.appG ownx (by first | rfl | simp) (by first | rfl | (simp; done) | (simp; omega))
 clear ownx g hb hlo sepo
 refine SeqK.eff (k' := 4) (Does.call (f := 26) (args := #[.slice ad11 (1 + l.length) cap12]) (by kernel_rfl) (rsum_n _ ([0] ++ l) _ _ _ own_t.row (by simp <;> omega) (by simp <;> omega))) rfl ?_
 rintro _ h14 ⟨rfl,g⟩
 replace e0 := e0.ext g
 replace own_t := own_t.ext g
 replace m3 := Ext.blk g m3
 replace sep := sep.up g.size
 clear g
 refine SeqK.eff (k' := 5) (Does.store (b := h.size) (off := 0) (vs := (sha ([0] ++ l)).map bv) (l := z32.map bv) (storeOp_of (by kernel_rfl) (hlm rfl)) m3 (hfit rfl rfl) (ones_map _)) rfl ?_
 rintro _ h15 ⟨rfl,hh⟩
 have g16 : Grew (some (h.size)) h14 h15 := hput_gr hh
 replace m3 : h15[h.size]? = some (.cells ((sha ([0] ++ l)).map bv).toArray 31) := hput_at (off := 0) (vs := (sha ([0] ++ l)).map bv) (l := (z32.map bv)) hh (hsplice rfl rfl) m3
 clear hh
 replace e0 := e0.grew g16 (sep.low 1 rfl)
 replace own_t := own_t.kept g16 (by rw [blkOf_slice]; exact (sep.ap 0 1))
 replace sep := sep.up g16.size
 refine sD [(2,pV h.size)] ?_
 clear hF a; intro a hF
 refine tK ?_
 refine cR ?_
 show retK Tryd.prog Tryd.f16 (fun v h' => v = hv (leafH l) ∧ Ext h h') .ret a h15
 refine ret_ok [.cell 2 31] [.agg ((sha ([0] ++ l)).map bv).toArray] (.agg ((sha ([0] ++ l)).map bv).toArray) rfl hF ⟨⟨_,rfl,Loads.hash (by kernel_rfl) rfl m3⟩,trivial⟩ rfl ?_
 exact ⟨rfl,e0⟩
noncomputable def b34 : Code := Tryd.f34.body.getD .skip
theorem rnode_sat (h : Heap) (x y : Hs) (hx : x.length = 32) (hy : y.length = 32) : Sat Tryd.prog 34 #[.agg (x.map bv).toArray,.agg (y.map bv).toArray] h fun v h' => v = hv (nodeH x y) ∧ Ext h h' := by
 have e0 := Ext.refl h
 have sep : Sep h.size h.size [] := Sep.nil _ _
 refine sat_of (args := [.agg (x.map bv).toArray,.agg (y.map bv).toArray]) (fn := Tryd.f34) (B := b34) (n := 13) (L := [(0,.agg (x.map bv).toArray),(1,.agg (y.map bv).toArray)]) Tryd.func34 rfl (by kernel_rfl) rfl ?_
 intro a hF
 refine cS ?_
 refine cP 0 hF ?_
 refine SeqK.eff (k' := 1) (Does.new (v := .pointer (some ⟨h.size,0,none⟩)) (o := .cells (x.map bv).toArray 31) (by kernel_rfl)) rfl ?_
 rintro _ h1 ⟨rfl,hh⟩
 have g2 : Ext h h1 := push_ext hh
 have m3 : h1[h.size]? = some (.cells (x.map bv).toArray 31) := push_at hh
 clear hh
 have lt4 := blk_lt m3
 have zs5 := e0.size
 have hlo := e0.size
 have sepo := sep
 replace e0 := e0.ext g2
 replace sep := sep.up g2.size
 replace sep := sepo.new hlo (blk_lt m3)
 clear sepo hlo
 refine SeqK.eff (k' := 2) (Does.new (v := .pointer (some ⟨h1.size,0,none⟩)) (o := .cells (y.map bv).toArray 31) (by kernel_rfl)) rfl ?_
 rintro _ h6 ⟨rfl,hh⟩
 have g7 : Ext h1 h6 := push_ext hh
 have m8 : h6[h1.size]? = some (.cells (y.map bv).toArray 31) := push_at hh
 clear hh
 have lt9 := blk_lt m8
 have zs10 := e0.size
 have hlo := e0.size
 have sepo := sep
 replace e0 := e0.ext g7
 replace m3 := Ext.blk g7 m3
 replace sep := sep.up g7.size
 replace sep := sepo.new hlo (blk_lt m8)
 clear sepo hlo
 refine SeqK.eff (k' := 3) (Does.new (v := .pointer (some ⟨h6.size,0,none⟩)) (o := .cells (z32.map bv).toArray 31) (by kernel_rfl)) rfl ?_
 rintro _ h11 ⟨rfl,hh⟩
 have g12 : Ext h6 h11 := push_ext hh
 have m13 : h11[h6.size]? = some (.cells (z32.map bv).toArray 31) := push_at hh
 clear hh
 have lt14 := blk_lt m13
 have zs15 := e0.size
 have hlo := e0.size
 have sepo := sep
 replace e0 := e0.ext g12
 replace m3 := Ext.blk g12 m3
 replace m8 := Ext.blk g12 m8
 replace sep := sep.up g12.size
 replace sep := sepo.new hlo (blk_lt m13)
 clear sepo hlo
 refine sD [(2,pV h.size),(3,pV h1.size),(4,pV h6.size)] ?_
 clear hF a; intro a hF
 refine tK ?_
 refine cS ?_
 refine cP 1 hF ?_
 refine SeqK.eff (k' := 1) (Does.new (v := .slice (some ⟨h11.size,0,none⟩) 1 1) (o := .cells #[.int .u8 1] 5) (by kernel_rfl)) rfl ?_
 rintro _ h16 ⟨rfl,hh⟩
 have g17 : Ext h11 h16 := push_ext hh
 have m18 : h16[h11.size]? = some (.cells #[.int .u8 1] 5) := push_at hh
 clear hh
 have lt19 := blk_lt m18
 have zs20 := e0.size
 have hlo := e0.size
 have sepo := sep
 replace e0 := e0.ext g17
 replace m3 := Ext.blk g17 m3
 replace m8 := Ext.blk g17 m8
 replace m13 := Ext.blk g17 m13
 replace sep := sep.up g17.size
 replace sep := sepo.new hlo (blk_lt m18)
 clear sepo hlo
 refine sP 2 [.slice (some ⟨h.size,0,none⟩) 32 32] ?_
 have own_t : Own h16 (.slice (some ⟨h11.size,0,none⟩) 1 1) 5 1 1 (([1]).map bv) := Own.blk m18 rfl (by unfold maxLen; decide)
 replace sep : Sep h.size h16.size [(some ⟨h11.size,0,none⟩ : Option Addr).map (·.block),some (h6.size),some (h1.size),some (h.size)] := sep
 clear m18 lt19 zs20
 refine SeqK.eff (k' := 3) (Does.append2 (t := 22) (E := 5) (sz := 1) (by_ := 1) (n := 1) (m := 32) (v := .slice (some ⟨h11.size,0,none⟩) 1 1) (x := .slice (some ⟨h.size,0,none⟩) 32 32) (xs := (([1]).map bv)) (ys := (x.map bv)) (by kernel_rfl) (by kernel_rfl) own_t (hrow hx m3) (ones_map _) (by unfold maxLen; omega) (by omega)) rfl ?_
 rintro _ h23 ⟨ad21,cap22,rfl,ownx,g,hb⟩
 rw [blkOf_slice] at g hb
 have hlo := e0.size
 have sepo := sep
 replace e0 := e0.grew g (sep.low 0 rfl)
 replace m3 := Grew.blk g m3 ((sep.bp 3 0))
 replace m8 := Grew.blk g m8 ((sep.bp 2 0))
 replace m13 := Grew.blk g m13 ((sep.bp 1 0))
 replace sep := sep.up g.size
 replace sep : Sep h.size h23.size [ad21.map (·.block),some (h6.size),some (h1.size),some (h.size)] := sepo.set g.size hlo 0 (y := ad21.map (fun (x : Addr) => x.block)) rfl (hb.imp id fun e => .inr ⟨_,e,Nat.le_refl _⟩) (fun k e => ownx.lt (by rw [blkOf_slice]; exact e))
 replace own_t : Own h23 (.slice ad21 33 cap22) 5 33 1 (([1] ++ x).map bv) := Own.appG ownx (by first | rfl | simp) (by first | rfl | (simp; done) | (simp; omega))
 clear ownx g hb hlo sepo
 refine sP 4 [.slice ad21 (1 + 32) cap22] ?_
 refine sD [(3,pV h1.size),(4,pV h6.size),(5,.slice ad21 (1 + 32) cap22)] ?_
 clear hF a; intro a hF
 have hcan : (1 + 32 : Nat) = 33 := by first | (simp; done) | (simp; omega)
 rw [hcan] at hF; clear hcan
 refine tK ?_
 refine cS ?_
 refine cP 2 hF ?_
 refine sP 2 [.slice ad21 33 cap22,.slice (some ⟨h1.size,0,none⟩) 32 32] ?_
 refine SeqK.eff (k' := 3) (Does.append2 (t := 22) (E := 5) (sz := 1) (by_ := 1) (n := 33) (m := 32) (v := .slice ad21 33 cap22) (x := .slice (some ⟨h1.size,0,none⟩) 32 32) (xs := (([1] ++ x).map bv)) (ys := (y.map bv)) (by kernel_rfl) (by kernel_rfl) own_t (hrow hy m8) (ones_map _) (by unfold maxLen; omega) (by omega)) rfl ?_
 rintro _ h26 ⟨ad24,cap25,rfl,ownx,g,hb⟩
 rw [blkOf_slice] at g hb
 have hlo := e0.size
 have sepo := sep
 replace e0 := e0.grew g (sep.low 0 rfl)
 replace m3 := Grew.blk g m3 ((sep.bp 3 0))
 replace m8 := Grew.blk g m8 ((sep.bp 2 0))
 replace m13 := Grew.blk g m13 ((sep.bp 1 0))
 replace sep := sep.up g.size
 replace sep : Sep h.size h26.size [ad24.map (·.block),some (h6.size),some (h1.size),some (h.size)] := sepo.set g.size hlo 0 (y := ad24.map (fun (x : Addr) => x.block)) rfl (hb.imp id fun e => .inr ⟨_,e,Nat.le_refl _⟩) (fun k e => ownx.lt (by rw [blkOf_slice]; exact e))
 replace own_t : Own h26 (.slice ad24 65 cap25) 5 65 1 (([1] ++ x ++ y).map bv) := Own.appG ownx (by first | rfl | simp) (by first | rfl | (simp; done) | (simp; omega))
 clear ownx g hb hlo sepo
 refine SeqK.eff (k' := 4) (Does.call (f := 26) (args := #[.slice ad24 (33 + 32) cap25]) (by kernel_rfl) (rsum_n _ ([1] ++ x ++ y) _ _ _ own_t.row (by simp <;> omega) (by simp <;> omega))) rfl ?_
 rintro _ h27 ⟨rfl,g⟩
 replace e0 := e0.ext g
 replace own_t := own_t.ext g
 replace m3 := Ext.blk g m3
 replace m8 := Ext.blk g m8
 replace m13 := Ext.blk g m13
 replace sep := sep.up g.size
 clear g
 refine SeqK.eff (k' := 5) (Does.store (b := h6.size) (off := 0) (vs := (sha ([1] ++ x ++ y)).map bv) (l := z32.map bv) (storeOp_of (by kernel_rfl) (hlm rfl)) m13 (hfit rfl rfl) (ones_map _)) rfl ?_
 rintro _ h28 ⟨rfl,hh⟩
 have g29 : Grew (some (h6.size)) h27 h28 := hput_gr hh
 replace m13 : h28[h6.size]? = some (.cells ((sha ([1] ++ x ++ y)).map bv).toArray 31) := hput_at (off := 0) (vs := (sha ([1] ++ x ++ y)).map bv) (l := (z32.map bv)) hh (hsplice rfl rfl) m13
 clear hh
 replace e0 := e0.grew g29 (sep.low 1 rfl)
 replace own_t := own_t.kept g29 (by rw [blkOf_slice]; exact (sep.ap 0 1))
 replace m3 := Grew.blk g29 m3 ((sep.bp 3 1))
 replace m8 := Grew.blk g29 m8 ((sep.bp 2 1))
 replace sep := sep.up g29.size
 refine sD [(4,pV h6.size)] ?_
 clear hF a; intro a hF
 refine tK ?_
 refine cR ?_
 show retK Tryd.prog Tryd.f34 (fun v h' => v = hv (nodeH x y) ∧ Ext h h') .ret a h28
 refine ret_ok [.cell 4 31] [.agg ((sha ([1] ++ x ++ y)).map bv).toArray] (.agg ((sha ([1] ++ x ++ y)).map bv).toArray) rfl hF ⟨⟨_,rfl,Loads.hash (by kernel_rfl) rfl m13⟩,trivial⟩ rfl ?_
 exact ⟨rfl,e0⟩
end Go.Proofs.YtkjlafiefgbjpaaDoor
