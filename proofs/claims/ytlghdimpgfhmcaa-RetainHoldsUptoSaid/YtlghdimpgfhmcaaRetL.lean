/- the laws of Lock, Hold and Delete: what it comes to. Conditions: those that each theorem names. -/
import Derived.Test.YtlghdimpgfhmcaaRetH
import Derived.Test.YtlghdimpgfhmcaaRetD
namespace Go.Proofs.Ytlghdimpgfhmcaa
open Go Go.Lane Go.Sha
noncomputable def b3 : Code := Try.f3.body.getD .skip
theorem locks_arg (h : Heap) (x : RB) (e : Int) (ho go : Bool) (L : List Pl) (va : Option Addr) (vc : Nat) (hr : Row h (.slice va L.length vc) L.length 4 (prow L)) (hL : L.length ≤ 1099511627776) (u : Int) (hu : u < 0 ∨ 1099511627776 < u) : Sat Try.prog 3 #[.agg (rc x e ho go (.slice va L.length vc)).toArray,.int .i64 u] h fun v h' => v = .bool true ∧ Ext h h' := by
 have e0 := Ext.refl h
 have sep : Sep h.size h.size [] := Sep.nil _ _
 refine sat_of (args := [.agg (rc x e ho go (.slice va L.length vc)).toArray,.int .i64 u]) (fn := Try.f3) (B := b3) (n := 45) (L := [(0,.agg (rc x e ho go (.slice va L.length vc)).toArray),(1,.int .i64 u)]) Try.func3 rfl (by kernel_rfl) rfl ?_
 intro a hF
 refine cS ?_
 refine cP 0 hF ?_
 refine SeqK.eff (k' := 1) (Does.new (v := .pointer (some ⟨h.size,0,none⟩)) (o := .cells (rc x e ho go (.slice va L.length vc)).toArray 26) (by kernel_rfl)) rfl ?_
 rintro _ h1 ⟨rfl,hh⟩
 have g2 : Ext h h1 := push_ext hh
 have m3 : h1[h.size]? = some (.cells (rc x e ho go (.slice va L.length vc)).toArray 26) := push_at hh
 clear hh
 have lt4 := blk_lt m3
 have zs5 := e0.size
 have hlo := e0.size
 have sepo := sep
 replace e0 := e0.ext g2
 replace sep := sep.up g2.size
 replace sep := sepo.new hlo (blk_lt m3)
 clear sepo hlo
 refine sP 2 [.bool false] ?_
 refine sD [(1,.int .i64 u),(2,pV h.size)] ?_
 clear hF a; intro a hF
 refine tK ?_
 refine cS ?_
 refine cP 1 hF ?_
 refine SeqK.eff (k' := 1) (Does.call (f := 10) (args := #[]) (by kernel_rfl) (shown_sat _)) rfl ?_
 rintro _ h6 ⟨rfl,g⟩
 replace e0 := e0.ext g
 replace m3 := Ext.blk g m3
 replace sep := sep.up g.size
 clear g
 refine sP 2 [.bool true] ?_
 refine sD [(1,.int .i64 u),(2,pV h.size),(5,.bool true)] ?_
 clear hF a; intro a hF
 refine tK ?_
 refine cS ?_
 refine cS ?_
 refine cP 2 hF ?_
 refine sP 2 [.bool true,.bool false] ?_
 refine sD [(1,.int .i64 u),(2,pV h.size),(5,.bool true),(13,.bool false)] ?_
 clear hF a; intro a hF
 refine tK ?_
 refine cF 13 hF ?_
 refine cN ?_
 refine tK ?_
 refine cS ?_
 refine cP 4 hF ?_
 refine sC 1 (.agg (rc x e ho go (.slice va L.length vc)).toArray) (Calm.load (T := 26) (p := ⟨h.size,0,none⟩) (by kernel_rfl) (Loads.blk (vs := rc x e ho go (.slice va L.length vc)) (by kernel_rfl) m3 rfl)) ?_
 refine SeqK.eff (k' := 2) (Does.call (f := 11) (args := #[.agg (rc x e ho go (.slice va L.length vc)).toArray]) (by kernel_rfl) (copied_sat _ x e ho go L va vc (hr.ext e0) hL)) rfl ?_
 rintro _ h9 ⟨_,rfl,ad7,cap8,rfl,ownx,hge,g⟩
 have hlo := e0.size
 have sepo := sep
 replace e0 := e0.ext g
 replace m3 := Ext.blk g m3
 replace sep := sep.up g.size
 replace sep := sepo.cons (x := ad7.map (fun (x : Addr) => x.block)) g.size hlo (fun k e => ⟨hge k e,ownx.lt (by rw [blkOf_slice]; exact e)⟩)
 have own_own : Own h9 (.slice ad7 L.length cap8) 49 L.length 4 (prow L) := ownx; clear ownx sepo hlo hge g
 refine SeqK.eff (k' := 3) (Does.new (v := .pointer (some ⟨h9.size,0,none⟩)) (o := .cells (rc rb0 (0 : Int) false false (.slice none 0 0)).toArray 26) (by kernel_rfl)) rfl ?_
 rintro _ h10 ⟨rfl,hh⟩
 have g11 : Ext h9 h10 := push_ext hh
 have m12 : h10[h9.size]? = some (.cells (rc rb0 (0 : Int) false false (.slice none 0 0)).toArray 26) := push_at hh
 clear hh
 have lt13 := blk_lt m12
 have zs14 := e0.size
 have hlo := e0.size
 have sepo := sep
 replace e0 := e0.ext g11
 replace own_own := own_own.ext g11
 replace m3 := Ext.blk g11 m3
 replace sep := sep.up g11.size
 replace sep := sepo.new hlo (blk_lt m12)
 clear sepo hlo
 refine SeqK.eff (k' := 4) (Does.store (b := h9.size) (off := 0) (vs := rc x e ho go (.slice ad7 L.length cap8)) (l := rc rb0 (0 : Int) false false (.slice none 0 0)) (by kernel_rfl) m12 (of_decide_eq_true (by kernel_rfl)) (List.all_eq_true.1 (by kernel_rfl))) rfl ?_
 rintro _ h15 ⟨rfl,hh⟩
 have g16 : Grew (some (h9.size)) h10 h15 := hput_gr hh
 replace m12 : h15[h9.size]? = some (.cells (rc x e ho go (.slice ad7 L.length cap8)).toArray 26) := hput_at (off := 0) (vs := rc x e ho go (.slice ad7 L.length cap8)) (l := (rc rb0 (0 : Int) false false (.slice none 0 0))) hh (by kernel_rfl) m12
 clear hh
 replace e0 := e0.grew g16 (sep.low 0 rfl)
 replace own_own := own_own.kept g16 (by rw [blkOf_slice]; exact (sep.ap 1 0))
 replace m3 := Grew.blk g16 m3 ((sep.bp 2 0))
 replace sep := sep.up g16.size
 refine sD [(1,.int .i64 u),(2,pV h.size),(5,.bool true),(6,pV h9.size)] ?_
 clear hF a; intro a hF
 refine tK ?_
 refine cS ?_
 refine cP 5 hF ?_
 refine sC 1 (.agg (rc x e ho go (.slice ad7 L.length cap8)).toArray) (Calm.load (T := 26) (p := ⟨h9.size,0,none⟩) (by kernel_rfl) (Loads.blk (vs := rc x e ho go (.slice ad7 L.length cap8)) (by kernel_rfl) m12 rfl)) ?_
 refine sP 2 [.int .i64 u] ?_
 refine SeqK.eff (k' := 3) (Does.call (f := 12) (args := #[.agg (rc x e ho go (.slice ad7 L.length cap8)).toArray,.int .i64 u]) (by kernel_rfl) (lock_arg _ x e ho go L ad7 cap8 u hu)) rfl ?_
 rintro _ h17 ⟨rfl,g⟩
 replace e0 := e0.ext g
 replace own_own := own_own.ext g
 replace m3 := Ext.blk g m3
 replace m12 := Ext.blk g m12
 replace sep := sep.up g.size
 clear g
 refine sP 6 [.tuple #[.agg (rc rb0 (0 : Int) false false (.slice none 0 0)).toArray,.int .i64 1],.agg (rc rb0 (0 : Int) false false (.slice none 0 0)).toArray,.int .i64 1] ?_
 refine SeqK.eff (k' := 7) (Does.new (v := .pointer (some ⟨h17.size,0,none⟩)) (o := .cells (rc rb0 (0 : Int) false false (.slice none 0 0)).toArray 26) (by kernel_rfl)) rfl ?_
 rintro _ h18 ⟨rfl,hh⟩
 have g19 : Ext h17 h18 := push_ext hh
 have m20 : h18[h17.size]? = some (.cells (rc rb0 (0 : Int) false false (.slice none 0 0)).toArray 26) := push_at hh
 clear hh
 have lt21 := blk_lt m20
 have zs22 := e0.size
 have hlo := e0.size
 have sepo := sep
 replace e0 := e0.ext g19
 replace own_own := own_own.ext g19
 replace m3 := Ext.blk g19 m3
 replace m12 := Ext.blk g19 m12
 replace sep := sep.up g19.size
 replace sep := sepo.new hlo (blk_lt m20)
 clear sepo hlo
 refine SeqK.eff (k' := 8) (Does.store (b := h17.size) (off := 0) (vs := rc rb0 (0 : Int) false false (.slice none 0 0)) (l := rc rb0 (0 : Int) false false (.slice none 0 0)) (by kernel_rfl) m20 (of_decide_eq_true (by kernel_rfl)) (List.all_eq_true.1 (by kernel_rfl))) rfl ?_
 rintro _ h23 ⟨rfl,hh⟩
 have g24 : Grew (some (h17.size)) h18 h23 := hput_gr hh
 replace m20 : h23[h17.size]? = some (.cells (rc rb0 (0 : Int) false false (.slice none 0 0)).toArray 26) := hput_at (off := 0) (vs := rc rb0 (0 : Int) false false (.slice none 0 0)) (l := (rc rb0 (0 : Int) false false (.slice none 0 0))) hh (by kernel_rfl) m20
 clear hh
 replace e0 := e0.grew g24 (sep.low 0 rfl)
 replace own_own := own_own.kept g24 (by rw [blkOf_slice]; exact (sep.ap 2 0))
 replace m3 := Grew.blk g24 m3 ((sep.bp 3 0))
 replace m12 := Grew.blk g24 m12 ((sep.bp 1 0))
 replace sep := sep.up g24.size
 refine sP 9 [.int .i64 1] ?_
 refine sD [(1,.int .i64 u),(2,pV h.size),(5,.bool true),(6,pV h9.size),(7,pV h17.size),(8,.int .i64 1)] ?_
 clear hF a; intro a hF
 refine tK ?_
 refine cS ?_
 refine cP 6 hF ?_
 refine sC 1 (.agg (rc x e ho go (.slice va L.length vc)).toArray) (Calm.load (T := 26) (p := ⟨h.size,0,none⟩) (by kernel_rfl) (Loads.blk (vs := rc x e ho go (.slice va L.length vc)) (by kernel_rfl) m3 rfl)) ?_
 refine sP 2 [.int .i64 u] ?_
 refine SeqK.eff (k' := 3) (Does.call (f := 13) (args := #[.agg (rc x e ho go (.slice va L.length vc)).toArray,.int .i64 u]) (by kernel_rfl) (rlock_arg _ x e ho go L va vc u hu)) rfl ?_
 rintro _ h25 ⟨rfl,g⟩
 replace e0 := e0.ext g
 replace own_own := own_own.ext g
 replace m3 := Ext.blk g m3
 replace m12 := Ext.blk g m12
 replace m20 := Ext.blk g m20
 replace sep := sep.up g.size
 clear g
 refine sP 6 [.tuple #[.agg (rc rb0 (0 : Int) false false (.slice none 0 0)).toArray,.int .i64 1],.agg (rc rb0 (0 : Int) false false (.slice none 0 0)).toArray,.int .i64 1] ?_
 refine SeqK.eff (k' := 7) (Does.new (v := .pointer (some ⟨h25.size,0,none⟩)) (o := .cells (rc rb0 (0 : Int) false false (.slice none 0 0)).toArray 26) (by kernel_rfl)) rfl ?_
 rintro _ h26 ⟨rfl,hh⟩
 have g27 : Ext h25 h26 := push_ext hh
 have m28 : h26[h25.size]? = some (.cells (rc rb0 (0 : Int) false false (.slice none 0 0)).toArray 26) := push_at hh
 clear hh
 have lt29 := blk_lt m28
 have zs30 := e0.size
 have hlo := e0.size
 have sepo := sep
 replace e0 := e0.ext g27
 replace own_own := own_own.ext g27
 replace m3 := Ext.blk g27 m3
 replace m12 := Ext.blk g27 m12
 replace m20 := Ext.blk g27 m20
 replace sep := sep.up g27.size
 replace sep := sepo.new hlo (blk_lt m28)
 clear sepo hlo
 refine SeqK.eff (k' := 8) (Does.store (b := h25.size) (off := 0) (vs := rc rb0 (0 : Int) false false (.slice none 0 0)) (l := rc rb0 (0 : Int) false false (.slice none 0 0)) (by kernel_rfl) m28 (of_decide_eq_true (by kernel_rfl)) (List.all_eq_true.1 (by kernel_rfl))) rfl ?_
 rintro _ h31 ⟨rfl,hh⟩
 have g32 : Grew (some (h25.size)) h26 h31 := hput_gr hh
 replace m28 : h31[h25.size]? = some (.cells (rc rb0 (0 : Int) false false (.slice none 0 0)).toArray 26) := hput_at (off := 0) (vs := rc rb0 (0 : Int) false false (.slice none 0 0)) (l := (rc rb0 (0 : Int) false false (.slice none 0 0))) hh (by kernel_rfl) m28
 clear hh
 replace e0 := e0.grew g32 (sep.low 0 rfl)
 replace own_own := own_own.kept g32 (by rw [blkOf_slice]; exact (sep.ap 3 0))
 replace m3 := Grew.blk g32 m3 ((sep.bp 4 0))
 replace m12 := Grew.blk g32 m12 ((sep.bp 2 0))
 replace m20 := Grew.blk g32 m20 ((sep.bp 1 0))
 replace sep := sep.up g32.size
 refine sP 9 [.int .i64 1] ?_
 refine sD [(2,pV h.size),(5,.bool true),(6,pV h9.size),(7,pV h17.size),(8,.int .i64 1),(9,pV h25.size),(10,.int .i64 1)] ?_
 clear hF a; intro a hF
 refine tK ?_
 refine cS ?_
 refine cS ?_
 refine cP 7 hF ?_
 refine sP 4 [.int .i64 1,.int .i64 1,.bool false,.bool false] ?_
 refine sC 5 (.agg (rc rb0 (0 : Int) false false (.slice none 0 0)).toArray) (Calm.load (T := 26) (p := ⟨h17.size,0,none⟩) (by kernel_rfl) (Loads.blk (vs := rc rb0 (0 : Int) false false (.slice none 0 0)) (by kernel_rfl) m20 rfl)) ?_
 refine sC 6 (.agg (rc rb0 (0 : Int) false false (.slice none 0 0)).toArray) (Calm.load (T := 26) (p := ⟨h25.size,0,none⟩) (by kernel_rfl) (Loads.blk (vs := rc rb0 (0 : Int) false false (.slice none 0 0)) (by kernel_rfl) m28 rfl)) ?_
 refine SeqK.eff (k' := 7) (Does.call (f := 14) (args := #[.agg (rc rb0 (0 : Int) false false (.slice none 0 0)).toArray,.agg (rc rb0 (0 : Int) false false (.slice none 0 0)).toArray]) (by kernel_rfl) (same_sat _ rb0 (0 : Int) false false [] none 0 (Row.nil _ 4) (by decide) none 0 (Row.nil _ 4))) rfl ?_
 rintro _ h33 ⟨rfl,g⟩
 replace e0 := e0.ext g
 replace own_own := own_own.ext g
 replace m3 := Ext.blk g m3
 replace m12 := Ext.blk g m12
 replace m20 := Ext.blk g m20
 replace m28 := Ext.blk g m28
 replace sep := sep.up g.size
 clear g
 refine sP 9 [.bool false,.bool false] ?_
 refine sD [(2,pV h.size),(5,.bool true),(6,pV h9.size),(7,pV h17.size),(36,.bool false)] ?_
 clear hF a; intro a hF
 refine tK ?_
 refine cF 36 hF ?_
 refine cN ?_
 refine tK ?_
 refine cS ?_
 refine cP 9 hF ?_
 refine sC 1 (.agg (rc rb0 (0 : Int) false false (.slice none 0 0)).toArray) (Calm.load (T := 26) (p := ⟨h17.size,0,none⟩) (by kernel_rfl) (Loads.blk (vs := rc rb0 (0 : Int) false false (.slice none 0 0)) (by kernel_rfl) m20 rfl)) ?_
 refine SeqK.eff (k' := 2) (Does.call (f := 15) (args := #[.agg (rc rb0 (0 : Int) false false (.slice none 0 0)).toArray]) (by kernel_rfl) (spoil_sat _ rb0 (0 : Int) false false [] none 0 (by decide) (Own.nil _ _ _))) rfl ?_
 rintro _ h34 g
 replace e0 := e0.ext g
 replace own_own := own_own.ext g
 replace m3 := Ext.blk g m3
 replace m12 := Ext.blk g m12
 replace m20 := Ext.blk g m20
 replace m28 := Ext.blk g m28
 replace sep := sep.up g.size
 clear g
 refine sD [(2,pV h.size),(5,.bool true),(6,pV h9.size)] ?_
 clear hF a; intro a hF
 refine tK ?_
 refine cS ?_
 refine cP 10 hF ?_
 refine sP 2 [.bool true,.bool true] ?_
 refine sC 3 (.agg (rc x e ho go (.slice ad7 L.length cap8)).toArray) (Calm.load (T := 26) (p := ⟨h9.size,0,none⟩) (by kernel_rfl) (Loads.blk (vs := rc x e ho go (.slice ad7 L.length cap8)) (by kernel_rfl) m12 rfl)) ?_
 refine sC 4 (.agg (rc x e ho go (.slice va L.length vc)).toArray) (Calm.load (T := 26) (p := ⟨h.size,0,none⟩) (by kernel_rfl) (Loads.blk (vs := rc x e ho go (.slice va L.length vc)) (by kernel_rfl) m3 rfl)) ?_
 refine SeqK.eff (k' := 5) (Does.call (f := 14) (args := #[.agg (rc x e ho go (.slice ad7 L.length cap8)).toArray,.agg (rc x e ho go (.slice va L.length vc)).toArray]) (by kernel_rfl) (same_sat _ x e ho go L ad7 cap8 (own_own.row) hL va vc (hr.ext e0))) rfl ?_
 rintro _ h35 ⟨rfl,g⟩
 replace e0 := e0.ext g
 replace own_own := own_own.ext g
 replace m3 := Ext.blk g m3
 replace m12 := Ext.blk g m12
 replace m20 := Ext.blk g m20
 replace m28 := Ext.blk g m28
 replace sep := sep.up g.size
 clear g
 refine sP 7 [.bool true,.bool true] ?_
 refine sD [(4,.bool true)] ?_
 clear hF a; intro a hF
 refine tK ?_
 refine cR ?_
 show retK Try.prog Try.f3 (fun v h' => v = .bool true ∧ Ext h h') .ret a h35
 refine ret_ok [.tmp 4] [.bool true] (.bool true) rfl hF ⟨rfl,trivial⟩ rfl ?_
 exact ⟨rfl,e0⟩
theorem locks_gone (h : Heap) (x : RB) (e : Int) (ho : Bool) (L : List Pl) (va : Option Addr) (vc : Nat) (hr : Row h (.slice va L.length vc) L.length 4 (prow L)) (hL : L.length ≤ 1099511627776) (u : Int) (hu0 : 0 ≤ u) (hu : u ≤ 1099511627776) : Sat Try.prog 3 #[.agg (rc x e ho true (.slice va L.length vc)).toArray,.int .i64 u] h fun v h' => v = .bool true ∧ Ext h h' := by
 have e0 := Ext.refl h
 have sep : Sep h.size h.size [] := Sep.nil _ _
 refine sat_of (args := [.agg (rc x e ho true (.slice va L.length vc)).toArray,.int .i64 u]) (fn := Try.f3) (B := b3) (n := 45) (L := [(0,.agg (rc x e ho true (.slice va L.length vc)).toArray),(1,.int .i64 u)]) Try.func3 rfl (by kernel_rfl) rfl ?_
 intro a hF
 refine cS ?_
 refine cP 0 hF ?_
 refine SeqK.eff (k' := 1) (Does.new (v := .pointer (some ⟨h.size,0,none⟩)) (o := .cells (rc x e ho true (.slice va L.length vc)).toArray 26) (by kernel_rfl)) rfl ?_
 rintro _ h1 ⟨rfl,hh⟩
 have g2 : Ext h h1 := push_ext hh
 have m3 : h1[h.size]? = some (.cells (rc x e ho true (.slice va L.length vc)).toArray 26) := push_at hh
 clear hh
 have lt4 := blk_lt m3
 have zs5 := e0.size
 have hlo := e0.size
 have sepo := sep
 replace e0 := e0.ext g2
 replace sep := sep.up g2.size
 replace sep := sepo.new hlo (blk_lt m3)
 clear sepo hlo
 refine sP 2 [.bool false] ?_
 refine sD [(1,.int .i64 u),(2,pV h.size)] ?_
 clear hF a; intro a hF
 refine tK ?_
 refine cS ?_
 refine cP 1 hF ?_
 refine SeqK.eff (k' := 1) (Does.call (f := 10) (args := #[]) (by kernel_rfl) (shown_sat _)) rfl ?_
 rintro _ h6 ⟨rfl,g⟩
 replace e0 := e0.ext g
 replace m3 := Ext.blk g m3
 replace sep := sep.up g.size
 clear g
 refine sP 2 [.bool true] ?_
 refine sD [(1,.int .i64 u),(2,pV h.size),(5,.bool true)] ?_
 clear hF a; intro a hF
 refine tK ?_
 refine cS ?_
 refine cS ?_
 refine cP 2 hF ?_
 refine sP 2 [.bool true,.bool false] ?_
 refine sD [(1,.int .i64 u),(2,pV h.size),(5,.bool true),(13,.bool false)] ?_
 clear hF a; intro a hF
 refine tK ?_
 refine cF 13 hF ?_
 refine cN ?_
 refine tK ?_
 refine cS ?_
 refine cP 4 hF ?_
 refine sC 1 (.agg (rc x e ho true (.slice va L.length vc)).toArray) (Calm.load (T := 26) (p := ⟨h.size,0,none⟩) (by kernel_rfl) (Loads.blk (vs := rc x e ho true (.slice va L.length vc)) (by kernel_rfl) m3 rfl)) ?_
 refine SeqK.eff (k' := 2) (Does.call (f := 11) (args := #[.agg (rc x e ho true (.slice va L.length vc)).toArray]) (by kernel_rfl) (copied_sat _ x e ho true L va vc (hr.ext e0) hL)) rfl ?_
 rintro _ h9 ⟨_,rfl,ad7,cap8,rfl,ownx,hge,g⟩
 have hlo := e0.size
 have sepo := sep
 replace e0 := e0.ext g
 replace m3 := Ext.blk g m3
 replace sep := sep.up g.size
 replace sep := sepo.cons (x := ad7.map (fun (x : Addr) => x.block)) g.size hlo (fun k e => ⟨hge k e,ownx.lt (by rw [blkOf_slice]; exact e)⟩)
 have own_own : Own h9 (.slice ad7 L.length cap8) 49 L.length 4 (prow L) := ownx; clear ownx sepo hlo hge g
 refine SeqK.eff (k' := 3) (Does.new (v := .pointer (some ⟨h9.size,0,none⟩)) (o := .cells (rc rb0 (0 : Int) false false (.slice none 0 0)).toArray 26) (by kernel_rfl)) rfl ?_
 rintro _ h10 ⟨rfl,hh⟩
 have g11 : Ext h9 h10 := push_ext hh
 have m12 : h10[h9.size]? = some (.cells (rc rb0 (0 : Int) false false (.slice none 0 0)).toArray 26) := push_at hh
 clear hh
 have lt13 := blk_lt m12
 have zs14 := e0.size
 have hlo := e0.size
 have sepo := sep
 replace e0 := e0.ext g11
 replace own_own := own_own.ext g11
 replace m3 := Ext.blk g11 m3
 replace sep := sep.up g11.size
 replace sep := sepo.new hlo (blk_lt m12)
 clear sepo hlo
 refine SeqK.eff (k' := 4) (Does.store (b := h9.size) (off := 0) (vs := rc x e ho true (.slice ad7 L.length cap8)) (l := rc rb0 (0 : Int) false false (.slice none 0 0)) (by kernel_rfl) m12 (of_decide_eq_true (by kernel_rfl)) (List.all_eq_true.1 (by kernel_rfl))) rfl ?_
 rintro _ h15 ⟨rfl,hh⟩
 have g16 : Grew (some (h9.size)) h10 h15 := hput_gr hh
 replace m12 : h15[h9.size]? = some (.cells (rc x e ho true (.slice ad7 L.length cap8)).toArray 26) := hput_at (off := 0) (vs := rc x e ho true (.slice ad7 L.length cap8)) (l := (rc rb0 (0 : Int) false false (.slice none 0 0))) hh (by kernel_rfl) m12
 clear hh
 replace e0 := e0.grew g16 (sep.low 0 rfl)
 replace own_own := own_own.kept g16 (by rw [blkOf_slice]; exact (sep.ap 1 0))
 replace m3 := Grew.blk g16 m3 ((sep.bp 2 0))
 replace sep := sep.up g16.size
 refine sD [(1,.int .i64 u),(2,pV h.size),(5,.bool true),(6,pV h9.size)] ?_
 clear hF a; intro a hF
 refine tK ?_
 refine cS ?_
 refine cP 5 hF ?_
 refine sC 1 (.agg (rc x e ho true (.slice ad7 L.length cap8)).toArray) (Calm.load (T := 26) (p := ⟨h9.size,0,none⟩) (by kernel_rfl) (Loads.blk (vs := rc x e ho true (.slice ad7 L.length cap8)) (by kernel_rfl) m12 rfl)) ?_
 refine sP 2 [.int .i64 u] ?_
 refine SeqK.eff (k' := 3) (Does.call (f := 12) (args := #[.agg (rc x e ho true (.slice ad7 L.length cap8)).toArray,.int .i64 u]) (by kernel_rfl) (lock_gone _ x e ho L ad7 cap8 u hu0 hu)) rfl ?_
 rintro _ h17 ⟨rfl,g⟩
 replace e0 := e0.ext g
 replace own_own := own_own.ext g
 replace m3 := Ext.blk g m3
 replace m12 := Ext.blk g m12
 replace sep := sep.up g.size
 clear g
 refine sP 6 [.tuple #[.agg (rc rb0 (0 : Int) false false (.slice none 0 0)).toArray,.int .i64 213],.agg (rc rb0 (0 : Int) false false (.slice none 0 0)).toArray,.int .i64 213] ?_
 refine SeqK.eff (k' := 7) (Does.new (v := .pointer (some ⟨h17.size,0,none⟩)) (o := .cells (rc rb0 (0 : Int) false false (.slice none 0 0)).toArray 26) (by kernel_rfl)) rfl ?_
 rintro _ h18 ⟨rfl,hh⟩
 have g19 : Ext h17 h18 := push_ext hh
 have m20 : h18[h17.size]? = some (.cells (rc rb0 (0 : Int) false false (.slice none 0 0)).toArray 26) := push_at hh
 clear hh
 have lt21 := blk_lt m20
 have zs22 := e0.size
 have hlo := e0.size
 have sepo := sep
 replace e0 := e0.ext g19
 replace own_own := own_own.ext g19
 replace m3 := Ext.blk g19 m3
 replace m12 := Ext.blk g19 m12
 replace sep := sep.up g19.size
 replace sep := sepo.new hlo (blk_lt m20)
 clear sepo hlo
 refine SeqK.eff (k' := 8) (Does.store (b := h17.size) (off := 0) (vs := rc rb0 (0 : Int) false false (.slice none 0 0)) (l := rc rb0 (0 : Int) false false (.slice none 0 0)) (by kernel_rfl) m20 (of_decide_eq_true (by kernel_rfl)) (List.all_eq_true.1 (by kernel_rfl))) rfl ?_
 rintro _ h23 ⟨rfl,hh⟩
 have g24 : Grew (some (h17.size)) h18 h23 := hput_gr hh
 replace m20 : h23[h17.size]? = some (.cells (rc rb0 (0 : Int) false false (.slice none 0 0)).toArray 26) := hput_at (off := 0) (vs := rc rb0 (0 : Int) false false (.slice none 0 0)) (l := (rc rb0 (0 : Int) false false (.slice none 0 0))) hh (by kernel_rfl) m20
 clear hh
 replace e0 := e0.grew g24 (sep.low 0 rfl)
 replace own_own := own_own.kept g24 (by rw [blkOf_slice]; exact (sep.ap 2 0))
 replace m3 := Grew.blk g24 m3 ((sep.bp 3 0))
 replace m12 := Grew.blk g24 m12 ((sep.bp 1 0))
 replace sep := sep.up g24.size
 refine sP 9 [.int .i64 213] ?_
 refine sD [(1,.int .i64 u),(2,pV h.size),(5,.bool true),(6,pV h9.size),(7,pV h17.size),(8,.int .i64 213)] ?_
 clear hF a; intro a hF
 refine tK ?_
 refine cS ?_
 refine cP 6 hF ?_
 refine sC 1 (.agg (rc x e ho true (.slice va L.length vc)).toArray) (Calm.load (T := 26) (p := ⟨h.size,0,none⟩) (by kernel_rfl) (Loads.blk (vs := rc x e ho true (.slice va L.length vc)) (by kernel_rfl) m3 rfl)) ?_
 refine sP 2 [.int .i64 u] ?_
 refine SeqK.eff (k' := 3) (Does.call (f := 13) (args := #[.agg (rc x e ho true (.slice va L.length vc)).toArray,.int .i64 u]) (by kernel_rfl) (rlock_gone _ x e ho L va vc u hu0 hu)) rfl ?_
 rintro _ h25 ⟨rfl,g⟩
 replace e0 := e0.ext g
 replace own_own := own_own.ext g
 replace m3 := Ext.blk g m3
 replace m12 := Ext.blk g m12
 replace m20 := Ext.blk g m20
 replace sep := sep.up g.size
 clear g
 refine sP 6 [.tuple #[.agg (rc rb0 (0 : Int) false false (.slice none 0 0)).toArray,.int .i64 213],.agg (rc rb0 (0 : Int) false false (.slice none 0 0)).toArray,.int .i64 213] ?_
 refine SeqK.eff (k' := 7) (Does.new (v := .pointer (some ⟨h25.size,0,none⟩)) (o := .cells (rc rb0 (0 : Int) false false (.slice none 0 0)).toArray 26) (by kernel_rfl)) rfl ?_
 rintro _ h26 ⟨rfl,hh⟩
 have g27 : Ext h25 h26 := push_ext hh
 have m28 : h26[h25.size]? = some (.cells (rc rb0 (0 : Int) false false (.slice none 0 0)).toArray 26) := push_at hh
 clear hh
 have lt29 := blk_lt m28
 have zs30 := e0.size
 have hlo := e0.size
 have sepo := sep
 replace e0 := e0.ext g27
 replace own_own := own_own.ext g27
 replace m3 := Ext.blk g27 m3
 replace m12 := Ext.blk g27 m12
 replace m20 := Ext.blk g27 m20
 replace sep := sep.up g27.size
 replace sep := sepo.new hlo (blk_lt m28)
 clear sepo hlo
 refine SeqK.eff (k' := 8) (Does.store (b := h25.size) (off := 0) (vs := rc rb0 (0 : Int) false false (.slice none 0 0)) (l := rc rb0 (0 : Int) false false (.slice none 0 0)) (by kernel_rfl) m28 (of_decide_eq_true (by kernel_rfl)) (List.all_eq_true.1 (by kernel_rfl))) rfl ?_
 rintro _ h31 ⟨rfl,hh⟩
 have g32 : Grew (some (h25.size)) h26 h31 := hput_gr hh
 replace m28 : h31[h25.size]? = some (.cells (rc rb0 (0 : Int) false false (.slice none 0 0)).toArray 26) := hput_at (off := 0) (vs := rc rb0 (0 : Int) false false (.slice none 0 0)) (l := (rc rb0 (0 : Int) false false (.slice none 0 0))) hh (by kernel_rfl) m28
 clear hh
 replace e0 := e0.grew g32 (sep.low 0 rfl)
 replace own_own := own_own.kept g32 (by rw [blkOf_slice]; exact (sep.ap 3 0))
 replace m3 := Grew.blk g32 m3 ((sep.bp 4 0))
 replace m12 := Grew.blk g32 m12 ((sep.bp 2 0))
 replace m20 := Grew.blk g32 m20 ((sep.bp 1 0))
 replace sep := sep.up g32.size
 refine sP 9 [.int .i64 213] ?_
 refine sD [(2,pV h.size),(5,.bool true),(6,pV h9.size),(7,pV h17.size),(8,.int .i64 213),(9,pV h25.size),(10,.int .i64 213)] ?_
 clear hF a; intro a hF
 refine tK ?_
 refine cS ?_
 refine cS ?_
 refine cP 7 hF ?_
 refine sP 4 [.int .i64 213,.int .i64 213,.bool false,.bool false] ?_
 refine sC 5 (.agg (rc rb0 (0 : Int) false false (.slice none 0 0)).toArray) (Calm.load (T := 26) (p := ⟨h17.size,0,none⟩) (by kernel_rfl) (Loads.blk (vs := rc rb0 (0 : Int) false false (.slice none 0 0)) (by kernel_rfl) m20 rfl)) ?_
 refine sC 6 (.agg (rc rb0 (0 : Int) false false (.slice none 0 0)).toArray) (Calm.load (T := 26) (p := ⟨h25.size,0,none⟩) (by kernel_rfl) (Loads.blk (vs := rc rb0 (0 : Int) false false (.slice none 0 0)) (by kernel_rfl) m28 rfl)) ?_
 refine SeqK.eff (k' := 7) (Does.call (f := 14) (args := #[.agg (rc rb0 (0 : Int) false false (.slice none 0 0)).toArray,.agg (rc rb0 (0 : Int) false false (.slice none 0 0)).toArray]) (by kernel_rfl) (same_sat _ rb0 (0 : Int) false false [] none 0 (Row.nil _ 4) (by decide) none 0 (Row.nil _ 4))) rfl ?_
 rintro _ h33 ⟨rfl,g⟩
 replace e0 := e0.ext g
 replace own_own := own_own.ext g
 replace m3 := Ext.blk g m3
 replace m12 := Ext.blk g m12
 replace m20 := Ext.blk g m20
 replace m28 := Ext.blk g m28
 replace sep := sep.up g.size
 clear g
 refine sP 9 [.bool false,.bool false] ?_
 refine sD [(2,pV h.size),(5,.bool true),(6,pV h9.size),(7,pV h17.size),(36,.bool false)] ?_
 clear hF a; intro a hF
 refine tK ?_
 refine cF 36 hF ?_
 refine cN ?_
 refine tK ?_
 refine cS ?_
 refine cP 9 hF ?_
 refine sC 1 (.agg (rc rb0 (0 : Int) false false (.slice none 0 0)).toArray) (Calm.load (T := 26) (p := ⟨h17.size,0,none⟩) (by kernel_rfl) (Loads.blk (vs := rc rb0 (0 : Int) false false (.slice none 0 0)) (by kernel_rfl) m20 rfl)) ?_
 refine SeqK.eff (k' := 2) (Does.call (f := 15) (args := #[.agg (rc rb0 (0 : Int) false false (.slice none 0 0)).toArray]) (by kernel_rfl) (spoil_sat _ rb0 (0 : Int) false false [] none 0 (by decide) (Own.nil _ _ _))) rfl ?_
 rintro _ h34 g
 replace e0 := e0.ext g
 replace own_own := own_own.ext g
 replace m3 := Ext.blk g m3
 replace m12 := Ext.blk g m12
 replace m20 := Ext.blk g m20
 replace m28 := Ext.blk g m28
 replace sep := sep.up g.size
 clear g
 refine sD [(2,pV h.size),(5,.bool true),(6,pV h9.size)] ?_
 clear hF a; intro a hF
 refine tK ?_
 refine cS ?_
 refine cP 10 hF ?_
 refine sP 2 [.bool true,.bool true] ?_
 refine sC 3 (.agg (rc x e ho true (.slice ad7 L.length cap8)).toArray) (Calm.load (T := 26) (p := ⟨h9.size,0,none⟩) (by kernel_rfl) (Loads.blk (vs := rc x e ho true (.slice ad7 L.length cap8)) (by kernel_rfl) m12 rfl)) ?_
 refine sC 4 (.agg (rc x e ho true (.slice va L.length vc)).toArray) (Calm.load (T := 26) (p := ⟨h.size,0,none⟩) (by kernel_rfl) (Loads.blk (vs := rc x e ho true (.slice va L.length vc)) (by kernel_rfl) m3 rfl)) ?_
 refine SeqK.eff (k' := 5) (Does.call (f := 14) (args := #[.agg (rc x e ho true (.slice ad7 L.length cap8)).toArray,.agg (rc x e ho true (.slice va L.length vc)).toArray]) (by kernel_rfl) (same_sat _ x e ho true L ad7 cap8 (own_own.row) hL va vc (hr.ext e0))) rfl ?_
 rintro _ h35 ⟨rfl,g⟩
 replace e0 := e0.ext g
 replace own_own := own_own.ext g
 replace m3 := Ext.blk g m3
 replace m12 := Ext.blk g m12
 replace m20 := Ext.blk g m20
 replace m28 := Ext.blk g m28
 replace sep := sep.up g.size
 clear g
 refine sP 7 [.bool true,.bool true] ?_
 refine sD [(4,.bool true)] ?_
 clear hF a; intro a hF
 refine tK ?_
 refine cR ?_
 show retK Try.prog Try.f3 (fun v h' => v = .bool true ∧ Ext h h') .ret a h35
 refine ret_ok [.tmp 4] [.bool true] (.bool true) rfl hF ⟨rfl,trivial⟩ rfl ?_
 exact ⟨rfl,e0⟩
theorem locks_ok (h : Heap) (x : RB) (e : Int) (ho : Bool) (L : List Pl) (va : Option Addr) (vc : Nat) (hr : Row h (.slice va L.length vc) L.length 4 (prow L)) (hL : L.length ≤ 1099511627776) (u : Int) (hu0 : 0 ≤ u) (hu : u ≤ 1099511627776) : Sat Try.prog 3 #[.agg (rc x e ho false (.slice va L.length vc)).toArray,.int .i64 u] h fun v h' => v = .bool true ∧ Ext h h' := by
 have e0 := Ext.refl h
 have sep : Sep h.size h.size [] := Sep.nil _ _
 refine sat_of (args := [.agg (rc x e ho false (.slice va L.length vc)).toArray,.int .i64 u]) (fn := Try.f3) (B := b3) (n := 45) (L := [(0,.agg (rc x e ho false (.slice va L.length vc)).toArray),(1,.int .i64 u)]) Try.func3 rfl (by kernel_rfl) rfl ?_
 intro a hF
 refine cS ?_
 refine cP 0 hF ?_
 refine SeqK.eff (k' := 1) (Does.new (v := .pointer (some ⟨h.size,0,none⟩)) (o := .cells (rc x e ho false (.slice va L.length vc)).toArray 26) (by kernel_rfl)) rfl ?_
 rintro _ h1 ⟨rfl,hh⟩
 have g2 : Ext h h1 := push_ext hh
 have m3 : h1[h.size]? = some (.cells (rc x e ho false (.slice va L.length vc)).toArray 26) := push_at hh
 clear hh
 have lt4 := blk_lt m3
 have zs5 := e0.size
 have hlo := e0.size
 have sepo := sep
 replace e0 := e0.ext g2
 replace sep := sep.up g2.size
 replace sep := sepo.new hlo (blk_lt m3)
 clear sepo hlo
 refine sP 2 [.bool false] ?_
 refine sD [(1,.int .i64 u),(2,pV h.size)] ?_
 clear hF a; intro a hF
 refine tK ?_
 refine cS ?_
 refine cP 1 hF ?_
 refine SeqK.eff (k' := 1) (Does.call (f := 10) (args := #[]) (by kernel_rfl) (shown_sat _)) rfl ?_
 rintro _ h6 ⟨rfl,g⟩
 replace e0 := e0.ext g
 replace m3 := Ext.blk g m3
 replace sep := sep.up g.size
 clear g
 refine sP 2 [.bool true] ?_
 refine sD [(1,.int .i64 u),(2,pV h.size),(5,.bool true)] ?_
 clear hF a; intro a hF
 refine tK ?_
 refine cS ?_
 refine cS ?_
 refine cP 2 hF ?_
 refine sP 2 [.bool true,.bool false] ?_
 refine sD [(1,.int .i64 u),(2,pV h.size),(5,.bool true),(13,.bool false)] ?_
 clear hF a; intro a hF
 refine tK ?_
 refine cF 13 hF ?_
 refine cN ?_
 refine tK ?_
 refine cS ?_
 refine cP 4 hF ?_
 refine sC 1 (.agg (rc x e ho false (.slice va L.length vc)).toArray) (Calm.load (T := 26) (p := ⟨h.size,0,none⟩) (by kernel_rfl) (Loads.blk (vs := rc x e ho false (.slice va L.length vc)) (by kernel_rfl) m3 rfl)) ?_
 refine SeqK.eff (k' := 2) (Does.call (f := 11) (args := #[.agg (rc x e ho false (.slice va L.length vc)).toArray]) (by kernel_rfl) (copied_sat _ x e ho false L va vc (hr.ext e0) hL)) rfl ?_
 rintro _ h9 ⟨_,rfl,ad7,cap8,rfl,ownx,hge,g⟩
 have hlo := e0.size
 have sepo := sep
 replace e0 := e0.ext g
 replace m3 := Ext.blk g m3
 replace sep := sep.up g.size
 replace sep := sepo.cons (x := ad7.map (fun (x : Addr) => x.block)) g.size hlo (fun k e => ⟨hge k e,ownx.lt (by rw [blkOf_slice]; exact e)⟩)
 have own_own : Own h9 (.slice ad7 L.length cap8) 49 L.length 4 (prow L) := ownx; clear ownx sepo hlo hge g
 refine SeqK.eff (k' := 3) (Does.new (v := .pointer (some ⟨h9.size,0,none⟩)) (o := .cells (rc rb0 (0 : Int) false false (.slice none 0 0)).toArray 26) (by kernel_rfl)) rfl ?_
 rintro _ h10 ⟨rfl,hh⟩
 have g11 : Ext h9 h10 := push_ext hh
 have m12 : h10[h9.size]? = some (.cells (rc rb0 (0 : Int) false false (.slice none 0 0)).toArray 26) := push_at hh
 clear hh
 have lt13 := blk_lt m12
 have zs14 := e0.size
 have hlo := e0.size
 have sepo := sep
 replace e0 := e0.ext g11
 replace own_own := own_own.ext g11
 replace m3 := Ext.blk g11 m3
 replace sep := sep.up g11.size
 replace sep := sepo.new hlo (blk_lt m12)
 clear sepo hlo
 refine SeqK.eff (k' := 4) (Does.store (b := h9.size) (off := 0) (vs := rc x e ho false (.slice ad7 L.length cap8)) (l := rc rb0 (0 : Int) false false (.slice none 0 0)) (by kernel_rfl) m12 (of_decide_eq_true (by kernel_rfl)) (List.all_eq_true.1 (by kernel_rfl))) rfl ?_
 rintro _ h15 ⟨rfl,hh⟩
 have g16 : Grew (some (h9.size)) h10 h15 := hput_gr hh
 replace m12 : h15[h9.size]? = some (.cells (rc x e ho false (.slice ad7 L.length cap8)).toArray 26) := hput_at (off := 0) (vs := rc x e ho false (.slice ad7 L.length cap8)) (l := (rc rb0 (0 : Int) false false (.slice none 0 0))) hh (by kernel_rfl) m12
 clear hh
 replace e0 := e0.grew g16 (sep.low 0 rfl)
 replace own_own := own_own.kept g16 (by rw [blkOf_slice]; exact (sep.ap 1 0))
 replace m3 := Grew.blk g16 m3 ((sep.bp 2 0))
 replace sep := sep.up g16.size
 refine sD [(1,.int .i64 u),(2,pV h.size),(5,.bool true),(6,pV h9.size)] ?_
 clear hF a; intro a hF
 refine tK ?_
 refine cS ?_
 refine cP 5 hF ?_
 refine sC 1 (.agg (rc x e ho false (.slice ad7 L.length cap8)).toArray) (Calm.load (T := 26) (p := ⟨h9.size,0,none⟩) (by kernel_rfl) (Loads.blk (vs := rc x e ho false (.slice ad7 L.length cap8)) (by kernel_rfl) m12 rfl)) ?_
 refine sP 2 [.int .i64 u] ?_
 refine SeqK.eff (k' := 3) (Does.call (f := 12) (args := #[.agg (rc x e ho false (.slice ad7 L.length cap8)).toArray,.int .i64 u]) (by kernel_rfl) (lock_ok _ x e ho L ad7 cap8 (own_own.row) hL u hu0 hu)) rfl ?_
 rintro _ h19 ⟨_,rfl,ad17,cap18,rfl,ownx,hge,g⟩
 have hlo := e0.size
 have sepo := sep
 replace e0 := e0.ext g
 replace own_own := own_own.ext g
 replace m3 := Ext.blk g m3
 replace m12 := Ext.blk g m12
 replace sep := sep.up g.size
 replace sep := sepo.cons (x := ad17.map (fun (x : Addr) => x.block)) g.size hlo (fun k e => ⟨hge k e,ownx.lt (by rw [blkOf_slice]; exact e)⟩)
 have own_a : Own h19 (.slice ad17 L.length cap18) 49 L.length 4 (prow L) := ownx; clear ownx sepo hlo hge g
 refine sP 6 [.tuple #[.agg (rc x (max e u) ho false (.slice ad17 L.length cap18)).toArray,.int .i64 0],.agg (rc x (max e u) ho false (.slice ad17 L.length cap18)).toArray,.int .i64 0] ?_
 refine SeqK.eff (k' := 7) (Does.new (v := .pointer (some ⟨h19.size,0,none⟩)) (o := .cells (rc rb0 (0 : Int) false false (.slice none 0 0)).toArray 26) (by kernel_rfl)) rfl ?_
 rintro _ h20 ⟨rfl,hh⟩
 have g21 : Ext h19 h20 := push_ext hh
 have m22 : h20[h19.size]? = some (.cells (rc rb0 (0 : Int) false false (.slice none 0 0)).toArray 26) := push_at hh
 clear hh
 have lt23 := blk_lt m22
 have zs24 := e0.size
 have hlo := e0.size
 have sepo := sep
 replace e0 := e0.ext g21
 replace own_own := own_own.ext g21
 replace own_a := own_a.ext g21
 replace m3 := Ext.blk g21 m3
 replace m12 := Ext.blk g21 m12
 replace sep := sep.up g21.size
 replace sep := sepo.new hlo (blk_lt m22)
 clear sepo hlo
 refine SeqK.eff (k' := 8) (Does.store (b := h19.size) (off := 0) (vs := rc x (max e u) ho false (.slice ad17 L.length cap18)) (l := rc rb0 (0 : Int) false false (.slice none 0 0)) (by kernel_rfl) m22 (of_decide_eq_true (by kernel_rfl)) (List.all_eq_true.1 (by kernel_rfl))) rfl ?_
 rintro _ h25 ⟨rfl,hh⟩
 have g26 : Grew (some (h19.size)) h20 h25 := hput_gr hh
 replace m22 : h25[h19.size]? = some (.cells (rc x (max e u) ho false (.slice ad17 L.length cap18)).toArray 26) := hput_at (off := 0) (vs := rc x (max e u) ho false (.slice ad17 L.length cap18)) (l := (rc rb0 (0 : Int) false false (.slice none 0 0))) hh (by kernel_rfl) m22
 clear hh
 replace e0 := e0.grew g26 (sep.low 0 rfl)
 replace own_own := own_own.kept g26 (by rw [blkOf_slice]; exact (sep.ap 3 0))
 replace own_a := own_a.kept g26 (by rw [blkOf_slice]; exact (sep.ap 1 0))
 replace m3 := Grew.blk g26 m3 ((sep.bp 4 0))
 replace m12 := Grew.blk g26 m12 ((sep.bp 2 0))
 replace sep := sep.up g26.size
 refine sP 9 [.int .i64 0] ?_
 refine sD [(1,.int .i64 u),(2,pV h.size),(5,.bool true),(6,pV h9.size),(7,pV h19.size),(8,.int .i64 0)] ?_
 clear hF a; intro a hF
 refine tK ?_
 refine cS ?_
 refine cP 6 hF ?_
 refine sC 1 (.agg (rc x e ho false (.slice va L.length vc)).toArray) (Calm.load (T := 26) (p := ⟨h.size,0,none⟩) (by kernel_rfl) (Loads.blk (vs := rc x e ho false (.slice va L.length vc)) (by kernel_rfl) m3 rfl)) ?_
 refine sP 2 [.int .i64 u] ?_
 refine SeqK.eff (k' := 3) (Does.call (f := 13) (args := #[.agg (rc x e ho false (.slice va L.length vc)).toArray,.int .i64 u]) (by kernel_rfl) (rlock_ok _ x e ho L va vc (hr.ext e0) hL u hu0 hu)) rfl ?_
 rintro _ h29 ⟨_,rfl,ad27,cap28,rfl,ownx,hge,g⟩
 have hlo := e0.size
 have sepo := sep
 replace e0 := e0.ext g
 replace own_own := own_own.ext g
 replace own_a := own_a.ext g
 replace m3 := Ext.blk g m3
 replace m12 := Ext.blk g m12
 replace m22 := Ext.blk g m22
 replace sep := sep.up g.size
 replace sep := sepo.cons (x := ad27.map (fun (x : Addr) => x.block)) g.size hlo (fun k e => ⟨hge k e,ownx.lt (by rw [blkOf_slice]; exact e)⟩)
 have own_b : Own h29 (.slice ad27 L.length cap28) 49 L.length 4 (prow L) := ownx; clear ownx sepo hlo hge g
 refine sP 6 [.tuple #[.agg (rc x (max e u) ho false (.slice ad27 L.length cap28)).toArray,.int .i64 0],.agg (rc x (max e u) ho false (.slice ad27 L.length cap28)).toArray,.int .i64 0] ?_
 refine SeqK.eff (k' := 7) (Does.new (v := .pointer (some ⟨h29.size,0,none⟩)) (o := .cells (rc rb0 (0 : Int) false false (.slice none 0 0)).toArray 26) (by kernel_rfl)) rfl ?_
 rintro _ h30 ⟨rfl,hh⟩
 have g31 : Ext h29 h30 := push_ext hh
 have m32 : h30[h29.size]? = some (.cells (rc rb0 (0 : Int) false false (.slice none 0 0)).toArray 26) := push_at hh
 clear hh
 have lt33 := blk_lt m32
 have zs34 := e0.size
 have hlo := e0.size
 have sepo := sep
 replace e0 := e0.ext g31
 replace own_own := own_own.ext g31
 replace own_a := own_a.ext g31
 replace own_b := own_b.ext g31
 replace m3 := Ext.blk g31 m3
 replace m12 := Ext.blk g31 m12
 replace m22 := Ext.blk g31 m22
 replace sep := sep.up g31.size
 replace sep := sepo.new hlo (blk_lt m32)
 clear sepo hlo
 refine SeqK.eff (k' := 8) (Does.store (b := h29.size) (off := 0) (vs := rc x (max e u) ho false (.slice ad27 L.length cap28)) (l := rc rb0 (0 : Int) false false (.slice none 0 0)) (by kernel_rfl) m32 (of_decide_eq_true (by kernel_rfl)) (List.all_eq_true.1 (by kernel_rfl))) rfl ?_
 rintro _ h35 ⟨rfl,hh⟩
 have g36 : Grew (some (h29.size)) h30 h35 := hput_gr hh
 replace m32 : h35[h29.size]? = some (.cells (rc x (max e u) ho false (.slice ad27 L.length cap28)).toArray 26) := hput_at (off := 0) (vs := rc x (max e u) ho false (.slice ad27 L.length cap28)) (l := (rc rb0 (0 : Int) false false (.slice none 0 0))) hh (by kernel_rfl) m32
 clear hh
 replace e0 := e0.grew g36 (sep.low 0 rfl)
 replace own_own := own_own.kept g36 (by rw [blkOf_slice]; exact (sep.ap 5 0))
 replace own_a := own_a.kept g36 (by rw [blkOf_slice]; exact (sep.ap 3 0))
 replace own_b := own_b.kept g36 (by rw [blkOf_slice]; exact (sep.ap 1 0))
 replace m3 := Grew.blk g36 m3 ((sep.bp 6 0))
 replace m12 := Grew.blk g36 m12 ((sep.bp 4 0))
 replace m22 := Grew.blk g36 m22 ((sep.bp 2 0))
 replace sep := sep.up g36.size
 refine sP 9 [.int .i64 0] ?_
 refine sD [(2,pV h.size),(5,.bool true),(6,pV h9.size),(7,pV h19.size),(8,.int .i64 0),(9,pV h29.size),(10,.int .i64 0)] ?_
 clear hF a; intro a hF
 refine tK ?_
 refine cS ?_
 refine cS ?_
 refine cP 7 hF ?_
 refine sP 4 [.int .i64 0,.int .i64 0,.bool false,.bool false] ?_
 refine sC 5 (.agg (rc x (max e u) ho false (.slice ad17 L.length cap18)).toArray) (Calm.load (T := 26) (p := ⟨h19.size,0,none⟩) (by kernel_rfl) (Loads.blk (vs := rc x (max e u) ho false (.slice ad17 L.length cap18)) (by kernel_rfl) m22 rfl)) ?_
 refine sC 6 (.agg (rc x (max e u) ho false (.slice ad27 L.length cap28)).toArray) (Calm.load (T := 26) (p := ⟨h29.size,0,none⟩) (by kernel_rfl) (Loads.blk (vs := rc x (max e u) ho false (.slice ad27 L.length cap28)) (by kernel_rfl) m32 rfl)) ?_
 refine SeqK.eff (k' := 7) (Does.call (f := 14) (args := #[.agg (rc x (max e u) ho false (.slice ad17 L.length cap18)).toArray,.agg (rc x (max e u) ho false (.slice ad27 L.length cap28)).toArray]) (by kernel_rfl) (same_sat _ x (max e u) ho false L ad17 cap18 (own_a.row) hL ad27 cap28 (own_b.row))) rfl ?_
 rintro _ h37 ⟨rfl,g⟩
 replace e0 := e0.ext g
 replace own_own := own_own.ext g
 replace own_a := own_a.ext g
 replace own_b := own_b.ext g
 replace m3 := Ext.blk g m3
 replace m12 := Ext.blk g m12
 replace m22 := Ext.blk g m22
 replace m32 := Ext.blk g m32
 replace sep := sep.up g.size
 clear g
 refine sP 9 [.bool false,.bool false] ?_
 refine sD [(2,pV h.size),(5,.bool true),(6,pV h9.size),(7,pV h19.size),(36,.bool false)] ?_
 clear hF a; intro a hF
 refine tK ?_
 refine cF 36 hF ?_
 refine cN ?_
 refine tK ?_
 refine cS ?_
 refine cP 9 hF ?_
 refine sC 1 (.agg (rc x (max e u) ho false (.slice ad17 L.length cap18)).toArray) (Calm.load (T := 26) (p := ⟨h19.size,0,none⟩) (by kernel_rfl) (Loads.blk (vs := rc x (max e u) ho false (.slice ad17 L.length cap18)) (by kernel_rfl) m22 rfl)) ?_
 refine SeqK.eff (k' := 2) (Does.call (f := 15) (args := #[.agg (rc x (max e u) ho false (.slice ad17 L.length cap18)).toArray]) (by kernel_rfl) (spoil_sat _ x (max e u) ho false L ad17 cap18 hL own_a)) rfl ?_
 rintro _ h38 g
 replace e0 := e0.grew g (sep.low 3 rfl)
 replace own_own := own_own.kept g (by rw [blkOf_slice]; exact (sep.ap 5 3))
 replace own_b := own_b.kept g (by rw [blkOf_slice]; exact (sep.ap 1 3))
 replace m3 := Grew.blk g m3 ((sep.bp 6 3))
 replace m12 := Grew.blk g m12 ((sep.bp 4 3))
 replace m22 := Grew.blk g m22 ((sep.bp 2 3))
 replace m32 := Grew.blk g m32 ((sep.bp 0 3))
 replace sep := sep.up g.size
 clear g own_a
 replace sep := sep.sub (l' := [some (h29.size),ad27.map (·.block),some (h19.size),some (h9.size),ad7.map (·.block),some (h.size)]) (.cons_cons _ (.cons_cons _ (.cons_cons _ (.cons _ (.cons_cons _ (.cons_cons _ (.cons_cons _ (.slnil))))))))
 refine sD [(2,pV h.size),(5,.bool true),(6,pV h9.size)] ?_
 clear hF a; intro a hF
 refine tK ?_
 refine cS ?_
 refine cP 10 hF ?_
 refine sP 2 [.bool true,.bool true] ?_
 refine sC 3 (.agg (rc x e ho false (.slice ad7 L.length cap8)).toArray) (Calm.load (T := 26) (p := ⟨h9.size,0,none⟩) (by kernel_rfl) (Loads.blk (vs := rc x e ho false (.slice ad7 L.length cap8)) (by kernel_rfl) m12 rfl)) ?_
 refine sC 4 (.agg (rc x e ho false (.slice va L.length vc)).toArray) (Calm.load (T := 26) (p := ⟨h.size,0,none⟩) (by kernel_rfl) (Loads.blk (vs := rc x e ho false (.slice va L.length vc)) (by kernel_rfl) m3 rfl)) ?_
 refine SeqK.eff (k' := 5) (Does.call (f := 14) (args := #[.agg (rc x e ho false (.slice ad7 L.length cap8)).toArray,.agg (rc x e ho false (.slice va L.length vc)).toArray]) (by kernel_rfl) (same_sat _ x e ho false L ad7 cap8 (own_own.row) hL va vc (hr.ext e0))) rfl ?_
 rintro _ h39 ⟨rfl,g⟩
 replace e0 := e0.ext g
 replace own_own := own_own.ext g
 replace own_b := own_b.ext g
 replace m3 := Ext.blk g m3
 replace m12 := Ext.blk g m12
 replace m22 := Ext.blk g m22
 replace m32 := Ext.blk g m32
 replace sep := sep.up g.size
 clear g
 refine sP 7 [.bool true,.bool true] ?_
 refine sD [(4,.bool true)] ?_
 clear hF a; intro a hF
 refine tK ?_
 refine cR ?_
 show retK Try.prog Try.f3 (fun v h' => v = .bool true ∧ Ext h h') .ret a h39
 refine ret_ok [.tmp 4] [.bool true] (.bool true) rfl hF ⟨rfl,trivial⟩ rfl ?_
 exact ⟨rfl,e0⟩
theorem locks_sat (h : Heap) (x : RB) (e : Int) (ho go : Bool) (L : List Pl) (va : Option Addr) (vc : Nat) (hr : Row h (.slice va L.length vc) L.length 4 (prow L)) (hL : L.length ≤ 1099511627776) (u : Int) : Sat Try.prog 3 #[.agg (rc x e ho go (.slice va L.length vc)).toArray,.int .i64 u] h (fun v h' => v = .bool true ∧ Ext h h') := by
 by_cases hu : u < 0 ∨ 1099511627776 < u
 ·exact locks_arg h x e ho go L va vc hr hL u hu
 ·cases go with
  | true => exact locks_gone h x e ho L va vc hr hL u (by omega) (by omega)
  | false => exact locks_ok h x e ho L va vc hr hL u (by omega) (by omega)
noncomputable def b4 : Code := Try.f4.body.getD .skip
theorem holds_gone (h : Heap) (x : RB) (e : Int) (ho : Bool) (L : List Pl) (va : Option Addr) (vc : Nat) (hr : Row h (.slice va L.length vc) L.length 4 (prow L)) (hL : L.length ≤ 1099511627776) (on : Bool) : Sat Try.prog 4 #[.agg (rc x e ho true (.slice va L.length vc)).toArray,.bool on] h fun v h' => v = .bool true ∧ Ext h h' := by
 have e0 := Ext.refl h
 have sep : Sep h.size h.size [] := Sep.nil _ _
 refine sat_of (args := [.agg (rc x e ho true (.slice va L.length vc)).toArray,.bool on]) (fn := Try.f4) (B := b4) (n := 45) (L := [(0,.agg (rc x e ho true (.slice va L.length vc)).toArray),(1,.bool on)]) Try.func4 rfl (by kernel_rfl) rfl ?_
 intro a hF
 refine cS ?_
 refine cP 0 hF ?_
 refine SeqK.eff (k' := 1) (Does.new (v := .pointer (some ⟨h.size,0,none⟩)) (o := .cells (rc x e ho true (.slice va L.length vc)).toArray 26) (by kernel_rfl)) rfl ?_
 rintro _ h1 ⟨rfl,hh⟩
 have g2 : Ext h h1 := push_ext hh
 have m3 : h1[h.size]? = some (.cells (rc x e ho true (.slice va L.length vc)).toArray 26) := push_at hh
 clear hh
 have lt4 := blk_lt m3
 have zs5 := e0.size
 have hlo := e0.size
 have sepo := sep
 replace e0 := e0.ext g2
 replace sep := sep.up g2.size
 replace sep := sepo.new hlo (blk_lt m3)
 clear sepo hlo
 refine sP 2 [.bool false] ?_
 refine sD [(1,.bool on),(2,pV h.size)] ?_
 clear hF a; intro a hF
 refine tK ?_
 refine cS ?_
 refine cP 1 hF ?_
 refine SeqK.eff (k' := 1) (Does.call (f := 10) (args := #[]) (by kernel_rfl) (shown_sat _)) rfl ?_
 rintro _ h6 ⟨rfl,g⟩
 replace e0 := e0.ext g
 replace m3 := Ext.blk g m3
 replace sep := sep.up g.size
 clear g
 refine sP 2 [.bool true] ?_
 refine sD [(1,.bool on),(2,pV h.size),(5,.bool true)] ?_
 clear hF a; intro a hF
 refine tK ?_
 refine cS ?_
 refine cS ?_
 refine cP 2 hF ?_
 refine sP 2 [.bool true,.bool false] ?_
 refine sD [(1,.bool on),(2,pV h.size),(5,.bool true),(13,.bool false)] ?_
 clear hF a; intro a hF
 refine tK ?_
 refine cF 13 hF ?_
 refine cN ?_
 refine tK ?_
 refine cS ?_
 refine cP 4 hF ?_
 refine sC 1 (.agg (rc x e ho true (.slice va L.length vc)).toArray) (Calm.load (T := 26) (p := ⟨h.size,0,none⟩) (by kernel_rfl) (Loads.blk (vs := rc x e ho true (.slice va L.length vc)) (by kernel_rfl) m3 rfl)) ?_
 refine SeqK.eff (k' := 2) (Does.call (f := 11) (args := #[.agg (rc x e ho true (.slice va L.length vc)).toArray]) (by kernel_rfl) (copied_sat _ x e ho true L va vc (hr.ext e0) hL)) rfl ?_
 rintro _ h9 ⟨_,rfl,ad7,cap8,rfl,ownx,hge,g⟩
 have hlo := e0.size
 have sepo := sep
 replace e0 := e0.ext g
 replace m3 := Ext.blk g m3
 replace sep := sep.up g.size
 replace sep := sepo.cons (x := ad7.map (fun (x : Addr) => x.block)) g.size hlo (fun k e => ⟨hge k e,ownx.lt (by rw [blkOf_slice]; exact e)⟩)
 have own_own : Own h9 (.slice ad7 L.length cap8) 49 L.length 4 (prow L) := ownx; clear ownx sepo hlo hge g
 refine SeqK.eff (k' := 3) (Does.new (v := .pointer (some ⟨h9.size,0,none⟩)) (o := .cells (rc rb0 (0 : Int) false false (.slice none 0 0)).toArray 26) (by kernel_rfl)) rfl ?_
 rintro _ h10 ⟨rfl,hh⟩
 have g11 : Ext h9 h10 := push_ext hh
 have m12 : h10[h9.size]? = some (.cells (rc rb0 (0 : Int) false false (.slice none 0 0)).toArray 26) := push_at hh
 clear hh
 have lt13 := blk_lt m12
 have zs14 := e0.size
 have hlo := e0.size
 have sepo := sep
 replace e0 := e0.ext g11
 replace own_own := own_own.ext g11
 replace m3 := Ext.blk g11 m3
 replace sep := sep.up g11.size
 replace sep := sepo.new hlo (blk_lt m12)
 clear sepo hlo
 refine SeqK.eff (k' := 4) (Does.store (b := h9.size) (off := 0) (vs := rc x e ho true (.slice ad7 L.length cap8)) (l := rc rb0 (0 : Int) false false (.slice none 0 0)) (by kernel_rfl) m12 (of_decide_eq_true (by kernel_rfl)) (List.all_eq_true.1 (by kernel_rfl))) rfl ?_
 rintro _ h15 ⟨rfl,hh⟩
 have g16 : Grew (some (h9.size)) h10 h15 := hput_gr hh
 replace m12 : h15[h9.size]? = some (.cells (rc x e ho true (.slice ad7 L.length cap8)).toArray 26) := hput_at (off := 0) (vs := rc x e ho true (.slice ad7 L.length cap8)) (l := (rc rb0 (0 : Int) false false (.slice none 0 0))) hh (by kernel_rfl) m12
 clear hh
 replace e0 := e0.grew g16 (sep.low 0 rfl)
 replace own_own := own_own.kept g16 (by rw [blkOf_slice]; exact (sep.ap 1 0))
 replace m3 := Grew.blk g16 m3 ((sep.bp 2 0))
 replace sep := sep.up g16.size
 refine sD [(1,.bool on),(2,pV h.size),(5,.bool true),(6,pV h9.size)] ?_
 clear hF a; intro a hF
 refine tK ?_
 refine cS ?_
 refine cP 5 hF ?_
 refine sC 1 (.agg (rc x e ho true (.slice ad7 L.length cap8)).toArray) (Calm.load (T := 26) (p := ⟨h9.size,0,none⟩) (by kernel_rfl) (Loads.blk (vs := rc x e ho true (.slice ad7 L.length cap8)) (by kernel_rfl) m12 rfl)) ?_
 refine sP 2 [.bool on] ?_
 refine SeqK.eff (k' := 3) (Does.call (f := 16) (args := #[.agg (rc x e ho true (.slice ad7 L.length cap8)).toArray,.bool on]) (by kernel_rfl) (hold_gone _ x e ho L ad7 cap8 on)) rfl ?_
 rintro _ h17 ⟨rfl,g⟩
 replace e0 := e0.ext g
 replace own_own := own_own.ext g
 replace m3 := Ext.blk g m3
 replace m12 := Ext.blk g m12
 replace sep := sep.up g.size
 clear g
 refine sP 6 [.tuple #[.agg (rc rb0 (0 : Int) false false (.slice none 0 0)).toArray,.int .i64 213],.agg (rc rb0 (0 : Int) false false (.slice none 0 0)).toArray,.int .i64 213] ?_
 refine SeqK.eff (k' := 7) (Does.new (v := .pointer (some ⟨h17.size,0,none⟩)) (o := .cells (rc rb0 (0 : Int) false false (.slice none 0 0)).toArray 26) (by kernel_rfl)) rfl ?_
 rintro _ h18 ⟨rfl,hh⟩
 have g19 : Ext h17 h18 := push_ext hh
 have m20 : h18[h17.size]? = some (.cells (rc rb0 (0 : Int) false false (.slice none 0 0)).toArray 26) := push_at hh
 clear hh
 have lt21 := blk_lt m20
 have zs22 := e0.size
 have hlo := e0.size
 have sepo := sep
 replace e0 := e0.ext g19
 replace own_own := own_own.ext g19
 replace m3 := Ext.blk g19 m3
 replace m12 := Ext.blk g19 m12
 replace sep := sep.up g19.size
 replace sep := sepo.new hlo (blk_lt m20)
 clear sepo hlo
 refine SeqK.eff (k' := 8) (Does.store (b := h17.size) (off := 0) (vs := rc rb0 (0 : Int) false false (.slice none 0 0)) (l := rc rb0 (0 : Int) false false (.slice none 0 0)) (by kernel_rfl) m20 (of_decide_eq_true (by kernel_rfl)) (List.all_eq_true.1 (by kernel_rfl))) rfl ?_
 rintro _ h23 ⟨rfl,hh⟩
 have g24 : Grew (some (h17.size)) h18 h23 := hput_gr hh
 replace m20 : h23[h17.size]? = some (.cells (rc rb0 (0 : Int) false false (.slice none 0 0)).toArray 26) := hput_at (off := 0) (vs := rc rb0 (0 : Int) false false (.slice none 0 0)) (l := (rc rb0 (0 : Int) false false (.slice none 0 0))) hh (by kernel_rfl) m20
 clear hh
 replace e0 := e0.grew g24 (sep.low 0 rfl)
 replace own_own := own_own.kept g24 (by rw [blkOf_slice]; exact (sep.ap 2 0))
 replace m3 := Grew.blk g24 m3 ((sep.bp 3 0))
 replace m12 := Grew.blk g24 m12 ((sep.bp 1 0))
 replace sep := sep.up g24.size
 refine sP 9 [.int .i64 213] ?_
 refine sD [(1,.bool on),(2,pV h.size),(5,.bool true),(6,pV h9.size),(7,pV h17.size),(8,.int .i64 213)] ?_
 clear hF a; intro a hF
 refine tK ?_
 refine cS ?_
 refine cP 6 hF ?_
 refine sC 1 (.agg (rc x e ho true (.slice va L.length vc)).toArray) (Calm.load (T := 26) (p := ⟨h.size,0,none⟩) (by kernel_rfl) (Loads.blk (vs := rc x e ho true (.slice va L.length vc)) (by kernel_rfl) m3 rfl)) ?_
 refine sP 2 [.bool on] ?_
 refine SeqK.eff (k' := 3) (Does.call (f := 17) (args := #[.agg (rc x e ho true (.slice va L.length vc)).toArray,.bool on]) (by kernel_rfl) (rhold_gone _ x e ho L va vc on)) rfl ?_
 rintro _ h25 ⟨rfl,g⟩
 replace e0 := e0.ext g
 replace own_own := own_own.ext g
 replace m3 := Ext.blk g m3
 replace m12 := Ext.blk g m12
 replace m20 := Ext.blk g m20
 replace sep := sep.up g.size
 clear g
 refine sP 6 [.tuple #[.agg (rc rb0 (0 : Int) false false (.slice none 0 0)).toArray,.int .i64 213],.agg (rc rb0 (0 : Int) false false (.slice none 0 0)).toArray,.int .i64 213] ?_
 refine SeqK.eff (k' := 7) (Does.new (v := .pointer (some ⟨h25.size,0,none⟩)) (o := .cells (rc rb0 (0 : Int) false false (.slice none 0 0)).toArray 26) (by kernel_rfl)) rfl ?_
 rintro _ h26 ⟨rfl,hh⟩
 have g27 : Ext h25 h26 := push_ext hh
 have m28 : h26[h25.size]? = some (.cells (rc rb0 (0 : Int) false false (.slice none 0 0)).toArray 26) := push_at hh
 clear hh
 have lt29 := blk_lt m28
 have zs30 := e0.size
 have hlo := e0.size
 have sepo := sep
 replace e0 := e0.ext g27
 replace own_own := own_own.ext g27
 replace m3 := Ext.blk g27 m3
 replace m12 := Ext.blk g27 m12
 replace m20 := Ext.blk g27 m20
 replace sep := sep.up g27.size
 replace sep := sepo.new hlo (blk_lt m28)
 clear sepo hlo
 refine SeqK.eff (k' := 8) (Does.store (b := h25.size) (off := 0) (vs := rc rb0 (0 : Int) false false (.slice none 0 0)) (l := rc rb0 (0 : Int) false false (.slice none 0 0)) (by kernel_rfl) m28 (of_decide_eq_true (by kernel_rfl)) (List.all_eq_true.1 (by kernel_rfl))) rfl ?_
 rintro _ h31 ⟨rfl,hh⟩
 have g32 : Grew (some (h25.size)) h26 h31 := hput_gr hh
 replace m28 : h31[h25.size]? = some (.cells (rc rb0 (0 : Int) false false (.slice none 0 0)).toArray 26) := hput_at (off := 0) (vs := rc rb0 (0 : Int) false false (.slice none 0 0)) (l := (rc rb0 (0 : Int) false false (.slice none 0 0))) hh (by kernel_rfl) m28
 clear hh
 replace e0 := e0.grew g32 (sep.low 0 rfl)
 replace own_own := own_own.kept g32 (by rw [blkOf_slice]; exact (sep.ap 3 0))
 replace m3 := Grew.blk g32 m3 ((sep.bp 4 0))
 replace m12 := Grew.blk g32 m12 ((sep.bp 2 0))
 replace m20 := Grew.blk g32 m20 ((sep.bp 1 0))
 replace sep := sep.up g32.size
 refine sP 9 [.int .i64 213] ?_
 refine sD [(2,pV h.size),(5,.bool true),(6,pV h9.size),(7,pV h17.size),(8,.int .i64 213),(9,pV h25.size),(10,.int .i64 213)] ?_
 clear hF a; intro a hF
 refine tK ?_
 refine cS ?_
 refine cS ?_
 refine cP 7 hF ?_
 refine sP 4 [.int .i64 213,.int .i64 213,.bool false,.bool false] ?_
 refine sC 5 (.agg (rc rb0 (0 : Int) false false (.slice none 0 0)).toArray) (Calm.load (T := 26) (p := ⟨h17.size,0,none⟩) (by kernel_rfl) (Loads.blk (vs := rc rb0 (0 : Int) false false (.slice none 0 0)) (by kernel_rfl) m20 rfl)) ?_
 refine sC 6 (.agg (rc rb0 (0 : Int) false false (.slice none 0 0)).toArray) (Calm.load (T := 26) (p := ⟨h25.size,0,none⟩) (by kernel_rfl) (Loads.blk (vs := rc rb0 (0 : Int) false false (.slice none 0 0)) (by kernel_rfl) m28 rfl)) ?_
 refine SeqK.eff (k' := 7) (Does.call (f := 14) (args := #[.agg (rc rb0 (0 : Int) false false (.slice none 0 0)).toArray,.agg (rc rb0 (0 : Int) false false (.slice none 0 0)).toArray]) (by kernel_rfl) (same_sat _ rb0 (0 : Int) false false [] none 0 (Row.nil _ 4) (by decide) none 0 (Row.nil _ 4))) rfl ?_
 rintro _ h33 ⟨rfl,g⟩
 replace e0 := e0.ext g
 replace own_own := own_own.ext g
 replace m3 := Ext.blk g m3
 replace m12 := Ext.blk g m12
 replace m20 := Ext.blk g m20
 replace m28 := Ext.blk g m28
 replace sep := sep.up g.size
 clear g
 refine sP 9 [.bool false,.bool false] ?_
 refine sD [(2,pV h.size),(5,.bool true),(6,pV h9.size),(7,pV h17.size),(36,.bool false)] ?_
 clear hF a; intro a hF
 refine tK ?_
 refine cF 36 hF ?_
 refine cN ?_
 refine tK ?_
 refine cS ?_
 refine cP 9 hF ?_
 refine sC 1 (.agg (rc rb0 (0 : Int) false false (.slice none 0 0)).toArray) (Calm.load (T := 26) (p := ⟨h17.size,0,none⟩) (by kernel_rfl) (Loads.blk (vs := rc rb0 (0 : Int) false false (.slice none 0 0)) (by kernel_rfl) m20 rfl)) ?_
 refine SeqK.eff (k' := 2) (Does.call (f := 15) (args := #[.agg (rc rb0 (0 : Int) false false (.slice none 0 0)).toArray]) (by kernel_rfl) (spoil_sat _ rb0 (0 : Int) false false [] none 0 (by decide) (Own.nil _ _ _))) rfl ?_
 rintro _ h34 g
 replace e0 := e0.ext g
 replace own_own := own_own.ext g
 replace m3 := Ext.blk g m3
 replace m12 := Ext.blk g m12
 replace m20 := Ext.blk g m20
 replace m28 := Ext.blk g m28
 replace sep := sep.up g.size
 clear g
 refine sD [(2,pV h.size),(5,.bool true),(6,pV h9.size)] ?_
 clear hF a; intro a hF
 refine tK ?_
 refine cS ?_
 refine cP 10 hF ?_
 refine sP 2 [.bool true,.bool true] ?_
 refine sC 3 (.agg (rc x e ho true (.slice ad7 L.length cap8)).toArray) (Calm.load (T := 26) (p := ⟨h9.size,0,none⟩) (by kernel_rfl) (Loads.blk (vs := rc x e ho true (.slice ad7 L.length cap8)) (by kernel_rfl) m12 rfl)) ?_
 refine sC 4 (.agg (rc x e ho true (.slice va L.length vc)).toArray) (Calm.load (T := 26) (p := ⟨h.size,0,none⟩) (by kernel_rfl) (Loads.blk (vs := rc x e ho true (.slice va L.length vc)) (by kernel_rfl) m3 rfl)) ?_
 refine SeqK.eff (k' := 5) (Does.call (f := 14) (args := #[.agg (rc x e ho true (.slice ad7 L.length cap8)).toArray,.agg (rc x e ho true (.slice va L.length vc)).toArray]) (by kernel_rfl) (same_sat _ x e ho true L ad7 cap8 (own_own.row) hL va vc (hr.ext e0))) rfl ?_
 rintro _ h35 ⟨rfl,g⟩
 replace e0 := e0.ext g
 replace own_own := own_own.ext g
 replace m3 := Ext.blk g m3
 replace m12 := Ext.blk g m12
 replace m20 := Ext.blk g m20
 replace m28 := Ext.blk g m28
 replace sep := sep.up g.size
 clear g
 refine sP 7 [.bool true,.bool true] ?_
 refine sD [(4,.bool true)] ?_
 clear hF a; intro a hF
 refine tK ?_
 refine cR ?_
 show retK Try.prog Try.f4 (fun v h' => v = .bool true ∧ Ext h h') .ret a h35
 refine ret_ok [.tmp 4] [.bool true] (.bool true) rfl hF ⟨rfl,trivial⟩ rfl ?_
 exact ⟨rfl,e0⟩
theorem holds_ok (h : Heap) (x : RB) (e : Int) (ho : Bool) (L : List Pl) (va : Option Addr) (vc : Nat) (hr : Row h (.slice va L.length vc) L.length 4 (prow L)) (hL : L.length ≤ 1099511627776) (on : Bool) : Sat Try.prog 4 #[.agg (rc x e ho false (.slice va L.length vc)).toArray,.bool on] h fun v h' => v = .bool true ∧ Ext h h' := by
 have e0 := Ext.refl h
 have sep : Sep h.size h.size [] := Sep.nil _ _
 refine sat_of (args := [.agg (rc x e ho false (.slice va L.length vc)).toArray,.bool on]) (fn := Try.f4) (B := b4) (n := 45) (L := [(0,.agg (rc x e ho false (.slice va L.length vc)).toArray),(1,.bool on)]) Try.func4 rfl (by kernel_rfl) rfl ?_
 intro a hF
 refine cS ?_
 refine cP 0 hF ?_
 refine SeqK.eff (k' := 1) (Does.new (v := .pointer (some ⟨h.size,0,none⟩)) (o := .cells (rc x e ho false (.slice va L.length vc)).toArray 26) (by kernel_rfl)) rfl ?_
 rintro _ h1 ⟨rfl,hh⟩
 have g2 : Ext h h1 := push_ext hh
 have m3 : h1[h.size]? = some (.cells (rc x e ho false (.slice va L.length vc)).toArray 26) := push_at hh
 clear hh
 have lt4 := blk_lt m3
 have zs5 := e0.size
 have hlo := e0.size
 have sepo := sep
 replace e0 := e0.ext g2
 replace sep := sep.up g2.size
 replace sep := sepo.new hlo (blk_lt m3)
 clear sepo hlo
 refine sP 2 [.bool false] ?_
 refine sD [(1,.bool on),(2,pV h.size)] ?_
 clear hF a; intro a hF
 refine tK ?_
 refine cS ?_
 refine cP 1 hF ?_
 refine SeqK.eff (k' := 1) (Does.call (f := 10) (args := #[]) (by kernel_rfl) (shown_sat _)) rfl ?_
 rintro _ h6 ⟨rfl,g⟩
 replace e0 := e0.ext g
 replace m3 := Ext.blk g m3
 replace sep := sep.up g.size
 clear g
 refine sP 2 [.bool true] ?_
 refine sD [(1,.bool on),(2,pV h.size),(5,.bool true)] ?_
 clear hF a; intro a hF
 refine tK ?_
 refine cS ?_
 refine cS ?_
 refine cP 2 hF ?_
 refine sP 2 [.bool true,.bool false] ?_
 refine sD [(1,.bool on),(2,pV h.size),(5,.bool true),(13,.bool false)] ?_
 clear hF a; intro a hF
 refine tK ?_
 refine cF 13 hF ?_
 refine cN ?_
 refine tK ?_
 refine cS ?_
 refine cP 4 hF ?_
 refine sC 1 (.agg (rc x e ho false (.slice va L.length vc)).toArray) (Calm.load (T := 26) (p := ⟨h.size,0,none⟩) (by kernel_rfl) (Loads.blk (vs := rc x e ho false (.slice va L.length vc)) (by kernel_rfl) m3 rfl)) ?_
 refine SeqK.eff (k' := 2) (Does.call (f := 11) (args := #[.agg (rc x e ho false (.slice va L.length vc)).toArray]) (by kernel_rfl) (copied_sat _ x e ho false L va vc (hr.ext e0) hL)) rfl ?_
 rintro _ h9 ⟨_,rfl,ad7,cap8,rfl,ownx,hge,g⟩
 have hlo := e0.size
 have sepo := sep
 replace e0 := e0.ext g
 replace m3 := Ext.blk g m3
 replace sep := sep.up g.size
 replace sep := sepo.cons (x := ad7.map (fun (x : Addr) => x.block)) g.size hlo (fun k e => ⟨hge k e,ownx.lt (by rw [blkOf_slice]; exact e)⟩)
 have own_own : Own h9 (.slice ad7 L.length cap8) 49 L.length 4 (prow L) := ownx; clear ownx sepo hlo hge g
 refine SeqK.eff (k' := 3) (Does.new (v := .pointer (some ⟨h9.size,0,none⟩)) (o := .cells (rc rb0 (0 : Int) false false (.slice none 0 0)).toArray 26) (by kernel_rfl)) rfl ?_
 rintro _ h10 ⟨rfl,hh⟩
 have g11 : Ext h9 h10 := push_ext hh
 have m12 : h10[h9.size]? = some (.cells (rc rb0 (0 : Int) false false (.slice none 0 0)).toArray 26) := push_at hh
 clear hh
 have lt13 := blk_lt m12
 have zs14 := e0.size
 have hlo := e0.size
 have sepo := sep
 replace e0 := e0.ext g11
 replace own_own := own_own.ext g11
 replace m3 := Ext.blk g11 m3
 replace sep := sep.up g11.size
 replace sep := sepo.new hlo (blk_lt m12)
 clear sepo hlo
 refine SeqK.eff (k' := 4) (Does.store (b := h9.size) (off := 0) (vs := rc x e ho false (.slice ad7 L.length cap8)) (l := rc rb0 (0 : Int) false false (.slice none 0 0)) (by kernel_rfl) m12 (of_decide_eq_true (by kernel_rfl)) (List.all_eq_true.1 (by kernel_rfl))) rfl ?_
 rintro _ h15 ⟨rfl,hh⟩
 have g16 : Grew (some (h9.size)) h10 h15 := hput_gr hh
 replace m12 : h15[h9.size]? = some (.cells (rc x e ho false (.slice ad7 L.length cap8)).toArray 26) := hput_at (off := 0) (vs := rc x e ho false (.slice ad7 L.length cap8)) (l := (rc rb0 (0 : Int) false false (.slice none 0 0))) hh (by kernel_rfl) m12
 clear hh
 replace e0 := e0.grew g16 (sep.low 0 rfl)
 replace own_own := own_own.kept g16 (by rw [blkOf_slice]; exact (sep.ap 1 0))
 replace m3 := Grew.blk g16 m3 ((sep.bp 2 0))
 replace sep := sep.up g16.size
 refine sD [(1,.bool on),(2,pV h.size),(5,.bool true),(6,pV h9.size)] ?_
 clear hF a; intro a hF
 refine tK ?_
 refine cS ?_
 refine cP 5 hF ?_
 refine sC 1 (.agg (rc x e ho false (.slice ad7 L.length cap8)).toArray) (Calm.load (T := 26) (p := ⟨h9.size,0,none⟩) (by kernel_rfl) (Loads.blk (vs := rc x e ho false (.slice ad7 L.length cap8)) (by kernel_rfl) m12 rfl)) ?_
 refine sP 2 [.bool on] ?_
 refine SeqK.eff (k' := 3) (Does.call (f := 16) (args := #[.agg (rc x e ho false (.slice ad7 L.length cap8)).toArray,.bool on]) (by kernel_rfl) (hold_ok _ x e ho L ad7 cap8 (own_own.row) hL on)) rfl ?_
 rintro _ h19 ⟨_,rfl,ad17,cap18,rfl,ownx,hge,g⟩
 have hlo := e0.size
 have sepo := sep
 replace e0 := e0.ext g
 replace own_own := own_own.ext g
 replace m3 := Ext.blk g m3
 replace m12 := Ext.blk g m12
 replace sep := sep.up g.size
 replace sep := sepo.cons (x := ad17.map (fun (x : Addr) => x.block)) g.size hlo (fun k e => ⟨hge k e,ownx.lt (by rw [blkOf_slice]; exact e)⟩)
 have own_a : Own h19 (.slice ad17 L.length cap18) 49 L.length 4 (prow L) := ownx; clear ownx sepo hlo hge g
 refine sP 6 [.tuple #[.agg (rc x e on false (.slice ad17 L.length cap18)).toArray,.int .i64 0],.agg (rc x e on false (.slice ad17 L.length cap18)).toArray,.int .i64 0] ?_
 refine SeqK.eff (k' := 7) (Does.new (v := .pointer (some ⟨h19.size,0,none⟩)) (o := .cells (rc rb0 (0 : Int) false false (.slice none 0 0)).toArray 26) (by kernel_rfl)) rfl ?_
 rintro _ h20 ⟨rfl,hh⟩
 have g21 : Ext h19 h20 := push_ext hh
 have m22 : h20[h19.size]? = some (.cells (rc rb0 (0 : Int) false false (.slice none 0 0)).toArray 26) := push_at hh
 clear hh
 have lt23 := blk_lt m22
 have zs24 := e0.size
 have hlo := e0.size
 have sepo := sep
 replace e0 := e0.ext g21
 replace own_own := own_own.ext g21
 replace own_a := own_a.ext g21
 replace m3 := Ext.blk g21 m3
 replace m12 := Ext.blk g21 m12
 replace sep := sep.up g21.size
 replace sep := sepo.new hlo (blk_lt m22)
 clear sepo hlo
 refine SeqK.eff (k' := 8) (Does.store (b := h19.size) (off := 0) (vs := rc x e on false (.slice ad17 L.length cap18)) (l := rc rb0 (0 : Int) false false (.slice none 0 0)) (by kernel_rfl) m22 (of_decide_eq_true (by kernel_rfl)) (List.all_eq_true.1 (by kernel_rfl))) rfl ?_
 rintro _ h25 ⟨rfl,hh⟩
 have g26 : Grew (some (h19.size)) h20 h25 := hput_gr hh
 replace m22 : h25[h19.size]? = some (.cells (rc x e on false (.slice ad17 L.length cap18)).toArray 26) := hput_at (off := 0) (vs := rc x e on false (.slice ad17 L.length cap18)) (l := (rc rb0 (0 : Int) false false (.slice none 0 0))) hh (by kernel_rfl) m22
 clear hh
 replace e0 := e0.grew g26 (sep.low 0 rfl)
 replace own_own := own_own.kept g26 (by rw [blkOf_slice]; exact (sep.ap 3 0))
 replace own_a := own_a.kept g26 (by rw [blkOf_slice]; exact (sep.ap 1 0))
 replace m3 := Grew.blk g26 m3 ((sep.bp 4 0))
 replace m12 := Grew.blk g26 m12 ((sep.bp 2 0))
 replace sep := sep.up g26.size
 refine sP 9 [.int .i64 0] ?_
 refine sD [(1,.bool on),(2,pV h.size),(5,.bool true),(6,pV h9.size),(7,pV h19.size),(8,.int .i64 0)] ?_
 clear hF a; intro a hF
 refine tK ?_
 refine cS ?_
 refine cP 6 hF ?_
 refine sC 1 (.agg (rc x e ho false (.slice va L.length vc)).toArray) (Calm.load (T := 26) (p := ⟨h.size,0,none⟩) (by kernel_rfl) (Loads.blk (vs := rc x e ho false (.slice va L.length vc)) (by kernel_rfl) m3 rfl)) ?_
 refine sP 2 [.bool on] ?_
 refine SeqK.eff (k' := 3) (Does.call (f := 17) (args := #[.agg (rc x e ho false (.slice va L.length vc)).toArray,.bool on]) (by kernel_rfl) (rhold_ok _ x e ho L va vc (hr.ext e0) hL on)) rfl ?_
 rintro _ h29 ⟨_,rfl,ad27,cap28,rfl,ownx,hge,g⟩
 have hlo := e0.size
 have sepo := sep
 replace e0 := e0.ext g
 replace own_own := own_own.ext g
 replace own_a := own_a.ext g
 replace m3 := Ext.blk g m3
 replace m12 := Ext.blk g m12
 replace m22 := Ext.blk g m22
 replace sep := sep.up g.size
 replace sep := sepo.cons (x := ad27.map (fun (x : Addr) => x.block)) g.size hlo (fun k e => ⟨hge k e,ownx.lt (by rw [blkOf_slice]; exact e)⟩)
 have own_b : Own h29 (.slice ad27 L.length cap28) 49 L.length 4 (prow L) := ownx; clear ownx sepo hlo hge g
 refine sP 6 [.tuple #[.agg (rc x e on false (.slice ad27 L.length cap28)).toArray,.int .i64 0],.agg (rc x e on false (.slice ad27 L.length cap28)).toArray,.int .i64 0] ?_
 refine SeqK.eff (k' := 7) (Does.new (v := .pointer (some ⟨h29.size,0,none⟩)) (o := .cells (rc rb0 (0 : Int) false false (.slice none 0 0)).toArray 26) (by kernel_rfl)) rfl ?_
 rintro _ h30 ⟨rfl,hh⟩
 have g31 : Ext h29 h30 := push_ext hh
 have m32 : h30[h29.size]? = some (.cells (rc rb0 (0 : Int) false false (.slice none 0 0)).toArray 26) := push_at hh
 clear hh
 have lt33 := blk_lt m32
 have zs34 := e0.size
 have hlo := e0.size
 have sepo := sep
 replace e0 := e0.ext g31
 replace own_own := own_own.ext g31
 replace own_a := own_a.ext g31
 replace own_b := own_b.ext g31
 replace m3 := Ext.blk g31 m3
 replace m12 := Ext.blk g31 m12
 replace m22 := Ext.blk g31 m22
 replace sep := sep.up g31.size
 replace sep := sepo.new hlo (blk_lt m32)
 clear sepo hlo
 refine SeqK.eff (k' := 8) (Does.store (b := h29.size) (off := 0) (vs := rc x e on false (.slice ad27 L.length cap28)) (l := rc rb0 (0 : Int) false false (.slice none 0 0)) (by kernel_rfl) m32 (of_decide_eq_true (by kernel_rfl)) (List.all_eq_true.1 (by kernel_rfl))) rfl ?_
 rintro _ h35 ⟨rfl,hh⟩
 have g36 : Grew (some (h29.size)) h30 h35 := hput_gr hh
 replace m32 : h35[h29.size]? = some (.cells (rc x e on false (.slice ad27 L.length cap28)).toArray 26) := hput_at (off := 0) (vs := rc x e on false (.slice ad27 L.length cap28)) (l := (rc rb0 (0 : Int) false false (.slice none 0 0))) hh (by kernel_rfl) m32
 clear hh
 replace e0 := e0.grew g36 (sep.low 0 rfl)
 replace own_own := own_own.kept g36 (by rw [blkOf_slice]; exact (sep.ap 5 0))
 replace own_a := own_a.kept g36 (by rw [blkOf_slice]; exact (sep.ap 3 0))
 replace own_b := own_b.kept g36 (by rw [blkOf_slice]; exact (sep.ap 1 0))
 replace m3 := Grew.blk g36 m3 ((sep.bp 6 0))
 replace m12 := Grew.blk g36 m12 ((sep.bp 4 0))
 replace m22 := Grew.blk g36 m22 ((sep.bp 2 0))
 replace sep := sep.up g36.size
 refine sP 9 [.int .i64 0] ?_
 refine sD [(2,pV h.size),(5,.bool true),(6,pV h9.size),(7,pV h19.size),(8,.int .i64 0),(9,pV h29.size),(10,.int .i64 0)] ?_
 clear hF a; intro a hF
 refine tK ?_
 refine cS ?_
 refine cS ?_
 refine cP 7 hF ?_
 refine sP 4 [.int .i64 0,.int .i64 0,.bool false,.bool false] ?_
 refine sC 5 (.agg (rc x e on false (.slice ad17 L.length cap18)).toArray) (Calm.load (T := 26) (p := ⟨h19.size,0,none⟩) (by kernel_rfl) (Loads.blk (vs := rc x e on false (.slice ad17 L.length cap18)) (by kernel_rfl) m22 rfl)) ?_
 refine sC 6 (.agg (rc x e on false (.slice ad27 L.length cap28)).toArray) (Calm.load (T := 26) (p := ⟨h29.size,0,none⟩) (by kernel_rfl) (Loads.blk (vs := rc x e on false (.slice ad27 L.length cap28)) (by kernel_rfl) m32 rfl)) ?_
 refine SeqK.eff (k' := 7) (Does.call (f := 14) (args := #[.agg (rc x e on false (.slice ad17 L.length cap18)).toArray,.agg (rc x e on false (.slice ad27 L.length cap28)).toArray]) (by kernel_rfl) (same_sat _ x e on false L ad17 cap18 (own_a.row) hL ad27 cap28 (own_b.row))) rfl ?_
 rintro _ h37 ⟨rfl,g⟩
 replace e0 := e0.ext g
 replace own_own := own_own.ext g
 replace own_a := own_a.ext g
 replace own_b := own_b.ext g
 replace m3 := Ext.blk g m3
 replace m12 := Ext.blk g m12
 replace m22 := Ext.blk g m22
 replace m32 := Ext.blk g m32
 replace sep := sep.up g.size
 clear g
 refine sP 9 [.bool false,.bool false] ?_
 refine sD [(2,pV h.size),(5,.bool true),(6,pV h9.size),(7,pV h19.size),(36,.bool false)] ?_
 clear hF a; intro a hF
 refine tK ?_
 refine cF 36 hF ?_
 refine cN ?_
 refine tK ?_
 refine cS ?_
 refine cP 9 hF ?_
 refine sC 1 (.agg (rc x e on false (.slice ad17 L.length cap18)).toArray) (Calm.load (T := 26) (p := ⟨h19.size,0,none⟩) (by kernel_rfl) (Loads.blk (vs := rc x e on false (.slice ad17 L.length cap18)) (by kernel_rfl) m22 rfl)) ?_
 refine SeqK.eff (k' := 2) (Does.call (f := 15) (args := #[.agg (rc x e on false (.slice ad17 L.length cap18)).toArray]) (by kernel_rfl) (spoil_sat _ x e on false L ad17 cap18 hL own_a)) rfl ?_
 rintro _ h38 g
 replace e0 := e0.grew g (sep.low 3 rfl)
 replace own_own := own_own.kept g (by rw [blkOf_slice]; exact (sep.ap 5 3))
 replace own_b := own_b.kept g (by rw [blkOf_slice]; exact (sep.ap 1 3))
 replace m3 := Grew.blk g m3 ((sep.bp 6 3))
 replace m12 := Grew.blk g m12 ((sep.bp 4 3))
 replace m22 := Grew.blk g m22 ((sep.bp 2 3))
 replace m32 := Grew.blk g m32 ((sep.bp 0 3))
 replace sep := sep.up g.size
 clear g own_a
 replace sep := sep.sub (l' := [some (h29.size),ad27.map (·.block),some (h19.size),some (h9.size),ad7.map (·.block),some (h.size)]) (.cons_cons _ (.cons_cons _ (.cons_cons _ (.cons _ (.cons_cons _ (.cons_cons _ (.cons_cons _ (.slnil))))))))
 refine sD [(2,pV h.size),(5,.bool true),(6,pV h9.size)] ?_
 clear hF a; intro a hF
 refine tK ?_
 refine cS ?_
 refine cP 10 hF ?_
 refine sP 2 [.bool true,.bool true] ?_
 refine sC 3 (.agg (rc x e ho false (.slice ad7 L.length cap8)).toArray) (Calm.load (T := 26) (p := ⟨h9.size,0,none⟩) (by kernel_rfl) (Loads.blk (vs := rc x e ho false (.slice ad7 L.length cap8)) (by kernel_rfl) m12 rfl)) ?_
 refine sC 4 (.agg (rc x e ho false (.slice va L.length vc)).toArray) (Calm.load (T := 26) (p := ⟨h.size,0,none⟩) (by kernel_rfl) (Loads.blk (vs := rc x e ho false (.slice va L.length vc)) (by kernel_rfl) m3 rfl)) ?_
 refine SeqK.eff (k' := 5) (Does.call (f := 14) (args := #[.agg (rc x e ho false (.slice ad7 L.length cap8)).toArray,.agg (rc x e ho false (.slice va L.length vc)).toArray]) (by kernel_rfl) (same_sat _ x e ho false L ad7 cap8 (own_own.row) hL va vc (hr.ext e0))) rfl ?_
 rintro _ h39 ⟨rfl,g⟩
 replace e0 := e0.ext g
 replace own_own := own_own.ext g
 replace own_b := own_b.ext g
 replace m3 := Ext.blk g m3
 replace m12 := Ext.blk g m12
 replace m22 := Ext.blk g m22
 replace m32 := Ext.blk g m32
 replace sep := sep.up g.size
 clear g
 refine sP 7 [.bool true,.bool true] ?_
 refine sD [(4,.bool true)] ?_
 clear hF a; intro a hF
 refine tK ?_
 refine cR ?_
 show retK Try.prog Try.f4 (fun v h' => v = .bool true ∧ Ext h h') .ret a h39
 refine ret_ok [.tmp 4] [.bool true] (.bool true) rfl hF ⟨rfl,trivial⟩ rfl ?_
 exact ⟨rfl,e0⟩
theorem holds_sat (h : Heap) (x : RB) (e : Int) (ho go : Bool) (L : List Pl) (va : Option Addr) (vc : Nat) (hr : Row h (.slice va L.length vc) L.length 4 (prow L)) (hL : L.length ≤ 1099511627776) (on : Bool) : Sat Try.prog 4 #[.agg (rc x e ho go (.slice va L.length vc)).toArray,.bool on] h (fun v h' => v = .bool true ∧ Ext h h') := by
 cases go with
 | true => exact holds_gone h x e ho L va vc hr hL on
 | false => exact holds_ok h x e ho L va vc hr hL on
noncomputable def b5 : Code := Try.f5.body.getD .skip
theorem deletes_gone (h : Heap) (x : RB) (e : Int) (ho : Bool) (L : List Pl) (va : Option Addr) (vc : Nat) (hr : Row h (.slice va L.length vc) L.length 4 (prow L)) (hL : L.length ≤ 1099511627776) (u : Int) : Sat Try.prog 5 #[.agg (rc x e ho true (.slice va L.length vc)).toArray,.int .i64 u] h fun v h' => v = .bool true ∧ Ext h h' := by
 have e0 := Ext.refl h
 have sep : Sep h.size h.size [] := Sep.nil _ _
 refine sat_of (args := [.agg (rc x e ho true (.slice va L.length vc)).toArray,.int .i64 u]) (fn := Try.f5) (B := b5) (n := 44) (L := [(0,.agg (rc x e ho true (.slice va L.length vc)).toArray),(1,.int .i64 u)]) Try.func5 rfl (by kernel_rfl) rfl ?_
 intro a hF
 refine cS ?_
 refine cP 0 hF ?_
 refine SeqK.eff (k' := 1) (Does.new (v := .pointer (some ⟨h.size,0,none⟩)) (o := .cells (rc x e ho true (.slice va L.length vc)).toArray 26) (by kernel_rfl)) rfl ?_
 rintro _ h1 ⟨rfl,hh⟩
 have g2 : Ext h h1 := push_ext hh
 have m3 : h1[h.size]? = some (.cells (rc x e ho true (.slice va L.length vc)).toArray 26) := push_at hh
 clear hh
 have lt4 := blk_lt m3
 have zs5 := e0.size
 have hlo := e0.size
 have sepo := sep
 replace e0 := e0.ext g2
 replace sep := sep.up g2.size
 replace sep := sepo.new hlo (blk_lt m3)
 clear sepo hlo
 refine sP 2 [.bool false] ?_
 refine sD [(1,.int .i64 u),(2,pV h.size)] ?_
 clear hF a; intro a hF
 refine tK ?_
 refine cS ?_
 refine cP 1 hF ?_
 refine SeqK.eff (k' := 1) (Does.call (f := 10) (args := #[]) (by kernel_rfl) (shown_sat _)) rfl ?_
 rintro _ h6 ⟨rfl,g⟩
 replace e0 := e0.ext g
 replace m3 := Ext.blk g m3
 replace sep := sep.up g.size
 clear g
 refine sP 2 [.bool true] ?_
 refine sD [(1,.int .i64 u),(2,pV h.size),(5,.bool true)] ?_
 clear hF a; intro a hF
 refine tK ?_
 refine cS ?_
 refine cS ?_
 refine cP 2 hF ?_
 refine sP 2 [.bool true,.bool false] ?_
 refine sD [(1,.int .i64 u),(2,pV h.size),(5,.bool true),(13,.bool false)] ?_
 clear hF a; intro a hF
 refine tK ?_
 refine cF 13 hF ?_
 refine cN ?_
 refine tK ?_
 refine cS ?_
 refine cP 4 hF ?_
 refine sC 1 (.agg (rc x e ho true (.slice va L.length vc)).toArray) (Calm.load (T := 26) (p := ⟨h.size,0,none⟩) (by kernel_rfl) (Loads.blk (vs := rc x e ho true (.slice va L.length vc)) (by kernel_rfl) m3 rfl)) ?_
 refine SeqK.eff (k' := 2) (Does.call (f := 11) (args := #[.agg (rc x e ho true (.slice va L.length vc)).toArray]) (by kernel_rfl) (copied_sat _ x e ho true L va vc (hr.ext e0) hL)) rfl ?_
 rintro _ h9 ⟨_,rfl,ad7,cap8,rfl,ownx,hge,g⟩
 have hlo := e0.size
 have sepo := sep
 replace e0 := e0.ext g
 replace m3 := Ext.blk g m3
 replace sep := sep.up g.size
 replace sep := sepo.cons (x := ad7.map (fun (x : Addr) => x.block)) g.size hlo (fun k e => ⟨hge k e,ownx.lt (by rw [blkOf_slice]; exact e)⟩)
 have own_own : Own h9 (.slice ad7 L.length cap8) 49 L.length 4 (prow L) := ownx; clear ownx sepo hlo hge g
 refine SeqK.eff (k' := 3) (Does.new (v := .pointer (some ⟨h9.size,0,none⟩)) (o := .cells (rc rb0 (0 : Int) false false (.slice none 0 0)).toArray 26) (by kernel_rfl)) rfl ?_
 rintro _ h10 ⟨rfl,hh⟩
 have g11 : Ext h9 h10 := push_ext hh
 have m12 : h10[h9.size]? = some (.cells (rc rb0 (0 : Int) false false (.slice none 0 0)).toArray 26) := push_at hh
 clear hh
 have lt13 := blk_lt m12
 have zs14 := e0.size
 have hlo := e0.size
 have sepo := sep
 replace e0 := e0.ext g11
 replace own_own := own_own.ext g11
 replace m3 := Ext.blk g11 m3
 replace sep := sep.up g11.size
 replace sep := sepo.new hlo (blk_lt m12)
 clear sepo hlo
 refine SeqK.eff (k' := 4) (Does.store (b := h9.size) (off := 0) (vs := rc x e ho true (.slice ad7 L.length cap8)) (l := rc rb0 (0 : Int) false false (.slice none 0 0)) (by kernel_rfl) m12 (of_decide_eq_true (by kernel_rfl)) (List.all_eq_true.1 (by kernel_rfl))) rfl ?_
 rintro _ h15 ⟨rfl,hh⟩
 have g16 : Grew (some (h9.size)) h10 h15 := hput_gr hh
 replace m12 : h15[h9.size]? = some (.cells (rc x e ho true (.slice ad7 L.length cap8)).toArray 26) := hput_at (off := 0) (vs := rc x e ho true (.slice ad7 L.length cap8)) (l := (rc rb0 (0 : Int) false false (.slice none 0 0))) hh (by kernel_rfl) m12
 clear hh
 replace e0 := e0.grew g16 (sep.low 0 rfl)
 replace own_own := own_own.kept g16 (by rw [blkOf_slice]; exact (sep.ap 1 0))
 replace m3 := Grew.blk g16 m3 ((sep.bp 2 0))
 replace sep := sep.up g16.size
 refine sD [(1,.int .i64 u),(2,pV h.size),(5,.bool true),(6,pV h9.size)] ?_
 clear hF a; intro a hF
 refine tK ?_
 refine cS ?_
 refine cP 5 hF ?_
 refine sC 1 (.agg (rc x e ho true (.slice ad7 L.length cap8)).toArray) (Calm.load (T := 26) (p := ⟨h9.size,0,none⟩) (by kernel_rfl) (Loads.blk (vs := rc x e ho true (.slice ad7 L.length cap8)) (by kernel_rfl) m12 rfl)) ?_
 refine sP 2 [.int .i64 u] ?_
 refine SeqK.eff (k' := 3) (Does.call (f := 18) (args := #[.agg (rc x e ho true (.slice ad7 L.length cap8)).toArray,.int .i64 u]) (by kernel_rfl) (del_gone _ x e ho L ad7 cap8 u)) rfl ?_
 rintro _ h17 ⟨rfl,g⟩
 replace e0 := e0.ext g
 replace own_own := own_own.ext g
 replace m3 := Ext.blk g m3
 replace m12 := Ext.blk g m12
 replace sep := sep.up g.size
 clear g
 refine sP 6 [.tuple #[.agg (rc rb0 (0 : Int) false false (.slice none 0 0)).toArray,.int .i64 213],.agg (rc rb0 (0 : Int) false false (.slice none 0 0)).toArray,.int .i64 213] ?_
 refine SeqK.eff (k' := 7) (Does.new (v := .pointer (some ⟨h17.size,0,none⟩)) (o := .cells (rc rb0 (0 : Int) false false (.slice none 0 0)).toArray 26) (by kernel_rfl)) rfl ?_
 rintro _ h18 ⟨rfl,hh⟩
 have g19 : Ext h17 h18 := push_ext hh
 have m20 : h18[h17.size]? = some (.cells (rc rb0 (0 : Int) false false (.slice none 0 0)).toArray 26) := push_at hh
 clear hh
 have lt21 := blk_lt m20
 have zs22 := e0.size
 have hlo := e0.size
 have sepo := sep
 replace e0 := e0.ext g19
 replace own_own := own_own.ext g19
 replace m3 := Ext.blk g19 m3
 replace m12 := Ext.blk g19 m12
 replace sep := sep.up g19.size
 replace sep := sepo.new hlo (blk_lt m20)
 clear sepo hlo
 refine SeqK.eff (k' := 8) (Does.store (b := h17.size) (off := 0) (vs := rc rb0 (0 : Int) false false (.slice none 0 0)) (l := rc rb0 (0 : Int) false false (.slice none 0 0)) (by kernel_rfl) m20 (of_decide_eq_true (by kernel_rfl)) (List.all_eq_true.1 (by kernel_rfl))) rfl ?_
 rintro _ h23 ⟨rfl,hh⟩
 have g24 : Grew (some (h17.size)) h18 h23 := hput_gr hh
 replace m20 : h23[h17.size]? = some (.cells (rc rb0 (0 : Int) false false (.slice none 0 0)).toArray 26) := hput_at (off := 0) (vs := rc rb0 (0 : Int) false false (.slice none 0 0)) (l := (rc rb0 (0 : Int) false false (.slice none 0 0))) hh (by kernel_rfl) m20
 clear hh
 replace e0 := e0.grew g24 (sep.low 0 rfl)
 replace own_own := own_own.kept g24 (by rw [blkOf_slice]; exact (sep.ap 2 0))
 replace m3 := Grew.blk g24 m3 ((sep.bp 3 0))
 replace m12 := Grew.blk g24 m12 ((sep.bp 1 0))
 replace sep := sep.up g24.size
 refine sP 9 [.int .i64 213] ?_
 refine sD [(1,.int .i64 u),(2,pV h.size),(5,.bool true),(6,pV h9.size),(7,pV h17.size),(8,.int .i64 213)] ?_
 clear hF a; intro a hF
 refine tK ?_
 refine cS ?_
 refine cP 6 hF ?_
 refine sC 1 (.agg (rc x e ho true (.slice va L.length vc)).toArray) (Calm.load (T := 26) (p := ⟨h.size,0,none⟩) (by kernel_rfl) (Loads.blk (vs := rc x e ho true (.slice va L.length vc)) (by kernel_rfl) m3 rfl)) ?_
 refine sP 2 [.int .i64 u] ?_
 refine SeqK.eff (k' := 3) (Does.call (f := 19) (args := #[.agg (rc x e ho true (.slice va L.length vc)).toArray,.int .i64 u]) (by kernel_rfl) (rdel_gone _ x e ho L va vc u)) rfl ?_
 rintro _ h25 ⟨rfl,g⟩
 replace e0 := e0.ext g
 replace own_own := own_own.ext g
 replace m3 := Ext.blk g m3
 replace m12 := Ext.blk g m12
 replace m20 := Ext.blk g m20
 replace sep := sep.up g.size
 clear g
 refine sP 6 [.tuple #[.agg (rc rb0 (0 : Int) false false (.slice none 0 0)).toArray,.int .i64 213],.agg (rc rb0 (0 : Int) false false (.slice none 0 0)).toArray,.int .i64 213] ?_
 refine SeqK.eff (k' := 7) (Does.new (v := .pointer (some ⟨h25.size,0,none⟩)) (o := .cells (rc rb0 (0 : Int) false false (.slice none 0 0)).toArray 26) (by kernel_rfl)) rfl ?_
 rintro _ h26 ⟨rfl,hh⟩
 have g27 : Ext h25 h26 := push_ext hh
 have m28 : h26[h25.size]? = some (.cells (rc rb0 (0 : Int) false false (.slice none 0 0)).toArray 26) := push_at hh
 clear hh
 have lt29 := blk_lt m28
 have zs30 := e0.size
 have hlo := e0.size
 have sepo := sep
 replace e0 := e0.ext g27
 replace own_own := own_own.ext g27
 replace m3 := Ext.blk g27 m3
 replace m12 := Ext.blk g27 m12
 replace m20 := Ext.blk g27 m20
 replace sep := sep.up g27.size
 replace sep := sepo.new hlo (blk_lt m28)
 clear sepo hlo
 refine SeqK.eff (k' := 8) (Does.store (b := h25.size) (off := 0) (vs := rc rb0 (0 : Int) false false (.slice none 0 0)) (l := rc rb0 (0 : Int) false false (.slice none 0 0)) (by kernel_rfl) m28 (of_decide_eq_true (by kernel_rfl)) (List.all_eq_true.1 (by kernel_rfl))) rfl ?_
 rintro _ h31 ⟨rfl,hh⟩
 have g32 : Grew (some (h25.size)) h26 h31 := hput_gr hh
 replace m28 : h31[h25.size]? = some (.cells (rc rb0 (0 : Int) false false (.slice none 0 0)).toArray 26) := hput_at (off := 0) (vs := rc rb0 (0 : Int) false false (.slice none 0 0)) (l := (rc rb0 (0 : Int) false false (.slice none 0 0))) hh (by kernel_rfl) m28
 clear hh
 replace e0 := e0.grew g32 (sep.low 0 rfl)
 replace own_own := own_own.kept g32 (by rw [blkOf_slice]; exact (sep.ap 3 0))
 replace m3 := Grew.blk g32 m3 ((sep.bp 4 0))
 replace m12 := Grew.blk g32 m12 ((sep.bp 2 0))
 replace m20 := Grew.blk g32 m20 ((sep.bp 1 0))
 replace sep := sep.up g32.size
 refine sP 9 [.int .i64 213] ?_
 refine sD [(2,pV h.size),(5,.bool true),(6,pV h9.size),(7,pV h17.size),(8,.int .i64 213),(9,pV h25.size),(10,.int .i64 213)] ?_
 clear hF a; intro a hF
 refine tK ?_
 refine cS ?_
 refine cP 7 hF ?_
 refine sP 7 [.bool true,.bool true,.int .i64 213,.int .i64 213,.bool true,.bool true,.bool true] ?_
 refine sC 8 (.agg (rc rb0 (0 : Int) false false (.slice none 0 0)).toArray) (Calm.load (T := 26) (p := ⟨h17.size,0,none⟩) (by kernel_rfl) (Loads.blk (vs := rc rb0 (0 : Int) false false (.slice none 0 0)) (by kernel_rfl) m20 rfl)) ?_
 refine sC 9 (.agg (rc rb0 (0 : Int) false false (.slice none 0 0)).toArray) (Calm.load (T := 26) (p := ⟨h25.size,0,none⟩) (by kernel_rfl) (Loads.blk (vs := rc rb0 (0 : Int) false false (.slice none 0 0)) (by kernel_rfl) m28 rfl)) ?_
 refine SeqK.eff (k' := 10) (Does.call (f := 14) (args := #[.agg (rc rb0 (0 : Int) false false (.slice none 0 0)).toArray,.agg (rc rb0 (0 : Int) false false (.slice none 0 0)).toArray]) (by kernel_rfl) (same_sat _ rb0 (0 : Int) false false [] none 0 (Row.nil _ 4) (by decide) none 0 (Row.nil _ 4))) rfl ?_
 rintro _ h33 ⟨rfl,g⟩
 replace e0 := e0.ext g
 replace own_own := own_own.ext g
 replace m3 := Ext.blk g m3
 replace m12 := Ext.blk g m12
 replace m20 := Ext.blk g m20
 replace m28 := Ext.blk g m28
 replace sep := sep.up g.size
 clear g
 refine sP 12 [.bool true,.bool true] ?_
 refine sC 13 (.agg (rc x e ho true (.slice ad7 L.length cap8)).toArray) (Calm.load (T := 26) (p := ⟨h9.size,0,none⟩) (by kernel_rfl) (Loads.blk (vs := rc x e ho true (.slice ad7 L.length cap8)) (by kernel_rfl) m12 rfl)) ?_
 refine sC 14 (.agg (rc x e ho true (.slice va L.length vc)).toArray) (Calm.load (T := 26) (p := ⟨h.size,0,none⟩) (by kernel_rfl) (Loads.blk (vs := rc x e ho true (.slice va L.length vc)) (by kernel_rfl) m3 rfl)) ?_
 refine SeqK.eff (k' := 15) (Does.call (f := 14) (args := #[.agg (rc x e ho true (.slice ad7 L.length cap8)).toArray,.agg (rc x e ho true (.slice va L.length vc)).toArray]) (by kernel_rfl) (same_sat _ x e ho true L ad7 cap8 (own_own.row) hL va vc (hr.ext e0))) rfl ?_
 rintro _ h34 ⟨rfl,g⟩
 replace e0 := e0.ext g
 replace own_own := own_own.ext g
 replace m3 := Ext.blk g m3
 replace m12 := Ext.blk g m12
 replace m20 := Ext.blk g m20
 replace m28 := Ext.blk g m28
 replace sep := sep.up g.size
 clear g
 refine sP 17 [.bool true,.bool true] ?_
 refine sD [(4,.bool true)] ?_
 clear hF a; intro a hF
 refine tK ?_
 refine cR ?_
 show retK Try.prog Try.f5 (fun v h' => v = .bool true ∧ Ext h h') .ret a h34
 refine ret_ok [.tmp 4] [.bool true] (.bool true) rfl hF ⟨rfl,trivial⟩ rfl ?_
 exact ⟨rfl,e0⟩
theorem deletes_held (h : Heap) (x : RB) (e : Int)  (L : List Pl) (va : Option Addr) (vc : Nat) (hr : Row h (.slice va L.length vc) L.length 4 (prow L)) (hL : L.length ≤ 1099511627776) (u : Int) : Sat Try.prog 5 #[.agg (rc x e true false (.slice va L.length vc)).toArray,.int .i64 u] h fun v h' => v = .bool true ∧ Ext h h' := by
 have e0 := Ext.refl h
 have sep : Sep h.size h.size [] := Sep.nil _ _
 refine sat_of (args := [.agg (rc x e true false (.slice va L.length vc)).toArray,.int .i64 u]) (fn := Try.f5) (B := b5) (n := 44) (L := [(0,.agg (rc x e true false (.slice va L.length vc)).toArray),(1,.int .i64 u)]) Try.func5 rfl (by kernel_rfl) rfl ?_
 intro a hF
 refine cS ?_
 refine cP 0 hF ?_
 refine SeqK.eff (k' := 1) (Does.new (v := .pointer (some ⟨h.size,0,none⟩)) (o := .cells (rc x e true false (.slice va L.length vc)).toArray 26) (by kernel_rfl)) rfl ?_
 rintro _ h1 ⟨rfl,hh⟩
 have g2 : Ext h h1 := push_ext hh
 have m3 : h1[h.size]? = some (.cells (rc x e true false (.slice va L.length vc)).toArray 26) := push_at hh
 clear hh
 have lt4 := blk_lt m3
 have zs5 := e0.size
 have hlo := e0.size
 have sepo := sep
 replace e0 := e0.ext g2
 replace sep := sep.up g2.size
 replace sep := sepo.new hlo (blk_lt m3)
 clear sepo hlo
 refine sP 2 [.bool false] ?_
 refine sD [(1,.int .i64 u),(2,pV h.size)] ?_
 clear hF a; intro a hF
 refine tK ?_
 refine cS ?_
 refine cP 1 hF ?_
 refine SeqK.eff (k' := 1) (Does.call (f := 10) (args := #[]) (by kernel_rfl) (shown_sat _)) rfl ?_
 rintro _ h6 ⟨rfl,g⟩
 replace e0 := e0.ext g
 replace m3 := Ext.blk g m3
 replace sep := sep.up g.size
 clear g
 refine sP 2 [.bool true] ?_
 refine sD [(1,.int .i64 u),(2,pV h.size),(5,.bool true)] ?_
 clear hF a; intro a hF
 refine tK ?_
 refine cS ?_
 refine cS ?_
 refine cP 2 hF ?_
 refine sP 2 [.bool true,.bool false] ?_
 refine sD [(1,.int .i64 u),(2,pV h.size),(5,.bool true),(13,.bool false)] ?_
 clear hF a; intro a hF
 refine tK ?_
 refine cF 13 hF ?_
 refine cN ?_
 refine tK ?_
 refine cS ?_
 refine cP 4 hF ?_
 refine sC 1 (.agg (rc x e true false (.slice va L.length vc)).toArray) (Calm.load (T := 26) (p := ⟨h.size,0,none⟩) (by kernel_rfl) (Loads.blk (vs := rc x e true false (.slice va L.length vc)) (by kernel_rfl) m3 rfl)) ?_
 refine SeqK.eff (k' := 2) (Does.call (f := 11) (args := #[.agg (rc x e true false (.slice va L.length vc)).toArray]) (by kernel_rfl) (copied_sat _ x e true false L va vc (hr.ext e0) hL)) rfl ?_
 rintro _ h9 ⟨_,rfl,ad7,cap8,rfl,ownx,hge,g⟩
 have hlo := e0.size
 have sepo := sep
 replace e0 := e0.ext g
 replace m3 := Ext.blk g m3
 replace sep := sep.up g.size
 replace sep := sepo.cons (x := ad7.map (fun (x : Addr) => x.block)) g.size hlo (fun k e => ⟨hge k e,ownx.lt (by rw [blkOf_slice]; exact e)⟩)
 have own_own : Own h9 (.slice ad7 L.length cap8) 49 L.length 4 (prow L) := ownx; clear ownx sepo hlo hge g
 refine SeqK.eff (k' := 3) (Does.new (v := .pointer (some ⟨h9.size,0,none⟩)) (o := .cells (rc rb0 (0 : Int) false false (.slice none 0 0)).toArray 26) (by kernel_rfl)) rfl ?_
 rintro _ h10 ⟨rfl,hh⟩
 have g11 : Ext h9 h10 := push_ext hh
 have m12 : h10[h9.size]? = some (.cells (rc rb0 (0 : Int) false false (.slice none 0 0)).toArray 26) := push_at hh
 clear hh
 have lt13 := blk_lt m12
 have zs14 := e0.size
 have hlo := e0.size
 have sepo := sep
 replace e0 := e0.ext g11
 replace own_own := own_own.ext g11
 replace m3 := Ext.blk g11 m3
 replace sep := sep.up g11.size
 replace sep := sepo.new hlo (blk_lt m12)
 clear sepo hlo
 refine SeqK.eff (k' := 4) (Does.store (b := h9.size) (off := 0) (vs := rc x e true false (.slice ad7 L.length cap8)) (l := rc rb0 (0 : Int) false false (.slice none 0 0)) (by kernel_rfl) m12 (of_decide_eq_true (by kernel_rfl)) (List.all_eq_true.1 (by kernel_rfl))) rfl ?_
 rintro _ h15 ⟨rfl,hh⟩
 have g16 : Grew (some (h9.size)) h10 h15 := hput_gr hh
 replace m12 : h15[h9.size]? = some (.cells (rc x e true false (.slice ad7 L.length cap8)).toArray 26) := hput_at (off := 0) (vs := rc x e true false (.slice ad7 L.length cap8)) (l := (rc rb0 (0 : Int) false false (.slice none 0 0))) hh (by kernel_rfl) m12
 clear hh
 replace e0 := e0.grew g16 (sep.low 0 rfl)
 replace own_own := own_own.kept g16 (by rw [blkOf_slice]; exact (sep.ap 1 0))
 replace m3 := Grew.blk g16 m3 ((sep.bp 2 0))
 replace sep := sep.up g16.size
 refine sD [(1,.int .i64 u),(2,pV h.size),(5,.bool true),(6,pV h9.size)] ?_
 clear hF a; intro a hF
 refine tK ?_
 refine cS ?_
 refine cP 5 hF ?_
 refine sC 1 (.agg (rc x e true false (.slice ad7 L.length cap8)).toArray) (Calm.load (T := 26) (p := ⟨h9.size,0,none⟩) (by kernel_rfl) (Loads.blk (vs := rc x e true false (.slice ad7 L.length cap8)) (by kernel_rfl) m12 rfl)) ?_
 refine sP 2 [.int .i64 u] ?_
 refine SeqK.eff (k' := 3) (Does.call (f := 18) (args := #[.agg (rc x e true false (.slice ad7 L.length cap8)).toArray,.int .i64 u]) (by kernel_rfl) (del_held _ x e L ad7 cap8 u)) rfl ?_
 rintro _ h17 ⟨rfl,g⟩
 replace e0 := e0.ext g
 replace own_own := own_own.ext g
 replace m3 := Ext.blk g m3
 replace m12 := Ext.blk g m12
 replace sep := sep.up g.size
 clear g
 refine sP 6 [.tuple #[.agg (rc rb0 (0 : Int) false false (.slice none 0 0)).toArray,.int .i64 214],.agg (rc rb0 (0 : Int) false false (.slice none 0 0)).toArray,.int .i64 214] ?_
 refine SeqK.eff (k' := 7) (Does.new (v := .pointer (some ⟨h17.size,0,none⟩)) (o := .cells (rc rb0 (0 : Int) false false (.slice none 0 0)).toArray 26) (by kernel_rfl)) rfl ?_
 rintro _ h18 ⟨rfl,hh⟩
 have g19 : Ext h17 h18 := push_ext hh
 have m20 : h18[h17.size]? = some (.cells (rc rb0 (0 : Int) false false (.slice none 0 0)).toArray 26) := push_at hh
 clear hh
 have lt21 := blk_lt m20
 have zs22 := e0.size
 have hlo := e0.size
 have sepo := sep
 replace e0 := e0.ext g19
 replace own_own := own_own.ext g19
 replace m3 := Ext.blk g19 m3
 replace m12 := Ext.blk g19 m12
 replace sep := sep.up g19.size
 replace sep := sepo.new hlo (blk_lt m20)
 clear sepo hlo
 refine SeqK.eff (k' := 8) (Does.store (b := h17.size) (off := 0) (vs := rc rb0 (0 : Int) false false (.slice none 0 0)) (l := rc rb0 (0 : Int) false false (.slice none 0 0)) (by kernel_rfl) m20 (of_decide_eq_true (by kernel_rfl)) (List.all_eq_true.1 (by kernel_rfl))) rfl ?_
 rintro _ h23 ⟨rfl,hh⟩
 have g24 : Grew (some (h17.size)) h18 h23 := hput_gr hh
 replace m20 : h23[h17.size]? = some (.cells (rc rb0 (0 : Int) false false (.slice none 0 0)).toArray 26) := hput_at (off := 0) (vs := rc rb0 (0 : Int) false false (.slice none 0 0)) (l := (rc rb0 (0 : Int) false false (.slice none 0 0))) hh (by kernel_rfl) m20
 clear hh
 replace e0 := e0.grew g24 (sep.low 0 rfl)
 replace own_own := own_own.kept g24 (by rw [blkOf_slice]; exact (sep.ap 2 0))
 replace m3 := Grew.blk g24 m3 ((sep.bp 3 0))
 replace m12 := Grew.blk g24 m12 ((sep.bp 1 0))
 replace sep := sep.up g24.size
 refine sP 9 [.int .i64 214] ?_
 refine sD [(1,.int .i64 u),(2,pV h.size),(5,.bool true),(6,pV h9.size),(7,pV h17.size),(8,.int .i64 214)] ?_
 clear hF a; intro a hF
 refine tK ?_
 refine cS ?_
 refine cP 6 hF ?_
 refine sC 1 (.agg (rc x e true false (.slice va L.length vc)).toArray) (Calm.load (T := 26) (p := ⟨h.size,0,none⟩) (by kernel_rfl) (Loads.blk (vs := rc x e true false (.slice va L.length vc)) (by kernel_rfl) m3 rfl)) ?_
 refine sP 2 [.int .i64 u] ?_
 refine SeqK.eff (k' := 3) (Does.call (f := 19) (args := #[.agg (rc x e true false (.slice va L.length vc)).toArray,.int .i64 u]) (by kernel_rfl) (rdel_held _ x e L va vc u)) rfl ?_
 rintro _ h25 ⟨rfl,g⟩
 replace e0 := e0.ext g
 replace own_own := own_own.ext g
 replace m3 := Ext.blk g m3
 replace m12 := Ext.blk g m12
 replace m20 := Ext.blk g m20
 replace sep := sep.up g.size
 clear g
 refine sP 6 [.tuple #[.agg (rc rb0 (0 : Int) false false (.slice none 0 0)).toArray,.int .i64 214],.agg (rc rb0 (0 : Int) false false (.slice none 0 0)).toArray,.int .i64 214] ?_
 refine SeqK.eff (k' := 7) (Does.new (v := .pointer (some ⟨h25.size,0,none⟩)) (o := .cells (rc rb0 (0 : Int) false false (.slice none 0 0)).toArray 26) (by kernel_rfl)) rfl ?_
 rintro _ h26 ⟨rfl,hh⟩
 have g27 : Ext h25 h26 := push_ext hh
 have m28 : h26[h25.size]? = some (.cells (rc rb0 (0 : Int) false false (.slice none 0 0)).toArray 26) := push_at hh
 clear hh
 have lt29 := blk_lt m28
 have zs30 := e0.size
 have hlo := e0.size
 have sepo := sep
 replace e0 := e0.ext g27
 replace own_own := own_own.ext g27
 replace m3 := Ext.blk g27 m3
 replace m12 := Ext.blk g27 m12
 replace m20 := Ext.blk g27 m20
 replace sep := sep.up g27.size
 replace sep := sepo.new hlo (blk_lt m28)
 clear sepo hlo
 refine SeqK.eff (k' := 8) (Does.store (b := h25.size) (off := 0) (vs := rc rb0 (0 : Int) false false (.slice none 0 0)) (l := rc rb0 (0 : Int) false false (.slice none 0 0)) (by kernel_rfl) m28 (of_decide_eq_true (by kernel_rfl)) (List.all_eq_true.1 (by kernel_rfl))) rfl ?_
 rintro _ h31 ⟨rfl,hh⟩
 have g32 : Grew (some (h25.size)) h26 h31 := hput_gr hh
 replace m28 : h31[h25.size]? = some (.cells (rc rb0 (0 : Int) false false (.slice none 0 0)).toArray 26) := hput_at (off := 0) (vs := rc rb0 (0 : Int) false false (.slice none 0 0)) (l := (rc rb0 (0 : Int) false false (.slice none 0 0))) hh (by kernel_rfl) m28
 clear hh
 replace e0 := e0.grew g32 (sep.low 0 rfl)
 replace own_own := own_own.kept g32 (by rw [blkOf_slice]; exact (sep.ap 3 0))
 replace m3 := Grew.blk g32 m3 ((sep.bp 4 0))
 replace m12 := Grew.blk g32 m12 ((sep.bp 2 0))
 replace m20 := Grew.blk g32 m20 ((sep.bp 1 0))
 replace sep := sep.up g32.size
 refine sP 9 [.int .i64 214] ?_
 refine sD [(2,pV h.size),(5,.bool true),(6,pV h9.size),(7,pV h17.size),(8,.int .i64 214),(9,pV h25.size),(10,.int .i64 214)] ?_
 clear hF a; intro a hF
 refine tK ?_
 refine cS ?_
 refine cP 7 hF ?_
 refine sP 7 [.bool true,.bool true,.int .i64 214,.int .i64 214,.bool true,.bool true,.bool true] ?_
 refine sC 8 (.agg (rc rb0 (0 : Int) false false (.slice none 0 0)).toArray) (Calm.load (T := 26) (p := ⟨h17.size,0,none⟩) (by kernel_rfl) (Loads.blk (vs := rc rb0 (0 : Int) false false (.slice none 0 0)) (by kernel_rfl) m20 rfl)) ?_
 refine sC 9 (.agg (rc rb0 (0 : Int) false false (.slice none 0 0)).toArray) (Calm.load (T := 26) (p := ⟨h25.size,0,none⟩) (by kernel_rfl) (Loads.blk (vs := rc rb0 (0 : Int) false false (.slice none 0 0)) (by kernel_rfl) m28 rfl)) ?_
 refine SeqK.eff (k' := 10) (Does.call (f := 14) (args := #[.agg (rc rb0 (0 : Int) false false (.slice none 0 0)).toArray,.agg (rc rb0 (0 : Int) false false (.slice none 0 0)).toArray]) (by kernel_rfl) (same_sat _ rb0 (0 : Int) false false [] none 0 (Row.nil _ 4) (by decide) none 0 (Row.nil _ 4))) rfl ?_
 rintro _ h33 ⟨rfl,g⟩
 replace e0 := e0.ext g
 replace own_own := own_own.ext g
 replace m3 := Ext.blk g m3
 replace m12 := Ext.blk g m12
 replace m20 := Ext.blk g m20
 replace m28 := Ext.blk g m28
 replace sep := sep.up g.size
 clear g
 refine sP 12 [.bool true,.bool true] ?_
 refine sC 13 (.agg (rc x e true false (.slice ad7 L.length cap8)).toArray) (Calm.load (T := 26) (p := ⟨h9.size,0,none⟩) (by kernel_rfl) (Loads.blk (vs := rc x e true false (.slice ad7 L.length cap8)) (by kernel_rfl) m12 rfl)) ?_
 refine sC 14 (.agg (rc x e true false (.slice va L.length vc)).toArray) (Calm.load (T := 26) (p := ⟨h.size,0,none⟩) (by kernel_rfl) (Loads.blk (vs := rc x e true false (.slice va L.length vc)) (by kernel_rfl) m3 rfl)) ?_
 refine SeqK.eff (k' := 15) (Does.call (f := 14) (args := #[.agg (rc x e true false (.slice ad7 L.length cap8)).toArray,.agg (rc x e true false (.slice va L.length vc)).toArray]) (by kernel_rfl) (same_sat _ x e true false L ad7 cap8 (own_own.row) hL va vc (hr.ext e0))) rfl ?_
 rintro _ h34 ⟨rfl,g⟩
 replace e0 := e0.ext g
 replace own_own := own_own.ext g
 replace m3 := Ext.blk g m3
 replace m12 := Ext.blk g m12
 replace m20 := Ext.blk g m20
 replace m28 := Ext.blk g m28
 replace sep := sep.up g.size
 clear g
 refine sP 17 [.bool true,.bool true] ?_
 refine sD [(4,.bool true)] ?_
 clear hF a; intro a hF
 refine tK ?_
 refine cR ?_
 show retK Try.prog Try.f5 (fun v h' => v = .bool true ∧ Ext h h') .ret a h34
 refine ret_ok [.tmp 4] [.bool true] (.bool true) rfl hF ⟨rfl,trivial⟩ rfl ?_
 exact ⟨rfl,e0⟩
theorem deletes_soon (h : Heap) (x : RB) (e : Int)  (L : List Pl) (va : Option Addr) (vc : Nat) (hr : Row h (.slice va L.length vc) L.length 4 (prow L)) (hL : L.length ≤ 1099511627776) (u : Int) (hu : u < e) : Sat Try.prog 5 #[.agg (rc x e false false (.slice va L.length vc)).toArray,.int .i64 u] h fun v h' => v = .bool true ∧ Ext h h' := by
 have e0 := Ext.refl h
 have sep : Sep h.size h.size [] := Sep.nil _ _
 refine sat_of (args := [.agg (rc x e false false (.slice va L.length vc)).toArray,.int .i64 u]) (fn := Try.f5) (B := b5) (n := 44) (L := [(0,.agg (rc x e false false (.slice va L.length vc)).toArray),(1,.int .i64 u)]) Try.func5 rfl (by kernel_rfl) rfl ?_
 intro a hF
 refine cS ?_
 refine cP 0 hF ?_
 refine SeqK.eff (k' := 1) (Does.new (v := .pointer (some ⟨h.size,0,none⟩)) (o := .cells (rc x e false false (.slice va L.length vc)).toArray 26) (by kernel_rfl)) rfl ?_
 rintro _ h1 ⟨rfl,hh⟩
 have g2 : Ext h h1 := push_ext hh
 have m3 : h1[h.size]? = some (.cells (rc x e false false (.slice va L.length vc)).toArray 26) := push_at hh
 clear hh
 have lt4 := blk_lt m3
 have zs5 := e0.size
 have hlo := e0.size
 have sepo := sep
 replace e0 := e0.ext g2
 replace sep := sep.up g2.size
 replace sep := sepo.new hlo (blk_lt m3)
 clear sepo hlo
 refine sP 2 [.bool false] ?_
 refine sD [(1,.int .i64 u),(2,pV h.size)] ?_
 clear hF a; intro a hF
 refine tK ?_
 refine cS ?_
 refine cP 1 hF ?_
 refine SeqK.eff (k' := 1) (Does.call (f := 10) (args := #[]) (by kernel_rfl) (shown_sat _)) rfl ?_
 rintro _ h6 ⟨rfl,g⟩
 replace e0 := e0.ext g
 replace m3 := Ext.blk g m3
 replace sep := sep.up g.size
 clear g
 refine sP 2 [.bool true] ?_
 refine sD [(1,.int .i64 u),(2,pV h.size),(5,.bool true)] ?_
 clear hF a; intro a hF
 refine tK ?_
 refine cS ?_
 refine cS ?_
 refine cP 2 hF ?_
 refine sP 2 [.bool true,.bool false] ?_
 refine sD [(1,.int .i64 u),(2,pV h.size),(5,.bool true),(13,.bool false)] ?_
 clear hF a; intro a hF
 refine tK ?_
 refine cF 13 hF ?_
 refine cN ?_
 refine tK ?_
 refine cS ?_
 refine cP 4 hF ?_
 refine sC 1 (.agg (rc x e false false (.slice va L.length vc)).toArray) (Calm.load (T := 26) (p := ⟨h.size,0,none⟩) (by kernel_rfl) (Loads.blk (vs := rc x e false false (.slice va L.length vc)) (by kernel_rfl) m3 rfl)) ?_
 refine SeqK.eff (k' := 2) (Does.call (f := 11) (args := #[.agg (rc x e false false (.slice va L.length vc)).toArray]) (by kernel_rfl) (copied_sat _ x e false false L va vc (hr.ext e0) hL)) rfl ?_
 rintro _ h9 ⟨_,rfl,ad7,cap8,rfl,ownx,hge,g⟩
 have hlo := e0.size
 have sepo := sep
 replace e0 := e0.ext g
 replace m3 := Ext.blk g m3
 replace sep := sep.up g.size
 replace sep := sepo.cons (x := ad7.map (fun (x : Addr) => x.block)) g.size hlo (fun k e => ⟨hge k e,ownx.lt (by rw [blkOf_slice]; exact e)⟩)
 have own_own : Own h9 (.slice ad7 L.length cap8) 49 L.length 4 (prow L) := ownx; clear ownx sepo hlo hge g
 refine SeqK.eff (k' := 3) (Does.new (v := .pointer (some ⟨h9.size,0,none⟩)) (o := .cells (rc rb0 (0 : Int) false false (.slice none 0 0)).toArray 26) (by kernel_rfl)) rfl ?_
 rintro _ h10 ⟨rfl,hh⟩
 have g11 : Ext h9 h10 := push_ext hh
 have m12 : h10[h9.size]? = some (.cells (rc rb0 (0 : Int) false false (.slice none 0 0)).toArray 26) := push_at hh
 clear hh
 have lt13 := blk_lt m12
 have zs14 := e0.size
 have hlo := e0.size
 have sepo := sep
 replace e0 := e0.ext g11
 replace own_own := own_own.ext g11
 replace m3 := Ext.blk g11 m3
 replace sep := sep.up g11.size
 replace sep := sepo.new hlo (blk_lt m12)
 clear sepo hlo
 refine SeqK.eff (k' := 4) (Does.store (b := h9.size) (off := 0) (vs := rc x e false false (.slice ad7 L.length cap8)) (l := rc rb0 (0 : Int) false false (.slice none 0 0)) (by kernel_rfl) m12 (of_decide_eq_true (by kernel_rfl)) (List.all_eq_true.1 (by kernel_rfl))) rfl ?_
 rintro _ h15 ⟨rfl,hh⟩
 have g16 : Grew (some (h9.size)) h10 h15 := hput_gr hh
 replace m12 : h15[h9.size]? = some (.cells (rc x e false false (.slice ad7 L.length cap8)).toArray 26) := hput_at (off := 0) (vs := rc x e false false (.slice ad7 L.length cap8)) (l := (rc rb0 (0 : Int) false false (.slice none 0 0))) hh (by kernel_rfl) m12
 clear hh
 replace e0 := e0.grew g16 (sep.low 0 rfl)
 replace own_own := own_own.kept g16 (by rw [blkOf_slice]; exact (sep.ap 1 0))
 replace m3 := Grew.blk g16 m3 ((sep.bp 2 0))
 replace sep := sep.up g16.size
 refine sD [(1,.int .i64 u),(2,pV h.size),(5,.bool true),(6,pV h9.size)] ?_
 clear hF a; intro a hF
 refine tK ?_
 refine cS ?_
 refine cP 5 hF ?_
 refine sC 1 (.agg (rc x e false false (.slice ad7 L.length cap8)).toArray) (Calm.load (T := 26) (p := ⟨h9.size,0,none⟩) (by kernel_rfl) (Loads.blk (vs := rc x e false false (.slice ad7 L.length cap8)) (by kernel_rfl) m12 rfl)) ?_
 refine sP 2 [.int .i64 u] ?_
 refine SeqK.eff (k' := 3) (Does.call (f := 18) (args := #[.agg (rc x e false false (.slice ad7 L.length cap8)).toArray,.int .i64 u]) (by kernel_rfl) (del_soon _ x e L ad7 cap8 u hu)) rfl ?_
 rintro _ h17 ⟨rfl,g⟩
 replace e0 := e0.ext g
 replace own_own := own_own.ext g
 replace m3 := Ext.blk g m3
 replace m12 := Ext.blk g m12
 replace sep := sep.up g.size
 clear g
 refine sP 6 [.tuple #[.agg (rc rb0 (0 : Int) false false (.slice none 0 0)).toArray,.int .i64 214],.agg (rc rb0 (0 : Int) false false (.slice none 0 0)).toArray,.int .i64 214] ?_
 refine SeqK.eff (k' := 7) (Does.new (v := .pointer (some ⟨h17.size,0,none⟩)) (o := .cells (rc rb0 (0 : Int) false false (.slice none 0 0)).toArray 26) (by kernel_rfl)) rfl ?_
 rintro _ h18 ⟨rfl,hh⟩
 have g19 : Ext h17 h18 := push_ext hh
 have m20 : h18[h17.size]? = some (.cells (rc rb0 (0 : Int) false false (.slice none 0 0)).toArray 26) := push_at hh
 clear hh
 have lt21 := blk_lt m20
 have zs22 := e0.size
 have hlo := e0.size
 have sepo := sep
 replace e0 := e0.ext g19
 replace own_own := own_own.ext g19
 replace m3 := Ext.blk g19 m3
 replace m12 := Ext.blk g19 m12
 replace sep := sep.up g19.size
 replace sep := sepo.new hlo (blk_lt m20)
 clear sepo hlo
 refine SeqK.eff (k' := 8) (Does.store (b := h17.size) (off := 0) (vs := rc rb0 (0 : Int) false false (.slice none 0 0)) (l := rc rb0 (0 : Int) false false (.slice none 0 0)) (by kernel_rfl) m20 (of_decide_eq_true (by kernel_rfl)) (List.all_eq_true.1 (by kernel_rfl))) rfl ?_
 rintro _ h23 ⟨rfl,hh⟩
 have g24 : Grew (some (h17.size)) h18 h23 := hput_gr hh
 replace m20 : h23[h17.size]? = some (.cells (rc rb0 (0 : Int) false false (.slice none 0 0)).toArray 26) := hput_at (off := 0) (vs := rc rb0 (0 : Int) false false (.slice none 0 0)) (l := (rc rb0 (0 : Int) false false (.slice none 0 0))) hh (by kernel_rfl) m20
 clear hh
 replace e0 := e0.grew g24 (sep.low 0 rfl)
 replace own_own := own_own.kept g24 (by rw [blkOf_slice]; exact (sep.ap 2 0))
 replace m3 := Grew.blk g24 m3 ((sep.bp 3 0))
 replace m12 := Grew.blk g24 m12 ((sep.bp 1 0))
 replace sep := sep.up g24.size
 refine sP 9 [.int .i64 214] ?_
 refine sD [(1,.int .i64 u),(2,pV h.size),(5,.bool true),(6,pV h9.size),(7,pV h17.size),(8,.int .i64 214)] ?_
 clear hF a; intro a hF
 refine tK ?_
 refine cS ?_
 refine cP 6 hF ?_
 refine sC 1 (.agg (rc x e false false (.slice va L.length vc)).toArray) (Calm.load (T := 26) (p := ⟨h.size,0,none⟩) (by kernel_rfl) (Loads.blk (vs := rc x e false false (.slice va L.length vc)) (by kernel_rfl) m3 rfl)) ?_
 refine sP 2 [.int .i64 u] ?_
 refine SeqK.eff (k' := 3) (Does.call (f := 19) (args := #[.agg (rc x e false false (.slice va L.length vc)).toArray,.int .i64 u]) (by kernel_rfl) (rdel_soon _ x e L va vc u hu)) rfl ?_
 rintro _ h25 ⟨rfl,g⟩
 replace e0 := e0.ext g
 replace own_own := own_own.ext g
 replace m3 := Ext.blk g m3
 replace m12 := Ext.blk g m12
 replace m20 := Ext.blk g m20
 replace sep := sep.up g.size
 clear g
 refine sP 6 [.tuple #[.agg (rc rb0 (0 : Int) false false (.slice none 0 0)).toArray,.int .i64 214],.agg (rc rb0 (0 : Int) false false (.slice none 0 0)).toArray,.int .i64 214] ?_
 refine SeqK.eff (k' := 7) (Does.new (v := .pointer (some ⟨h25.size,0,none⟩)) (o := .cells (rc rb0 (0 : Int) false false (.slice none 0 0)).toArray 26) (by kernel_rfl)) rfl ?_
 rintro _ h26 ⟨rfl,hh⟩
 have g27 : Ext h25 h26 := push_ext hh
 have m28 : h26[h25.size]? = some (.cells (rc rb0 (0 : Int) false false (.slice none 0 0)).toArray 26) := push_at hh
 clear hh
 have lt29 := blk_lt m28
 have zs30 := e0.size
 have hlo := e0.size
 have sepo := sep
 replace e0 := e0.ext g27
 replace own_own := own_own.ext g27
 replace m3 := Ext.blk g27 m3
 replace m12 := Ext.blk g27 m12
 replace m20 := Ext.blk g27 m20
 replace sep := sep.up g27.size
 replace sep := sepo.new hlo (blk_lt m28)
 clear sepo hlo
 refine SeqK.eff (k' := 8) (Does.store (b := h25.size) (off := 0) (vs := rc rb0 (0 : Int) false false (.slice none 0 0)) (l := rc rb0 (0 : Int) false false (.slice none 0 0)) (by kernel_rfl) m28 (of_decide_eq_true (by kernel_rfl)) (List.all_eq_true.1 (by kernel_rfl))) rfl ?_
 rintro _ h31 ⟨rfl,hh⟩
 have g32 : Grew (some (h25.size)) h26 h31 := hput_gr hh
 replace m28 : h31[h25.size]? = some (.cells (rc rb0 (0 : Int) false false (.slice none 0 0)).toArray 26) := hput_at (off := 0) (vs := rc rb0 (0 : Int) false false (.slice none 0 0)) (l := (rc rb0 (0 : Int) false false (.slice none 0 0))) hh (by kernel_rfl) m28
 clear hh
 replace e0 := e0.grew g32 (sep.low 0 rfl)
 replace own_own := own_own.kept g32 (by rw [blkOf_slice]; exact (sep.ap 3 0))
 replace m3 := Grew.blk g32 m3 ((sep.bp 4 0))
 replace m12 := Grew.blk g32 m12 ((sep.bp 2 0))
 replace m20 := Grew.blk g32 m20 ((sep.bp 1 0))
 replace sep := sep.up g32.size
 refine sP 9 [.int .i64 214] ?_
 refine sD [(2,pV h.size),(5,.bool true),(6,pV h9.size),(7,pV h17.size),(8,.int .i64 214),(9,pV h25.size),(10,.int .i64 214)] ?_
 clear hF a; intro a hF
 refine tK ?_
 refine cS ?_
 refine cP 7 hF ?_
 refine sP 7 [.bool true,.bool true,.int .i64 214,.int .i64 214,.bool true,.bool true,.bool true] ?_
 refine sC 8 (.agg (rc rb0 (0 : Int) false false (.slice none 0 0)).toArray) (Calm.load (T := 26) (p := ⟨h17.size,0,none⟩) (by kernel_rfl) (Loads.blk (vs := rc rb0 (0 : Int) false false (.slice none 0 0)) (by kernel_rfl) m20 rfl)) ?_
 refine sC 9 (.agg (rc rb0 (0 : Int) false false (.slice none 0 0)).toArray) (Calm.load (T := 26) (p := ⟨h25.size,0,none⟩) (by kernel_rfl) (Loads.blk (vs := rc rb0 (0 : Int) false false (.slice none 0 0)) (by kernel_rfl) m28 rfl)) ?_
 refine SeqK.eff (k' := 10) (Does.call (f := 14) (args := #[.agg (rc rb0 (0 : Int) false false (.slice none 0 0)).toArray,.agg (rc rb0 (0 : Int) false false (.slice none 0 0)).toArray]) (by kernel_rfl) (same_sat _ rb0 (0 : Int) false false [] none 0 (Row.nil _ 4) (by decide) none 0 (Row.nil _ 4))) rfl ?_
 rintro _ h33 ⟨rfl,g⟩
 replace e0 := e0.ext g
 replace own_own := own_own.ext g
 replace m3 := Ext.blk g m3
 replace m12 := Ext.blk g m12
 replace m20 := Ext.blk g m20
 replace m28 := Ext.blk g m28
 replace sep := sep.up g.size
 clear g
 refine sP 12 [.bool true,.bool true] ?_
 refine sC 13 (.agg (rc x e false false (.slice ad7 L.length cap8)).toArray) (Calm.load (T := 26) (p := ⟨h9.size,0,none⟩) (by kernel_rfl) (Loads.blk (vs := rc x e false false (.slice ad7 L.length cap8)) (by kernel_rfl) m12 rfl)) ?_
 refine sC 14 (.agg (rc x e false false (.slice va L.length vc)).toArray) (Calm.load (T := 26) (p := ⟨h.size,0,none⟩) (by kernel_rfl) (Loads.blk (vs := rc x e false false (.slice va L.length vc)) (by kernel_rfl) m3 rfl)) ?_
 refine SeqK.eff (k' := 15) (Does.call (f := 14) (args := #[.agg (rc x e false false (.slice ad7 L.length cap8)).toArray,.agg (rc x e false false (.slice va L.length vc)).toArray]) (by kernel_rfl) (same_sat _ x e false false L ad7 cap8 (own_own.row) hL va vc (hr.ext e0))) rfl ?_
 rintro _ h34 ⟨rfl,g⟩
 replace e0 := e0.ext g
 replace own_own := own_own.ext g
 replace m3 := Ext.blk g m3
 replace m12 := Ext.blk g m12
 replace m20 := Ext.blk g m20
 replace m28 := Ext.blk g m28
 replace sep := sep.up g.size
 clear g
 refine sP 17 [.bool true,.bool true] ?_
 refine sD [(4,.bool true)] ?_
 clear hF a; intro a hF
 refine tK ?_
 refine cR ?_
 show retK Try.prog Try.f5 (fun v h' => v = .bool true ∧ Ext h h') .ret a h34
 refine ret_ok [.tmp 4] [.bool true] (.bool true) rfl hF ⟨rfl,trivial⟩ rfl ?_
 exact ⟨rfl,e0⟩
theorem deletes_ok (h : Heap) (x : RB) (e : Int)  (L : List Pl) (va : Option Addr) (vc : Nat) (hr : Row h (.slice va L.length vc) L.length 4 (prow L)) (hL : L.length ≤ 1099511627776) (u : Int) (hu : e ≤ u) : Sat Try.prog 5 #[.agg (rc x e false false (.slice va L.length vc)).toArray,.int .i64 u] h fun v h' => v = .bool true ∧ Ext h h' := by
 have e0 := Ext.refl h
 have sep : Sep h.size h.size [] := Sep.nil _ _
 refine sat_of (args := [.agg (rc x e false false (.slice va L.length vc)).toArray,.int .i64 u]) (fn := Try.f5) (B := b5) (n := 44) (L := [(0,.agg (rc x e false false (.slice va L.length vc)).toArray),(1,.int .i64 u)]) Try.func5 rfl (by kernel_rfl) rfl ?_
 intro a hF
 refine cS ?_
 refine cP 0 hF ?_
 refine SeqK.eff (k' := 1) (Does.new (v := .pointer (some ⟨h.size,0,none⟩)) (o := .cells (rc x e false false (.slice va L.length vc)).toArray 26) (by kernel_rfl)) rfl ?_
 rintro _ h1 ⟨rfl,hh⟩
 have g2 : Ext h h1 := push_ext hh
 have m3 : h1[h.size]? = some (.cells (rc x e false false (.slice va L.length vc)).toArray 26) := push_at hh
 clear hh
 have lt4 := blk_lt m3
 have zs5 := e0.size
 have hlo := e0.size
 have sepo := sep
 replace e0 := e0.ext g2
 replace sep := sep.up g2.size
 replace sep := sepo.new hlo (blk_lt m3)
 clear sepo hlo
 refine sP 2 [.bool false] ?_
 refine sD [(1,.int .i64 u),(2,pV h.size)] ?_
 clear hF a; intro a hF
 refine tK ?_
 refine cS ?_
 refine cP 1 hF ?_
 refine SeqK.eff (k' := 1) (Does.call (f := 10) (args := #[]) (by kernel_rfl) (shown_sat _)) rfl ?_
 rintro _ h6 ⟨rfl,g⟩
 replace e0 := e0.ext g
 replace m3 := Ext.blk g m3
 replace sep := sep.up g.size
 clear g
 refine sP 2 [.bool true] ?_
 refine sD [(1,.int .i64 u),(2,pV h.size),(5,.bool true)] ?_
 clear hF a; intro a hF
 refine tK ?_
 refine cS ?_
 refine cS ?_
 refine cP 2 hF ?_
 refine sP 2 [.bool true,.bool false] ?_
 refine sD [(1,.int .i64 u),(2,pV h.size),(5,.bool true),(13,.bool false)] ?_
 clear hF a; intro a hF
 refine tK ?_
 refine cF 13 hF ?_
 refine cN ?_
 refine tK ?_
 refine cS ?_
 refine cP 4 hF ?_
 refine sC 1 (.agg (rc x e false false (.slice va L.length vc)).toArray) (Calm.load (T := 26) (p := ⟨h.size,0,none⟩) (by kernel_rfl) (Loads.blk (vs := rc x e false false (.slice va L.length vc)) (by kernel_rfl) m3 rfl)) ?_
 refine SeqK.eff (k' := 2) (Does.call (f := 11) (args := #[.agg (rc x e false false (.slice va L.length vc)).toArray]) (by kernel_rfl) (copied_sat _ x e false false L va vc (hr.ext e0) hL)) rfl ?_
 rintro _ h9 ⟨_,rfl,ad7,cap8,rfl,ownx,hge,g⟩
 have hlo := e0.size
 have sepo := sep
 replace e0 := e0.ext g
 replace m3 := Ext.blk g m3
 replace sep := sep.up g.size
 replace sep := sepo.cons (x := ad7.map (fun (x : Addr) => x.block)) g.size hlo (fun k e => ⟨hge k e,ownx.lt (by rw [blkOf_slice]; exact e)⟩)
 have own_own : Own h9 (.slice ad7 L.length cap8) 49 L.length 4 (prow L) := ownx; clear ownx sepo hlo hge g
 refine SeqK.eff (k' := 3) (Does.new (v := .pointer (some ⟨h9.size,0,none⟩)) (o := .cells (rc rb0 (0 : Int) false false (.slice none 0 0)).toArray 26) (by kernel_rfl)) rfl ?_
 rintro _ h10 ⟨rfl,hh⟩
 have g11 : Ext h9 h10 := push_ext hh
 have m12 : h10[h9.size]? = some (.cells (rc rb0 (0 : Int) false false (.slice none 0 0)).toArray 26) := push_at hh
 clear hh
 have lt13 := blk_lt m12
 have zs14 := e0.size
 have hlo := e0.size
 have sepo := sep
 replace e0 := e0.ext g11
 replace own_own := own_own.ext g11
 replace m3 := Ext.blk g11 m3
 replace sep := sep.up g11.size
 replace sep := sepo.new hlo (blk_lt m12)
 clear sepo hlo
 refine SeqK.eff (k' := 4) (Does.store (b := h9.size) (off := 0) (vs := rc x e false false (.slice ad7 L.length cap8)) (l := rc rb0 (0 : Int) false false (.slice none 0 0)) (by kernel_rfl) m12 (of_decide_eq_true (by kernel_rfl)) (List.all_eq_true.1 (by kernel_rfl))) rfl ?_
 rintro _ h15 ⟨rfl,hh⟩
 have g16 : Grew (some (h9.size)) h10 h15 := hput_gr hh
 replace m12 : h15[h9.size]? = some (.cells (rc x e false false (.slice ad7 L.length cap8)).toArray 26) := hput_at (off := 0) (vs := rc x e false false (.slice ad7 L.length cap8)) (l := (rc rb0 (0 : Int) false false (.slice none 0 0))) hh (by kernel_rfl) m12
 clear hh
 replace e0 := e0.grew g16 (sep.low 0 rfl)
 replace own_own := own_own.kept g16 (by rw [blkOf_slice]; exact (sep.ap 1 0))
 replace m3 := Grew.blk g16 m3 ((sep.bp 2 0))
 replace sep := sep.up g16.size
 refine sD [(1,.int .i64 u),(2,pV h.size),(5,.bool true),(6,pV h9.size)] ?_
 clear hF a; intro a hF
 refine tK ?_
 refine cS ?_
 refine cP 5 hF ?_
 refine sC 1 (.agg (rc x e false false (.slice ad7 L.length cap8)).toArray) (Calm.load (T := 26) (p := ⟨h9.size,0,none⟩) (by kernel_rfl) (Loads.blk (vs := rc x e false false (.slice ad7 L.length cap8)) (by kernel_rfl) m12 rfl)) ?_
 refine sP 2 [.int .i64 u] ?_
 refine SeqK.eff (k' := 3) (Does.call (f := 18) (args := #[.agg (rc x e false false (.slice ad7 L.length cap8)).toArray,.int .i64 u]) (by kernel_rfl) (del_ok _ x e L ad7 cap8 (own_own.row) hL u hu)) rfl ?_
 rintro _ h17 ⟨rfl,g⟩
 replace e0 := e0.ext g
 replace own_own := own_own.ext g
 replace m3 := Ext.blk g m3
 replace m12 := Ext.blk g m12
 replace sep := sep.up g.size
 clear g
 refine sP 6 [.tuple #[.agg (rc x e false true (.slice none 0 0)).toArray,.int .i64 0],.agg (rc x e false true (.slice none 0 0)).toArray,.int .i64 0] ?_
 refine SeqK.eff (k' := 7) (Does.new (v := .pointer (some ⟨h17.size,0,none⟩)) (o := .cells (rc rb0 (0 : Int) false false (.slice none 0 0)).toArray 26) (by kernel_rfl)) rfl ?_
 rintro _ h18 ⟨rfl,hh⟩
 have g19 : Ext h17 h18 := push_ext hh
 have m20 : h18[h17.size]? = some (.cells (rc rb0 (0 : Int) false false (.slice none 0 0)).toArray 26) := push_at hh
 clear hh
 have lt21 := blk_lt m20
 have zs22 := e0.size
 have hlo := e0.size
 have sepo := sep
 replace e0 := e0.ext g19
 replace own_own := own_own.ext g19
 replace m3 := Ext.blk g19 m3
 replace m12 := Ext.blk g19 m12
 replace sep := sep.up g19.size
 replace sep := sepo.new hlo (blk_lt m20)
 clear sepo hlo
 refine SeqK.eff (k' := 8) (Does.store (b := h17.size) (off := 0) (vs := rc x e false true (.slice none 0 0)) (l := rc rb0 (0 : Int) false false (.slice none 0 0)) (by kernel_rfl) m20 (of_decide_eq_true (by kernel_rfl)) (List.all_eq_true.1 (by kernel_rfl))) rfl ?_
 rintro _ h23 ⟨rfl,hh⟩
 have g24 : Grew (some (h17.size)) h18 h23 := hput_gr hh
 replace m20 : h23[h17.size]? = some (.cells (rc x e false true (.slice none 0 0)).toArray 26) := hput_at (off := 0) (vs := rc x e false true (.slice none 0 0)) (l := (rc rb0 (0 : Int) false false (.slice none 0 0))) hh (by kernel_rfl) m20
 clear hh
 replace e0 := e0.grew g24 (sep.low 0 rfl)
 replace own_own := own_own.kept g24 (by rw [blkOf_slice]; exact (sep.ap 2 0))
 replace m3 := Grew.blk g24 m3 ((sep.bp 3 0))
 replace m12 := Grew.blk g24 m12 ((sep.bp 1 0))
 replace sep := sep.up g24.size
 refine sP 9 [.int .i64 0] ?_
 refine sD [(1,.int .i64 u),(2,pV h.size),(5,.bool true),(6,pV h9.size),(7,pV h17.size),(8,.int .i64 0)] ?_
 clear hF a; intro a hF
 refine tK ?_
 refine cS ?_
 refine cP 6 hF ?_
 refine sC 1 (.agg (rc x e false false (.slice va L.length vc)).toArray) (Calm.load (T := 26) (p := ⟨h.size,0,none⟩) (by kernel_rfl) (Loads.blk (vs := rc x e false false (.slice va L.length vc)) (by kernel_rfl) m3 rfl)) ?_
 refine sP 2 [.int .i64 u] ?_
 refine SeqK.eff (k' := 3) (Does.call (f := 19) (args := #[.agg (rc x e false false (.slice va L.length vc)).toArray,.int .i64 u]) (by kernel_rfl) (rdel_ok _ x e L va vc u hu)) rfl ?_
 rintro _ h25 ⟨rfl,g⟩
 replace e0 := e0.ext g
 replace own_own := own_own.ext g
 replace m3 := Ext.blk g m3
 replace m12 := Ext.blk g m12
 replace m20 := Ext.blk g m20
 replace sep := sep.up g.size
 clear g
 refine sP 6 [.tuple #[.agg (rc x e false true (.slice none 0 0)).toArray,.int .i64 0],.agg (rc x e false true (.slice none 0 0)).toArray,.int .i64 0] ?_
 refine SeqK.eff (k' := 7) (Does.new (v := .pointer (some ⟨h25.size,0,none⟩)) (o := .cells (rc rb0 (0 : Int) false false (.slice none 0 0)).toArray 26) (by kernel_rfl)) rfl ?_
 rintro _ h26 ⟨rfl,hh⟩
 have g27 : Ext h25 h26 := push_ext hh
 have m28 : h26[h25.size]? = some (.cells (rc rb0 (0 : Int) false false (.slice none 0 0)).toArray 26) := push_at hh
 clear hh
 have lt29 := blk_lt m28
 have zs30 := e0.size
 have hlo := e0.size
 have sepo := sep
 replace e0 := e0.ext g27
 replace own_own := own_own.ext g27
 replace m3 := Ext.blk g27 m3
 replace m12 := Ext.blk g27 m12
 replace m20 := Ext.blk g27 m20
 replace sep := sep.up g27.size
 replace sep := sepo.new hlo (blk_lt m28)
 clear sepo hlo
 refine SeqK.eff (k' := 8) (Does.store (b := h25.size) (off := 0) (vs := rc x e false true (.slice none 0 0)) (l := rc rb0 (0 : Int) false false (.slice none 0 0)) (by kernel_rfl) m28 (of_decide_eq_true (by kernel_rfl)) (List.all_eq_true.1 (by kernel_rfl))) rfl ?_
 rintro _ h31 ⟨rfl,hh⟩
 have g32 : Grew (some (h25.size)) h26 h31 := hput_gr hh
 replace m28 : h31[h25.size]? = some (.cells (rc x e false true (.slice none 0 0)).toArray 26) := hput_at (off := 0) (vs := rc x e false true (.slice none 0 0)) (l := (rc rb0 (0 : Int) false false (.slice none 0 0))) hh (by kernel_rfl) m28
 clear hh
 replace e0 := e0.grew g32 (sep.low 0 rfl)
 replace own_own := own_own.kept g32 (by rw [blkOf_slice]; exact (sep.ap 3 0))
 replace m3 := Grew.blk g32 m3 ((sep.bp 4 0))
 replace m12 := Grew.blk g32 m12 ((sep.bp 2 0))
 replace m20 := Grew.blk g32 m20 ((sep.bp 1 0))
 replace sep := sep.up g32.size
 refine sP 9 [.int .i64 0] ?_
 refine sD [(2,pV h.size),(5,.bool true),(6,pV h9.size),(7,pV h17.size),(8,.int .i64 0),(9,pV h25.size),(10,.int .i64 0)] ?_
 clear hF a; intro a hF
 refine tK ?_
 refine cS ?_
 refine cP 7 hF ?_
 refine sP 7 [.bool true,.bool true,.int .i64 0,.int .i64 0,.bool true,.bool true,.bool true] ?_
 refine sC 8 (.agg (rc x e false true (.slice none 0 0)).toArray) (Calm.load (T := 26) (p := ⟨h17.size,0,none⟩) (by kernel_rfl) (Loads.blk (vs := rc x e false true (.slice none 0 0)) (by kernel_rfl) m20 rfl)) ?_
 refine sC 9 (.agg (rc x e false true (.slice none 0 0)).toArray) (Calm.load (T := 26) (p := ⟨h25.size,0,none⟩) (by kernel_rfl) (Loads.blk (vs := rc x e false true (.slice none 0 0)) (by kernel_rfl) m28 rfl)) ?_
 refine SeqK.eff (k' := 10) (Does.call (f := 14) (args := #[.agg (rc x e false true (.slice none 0 0)).toArray,.agg (rc x e false true (.slice none 0 0)).toArray]) (by kernel_rfl) (same_sat _ x e false true [] none 0 (Row.nil _ 4) (by decide) none 0 (Row.nil _ 4))) rfl ?_
 rintro _ h33 ⟨rfl,g⟩
 replace e0 := e0.ext g
 replace own_own := own_own.ext g
 replace m3 := Ext.blk g m3
 replace m12 := Ext.blk g m12
 replace m20 := Ext.blk g m20
 replace m28 := Ext.blk g m28
 replace sep := sep.up g.size
 clear g
 refine sP 12 [.bool true,.bool true] ?_
 refine sC 13 (.agg (rc x e false false (.slice ad7 L.length cap8)).toArray) (Calm.load (T := 26) (p := ⟨h9.size,0,none⟩) (by kernel_rfl) (Loads.blk (vs := rc x e false false (.slice ad7 L.length cap8)) (by kernel_rfl) m12 rfl)) ?_
 refine sC 14 (.agg (rc x e false false (.slice va L.length vc)).toArray) (Calm.load (T := 26) (p := ⟨h.size,0,none⟩) (by kernel_rfl) (Loads.blk (vs := rc x e false false (.slice va L.length vc)) (by kernel_rfl) m3 rfl)) ?_
 refine SeqK.eff (k' := 15) (Does.call (f := 14) (args := #[.agg (rc x e false false (.slice ad7 L.length cap8)).toArray,.agg (rc x e false false (.slice va L.length vc)).toArray]) (by kernel_rfl) (same_sat _ x e false false L ad7 cap8 (own_own.row) hL va vc (hr.ext e0))) rfl ?_
 rintro _ h34 ⟨rfl,g⟩
 replace e0 := e0.ext g
 replace own_own := own_own.ext g
 replace m3 := Ext.blk g m3
 replace m12 := Ext.blk g m12
 replace m20 := Ext.blk g m20
 replace m28 := Ext.blk g m28
 replace sep := sep.up g.size
 clear g
 refine sP 17 [.bool true,.bool true] ?_
 refine sD [(4,.bool true)] ?_
 clear hF a; intro a hF
 refine tK ?_
 refine cR ?_
 show retK Try.prog Try.f5 (fun v h' => v = .bool true ∧ Ext h h') .ret a h34
 refine ret_ok [.tmp 4] [.bool true] (.bool true) rfl hF ⟨rfl,trivial⟩ rfl ?_
 exact ⟨rfl,e0⟩
theorem deletes_sat (h : Heap) (x : RB) (e : Int) (ho go : Bool) (L : List Pl) (va : Option Addr) (vc : Nat) (hr : Row h (.slice va L.length vc) L.length 4 (prow L)) (hL : L.length ≤ 1099511627776) (u : Int) : Sat Try.prog 5 #[.agg (rc x e ho go (.slice va L.length vc)).toArray,.int .i64 u] h (fun v h' => v = .bool true ∧ Ext h h') := by
 cases go with
 | true => exact deletes_gone h x e ho L va vc hr hL u
 | false =>
  cases ho with
  | true => exact deletes_held h x e L va vc hr hL u
  | false =>
   by_cases hu : e ≤ u
   ·exact deletes_ok h x e L va vc hr hL u hu
   ·exact deletes_soon h x e L va vc hr hL u (by omega)
end Go.Proofs.Ytlghdimpgfhmcaa
