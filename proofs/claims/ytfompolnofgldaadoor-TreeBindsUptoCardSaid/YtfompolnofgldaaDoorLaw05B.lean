/- Walks of the laws of the trees: what each function computes, as a law of its calls. No condition but those that each theorem names. -/
import Derived.Test.YtfompolnofgldaaDoorLaw05A
namespace Go.Proofs.YtfompolnofgldaaDoor
open Go Go.Lane Go.Sha
noncomputable def b8 : Code := Tryd.f8.body.getD .skip
set_option maxHeartbeats 4000000 in
theorem shown5_sat (h : Heap) (kt : Ktab h) : Sat Tryd.prog 8 #[] h fun v h' => v = .bool true ∧ Ext h h' := by
 have e0 := Ext.refl h
 have h0s := kt.lt
 have sep : Sep h.size h.size [] := Sep.nil _ _
 refine sat_of (args := []) (fn := Tryd.f8) (B := b8) (n := 124) (L := []) Tryd.func8 rfl (by kernel_rfl) rfl ?_
 intro a hF
 refine C.seq [0] [1] (by kernel_rfl) ?_
 refine C.plain 0 (by kernel_rfl) hF (by kernel_rfl) ?_
 refine SeqK.pures (k' := 1) [.bool false] (by kernel_rfl) rfl ?_
 refine SeqK.done [] (L := []) (by kernel_rfl) (by kernel_rfl) ?_
 clear hF; clear a; intro a hF
 show C Tryd.prog (sub b8 [1]) _ a h
 refine C.seq [1,0] [1,1] (by kernel_rfl) ?_
 refine C.plain 1 (by kernel_rfl) hF (by kernel_rfl) ?_
 refine SeqK.eff (k' := 1) (Does.new (v := .slice (some ⟨h.size,0,none⟩) 1 1) (o := .cells #[.int .u8 97] 5) (by kernel_rfl)) rfl ?_
 rintro _ h1 ⟨rfl,hh⟩
 have g2 : Ext h h1 := push_ext hh
 have m3 : h1[h.size]? = some (.cells #[.int .u8 97] 5) := push_at hh
 clear hh
 have lt4 := blk_lt m3
 have z5 := e0.size
 have hlo := e0.size
 have sepo := sep
 replace e0 := e0.ext g2
 replace kt := kt.ext g2
 replace sep := sep.up g2.size
 replace sep := sepo.new hlo (blk_lt m3)
 clear sepo hlo
 refine SeqK.eff (k' := 2) (Does.mark (off := 0) (n := 1) (cap := 1) (cs := #[.int .u8 97]) (by kernel_rfl) m3) rfl ?_
 rintro _ h6 ⟨rfl,hh⟩
 have g := hput_gr hh
 replace m3 : h6[h.size]? = some (.cells #[.int .u8 97] 5 (1,2)) := by subst hh; exact hput_same m3
 clear hh
 replace e0 := e0.grew g (sep.low 0 rfl)
 replace kt := kt.grew g (sep.zero 0 rfl h0s)
 replace sep := sep.up g.size
 clear g
 refine SeqK.eff (k' := 3) (Does.call (f := 10) (args := #[.slice (some ⟨h.size,0,none⟩) 1 1]) (by kernel_rfl) (leaf_sat _ [97] _ _ (Row.blk (l := ([97] : List UInt8).map bv) m3 rfl) (.inr fun k e => by cases e; exact blk_lt m3) kt (by decide))) rfl ?_
 rintro _ h7 ⟨rfl,g⟩
 replace e0 := e0.ext g
 replace kt := kt.ext g
 replace m3 := Ext.blk g m3
 replace sep := sep.up g.size
 clear g
 clear m3 lt4 z5
 replace sep := sep.sub (l' := []) (.cons _ (.slnil))
 refine SeqK.eff (k' := 4) (Does.new (v := .pointer (some ⟨h7.size,0,none⟩)) (o := .cells (z32.map bv).toArray 27) (by kernel_rfl)) rfl ?_
 rintro _ h8 ⟨rfl,hh⟩
 have g9 : Ext h7 h8 := push_ext hh
 have m10 : h8[h7.size]? = some (.cells (z32.map bv).toArray 27) := push_at hh
 clear hh
 have lt11 := blk_lt m10
 have z12 := e0.size
 have hlo := e0.size
 have sepo := sep
 replace e0 := e0.ext g9
 replace kt := kt.ext g9
 replace sep := sep.up g9.size
 replace sep := sepo.new hlo (blk_lt m10)
 clear sepo hlo
 refine SeqK.eff (k' := 5) (Does.store (b := h7.size) (off := 0) (vs := (leafH [97]).map bv) (l := z32.map bv) (storeOp_of (by kernel_rfl) (hlm rfl)) m10 (hfit rfl rfl) (ones_map _)) rfl ?_
 rintro _ h13 ⟨rfl,hh⟩
 have g14 : Grew (some (h7.size)) h8 h13 := hput_gr hh
 replace m10 : h13[h7.size]? = some (.cells ((leafH [97]).map bv).toArray 27) := hput_at (off := 0) (vs := (leafH [97]).map bv) (l := (z32.map bv)) hh (hsplice rfl rfl) m10
 clear hh
 replace e0 := e0.grew g14 (sep.low 0 rfl)
 replace kt := kt.grew g14 (sep.zero 0 rfl h0s)
 replace sep := sep.up g14.size
 refine SeqK.done [1] (L := [(1,.pointer (some ⟨h7.size,0,none⟩))]) (by kernel_rfl) (by kernel_rfl) ?_
 clear hF; clear a; intro a hF
 show C Tryd.prog (sub b8 [1,1]) _ a h13
 refine C.seq [1,1,0] [1,1,1] (by kernel_rfl) ?_
 refine C.plain 2 (by kernel_rfl) hF (by kernel_rfl) ?_
 refine SeqK.eff (k' := 1) (Does.new (v := .slice (some ⟨h13.size,0,none⟩) 1 1) (o := .cells #[.int .u8 98] 5) (by kernel_rfl)) rfl ?_
 rintro _ h15 ⟨rfl,hh⟩
 have g16 : Ext h13 h15 := push_ext hh
 have m17 : h15[h13.size]? = some (.cells #[.int .u8 98] 5) := push_at hh
 clear hh
 have lt18 := blk_lt m17
 have z19 := e0.size
 have hlo := e0.size
 have sepo := sep
 replace e0 := e0.ext g16
 replace kt := kt.ext g16
 replace m10 := Ext.blk g16 m10
 replace sep := sep.up g16.size
 replace sep := sepo.new hlo (blk_lt m17)
 clear sepo hlo
 refine SeqK.eff (k' := 2) (Does.mark (off := 0) (n := 1) (cap := 1) (cs := #[.int .u8 98]) (by kernel_rfl) m17) rfl ?_
 rintro _ h20 ⟨rfl,hh⟩
 have g := hput_gr hh
 replace m17 : h20[h13.size]? = some (.cells #[.int .u8 98] 5 (1,2)) := by subst hh; exact hput_same m17
 clear hh
 replace e0 := e0.grew g (sep.low 0 rfl)
 replace kt := kt.grew g (sep.zero 0 rfl h0s)
 replace m10 := Grew.blk g m10 ((sep.bp 1 0 rfl rfl (by decide)))
 replace sep := sep.up g.size
 clear g
 refine SeqK.eff (k' := 3) (Does.call (f := 10) (args := #[.slice (some ⟨h13.size,0,none⟩) 1 1]) (by kernel_rfl) (leaf_sat _ [98] _ _ (Row.blk (l := ([98] : List UInt8).map bv) m17 rfl) (.inr fun k e => by cases e; exact blk_lt m17) kt (by decide))) rfl ?_
 rintro _ h21 ⟨rfl,g⟩
 replace e0 := e0.ext g
 replace kt := kt.ext g
 replace m10 := Ext.blk g m10
 replace m17 := Ext.blk g m17
 replace sep := sep.up g.size
 clear g
 clear m17 lt18 z19
 replace sep := sep.sub (l' := [some (h7.size)]) (.cons _ (.cons_cons _ (.slnil)))
 refine SeqK.eff (k' := 4) (Does.new (v := .pointer (some ⟨h21.size,0,none⟩)) (o := .cells (z32.map bv).toArray 27) (by kernel_rfl)) rfl ?_
 rintro _ h22 ⟨rfl,hh⟩
 have g23 : Ext h21 h22 := push_ext hh
 have m24 : h22[h21.size]? = some (.cells (z32.map bv).toArray 27) := push_at hh
 clear hh
 have lt25 := blk_lt m24
 have z26 := e0.size
 have hlo := e0.size
 have sepo := sep
 replace e0 := e0.ext g23
 replace kt := kt.ext g23
 replace m10 := Ext.blk g23 m10
 replace sep := sep.up g23.size
 replace sep := sepo.new hlo (blk_lt m24)
 clear sepo hlo
 refine SeqK.eff (k' := 5) (Does.store (b := h21.size) (off := 0) (vs := (leafH [98]).map bv) (l := z32.map bv) (storeOp_of (by kernel_rfl) (hlm rfl)) m24 (hfit rfl rfl) (ones_map _)) rfl ?_
 rintro _ h27 ⟨rfl,hh⟩
 have g28 : Grew (some (h21.size)) h22 h27 := hput_gr hh
 replace m24 : h27[h21.size]? = some (.cells ((leafH [98]).map bv).toArray 27) := hput_at (off := 0) (vs := (leafH [98]).map bv) (l := (z32.map bv)) hh (hsplice rfl rfl) m24
 clear hh
 replace e0 := e0.grew g28 (sep.low 0 rfl)
 replace kt := kt.grew g28 (sep.zero 0 rfl h0s)
 replace m10 := Grew.blk g28 m10 ((sep.bp 1 0 rfl rfl (by decide)))
 replace sep := sep.up g28.size
 refine SeqK.done [1,2] (L := [(1,.pointer (some ⟨h7.size,0,none⟩)),(2,.pointer (some ⟨h21.size,0,none⟩))]) (by kernel_rfl) (by kernel_rfl) ?_
 clear hF; clear a; intro a hF
 show C Tryd.prog (sub b8 [1,1,1]) _ a h27
 refine C.seq [1,1,1,0] [1,1,1,1] (by kernel_rfl) ?_
 refine C.plain 3 (by kernel_rfl) hF (by kernel_rfl) ?_
 refine SeqK.eff (k' := 1) (Does.new (v := .slice (some ⟨h27.size,0,none⟩) 1 1) (o := .cells #[.int .u8 99] 5) (by kernel_rfl)) rfl ?_
 rintro _ h29 ⟨rfl,hh⟩
 have g30 : Ext h27 h29 := push_ext hh
 have m31 : h29[h27.size]? = some (.cells #[.int .u8 99] 5) := push_at hh
 clear hh
 have lt32 := blk_lt m31
 have z33 := e0.size
 have hlo := e0.size
 have sepo := sep
 replace e0 := e0.ext g30
 replace kt := kt.ext g30
 replace m10 := Ext.blk g30 m10
 replace m24 := Ext.blk g30 m24
 replace sep := sep.up g30.size
 replace sep := sepo.new hlo (blk_lt m31)
 clear sepo hlo
 refine SeqK.eff (k' := 2) (Does.mark (off := 0) (n := 1) (cap := 1) (cs := #[.int .u8 99]) (by kernel_rfl) m31) rfl ?_
 rintro _ h34 ⟨rfl,hh⟩
 have g := hput_gr hh
 replace m31 : h34[h27.size]? = some (.cells #[.int .u8 99] 5 (1,2)) := by subst hh; exact hput_same m31
 clear hh
 replace e0 := e0.grew g (sep.low 0 rfl)
 replace kt := kt.grew g (sep.zero 0 rfl h0s)
 replace m10 := Grew.blk g m10 ((sep.bp 2 0 rfl rfl (by decide)))
 replace m24 := Grew.blk g m24 ((sep.bp 1 0 rfl rfl (by decide)))
 replace sep := sep.up g.size
 clear g
 refine SeqK.eff (k' := 3) (Does.call (f := 10) (args := #[.slice (some ⟨h27.size,0,none⟩) 1 1]) (by kernel_rfl) (leaf_sat _ [99] _ _ (Row.blk (l := ([99] : List UInt8).map bv) m31 rfl) (.inr fun k e => by cases e; exact blk_lt m31) kt (by decide))) rfl ?_
 rintro _ h35 ⟨rfl,g⟩
 replace e0 := e0.ext g
 replace kt := kt.ext g
 replace m10 := Ext.blk g m10
 replace m24 := Ext.blk g m24
 replace m31 := Ext.blk g m31
 replace sep := sep.up g.size
 clear g
 clear m31 lt32 z33
 replace sep := sep.sub (l' := [some (h21.size),some (h7.size)]) (.cons _ (.cons_cons _ (.cons_cons _ (.slnil))))
 refine SeqK.eff (k' := 4) (Does.new (v := .pointer (some ⟨h35.size,0,none⟩)) (o := .cells (z32.map bv).toArray 27) (by kernel_rfl)) rfl ?_
 rintro _ h36 ⟨rfl,hh⟩
 have g37 : Ext h35 h36 := push_ext hh
 have m38 : h36[h35.size]? = some (.cells (z32.map bv).toArray 27) := push_at hh
 clear hh
 have lt39 := blk_lt m38
 have z40 := e0.size
 have hlo := e0.size
 have sepo := sep
 replace e0 := e0.ext g37
 replace kt := kt.ext g37
 replace m10 := Ext.blk g37 m10
 replace m24 := Ext.blk g37 m24
 replace sep := sep.up g37.size
 replace sep := sepo.new hlo (blk_lt m38)
 clear sepo hlo
 refine SeqK.eff (k' := 5) (Does.store (b := h35.size) (off := 0) (vs := (leafH [99]).map bv) (l := z32.map bv) (storeOp_of (by kernel_rfl) (hlm rfl)) m38 (hfit rfl rfl) (ones_map _)) rfl ?_
 rintro _ h41 ⟨rfl,hh⟩
 have g42 : Grew (some (h35.size)) h36 h41 := hput_gr hh
 replace m38 : h41[h35.size]? = some (.cells ((leafH [99]).map bv).toArray 27) := hput_at (off := 0) (vs := (leafH [99]).map bv) (l := (z32.map bv)) hh (hsplice rfl rfl) m38
 clear hh
 replace e0 := e0.grew g42 (sep.low 0 rfl)
 replace kt := kt.grew g42 (sep.zero 0 rfl h0s)
 replace m10 := Grew.blk g42 m10 ((sep.bp 2 0 rfl rfl (by decide)))
 replace m24 := Grew.blk g42 m24 ((sep.bp 1 0 rfl rfl (by decide)))
 replace sep := sep.up g42.size
 refine SeqK.done [1,2,3] (L := [(1,.pointer (some ⟨h7.size,0,none⟩)),(2,.pointer (some ⟨h21.size,0,none⟩)),(3,.pointer (some ⟨h35.size,0,none⟩))]) (by kernel_rfl) (by kernel_rfl) ?_
 clear hF; clear a; intro a hF
 show C Tryd.prog (sub b8 [1,1,1,1]) _ a h41
 refine C.seq [1,1,1,1,0] [1,1,1,1,1] (by kernel_rfl) ?_
 refine C.plain 4 (by kernel_rfl) hF (by kernel_rfl) ?_
 refine SeqK.calm (k' := 1) (v := .agg ((leafH [97]).map bv).toArray) (Calm.load (T := 27) (p := ⟨h7.size,0,none⟩) (by kernel_rfl) (Loads.hash (by kernel_rfl) rfl m10)) rfl ?_
 refine SeqK.calm (k' := 2) (v := .agg ((leafH [98]).map bv).toArray) (Calm.load (T := 27) (p := ⟨h21.size,0,none⟩) (by kernel_rfl) (Loads.hash (by kernel_rfl) rfl m24)) rfl ?_
 refine SeqK.calm (k' := 3) (v := .agg ((leafH [99]).map bv).toArray) (Calm.load (T := 27) (p := ⟨h35.size,0,none⟩) (by kernel_rfl) (Loads.hash (by kernel_rfl) rfl m38)) rfl ?_
 refine SeqK.eff (k' := 4) (Does.newHs (L := [leafH [97],leafH [98],leafH [99]]) (t := 24) (E := 27) (by_ := 32) (n := 3) (by kernel_rfl) (by kernel_rfl) (All32.cons rfl (All32.cons rfl (All32.cons rfl All32.nil))) rfl (by decide) (by decide)) rfl ?_
 rintro _ h43 ⟨rfl,hh⟩
 have g44 : Ext h41 h43 := push_ext hh
 have m45 : h43[h41.size]? = some (.cells (hcs [leafH [97],leafH [98],leafH [99]]).toArray 27) := push_at hh
 clear hh
 have lt46 := blk_lt m45
 have z47 := e0.size
 have hlo := e0.size
 have sepo := sep
 replace e0 := e0.ext g44
 replace kt := kt.ext g44
 replace m10 := Ext.blk g44 m10
 replace m24 := Ext.blk g44 m24
 replace m38 := Ext.blk g44 m38
 replace sep := sep.up g44.size
 replace sep := sepo.new hlo (blk_lt m45)
 clear sepo hlo
 refine SeqK.pures (k' := 5) [.slice (some ⟨h41.size,0,none⟩) 3 3] (by kernel_rfl) rfl ?_
 refine SeqK.done [1,2,3,4] (L := [(1,.pointer (some ⟨h7.size,0,none⟩)),(2,.pointer (some ⟨h21.size,0,none⟩)),(3,.pointer (some ⟨h35.size,0,none⟩)),(4,.slice (some ⟨h41.size,0,none⟩) 3 3)]) (by kernel_rfl) (by kernel_rfl) ?_
 clear hF; clear a; intro a hF
 show C Tryd.prog (sub b8 [1,1,1,1,1]) _ a h43
 refine C.seq [1,1,1,1,1,0] [1,1,1,1,1,1] (by kernel_rfl) ?_
 refine C.plain 5 (by kernel_rfl) hF (by kernel_rfl) ?_
 refine SeqK.eff (k' := 1) (Does.call (f := 12) (args := #[.slice none 0 0]) (by kernel_rfl) (troot_sat _ [] none 0 0 (HR.nil _) kt (by decide))) rfl ?_
 rintro _ h48 ⟨rfl,g⟩
 replace e0 := e0.ext g
 replace kt := kt.ext g
 replace m10 := Ext.blk g m10
 replace m24 := Ext.blk g m24
 replace m38 := Ext.blk g m38
 replace m45 := Ext.blk g m45
 replace sep := sep.up g.size
 clear g
 refine SeqK.eff (k' := 2) (Does.new (v := .pointer (some ⟨h48.size,0,none⟩)) (o := .cells (z32.map bv).toArray 27) (by kernel_rfl)) rfl ?_
 rintro _ h49 ⟨rfl,hh⟩
 have g50 : Ext h48 h49 := push_ext hh
 have m51 : h49[h48.size]? = some (.cells (z32.map bv).toArray 27) := push_at hh
 clear hh
 have lt52 := blk_lt m51
 have z53 := e0.size
 have hlo := e0.size
 have sepo := sep
 replace e0 := e0.ext g50
 replace kt := kt.ext g50
 replace m10 := Ext.blk g50 m10
 replace m24 := Ext.blk g50 m24
 replace m38 := Ext.blk g50 m38
 replace m45 := Ext.blk g50 m45
 replace sep := sep.up g50.size
 replace sep := sepo.new hlo (blk_lt m51)
 clear sepo hlo
 refine SeqK.eff (k' := 3) (Does.store (b := h48.size) (off := 0) (vs := (root []).map bv) (l := z32.map bv) (storeOp_of (by kernel_rfl) (hlm (root_len All32.nil))) m51 (hfit rfl (root_len All32.nil)) (ones_map _)) rfl ?_
 rintro _ h54 ⟨rfl,hh⟩
 have g55 : Grew (some (h48.size)) h49 h54 := hput_gr hh
 replace m51 : h54[h48.size]? = some (.cells ((root []).map bv).toArray 27) := hput_at (off := 0) (vs := (root []).map bv) (l := (z32.map bv)) hh (hsplice rfl (root_len All32.nil)) m51
 clear hh
 replace e0 := e0.grew g55 (sep.low 0 rfl)
 replace kt := kt.grew g55 (sep.zero 0 rfl h0s)
 replace m10 := Grew.blk g55 m10 ((sep.bp 4 0 rfl rfl (by decide)))
 replace m24 := Grew.blk g55 m24 ((sep.bp 3 0 rfl rfl (by decide)))
 replace m38 := Grew.blk g55 m38 ((sep.bp 2 0 rfl rfl (by decide)))
 replace m45 := Grew.blk g55 m45 ((sep.bp 1 0 rfl rfl (by decide)))
 replace sep := sep.up g55.size
 refine SeqK.done [1,2,3,4,5] (L := [(1,.pointer (some ⟨h7.size,0,none⟩)),(2,.pointer (some ⟨h21.size,0,none⟩)),(3,.pointer (some ⟨h35.size,0,none⟩)),(4,.slice (some ⟨h41.size,0,none⟩) 3 3),(5,.pointer (some ⟨h48.size,0,none⟩))]) (by kernel_rfl) (by kernel_rfl) ?_
 clear hF; clear a; intro a hF
 show C Tryd.prog (sub b8 [1,1,1,1,1,1]) _ a h54
 refine C.seq [1,1,1,1,1,1,0] [1,1,1,1,1,1,1] (by kernel_rfl) ?_
 refine C.plain 6 (by kernel_rfl) hF (by kernel_rfl) ?_
 refine SeqK.pures (k' := 1) [.slice (some ⟨h41.size,0,none⟩) 3 3] (by kernel_rfl) rfl ?_
 refine SeqK.eff (k' := 2) (Does.call (f := 16) (args := #[.slice (some ⟨h41.size,0,none⟩) 3 3,.int .i64 2]) (by kernel_rfl) (tincl_at _ [leafH [97],leafH [98],leafH [99]] _ _ 3 (HR.of (Own.blk (n := 3) m45 rfl (by unfold maxLen; decide)) (All32.cons rfl (All32.cons rfl (All32.cons rfl All32.nil)))) (by decide) 2 kt _ _ (incl3 _ _ _))) rfl ?_
 rintro _ h58 ⟨_,rfl,ad56,cap57,rfl,ownx,hge,g⟩
 have hlo := e0.size
 have sepo := sep
 replace e0 := e0.ext g
 replace kt := kt.ext g
 replace m10 := Ext.blk g m10
 replace m24 := Ext.blk g m24
 replace m38 := Ext.blk g m38
 replace m45 := Ext.blk g m45
 replace m51 := Ext.blk g m51
 replace sep := sep.up g.size
 replace sep := sepo.cons (x := ad56.map (fun (x : Addr) => x.block)) g.size hlo (fun k e => ⟨hge k e,ownx.lt (by rw [blkOf_slice]; exact e)⟩)
 have own_p : Own h58 (.slice ad56 1 cap57) 27 1 32 (hcs ([nodeH (leafH [97]) (leafH [98])])) := ownx; clear ownx sepo hlo hge g
 refine SeqK.pures (k' := 7) [.tuple #[.slice ad56 1 cap57,.int .i64 0],.slice ad56 1 cap57,.int .i64 0,.slice ad56 1 cap57,.int .i64 0] (by kernel_rfl) rfl ?_
 refine SeqK.done [1,2,3,4,5,6,7] (L := [(1,.pointer (some ⟨h7.size,0,none⟩)),(2,.pointer (some ⟨h21.size,0,none⟩)),(3,.pointer (some ⟨h35.size,0,none⟩)),(4,.slice (some ⟨h41.size,0,none⟩) 3 3),(5,.pointer (some ⟨h48.size,0,none⟩)),(6,.slice ad56 1 cap57),(7,.int .i64 0)]) (by kernel_rfl) (by kernel_rfl) ?_
 clear hF; clear a; intro a hF
 show C Tryd.prog (sub b8 [1,1,1,1,1,1,1]) _ a h58
 refine C.seq [1,1,1,1,1,1,1,0] [1,1,1,1,1,1,1,1] (by kernel_rfl) ?_
 refine C.plain 7 (by kernel_rfl) hF (by kernel_rfl) ?_
 refine SeqK.pures (k' := 1) [.slice (some ⟨h41.size,0,none⟩) 3 3] (by kernel_rfl) rfl ?_
 refine SeqK.eff (k' := 2) (Does.call (f := 18) (args := #[.slice (some ⟨h41.size,0,none⟩) 3 3,.int .i64 1]) (by kernel_rfl) (tcons_at _ [leafH [97],leafH [98],leafH [99]] _ _ 3 (HR.of (Own.blk (n := 3) m45 rfl (by unfold maxLen; decide)) (All32.cons rfl (All32.cons rfl (All32.cons rfl All32.nil)))) (by decide) 1 kt _ _ (cons3 _ _ _))) rfl ?_
 rintro _ h61 ⟨_,rfl,ad59,cap60,rfl,ownx,hge,g⟩
 have hlo := e0.size
 have sepo := sep
 replace e0 := e0.ext g
 replace kt := kt.ext g
 replace own_p := own_p.ext g
 replace m10 := Ext.blk g m10
 replace m24 := Ext.blk g m24
 replace m38 := Ext.blk g m38
 replace m45 := Ext.blk g m45
 replace m51 := Ext.blk g m51
 replace sep := sep.up g.size
 replace sep := sepo.cons (x := ad59.map (fun (x : Addr) => x.block)) g.size hlo (fun k e => ⟨hge k e,ownx.lt (by rw [blkOf_slice]; exact e)⟩)
 have own_q : Own h61 (.slice ad59 2 cap60) 27 2 32 (hcs ([leafH [98],leafH [99]])) := ownx; clear ownx sepo hlo hge g
 refine SeqK.pures (k' := 7) [.tuple #[.slice ad59 2 cap60,.int .i64 0],.slice ad59 2 cap60,.int .i64 0,.slice ad59 2 cap60,.int .i64 0] (by kernel_rfl) rfl ?_
 refine SeqK.done [1,2,3,4,5,6,7,8,9] (L := [(1,.pointer (some ⟨h7.size,0,none⟩)),(2,.pointer (some ⟨h21.size,0,none⟩)),(3,.pointer (some ⟨h35.size,0,none⟩)),(4,.slice (some ⟨h41.size,0,none⟩) 3 3),(5,.pointer (some ⟨h48.size,0,none⟩)),(6,.slice ad56 1 cap57),(7,.int .i64 0),(8,.slice ad59 2 cap60),(9,.int .i64 0)]) (by kernel_rfl) (by kernel_rfl) ?_
 clear hF; clear a; intro a hF
 show C Tryd.prog (sub b8 [1,1,1,1,1,1,1,1]) _ a h61
 refine C.seq [1,1,1,1,1,1,1,1,0] [1,1,1,1,1,1,1,1,1] (by kernel_rfl) ?_
 refine C.plain 8 (by kernel_rfl) hF (by kernel_rfl) ?_
 refine SeqK.pures (k' := 1) [.slice (some ⟨h41.size,0,none⟩) 3 3] (by kernel_rfl) rfl ?_
 refine SeqK.eff (k' := 2) (Does.call (f := 18) (args := #[.slice (some ⟨h41.size,0,none⟩) 3 3,.int .i64 4]) (by kernel_rfl) (tcons_at _ [leafH [97],leafH [98],leafH [99]] _ _ 3 (HR.of (Own.blk (n := 3) m45 rfl (by unfold maxLen; decide)) (All32.cons rfl (All32.cons rfl (All32.cons rfl All32.nil)))) (by decide) 4 kt _ _ (cons4 _ _ _))) rfl ?_
 rintro _ h64 ⟨_,rfl,ad62,cap63,rfl,ownx,hge,g⟩
 have hlo := e0.size
 have sepo := sep
 replace e0 := e0.ext g
 replace kt := kt.ext g
 replace own_p := own_p.ext g
 replace own_q := own_q.ext g
 replace m10 := Ext.blk g m10
 replace m24 := Ext.blk g m24
 replace m38 := Ext.blk g m38
 replace m45 := Ext.blk g m45
 replace m51 := Ext.blk g m51
 replace sep := sep.up g.size
 replace sep := sepo.cons (x := ad62.map (fun (x : Addr) => x.block)) g.size hlo (fun k e => ⟨hge k e,ownx.lt (by rw [blkOf_slice]; exact e)⟩)
 have own_z : Own h64 (.slice ad62 0 cap63) 27 0 32 (hcs ([])) := ownx; clear ownx sepo hlo hge g
 refine SeqK.pures (k' := 7) [.tuple #[.slice ad62 0 cap63,.int .i64 50],.slice ad62 0 cap63,.int .i64 50,.slice ad62 0 cap63,.int .i64 50] (by kernel_rfl) rfl ?_
 refine SeqK.done [1,2,3,4,5,6,7,8,9,11] (L := [(1,.pointer (some ⟨h7.size,0,none⟩)),(2,.pointer (some ⟨h21.size,0,none⟩)),(3,.pointer (some ⟨h35.size,0,none⟩)),(4,.slice (some ⟨h41.size,0,none⟩) 3 3),(5,.pointer (some ⟨h48.size,0,none⟩)),(6,.slice ad56 1 cap57),(7,.int .i64 0),(8,.slice ad59 2 cap60),(9,.int .i64 0),(11,.int .i64 50)]) (by kernel_rfl) (by kernel_rfl) ?_
 clear hF; clear a; intro a hF
 show C Tryd.prog (sub b8 [1,1,1,1,1,1,1,1,1]) _ a h64
 refine C.seq [1,1,1,1,1,1,1,1,1,0] [1,1,1,1,1,1,1,1,1,1] (by kernel_rfl) ?_
 refine C.plain 9 (by kernel_rfl) hF (by kernel_rfl) ?_
 refine SeqK.pures (k' := 1) [.slice (some ⟨h41.size,0,none⟩) 3 3] (by kernel_rfl) rfl ?_
 refine SeqK.eff (k' := 2) (Does.call (f := 12) (args := #[.slice (some ⟨h41.size,0,none⟩) 3 3]) (by kernel_rfl) (troot_sat _ [leafH [97],leafH [98],leafH [99]] _ _ 3 (HR.of (Own.blk (n := 3) m45 rfl (by unfold maxLen; decide)) (All32.cons rfl (All32.cons rfl (All32.cons rfl All32.nil)))) kt (by decide))) rfl ?_
 rintro _ h65 ⟨rfl,g⟩
 replace e0 := e0.ext g
 replace kt := kt.ext g
 replace own_p := own_p.ext g
 replace own_q := own_q.ext g
 replace own_z := own_z.ext g
 replace m10 := Ext.blk g m10
 replace m24 := Ext.blk g m24
 replace m38 := Ext.blk g m38
 replace m45 := Ext.blk g m45
 replace m51 := Ext.blk g m51
 replace sep := sep.up g.size
 clear g
 refine SeqK.eff (k' := 3) (Does.new (v := .pointer (some ⟨h65.size,0,none⟩)) (o := .cells (z32.map bv).toArray 27) (by kernel_rfl)) rfl ?_
 rintro _ h66 ⟨rfl,hh⟩
 have g67 : Ext h65 h66 := push_ext hh
 have m68 : h66[h65.size]? = some (.cells (z32.map bv).toArray 27) := push_at hh
 clear hh
 have lt69 := blk_lt m68
 have z70 := e0.size
 have hlo := e0.size
 have sepo := sep
 replace e0 := e0.ext g67
 replace kt := kt.ext g67
 replace own_p := own_p.ext g67
 replace own_q := own_q.ext g67
 replace own_z := own_z.ext g67
 replace m10 := Ext.blk g67 m10
 replace m24 := Ext.blk g67 m24
 replace m38 := Ext.blk g67 m38
 replace m45 := Ext.blk g67 m45
 replace m51 := Ext.blk g67 m51
 replace sep := sep.up g67.size
 replace sep := sepo.new hlo (blk_lt m68)
 clear sepo hlo
 refine SeqK.eff (k' := 4) (Does.store (b := h65.size) (off := 0) (vs := (root [leafH [97],leafH [98],leafH [99]]).map bv) (l := z32.map bv) (storeOp_of (by kernel_rfl) (hlm (by rw [root3]; rfl))) m68 (hfit rfl (by rw [root3]; rfl)) (ones_map _)) rfl ?_
 rintro _ h71 ⟨rfl,hh⟩
 have g72 : Grew (some (h65.size)) h66 h71 := hput_gr hh
 replace m68 : h71[h65.size]? = some (.cells ((root [leafH [97],leafH [98],leafH [99]]).map bv).toArray 27) := hput_at (off := 0) (vs := (root [leafH [97],leafH [98],leafH [99]]).map bv) (l := (z32.map bv)) hh (hsplice rfl (by rw [root3]; rfl)) m68
 clear hh
 replace e0 := e0.grew g72 (sep.low 0 rfl)
 replace kt := kt.grew g72 (sep.zero 0 rfl h0s)
 replace own_p := own_p.kept g72 (by rw [blkOf_slice]; exact (sep.ap 3 0 rfl rfl (by decide)))
 replace own_q := own_q.kept g72 (by rw [blkOf_slice]; exact (sep.ap 2 0 rfl rfl (by decide)))
 replace own_z := own_z.kept g72 (by rw [blkOf_slice]; exact (sep.ap 1 0 rfl rfl (by decide)))
 replace m10 := Grew.blk g72 m10 ((sep.bp 8 0 rfl rfl (by decide)))
 replace m24 := Grew.blk g72 m24 ((sep.bp 7 0 rfl rfl (by decide)))
 replace m38 := Grew.blk g72 m38 ((sep.bp 6 0 rfl rfl (by decide)))
 replace m45 := Grew.blk g72 m45 ((sep.bp 5 0 rfl rfl (by decide)))
 replace m51 := Grew.blk g72 m51 ((sep.bp 4 0 rfl rfl (by decide)))
 replace sep := sep.up g72.size
 refine SeqK.done [1,2,3,5,6,7,8,9,11,12] (L := [(1,.pointer (some ⟨h7.size,0,none⟩)),(2,.pointer (some ⟨h21.size,0,none⟩)),(3,.pointer (some ⟨h35.size,0,none⟩)),(5,.pointer (some ⟨h48.size,0,none⟩)),(6,.slice ad56 1 cap57),(7,.int .i64 0),(8,.slice ad59 2 cap60),(9,.int .i64 0),(11,.int .i64 50),(12,.pointer (some ⟨h65.size,0,none⟩))]) (by kernel_rfl) (by kernel_rfl) ?_
 clear hF; clear a; intro a hF
 show C Tryd.prog (sub b8 [1,1,1,1,1,1,1,1,1,1]) _ a h71
 refine C.seq [1,1,1,1,1,1,1,1,1,1,0] [1,1,1,1,1,1,1,1,1,1,1] (by kernel_rfl) ?_
 refine C.plain 10 (by kernel_rfl) hF (by kernel_rfl) ?_
 refine SeqK.eff (k' := 1) (Does.call (f := 21) (args := #[]) (by kernel_rfl) (newgrow_l _)) rfl ?_
 rintro _ h73 ⟨b_g,rfl,hs_g,hge,g⟩
 have hlo := e0.size
 have sepo := sep
 replace e0 := e0.ext g
 replace kt := kt.ext g
 replace own_p := own_p.ext g
 replace own_q := own_q.ext g
 replace own_z := own_z.ext g
 replace m10 := Ext.blk g m10
 replace m24 := Ext.blk g m24
 replace m38 := Ext.blk g m38
 replace m45 := Ext.blk g m45
 replace m51 := Ext.blk g m51
 replace m68 := Ext.blk g m68
 replace sep := sep.up g.size
 have hlt := hs_g.lt.1
 replace sep := (sepo.cons (x := some b_g) g.size (by omega) (fun k e => by cases e; exact ⟨hge,hlt⟩)).none (by omega)
 clear hge hlo hlt g sepo
 refine SeqK.pures (k' := 2) [.pointer (some ⟨b_g,0,none⟩)] (by kernel_rfl) rfl ?_
 refine SeqK.done [1,2,3,5,6,7,8,9,11,12,13] (L := [(1,.pointer (some ⟨h7.size,0,none⟩)),(2,.pointer (some ⟨h21.size,0,none⟩)),(3,.pointer (some ⟨h35.size,0,none⟩)),(5,.pointer (some ⟨h48.size,0,none⟩)),(6,.slice ad56 1 cap57),(7,.int .i64 0),(8,.slice ad59 2 cap60),(9,.int .i64 0),(11,.int .i64 50),(12,.pointer (some ⟨h65.size,0,none⟩)),(13,.pointer (some ⟨b_g,0,none⟩))]) (by kernel_rfl) (by kernel_rfl) ?_
 clear hF; clear a; intro a hF
 show C Tryd.prog (sub b8 [1,1,1,1,1,1,1,1,1,1,1]) _ a h73
 refine C.seq [1,1,1,1,1,1,1,1,1,1,1,0] [1,1,1,1,1,1,1,1,1,1,1,1] (by kernel_rfl) ?_
 refine C.seq [1,1,1,1,1,1,1,1,1,1,1,0,0] [1,1,1,1,1,1,1,1,1,1,1,0,1] (by kernel_rfl) ?_
 refine C.plain 11 (by kernel_rfl) hF (by kernel_rfl) ?_
 refine SeqK.pures (k' := 2) [.pointer (some ⟨b_g,0,none⟩),.bool false] (by kernel_rfl) rfl ?_
 refine SeqK.done [1,2,3,5,6,7,8,9,11,12,13,47] (L := [(1,.pointer (some ⟨h7.size,0,none⟩)),(2,.pointer (some ⟨h21.size,0,none⟩)),(3,.pointer (some ⟨h35.size,0,none⟩)),(5,.pointer (some ⟨h48.size,0,none⟩)),(6,.slice ad56 1 cap57),(7,.int .i64 0),(8,.slice ad59 2 cap60),(9,.int .i64 0),(11,.int .i64 50),(12,.pointer (some ⟨h65.size,0,none⟩)),(13,.pointer (some ⟨b_g,0,none⟩)),(47,.bool false)]) (by kernel_rfl) (by kernel_rfl) ?_
 clear hF; clear a; intro a hF
 show C Tryd.prog (sub b8 [1,1,1,1,1,1,1,1,1,1,1,0,1]) _ a h73
 refine C.condF 47 [1,1,1,1,1,1,1,1,1,1,1,0,1,0] [1,1,1,1,1,1,1,1,1,1,1,0,1,1] (by kernel_rfl) hF (fun _ => rfl) ?_
 refine C.skip (by kernel_rfl) ?_
 show C Tryd.prog (sub b8 [1,1,1,1,1,1,1,1,1,1,1,1]) _ a h73
 refine C.seq [1,1,1,1,1,1,1,1,1,1,1,1,0] [1,1,1,1,1,1,1,1,1,1,1,1,1] (by kernel_rfl) ?_
 refine C.plain 13 (by kernel_rfl) hF (by kernel_rfl) ?_
 refine SeqK.pures (k' := 1) [.pointer (some ⟨b_g,0,none⟩)] (by kernel_rfl) rfl ?_
 refine SeqK.calm (k' := 2) (v := .agg ((leafH [97]).map bv).toArray) (Calm.load (T := 27) (p := ⟨h7.size,0,none⟩) (by kernel_rfl) (Loads.hash (by kernel_rfl) rfl m10)) rfl ?_
 refine SeqK.eff (k' := 3) (Does.call (f := 24) (args := #[.pointer (some ⟨b_g,0,none⟩),.agg ((leafH [97]).map bv).toArray]) (by kernel_rfl) (add_l _ b_g none ([]) hs_g (leafH [97]) rfl kt (by have := sep.low 1 rfl _ rfl; omega) (fun e => sep.zero 0 rfl h0s e.symm) (by decide))) rfl ?_
 rintro _ h75 ⟨o74,hs',ho',g⟩
 have hlo := e0.size
 replace e0 := Gr.toExt e0 g (sep.lowF 1 0 rfl rfl)
 replace kt := kt.gr g (sep.zeroF 1 0 rfl rfl h0s)
 replace own_p := g.own own_p (fun k e => (sep.gF 5 1 0 rfl rfl rfl (by decide) (by decide)) k (by rw [blkOf_slice] at e; exact e))
 replace own_q := g.own own_q (fun k e => (sep.gF 4 1 0 rfl rfl rfl (by decide) (by decide)) k (by rw [blkOf_slice] at e; exact e))
 replace own_z := g.own own_z (fun k e => (sep.gF 3 1 0 rfl rfl rfl (by decide) (by decide)) k (by rw [blkOf_slice] at e; exact e))
 replace hs_g : GrowL h75 b_g o74 ([] ++ [leafH [97]]) := hs'
 replace m10 := g.blk m10 ((sep.gF 10 1 0 rfl rfl rfl (by decide) (by decide)) _ rfl)
 replace m24 := g.blk m24 ((sep.gF 9 1 0 rfl rfl rfl (by decide) (by decide)) _ rfl)
 replace m38 := g.blk m38 ((sep.gF 8 1 0 rfl rfl rfl (by decide) (by decide)) _ rfl)
 replace m45 := g.blk m45 ((sep.gF 7 1 0 rfl rfl rfl (by decide) (by decide)) _ rfl)
 replace m51 := g.blk m51 ((sep.gF 6 1 0 rfl rfl rfl (by decide) (by decide)) _ rfl)
 replace m68 := g.blk m68 ((sep.gF 2 1 0 rfl rfl rfl (by decide) (by decide)) _ rfl)
 replace sep := sep.set g.1 hlo 0 (y := o74) rfl (ho'.imp id .inr) (fun k e => hs'.lt.2 k e)
 replace sep : Sep h.size h75.size [o74,b_g,some (h65.size),ad62.map (·.block),ad59.map (·.block),ad56.map (·.block),some (h48.size),some (h41.size),some (h35.size),some (h21.size),some (h7.size)] := sep
 clear hs' ho' g hlo
 refine SeqK.done [1,2,3,5,6,7,8,9,11,12,13] (L := [(1,.pointer (some ⟨h7.size,0,none⟩)),(2,.pointer (some ⟨h21.size,0,none⟩)),(3,.pointer (some ⟨h35.size,0,none⟩)),(5,.pointer (some ⟨h48.size,0,none⟩)),(6,.slice ad56 1 cap57),(7,.int .i64 0),(8,.slice ad59 2 cap60),(9,.int .i64 0),(11,.int .i64 50),(12,.pointer (some ⟨h65.size,0,none⟩)),(13,.pointer (some ⟨b_g,0,none⟩))]) (by kernel_rfl) (by kernel_rfl) ?_
 clear hF; clear a; intro a hF
 obtain ⟨ap,e,_⟩ := own_p.someA (by decide)
 subst e
 obtain ⟨aq,e,_⟩ := own_q.someA (by decide)
 subst e
 have h32p : All32 [nodeH (leafH [97]) (leafH [98])] := All32.one (node_len _ _)
 have h32q : All32 [leafH [98],leafH [99]] := All32.cons (leaf_len _) (All32.one (leaf_len _))
 have hrp := HR.of own_p h32p
 have hrq := HR.of own_q h32q
 show C Tryd.prog (sub b8 [1,1,1,1,1,1,1,1,1,1,1,1,1]) _ a h75
 refine C.seq [1,1,1,1,1,1,1,1,1,1,1,1,1,0] [1,1,1,1,1,1,1,1,1,1,1,1,1,1] (by kernel_rfl) ?_
 refine C.draw (A := [0,1,3,7,15,31,63,127,255,511,1023,2047,4095,8191,16383,32767,65535,131071,262143,524287,1048575,262143,262143,6553599,16777215,33554431,67108863,134217727,268435455,536870911,1073741823,2147483647,4294967295,8589934591,17179869183,34359738367,68719476735,137438953471,274877906943,68719476735,1099511627775,2199023255551,4398046511103,8796093022207,17592186044415,35184372088831,8796093022207,140737488355327,281474976710655,562949953421311,1125899906842623,2251799813685247,4503599627370495,9007199254740991,18014398509481983,18014398509481983,18014398509481983,126100789566373887,18014398509481983,558446353793941503,1152921504606846975,2305843009213693951,4611686018427387903,9223372036854775807,18446744073709551615,9223372036854775807,73786976294838206463,147573952589676412927,295147905179352825855,590295810358705651711,1180591620717411303423,2361183241434822606847,4722366482869645213695,9444732965739290427391]) 14 (by kernel_rfl) mixed hF (by kernel_rfl) ?_
 refine SimK.pures (D' := 1) (is := [0]) (vs := [.pointer (some ⟨h48.size,0,none⟩)]) (by kernel_rfl) ?_
 refine SimK.look (D' := 3) (Wd' := 2) (i := 1) (v := bv ((root []).getD 0 0)) (by kernel_rfl) (by kernel_rfl) (by kernel_rfl) (Calm.load (T := 5) (p := ⟨h48.size,0,none⟩) (by kernel_rfl) (Loads.one (k := 1) (by kernel_rfl) ((hcell_blk m51).trans (hget (root_len All32.nil) (by decide))))) ?_
 refine SimK.pure1 (D' := 7) (i := 2) (v := .bool true) (v' := .bool ((((root []).getD 0 0).toNat : Int) == 227)) (by kernel_rfl) (by kernel_rfl) (by kernel_rfl) (congrArg Value.bool (by rw [none0]; rfl)) ?_
 refine SimK.pures (D' := 31) (is := [3,4]) (vs := [.bool true,.pointer (some ⟨h48.size,31,none⟩)]) (by kernel_rfl) ?_
 refine SimK.look (D' := 63) (Wd' := 34) (i := 5) (v := bv ((root []).getD 31 0)) (by kernel_rfl) (by kernel_rfl) (by kernel_rfl) (Calm.load (T := 5) (p := ⟨h48.size,31,none⟩) (by kernel_rfl) (Loads.one (k := 1) (by kernel_rfl) ((hcell_blk m51).trans (hget (root_len All32.nil) (by decide))))) ?_
 refine SimK.pure1 (D' := 127) (i := 6) (v := .bool true) (v' := .bool ((((root []).getD 31 0).toNat : Int) == 85)) (by kernel_rfl) (by kernel_rfl) (by kernel_rfl) (congrArg Value.bool (by rw [none31]; rfl)) ?_
 refine SimK.pures (D' := 524287) (is := [7,8,9,10,11,12,13,14,15,16,17,18]) (vs := [.bool true,.bool true,.int .i64 0,.bool true,.bool true,.bool true,.slice (some ap) 1 cap57,.int .i64 1,.bool true,.bool true,.bool true,.slice (some ap) 1 cap57]) (by kernel_rfl) ?_
 refine SimK.free (D' := 1048575) (i := 19) (v := .pointer (some ap)) (by kernel_rfl) (by kernel_rfl) (Calm.indexA (a := ap) (len := 1) (sz := 32) (k := (0 : Int)) 0 0 (by kernel_rfl) rfl (by omega) (by omega)) ?_
 refine SimK.look (D' := 2097151) (Wd' := 1048610) (i := 20) (v := .agg ((([nodeH (leafH [97]) (leafH [98])]).getD 0 []).map bv).toArray) (by kernel_rfl) (by kernel_rfl) (by kernel_rfl) (Calm.load (T := 27) (p := ap) (by kernel_rfl) (HR.loads (k := 0) (q := 0) (HR.of own_p h32p) (by kernel_rfl) (by omega) (by omega))) ?_
 refine SimK.look (D' := 4194303) (Wd' := 3145762) (i := 21) (v := .agg ((leafH [97]).map bv).toArray) (by kernel_rfl) (by kernel_rfl) (by kernel_rfl) (Calm.load (T := 27) (p := ⟨h7.size,0,none⟩) (by kernel_rfl) (Loads.hash (by kernel_rfl) rfl m10)) ?_
 refine SimK.look (D' := 8388607) (Wd' := 7340066) (i := 22) (v := .agg ((leafH [98]).map bv).toArray) (by kernel_rfl) (by kernel_rfl) (by kernel_rfl) (Calm.load (T := 27) (p := ⟨h21.size,0,none⟩) (by kernel_rfl) (Loads.hash (by kernel_rfl) rfl m24)) ?_
 refine SimK.eff (i := 23) (D' := 16777215) (X' := 14942207) (by kernel_rfl) (by kernel_rfl) (by kernel_rfl) [20] (by kernel_rfl) (Does.call (f := 14) (args := #[.agg ((leafH [97]).map bv).toArray,.agg ((leafH [98]).map bv).toArray]) (by kernel_rfl) (node_sat _ (leafH [97]) (leafH [98]) rfl rfl kt)) ?_
 rintro _ h76 ⟨rfl,g⟩
 replace e0 := e0.ext g
 replace kt := kt.ext g
 replace own_p := own_p.ext g
 replace own_q := own_q.ext g
 replace own_z := own_z.ext g
 replace hs_g := hs_g.ext g
 replace m10 := Ext.blk g m10
 replace m24 := Ext.blk g m24
 replace m38 := Ext.blk g m38
 replace m45 := Ext.blk g m45
 replace m51 := Ext.blk g m51
 replace m68 := Ext.blk g m68
 replace sep := sep.up g.size
 refine ⟨?_,?_⟩
 ·intro j hj
  simp only [List.mem_cons,List.not_mem_nil,or_false] at hj
  subst hj
  exact goodOf (Calm.load (T := 27) (p := ap) (by kernel_rfl) (HR.loads (k := 0) (q := 0) (HR.of own_p h32p) (by kernel_rfl) (by omega) (by omega)))
 clear g
 refine SimK.free (D' := 33554431) (i := 24) (v := .bool true) (by kernel_rfl) (by kernel_rfl) (eqHT (q := true) (l := (([nodeH (leafH [97]) (leafH [98])]).getD 0 [])) (r := nodeH (leafH [97]) (leafH [98])) (n := 32) (by kernel_rfl) (hrp.2.1.get (k := 0) (by rw [hrp.2.2]; omega)) (node_len _ _) rfl) ?_
 refine SimK.pures (D' := 137438953471) (is := [25,26,27,28,29,30,31,32,33,34,35,36]) (vs := [.bool true,.bool true,.int .i64 0,.bool true,.bool true,.bool true,.slice (some aq) 2 cap60,.int .i64 2,.bool true,.bool true,.bool true,.slice (some aq) 2 cap60]) (by kernel_rfl) ?_
 refine SimK.free (D' := 274877906943) (i := 37) (v := .pointer (some aq)) (by kernel_rfl) (by kernel_rfl) (Calm.indexA (a := aq) (len := 2) (sz := 32) (k := (0 : Int)) 0 0 (by kernel_rfl) rfl (by omega) (by omega)) ?_
 refine SimK.look (D' := 549755813887) (Wd' := 274885247010) (i := 38) (v := .agg ((([leafH [98],leafH [99]]).getD 0 []).map bv).toArray) (by kernel_rfl) (by kernel_rfl) (by kernel_rfl) (Calm.load (T := 27) (p := aq) (by kernel_rfl) (HR.loads (k := 0) (q := 0) (HR.of own_q h32q) (by kernel_rfl) (by omega) (by omega))) ?_
 refine SimK.look (D' := 1099511627775) (Wd' := 824641060898) (i := 39) (v := .agg ((leafH [98]).map bv).toArray) (by kernel_rfl) (by kernel_rfl) (by kernel_rfl) (Calm.load (T := 27) (p := ⟨h21.size,0,none⟩) (by kernel_rfl) (Loads.hash (by kernel_rfl) rfl m24)) ?_
 refine SimK.free (D' := 2199023255551) (i := 40) (v := .bool true) (by kernel_rfl) (by kernel_rfl) (eqHT (q := true) (l := (([leafH [98],leafH [99]]).getD 0 [])) (r := leafH [98]) (n := 32) (by kernel_rfl) (hrq.2.1.get (k := 0) (by rw [hrq.2.2]; omega)) rfl rfl) ?_
 refine SimK.pures (D' := 17592186044415) (is := [41,42,43]) (vs := [.bool true,.bool true,.slice (some aq) 2 cap60]) (by kernel_rfl) ?_
 refine SimK.free (D' := 35184372088831) (i := 44) (v := .pointer (some (Addr.add aq 32))) (by kernel_rfl) (by kernel_rfl) (Calm.indexA (a := aq) (len := 2) (sz := 32) (k := (1 : Int)) 1 32 (by kernel_rfl) rfl (by omega) (by omega)) ?_
 refine SimK.look (D' := 70368744177663) (Wd' := 36009013149730) (i := 45) (v := .agg ((([leafH [98],leafH [99]]).getD 1 []).map bv).toArray) (by kernel_rfl) (by kernel_rfl) (by kernel_rfl) (Calm.load (T := 27) (p := (Addr.add aq 32)) (by kernel_rfl) (HR.loads (k := 1) (q := 32) (HR.of own_q h32q) (by kernel_rfl) (by omega) (by omega))) ?_
 refine SimK.look (D' := 140737488355327) (Wd' := 106377757327394) (i := 46) (v := .agg ((leafH [99]).map bv).toArray) (by kernel_rfl) (by kernel_rfl) (by kernel_rfl) (Calm.load (T := 27) (p := ⟨h35.size,0,none⟩) (by kernel_rfl) (Loads.hash (by kernel_rfl) rfl m38)) ?_
 refine SimK.free (D' := 281474976710655) (i := 47) (v := .bool true) (by kernel_rfl) (by kernel_rfl) (eqHT (q := true) (l := (([leafH [98],leafH [99]]).getD 1 [])) (r := leafH [99]) (n := 32) (by kernel_rfl) (hrq.2.1.get (k := 1) (by rw [hrq.2.2]; omega)) rfl rfl) ?_
 refine SimK.pures (D' := 18014398509481983) (is := [48,49,50,51,52,53]) (vs := [.bool true,.bool true,.int .i64 50,.bool true,.bool true,.bool true]) (by kernel_rfl) ?_
 refine SimK.look (D' := 36028797018963967) (Wd' := 18120776266809378) (i := 54) (v := .agg ((root [leafH [97],leafH [98],leafH [99]]).map bv).toArray) (by kernel_rfl) (by kernel_rfl) (by kernel_rfl) (Calm.load (T := 27) (p := ⟨h65.size,0,none⟩) (by kernel_rfl) (Loads.hash (by kernel_rfl) (by rw [root3]; rfl) m68)) ?_
 refine SimK.look (D' := 72057594037927935) (Wd' := 54149573285773346) (i := 55) (v := .agg ((leafH [97]).map bv).toArray) (by kernel_rfl) (by kernel_rfl) (by kernel_rfl) (Calm.load (T := 27) (p := ⟨h7.size,0,none⟩) (by kernel_rfl) (Loads.hash (by kernel_rfl) rfl m10)) ?_
 refine SimK.look (D' := 144115188075855871) (Wd' := 126207167323701282) (i := 56) (v := .agg ((leafH [98]).map bv).toArray) (by kernel_rfl) (by kernel_rfl) (by kernel_rfl) (Calm.load (T := 27) (p := ⟨h21.size,0,none⟩) (by kernel_rfl) (Loads.hash (by kernel_rfl) rfl m24)) ?_
 refine SimK.look (D' := 432345564227567615) (Wd' := 414437543475413026) (i := 58) (v := .agg ((leafH [99]).map bv).toArray) (by kernel_rfl) (by kernel_rfl) (by kernel_rfl) (Calm.load (T := 27) (p := ⟨h35.size,0,none⟩) (by kernel_rfl) (Loads.hash (by kernel_rfl) rfl m38)) ?_
 refine SimK.eff (i := 57) (D' := 576460752303423487) (X' := 270215977642229759) (by kernel_rfl) (by kernel_rfl) (by kernel_rfl) [54,58] (by kernel_rfl) (Does.call (f := 14) (args := #[.agg ((leafH [97]).map bv).toArray,.agg ((leafH [98]).map bv).toArray]) (by kernel_rfl) (node_sat _ (leafH [97]) (leafH [98]) rfl rfl kt)) ?_
 rintro _ h77 ⟨rfl,g⟩
 replace e0 := e0.ext g
 replace kt := kt.ext g
 replace own_p := own_p.ext g
 replace own_q := own_q.ext g
 replace own_z := own_z.ext g
 replace hs_g := hs_g.ext g
 replace m10 := Ext.blk g m10
 replace m24 := Ext.blk g m24
 replace m38 := Ext.blk g m38
 replace m45 := Ext.blk g m45
 replace m51 := Ext.blk g m51
 replace m68 := Ext.blk g m68
 replace sep := sep.up g.size
 refine ⟨?_,?_⟩
 ·intro j hj
  simp only [List.mem_cons,List.not_mem_nil,or_false] at hj
  rcases hj with rfl | rfl
  ·exact goodOf (Calm.load (T := 27) (p := ⟨h65.size,0,none⟩) (by kernel_rfl) (Loads.hash (by kernel_rfl) (by rw [root3]; rfl) m68))
  ·exact goodOf (Calm.load (T := 27) (p := ⟨h35.size,0,none⟩) (by kernel_rfl) (Loads.hash (by kernel_rfl) rfl m38))
 clear g
 refine SimK.eff (i := 59) (D' := 1152921504606846975) (X' := 1134907106097364991) (by kernel_rfl) (by kernel_rfl) (by kernel_rfl) [54] (by kernel_rfl) (Does.call (f := 14) (args := #[.agg ((nodeH (leafH [97]) (leafH [98])).map bv).toArray,.agg ((leafH [99]).map bv).toArray]) (by kernel_rfl) (node_sat _ (nodeH (leafH [97]) (leafH [98])) (leafH [99]) (node_len _ _) rfl kt)) ?_
 rintro _ h78 ⟨rfl,g⟩
 replace e0 := e0.ext g
 replace kt := kt.ext g
 replace own_p := own_p.ext g
 replace own_q := own_q.ext g
 replace own_z := own_z.ext g
 replace hs_g := hs_g.ext g
 replace m10 := Ext.blk g m10
 replace m24 := Ext.blk g m24
 replace m38 := Ext.blk g m38
 replace m45 := Ext.blk g m45
 replace m51 := Ext.blk g m51
 replace m68 := Ext.blk g m68
 replace sep := sep.up g.size
 refine ⟨?_,?_⟩
 ·intro j hj
  simp only [List.mem_cons,List.not_mem_nil,or_false] at hj
  subst hj
  exact goodOf (Calm.load (T := 27) (p := ⟨h65.size,0,none⟩) (by kernel_rfl) (Loads.hash (by kernel_rfl) (by rw [root3]; rfl) m68))
 clear g
 refine SimK.free (D' := 2305843009213693951) (i := 60) (v := .bool true) (by kernel_rfl) (by kernel_rfl) (eqHT (q := true) (l := root [leafH [97],leafH [98],leafH [99]]) (r := nodeH (nodeH (leafH [97]) (leafH [98])) (leafH [99])) (n := 32) (by kernel_rfl) (by rw [root3]; rfl) (node_len _ _) (root3 _ _ _)) ?_
 refine SimK.pures (D' := 18446744073709551615) (is := [61,62,63]) (vs := [.bool true,.bool true,.pointer (some ⟨b_g,0,none⟩)]) (by kernel_rfl) ?_
 refine SimK.look (D' := 55340232221128654847) (Wd' := 37307925690894516258) (i := 65) (v := .agg ((leafH [97]).map bv).toArray) (by kernel_rfl) (by kernel_rfl) (by kernel_rfl) (Calm.load (T := 27) (p := ⟨h7.size,0,none⟩) (by kernel_rfl) (Loads.hash (by kernel_rfl) rfl m10)) ?_
 refine SimK.eff (i := 64) (D' := 73786976294838206463) (X' := 36893488147419103231) (by kernel_rfl) (by kernel_rfl) (by kernel_rfl) [65] (by kernel_rfl) (Does.call (f := 23) (args := #[.pointer (some ⟨b_g,0,none⟩)]) (by kernel_rfl) (groot_l _ b_g o74 ([] ++ [leafH [97]]) hs_g kt (by decide))) ?_
 rintro _ h79 ⟨rfl,g⟩
 replace e0 := e0.ext g
 replace kt := kt.ext g
 replace own_p := own_p.ext g
 replace own_q := own_q.ext g
 replace own_z := own_z.ext g
 replace hs_g := hs_g.ext g
 replace m10 := Ext.blk g m10
 replace m24 := Ext.blk g m24
 replace m38 := Ext.blk g m38
 replace m45 := Ext.blk g m45
 replace m51 := Ext.blk g m51
 replace m68 := Ext.blk g m68
 replace sep := sep.up g.size
 refine ⟨?_,?_⟩
 ·intro j hj
  simp only [List.mem_cons,List.not_mem_nil,or_false] at hj
  subst hj
  exact goodOf (Calm.load (T := 27) (p := ⟨h7.size,0,none⟩) (by kernel_rfl) (Loads.hash (by kernel_rfl) rfl m10))
 clear g
 refine SimK.free (D' := 147573952589676412927) (i := 66) (v := .bool true) (by kernel_rfl) (by kernel_rfl) (eqHT (q := true) (l := root ([] ++ [leafH [97]])) (r := leafH [97]) (n := 32) (by kernel_rfl) rfl rfl rfl) ?_
 refine SimK.pures (D' := 1180591620717411303423) (is := [67,68,69]) (vs := [.bool true,.bool true,.pointer (some ⟨b_g,0,none⟩)]) (by kernel_rfl) ?_
 refine SimK.look (D' := 2361183241434822606847) (Wd' := 1217899546408305819682) (i := 70) (v := .int .i64 1) (by kernel_rfl) (by kernel_rfl) (by kernel_rfl) (Does.call (f := 22) (args := #[.pointer (some ⟨b_g,0,none⟩)]) (by kernel_rfl) (size_l _ b_g o74 ([] ++ [leafH [97]]) hs_g)) ?_
 refine SimK.pures (D' := 18889465931478580854783) (is := [71,72,73]) (vs := [.bool true,.bool true,.bool true]) (by kernel_rfl) ?_
 refine SimK.done [0] (L := [(0,.bool true)]) (by kernel_rfl) (by kernel_rfl) ?_
 clear hF; clear a; intro a hF
 show C Tryd.prog (sub b8 [1,1,1,1,1,1,1,1,1,1,1,1,1,1]) _ a h79
 refine C.ret (by kernel_rfl) ?_
 show retK Tryd.prog Tryd.f8 (fun v h' => v = .bool true ∧ Ext h h') .ret a h79
 refine ret_ok [.tmp 0] [.bool true] (.bool true) rfl hF ⟨rfl,trivial⟩ rfl ?_
 exact ⟨rfl,e0⟩
end Go.Proofs.YtfompolnofgldaaDoor
