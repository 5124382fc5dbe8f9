/- Walks of the laws of the trees: what each function computes, as a law of its calls. No condition but those that each theorem names. -/
import Derived.Test.YtfompolnofgldaaDoorLaw05B
namespace Go.Proofs.YtfompolnofgldaaDoor
open Go Go.Lane Go.Sha
noncomputable def b3 : Code := Tryd.f3.body.getD .skip
theorem hashes_sat (h : Heap) (l : List UInt8) (va : Option Addr) (vc : Nat) (hr : Row h (.slice va l.length vc) l.length 1 (l.map bv)) (hlt : l = [] ∨ ∀ k, blkOf (.slice va l.length vc) = some k → k < h.size) (b : List UInt8) (vb : Option Addr) (vd : Nat) (hrb : Row h (.slice vb b.length vd) b.length 1 (b.map bv)) (kt : Ktab h) (hn : l.length ≤ 1048576) (hnb : b.length ≤ 1048576) : Sat Tryd.prog 3 #[.slice va l.length vc, .slice vb b.length vd] h fun v h' => v = .bool true ∧ Ext h h' := by
  have e0 := Ext.refl h
  have h0s := kt.lt
  have sep : Sep h.size h.size [] := Sep.nil _ _
  refine sat_of (args := [.slice va l.length vc, .slice vb b.length vd]) (fn := Tryd.f3) (B := b3) (n := 42) (L := [(0, .slice va l.length vc), (1, .slice vb b.length vd)]) Tryd.func3 rfl (by kernel_rfl) rfl ?_
  intro a hF
  refine C.seq [0] [1] (by kernel_rfl) ?_
  refine C.plain 0 (by kernel_rfl) hF (by kernel_rfl) ?_
  refine SeqK.pures (k' := 1) [.bool false] (by kernel_rfl) rfl ?_
  refine SeqK.done [0, 1] (L := [(0, .slice va l.length vc), (1, .slice vb b.length vd)]) (by kernel_rfl) (by kernel_rfl) ?_
  clear hF; clear a; intro a hF
  show C Tryd.prog (sub b3 [1]) _ a h
  refine C.seq [1, 0] [1, 1] (by kernel_rfl) ?_
  refine C.plain 1 (by kernel_rfl) hF (by kernel_rfl) ?_
  refine SeqK.eff (k' := 1) (Does.call (f := 8) (args := #[]) (by kernel_rfl) (shown5_sat _ kt)) rfl ?_
  rintro _ h1 ⟨rfl, g⟩
  replace e0 := e0.ext g
  replace kt := kt.ext g
  replace sep := sep.up g.size
  clear g
  refine SeqK.pures (k' := 2) [.bool true] (by kernel_rfl) rfl ?_
  refine SeqK.done [0, 1, 5] (L := [(0, .slice va l.length vc), (1, .slice vb b.length vd), (5, .bool true)]) (by kernel_rfl) (by kernel_rfl) ?_
  clear hF; clear a; intro a hF
  show C Tryd.prog (sub b3 [1, 1]) _ a h1
  refine C.seq [1, 1, 0] [1, 1, 1] (by kernel_rfl) ?_
  refine C.plain 2 (by kernel_rfl) hF (by kernel_rfl) ?_
  refine SeqK.pures (k' := 1) [.slice vb b.length vd] (by kernel_rfl) rfl ?_
  refine SeqK.eff (k' := 2) (Does.call (f := 9) (args := #[.slice vb b.length vd]) (by kernel_rfl) (leaves_n _ b vb vd (hrb.ext e0) (by omega))) rfl ?_
  rintro _ h4 ⟨ad2, cap3, rfl, ownx, hge, g⟩
  have hlo := e0.size
  have sepo := sep
  replace e0 := e0.ext g
  replace kt := kt.ext g
  replace sep := sep.up g.size
  replace sep := sepo.cons (x := ad2.map (fun (x : Addr) => x.block)) g.size hlo (fun k e => ⟨hge k e, ownx.lt (by rw [blkOf_slice]; exact e)⟩)
  have own_hl : Own h4 (.slice ad2 b.length cap3) 27 b.length 32 (hcs (lvs b b.length)) := ownx; clear ownx sepo hlo hge g
  refine SeqK.pures (k' := 3) [.slice ad2 b.length cap3] (by kernel_rfl) rfl ?_
  refine SeqK.done [0, 5, 6] (L := [(0, .slice va l.length vc), (5, .bool true), (6, .slice ad2 b.length cap3)]) (by kernel_rfl) (by kernel_rfl) ?_
  clear hF; clear a; intro a hF
  show C Tryd.prog (sub b3 [1, 1, 1]) _ a h4
  refine C.seq [1, 1, 1, 0] [1, 1, 1, 1] (by kernel_rfl) ?_
  refine C.plain 3 (by kernel_rfl) hF (by kernel_rfl) ?_
  refine SeqK.pures (k' := 1) [.slice va l.length vc] (by kernel_rfl) rfl ?_
  refine SeqK.eff (k' := 2) (Does.call (f := 10) (args := #[.slice va l.length vc]) (by kernel_rfl) (leaf_sat _ l va vc (hr.ext e0) (hlt.imp id fun hl k e => Nat.lt_of_lt_of_le (hl k e) e0.size) kt (by omega))) rfl ?_
  rintro _ h5 ⟨rfl, g⟩
  replace e0 := e0.ext g
  replace kt := kt.ext g
  replace own_hl := own_hl.ext g
  replace sep := sep.up g.size
  clear g
  refine SeqK.eff (k' := 3) (Does.new (v := .pointer (some ⟨h5.size, 0, none⟩)) (o := .cells (z32.map bv).toArray 27) (by kernel_rfl)) rfl ?_
  rintro _ h6 ⟨rfl, hh⟩
  have g7 : Ext h5 h6 := push_ext hh
  have m8 : h6[h5.size]? = some (.cells (z32.map bv).toArray 27) := push_at hh
  clear hh
  have lt9 := blk_lt m8
  have z10 := e0.size
  have hlo := e0.size
  have sepo := sep
  replace e0 := e0.ext g7
  replace kt := kt.ext g7
  replace own_hl := own_hl.ext g7
  replace sep := sep.up g7.size
  replace sep := sepo.new hlo (blk_lt m8)
  clear sepo hlo
  refine SeqK.eff (k' := 4) (Does.store (b := h5.size) (off := 0) (vs := (leafH l).map bv) (l := z32.map bv) (storeOp_of (by kernel_rfl) (hlm (leaf_len _))) m8 (hfit rfl (leaf_len _)) (ones_map _)) rfl ?_
  rintro _ h11 ⟨rfl, hh⟩
  have g12 : Grew (some (h5.size)) h6 h11 := hput_gr hh
  replace m8 : h11[h5.size]? = some (.cells ((leafH l).map bv).toArray 27) := hput_at (off := 0) (vs := (leafH l).map bv) (l := (z32.map bv)) hh (hsplice rfl (leaf_len _)) m8
  clear hh
  replace e0 := e0.grew g12 (sep.low 0 rfl)
  replace kt := kt.grew g12 (sep.zero 0 rfl h0s)
  replace own_hl := own_hl.kept g12 (by rw [blkOf_slice]; exact (sep.ap 1 0 rfl rfl (by decide)))
  replace sep := sep.up g12.size
  refine SeqK.done [0, 5, 6, 7] (L := [(0, .slice va l.length vc), (5, .bool true), (6, .slice ad2 b.length cap3), (7, .pointer (some ⟨h5.size, 0, none⟩))]) (by kernel_rfl) (by kernel_rfl) ?_
  clear hF; clear a; intro a hF
  show C Tryd.prog (sub b3 [1, 1, 1, 1]) _ a h11
  refine C.seq [1, 1, 1, 1, 0] [1, 1, 1, 1, 1] (by kernel_rfl) ?_
  refine C.plain 4 (by kernel_rfl) hF (by kernel_rfl) ?_
  refine SeqK.pures (k' := 1) [.slice va l.length vc] (by kernel_rfl) rfl ?_
  refine SeqK.eff (k' := 2) (Does.call (f := 11) (args := #[.slice va l.length vc]) (by kernel_rfl) (rleaf_sat _ l va vc (hr.ext e0) (by omega))) rfl ?_
  rintro _ h13 ⟨rfl, g⟩
  replace e0 := e0.ext g
  replace kt := kt.ext g
  replace own_hl := own_hl.ext g
  replace m8 := Ext.blk g m8
  replace sep := sep.up g.size
  clear g
  refine SeqK.eff (k' := 3) (Does.new (v := .pointer (some ⟨h13.size, 0, none⟩)) (o := .cells (z32.map bv).toArray 27) (by kernel_rfl)) rfl ?_
  rintro _ h14 ⟨rfl, hh⟩
  have g15 : Ext h13 h14 := push_ext hh
  have m16 : h14[h13.size]? = some (.cells (z32.map bv).toArray 27) := push_at hh
  clear hh
  have lt17 := blk_lt m16
  have z18 := e0.size
  have hlo := e0.size
  have sepo := sep
  replace e0 := e0.ext g15
  replace kt := kt.ext g15
  replace own_hl := own_hl.ext g15
  replace m8 := Ext.blk g15 m8
  replace sep := sep.up g15.size
  replace sep := sepo.new hlo (blk_lt m16)
  clear sepo hlo
  refine SeqK.eff (k' := 4) (Does.store (b := h13.size) (off := 0) (vs := (leafH l).map bv) (l := z32.map bv) (storeOp_of (by kernel_rfl) (hlm (leaf_len _))) m16 (hfit rfl (leaf_len _)) (ones_map _)) rfl ?_
  rintro _ h19 ⟨rfl, hh⟩
  have g20 : Grew (some (h13.size)) h14 h19 := hput_gr hh
  replace m16 : h19[h13.size]? = some (.cells ((leafH l).map bv).toArray 27) := hput_at (off := 0) (vs := (leafH l).map bv) (l := (z32.map bv)) hh (hsplice rfl (leaf_len _)) m16
  clear hh
  replace e0 := e0.grew g20 (sep.low 0 rfl)
  replace kt := kt.grew g20 (sep.zero 0 rfl h0s)
  replace own_hl := own_hl.kept g20 (by rw [blkOf_slice]; exact (sep.ap 2 0 rfl rfl (by decide)))
  replace m8 := Grew.blk g20 m8 ((sep.bp 1 0 rfl rfl (by decide)))
  replace sep := sep.up g20.size
  refine SeqK.done [5, 6, 7, 8] (L := [(5, .bool true), (6, .slice ad2 b.length cap3), (7, .pointer (some ⟨h5.size, 0, none⟩)), (8, .pointer (some ⟨h13.size, 0, none⟩))]) (by kernel_rfl) (by kernel_rfl) ?_
  clear hF; clear a; intro a hF
  show C Tryd.prog (sub b3 [1, 1, 1, 1, 1]) _ a h19
  refine C.seq [1, 1, 1, 1, 1, 0] [1, 1, 1, 1, 1, 1] (by kernel_rfl) ?_
  refine C.plain 5 (by kernel_rfl) hF (by kernel_rfl) ?_
  refine SeqK.pures (k' := 1) [.slice ad2 b.length cap3] (by kernel_rfl) rfl ?_
  refine SeqK.eff (k' := 2) (Does.call (f := 12) (args := #[.slice ad2 b.length cap3]) (by kernel_rfl) (troot_sat _ (lvs b b.length) _ _ _ (HR.of own_hl (lvs_32 _ _)) kt (by omega))) rfl ?_
  rintro _ h21 ⟨rfl, g⟩
  replace e0 := e0.ext g
  replace kt := kt.ext g
  replace own_hl := own_hl.ext g
  replace m8 := Ext.blk g m8
  replace m16 := Ext.blk g m16
  replace sep := sep.up g.size
  clear g
  refine SeqK.eff (k' := 3) (Does.new (v := .pointer (some ⟨h21.size, 0, none⟩)) (o := .cells (z32.map bv).toArray 27) (by kernel_rfl)) rfl ?_
  rintro _ h22 ⟨rfl, hh⟩
  have g23 : Ext h21 h22 := push_ext hh
  have m24 : h22[h21.size]? = some (.cells (z32.map bv).toArray 27) := push_at hh
  clear hh
  have lt25 := blk_lt m24
  have z26 := e0.size
  have hlo := e0.size
  have sepo := sep
  replace e0 := e0.ext g23
  replace kt := kt.ext g23
  replace own_hl := own_hl.ext g23
  replace m8 := Ext.blk g23 m8
  replace m16 := Ext.blk g23 m16
  replace sep := sep.up g23.size
  replace sep := sepo.new hlo (blk_lt m24)
  clear sepo hlo
  refine SeqK.eff (k' := 4) (Does.store (b := h21.size) (off := 0) (vs := (root (lvs b b.length)).map bv) (l := z32.map bv) (storeOp_of (by kernel_rfl) (hlm (root_len (lvs_32 _ _)))) m24 (hfit rfl (root_len (lvs_32 _ _))) (ones_map _)) rfl ?_
  rintro _ h27 ⟨rfl, hh⟩
  have g28 : Grew (some (h21.size)) h22 h27 := hput_gr hh
  replace m24 : h27[h21.size]? = some (.cells ((root (lvs b b.length)).map bv).toArray 27) := hput_at (off := 0) (vs := (root (lvs b b.length)).map bv) (l := (z32.map bv)) hh (hsplice rfl (root_len (lvs_32 _ _))) m24
  clear hh
  replace e0 := e0.grew g28 (sep.low 0 rfl)
  replace kt := kt.grew g28 (sep.zero 0 rfl h0s)
  replace own_hl := own_hl.kept g28 (by rw [blkOf_slice]; exact (sep.ap 3 0 rfl rfl (by decide)))
  replace m8 := Grew.blk g28 m8 ((sep.bp 2 0 rfl rfl (by decide)))
  replace m16 := Grew.blk g28 m16 ((sep.bp 1 0 rfl rfl (by decide)))
  replace sep := sep.up g28.size
  refine SeqK.done [5, 6, 7, 8, 9] (L := [(5, .bool true), (6, .slice ad2 b.length cap3), (7, .pointer (some ⟨h5.size, 0, none⟩)), (8, .pointer (some ⟨h13.size, 0, none⟩)), (9, .pointer (some ⟨h21.size, 0, none⟩))]) (by kernel_rfl) (by kernel_rfl) ?_
  clear hF; clear a; intro a hF
  show C Tryd.prog (sub b3 [1, 1, 1, 1, 1, 1]) _ a h27
  refine C.seq [1, 1, 1, 1, 1, 1, 0] [1, 1, 1, 1, 1, 1, 1] (by kernel_rfl) ?_
  refine C.plain 6 (by kernel_rfl) hF (by kernel_rfl) ?_
  refine SeqK.pures (k' := 1) [.slice ad2 b.length cap3] (by kernel_rfl) rfl ?_
  refine SeqK.eff (k' := 2) (Does.call (f := 13) (args := #[.slice ad2 b.length cap3]) (by kernel_rfl) (rroot_sat _ (lvs b b.length) _ _ _ (HR.of own_hl (lvs_32 _ _)) (by omega))) rfl ?_
  rintro _ h29 ⟨rfl, g⟩
  replace e0 := e0.ext g
  replace kt := kt.ext g
  replace own_hl := own_hl.ext g
  replace m8 := Ext.blk g m8
  replace m16 := Ext.blk g m16
  replace m24 := Ext.blk g m24
  replace sep := sep.up g.size
  clear g
  refine SeqK.eff (k' := 3) (Does.new (v := .pointer (some ⟨h29.size, 0, none⟩)) (o := .cells (z32.map bv).toArray 27) (by kernel_rfl)) rfl ?_
  rintro _ h30 ⟨rfl, hh⟩
  have g31 : Ext h29 h30 := push_ext hh
  have m32 : h30[h29.size]? = some (.cells (z32.map bv).toArray 27) := push_at hh
  clear hh
  have lt33 := blk_lt m32
  have z34 := e0.size
  have hlo := e0.size
  have sepo := sep
  replace e0 := e0.ext g31
  replace kt := kt.ext g31
  replace own_hl := own_hl.ext g31
  replace m8 := Ext.blk g31 m8
  replace m16 := Ext.blk g31 m16
  replace m24 := Ext.blk g31 m24
  replace sep := sep.up g31.size
  replace sep := sepo.new hlo (blk_lt m32)
  clear sepo hlo
  refine SeqK.eff (k' := 4) (Does.store (b := h29.size) (off := 0) (vs := (root (lvs b b.length)).map bv) (l := z32.map bv) (storeOp_of (by kernel_rfl) (hlm (root_len (lvs_32 _ _)))) m32 (hfit rfl (root_len (lvs_32 _ _))) (ones_map _)) rfl ?_
  rintro _ h35 ⟨rfl, hh⟩
  have g36 : Grew (some (h29.size)) h30 h35 := hput_gr hh
  replace m32 : h35[h29.size]? = some (.cells ((root (lvs b b.length)).map bv).toArray 27) := hput_at (off := 0) (vs := (root (lvs b b.length)).map bv) (l := (z32.map bv)) hh (hsplice rfl (root_len (lvs_32 _ _))) m32
  clear hh
  replace e0 := e0.grew g36 (sep.low 0 rfl)
  replace kt := kt.grew g36 (sep.zero 0 rfl h0s)
  replace own_hl := own_hl.kept g36 (by rw [blkOf_slice]; exact (sep.ap 4 0 rfl rfl (by decide)))
  replace m8 := Grew.blk g36 m8 ((sep.bp 3 0 rfl rfl (by decide)))
  replace m16 := Grew.blk g36 m16 ((sep.bp 2 0 rfl rfl (by decide)))
  replace m24 := Grew.blk g36 m24 ((sep.bp 1 0 rfl rfl (by decide)))
  replace sep := sep.up g36.size
  refine SeqK.done [5, 7, 8, 9, 10] (L := [(5, .bool true), (7, .pointer (some ⟨h5.size, 0, none⟩)), (8, .pointer (some ⟨h13.size, 0, none⟩)), (9, .pointer (some ⟨h21.size, 0, none⟩)), (10, .pointer (some ⟨h29.size, 0, none⟩))]) (by kernel_rfl) (by kernel_rfl) ?_
  clear hF; clear a; intro a hF
  show C Tryd.prog (sub b3 [1, 1, 1, 1, 1, 1, 1]) _ a h35
  refine C.seq [1, 1, 1, 1, 1, 1, 1, 0] [1, 1, 1, 1, 1, 1, 1, 1] (by kernel_rfl) ?_
  refine C.draw (A := [0, 1, 3, 3, 15, 31, 63, 127, 127, 511, 1023, 2047, 4095, 4095, 16383, 4095, 4095, 131071, 262143, 524287, 1048575]) 7 (by kernel_rfl) mixed hF (by kernel_rfl) ?_
  refine SimK.pures (D' := 3) (is := [0, 1]) (vs := [.bool true, .bool true]) (by kernel_rfl) ?_
  refine SimK.look (D' := 7) (Wd' := 4) (i := 2) (v := .agg ((leafH l).map bv).toArray) (by kernel_rfl) (by kernel_rfl) (by kernel_rfl) (Calm.load (T := 27) (p := ⟨h5.size, 0, none⟩) (by kernel_rfl) (Loads.hash (by kernel_rfl) (leaf_len _) m8)) ?_
  refine SimK.look (D' := 15) (Wd' := 12) (i := 3) (v := .agg ((leafH l).map bv).toArray) (by kernel_rfl) (by kernel_rfl) (by kernel_rfl) (Calm.load (T := 27) (p := ⟨h13.size, 0, none⟩) (by kernel_rfl) (Loads.hash (by kernel_rfl) (leaf_len _) m16)) ?_
  refine SimK.free (D' := 31) (i := 4) (v := .bool true) (by kernel_rfl) (by kernel_rfl) (eqHT (q := true) (l := leafH l) (r := leafH l) (n := 32) (by kernel_rfl) (leaf_len _) (leaf_len _) rfl) ?_
  refine SimK.pures (D' := 127) (is := [5, 6]) (vs := [.bool true, .bool true]) (by kernel_rfl) ?_
  refine SimK.look (D' := 255) (Wd' := 140) (i := 7) (v := .agg ((root (lvs b b.length)).map bv).toArray) (by kernel_rfl) (by kernel_rfl) (by kernel_rfl) (Calm.load (T := 27) (p := ⟨h21.size, 0, none⟩) (by kernel_rfl) (Loads.hash (by kernel_rfl) (root_len (lvs_32 _ _)) m24)) ?_
  refine SimK.look (D' := 511) (Wd' := 396) (i := 8) (v := .agg ((root (lvs b b.length)).map bv).toArray) (by kernel_rfl) (by kernel_rfl) (by kernel_rfl) (Calm.load (T := 27) (p := ⟨h29.size, 0, none⟩) (by kernel_rfl) (Loads.hash (by kernel_rfl) (root_len (lvs_32 _ _)) m32)) ?_
  refine SimK.free (D' := 1023) (i := 9) (v := .bool true) (by kernel_rfl) (by kernel_rfl) (eqHT (q := true) (l := root (lvs b b.length)) (r := root (lvs b b.length)) (n := 32) (by kernel_rfl) (root_len (lvs_32 _ _)) (root_len (lvs_32 _ _)) rfl) ?_
  refine SimK.pures (D' := 4095) (is := [10, 11]) (vs := [.bool true, .bool true]) (by kernel_rfl) ?_
  refine SimK.look (D' := 8191) (Wd' := 4492) (i := 12) (v := .agg ((leafH l).map bv).toArray) (by kernel_rfl) (by kernel_rfl) (by kernel_rfl) (Calm.load (T := 27) (p := ⟨h5.size, 0, none⟩) (by kernel_rfl) (Loads.hash (by kernel_rfl) (leaf_len _) m8)) ?_
  refine SimK.look (D' := 16383) (Wd' := 12684) (i := 13) (v := .agg ((root (lvs b b.length)).map bv).toArray) (by kernel_rfl) (by kernel_rfl) (by kernel_rfl) (Calm.load (T := 27) (p := ⟨h21.size, 0, none⟩) (by kernel_rfl) (Loads.hash (by kernel_rfl) (root_len (lvs_32 _ _)) m24)) ?_
  refine SimK.look (D' := 49151) (Wd' := 45452) (i := 15) (v := .agg ((leafH l).map bv).toArray) (by kernel_rfl) (by kernel_rfl) (by kernel_rfl) (Calm.load (T := 27) (p := ⟨h13.size, 0, none⟩) (by kernel_rfl) (Loads.hash (by kernel_rfl) (leaf_len _) m16)) ?_
  refine SimK.look (D' := 114687) (Wd' := 110988) (i := 16) (v := .agg ((root (lvs b b.length)).map bv).toArray) (by kernel_rfl) (by kernel_rfl) (by kernel_rfl) (Calm.load (T := 27) (p := ⟨h29.size, 0, none⟩) (by kernel_rfl) (Loads.hash (by kernel_rfl) (root_len (lvs_32 _ _)) m32)) ?_
  refine SimK.eff (i := 14) (D' := 131071) (X' := 32767) (by kernel_rfl) (by kernel_rfl) (by kernel_rfl) [15, 16] (by kernel_rfl) (Does.call (f := 14) (args := #[.agg ((leafH l).map bv).toArray, .agg ((root (lvs b b.length)).map bv).toArray]) (by kernel_rfl) (node_sat _ (leafH l) (root (lvs b b.length)) (leaf_len _) (root_len (lvs_32 _ _)) kt)) ?_
  rintro _ h37 ⟨rfl, g⟩
  replace e0 := e0.ext g
  replace kt := kt.ext g
  replace own_hl := own_hl.ext g
  replace m8 := Ext.blk g m8
  replace m16 := Ext.blk g m16
  replace m24 := Ext.blk g m24
  replace m32 := Ext.blk g m32
  replace sep := sep.up g.size
  refine ⟨?_, ?_⟩
  · intro j hj
    simp only [List.mem_cons, List.not_mem_nil, or_false] at hj
    rcases hj with rfl | rfl
    · exact goodOf (Calm.load (T := 27) (p := ⟨h13.size, 0, none⟩) (by kernel_rfl) (Loads.hash (by kernel_rfl) (leaf_len _) m16))
    · exact goodOf (Calm.load (T := 27) (p := ⟨h29.size, 0, none⟩) (by kernel_rfl) (Loads.hash (by kernel_rfl) (root_len (lvs_32 _ _)) m32))
  clear g
  refine SimK.eff0 (i := 17) (D' := 262143) (X' := 262143) (by kernel_rfl) (by kernel_rfl) (by kernel_rfl) (by kernel_rfl) (Does.call (f := 15) (args := #[.agg ((leafH l).map bv).toArray, .agg ((root (lvs b b.length)).map bv).toArray]) (by kernel_rfl) (rnode_sat _ (leafH l) (root (lvs b b.length)) (leaf_len _) (root_len (lvs_32 _ _)))) ?_
  rintro _ h38 ⟨rfl, g⟩
  replace e0 := e0.ext g
  replace kt := kt.ext g
  replace own_hl := own_hl.ext g
  replace m8 := Ext.blk g m8
  replace m16 := Ext.blk g m16
  replace m24 := Ext.blk g m24
  replace m32 := Ext.blk g m32
  replace sep := sep.up g.size
  clear g
  refine SimK.free (D' := 524287) (i := 18) (v := .bool true) (by kernel_rfl) (by kernel_rfl) (eqHT (q := true) (l := nodeH (leafH l) (root (lvs b b.length))) (r := nodeH (leafH l) (root (lvs b b.length))) (n := 32) (by kernel_rfl) (node_len _ _) (node_len _ _) rfl) ?_
  refine SimK.pures (D' := 2097151) (is := [19, 20]) (vs := [.bool true, .bool true]) (by kernel_rfl) ?_
  refine SimK.done [4] (L := [(4, .bool true)]) (by kernel_rfl) (by kernel_rfl) ?_
  clear hF; clear a; intro a hF
  show C Tryd.prog (sub b3 [1, 1, 1, 1, 1, 1, 1, 1]) _ a h38
  refine C.ret (by kernel_rfl) ?_
  show retK Tryd.prog Tryd.f3 (fun v h' => v = .bool true ∧ Ext h h') .ret a h38
  refine ret_ok [.tmp 4] [.bool true] (.bool true) rfl hF ⟨rfl, trivial⟩ rfl ?_
  exact ⟨rfl, e0⟩
end Go.Proofs.YtfompolnofgldaaDoor
