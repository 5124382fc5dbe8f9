/- Walks of the laws of the hashes: what each function computes, as a law of its calls. No condition but those that each theorem names. -/
import Derived.Test.YthllngaecibdkaaDoorStL
namespace Go.Proofs.YthllngaecibdkaaDoor
open Go Go.Lane Go.Sha
noncomputable def b6 : Code := Tryd.f6.body.getD .skip
theorem shown_sat (h : Heap) (kt : Ktab h) : Sat Tryd.prog 6 #[] h fun v h' => v = .bool true ∧ Ext h h' := by
  have e0 := Ext.refl h
  have h0s := kt.lt
  have sep : Sep h.size h.size [] := Sep.nil _ _
  refine sat_of (args := []) (fn := Tryd.f6) (B := b6) (n := 40) (L := []) Tryd.func6 rfl (by kernel_rfl) rfl ?_
  intro a hF
  refine C.seq [0] [1] (by kernel_rfl) ?_
  refine C.plain 0 (by kernel_rfl) hF (by kernel_rfl) ?_
  refine SeqK.pures (k' := 1) [.bool false] (by kernel_rfl) rfl ?_
  refine SeqK.done [] (L := []) (by kernel_rfl) (by kernel_rfl) ?_
  clear hF; clear a; intro a hF
  show C Tryd.prog (sub b6 [1]) _ a h
  refine C.seq [1, 0] [1, 1] (by kernel_rfl) ?_
  refine C.plain 1 (by kernel_rfl) hF (by kernel_rfl) ?_
  refine SeqK.pures (k' := 1) [.agg #[.int .u8 227, .int .u8 176, .int .u8 196, .int .u8 66, .int .u8 152, .int .u8 252, .int .u8 28, .int .u8 20, .int .u8 154, .int .u8 251, .int .u8 244, .int .u8 200, .int .u8 153, .int .u8 111, .int .u8 185, .int .u8 36, .int .u8 39, .int .u8 174, .int .u8 65, .int .u8 228, .int .u8 100, .int .u8 155, .int .u8 147, .int .u8 76, .int .u8 164, .int .u8 149, .int .u8 153, .int .u8 27, .int .u8 120, .int .u8 82, .int .u8 184, .int .u8 85]] (by kernel_rfl) rfl ?_
  refine SeqK.eff (k' := 2) (Does.new (v := .pointer (some ⟨h.size, 0, none⟩)) (o := .cells #[.int .u8 0, .int .u8 0, .int .u8 0, .int .u8 0, .int .u8 0, .int .u8 0, .int .u8 0, .int .u8 0, .int .u8 0, .int .u8 0, .int .u8 0, .int .u8 0, .int .u8 0, .int .u8 0, .int .u8 0, .int .u8 0, .int .u8 0, .int .u8 0, .int .u8 0, .int .u8 0, .int .u8 0, .int .u8 0, .int .u8 0, .int .u8 0, .int .u8 0, .int .u8 0, .int .u8 0, .int .u8 0, .int .u8 0, .int .u8 0, .int .u8 0, .int .u8 0] 25) (by kernel_rfl)) rfl ?_
  rintro _ h1 ⟨rfl, hh⟩
  have g2 : Ext h h1 := push_ext hh
  have m3 : h1[h.size]? = some (.cells #[.int .u8 0, .int .u8 0, .int .u8 0, .int .u8 0, .int .u8 0, .int .u8 0, .int .u8 0, .int .u8 0, .int .u8 0, .int .u8 0, .int .u8 0, .int .u8 0, .int .u8 0, .int .u8 0, .int .u8 0, .int .u8 0, .int .u8 0, .int .u8 0, .int .u8 0, .int .u8 0, .int .u8 0, .int .u8 0, .int .u8 0, .int .u8 0, .int .u8 0, .int .u8 0, .int .u8 0, .int .u8 0, .int .u8 0, .int .u8 0, .int .u8 0, .int .u8 0] 25) := push_at hh
  clear hh
  have lt4 := blk_lt m3
  have z5 := e0.size
  have hlo := e0.size
  have sepo := sep
  replace e0 := e0.ext g2
  replace kt := kt.ext g2
  replace sep := sep.up g2.size
  replace sep := sepo.new hlo (blk_lt m3)
  clear sepo hlo
  refine SeqK.eff (k' := 3) (Does.store (b := h.size) (off := 0) (vs := [.int .u8 227, .int .u8 176, .int .u8 196, .int .u8 66, .int .u8 152, .int .u8 252, .int .u8 28, .int .u8 20, .int .u8 154, .int .u8 251, .int .u8 244, .int .u8 200, .int .u8 153, .int .u8 111, .int .u8 185, .int .u8 36, .int .u8 39, .int .u8 174, .int .u8 65, .int .u8 228, .int .u8 100, .int .u8 155, .int .u8 147, .int .u8 76, .int .u8 164, .int .u8 149, .int .u8 153, .int .u8 27, .int .u8 120, .int .u8 82, .int .u8 184, .int .u8 85]) (l := [.int .u8 0, .int .u8 0, .int .u8 0, .int .u8 0, .int .u8 0, .int .u8 0, .int .u8 0, .int .u8 0, .int .u8 0, .int .u8 0, .int .u8 0, .int .u8 0, .int .u8 0, .int .u8 0, .int .u8 0, .int .u8 0, .int .u8 0, .int .u8 0, .int .u8 0, .int .u8 0, .int .u8 0, .int .u8 0, .int .u8 0, .int .u8 0, .int .u8 0, .int .u8 0, .int .u8 0, .int .u8 0, .int .u8 0, .int .u8 0, .int .u8 0, .int .u8 0]) (by kernel_rfl) m3 (of_decide_eq_true (by kernel_rfl)) (List.all_eq_true.1 (by kernel_rfl))) rfl ?_
  rintro _ h6 ⟨rfl, hh⟩
  have g7 : Grew (some (h.size)) h1 h6 := hput_gr hh
  replace m3 : h6[h.size]? = some (.cells ([.int .u8 227, .int .u8 176, .int .u8 196, .int .u8 66, .int .u8 152, .int .u8 252, .int .u8 28, .int .u8 20, .int .u8 154, .int .u8 251, .int .u8 244, .int .u8 200, .int .u8 153, .int .u8 111, .int .u8 185, .int .u8 36, .int .u8 39, .int .u8 174, .int .u8 65, .int .u8 228, .int .u8 100, .int .u8 155, .int .u8 147, .int .u8 76, .int .u8 164, .int .u8 149, .int .u8 153, .int .u8 27, .int .u8 120, .int .u8 82, .int .u8 184, .int .u8 85]).toArray 25) := hput_at (off := 0) (vs := [.int .u8 227, .int .u8 176, .int .u8 196, .int .u8 66, .int .u8 152, .int .u8 252, .int .u8 28, .int .u8 20, .int .u8 154, .int .u8 251, .int .u8 244, .int .u8 200, .int .u8 153, .int .u8 111, .int .u8 185, .int .u8 36, .int .u8 39, .int .u8 174, .int .u8 65, .int .u8 228, .int .u8 100, .int .u8 155, .int .u8 147, .int .u8 76, .int .u8 164, .int .u8 149, .int .u8 153, .int .u8 27, .int .u8 120, .int .u8 82, .int .u8 184, .int .u8 85]) (l := ([.int .u8 0, .int .u8 0, .int .u8 0, .int .u8 0, .int .u8 0, .int .u8 0, .int .u8 0, .int .u8 0, .int .u8 0, .int .u8 0, .int .u8 0, .int .u8 0, .int .u8 0, .int .u8 0, .int .u8 0, .int .u8 0, .int .u8 0, .int .u8 0, .int .u8 0, .int .u8 0, .int .u8 0, .int .u8 0, .int .u8 0, .int .u8 0, .int .u8 0, .int .u8 0, .int .u8 0, .int .u8 0, .int .u8 0, .int .u8 0, .int .u8 0, .int .u8 0])) hh (by kernel_rfl) m3
  clear hh
  replace e0 := e0.grew g7 (sep.low 0 rfl)
  replace kt := kt.grew g7 (sep.zero 0 rfl h0s)
  replace sep := sep.up g7.size
  refine SeqK.done [1] (L := [(1, .pointer (some ⟨h.size, 0, none⟩))]) (by kernel_rfl) (by kernel_rfl) ?_
  clear hF; clear a; intro a hF
  show C Tryd.prog (sub b6 [1, 1]) _ a h6
  refine C.seq [1, 1, 0] [1, 1, 1] (by kernel_rfl) ?_
  refine C.plain 2 (by kernel_rfl) hF (by kernel_rfl) ?_
  refine SeqK.pures (k' := 1) [.agg #[.int .u8 186, .int .u8 120, .int .u8 22, .int .u8 191, .int .u8 143, .int .u8 1, .int .u8 207, .int .u8 234, .int .u8 65, .int .u8 65, .int .u8 64, .int .u8 222, .int .u8 93, .int .u8 174, .int .u8 34, .int .u8 35, .int .u8 176, .int .u8 3, .int .u8 97, .int .u8 163, .int .u8 150, .int .u8 23, .int .u8 122, .int .u8 156, .int .u8 180, .int .u8 16, .int .u8 255, .int .u8 97, .int .u8 242, .int .u8 0, .int .u8 21, .int .u8 173]] (by kernel_rfl) rfl ?_
  refine SeqK.eff (k' := 2) (Does.new (v := .pointer (some ⟨h6.size, 0, none⟩)) (o := .cells #[.int .u8 0, .int .u8 0, .int .u8 0, .int .u8 0, .int .u8 0, .int .u8 0, .int .u8 0, .int .u8 0, .int .u8 0, .int .u8 0, .int .u8 0, .int .u8 0, .int .u8 0, .int .u8 0, .int .u8 0, .int .u8 0, .int .u8 0, .int .u8 0, .int .u8 0, .int .u8 0, .int .u8 0, .int .u8 0, .int .u8 0, .int .u8 0, .int .u8 0, .int .u8 0, .int .u8 0, .int .u8 0, .int .u8 0, .int .u8 0, .int .u8 0, .int .u8 0] 25) (by kernel_rfl)) rfl ?_
  rintro _ h8 ⟨rfl, hh⟩
  have g9 : Ext h6 h8 := push_ext hh
  have m10 : h8[h6.size]? = some (.cells #[.int .u8 0, .int .u8 0, .int .u8 0, .int .u8 0, .int .u8 0, .int .u8 0, .int .u8 0, .int .u8 0, .int .u8 0, .int .u8 0, .int .u8 0, .int .u8 0, .int .u8 0, .int .u8 0, .int .u8 0, .int .u8 0, .int .u8 0, .int .u8 0, .int .u8 0, .int .u8 0, .int .u8 0, .int .u8 0, .int .u8 0, .int .u8 0, .int .u8 0, .int .u8 0, .int .u8 0, .int .u8 0, .int .u8 0, .int .u8 0, .int .u8 0, .int .u8 0] 25) := push_at hh
  clear hh
  have lt11 := blk_lt m10
  have z12 := e0.size
  have hlo := e0.size
  have sepo := sep
  replace e0 := e0.ext g9
  replace kt := kt.ext g9
  replace m3 := Ext.blk g9 m3
  replace sep := sep.up g9.size
  replace sep := sepo.new hlo (blk_lt m10)
  clear sepo hlo
  refine SeqK.eff (k' := 3) (Does.store (b := h6.size) (off := 0) (vs := [.int .u8 186, .int .u8 120, .int .u8 22, .int .u8 191, .int .u8 143, .int .u8 1, .int .u8 207, .int .u8 234, .int .u8 65, .int .u8 65, .int .u8 64, .int .u8 222, .int .u8 93, .int .u8 174, .int .u8 34, .int .u8 35, .int .u8 176, .int .u8 3, .int .u8 97, .int .u8 163, .int .u8 150, .int .u8 23, .int .u8 122, .int .u8 156, .int .u8 180, .int .u8 16, .int .u8 255, .int .u8 97, .int .u8 242, .int .u8 0, .int .u8 21, .int .u8 173]) (l := [.int .u8 0, .int .u8 0, .int .u8 0, .int .u8 0, .int .u8 0, .int .u8 0, .int .u8 0, .int .u8 0, .int .u8 0, .int .u8 0, .int .u8 0, .int .u8 0, .int .u8 0, .int .u8 0, .int .u8 0, .int .u8 0, .int .u8 0, .int .u8 0, .int .u8 0, .int .u8 0, .int .u8 0, .int .u8 0, .int .u8 0, .int .u8 0, .int .u8 0, .int .u8 0, .int .u8 0, .int .u8 0, .int .u8 0, .int .u8 0, .int .u8 0, .int .u8 0]) (by kernel_rfl) m10 (of_decide_eq_true (by kernel_rfl)) (List.all_eq_true.1 (by kernel_rfl))) rfl ?_
  rintro _ h13 ⟨rfl, hh⟩
  have g14 : Grew (some (h6.size)) h8 h13 := hput_gr hh
  replace m10 : h13[h6.size]? = some (.cells ([.int .u8 186, .int .u8 120, .int .u8 22, .int .u8 191, .int .u8 143, .int .u8 1, .int .u8 207, .int .u8 234, .int .u8 65, .int .u8 65, .int .u8 64, .int .u8 222, .int .u8 93, .int .u8 174, .int .u8 34, .int .u8 35, .int .u8 176, .int .u8 3, .int .u8 97, .int .u8 163, .int .u8 150, .int .u8 23, .int .u8 122, .int .u8 156, .int .u8 180, .int .u8 16, .int .u8 255, .int .u8 97, .int .u8 242, .int .u8 0, .int .u8 21, .int .u8 173]).toArray 25) := hput_at (off := 0) (vs := [.int .u8 186, .int .u8 120, .int .u8 22, .int .u8 191, .int .u8 143, .int .u8 1, .int .u8 207, .int .u8 234, .int .u8 65, .int .u8 65, .int .u8 64, .int .u8 222, .int .u8 93, .int .u8 174, .int .u8 34, .int .u8 35, .int .u8 176, .int .u8 3, .int .u8 97, .int .u8 163, .int .u8 150, .int .u8 23, .int .u8 122, .int .u8 156, .int .u8 180, .int .u8 16, .int .u8 255, .int .u8 97, .int .u8 242, .int .u8 0, .int .u8 21, .int .u8 173]) (l := ([.int .u8 0, .int .u8 0, .int .u8 0, .int .u8 0, .int .u8 0, .int .u8 0, .int .u8 0, .int .u8 0, .int .u8 0, .int .u8 0, .int .u8 0, .int .u8 0, .int .u8 0, .int .u8 0, .int .u8 0, .int .u8 0, .int .u8 0, .int .u8 0, .int .u8 0, .int .u8 0, .int .u8 0, .int .u8 0, .int .u8 0, .int .u8 0, .int .u8 0, .int .u8 0, .int .u8 0, .int .u8 0, .int .u8 0, .int .u8 0, .int .u8 0, .int .u8 0])) hh (by kernel_rfl) m10
  clear hh
  replace e0 := e0.grew g14 (sep.low 0 rfl)
  replace kt := kt.grew g14 (sep.zero 0 rfl h0s)
  replace m3 := Grew.blk g14 m3 ((sep.bp 1 0 rfl rfl (by decide)))
  replace sep := sep.up g14.size
  refine SeqK.done [1, 2] (L := [(1, .pointer (some ⟨h.size, 0, none⟩)), (2, .pointer (some ⟨h6.size, 0, none⟩))]) (by kernel_rfl) (by kernel_rfl) ?_
  clear hF; clear a; intro a hF
  show C Tryd.prog (sub b6 [1, 1, 1]) _ a h13
  refine C.seq [1, 1, 1, 0] [1, 1, 1, 1] (by kernel_rfl) ?_
  refine C.plain 3 (by kernel_rfl) hF (by kernel_rfl) ?_
  refine SeqK.eff (k' := 1) (Does.call (f := 10) (args := #[]) (by kernel_rfl) (new_l _)) rfl ?_
  rintro _ h15 ⟨b_s, rfl, hs_s, hge, g⟩
  have hlo := e0.size
  have sepo := sep
  replace e0 := e0.ext g
  replace kt := kt.ext g
  replace m3 := Ext.blk g m3
  replace m10 := Ext.blk g m10
  replace sep := sep.up g.size
  have hlt := hs_s.lt.1
  replace sep := (sepo.cons (x := some b_s) g.size (by omega) (fun k e => by cases e; exact ⟨hge, hlt⟩)).none (by omega)
  clear hge hlo hlt g sepo
  refine SeqK.pures (k' := 2) [.pointer (some ⟨b_s, 0, none⟩)] (by kernel_rfl) rfl ?_
  refine SeqK.done [1, 2, 3] (L := [(1, .pointer (some ⟨h.size, 0, none⟩)), (2, .pointer (some ⟨h6.size, 0, none⟩)), (3, .pointer (some ⟨b_s, 0, none⟩))]) (by kernel_rfl) (by kernel_rfl) ?_
  clear hF; clear a; intro a hF
  show C Tryd.prog (sub b6 [1, 1, 1, 1]) _ a h15
  refine C.seq [1, 1, 1, 1, 0] [1, 1, 1, 1, 1] (by kernel_rfl) ?_
  refine C.seq [1, 1, 1, 1, 0, 0] [1, 1, 1, 1, 0, 1] (by kernel_rfl) ?_
  refine C.plain 4 (by kernel_rfl) hF (by kernel_rfl) ?_
  refine SeqK.pures (k' := 2) [.pointer (some ⟨b_s, 0, none⟩), .bool false] (by kernel_rfl) rfl ?_
  refine SeqK.done [1, 2, 3, 10] (L := [(1, .pointer (some ⟨h.size, 0, none⟩)), (2, .pointer (some ⟨h6.size, 0, none⟩)), (3, .pointer (some ⟨b_s, 0, none⟩)), (10, .bool false)]) (by kernel_rfl) (by kernel_rfl) ?_
  clear hF; clear a; intro a hF
  show C Tryd.prog (sub b6 [1, 1, 1, 1, 0, 1]) _ a h15
  refine C.condF 10 [1, 1, 1, 1, 0, 1, 0] [1, 1, 1, 1, 0, 1, 1] (by kernel_rfl) hF (fun _ => rfl) ?_
  refine C.skip (by kernel_rfl) ?_
  show C Tryd.prog (sub b6 [1, 1, 1, 1, 1]) _ a h15
  refine C.seq [1, 1, 1, 1, 1, 0] [1, 1, 1, 1, 1, 1] (by kernel_rfl) ?_
  refine C.plain 6 (by kernel_rfl) hF (by kernel_rfl) ?_
  refine SeqK.pures (k' := 1) [.pointer (some ⟨b_s, 0, none⟩)] (by kernel_rfl) rfl ?_
  refine SeqK.eff (k' := 2) (Does.call (f := 12) (args := #[.pointer (some ⟨b_s, 0, none⟩)]) (by kernel_rfl) (sum_l _ b_s none ([]) hs_s kt (by decide))) rfl ?_
  rintro _ h16 ⟨rfl, g⟩
  replace e0 := e0.ext g
  replace kt := kt.ext g
  replace hs_s := hs_s.ext g
  replace m3 := Ext.blk g m3
  replace m10 := Ext.blk g m10
  replace sep := sep.up g.size
  clear g
  refine SeqK.eff (k' := 3) (Does.new (v := .pointer (some ⟨h16.size, 0, none⟩)) (o := .cells #[.int .u8 0, .int .u8 0, .int .u8 0, .int .u8 0, .int .u8 0, .int .u8 0, .int .u8 0, .int .u8 0, .int .u8 0, .int .u8 0, .int .u8 0, .int .u8 0, .int .u8 0, .int .u8 0, .int .u8 0, .int .u8 0, .int .u8 0, .int .u8 0, .int .u8 0, .int .u8 0, .int .u8 0, .int .u8 0, .int .u8 0, .int .u8 0, .int .u8 0, .int .u8 0, .int .u8 0, .int .u8 0, .int .u8 0, .int .u8 0, .int .u8 0, .int .u8 0] 25) (by kernel_rfl)) rfl ?_
  rintro _ h17 ⟨rfl, hh⟩
  have g18 : Ext h16 h17 := push_ext hh
  have m19 : h17[h16.size]? = some (.cells #[.int .u8 0, .int .u8 0, .int .u8 0, .int .u8 0, .int .u8 0, .int .u8 0, .int .u8 0, .int .u8 0, .int .u8 0, .int .u8 0, .int .u8 0, .int .u8 0, .int .u8 0, .int .u8 0, .int .u8 0, .int .u8 0, .int .u8 0, .int .u8 0, .int .u8 0, .int .u8 0, .int .u8 0, .int .u8 0, .int .u8 0, .int .u8 0, .int .u8 0, .int .u8 0, .int .u8 0, .int .u8 0, .int .u8 0, .int .u8 0, .int .u8 0, .int .u8 0] 25) := push_at hh
  clear hh
  have lt20 := blk_lt m19
  have z21 := e0.size
  have hlo := e0.size
  have sepo := sep
  replace e0 := e0.ext g18
  replace kt := kt.ext g18
  replace hs_s := hs_s.ext g18
  replace m3 := Ext.blk g18 m3
  replace m10 := Ext.blk g18 m10
  replace sep := sep.up g18.size
  replace sep := sepo.new hlo (blk_lt m19)
  clear sepo hlo
  refine SeqK.eff (k' := 4) (Does.store (b := h16.size) (off := 0) (vs := (sha ([])).map bv) (l := [.int .u8 0, .int .u8 0, .int .u8 0, .int .u8 0, .int .u8 0, .int .u8 0, .int .u8 0, .int .u8 0, .int .u8 0, .int .u8 0, .int .u8 0, .int .u8 0, .int .u8 0, .int .u8 0, .int .u8 0, .int .u8 0, .int .u8 0, .int .u8 0, .int .u8 0, .int .u8 0, .int .u8 0, .int .u8 0, .int .u8 0, .int .u8 0, .int .u8 0, .int .u8 0, .int .u8 0, .int .u8 0, .int .u8 0, .int .u8 0, .int .u8 0, .int .u8 0]) (by kernel_rfl) m19 (of_decide_eq_true (by kernel_rfl)) (ones_map _)) rfl ?_
  rintro _ h22 ⟨rfl, hh⟩
  have g23 : Grew (some (h16.size)) h17 h22 := hput_gr hh
  replace m19 : h22[h16.size]? = some (.cells ((sha ([])).map bv).toArray 25) := hput_at (off := 0) (vs := (sha ([])).map bv) (l := ([.int .u8 0, .int .u8 0, .int .u8 0, .int .u8 0, .int .u8 0, .int .u8 0, .int .u8 0, .int .u8 0, .int .u8 0, .int .u8 0, .int .u8 0, .int .u8 0, .int .u8 0, .int .u8 0, .int .u8 0, .int .u8 0, .int .u8 0, .int .u8 0, .int .u8 0, .int .u8 0, .int .u8 0, .int .u8 0, .int .u8 0, .int .u8 0, .int .u8 0, .int .u8 0, .int .u8 0, .int .u8 0, .int .u8 0, .int .u8 0, .int .u8 0, .int .u8 0])) hh (by kernel_rfl) m19
  clear hh
  replace e0 := e0.grew g23 (sep.low 0 rfl)
  replace kt := kt.grew g23 (sep.zero 0 rfl h0s)
  replace hs_s := hs_s.put g23 (sep.bp 2 0 rfl rfl (by decide)) (sep.ap 1 0 rfl rfl (by decide))
  replace m3 := Grew.blk g23 m3 ((sep.bp 4 0 rfl rfl (by decide)))
  replace m10 := Grew.blk g23 m10 ((sep.bp 3 0 rfl rfl (by decide)))
  replace sep := sep.up g23.size
  refine SeqK.done [1, 2, 3, 4] (L := [(1, .pointer (some ⟨h.size, 0, none⟩)), (2, .pointer (some ⟨h6.size, 0, none⟩)), (3, .pointer (some ⟨b_s, 0, none⟩)), (4, .pointer (some ⟨h16.size, 0, none⟩))]) (by kernel_rfl) (by kernel_rfl) ?_
  clear hF; clear a; intro a hF
  show C Tryd.prog (sub b6 [1, 1, 1, 1, 1, 1]) _ a h22
  refine C.seq [1, 1, 1, 1, 1, 1, 0] [1, 1, 1, 1, 1, 1, 1] (by kernel_rfl) ?_
  refine C.plain 7 (by kernel_rfl) hF (by kernel_rfl) ?_
  refine SeqK.pures (k' := 1) [.pointer (some ⟨b_s, 0, none⟩)] (by kernel_rfl) rfl ?_
  refine SeqK.eff (k' := 2) (Does.new (v := .slice (some ⟨h22.size, 0, none⟩) 1 1) (o := .cells #[.int .u8 97] 5) (by kernel_rfl)) rfl ?_
  rintro _ h24 ⟨rfl, hh⟩
  have g25 : Ext h22 h24 := push_ext hh
  have m26 : h24[h22.size]? = some (.cells #[.int .u8 97] 5) := push_at hh
  clear hh
  have lt27 := blk_lt m26
  have z28 := e0.size
  have hlo := e0.size
  have sepo := sep
  replace e0 := e0.ext g25
  replace kt := kt.ext g25
  replace hs_s := hs_s.ext g25
  replace m3 := Ext.blk g25 m3
  replace m10 := Ext.blk g25 m10
  replace m19 := Ext.blk g25 m19
  replace sep := sep.up g25.size
  replace sep := sepo.new hlo (blk_lt m26)
  clear sepo hlo
  refine SeqK.eff (k' := 3) (Does.call (f := 11) (args := #[.pointer (some ⟨b_s, 0, none⟩), .slice (some ⟨h22.size, 0, none⟩) 1 1]) (by kernel_rfl) (write_l _ b_s none ([]) ([97]) _ _ hs_s (Row.blk (l := ([97] : List UInt8).map bv) m26 rfl) (.inr (sep.bp 0 3 rfl rfl (by decide))) (by have := sep.low 3 rfl _ rfl; omega) (fun e => sep.zero 2 rfl h0s e.symm) kt (by decide))) rfl ?_
  rintro _ h30 ⟨o29, hs', ho', g⟩
  have hlo := e0.size
  replace e0 := Gr.toExt e0 g (sep.lowF 3 2 rfl rfl)
  replace kt := kt.gr g (sep.zeroF 3 2 rfl rfl h0s)
  replace hs_s : StL h30 b_s o29 ([97]) := (by first | exact hs' | simpa using hs')
  replace m3 := g.blk m3 ((sep.gF 5 3 2 rfl rfl rfl (by decide) (by decide)) _ rfl)
  replace m10 := g.blk m10 ((sep.gF 4 3 2 rfl rfl rfl (by decide) (by decide)) _ rfl)
  replace m19 := g.blk m19 ((sep.gF 1 3 2 rfl rfl rfl (by decide) (by decide)) _ rfl)
  replace m26 := g.blk m26 ((sep.gF 0 3 2 rfl rfl rfl (by decide) (by decide)) _ rfl)
  replace sep := sep.set g.1 hlo 2 (y := o29) rfl (ho'.imp id .inr) (fun k e => hs'.lt.2 k e)
  replace sep : Sep h.size h30.size [some (h22.size), some (h16.size), o29, b_s, some (h6.size), some (h.size)] := sep
  clear hs' ho' g hlo
  refine SeqK.done [1, 2, 3, 4] (L := [(1, .pointer (some ⟨h.size, 0, none⟩)), (2, .pointer (some ⟨h6.size, 0, none⟩)), (3, .pointer (some ⟨b_s, 0, none⟩)), (4, .pointer (some ⟨h16.size, 0, none⟩))]) (by kernel_rfl) (by kernel_rfl) ?_
  clear hF; clear a; intro a hF
  show C Tryd.prog (sub b6 [1, 1, 1, 1, 1, 1, 1]) _ a h30
  refine C.seq [1, 1, 1, 1, 1, 1, 1, 0] [1, 1, 1, 1, 1, 1, 1, 1] (by kernel_rfl) ?_
  refine C.plain 8 (by kernel_rfl) hF (by kernel_rfl) ?_
  refine SeqK.pures (k' := 1) [.pointer (some ⟨b_s, 0, none⟩)] (by kernel_rfl) rfl ?_
  refine SeqK.eff (k' := 2) (Does.new (v := .slice (some ⟨h30.size, 0, none⟩) 2 2) (o := .cells #[.int .u8 98, .int .u8 99] 5) (by kernel_rfl)) rfl ?_
  rintro _ h31 ⟨rfl, hh⟩
  have g32 : Ext h30 h31 := push_ext hh
  have m33 : h31[h30.size]? = some (.cells #[.int .u8 98, .int .u8 99] 5) := push_at hh
  clear hh
  have lt34 := blk_lt m33
  have z35 := e0.size
  have hlo := e0.size
  have sepo := sep
  replace e0 := e0.ext g32
  replace kt := kt.ext g32
  replace hs_s := hs_s.ext g32
  replace m3 := Ext.blk g32 m3
  replace m10 := Ext.blk g32 m10
  replace m19 := Ext.blk g32 m19
  replace m26 := Ext.blk g32 m26
  replace sep := sep.up g32.size
  replace sep := sepo.new hlo (blk_lt m33)
  clear sepo hlo
  refine SeqK.eff (k' := 3) (Does.call (f := 11) (args := #[.pointer (some ⟨b_s, 0, none⟩), .slice (some ⟨h30.size, 0, none⟩) 2 2]) (by kernel_rfl) (write_l _ b_s o29 ([97]) ([98, 99]) _ _ hs_s (Row.blk (l := ([98, 99] : List UInt8).map bv) m33 rfl) (.inr (sep.bp 0 4 rfl rfl (by decide))) (by have := sep.low 4 rfl _ rfl; omega) (fun e => sep.zero 3 rfl h0s e.symm) kt (by decide))) rfl ?_
  rintro _ h37 ⟨o36, hs', ho', g⟩
  have hlo := e0.size
  replace e0 := Gr.toExt e0 g (sep.lowF 4 3 rfl rfl)
  replace kt := kt.gr g (sep.zeroF 4 3 rfl rfl h0s)
  replace hs_s : StL h37 b_s o36 ([97, 98, 99]) := (by first | exact hs' | simpa using hs')
  replace m3 := g.blk m3 ((sep.gF 6 4 3 rfl rfl rfl (by decide) (by decide)) _ rfl)
  replace m10 := g.blk m10 ((sep.gF 5 4 3 rfl rfl rfl (by decide) (by decide)) _ rfl)
  replace m19 := g.blk m19 ((sep.gF 2 4 3 rfl rfl rfl (by decide) (by decide)) _ rfl)
  replace m26 := g.blk m26 ((sep.gF 1 4 3 rfl rfl rfl (by decide) (by decide)) _ rfl)
  replace m33 := g.blk m33 ((sep.gF 0 4 3 rfl rfl rfl (by decide) (by decide)) _ rfl)
  replace sep := sep.set g.1 hlo 3 (y := o36) rfl (ho'.imp id .inr) (fun k e => hs'.lt.2 k e)
  replace sep : Sep h.size h37.size [some (h30.size), some (h22.size), some (h16.size), o36, b_s, some (h6.size), some (h.size)] := sep
  clear hs' ho' g hlo
  refine SeqK.done [1, 2, 3, 4] (L := [(1, .pointer (some ⟨h.size, 0, none⟩)), (2, .pointer (some ⟨h6.size, 0, none⟩)), (3, .pointer (some ⟨b_s, 0, none⟩)), (4, .pointer (some ⟨h16.size, 0, none⟩))]) (by kernel_rfl) (by kernel_rfl) ?_
  clear hF; clear a; intro a hF
  show C Tryd.prog (sub b6 [1, 1, 1, 1, 1, 1, 1, 1]) _ a h37
  refine C.seq [1, 1, 1, 1, 1, 1, 1, 1, 0] [1, 1, 1, 1, 1, 1, 1, 1, 1] (by kernel_rfl) ?_
  refine C.plain 9 (by kernel_rfl) hF (by kernel_rfl) ?_
  refine SeqK.pures (k' := 1) [.pointer (some ⟨b_s, 0, none⟩)] (by kernel_rfl) rfl ?_
  refine SeqK.eff (k' := 2) (Does.call (f := 12) (args := #[.pointer (some ⟨b_s, 0, none⟩)]) (by kernel_rfl) (sum_l _ b_s o36 ([97, 98, 99]) hs_s kt (by decide))) rfl ?_
  rintro _ h38 ⟨rfl, g⟩
  replace e0 := e0.ext g
  replace kt := kt.ext g
  replace hs_s := hs_s.ext g
  replace m3 := Ext.blk g m3
  replace m10 := Ext.blk g m10
  replace m19 := Ext.blk g m19
  replace m26 := Ext.blk g m26
  replace m33 := Ext.blk g m33
  replace sep := sep.up g.size
  clear g
  refine SeqK.eff (k' := 3) (Does.new (v := .pointer (some ⟨h38.size, 0, none⟩)) (o := .cells #[.int .u8 0, .int .u8 0, .int .u8 0, .int .u8 0, .int .u8 0, .int .u8 0, .int .u8 0, .int .u8 0, .int .u8 0, .int .u8 0, .int .u8 0, .int .u8 0, .int .u8 0, .int .u8 0, .int .u8 0, .int .u8 0, .int .u8 0, .int .u8 0, .int .u8 0, .int .u8 0, .int .u8 0, .int .u8 0, .int .u8 0, .int .u8 0, .int .u8 0, .int .u8 0, .int .u8 0, .int .u8 0, .int .u8 0, .int .u8 0, .int .u8 0, .int .u8 0] 25) (by kernel_rfl)) rfl ?_
  rintro _ h39 ⟨rfl, hh⟩
  have g40 : Ext h38 h39 := push_ext hh
  have m41 : h39[h38.size]? = some (.cells #[.int .u8 0, .int .u8 0, .int .u8 0, .int .u8 0, .int .u8 0, .int .u8 0, .int .u8 0, .int .u8 0, .int .u8 0, .int .u8 0, .int .u8 0, .int .u8 0, .int .u8 0, .int .u8 0, .int .u8 0, .int .u8 0, .int .u8 0, .int .u8 0, .int .u8 0, .int .u8 0, .int .u8 0, .int .u8 0, .int .u8 0, .int .u8 0, .int .u8 0, .int .u8 0, .int .u8 0, .int .u8 0, .int .u8 0, .int .u8 0, .int .u8 0, .int .u8 0] 25) := push_at hh
  clear hh
  have lt42 := blk_lt m41
  have z43 := e0.size
  have hlo := e0.size
  have sepo := sep
  replace e0 := e0.ext g40
  replace kt := kt.ext g40
  replace hs_s := hs_s.ext g40
  replace m3 := Ext.blk g40 m3
  replace m10 := Ext.blk g40 m10
  replace m19 := Ext.blk g40 m19
  replace m26 := Ext.blk g40 m26
  replace m33 := Ext.blk g40 m33
  replace sep := sep.up g40.size
  replace sep := sepo.new hlo (blk_lt m41)
  clear sepo hlo
  refine SeqK.eff (k' := 4) (Does.store (b := h38.size) (off := 0) (vs := (sha ([97, 98, 99])).map bv) (l := [.int .u8 0, .int .u8 0, .int .u8 0, .int .u8 0, .int .u8 0, .int .u8 0, .int .u8 0, .int .u8 0, .int .u8 0, .int .u8 0, .int .u8 0, .int .u8 0, .int .u8 0, .int .u8 0, .int .u8 0, .int .u8 0, .int .u8 0, .int .u8 0, .int .u8 0, .int .u8 0, .int .u8 0, .int .u8 0, .int .u8 0, .int .u8 0, .int .u8 0, .int .u8 0, .int .u8 0, .int .u8 0, .int .u8 0, .int .u8 0, .int .u8 0, .int .u8 0]) (by kernel_rfl) m41 (of_decide_eq_true (by kernel_rfl)) (ones_map _)) rfl ?_
  rintro _ h44 ⟨rfl, hh⟩
  have g45 : Grew (some (h38.size)) h39 h44 := hput_gr hh
  replace m41 : h44[h38.size]? = some (.cells ((sha ([97, 98, 99])).map bv).toArray 25) := hput_at (off := 0) (vs := (sha ([97, 98, 99])).map bv) (l := ([.int .u8 0, .int .u8 0, .int .u8 0, .int .u8 0, .int .u8 0, .int .u8 0, .int .u8 0, .int .u8 0, .int .u8 0, .int .u8 0, .int .u8 0, .int .u8 0, .int .u8 0, .int .u8 0, .int .u8 0, .int .u8 0, .int .u8 0, .int .u8 0, .int .u8 0, .int .u8 0, .int .u8 0, .int .u8 0, .int .u8 0, .int .u8 0, .int .u8 0, .int .u8 0, .int .u8 0, .int .u8 0, .int .u8 0, .int .u8 0, .int .u8 0, .int .u8 0])) hh (by kernel_rfl) m41
  clear hh
  replace e0 := e0.grew g45 (sep.low 0 rfl)
  replace kt := kt.grew g45 (sep.zero 0 rfl h0s)
  replace hs_s := hs_s.put g45 (sep.bp 5 0 rfl rfl (by decide)) (sep.ap 4 0 rfl rfl (by decide))
  replace m3 := Grew.blk g45 m3 ((sep.bp 7 0 rfl rfl (by decide)))
  replace m10 := Grew.blk g45 m10 ((sep.bp 6 0 rfl rfl (by decide)))
  replace m19 := Grew.blk g45 m19 ((sep.bp 3 0 rfl rfl (by decide)))
  replace m26 := Grew.blk g45 m26 ((sep.bp 2 0 rfl rfl (by decide)))
  replace m33 := Grew.blk g45 m33 ((sep.bp 1 0 rfl rfl (by decide)))
  replace sep := sep.up g45.size
  refine SeqK.done [1, 2, 4, 5] (L := [(1, .pointer (some ⟨h.size, 0, none⟩)), (2, .pointer (some ⟨h6.size, 0, none⟩)), (4, .pointer (some ⟨h16.size, 0, none⟩)), (5, .pointer (some ⟨h38.size, 0, none⟩))]) (by kernel_rfl) (by kernel_rfl) ?_
  clear hF; clear a; intro a hF
  show C Tryd.prog (sub b6 [1, 1, 1, 1, 1, 1, 1, 1, 1]) _ a h44
  refine C.seq [1, 1, 1, 1, 1, 1, 1, 1, 1, 0] [1, 1, 1, 1, 1, 1, 1, 1, 1, 1] (by kernel_rfl) ?_
  refine C.draw (A := [0, 0, 3, 7, 15, 31, 15, 127, 255, 511, 1023, 1023, 4095, 8191, 16383, 32767, 32767, 131071, 262143, 524287]) 10 (by kernel_rfl) mixed hF (by kernel_rfl) ?_
  refine SimK.look (D' := 2) (Wd' := 2) (i := 1) (v := .agg #[.int .u8 227, .int .u8 176, .int .u8 196, .int .u8 66, .int .u8 152, .int .u8 252, .int .u8 28, .int .u8 20, .int .u8 154, .int .u8 251, .int .u8 244, .int .u8 200, .int .u8 153, .int .u8 111, .int .u8 185, .int .u8 36, .int .u8 39, .int .u8 174, .int .u8 65, .int .u8 228, .int .u8 100, .int .u8 155, .int .u8 147, .int .u8 76, .int .u8 164, .int .u8 149, .int .u8 153, .int .u8 27, .int .u8 120, .int .u8 82, .int .u8 184, .int .u8 85]) (by kernel_rfl) (by kernel_rfl) (by kernel_rfl) (Calm.load (T := 25) (p := ⟨h.size, 0, none⟩) (by kernel_rfl) (Loads.blk (vs := [.int .u8 227, .int .u8 176, .int .u8 196, .int .u8 66, .int .u8 152, .int .u8 252, .int .u8 28, .int .u8 20, .int .u8 154, .int .u8 251, .int .u8 244, .int .u8 200, .int .u8 153, .int .u8 111, .int .u8 185, .int .u8 36, .int .u8 39, .int .u8 174, .int .u8 65, .int .u8 228, .int .u8 100, .int .u8 155, .int .u8 147, .int .u8 76, .int .u8 164, .int .u8 149, .int .u8 153, .int .u8 27, .int .u8 120, .int .u8 82, .int .u8 184, .int .u8 85]) (by kernel_rfl) m3 rfl)) ?_
  refine SimK.eff (i := 0) (D' := 3) (X' := 1) (by kernel_rfl) (by kernel_rfl) (by kernel_rfl) [1] (by kernel_rfl) (Does.call (f := 7) (args := #[.slice none 0 0]) (by kernel_rfl) (sha_sat _ [] none 0 (Row.bnil _) (.inl rfl) kt (by decide))) ?_
  rintro _ h46 ⟨rfl, g⟩
  replace e0 := e0.ext g
  replace kt := kt.ext g
  replace hs_s := hs_s.ext g
  replace m3 := Ext.blk g m3
  replace m10 := Ext.blk g m10
  replace m19 := Ext.blk g m19
  replace m26 := Ext.blk g m26
  replace m33 := Ext.blk g m33
  replace m41 := Ext.blk g m41
  replace sep := sep.up g.size
  refine ⟨?_, ?_⟩
  · intro j hj
    simp only [List.mem_cons, List.not_mem_nil, or_false] at hj
    subst hj
    exact goodOf (Calm.load (T := 25) (p := ⟨h.size, 0, none⟩) (by kernel_rfl) (Loads.blk (vs := [.int .u8 227, .int .u8 176, .int .u8 196, .int .u8 66, .int .u8 152, .int .u8 252, .int .u8 28, .int .u8 20, .int .u8 154, .int .u8 251, .int .u8 244, .int .u8 200, .int .u8 153, .int .u8 111, .int .u8 185, .int .u8 36, .int .u8 39, .int .u8 174, .int .u8 65, .int .u8 228, .int .u8 100, .int .u8 155, .int .u8 147, .int .u8 76, .int .u8 164, .int .u8 149, .int .u8 153, .int .u8 27, .int .u8 120, .int .u8 82, .int .u8 184, .int .u8 85]) (by kernel_rfl) m3 rfl))
  clear g
  refine SimK.free (D' := 7) (i := 2) (v := .bool true) (by kernel_rfl) (by kernel_rfl) (eqHT (q := true) (l := sha []) (r := [227, 176, 196, 66, 152, 252, 28, 20, 154, 251, 244, 200, 153, 111, 185, 36, 39, 174, 65, 228, 100, 155, 147, 76, 164, 149, 153, 27, 120, 82, 184, 85]) (n := 32) (by kernel_rfl) rfl rfl sha_nil) ?_
  refine SimK.pures (D' := 15) (is := [3]) (vs := [.bool true]) (by kernel_rfl) ?_
  refine SimK.look (D' := 79) (Wd' := 66) (i := 6) (v := .agg #[.int .u8 186, .int .u8 120, .int .u8 22, .int .u8 191, .int .u8 143, .int .u8 1, .int .u8 207, .int .u8 234, .int .u8 65, .int .u8 65, .int .u8 64, .int .u8 222, .int .u8 93, .int .u8 174, .int .u8 34, .int .u8 35, .int .u8 176, .int .u8 3, .int .u8 97, .int .u8 163, .int .u8 150, .int .u8 23, .int .u8 122, .int .u8 156, .int .u8 180, .int .u8 16, .int .u8 255, .int .u8 97, .int .u8 242, .int .u8 0, .int .u8 21, .int .u8 173]) (by kernel_rfl) (by kernel_rfl) (by kernel_rfl) (Calm.load (T := 25) (p := ⟨h6.size, 0, none⟩) (by kernel_rfl) (Loads.blk (vs := [.int .u8 186, .int .u8 120, .int .u8 22, .int .u8 191, .int .u8 143, .int .u8 1, .int .u8 207, .int .u8 234, .int .u8 65, .int .u8 65, .int .u8 64, .int .u8 222, .int .u8 93, .int .u8 174, .int .u8 34, .int .u8 35, .int .u8 176, .int .u8 3, .int .u8 97, .int .u8 163, .int .u8 150, .int .u8 23, .int .u8 122, .int .u8 156, .int .u8 180, .int .u8 16, .int .u8 255, .int .u8 97, .int .u8 242, .int .u8 0, .int .u8 21, .int .u8 173]) (by kernel_rfl) m10 rfl)) ?_
  refine SimK.eff (i := 4) (D' := 95) (X' := 31) (by kernel_rfl) (by kernel_rfl) (by kernel_rfl) [6] (by kernel_rfl) (Does.new (v := .slice (some ⟨h46.size, 0, none⟩) 3 3) (o := .cells #[.int .u8 97, .int .u8 98, .int .u8 99] 5) (by kernel_rfl)) ?_
  rintro _ h47 ⟨rfl, hh⟩
  have g48 : Ext h46 h47 := push_ext hh
  have m49 : h47[h46.size]? = some (.cells #[.int .u8 97, .int .u8 98, .int .u8 99] 5) := push_at hh
  clear hh
  have lt50 := blk_lt m49
  have z51 := e0.size
  have hlo := e0.size
  have sepo := sep
  replace e0 := e0.ext g48
  replace kt := kt.ext g48
  replace hs_s := hs_s.ext g48
  replace m3 := Ext.blk g48 m3
  replace m10 := Ext.blk g48 m10
  replace m19 := Ext.blk g48 m19
  replace m26 := Ext.blk g48 m26
  replace m33 := Ext.blk g48 m33
  replace m41 := Ext.blk g48 m41
  replace sep := sep.up g48.size
  replace sep := sepo.new hlo (blk_lt m49)
  clear sepo hlo
  refine ⟨?_, ?_⟩
  · intro j hj
    simp only [List.mem_cons, List.not_mem_nil, or_false] at hj
    subst hj
    exact goodOf (Calm.load (T := 25) (p := ⟨h6.size, 0, none⟩) (by kernel_rfl) (Loads.blk (vs := [.int .u8 186, .int .u8 120, .int .u8 22, .int .u8 191, .int .u8 143, .int .u8 1, .int .u8 207, .int .u8 234, .int .u8 65, .int .u8 65, .int .u8 64, .int .u8 222, .int .u8 93, .int .u8 174, .int .u8 34, .int .u8 35, .int .u8 176, .int .u8 3, .int .u8 97, .int .u8 163, .int .u8 150, .int .u8 23, .int .u8 122, .int .u8 156, .int .u8 180, .int .u8 16, .int .u8 255, .int .u8 97, .int .u8 242, .int .u8 0, .int .u8 21, .int .u8 173]) (by kernel_rfl) m10 rfl))
  refine SimK.eff (i := 5) (D' := 127) (X' := 63) (by kernel_rfl) (by kernel_rfl) (by kernel_rfl) [6] (by kernel_rfl) (Does.call (f := 7) (args := #[.slice (some ⟨h46.size, 0, none⟩) 3 3]) (by kernel_rfl) (sha_sat _ [97, 98, 99] _ _ (Row.blk (l := ([97, 98, 99] : List UInt8).map bv) m49 rfl) (.inr fun k e => by cases e; exact blk_lt m49) kt (by decide))) ?_
  rintro _ h52 ⟨rfl, g⟩
  replace e0 := e0.ext g
  replace kt := kt.ext g
  replace hs_s := hs_s.ext g
  replace m3 := Ext.blk g m3
  replace m10 := Ext.blk g m10
  replace m19 := Ext.blk g m19
  replace m26 := Ext.blk g m26
  replace m33 := Ext.blk g m33
  replace m41 := Ext.blk g m41
  replace m49 := Ext.blk g m49
  replace sep := sep.up g.size
  refine ⟨?_, ?_⟩
  · intro j hj
    simp only [List.mem_cons, List.not_mem_nil, or_false] at hj
    subst hj
    exact goodOf (Calm.load (T := 25) (p := ⟨h6.size, 0, none⟩) (by kernel_rfl) (Loads.blk (vs := [.int .u8 186, .int .u8 120, .int .u8 22, .int .u8 191, .int .u8 143, .int .u8 1, .int .u8 207, .int .u8 234, .int .u8 65, .int .u8 65, .int .u8 64, .int .u8 222, .int .u8 93, .int .u8 174, .int .u8 34, .int .u8 35, .int .u8 176, .int .u8 3, .int .u8 97, .int .u8 163, .int .u8 150, .int .u8 23, .int .u8 122, .int .u8 156, .int .u8 180, .int .u8 16, .int .u8 255, .int .u8 97, .int .u8 242, .int .u8 0, .int .u8 21, .int .u8 173]) (by kernel_rfl) m10 rfl))
  clear g
  refine SimK.free (D' := 255) (i := 7) (v := .bool true) (by kernel_rfl) (by kernel_rfl) (eqHT (q := true) (l := sha [97, 98, 99]) (r := [186, 120, 22, 191, 143, 1, 207, 234, 65, 65, 64, 222, 93, 174, 34, 35, 176, 3, 97, 163, 150, 23, 122, 156, 180, 16, 255, 97, 242, 0, 21, 173]) (n := 32) (by kernel_rfl) rfl rfl sha_abc) ?_
  refine SimK.pures (D' := 1023) (is := [8, 9]) (vs := [.bool true, .bool true]) (by kernel_rfl) ?_
  refine SimK.look (D' := 2047) (Wd' := 1090) (i := 10) (v := .agg ((sha ([])).map bv).toArray) (by kernel_rfl) (by kernel_rfl) (by kernel_rfl) (Calm.load (T := 25) (p := ⟨h16.size, 0, none⟩) (by kernel_rfl) (Loads.all (vs := (sha ([])).map bv) (by kernel_rfl) m19)) ?_
  refine SimK.look (D' := 4095) (Wd' := 3138) (i := 11) (v := .agg #[.int .u8 227, .int .u8 176, .int .u8 196, .int .u8 66, .int .u8 152, .int .u8 252, .int .u8 28, .int .u8 20, .int .u8 154, .int .u8 251, .int .u8 244, .int .u8 200, .int .u8 153, .int .u8 111, .int .u8 185, .int .u8 36, .int .u8 39, .int .u8 174, .int .u8 65, .int .u8 228, .int .u8 100, .int .u8 155, .int .u8 147, .int .u8 76, .int .u8 164, .int .u8 149, .int .u8 153, .int .u8 27, .int .u8 120, .int .u8 82, .int .u8 184, .int .u8 85]) (by kernel_rfl) (by kernel_rfl) (by kernel_rfl) (Calm.load (T := 25) (p := ⟨h.size, 0, none⟩) (by kernel_rfl) (Loads.blk (vs := [.int .u8 227, .int .u8 176, .int .u8 196, .int .u8 66, .int .u8 152, .int .u8 252, .int .u8 28, .int .u8 20, .int .u8 154, .int .u8 251, .int .u8 244, .int .u8 200, .int .u8 153, .int .u8 111, .int .u8 185, .int .u8 36, .int .u8 39, .int .u8 174, .int .u8 65, .int .u8 228, .int .u8 100, .int .u8 155, .int .u8 147, .int .u8 76, .int .u8 164, .int .u8 149, .int .u8 153, .int .u8 27, .int .u8 120, .int .u8 82, .int .u8 184, .int .u8 85]) (by kernel_rfl) m3 rfl)) ?_
  refine SimK.free (D' := 8191) (i := 12) (v := .bool true) (by kernel_rfl) (by kernel_rfl) (eqHT (q := true) (l := sha ([])) (r := [227, 176, 196, 66, 152, 252, 28, 20, 154, 251, 244, 200, 153, 111, 185, 36, 39, 174, 65, 228, 100, 155, 147, 76, 164, 149, 153, 27, 120, 82, 184, 85]) (n := 32) (by kernel_rfl) rfl rfl sha_nil) ?_
  refine SimK.pures (D' := 32767) (is := [13, 14]) (vs := [.bool true, .bool true]) (by kernel_rfl) ?_
  refine SimK.look (D' := 65535) (Wd' := 35906) (i := 15) (v := .agg ((sha ([97, 98, 99])).map bv).toArray) (by kernel_rfl) (by kernel_rfl) (by kernel_rfl) (Calm.load (T := 25) (p := ⟨h38.size, 0, none⟩) (by kernel_rfl) (Loads.all (vs := (sha ([97, 98, 99])).map bv) (by kernel_rfl) m41)) ?_
  refine SimK.look (D' := 131071) (Wd' := 101442) (i := 16) (v := .agg #[.int .u8 186, .int .u8 120, .int .u8 22, .int .u8 191, .int .u8 143, .int .u8 1, .int .u8 207, .int .u8 234, .int .u8 65, .int .u8 65, .int .u8 64, .int .u8 222, .int .u8 93, .int .u8 174, .int .u8 34, .int .u8 35, .int .u8 176, .int .u8 3, .int .u8 97, .int .u8 163, .int .u8 150, .int .u8 23, .int .u8 122, .int .u8 156, .int .u8 180, .int .u8 16, .int .u8 255, .int .u8 97, .int .u8 242, .int .u8 0, .int .u8 21, .int .u8 173]) (by kernel_rfl) (by kernel_rfl) (by kernel_rfl) (Calm.load (T := 25) (p := ⟨h6.size, 0, none⟩) (by kernel_rfl) (Loads.blk (vs := [.int .u8 186, .int .u8 120, .int .u8 22, .int .u8 191, .int .u8 143, .int .u8 1, .int .u8 207, .int .u8 234, .int .u8 65, .int .u8 65, .int .u8 64, .int .u8 222, .int .u8 93, .int .u8 174, .int .u8 34, .int .u8 35, .int .u8 176, .int .u8 3, .int .u8 97, .int .u8 163, .int .u8 150, .int .u8 23, .int .u8 122, .int .u8 156, .int .u8 180, .int .u8 16, .int .u8 255, .int .u8 97, .int .u8 242, .int .u8 0, .int .u8 21, .int .u8 173]) (by kernel_rfl) m10 rfl)) ?_
  refine SimK.free (D' := 262143) (i := 17) (v := .bool true) (by kernel_rfl) (by kernel_rfl) (eqHT (q := true) (l := sha ([97, 98, 99])) (r := [186, 120, 22, 191, 143, 1, 207, 234, 65, 65, 64, 222, 93, 174, 34, 35, 176, 3, 97, 163, 150, 23, 122, 156, 180, 16, 255, 97, 242, 0, 21, 173]) (n := 32) (by kernel_rfl) rfl rfl sha_abc) ?_
  refine SimK.pures (D' := 1048575) (is := [18, 19]) (vs := [.bool true, .bool true]) (by kernel_rfl) ?_
  refine SimK.done [0] (L := [(0, .bool true)]) (by kernel_rfl) (by kernel_rfl) ?_
  clear hF; clear a; intro a hF
  show C Tryd.prog (sub b6 [1, 1, 1, 1, 1, 1, 1, 1, 1, 1]) _ a h52
  refine C.ret (by kernel_rfl) ?_
  refine ret_ok [.tmp 0] [.bool true] (.bool true) rfl hF ⟨rfl, trivial⟩ rfl ?_
  exact ⟨rfl, e0⟩
end Go.Proofs.YthllngaecibdkaaDoor
