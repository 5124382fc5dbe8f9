/- the examples of the document hold: what it comes to. Conditions: those that each theorem names. -/
import Derived.Test.YtlghdimpgfhmcaaRetG
namespace Go.Proofs.Ytlghdimpgfhmcaa
open Go Go.Lane Go.Sha
theorem due_shown (h : Heap) (b : Nat) (m : h[b]? = some (.cells (rrow exL).toArray 26)) : Sat Try.prog 20 #[.slice (some ⟨b,0,none⟩) 4 4,.int .i64 50] h fun v h' => ∃ ad cap,v = .slice ad 2 cap ∧ Own h' (.slice ad 2 cap) 9 2 1 [.string (ByteArray.mk #[98]),.string (ByteArray.mk #[97])] ∧ (∀ k,ad.map (fun (x : Addr) => x.block) = some k → h.size ≤ k) ∧ Ext h h' := by
 refine (due_sat h exL (some ⟨b,0,none⟩) 4 50 19 sorts_small (Row.blk (n := 4) (sz := 39) (l := rrow exL) m rfl) (by decide) (exL_ok h) (Nat.le_trans (List.length_filter_le _ _) (by decide))).mono ?_
 rintro v h' ⟨M,ad,cap,hM,hS,rfl,own,hge,g⟩
 have hid := exL_ids hM hS
 have hl : M.length = 2 := by have := congrArg List.length hid; simpa [ids] using this
 rw [hid,hl] at own
 exact ⟨ad,cap,by rw [hl],own,hge,g⟩
noncomputable def b10 : Code := Try.f10.body.getD .skip
set_option maxHeartbeats 1000000 in
theorem shown_sat (h : Heap) : Sat Try.prog 10 #[] h fun v h' => v = .bool true ∧ Ext h h' := by
 have e0 := Ext.refl h
 have sep : Sep h.size h.size [] := Sep.nil _ _
 refine sat_of (args := []) (fn := Try.f10) (B := b10) (n := 116) (L := []) Try.func10 rfl (by kernel_rfl) rfl ?_
 intro a hF
 refine cS ?_
 refine cP 0 hF ?_
 refine sP 1 [.bool false] ?_
 refine sD [] ?_
 clear hF a; intro a hF
 refine tK ?_
 refine cS ?_
 refine cP 1 hF ?_
 refine sP 1 [.agg #[.int .i64 2,.int .i64 0,.int .i64 3,.bool false]] ?_
 refine SeqK.eff (k' := 2) (Does.new (v := .slice (some ⟨h.size,0,none⟩) 1 1) (o := .cells #[.int .i64 2,.int .i64 0,.int .i64 3,.bool false] 49) (by kernel_rfl)) rfl ?_
 rintro _ h1 ⟨rfl,hh⟩
 have g2 : Ext h h1 := push_ext hh
 have m3 : h1[h.size]? = some (.cells #[.int .i64 2,.int .i64 0,.int .i64 3,.bool false] 49) := push_at hh
 clear hh
 have lt4 := blk_lt m3
 have zs5 := e0.size
 have hlo := e0.size
 have sepo := sep
 replace e0 := e0.ext g2
 replace sep := sep.up g2.size
 replace sep := sepo.new hlo (blk_lt m3)
 clear sepo hlo
 refine sP 3 [.agg (rc (rbs (ByteArray.mk #[97])) (50 : Int) false false (.slice (some ⟨h.size,0,none⟩) 1 1)).toArray] ?_
 refine SeqK.eff (k' := 4) (Does.new (v := .pointer (some ⟨h1.size,0,none⟩)) (o := .cells (rc rb0 (0 : Int) false false (.slice none 0 0)).toArray 26) (by kernel_rfl)) rfl ?_
 rintro _ h6 ⟨rfl,hh⟩
 have g7 : Ext h1 h6 := push_ext hh
 have m8 : h6[h1.size]? = some (.cells (rc rb0 (0 : Int) false false (.slice none 0 0)).toArray 26) := push_at hh
 clear hh
 have lt9 := blk_lt m8
 have zs10 := e0.size
 have hlo := e0.size
 have sepo := sep
 replace e0 := e0.ext g7
 replace m3 := Ext.blk g7 m3
 replace sep := sep.up g7.size
 replace sep := sepo.new hlo (blk_lt m8)
 clear sepo hlo
 refine SeqK.eff (k' := 5) (Does.store (b := h1.size) (off := 0) (vs := rc (rbs (ByteArray.mk #[97])) (50 : Int) false false (.slice (some ⟨h.size,0,none⟩) 1 1)) (l := rc rb0 (0 : Int) false false (.slice none 0 0)) (by kernel_rfl) m8 (of_decide_eq_true (by kernel_rfl)) (List.all_eq_true.1 (by kernel_rfl))) rfl ?_
 rintro _ h11 ⟨rfl,hh⟩
 have g12 : Grew (some (h1.size)) h6 h11 := hput_gr hh
 replace m8 : h11[h1.size]? = some (.cells (rc (rbs (ByteArray.mk #[97])) (50 : Int) false false (.slice (some ⟨h.size,0,none⟩) 1 1)).toArray 26) := hput_at (off := 0) (vs := rc (rbs (ByteArray.mk #[97])) (50 : Int) false false (.slice (some ⟨h.size,0,none⟩) 1 1)) (l := (rc rb0 (0 : Int) false false (.slice none 0 0))) hh (by kernel_rfl) m8
 clear hh
 replace e0 := e0.grew g12 (sep.low 0 rfl)
 replace m3 := Grew.blk g12 m3 ((sep.bp 1 0))
 replace sep := sep.up g12.size
 refine sD [(1,pV h1.size)] ?_
 clear hF a; intro a hF
 refine tK ?_
 refine cS ?_
 refine cP 2 hF ?_
 refine sC 1 (.agg (rc (rbs (ByteArray.mk #[97])) (50 : Int) false false (.slice (some ⟨h.size,0,none⟩) 1 1)).toArray) (Calm.load (T := 26) (p := ⟨h1.size,0,none⟩) (by kernel_rfl) (Loads.blk (vs := rc (rbs (ByteArray.mk #[97])) (50 : Int) false false (.slice (some ⟨h.size,0,none⟩) 1 1)) (by kernel_rfl) m8 rfl)) ?_
 refine SeqK.eff (k' := 2) (Does.call (f := 12) (args := #[.agg (rc (rbs (ByteArray.mk #[97])) (50 : Int) false false (.slice (some ⟨h.size,0,none⟩) 1 1)).toArray,.int .i64 40]) (by kernel_rfl) (lock_ok _ (rbs (ByteArray.mk #[97])) 50 false [(⟨2,0,3,false⟩ : Pl)] (some ⟨h.size,0,none⟩) 1 (Row.blk (n := 1) (sz := 4) (l := prow [(⟨2,0,3,false⟩ : Pl)]) m3 rfl) (by decide) 40 (by decide) (by decide))) rfl ?_
 rintro _ h15 ⟨_,rfl,ad13,cap14,rfl,ownx,hge,g⟩
 have hlo := e0.size
 have sepo := sep
 replace e0 := e0.ext g
 replace m3 := Ext.blk g m3
 replace m8 := Ext.blk g m8
 replace sep := sep.up g.size
 replace sep := sepo.cons (x := ad13.map (fun (x : Addr) => x.block)) g.size hlo (fun k e => ⟨hge k e,ownx.lt (by rw [blkOf_slice]; exact e)⟩)
 have own_c1 : Own h15 (.slice ad13 ([(⟨2,0,3,false⟩ : Pl)].length) cap14) 49 ([(⟨2,0,3,false⟩ : Pl)]).length 4 (prow ([(⟨2,0,3,false⟩ : Pl)])) := ownx; clear ownx sepo hlo hge g
 refine sP 5 [.tuple #[.agg (rc (rbs (ByteArray.mk #[97])) (50 : Int) false false (.slice ad13 ([(⟨2,0,3,false⟩ : Pl)].length) cap14)).toArray,.int .i64 0],.agg (rc (rbs (ByteArray.mk #[97])) (50 : Int) false false (.slice ad13 ([(⟨2,0,3,false⟩ : Pl)].length) cap14)).toArray,.int .i64 0] ?_
 refine SeqK.eff (k' := 6) (Does.new (v := .pointer (some ⟨h15.size,0,none⟩)) (o := .cells (rc rb0 (0 : Int) false false (.slice none 0 0)).toArray 26) (by kernel_rfl)) rfl ?_
 rintro _ h16 ⟨rfl,hh⟩
 have g17 : Ext h15 h16 := push_ext hh
 have m18 : h16[h15.size]? = some (.cells (rc rb0 (0 : Int) false false (.slice none 0 0)).toArray 26) := push_at hh
 clear hh
 have lt19 := blk_lt m18
 have zs20 := e0.size
 have hlo := e0.size
 have sepo := sep
 replace e0 := e0.ext g17
 replace own_c1 := own_c1.ext g17
 replace m3 := Ext.blk g17 m3
 replace m8 := Ext.blk g17 m8
 replace sep := sep.up g17.size
 replace sep := sepo.new hlo (blk_lt m18)
 clear sepo hlo
 refine SeqK.eff (k' := 7) (Does.store (b := h15.size) (off := 0) (vs := rc (rbs (ByteArray.mk #[97])) (50 : Int) false false (.slice ad13 ([(⟨2,0,3,false⟩ : Pl)].length) cap14)) (l := rc rb0 (0 : Int) false false (.slice none 0 0)) (by kernel_rfl) m18 (of_decide_eq_true (by kernel_rfl)) (List.all_eq_true.1 (by kernel_rfl))) rfl ?_
 rintro _ h21 ⟨rfl,hh⟩
 have g22 : Grew (some (h15.size)) h16 h21 := hput_gr hh
 replace m18 : h21[h15.size]? = some (.cells (rc (rbs (ByteArray.mk #[97])) (50 : Int) false false (.slice ad13 ([(⟨2,0,3,false⟩ : Pl)].length) cap14)).toArray 26) := hput_at (off := 0) (vs := rc (rbs (ByteArray.mk #[97])) (50 : Int) false false (.slice ad13 ([(⟨2,0,3,false⟩ : Pl)].length) cap14)) (l := (rc rb0 (0 : Int) false false (.slice none 0 0))) hh (by kernel_rfl) m18
 clear hh
 replace e0 := e0.grew g22 (sep.low 0 rfl)
 replace own_c1 := own_c1.kept g22 (by rw [blkOf_slice]; exact (sep.ap 1 0))
 replace m3 := Grew.blk g22 m3 ((sep.bp 3 0))
 replace m8 := Grew.blk g22 m8 ((sep.bp 2 0))
 replace sep := sep.up g22.size
 refine sP 8 [.int .i64 0] ?_
 refine sD [(1,pV h1.size),(2,pV h15.size),(3,.int .i64 0)] ?_
 clear hF a; intro a hF
 refine tK ?_
 refine cS ?_
 refine cP 3 hF ?_
 refine sC 1 (.agg (rc (rbs (ByteArray.mk #[97])) (50 : Int) false false (.slice (some ⟨h.size,0,none⟩) 1 1)).toArray) (Calm.load (T := 26) (p := ⟨h1.size,0,none⟩) (by kernel_rfl) (Loads.blk (vs := rc (rbs (ByteArray.mk #[97])) (50 : Int) false false (.slice (some ⟨h.size,0,none⟩) 1 1)) (by kernel_rfl) m8 rfl)) ?_
 refine SeqK.eff (k' := 2) (Does.call (f := 12) (args := #[.agg (rc (rbs (ByteArray.mk #[97])) (50 : Int) false false (.slice (some ⟨h.size,0,none⟩) 1 1)).toArray,.int .i64 60]) (by kernel_rfl) (lock_ok _ (rbs (ByteArray.mk #[97])) 50 false [(⟨2,0,3,false⟩ : Pl)] (some ⟨h.size,0,none⟩) 1 (Row.blk (n := 1) (sz := 4) (l := prow [(⟨2,0,3,false⟩ : Pl)]) m3 rfl) (by decide) 60 (by decide) (by decide))) rfl ?_
 rintro _ h25 ⟨_,rfl,ad23,cap24,rfl,ownx,hge,g⟩
 have hlo := e0.size
 have sepo := sep
 replace e0 := e0.ext g
 replace own_c1 := own_c1.ext g
 replace m3 := Ext.blk g m3
 replace m8 := Ext.blk g m8
 replace m18 := Ext.blk g m18
 replace sep := sep.up g.size
 replace sep := sepo.cons (x := ad23.map (fun (x : Addr) => x.block)) g.size hlo (fun k e => ⟨hge k e,ownx.lt (by rw [blkOf_slice]; exact e)⟩)
 have own_c2 : Own h25 (.slice ad23 ([(⟨2,0,3,false⟩ : Pl)].length) cap24) 49 ([(⟨2,0,3,false⟩ : Pl)]).length 4 (prow ([(⟨2,0,3,false⟩ : Pl)])) := ownx; clear ownx sepo hlo hge g
 refine sP 5 [.tuple #[.agg (rc (rbs (ByteArray.mk #[97])) (60 : Int) false false (.slice ad23 ([(⟨2,0,3,false⟩ : Pl)].length) cap24)).toArray,.int .i64 0],.agg (rc (rbs (ByteArray.mk #[97])) (60 : Int) false false (.slice ad23 ([(⟨2,0,3,false⟩ : Pl)].length) cap24)).toArray,.int .i64 0] ?_
 refine SeqK.eff (k' := 6) (Does.new (v := .pointer (some ⟨h25.size,0,none⟩)) (o := .cells (rc rb0 (0 : Int) false false (.slice none 0 0)).toArray 26) (by kernel_rfl)) rfl ?_
 rintro _ h26 ⟨rfl,hh⟩
 have g27 : Ext h25 h26 := push_ext hh
 have m28 : h26[h25.size]? = some (.cells (rc rb0 (0 : Int) false false (.slice none 0 0)).toArray 26) := push_at hh
 clear hh
 have lt29 := blk_lt m28
 have zs30 := e0.size
 have hlo := e0.size
 have sepo := sep
 replace e0 := e0.ext g27
 replace own_c1 := own_c1.ext g27
 replace own_c2 := own_c2.ext g27
 replace m3 := Ext.blk g27 m3
 replace m8 := Ext.blk g27 m8
 replace m18 := Ext.blk g27 m18
 replace sep := sep.up g27.size
 replace sep := sepo.new hlo (blk_lt m28)
 clear sepo hlo
 refine SeqK.eff (k' := 7) (Does.store (b := h25.size) (off := 0) (vs := rc (rbs (ByteArray.mk #[97])) (60 : Int) false false (.slice ad23 ([(⟨2,0,3,false⟩ : Pl)].length) cap24)) (l := rc rb0 (0 : Int) false false (.slice none 0 0)) (by kernel_rfl) m28 (of_decide_eq_true (by kernel_rfl)) (List.all_eq_true.1 (by kernel_rfl))) rfl ?_
 rintro _ h31 ⟨rfl,hh⟩
 have g32 : Grew (some (h25.size)) h26 h31 := hput_gr hh
 replace m28 : h31[h25.size]? = some (.cells (rc (rbs (ByteArray.mk #[97])) (60 : Int) false false (.slice ad23 ([(⟨2,0,3,false⟩ : Pl)].length) cap24)).toArray 26) := hput_at (off := 0) (vs := rc (rbs (ByteArray.mk #[97])) (60 : Int) false false (.slice ad23 ([(⟨2,0,3,false⟩ : Pl)].length) cap24)) (l := (rc rb0 (0 : Int) false false (.slice none 0 0))) hh (by kernel_rfl) m28
 clear hh
 replace e0 := e0.grew g32 (sep.low 0 rfl)
 replace own_c1 := own_c1.kept g32 (by rw [blkOf_slice]; exact (sep.ap 3 0))
 replace own_c2 := own_c2.kept g32 (by rw [blkOf_slice]; exact (sep.ap 1 0))
 replace m3 := Grew.blk g32 m3 ((sep.bp 5 0))
 replace m8 := Grew.blk g32 m8 ((sep.bp 4 0))
 replace m18 := Grew.blk g32 m18 ((sep.bp 2 0))
 replace sep := sep.up g32.size
 refine sP 8 [.int .i64 0] ?_
 refine sD [(1,pV h1.size),(2,pV h15.size),(3,.int .i64 0),(4,pV h25.size),(5,.int .i64 0)] ?_
 clear hF a; intro a hF
 refine tK ?_
 refine cS ?_
 refine cP 4 hF ?_
 refine sC 1 (.agg (rc (rbs (ByteArray.mk #[97])) (50 : Int) false false (.slice (some ⟨h.size,0,none⟩) 1 1)).toArray) (Calm.load (T := 26) (p := ⟨h1.size,0,none⟩) (by kernel_rfl) (Loads.blk (vs := rc (rbs (ByteArray.mk #[97])) (50 : Int) false false (.slice (some ⟨h.size,0,none⟩) 1 1)) (by kernel_rfl) m8 rfl)) ?_
 refine SeqK.eff (k' := 2) (Does.call (f := 12) (args := #[.agg (rc (rbs (ByteArray.mk #[97])) (50 : Int) false false (.slice (some ⟨h.size,0,none⟩) 1 1)).toArray,.int .i64 (-1)]) (by kernel_rfl) (lock_arg _ (rbs (ByteArray.mk #[97])) 50 false false [(⟨2,0,3,false⟩ : Pl)] (some ⟨h.size,0,none⟩) 1 (-1) (.inl (by decide)))) rfl ?_
 rintro _ h33 ⟨rfl,g⟩
 replace e0 := e0.ext g
 replace own_c1 := own_c1.ext g
 replace own_c2 := own_c2.ext g
 replace m3 := Ext.blk g m3
 replace m8 := Ext.blk g m8
 replace m18 := Ext.blk g m18
 replace m28 := Ext.blk g m28
 replace sep := sep.up g.size
 clear g
 refine sP 5 [.tuple #[.agg (rc rb0 (0 : Int) false false (.slice none 0 0)).toArray,.int .i64 1],.agg (rc rb0 (0 : Int) false false (.slice none 0 0)).toArray,.int .i64 1] ?_
 refine SeqK.eff (k' := 6) (Does.new (v := .pointer (some ⟨h33.size,0,none⟩)) (o := .cells (rc rb0 (0 : Int) false false (.slice none 0 0)).toArray 26) (by kernel_rfl)) rfl ?_
 rintro _ h34 ⟨rfl,hh⟩
 have g35 : Ext h33 h34 := push_ext hh
 have m36 : h34[h33.size]? = some (.cells (rc rb0 (0 : Int) false false (.slice none 0 0)).toArray 26) := push_at hh
 clear hh
 have lt37 := blk_lt m36
 have zs38 := e0.size
 have hlo := e0.size
 have sepo := sep
 replace e0 := e0.ext g35
 replace own_c1 := own_c1.ext g35
 replace own_c2 := own_c2.ext g35
 replace m3 := Ext.blk g35 m3
 replace m8 := Ext.blk g35 m8
 replace m18 := Ext.blk g35 m18
 replace m28 := Ext.blk g35 m28
 replace sep := sep.up g35.size
 replace sep := sepo.new hlo (blk_lt m36)
 clear sepo hlo
 refine SeqK.eff (k' := 7) (Does.store (b := h33.size) (off := 0) (vs := rc rb0 (0 : Int) false false (.slice none 0 0)) (l := rc rb0 (0 : Int) false false (.slice none 0 0)) (by kernel_rfl) m36 (of_decide_eq_true (by kernel_rfl)) (List.all_eq_true.1 (by kernel_rfl))) rfl ?_
 rintro _ h39 ⟨rfl,hh⟩
 have g40 : Grew (some (h33.size)) h34 h39 := hput_gr hh
 replace m36 : h39[h33.size]? = some (.cells (rc rb0 (0 : Int) false false (.slice none 0 0)).toArray 26) := hput_at (off := 0) (vs := rc rb0 (0 : Int) false false (.slice none 0 0)) (l := (rc rb0 (0 : Int) false false (.slice none 0 0))) hh (by kernel_rfl) m36
 clear hh
 replace e0 := e0.grew g40 (sep.low 0 rfl)
 replace own_c1 := own_c1.kept g40 (by rw [blkOf_slice]; exact (sep.ap 4 0))
 replace own_c2 := own_c2.kept g40 (by rw [blkOf_slice]; exact (sep.ap 2 0))
 replace m3 := Grew.blk g40 m3 ((sep.bp 6 0))
 replace m8 := Grew.blk g40 m8 ((sep.bp 5 0))
 replace m18 := Grew.blk g40 m18 ((sep.bp 3 0))
 replace m28 := Grew.blk g40 m28 ((sep.bp 1 0))
 replace sep := sep.up g40.size
 refine sP 8 [.int .i64 1] ?_
 refine sD [(1,pV h1.size),(2,pV h15.size),(3,.int .i64 0),(4,pV h25.size),(5,.int .i64 0),(7,.int .i64 1)] ?_
 clear hF a; intro a hF
 refine tK ?_
 refine cS ?_
 refine cP 5 hF ?_
 refine sC 1 (.agg (rc (rbs (ByteArray.mk #[97])) (50 : Int) false false (.slice (some ⟨h.size,0,none⟩) 1 1)).toArray) (Calm.load (T := 26) (p := ⟨h1.size,0,none⟩) (by kernel_rfl) (Loads.blk (vs := rc (rbs (ByteArray.mk #[97])) (50 : Int) false false (.slice (some ⟨h.size,0,none⟩) 1 1)) (by kernel_rfl) m8 rfl)) ?_
 refine SeqK.eff (k' := 2) (Does.call (f := 18) (args := #[.agg (rc (rbs (ByteArray.mk #[97])) (50 : Int) false false (.slice (some ⟨h.size,0,none⟩) 1 1)).toArray,.int .i64 49]) (by kernel_rfl) (del_soon _ (rbs (ByteArray.mk #[97])) 50 [(⟨2,0,3,false⟩ : Pl)] (some ⟨h.size,0,none⟩) 1 49 (by decide))) rfl ?_
 rintro _ h41 ⟨rfl,g⟩
 replace e0 := e0.ext g
 replace own_c1 := own_c1.ext g
 replace own_c2 := own_c2.ext g
 replace m3 := Ext.blk g m3
 replace m8 := Ext.blk g m8
 replace m18 := Ext.blk g m18
 replace m28 := Ext.blk g m28
 replace m36 := Ext.blk g m36
 replace sep := sep.up g.size
 clear g
 refine sP 5 [.tuple #[.agg (rc rb0 (0 : Int) false false (.slice none 0 0)).toArray,.int .i64 214],.agg (rc rb0 (0 : Int) false false (.slice none 0 0)).toArray,.int .i64 214] ?_
 refine SeqK.eff (k' := 6) (Does.new (v := .pointer (some ⟨h41.size,0,none⟩)) (o := .cells (rc rb0 (0 : Int) false false (.slice none 0 0)).toArray 26) (by kernel_rfl)) rfl ?_
 rintro _ h42 ⟨rfl,hh⟩
 have g43 : Ext h41 h42 := push_ext hh
 have m44 : h42[h41.size]? = some (.cells (rc rb0 (0 : Int) false false (.slice none 0 0)).toArray 26) := push_at hh
 clear hh
 have lt45 := blk_lt m44
 have zs46 := e0.size
 have hlo := e0.size
 have sepo := sep
 replace e0 := e0.ext g43
 replace own_c1 := own_c1.ext g43
 replace own_c2 := own_c2.ext g43
 replace m3 := Ext.blk g43 m3
 replace m8 := Ext.blk g43 m8
 replace m18 := Ext.blk g43 m18
 replace m28 := Ext.blk g43 m28
 replace m36 := Ext.blk g43 m36
 replace sep := sep.up g43.size
 replace sep := sepo.new hlo (blk_lt m44)
 clear sepo hlo
 refine SeqK.eff (k' := 7) (Does.store (b := h41.size) (off := 0) (vs := rc rb0 (0 : Int) false false (.slice none 0 0)) (l := rc rb0 (0 : Int) false false (.slice none 0 0)) (by kernel_rfl) m44 (of_decide_eq_true (by kernel_rfl)) (List.all_eq_true.1 (by kernel_rfl))) rfl ?_
 rintro _ h47 ⟨rfl,hh⟩
 have g48 : Grew (some (h41.size)) h42 h47 := hput_gr hh
 replace m44 : h47[h41.size]? = some (.cells (rc rb0 (0 : Int) false false (.slice none 0 0)).toArray 26) := hput_at (off := 0) (vs := rc rb0 (0 : Int) false false (.slice none 0 0)) (l := (rc rb0 (0 : Int) false false (.slice none 0 0))) hh (by kernel_rfl) m44
 clear hh
 replace e0 := e0.grew g48 (sep.low 0 rfl)
 replace own_c1 := own_c1.kept g48 (by rw [blkOf_slice]; exact (sep.ap 5 0))
 replace own_c2 := own_c2.kept g48 (by rw [blkOf_slice]; exact (sep.ap 3 0))
 replace m3 := Grew.blk g48 m3 ((sep.bp 7 0))
 replace m8 := Grew.blk g48 m8 ((sep.bp 6 0))
 replace m18 := Grew.blk g48 m18 ((sep.bp 4 0))
 replace m28 := Grew.blk g48 m28 ((sep.bp 2 0))
 replace m36 := Grew.blk g48 m36 ((sep.bp 1 0))
 replace sep := sep.up g48.size
 refine sP 8 [.int .i64 214] ?_
 refine sD [(1,pV h1.size),(2,pV h15.size),(3,.int .i64 0),(4,pV h25.size),(5,.int .i64 0),(7,.int .i64 1),(9,.int .i64 214)] ?_
 clear hF a; intro a hF
 refine tK ?_
 refine cS ?_
 refine cP 6 hF ?_
 refine sC 1 (.agg (rc (rbs (ByteArray.mk #[97])) (50 : Int) false false (.slice (some ⟨h.size,0,none⟩) 1 1)).toArray) (Calm.load (T := 26) (p := ⟨h1.size,0,none⟩) (by kernel_rfl) (Loads.blk (vs := rc (rbs (ByteArray.mk #[97])) (50 : Int) false false (.slice (some ⟨h.size,0,none⟩) 1 1)) (by kernel_rfl) m8 rfl)) ?_
 refine SeqK.eff (k' := 2) (Does.call (f := 18) (args := #[.agg (rc (rbs (ByteArray.mk #[97])) (50 : Int) false false (.slice (some ⟨h.size,0,none⟩) 1 1)).toArray,.int .i64 50]) (by kernel_rfl) (del_ok _ (rbs (ByteArray.mk #[97])) 50 [(⟨2,0,3,false⟩ : Pl)] (some ⟨h.size,0,none⟩) 1 (Row.blk (n := 1) (sz := 4) (l := prow [(⟨2,0,3,false⟩ : Pl)]) m3 rfl) (by decide) 50 (by decide))) rfl ?_
 rintro _ h49 ⟨rfl,g⟩
 replace e0 := e0.ext g
 replace own_c1 := own_c1.ext g
 replace own_c2 := own_c2.ext g
 replace m3 := Ext.blk g m3
 replace m8 := Ext.blk g m8
 replace m18 := Ext.blk g m18
 replace m28 := Ext.blk g m28
 replace m36 := Ext.blk g m36
 replace m44 := Ext.blk g m44
 replace sep := sep.up g.size
 clear g
 refine sP 5 [.tuple #[.agg (rc (rbs (ByteArray.mk #[97])) (50 : Int) false true (.slice none 0 0)).toArray,.int .i64 0],.agg (rc (rbs (ByteArray.mk #[97])) (50 : Int) false true (.slice none 0 0)).toArray,.int .i64 0] ?_
 refine SeqK.eff (k' := 6) (Does.new (v := .pointer (some ⟨h49.size,0,none⟩)) (o := .cells (rc rb0 (0 : Int) false false (.slice none 0 0)).toArray 26) (by kernel_rfl)) rfl ?_
 rintro _ h50 ⟨rfl,hh⟩
 have g51 : Ext h49 h50 := push_ext hh
 have m52 : h50[h49.size]? = some (.cells (rc rb0 (0 : Int) false false (.slice none 0 0)).toArray 26) := push_at hh
 clear hh
 have lt53 := blk_lt m52
 have zs54 := e0.size
 have hlo := e0.size
 have sepo := sep
 replace e0 := e0.ext g51
 replace own_c1 := own_c1.ext g51
 replace own_c2 := own_c2.ext g51
 replace m3 := Ext.blk g51 m3
 replace m8 := Ext.blk g51 m8
 replace m18 := Ext.blk g51 m18
 replace m28 := Ext.blk g51 m28
 replace m36 := Ext.blk g51 m36
 replace m44 := Ext.blk g51 m44
 replace sep := sep.up g51.size
 replace sep := sepo.new hlo (blk_lt m52)
 clear sepo hlo
 refine SeqK.eff (k' := 7) (Does.store (b := h49.size) (off := 0) (vs := rc (rbs (ByteArray.mk #[97])) (50 : Int) false true (.slice none 0 0)) (l := rc rb0 (0 : Int) false false (.slice none 0 0)) (by kernel_rfl) m52 (of_decide_eq_true (by kernel_rfl)) (List.all_eq_true.1 (by kernel_rfl))) rfl ?_
 rintro _ h55 ⟨rfl,hh⟩
 have g56 : Grew (some (h49.size)) h50 h55 := hput_gr hh
 replace m52 : h55[h49.size]? = some (.cells (rc (rbs (ByteArray.mk #[97])) (50 : Int) false true (.slice none 0 0)).toArray 26) := hput_at (off := 0) (vs := rc (rbs (ByteArray.mk #[97])) (50 : Int) false true (.slice none 0 0)) (l := (rc rb0 (0 : Int) false false (.slice none 0 0))) hh (by kernel_rfl) m52
 clear hh
 replace e0 := e0.grew g56 (sep.low 0 rfl)
 replace own_c1 := own_c1.kept g56 (by rw [blkOf_slice]; exact (sep.ap 6 0))
 replace own_c2 := own_c2.kept g56 (by rw [blkOf_slice]; exact (sep.ap 4 0))
 replace m3 := Grew.blk g56 m3 ((sep.bp 8 0))
 replace m8 := Grew.blk g56 m8 ((sep.bp 7 0))
 replace m18 := Grew.blk g56 m18 ((sep.bp 5 0))
 replace m28 := Grew.blk g56 m28 ((sep.bp 3 0))
 replace m36 := Grew.blk g56 m36 ((sep.bp 2 0))
 replace m44 := Grew.blk g56 m44 ((sep.bp 1 0))
 replace sep := sep.up g56.size
 refine sP 8 [.int .i64 0] ?_
 refine sD [(1,pV h1.size),(2,pV h15.size),(3,.int .i64 0),(4,pV h25.size),(5,.int .i64 0),(7,.int .i64 1),(9,.int .i64 214),(10,pV h49.size),(11,.int .i64 0)] ?_
 clear hF a; intro a hF
 refine tK ?_
 refine cS ?_
 refine cP 7 hF ?_
 refine sC 1 (.agg (rc (rbs (ByteArray.mk #[97])) (50 : Int) false true (.slice none 0 0)).toArray) (Calm.load (T := 26) (p := ⟨h49.size,0,none⟩) (by kernel_rfl) (Loads.blk (vs := rc (rbs (ByteArray.mk #[97])) (50 : Int) false true (.slice none 0 0)) (by kernel_rfl) m52 rfl)) ?_
 refine SeqK.eff (k' := 2) (Does.call (f := 16) (args := #[.agg (rc (rbs (ByteArray.mk #[97])) (50 : Int) false true (.slice none 0 0)).toArray,.bool true]) (by kernel_rfl) (hold_gone _ (rbs (ByteArray.mk #[97])) 50 false [] none 0 true)) rfl ?_
 rintro _ h57 ⟨rfl,g⟩
 replace e0 := e0.ext g
 replace own_c1 := own_c1.ext g
 replace own_c2 := own_c2.ext g
 replace m3 := Ext.blk g m3
 replace m8 := Ext.blk g m8
 replace m18 := Ext.blk g m18
 replace m28 := Ext.blk g m28
 replace m36 := Ext.blk g m36
 replace m44 := Ext.blk g m44
 replace m52 := Ext.blk g m52
 replace sep := sep.up g.size
 clear g
 refine sP 5 [.tuple #[.agg (rc rb0 (0 : Int) false false (.slice none 0 0)).toArray,.int .i64 213],.agg (rc rb0 (0 : Int) false false (.slice none 0 0)).toArray,.int .i64 213] ?_
 refine SeqK.eff (k' := 6) (Does.new (v := .pointer (some ⟨h57.size,0,none⟩)) (o := .cells (rc rb0 (0 : Int) false false (.slice none 0 0)).toArray 26) (by kernel_rfl)) rfl ?_
 rintro _ h58 ⟨rfl,hh⟩
 have g59 : Ext h57 h58 := push_ext hh
 have m60 : h58[h57.size]? = some (.cells (rc rb0 (0 : Int) false false (.slice none 0 0)).toArray 26) := push_at hh
 clear hh
 have lt61 := blk_lt m60
 have zs62 := e0.size
 have hlo := e0.size
 have sepo := sep
 replace e0 := e0.ext g59
 replace own_c1 := own_c1.ext g59
 replace own_c2 := own_c2.ext g59
 replace m3 := Ext.blk g59 m3
 replace m8 := Ext.blk g59 m8
 replace m18 := Ext.blk g59 m18
 replace m28 := Ext.blk g59 m28
 replace m36 := Ext.blk g59 m36
 replace m44 := Ext.blk g59 m44
 replace m52 := Ext.blk g59 m52
 replace sep := sep.up g59.size
 replace sep := sepo.new hlo (blk_lt m60)
 clear sepo hlo
 refine SeqK.eff (k' := 7) (Does.store (b := h57.size) (off := 0) (vs := rc rb0 (0 : Int) false false (.slice none 0 0)) (l := rc rb0 (0 : Int) false false (.slice none 0 0)) (by kernel_rfl) m60 (of_decide_eq_true (by kernel_rfl)) (List.all_eq_true.1 (by kernel_rfl))) rfl ?_
 rintro _ h63 ⟨rfl,hh⟩
 have g64 : Grew (some (h57.size)) h58 h63 := hput_gr hh
 replace m60 : h63[h57.size]? = some (.cells (rc rb0 (0 : Int) false false (.slice none 0 0)).toArray 26) := hput_at (off := 0) (vs := rc rb0 (0 : Int) false false (.slice none 0 0)) (l := (rc rb0 (0 : Int) false false (.slice none 0 0))) hh (by kernel_rfl) m60
 clear hh
 replace e0 := e0.grew g64 (sep.low 0 rfl)
 replace own_c1 := own_c1.kept g64 (by rw [blkOf_slice]; exact (sep.ap 7 0))
 replace own_c2 := own_c2.kept g64 (by rw [blkOf_slice]; exact (sep.ap 5 0))
 replace m3 := Grew.blk g64 m3 ((sep.bp 9 0))
 replace m8 := Grew.blk g64 m8 ((sep.bp 8 0))
 replace m18 := Grew.blk g64 m18 ((sep.bp 6 0))
 replace m28 := Grew.blk g64 m28 ((sep.bp 4 0))
 replace m36 := Grew.blk g64 m36 ((sep.bp 3 0))
 replace m44 := Grew.blk g64 m44 ((sep.bp 2 0))
 replace m52 := Grew.blk g64 m52 ((sep.bp 1 0))
 replace sep := sep.up g64.size
 refine sP 8 [.int .i64 213] ?_
 refine sD [(1,pV h1.size),(2,pV h15.size),(3,.int .i64 0),(4,pV h25.size),(5,.int .i64 0),(7,.int .i64 1),(9,.int .i64 214),(10,pV h49.size),(11,.int .i64 0),(13,.int .i64 213)] ?_
 clear hF a; intro a hF
 refine tK ?_
 refine cS ?_
 refine cP 8 hF ?_
 refine sP 4 [.agg (rc (rbs (ByteArray.mk #[97])) (50 : Int) false false (.slice none 0 0)).toArray,.agg (rc (rbs (ByteArray.mk #[98])) (40 : Int) false false (.slice none 0 0)).toArray,.agg (rc (rbs (ByteArray.mk #[99])) (0 : Int) false false (.slice none 0 0)).toArray,.agg (rc (rbs (ByteArray.mk #[100])) (50 : Int) true false (.slice none 0 0)).toArray] ?_
 refine SeqK.eff (k' := 5) (Does.new (v := .slice (some ⟨h63.size,0,none⟩) 4 4) (o := .cells (rrow [(⟨(rbs (ByteArray.mk #[97])),(50 : Int),false,false,none,0,0⟩ : Rec),(⟨(rbs (ByteArray.mk #[98])),(40 : Int),false,false,none,0,0⟩ : Rec),(⟨(rbs (ByteArray.mk #[99])),(0 : Int),false,false,none,0,0⟩ : Rec),(⟨(rbs (ByteArray.mk #[100])),(50 : Int),true,false,none,0,0⟩ : Rec)]).toArray 26) (by kernel_rfl)) rfl ?_
 rintro _ h65 ⟨rfl,hh⟩
 have g66 : Ext h63 h65 := push_ext hh
 have m67 : h65[h63.size]? = some (.cells (rrow [(⟨(rbs (ByteArray.mk #[97])),(50 : Int),false,false,none,0,0⟩ : Rec),(⟨(rbs (ByteArray.mk #[98])),(40 : Int),false,false,none,0,0⟩ : Rec),(⟨(rbs (ByteArray.mk #[99])),(0 : Int),false,false,none,0,0⟩ : Rec),(⟨(rbs (ByteArray.mk #[100])),(50 : Int),true,false,none,0,0⟩ : Rec)]).toArray 26) := push_at hh
 clear hh
 have lt68 := blk_lt m67
 have zs69 := e0.size
 have hlo := e0.size
 have sepo := sep
 replace e0 := e0.ext g66
 replace own_c1 := own_c1.ext g66
 replace own_c2 := own_c2.ext g66
 replace m3 := Ext.blk g66 m3
 replace m8 := Ext.blk g66 m8
 replace m18 := Ext.blk g66 m18
 replace m28 := Ext.blk g66 m28
 replace m36 := Ext.blk g66 m36
 replace m44 := Ext.blk g66 m44
 replace m52 := Ext.blk g66 m52
 replace m60 := Ext.blk g66 m60
 replace sep := sep.up g66.size
 replace sep := sepo.new hlo (blk_lt m67)
 clear sepo hlo
 refine SeqK.eff (k' := 6) (Does.call (f := 20) (args := #[.slice (some ⟨h63.size,0,none⟩) 4 4,.int .i64 50]) (by kernel_rfl) (due_shown _ _ m67)) rfl ?_
 rintro _ h70 ⟨ad9,cap9,rfl,ownx,hge,g⟩
 have hlo := e0.size
 have sepo := sep
 replace e0 := e0.ext g
 replace own_c1 := own_c1.ext g
 replace own_c2 := own_c2.ext g
 replace m3 := Ext.blk g m3
 replace m8 := Ext.blk g m8
 replace m18 := Ext.blk g m18
 replace m28 := Ext.blk g m28
 replace m36 := Ext.blk g m36
 replace m44 := Ext.blk g m44
 replace m52 := Ext.blk g m52
 replace m60 := Ext.blk g m60
 replace m67 := Ext.blk g m67
 replace sep := sep.up g.size
 replace sep := sepo.cons (x := ad9.map (fun (x : Addr) => x.block)) g.size hlo (fun k e => ⟨hge k e,ownx.lt (by rw [blkOf_slice]; exact e)⟩)
 have own_s := ownx; clear ownx sepo hlo hge g
 refine sP 7 [.slice ad9 2 cap9] ?_
 refine sD [(1,pV h1.size),(2,pV h15.size),(3,.int .i64 0),(4,pV h25.size),(5,.int .i64 0),(7,.int .i64 1),(9,.int .i64 214),(10,pV h49.size),(11,.int .i64 0),(13,.int .i64 213),(14,.slice ad9 2 cap9)] ?_
 clear hF a; intro a hF
 obtain ⟨ab,rfl,hcap_ab⟩ := own_s.someA (by decide)
 refine tK ?_
 refine cS ?_
 refine cS ?_
 refine cP 9 hF ?_
 refine sP 27 [.int .i64 0,.bool false,.bool false,.int .i64 0,.bool false,.bool false,.bool false,.int .i64 1,.bool false,.bool false,.bool false,.int .i64 214,.bool false,.bool false,.bool false,.int .i64 0,.bool false,.bool false,.bool false,.int .i64 213,.bool false,.bool false,.bool false,.slice (some ab) 2 cap9,.int .i64 2,.bool false,.bool false] ?_
 refine sD [(1,pV h1.size),(2,pV h15.size),(4,pV h25.size),(10,pV h49.size),(14,.slice (some ab) 2 cap9),(80,.bool false)] ?_
 clear hF a; intro a hF
 refine tK ?_
 refine cF 80 hF ?_
 refine cN ?_
 refine tK ?_
 refine cS ?_
 refine cP 11 hF ?_
 refine sC 1 (.agg (rc (rbs (ByteArray.mk #[97])) (50 : Int) false false (.slice ad13 ([(⟨2,0,3,false⟩ : Pl)].length) cap14)).toArray) (Calm.load (T := 26) (p := ⟨h15.size,0,none⟩) (by kernel_rfl) (Loads.blk (vs := rc (rbs (ByteArray.mk #[97])) (50 : Int) false false (.slice ad13 ([(⟨2,0,3,false⟩ : Pl)].length) cap14)) (by kernel_rfl) m18 rfl)) ?_
 refine sC 2 (.agg (rc (rbs (ByteArray.mk #[97])) (50 : Int) false false (.slice (some ⟨h.size,0,none⟩) 1 1)).toArray) (Calm.load (T := 26) (p := ⟨h1.size,0,none⟩) (by kernel_rfl) (Loads.blk (vs := rc (rbs (ByteArray.mk #[97])) (50 : Int) false false (.slice (some ⟨h.size,0,none⟩) 1 1)) (by kernel_rfl) m8 rfl)) ?_
 refine SeqK.eff (k' := 3) (Does.call (f := 14) (args := #[.agg (rc (rbs (ByteArray.mk #[97])) (50 : Int) false false (.slice ad13 ([(⟨2,0,3,false⟩ : Pl)].length) cap14)).toArray,.agg (rc (rbs (ByteArray.mk #[97])) (50 : Int) false false (.slice (some ⟨h.size,0,none⟩) 1 1)).toArray]) (by kernel_rfl) (same_sat _ (rbs (ByteArray.mk #[97])) 50 false false [(⟨2,0,3,false⟩ : Pl)] ad13 cap14 own_c1.row (by decide) (some ⟨h.size,0,none⟩) 1 (Row.blk (n := 1) (sz := 4) (l := prow [(⟨2,0,3,false⟩ : Pl)]) m3 rfl))) rfl ?_
 rintro _ h71 ⟨rfl,g⟩
 replace e0 := e0.ext g
 replace own_c1 := own_c1.ext g
 replace own_c2 := own_c2.ext g
 replace own_s := own_s.ext g
 replace m3 := Ext.blk g m3
 replace m8 := Ext.blk g m8
 replace m18 := Ext.blk g m18
 replace m28 := Ext.blk g m28
 replace m36 := Ext.blk g m36
 replace m44 := Ext.blk g m44
 replace m52 := Ext.blk g m52
 replace m60 := Ext.blk g m60
 replace m67 := Ext.blk g m67
 replace sep := sep.up g.size
 clear g
 refine sP 5 [.bool true,.pointer (some ⟨h25.size,35,none⟩)] ?_
 refine sC 6 (.int .i64 60) (Calm.load (T := 3) (p := ⟨h25.size,35,none⟩) (by kernel_rfl) (Loads.one (k := 1) (by kernel_rfl) ((hcell_blk m28).trans (rfl)))) ?_
 refine sP 10 [.bool true,.bool true,.bool true,.pointer (some ⟨h49.size,37,none⟩)] ?_
 refine sC 11 (.bool true) (Calm.load (T := 4) (p := ⟨h49.size,37,none⟩) (by kernel_rfl) (Loads.one (k := 1) (by kernel_rfl) ((hcell_blk m52).trans (rfl)))) ?_
 refine sP 14 [.bool true,.bool true,.pointer (some ⟨h49.size,38,none⟩)] ?_
 refine sC 15 (.slice none 0 0) (Calm.load (T := 24) (p := ⟨h49.size,38,none⟩) (by kernel_rfl) (Loads.one (k := 1) (by kernel_rfl) ((hcell_blk m52).trans (rfl)))) ?_
 refine sP 20 [.int .i64 0,.bool true,.bool true,.bool true,pV h49.size] ?_
 refine sC 21 (.string (ByteArray.mk #[97])) (Calm.load (T := 9) (p := ⟨h49.size,0,none⟩) (by kernel_rfl) (Loads.one (k := 1) (by kernel_rfl) ((hcell_blk m52).trans (rfl)))) ?_
 refine s1 22 (.bool true) (.bool ((ByteArray.mk #[97]).toList == (ByteArray.mk #[97]).toList)) (congrArg Value.bool (by simp)) ?_
 refine sP 25 [.bool true,.bool true,.slice (some ab) 2 cap9] ?_
 refine sC 26 (.pointer (some ab)) ((Calm.indexA (a := ab) (len := 2) (sz := 1) (k := (0 : Int)) 0 0 (by kernel_rfl) rfl (by omega) (by omega)) _) ?_
 refine sC 27 (.string (ByteArray.mk #[98])) (Calm.load (T := 9) (p := ab) (by kernel_rfl) (Loads.one (k := 1) (by kernel_rfl) (own_s.cell (j := 0) rfl))) ?_
 refine s1 28 (.bool true) (.bool ((ByteArray.mk #[98]).toList == (ByteArray.mk #[98]).toList)) (congrArg Value.bool (by simp)) ?_
 refine sP 31 [.bool true,.bool true,.slice (some ab) 2 cap9] ?_
 refine sC 32 (.pointer (some (Addr.add ab 1))) ((Calm.indexA (a := ab) (len := 2) (sz := 1) (k := (1 : Int)) 1 1 (by kernel_rfl) rfl (by omega) (by omega)) _) ?_
 refine sC 33 (.string (ByteArray.mk #[97])) (Calm.load (T := 9) (p := (Addr.add ab 1)) (by kernel_rfl) (Loads.one (k := 1) (by kernel_rfl) (own_s.cell (j := 1) rfl))) ?_
 refine s1 34 (.bool true) (.bool ((ByteArray.mk #[97]).toList == (ByteArray.mk #[97]).toList)) (congrArg Value.bool (by simp)) ?_
 refine sP 36 [.bool true,.bool true] ?_
 refine sD [(0,.bool true)] ?_
 clear hF a; intro a hF
 refine tK ?_
 refine cR ?_
 show retK Try.prog Try.f10 (fun v h' => v = .bool true ∧ Ext h h') .ret a h71
 refine ret_ok [.tmp 0] [.bool true] (.bool true) rfl hF ⟨rfl,trivial⟩ rfl ?_
 exact ⟨rfl,e0⟩
end Go.Proofs.Ytlghdimpgfhmcaa
