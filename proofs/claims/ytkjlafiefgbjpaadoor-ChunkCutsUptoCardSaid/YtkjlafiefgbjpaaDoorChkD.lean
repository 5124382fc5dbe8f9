/- Walks of chunks: what each function computes, as a law of its calls. No condition but those that each theorem names. -/
import Derived.Test.YtkjlafiefgbjpaaDoorChkB
import Derived.Test.YtkjlafiefgbjpaaDoorChkC
namespace Go.Proofs.YtkjlafiefgbjpaaDoor
open Go Go.Lane Go.Sha
theorem split7_n (h : Heap) (b : List UInt8) (m : Nat) (hm : b.length = m) (va : Option Addr) (vc : Nat) (hr : Row h (.slice va m vc) m 1 (b.map bv)) (hbl : m ≤ 1099511627000) (N : Nat) (hN : nch m = N) : Sat Tryd.prog 8 #[.slice va m vc] h fun v h' => SplitN h h' 22 5 v b m N := by
 subst hm; subst hN; exact split7_sat h b va vc hr hbl
theorem root7_n (h : Heap) (b : List UInt8) (m : Nat) (hm : b.length = m) (va : Option Addr) (vc : Nat) (hr : Row h (.slice va m vc) m 1 (b.map bv)) (hbl : m ≤ 1099511627000) (N : Nat) (hN : nch m = N) (kt : Ktab h) : Sat Tryd.prog 12 #[.slice va m vc] h fun v h' => v = hv (root (lch b N)) ∧ Ext h h' := by
 subst hm; subst hN; exact root7_sat h b va vc hr hbl kt
theorem proof7_n (h : Heap) (b : List UInt8) (m : Nat) (hm : b.length = m) (va : Option Addr) (vc : Nat) (hr : Row h (.slice va m vc) m 1 (b.map bv)) (hbl : m ≤ 1099511627000) (N : Nat) (hN : nch m = N) (i : Int) (kt : Ktab h) (p : List Hs) (er : Int) (hz : inclZ (lch b N) i = (p,er)) : Sat Tryd.prog 10 #[.slice va m vc,.int .i64 i] h fun v h' => ∃ s,v = .tuple #[s,.int .i64 er] ∧ OwnNew h h' 31 s p := by
 subst hm; subst hN; exact proof7_at h b va vc hr hbl i kt p er hz
noncomputable def b7 : Code := Tryd.f7.body.getD .skip
set_option maxHeartbeats 1000000 in
theorem shown7_sat (h : Heap) (kt : Ktab h) : Sat Tryd.prog 7 #[] h fun v h' => v = .bool true ∧ Ext h h' := by
 have e0 := Ext.refl h
 have h0s := kt.lt
 have sep : Sep h.size h.size [] := Sep.nil _ _
 refine sat_of (args := []) (fn := Tryd.f7) (B := b7) (n := 60) (L := []) Tryd.func7 rfl (by kernel_rfl) rfl ?_
 intro a hF
 refine cS ?_
 refine cP 0 hF ?_
 refine sP 1 [.bool false] ?_
 refine sD [] ?_
 clear hF a; intro a hF
 refine tK ?_
 refine cS ?_
 refine cP 1 hF ?_
 refine SeqK.eff (k' := 1) (Does.new (v := .slice (some ⟨h.size,0,none⟩) 130 130) (o := .cells (zb.map bv).toArray 5) (by kernel_rfl)) rfl ?_
 rintro _ h1 ⟨rfl,hh⟩
 have g2 : Ext h h1 := push_ext hh
 have m3 : h1[h.size]? = some (.cells (zb.map bv).toArray 5) := push_at hh
 clear hh
 have lt4 := blk_lt m3
 have zs5 := e0.size
 have hlo := e0.size
 have sepo := sep
 replace e0 := e0.ext g2
 replace kt := kt.ext g2
 replace sep := sep.up g2.size
 replace sep := sepo.new hlo (blk_lt m3)
 clear sepo hlo
 refine sP 2 [.slice (some ⟨h.size,0,none⟩) 130 130] ?_
 refine sD [(1,.slice (some ⟨h.size,0,none⟩) 130 130)] ?_
 clear hF a; intro a hF
 refine tK ?_
 refine cS ?_
 refine cP 2 hF ?_
 refine sP 1 [.slice (some ⟨h.size,0,none⟩) 130 130] ?_
 refine SeqK.eff (k' := 2) (Does.call (f := 8) (args := #[.slice (some ⟨h.size,0,none⟩) 130 130]) (by kernel_rfl) (split7_n _ zb 130 zb_len _ _ (Row.blk (n := 130) (sz := 1) (l := zb.map bv) m3 rfl) (by decide) 3 rfl)) rfl ?_
 rintro _ h10 ⟨va6,vc7,dat8,dc9,rfl,ownx,owny,sepn,g⟩
 have hlo := e0.size
 have sepo := sep
 replace e0 := e0.ext g
 replace kt := kt.ext g
 replace m3 := Ext.blk g m3
 replace sep := sep.up g.size
 replace sep := sepo.app sepn g.size hlo
 have own_x := ownx; have own_xd := owny; clear ownx owny sepn sepo hlo g
 refine sP 3 [.slice va6 3 vc7] ?_
 refine sD [(1,.slice (some ⟨h.size,0,none⟩) 130 130),(2,.slice va6 3 vc7)] ?_
 clear hF a; intro a hF
 obtain ⟨ax,rfl,_⟩ := own_x.someA (by omega)
 refine tK ?_
 refine cS ?_
 refine cP 3 hF ?_
 refine sP 1 [.slice (some ⟨h.size,0,none⟩) 130 130] ?_
 refine SeqK.eff (k' := 2) (Does.call (f := 10) (args := #[.slice (some ⟨h.size,0,none⟩) 130 130,.int .i64 3]) (by kernel_rfl) (proof7_n _ zb 130 zb_len _ _ (Row.blk (n := 130) (sz := 1) (l := zb.map bv) m3 rfl) (by decide) 3 rfl 3 kt [] 50 (inclZ_no (.inr (by rw [lch_len]; decide))))) rfl ?_
 rintro _ h13 ⟨_,rfl,ad11,cap12,rfl,ownx,hge,g⟩
 have hlo := e0.size
 have sepo := sep
 replace e0 := e0.ext g
 replace kt := kt.ext g
 replace own_x := own_x.ext g
 replace own_xd := own_xd.ext g
 replace m3 := Ext.blk g m3
 replace sep := sep.up g.size
 replace sep := sepo.cons (x := ad11.map (fun (x : Addr) => x.block)) g.size hlo (fun k e => ⟨hge k e,ownx.lt (by rw [blkOf_slice]; exact e)⟩)
 have own_q : Own h13 (.slice ad11 (([] : List Hs).length) cap12) 31 (([] : List Hs).length) 32 (hcs ([])) := ownx; clear ownx sepo hlo hge g
 refine sP 7 [.tuple #[.slice ad11 (([] : List Hs).length) cap12,.int .i64 50],.slice ad11 (([] : List Hs).length) cap12,.int .i64 50,.slice ad11 (([] : List Hs).length) cap12,.int .i64 50] ?_
 refine sD [(1,.slice (some ⟨h.size,0,none⟩) 130 130),(2,.slice (some ax) 3 vc7),(4,.int .i64 50)] ?_
 clear hF a; intro a hF
 refine tK ?_
 refine cS ?_
 refine cP 4 hF ?_
 refine sP 1 [.slice (some ⟨h.size,0,none⟩) 130 130] ?_
 obtain ⟨P,hP⟩ : ∃ P,incl (lch zb 3) 2 = P := ⟨_,rfl⟩
 have hPl : P.length ≤ 3 := by have := incl_len _ (lch zb 3) 2 (Nat.le_refl _); rw [hP,lch_len] at this; exact this
 have h32P : All32 P := hP ▸ incl_32 _ (lch zb 3) 2 (Nat.le_refl _) (lch_32 _ _)
 refine SeqK.eff (k' := 2) (Does.call (f := 10) (args := #[.slice (some ⟨h.size,0,none⟩) 130 130,.int .i64 2]) (by kernel_rfl) (proof7_n _ zb 130 zb_len _ _ (Row.blk (n := 130) (sz := 1) (l := zb.map bv) m3 rfl) (by decide) 3 rfl 2 kt P 0 (inclZ_pair (lch_len zb 3) (by decide) hP))) rfl ?_
 rintro _ h16 ⟨_,rfl,ad14,cap15,rfl,ownx,hge,g⟩
 have hlo := e0.size
 have sepo := sep
 replace e0 := e0.ext g
 replace kt := kt.ext g
 replace own_x := own_x.ext g
 replace own_xd := own_xd.ext g
 replace own_q := own_q.ext g
 replace m3 := Ext.blk g m3
 replace sep := sep.up g.size
 replace sep := sepo.cons (x := ad14.map (fun (x : Addr) => x.block)) g.size hlo (fun k e => ⟨hge k e,ownx.lt (by rw [blkOf_slice]; exact e)⟩)
 have own_p : Own h16 (.slice ad14 P.length cap15) 31 P.length 32 (hcs P) := ownx; clear ownx sepo hlo hge g
 refine sP 7 [.tuple #[.slice ad14 P.length cap15,.int .i64 0],.slice ad14 P.length cap15,.int .i64 0,.slice ad14 P.length cap15,.int .i64 0] ?_
 refine sD [(1,.slice (some ⟨h.size,0,none⟩) 130 130),(2,.slice (some ax) 3 vc7),(4,.int .i64 50),(5,.slice ad14 P.length cap15),(6,.int .i64 0)] ?_
 clear hF a; intro a hF
 have hc2 := zb_ck2; have hc0 := zb_ck0
 refine tK ?_
 refine cS ?_
 refine cS ?_
 refine cP 5 hF ?_
 refine sP 5 [.slice (some ax) 3 vc7,.int .i64 3,.bool false,.bool false,.slice (some ax) 3 vc7] ?_
 refine sC 6 (.pointer (some (Addr.add ax 2))) ((Calm.indexA (a := ax) (len := 3) (sz := 1) (k := (2 : Int)) 2 2 (by kernel_rfl) rfl (by omega) (by omega)) _) ?_
 refine sC 7 (.slice (cad dat8 2) ((ck zb 2).length) ((ck zb 2).length)) (Calm.load (T := 22) (p := (Addr.add ax 2)) (by kernel_rfl) (Loads.one (k := 1) (by kernel_rfl) (sls_cell (i := 2) own_x rfl (by omega)))) ?_
 refine sP 8 [nV ((ck zb 2).length)] ?_
 refine s1 9 (.bool false) (.bool (!((((ck zb 2).length : Nat) : Int) == (2 : Int)))) (congrArg (fun b => Value.bool (!b)) (beq_iff_eq.2 (by omega))) ?_
 refine sP 18 [.bool false,.bool false,.int .i64 50,.bool false,.bool false,.bool false,.int .i64 0,.bool false,.bool false] ?_
 refine sD [(1,.slice (some ⟨h.size,0,none⟩) 130 130),(2,.slice (some ax) 3 vc7),(5,.slice ad14 P.length cap15),(40,.bool false)] ?_
 clear hF a; intro a hF
 refine tK ?_
 refine cF 40 hF ?_
 refine cN ?_
 refine tK ?_
 refine cS ?_
 refine cP 7 hF ?_
 refine sP 1 [.slice (some ⟨h.size,0,none⟩) 130 130] ?_
 refine SeqK.eff (k' := 2) (Does.call (f := 12) (args := #[.slice (some ⟨h.size,0,none⟩) 130 130]) (by kernel_rfl) (root7_n _ zb 130 zb_len _ _ (Row.blk (n := 130) (sz := 1) (l := zb.map bv) m3 rfl) (by decide) 3 rfl kt)) rfl ?_
 rintro _ h17 ⟨rfl,g⟩
 replace e0 := e0.ext g
 replace kt := kt.ext g
 replace own_x := own_x.ext g
 replace own_xd := own_xd.ext g
 replace own_q := own_q.ext g
 replace own_p := own_p.ext g
 replace m3 := Ext.blk g m3
 replace sep := sep.up g.size
 clear g
 refine SeqK.eff (k' := 3) (Does.new (v := .pointer (some ⟨h17.size,0,none⟩)) (o := .cells (z32.map bv).toArray 31) (by kernel_rfl)) rfl ?_
 rintro _ h18 ⟨rfl,hh⟩
 have g19 : Ext h17 h18 := push_ext hh
 have m20 : h18[h17.size]? = some (.cells (z32.map bv).toArray 31) := push_at hh
 clear hh
 have lt21 := blk_lt m20
 have zs22 := e0.size
 have hlo := e0.size
 have sepo := sep
 replace e0 := e0.ext g19
 replace kt := kt.ext g19
 replace own_x := own_x.ext g19
 replace own_xd := own_xd.ext g19
 replace own_q := own_q.ext g19
 replace own_p := own_p.ext g19
 replace m3 := Ext.blk g19 m3
 replace sep := sep.up g19.size
 replace sep := sepo.new hlo (blk_lt m20)
 clear sepo hlo
 refine SeqK.eff (k' := 4) (Does.store (b := h17.size) (off := 0) (vs := (root (lch zb 3)).map bv) (l := z32.map bv) (storeOp_of (by kernel_rfl) (hlm (root_len (lch_32 _ _)))) m20 (hfit rfl (root_len (lch_32 _ _))) (ones_map _)) rfl ?_
 rintro _ h23 ⟨rfl,hh⟩
 have g24 : Grew (some (h17.size)) h18 h23 := hput_gr hh
 replace m20 : h23[h17.size]? = some (.cells ((root (lch zb 3)).map bv).toArray 31) := hput_at (off := 0) (vs := (root (lch zb 3)).map bv) (l := (z32.map bv)) hh (hsplice rfl (root_len (lch_32 _ _))) m20
 clear hh
 replace e0 := e0.grew g24 (sep.low 0 rfl)
 replace kt := kt.grew g24 (sep.zero 0 rfl h0s)
 replace own_x := own_x.kept g24 (by rw [blkOf_slice]; exact (sep.ap 3 0))
 replace own_xd := own_xd.kept g24 (by rw [blkOf_slice]; exact (sep.ap 4 0))
 replace own_q := own_q.kept g24 (by rw [blkOf_slice]; exact (sep.ap 2 0))
 replace own_p := own_p.kept g24 (by rw [blkOf_slice]; exact (sep.ap 1 0))
 replace m3 := Grew.blk g24 m3 ((sep.bp 5 0))
 replace sep := sep.up g24.size
 refine sD [(2,.slice (some ax) 3 vc7),(5,.slice ad14 P.length cap15),(7,pV h17.size)] ?_
 clear hF a; intro a hF
 refine tK ?_
 refine cS ?_
 refine cD [0,1,3,0,0,31,63] 8 mixed hF ?_
 refine mP 1 [0] [.slice (some ax) 3 vc7] ?_
 refine mF 3 1 (.pointer (some (Addr.add ax 2))) (Calm.indexA (a := ax) (len := 3) (sz := 1) (k := (2 : Int)) 2 2 (by kernel_rfl) rfl (by omega) (by omega)) ?_
 refine mL 7 4 2 (.slice (cad dat8 2) ((ck zb 2).length) ((ck zb 2).length)) (Calm.load (T := 22) (p := (Addr.add ax 2)) (by kernel_rfl) (Loads.one (k := 1) (by kernel_rfl) (sls_cell (i := 2) own_x rfl (by omega)))) ?_
 refine mP 15 [3] [.slice ad14 P.length cap15] ?_
 refine mL 31 20 4 (.agg ((root (lch zb 3)).map bv).toArray) (Calm.load (T := 31) (p := ⟨h17.size,0,none⟩) (by kernel_rfl) (Loads.hash (by kernel_rfl) (root_len (lch_32 _ _)) m20)) ?_
 refine SimK.eff0 (i := 5) (D' := 63) (X' := 63) (by kernel_rfl) (by kernel_rfl) (by kernel_rfl) (by kernel_rfl) (Does.call (f := 14) (args := #[.slice (cad dat8 2) ((ck zb 2).length) ((ck zb 2).length),.int .i64 2,.int .i64 130,.slice ad14 P.length cap15,.agg ((root (lch zb 3)).map bv).toArray]) (by kernel_rfl) (check7_at _ (ck zb 2) (cad dat8 2) ((ck zb 2).length) (ck_rowN zb_len rfl own_xd.row (by decide)) (by omega) 2 130 (by decide) P _ _ (HR.of own_p h32P) (by omega) (root (lch zb 3)) (root_len (lch_32 _ _)) (.inr fun k2 e => csl_lt (b := zb) (i := 2) own_xd e) (.inr fun k2 e => own_p.lt (by rw [blkOf_slice]; exact e)) kt true (zb_held hP))) ?_
 rintro _ h25 ⟨rfl,g⟩
 replace e0 := e0.ext g
 replace kt := kt.ext g
 replace own_x := own_x.ext g
 replace own_xd := own_xd.ext g
 replace own_q := own_q.ext g
 replace own_p := own_p.ext g
 replace m3 := Ext.blk g m3
 replace m20 := Ext.blk g m20
 replace sep := sep.up g.size
 clear g
 refine mP 127 [6] [.bool true] ?_
 refine mD [(2,.slice (some ax) 3 vc7),(5,.slice ad14 P.length cap15),(7,pV h17.size),(8,.bool true)] ?_
 clear hF a; intro a hF
 refine tK ?_
 refine cS ?_
 refine cD [0,1,3,0,0,31,63] 9 mixed hF ?_
 refine mP 1 [0] [.slice (some ax) 3 vc7] ?_
 refine mF 3 1 (.pointer (some ax)) (Calm.indexA (a := ax) (len := 3) (sz := 1) (k := (0 : Int)) 0 0 (by kernel_rfl) rfl (by omega) (by omega)) ?_
 refine mL 7 4 2 (.slice (cad dat8 0) ((ck zb 0).length) ((ck zb 0).length)) (Calm.load (T := 22) (p := ax) (by kernel_rfl) (Loads.one (k := 1) (by kernel_rfl) (sls_cell (i := 0) own_x rfl (by omega)))) ?_
 refine mP 15 [3] [.slice ad14 P.length cap15] ?_
 refine mL 31 20 4 (.agg ((root (lch zb 3)).map bv).toArray) (Calm.load (T := 31) (p := ⟨h17.size,0,none⟩) (by kernel_rfl) (Loads.hash (by kernel_rfl) (root_len (lch_32 _ _)) m20)) ?_
 refine SimK.eff0 (i := 5) (D' := 63) (X' := 63) (by kernel_rfl) (by kernel_rfl) (by kernel_rfl) (by kernel_rfl) (Does.call (f := 14) (args := #[.slice (cad dat8 0) ((ck zb 0).length) ((ck zb 0).length),.int .i64 2,.int .i64 130,.slice ad14 P.length cap15,.agg ((root (lch zb 3)).map bv).toArray]) (by kernel_rfl) (check7_at _ (ck zb 0) (cad dat8 0) ((ck zb 0).length) (ck_rowN zb_len rfl own_xd.row (by decide)) (by omega) 2 130 (by decide) P _ _ (HR.of own_p h32P) (by omega) (root (lch zb 3)) (root_len (lch_32 _ _)) (.inr fun k2 e => csl_lt (b := zb) (i := 0) own_xd e) (.inr fun k2 e => own_p.lt (by rw [blkOf_slice]; exact e)) kt false zb_not)) ?_
 rintro _ h26 ⟨rfl,g⟩
 replace e0 := e0.ext g
 replace kt := kt.ext g
 replace own_x := own_x.ext g
 replace own_xd := own_xd.ext g
 replace own_q := own_q.ext g
 replace own_p := own_p.ext g
 replace m3 := Ext.blk g m3
 replace m20 := Ext.blk g m20
 replace sep := sep.up g.size
 clear g
 refine mP 127 [6] [.bool false] ?_
 refine mD [(8,.bool true),(9,.bool false)] ?_
 clear hF a; intro a hF
 refine tK ?_
 refine cS ?_
 refine cP 10 hF ?_
 refine sP 6 [.bool true,.bool true,.bool false,.bool true,.bool true,.bool true] ?_
 refine sD [(0,.bool true)] ?_
 clear hF a; intro a hF
 refine tK ?_
 refine cR ?_
 show retK Tryd.prog Tryd.f7 (fun v h' => v = .bool true ∧ Ext h h') .ret a h26
 refine ret_ok [.tmp 0] [.bool true] (.bool true) rfl hF ⟨rfl,trivial⟩ rfl ?_
 exact ⟨rfl,e0⟩
end Go.Proofs.YtkjlafiefgbjpaaDoor
