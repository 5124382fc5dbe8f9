/- Walks of chunks: what each function computes, as a law of its calls. No condition but those that each theorem names. -/
import Derived.Test.YtkjlafiefgbjpaaDoorChkA
import Derived.Test.YtkjlafiefgbjpaaDoorTreeD
namespace Go.Proofs.YtkjlafiefgbjpaaDoor
open Go Go.Lane Go.Sha
theorem tincl_at (h : Heap) (L : List Hs) (va : Option Addr) (vc n : Nat) (hL : HR h va vc n L) (hn : n ≤ 1099511627000) (m : Int) (kt : Ktab h) (p : List Hs) (e : Int) (hz : inclZ L m = (p,e)) : Sat Tryd.prog 17 #[.slice va n vc,.int .i64 m] h fun v h' => ∃ s,v = .tuple #[s,.int .i64 e] ∧ OwnNew h h' 31 s p := by
 have := tincl_sat h L va vc n hL hn m kt
 rw [hz] at this
 exact this
noncomputable def b12 : Code := Tryd.f12.body.getD .skip
theorem root7_sat (h : Heap) (b : List UInt8) (va : Option Addr) (vc : Nat) (hr : Row h (.slice va b.length vc) b.length 1 (b.map bv)) (hbl : b.length ≤ 1099511627000) (kt : Ktab h) : Sat Tryd.prog 12 #[.slice va b.length vc] h fun v h' => v = hv (root (lch b (nch b.length))) ∧ Ext h h' := by
 have e0 := Ext.refl h
 have h0s := kt.lt
 have sep : Sep h.size h.size [] := Sep.nil _ _
 obtain ⟨H,hH⟩ : ∃ H,lch b (nch b.length) = H := ⟨_,rfl⟩
 have h32 : All32 H := hH ▸ lch_32 _ _
 have hHl : H.length = nch b.length := by rw [← hH,lch_len]
 have hnl := nch_le b.length
 refine sat_of (args := [.slice va b.length vc]) (fn := Tryd.f12) (B := b12) (n := 6) (L := [(0,.slice va b.length vc)]) Tryd.func12 rfl (by kernel_rfl) rfl ?_
 intro a hF
 refine cS ?_
 refine cP 0 hF ?_
 refine SeqK.eff (k' := 1) (Does.new (v := .pointer (some ⟨h.size,0,none⟩)) (o := .cells (z32.map bv).toArray 31) (by kernel_rfl)) rfl ?_
 rintro _ h1 ⟨rfl,hh⟩
 have g2 : Ext h h1 := push_ext hh
 have m3 : h1[h.size]? = some (.cells (z32.map bv).toArray 31) := push_at hh
 clear hh
 have lt4 := blk_lt m3
 have zs5 := e0.size
 have hlo := e0.size
 have sepo := sep
 replace e0 := e0.ext g2
 replace kt := kt.ext g2
 replace sep := sep.up g2.size
 replace sep := sepo.new hlo (blk_lt m3)
 clear sepo hlo
 refine sD [(0,.slice va b.length vc),(2,pV h.size)] ?_
 clear hF a; intro a hF
 refine tK ?_
 refine cS ?_
 refine cP 1 hF ?_
 refine sP 1 [.slice va b.length vc] ?_
 refine SeqK.eff (k' := 2) (Does.call (f := 18) (args := #[.slice va b.length vc]) (by kernel_rfl) (leaves7_n _ b _ _ (hr.ext e0) hbl kt H hH)) rfl ?_
 rintro _ h8 ⟨ad6,cap7,rfl,ownx,hge,g⟩
 have hlo := e0.size
 have sepo := sep
 replace e0 := e0.ext g
 replace kt := kt.ext g
 replace m3 := Ext.blk g m3
 replace sep := sep.up g.size
 replace sep := sepo.cons (x := ad6.map (fun (x : Addr) => x.block)) g.size hlo (fun k e => ⟨hge k e,ownx.lt (by rw [blkOf_slice]; exact e)⟩)
 have own_hl : Own h8 (.slice ad6 H.length cap7) 31 H.length 32 (hcs H) := ownx; clear ownx sepo hlo hge g
 refine SeqK.eff (k' := 3) (Does.call (f := 21) (args := #[.slice ad6 H.length cap7]) (by kernel_rfl) (troot_sat _ H _ _ H.length (HR.of own_hl h32) kt (by omega))) rfl ?_
 rintro _ h9 ⟨rfl,g⟩
 replace e0 := e0.ext g
 replace kt := kt.ext g
 replace own_hl := own_hl.ext g
 replace m3 := Ext.blk g m3
 replace sep := sep.up g.size
 clear g
 refine SeqK.eff (k' := 4) (Does.store (b := h.size) (off := 0) (vs := (root H).map bv) (l := z32.map bv) (storeOp_of (by kernel_rfl) (hlm (root_len h32))) m3 (hfit rfl (root_len h32)) (ones_map _)) rfl ?_
 rintro _ h10 ⟨rfl,hh⟩
 have g11 : Grew (some (h.size)) h9 h10 := hput_gr hh
 replace m3 : h10[h.size]? = some (.cells ((root H).map bv).toArray 31) := hput_at (off := 0) (vs := (root H).map bv) (l := (z32.map bv)) hh (hsplice rfl (root_len h32)) m3
 clear hh
 replace e0 := e0.grew g11 (sep.low 1 rfl)
 replace kt := kt.grew g11 (sep.zero 1 rfl h0s)
 replace own_hl := own_hl.kept g11 (by rw [blkOf_slice]; exact (sep.ap 0 1))
 replace sep := sep.up g11.size
 refine sD [(2,pV h.size)] ?_
 clear hF a; intro a hF
 refine tK ?_
 refine cR ?_
 show retK Tryd.prog Tryd.f12 (fun v h' => v = hv (root (lch b (nch b.length))) ∧ Ext h h') .ret a h10
 refine ret_ok [.cell 2 31] [.agg ((root H).map bv).toArray] (.agg ((root H).map bv).toArray) rfl hF ⟨⟨_,rfl,Loads.hash (by kernel_rfl) (root_len h32) m3⟩,trivial⟩ rfl ?_
 exact ⟨by rw [hH]; rfl,e0⟩
noncomputable def b10 : Code := Tryd.f10.body.getD .skip
theorem proof7_at (h : Heap) (b : List UInt8) (va : Option Addr) (vc : Nat) (hr : Row h (.slice va b.length vc) b.length 1 (b.map bv)) (hbl : b.length ≤ 1099511627000) (m : Int) (kt : Ktab h) (p : List Hs) (er : Int) (hz : inclZ (lch b (nch b.length)) m = (p,er)) : Sat Tryd.prog 10 #[.slice va b.length vc,.int .i64 m] h fun v h' => ∃ s,v = .tuple #[s,.int .i64 er] ∧ OwnNew h h' 31 s p := by
 have e0 := Ext.refl h
 have h0s := kt.lt
 have sep : Sep h.size h.size [] := Sep.nil _ _
 obtain ⟨H,hH⟩ : ∃ H,lch b (nch b.length) = H := ⟨_,rfl⟩
 have h32 : All32 H := hH ▸ lch_32 _ _
 have hHl : H.length = nch b.length := by rw [← hH,lch_len]
 have hnl := nch_le b.length
 refine sat_of (args := [.slice va b.length vc,.int .i64 m]) (fn := Tryd.f10) (B := b10) (n := 12) (L := [(0,.slice va b.length vc),(1,.int .i64 m)]) Tryd.func10 rfl (by kernel_rfl) rfl ?_
 intro a hF
 refine cS ?_
 refine cP 0 hF ?_
 refine sP 2 [.slice none 0 0,.int .i64 0] ?_
 refine sD [(0,.slice va b.length vc),(1,.int .i64 m)] ?_
 clear hF a; intro a hF
 refine tK ?_
 refine cS ?_
 refine cP 1 hF ?_
 refine sP 1 [.slice va b.length vc] ?_
 refine SeqK.eff (k' := 2) (Does.call (f := 18) (args := #[.slice va b.length vc]) (by kernel_rfl) (leaves7_n _ b _ _ (hr.ext e0) hbl kt H hH)) rfl ?_
 rintro _ h3 ⟨ad1,cap2,rfl,ownx,hge,g⟩
 have hlo := e0.size
 have sepo := sep
 replace e0 := e0.ext g
 replace kt := kt.ext g
 replace sep := sep.up g.size
 replace sep := sepo.cons (x := ad1.map (fun (x : Addr) => x.block)) g.size hlo (fun k e => ⟨hge k e,ownx.lt (by rw [blkOf_slice]; exact e)⟩)
 have own_hl : Own h3 (.slice ad1 H.length cap2) 31 H.length 32 (hcs H) := ownx; clear ownx sepo hlo hge g
 refine sP 3 [.int .i64 m] ?_
 refine SeqK.eff (k' := 4) (Does.call (f := 17) (args := #[.slice ad1 H.length cap2,.int .i64 m]) (by kernel_rfl) (tincl_at _ H _ _ H.length (HR.of own_hl h32) (by omega) m kt p er (hH ▸ hz))) rfl ?_
 rintro _ h6 ⟨_,rfl,ad4,cap5,rfl,ownx,hge,g⟩
 have hlo := e0.size
 have sepo := sep
 replace e0 := e0.ext g
 replace kt := kt.ext g
 replace own_hl := own_hl.ext g
 replace sep := sep.up g.size
 replace sep := sepo.cons (x := ad4.map (fun (x : Addr) => x.block)) g.size hlo (fun k e => ⟨hge k e,ownx.lt (by rw [blkOf_slice]; exact e)⟩)
 have own_p : Own h6 (.slice ad4 p.length cap5) 31 p.length 32 (hcs p) := ownx; clear ownx sepo hlo hge g
 refine sP 8 [.slice ad4 p.length cap5,.int .i64 er,.slice ad4 p.length cap5,.int .i64 er] ?_
 refine sD [(4,.slice ad4 p.length cap5),(5,.int .i64 er)] ?_
 clear hF a; intro a hF
 refine tK ?_
 refine cR ?_
 show retK Tryd.prog Tryd.f10 (fun v h' => ∃ s,v = .tuple #[s,.int .i64 er] ∧ OwnNew h h' 31 s p) .ret a h6
 refine ret_ok [.tmp 4,.tmp 5] [.slice ad4 p.length cap5,.int .i64 er] (.tuple #[.slice ad4 p.length cap5,.int .i64 er]) rfl hF ⟨rfl,rfl,trivial⟩ rfl ?_
 exact ⟨_,rfl,ad4,cap5,rfl,own_p,sep.low 0 rfl,e0⟩
end Go.Proofs.YtkjlafiefgbjpaaDoor
