/- Walks of the laws of proofs held: what each function computes, as a law of its calls. No condition but those that each theorem names. -/
import Derived.Test.YteinikjbaaembaaDoorLaw06A
import Derived.Test.YteinikjbaaembaaDoorVerF
namespace Go.Proofs.YteinikjbaaembaaDoor
open Go Go.Lane Go.Sha
noncomputable def b4 : Code := Tryd.f4.body.getD .skip
theorem vc_sat (h : Heap) (mz nz : Int) (x t : Hs) (va : Option Addr) (vc : Nat) (r : List Hs) (hx : x.length = 32) (ht : t.length = 32) (hr : HR h va vc r.length r) (hn : nz ≤ 9223372036854775807) (hrl : r.length ≤ 1048576) (kt : Ktab h) : Sat Tryd.prog 4 #[.agg (rawc mz nz x t (.slice va r.length vc)).toArray] h fun v h' => v = .bool true ∧ Ext h h' := by
 have e0 := Ext.refl h
 have h0s := kt.lt
 have sep : Sep h.size h.size [] := Sep.nil _ _
 refine sat_of (args := [.agg (rawc mz nz x t (.slice va r.length vc)).toArray]) (fn := Tryd.f4) (B := b4) (n := 42) (L := [(0,.agg (rawc mz nz x t (.slice va r.length vc)).toArray)]) Tryd.func4 rfl (by kernel_rfl) rfl ?_
 intro a hF
 refine cS ?_
 refine cP 0 hF ?_
 refine SeqK.eff (k' := 1) (Does.new (v := .pointer (some ⟨h.size,0,none⟩)) (o := .cells (rawc mz nz x t (.slice va r.length vc)).toArray 26) (by kernel_rfl)) rfl ?_
 rintro _ h1 ⟨rfl,hh⟩
 have g2 : Ext h h1 := push_ext hh
 have m3 : h1[h.size]? = some (.cells (rawc mz nz x t (.slice va r.length vc)).toArray 26) := push_at hh
 clear hh
 have lt4 := blk_lt m3
 have zs5 := e0.size
 have hlo := e0.size
 have sepo := sep
 replace e0 := e0.ext g2
 replace kt := kt.ext g2
 replace sep := sep.up g2.size
 replace sep := sepo.new hlo (blk_lt m3)
 clear sepo hlo
 refine sP 2 [.bool false] ?_
 refine sD [(1,.pointer (some ⟨h.size,0,none⟩))] ?_
 clear hF a; intro a hF
 refine tK ?_
 refine cS ?_
 refine cP 1 hF ?_
 refine SeqK.eff (k' := 1) (Does.call (f := 10) (args := #[]) (by kernel_rfl) (shown6_sat _ kt)) rfl ?_
 rintro _ h6 ⟨rfl,g⟩
 replace e0 := e0.ext g
 replace kt := kt.ext g
 replace m3 := Ext.blk g m3
 replace sep := sep.up g.size
 clear g
 refine sP 2 [.bool true] ?_
 refine sD [(1,.pointer (some ⟨h.size,0,none⟩)),(3,.bool true)] ?_
 clear hF a; intro a hF
 refine tK ?_
 refine cS ?_
 refine cS ?_
 refine cP 2 hF ?_
 refine sP 2 [.bool true,.bool false] ?_
 refine sD [(1,.pointer (some ⟨h.size,0,none⟩)),(8,.bool false)] ?_
 clear hF a; intro a hF
 refine tK ?_
 refine C.condF 8 [1,1,0,1,0] [1,1,0,1,1] (by kernel_rfl) hF (fun _ => rfl) ?_
 refine C.skip (by kernel_rfl) ?_
 refine tK ?_
 refine cS ?_
 refine cP 4 hF ?_
 refine SeqK.eff (k' := 1) (Does.new (v := .slice (some ⟨h6.size,0,none⟩) 0 0) (o := .cells #[] 23) (by kernel_rfl)) rfl ?_
 rintro _ h7 ⟨rfl,hh⟩
 have g8 : Ext h6 h7 := push_ext hh
 have m9 : h7[h6.size]? = some (.cells #[] 23) := push_at hh
 clear hh
 have lt10 := blk_lt m9
 have zs11 := e0.size
 have hlo := e0.size
 have sepo := sep
 replace e0 := e0.ext g8
 replace kt := kt.ext g8
 replace m3 := Ext.blk g8 m3
 replace sep := sep.up g8.size
 replace sep := sepo.new hlo (blk_lt m9)
 clear sepo hlo
 refine sP 2 [.pointer (some ⟨h.size,66,none⟩)] ?_
 refine sC 3 (.slice va r.length vc) (Calm.load (T := 24) (p := ⟨h.size,66,none⟩) (by kernel_rfl) (Loads.one (k := 1) (by kernel_rfl) ((hcell_blk m3).trans (rawc_s hx ht)))) ?_
 have own_c : Own h7 (.slice (some ⟨h6.size,0,none⟩) 0 0) 23 ([] : List UInt8).length 32 (hcs []) := Own.empty 32 m9
 replace sep : Sep h.size h7.size [(some ⟨h6.size,0,none⟩ : Option Addr).map (·.block),some (h.size)] := sep
 clear m9 lt10 zs11
 refine SeqK.eff (k' := 4) (Does.append2 (t := 24) (E := 23) (sz := 32) (by_ := 32) (n := 0) (m := r.length) (v := .slice (some ⟨h6.size,0,none⟩) 0 0) (x := .slice va r.length vc) (xs := (hcs ([]))) (ys := (hcs r)) (by kernel_rfl) (by kernel_rfl) own_c ((hr.ext e0).1) (ones_hcs _) (by unfold maxLen; omega) (by omega)) rfl ?_
 rintro _ h14 ⟨ad12,cap13,rfl,ownx,g,hb⟩
 rw [blkOf_slice] at g hb
 have hlo := e0.size
 have sepo := sep
 replace e0 := e0.grew g (sep.low 0 rfl)
 replace kt := kt.grew g (sep.zero 0 rfl h0s)
 replace m3 := Grew.blk g m3 ((sep.bp 1 0 rfl rfl (by decide)))
 replace sep := sep.up g.size
 replace sep : Sep h.size h14.size [ad12.map (·.block),some (h.size)] := sepo.set g.size hlo 0 (y := ad12.map (fun (x : Addr) => x.block)) rfl (hb.imp id fun e => .inr ⟨_,e,Nat.le_refl _⟩) (fun k e => ownx.lt (by rw [blkOf_slice]; exact e))
 replace own_c : Own h14 (.slice ad12 r.length cap13) 23 r.length 32 (hcs r) := Own.appG ownx (by first | rfl | exact (hcs_append _ _).symm | simp [hcs_append]) (by first | rfl | (simp; done) | (simp; omega))
 clear ownx g hb hlo sepo
 refine sP 5 [.slice ad12 (0 + r.length) cap13] ?_
 refine sD [(1,.pointer (some ⟨h.size,0,none⟩)),(4,.slice ad12 (0 + r.length) cap13)] ?_
 clear hF a; intro a hF
 have hcan : (0 + r.length : Nat) = r.length := by first | (simp; done) | (simp; omega)
 rw [hcan] at hF; clear hcan
 refine tK ?_
 refine cS ?_
 refine cP 5 hF ?_
 refine sP 1 [.pointer (some ⟨h.size,0,none⟩)] ?_
 refine sC 2 (.int .i64 mz) (Calm.load (T := 3) (p := ⟨h.size,0,none⟩) (by kernel_rfl) (Loads.one (k := 1) (by kernel_rfl) ((hcell_blk m3).trans (rfl)))) ?_
 refine sP 3 [.pointer (some ⟨h.size,1,none⟩)] ?_
 refine sC 4 (.int .i64 nz) (Calm.load (T := 3) (p := ⟨h.size,1,none⟩) (by kernel_rfl) (Loads.one (k := 1) (by kernel_rfl) ((hcell_blk m3).trans (rfl)))) ?_
 refine sP 5 [.pointer (some ⟨h.size,2,none⟩)] ?_
 refine sC 6 (.agg (x.map bv).toArray) (Calm.load (T := 23) (p := ⟨h.size,2,none⟩) (by kernel_rfl) (rawc_x (by kernel_rfl) hx m3)) ?_
 refine sP 7 [.pointer (some ⟨h.size,34,none⟩)] ?_
 refine sC 8 (.agg (t.map bv).toArray) (Calm.load (T := 23) (p := ⟨h.size,34,none⟩) (by kernel_rfl) (rawc_y (by kernel_rfl) hx ht m3)) ?_
 refine sP 9 [.slice ad12 r.length cap13] ?_
 refine SeqK.eff (k' := 10) (Does.call (f := 14) (args := #[.int .i64 mz,.int .i64 nz,.agg (x.map bv).toArray,.agg (t.map bv).toArray,.slice ad12 r.length cap13]) (by kernel_rfl) (vcons_sat _ mz nz x t r _ _ hx ht (HR.of own_c hr.2.1) (by omega) hn kt (fun k e => own_c.lt (by rw [blkOf_slice]; exact e)))) rfl ?_
 rintro _ h15 ⟨rfl,g⟩
 replace e0 := e0.ext g
 replace kt := kt.ext g
 replace own_c := own_c.ext g
 replace m3 := Ext.blk g m3
 replace sep := sep.up g.size
 clear g
 refine sP 11 [.bool (consB mz nz x t r)] ?_
 refine sD [(1,.pointer (some ⟨h.size,0,none⟩)),(4,.slice ad12 r.length cap13),(5,.bool (consB mz nz x t r))] ?_
 clear hF a; intro a hF
 refine tK ?_
 refine cS ?_
 refine cP 6 hF ?_
 refine sP 2 [.bool (consB mz nz x t r),.pointer (some ⟨h.size,0,none⟩)] ?_
 refine sC 3 (.int .i64 mz) (Calm.load (T := 3) (p := ⟨h.size,0,none⟩) (by kernel_rfl) (Loads.one (k := 1) (by kernel_rfl) ((hcell_blk m3).trans (rfl)))) ?_
 refine sP 4 [.pointer (some ⟨h.size,1,none⟩)] ?_
 refine sC 5 (.int .i64 nz) (Calm.load (T := 3) (p := ⟨h.size,1,none⟩) (by kernel_rfl) (Loads.one (k := 1) (by kernel_rfl) ((hcell_blk m3).trans (rfl)))) ?_
 refine sP 6 [.pointer (some ⟨h.size,2,none⟩)] ?_
 refine sC 7 (.agg (x.map bv).toArray) (Calm.load (T := 23) (p := ⟨h.size,2,none⟩) (by kernel_rfl) (rawc_x (by kernel_rfl) hx m3)) ?_
 refine sP 8 [.pointer (some ⟨h.size,34,none⟩)] ?_
 refine sC 9 (.agg (t.map bv).toArray) (Calm.load (T := 23) (p := ⟨h.size,34,none⟩) (by kernel_rfl) (rawc_y (by kernel_rfl) hx ht m3)) ?_
 refine sP 10 [.pointer (some ⟨h.size,66,none⟩)] ?_
 refine sC 11 (.slice va r.length vc) (Calm.load (T := 24) (p := ⟨h.size,66,none⟩) (by kernel_rfl) (Loads.one (k := 1) (by kernel_rfl) ((hcell_blk m3).trans (rawc_s hx ht)))) ?_
 refine SeqK.eff (k' := 12) (Does.call (f := 15) (args := #[.int .i64 mz,.int .i64 nz,.agg (x.map bv).toArray,.agg (t.map bv).toArray,.slice va r.length vc]) (by kernel_rfl) (rcons6_sat _ mz nz x t r _ _ hx ht (hr.ext e0) (by omega) hn)) rfl ?_
 rintro _ h16 ⟨rfl,g⟩
 replace e0 := e0.ext g
 replace kt := kt.ext g
 replace own_c := own_c.ext g
 replace m3 := Ext.blk g m3
 replace sep := sep.up g.size
 clear g
 refine s1 13 (.bool true) (.bool (consB mz nz x t r == consB mz nz x t r)) (congrArg Value.bool (beq_self_eq_true _)) ?_
 refine sP 16 [.bool true,.slice ad12 r.length cap13,.pointer (some ⟨h.size,66,none⟩)] ?_
 refine sC 17 (.slice va r.length vc) (Calm.load (T := 24) (p := ⟨h.size,66,none⟩) (by kernel_rfl) (Loads.one (k := 1) (by kernel_rfl) ((hcell_blk m3).trans (rawc_s hx ht)))) ?_
 refine sC 18 (.bool true) (Does.call (f := 13) (args := #[.slice ad12 r.length cap13,.slice va r.length vc]) (by kernel_rfl) (hsame_eq _ r _ _ _ _ r.length (HR.of own_c hr.2.1) (hr.ext e0) (by omega))) ?_
 refine sP 20 [.bool true,.bool true] ?_
 refine sD [(2,.bool true)] ?_
 clear hF a; intro a hF
 refine tK ?_
 refine C.ret (by kernel_rfl) ?_
 show retK Tryd.prog Tryd.f4 (fun v h' => v = .bool true ∧ Ext h h') .ret a h16
 refine ret_ok [.tmp 2] [.bool true] (.bool true) rfl hF ⟨rfl,trivial⟩ rfl ?_
 exact ⟨rfl,e0⟩
end Go.Proofs.YteinikjbaaembaaDoor
