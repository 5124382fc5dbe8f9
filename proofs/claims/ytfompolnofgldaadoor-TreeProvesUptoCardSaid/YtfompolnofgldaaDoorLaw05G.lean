/- Walks of the laws of the trees: what each function computes, as a law of its calls. No condition but those that each theorem names. -/
import Derived.Test.YtfompolnofgldaaDoorLaw05D
namespace Go.Proofs.YtfompolnofgldaaDoor
open Go Go.Lane Go.Sha
noncomputable def b4 : Code := Tryd.f4.body.getD .skip
set_option maxHeartbeats 2000000 in
theorem proves_sat (h : Heap) (l : List UInt8) (va : Option Addr) (vc : Nat) (hr : Row h (.slice va l.length vc) l.length 1 (l.map bv)) (hn : l.length ≤ 1048576) (mi : Int) (kt : Ktab h) : Sat Tryd.prog 4 #[.slice va l.length vc,.int .i64 mi] h fun v h' => v = .bool true ∧ Ext h h' := by
 have e0 := Ext.refl h
 have h0s := kt.lt
 have sep : Sep h.size h.size [] := Sep.nil _ _
 obtain ⟨P,eP,hP⟩ : ∃ p e,inclZ (lvs l l.length) mi = (p,e) := ⟨_,_,rfl⟩
 obtain ⟨Q,eQ,hQ⟩ : ∃ p e,consZ (lvs l l.length) mi = (p,e) := ⟨_,_,rfl⟩
 have hil := inclZ_len (lvs l l.length) mi
 have hcl := consZ_len (lvs l l.length) mi
 have h32P := inclZ_32 (lvs_32 l l.length) mi
 have h32Q := consZ_32 (lvs_32 l l.length) mi
 rw [lvs_len,hP] at hil
 rw [lvs_len,hQ] at hcl
 rw [hP] at h32P
 rw [hQ] at h32Q
 dsimp only at hil hcl h32P h32Q
 refine sat_of (args := [.slice va l.length vc,.int .i64 mi]) (fn := Tryd.f4) (B := b4) (n := 113) (L := [(0,.slice va l.length vc),(1,.int .i64 mi)]) Tryd.func4 rfl (by kernel_rfl) rfl ?_
 intro a hF
 refine C.seq [0] [1] (by kernel_rfl) ?_
 refine C.plain 0 (by kernel_rfl) hF (by kernel_rfl) ?_
 refine SeqK.pures (k' := 1) [.bool false] (by kernel_rfl) rfl ?_
 refine SeqK.done [0,1] (L := [(0,.slice va l.length vc),(1,.int .i64 mi)]) (by kernel_rfl) (by kernel_rfl) ?_
 clear hF; clear a; intro a hF
 show C Tryd.prog (sub b4 [1]) _ a h
 refine C.seq [1,0] [1,1] (by kernel_rfl) ?_
 refine C.plain 1 (by kernel_rfl) hF (by kernel_rfl) ?_
 refine SeqK.eff (k' := 1) (Does.call (f := 8) (args := #[]) (by kernel_rfl) (shown5_sat _ kt)) rfl ?_
 rintro _ h1 ⟨rfl,g⟩
 replace e0 := e0.ext g
 replace kt := kt.ext g
 replace sep := sep.up g.size
 clear g
 refine SeqK.pures (k' := 2) [.bool true] (by kernel_rfl) rfl ?_
 refine SeqK.done [0,1,5] (L := [(0,.slice va l.length vc),(1,.int .i64 mi),(5,.bool true)]) (by kernel_rfl) (by kernel_rfl) ?_
 clear hF; clear a; intro a hF
 show C Tryd.prog (sub b4 [1,1]) _ a h1
 refine C.seq [1,1,0] [1,1,1] (by kernel_rfl) ?_
 refine C.plain 2 (by kernel_rfl) hF (by kernel_rfl) ?_
 refine SeqK.pures (k' := 1) [.slice va l.length vc] (by kernel_rfl) rfl ?_
 refine SeqK.eff (k' := 2) (Does.call (f := 9) (args := #[.slice va l.length vc]) (by kernel_rfl) (leaves_n _ l va vc (hr.ext e0) (by omega))) rfl ?_
 rintro _ h4 ⟨ad2,cap3,rfl,ownx,hge,g⟩
 have hlo := e0.size
 have sepo := sep
 replace e0 := e0.ext g
 replace kt := kt.ext g
 replace sep := sep.up g.size
 replace sep := sepo.cons (x := ad2.map (fun (x : Addr) => x.block)) g.size hlo (fun k e => ⟨hge k e,ownx.lt (by rw [blkOf_slice]; exact e)⟩)
 have own_hl : Own h4 (.slice ad2 l.length cap3) 27 l.length 32 (hcs (lvs l l.length)) := ownx; clear ownx sepo hlo hge g
 refine SeqK.pures (k' := 3) [.slice ad2 l.length cap3] (by kernel_rfl) rfl ?_
 refine SeqK.done [1,5,6] (L := [(1,.int .i64 mi),(5,.bool true),(6,.slice ad2 l.length cap3)]) (by kernel_rfl) (by kernel_rfl) ?_
 clear hF; clear a; intro a hF
 show C Tryd.prog (sub b4 [1,1,1]) _ a h4
 refine C.seq [1,1,1,0] [1,1,1,1] (by kernel_rfl) ?_
 refine C.plain 3 (by kernel_rfl) hF (by kernel_rfl) ?_
 refine SeqK.eff (k' := 1) (Does.new (v := .slice (some ⟨h4.size,0,none⟩) 0 0) (o := .cells #[] 27) (by kernel_rfl)) rfl ?_
 rintro _ h5 ⟨rfl,hh⟩
 have g6 : Ext h4 h5 := push_ext hh
 have m7 : h5[h4.size]? = some (.cells #[] 27) := push_at hh
 clear hh
 have lt8 := blk_lt m7
 have z9 := e0.size
 have hlo := e0.size
 have sepo := sep
 replace e0 := e0.ext g6
 replace kt := kt.ext g6
 replace own_hl := own_hl.ext g6
 replace sep := sep.up g6.size
 replace sep := sepo.new hlo (blk_lt m7)
 clear sepo hlo
 refine SeqK.pures (k' := 2) [.slice ad2 l.length cap3] (by kernel_rfl) rfl ?_
 have own_w : Own h5 (.slice (some ⟨h4.size,0,none⟩) 0 0) 27 ([] : List UInt8).length 32 (hcs []) := Own.empty 32 m7
 replace sep : Sep h.size h5.size [(some ⟨h4.size,0,none⟩ : Option Addr).map (·.block),ad2.map (·.block)] := sep
 clear m7 lt8 z9
 refine SeqK.eff (k' := 3) (Does.append2 (t := 24) (E := 27) (sz := 32) (by_ := 32) (n := 0) (m := l.length) (v := .slice (some ⟨h4.size,0,none⟩) 0 0) (x := .slice ad2 l.length cap3) (xs := (hcs ([]))) (ys := (hcs (lvs l l.length))) (by kernel_rfl) (by kernel_rfl) own_w own_hl.row (ones_hcs _) (by unfold maxLen; omega) (by omega)) rfl ?_
 rintro _ h12 ⟨ad10,cap11,rfl,ownx,g,hb⟩
 rw [blkOf_slice] at g hb
 have hlo := e0.size
 have sepo := sep
 replace e0 := e0.grew g (sep.low 0 rfl)
 replace kt := kt.grew g (sep.zero 0 rfl h0s)
 replace own_hl := own_hl.kept g (by rw [blkOf_slice]; exact (sep.ap 1 0 rfl rfl (by decide)))
 replace sep := sep.up g.size
 replace sep : Sep h.size h12.size [ad10.map (·.block),ad2.map (·.block)] := sepo.set g.size hlo 0 (y := ad10.map (fun (x : Addr) => x.block)) rfl (hb.imp id fun e => .inr ⟨_,e,Nat.le_refl _⟩) (fun k e => ownx.lt (by rw [blkOf_slice]; exact e))
 replace own_w : Own h12 (.slice ad10 l.length cap11) 27 l.length 32 (hcs (lvs l l.length)) := Own.appG ownx (by first | rfl | exact (hcs_append _ _).symm | simp [hcs_append]) (by first | rfl | (simp; done) | (simp; omega))
 clear ownx g hb hlo sepo
 refine SeqK.pures (k' := 4) [.slice ad10 (0 + l.length) cap11] (by kernel_rfl) rfl ?_
 refine SeqK.done [1,5,6,7] (L := [(1,.int .i64 mi),(5,.bool true),(6,.slice ad2 l.length cap3),(7,.slice ad10 (0 + l.length) cap11)]) (by kernel_rfl) (by kernel_rfl) ?_
 clear hF; clear a; intro a hF
 have hcan : (0 + l.length : Nat) = l.length := by first | (simp; done) | (simp; omega)
 rw [hcan] at hF; clear hcan
 show C Tryd.prog (sub b4 [1,1,1,1]) _ a h12
 refine C.seq [1,1,1,1,0] [1,1,1,1,1] (by kernel_rfl) ?_
 refine C.plain 4 (by kernel_rfl) hF (by kernel_rfl) ?_
 refine SeqK.pures (k' := 2) [.slice ad10 l.length cap11,.int .i64 mi] (by kernel_rfl) rfl ?_
 refine SeqK.eff (k' := 3) (Does.call (f := 16) (args := #[.slice ad10 l.length cap11,.int .i64 mi]) (by kernel_rfl) (tincl_at _ (lvs l l.length) _ _ l.length (HR.of own_w (lvs_32 _ _)) (by omega) mi kt _ _ hP)) rfl ?_
 rintro _ h15 ⟨_,rfl,ad13,cap14,rfl,ownx,hge,g⟩
 have hlo := e0.size
 have sepo := sep
 replace e0 := e0.ext g
 replace kt := kt.ext g
 replace own_hl := own_hl.ext g
 replace own_w := own_w.ext g
 replace sep := sep.up g.size
 replace sep := sepo.cons (x := ad13.map (fun (x : Addr) => x.block)) g.size hlo (fun k e => ⟨hge k e,ownx.lt (by rw [blkOf_slice]; exact e)⟩)
 have own_p : Own h15 (.slice ad13 P.length cap14) 27 P.length 32 (hcs P) := ownx; clear ownx sepo hlo hge g
 refine SeqK.pures (k' := 8) [.tuple #[.slice ad13 P.length cap14,.int .i64 eP],.slice ad13 P.length cap14,.int .i64 eP,.slice ad13 P.length cap14,.int .i64 eP] (by kernel_rfl) rfl ?_
 refine SeqK.done [1,5,6,7,8,9] (L := [(1,.int .i64 mi),(5,.bool true),(6,.slice ad2 l.length cap3),(7,.slice ad10 l.length cap11),(8,.slice ad13 P.length cap14),(9,.int .i64 eP)]) (by kernel_rfl) (by kernel_rfl) ?_
 clear hF; clear a; intro a hF
 show C Tryd.prog (sub b4 [1,1,1,1,1]) _ a h15
 refine C.seq [1,1,1,1,1,0] [1,1,1,1,1,1] (by kernel_rfl) ?_
 refine C.plain 5 (by kernel_rfl) hF (by kernel_rfl) ?_
 refine SeqK.pures (k' := 2) [.slice ad2 l.length cap3,.int .i64 mi] (by kernel_rfl) rfl ?_
 refine SeqK.eff (k' := 3) (Does.call (f := 17) (args := #[.slice ad2 l.length cap3,.int .i64 mi]) (by kernel_rfl) (rincl_at _ (lvs l l.length) _ _ l.length (HR.of own_hl (lvs_32 _ _)) (by omega) mi _ _ hP)) rfl ?_
 rintro _ h18 ⟨_,rfl,ad16,cap17,rfl,ownx,hge,g⟩
 have hlo := e0.size
 have sepo := sep
 replace e0 := e0.ext g
 replace kt := kt.ext g
 replace own_hl := own_hl.ext g
 replace own_w := own_w.ext g
 replace own_p := own_p.ext g
 replace sep := sep.up g.size
 replace sep := sepo.cons (x := ad16.map (fun (x : Addr) => x.block)) g.size hlo (fun k e => ⟨hge k e,ownx.lt (by rw [blkOf_slice]; exact e)⟩)
 have own_q : Own h18 (.slice ad16 P.length cap17) 27 P.length 32 (hcs P) := ownx; clear ownx sepo hlo hge g
 refine SeqK.pures (k' := 8) [.tuple #[.slice ad16 P.length cap17,.int .i64 eP],.slice ad16 P.length cap17,.int .i64 eP,.slice ad16 P.length cap17,.int .i64 eP] (by kernel_rfl) rfl ?_
 refine SeqK.done [1,5,6,7,8,9,10,11] (L := [(1,.int .i64 mi),(5,.bool true),(6,.slice ad2 l.length cap3),(7,.slice ad10 l.length cap11),(8,.slice ad13 P.length cap14),(9,.int .i64 eP),(10,.slice ad16 P.length cap17),(11,.int .i64 eP)]) (by kernel_rfl) (by kernel_rfl) ?_
 clear hF; clear a; intro a hF
 show C Tryd.prog (sub b4 [1,1,1,1,1,1]) _ a h18
 refine C.seq [1,1,1,1,1,1,0] [1,1,1,1,1,1,1] (by kernel_rfl) ?_
 refine C.plain 6 (by kernel_rfl) hF (by kernel_rfl) ?_
 refine SeqK.pures (k' := 2) [.slice ad10 l.length cap11,.int .i64 mi] (by kernel_rfl) rfl ?_
 refine SeqK.eff (k' := 3) (Does.call (f := 18) (args := #[.slice ad10 l.length cap11,.int .i64 mi]) (by kernel_rfl) (tcons_at _ (lvs l l.length) _ _ l.length (HR.of own_w (lvs_32 _ _)) (by omega) mi kt _ _ hQ)) rfl ?_
 rintro _ h21 ⟨_,rfl,ad19,cap20,rfl,ownx,hge,g⟩
 have hlo := e0.size
 have sepo := sep
 replace e0 := e0.ext g
 replace kt := kt.ext g
 replace own_hl := own_hl.ext g
 replace own_w := own_w.ext g
 replace own_p := own_p.ext g
 replace own_q := own_q.ext g
 replace sep := sep.up g.size
 replace sep := sepo.cons (x := ad19.map (fun (x : Addr) => x.block)) g.size hlo (fun k e => ⟨hge k e,ownx.lt (by rw [blkOf_slice]; exact e)⟩)
 have own_r : Own h21 (.slice ad19 Q.length cap20) 27 Q.length 32 (hcs Q) := ownx; clear ownx sepo hlo hge g
 refine SeqK.pures (k' := 8) [.tuple #[.slice ad19 Q.length cap20,.int .i64 eQ],.slice ad19 Q.length cap20,.int .i64 eQ,.slice ad19 Q.length cap20,.int .i64 eQ] (by kernel_rfl) rfl ?_
 refine SeqK.done [1,5,6,7,8,9,10,11,12,13] (L := [(1,.int .i64 mi),(5,.bool true),(6,.slice ad2 l.length cap3),(7,.slice ad10 l.length cap11),(8,.slice ad13 P.length cap14),(9,.int .i64 eP),(10,.slice ad16 P.length cap17),(11,.int .i64 eP),(12,.slice ad19 Q.length cap20),(13,.int .i64 eQ)]) (by kernel_rfl) (by kernel_rfl) ?_
 clear hF; clear a; intro a hF
 show C Tryd.prog (sub b4 [1,1,1,1,1,1,1]) _ a h21
 refine C.seq [1,1,1,1,1,1,1,0] [1,1,1,1,1,1,1,1] (by kernel_rfl) ?_
 refine C.plain 7 (by kernel_rfl) hF (by kernel_rfl) ?_
 refine SeqK.pures (k' := 2) [.slice ad2 l.length cap3,.int .i64 mi] (by kernel_rfl) rfl ?_
 refine SeqK.eff (k' := 3) (Does.call (f := 19) (args := #[.slice ad2 l.length cap3,.int .i64 mi]) (by kernel_rfl) (rcons_at _ (lvs l l.length) _ _ l.length (HR.of own_hl (lvs_32 _ _)) (by omega) mi _ _ hQ)) rfl ?_
 rintro _ h24 ⟨_,rfl,ad22,cap23,rfl,ownx,hge,g⟩
 have hlo := e0.size
 have sepo := sep
 replace e0 := e0.ext g
 replace kt := kt.ext g
 replace own_hl := own_hl.ext g
 replace own_w := own_w.ext g
 replace own_p := own_p.ext g
 replace own_q := own_q.ext g
 replace own_r := own_r.ext g
 replace sep := sep.up g.size
 replace sep := sepo.cons (x := ad22.map (fun (x : Addr) => x.block)) g.size hlo (fun k e => ⟨hge k e,ownx.lt (by rw [blkOf_slice]; exact e)⟩)
 have own_s : Own h24 (.slice ad22 Q.length cap23) 27 Q.length 32 (hcs Q) := ownx; clear ownx sepo hlo hge g
 refine SeqK.pures (k' := 8) [.tuple #[.slice ad22 Q.length cap23,.int .i64 eQ],.slice ad22 Q.length cap23,.int .i64 eQ,.slice ad22 Q.length cap23,.int .i64 eQ] (by kernel_rfl) rfl ?_
 refine SeqK.done [1,5,6,7,8,9,10,11,12,13,14,15] (L := [(1,.int .i64 mi),(5,.bool true),(6,.slice ad2 l.length cap3),(7,.slice ad10 l.length cap11),(8,.slice ad13 P.length cap14),(9,.int .i64 eP),(10,.slice ad16 P.length cap17),(11,.int .i64 eP),(12,.slice ad19 Q.length cap20),(13,.int .i64 eQ),(14,.slice ad22 Q.length cap23),(15,.int .i64 eQ)]) (by kernel_rfl) (by kernel_rfl) ?_
 clear hF; clear a; intro a hF
 show C Tryd.prog (sub b4 [1,1,1,1,1,1,1,1]) _ a h24
 refine C.seq [1,1,1,1,1,1,1,1,0] [1,1,1,1,1,1,1,1,1] (by kernel_rfl) ?_
 refine C.plain 8 (by kernel_rfl) hF (by kernel_rfl) ?_
 refine SeqK.pures (k' := 2) [.slice ad13 P.length cap14,.slice ad16 P.length cap17] (by kernel_rfl) rfl ?_
 refine SeqK.calm (k' := 3) (v := .bool true) (Does.call (f := 20) (args := #[.slice ad13 P.length cap14,.slice ad16 P.length cap17]) (by kernel_rfl) (hsame_eq _ (P) _ _ _ _ (P.length) (HR.of own_p h32P) (HR.of own_q h32P) (by omega))) rfl ?_
 refine SeqK.pures (k' := 4) [.bool true] (by kernel_rfl) rfl ?_
 refine SeqK.done [1,5,6,7,8,9,10,11,12,13,14,15,16] (L := [(1,.int .i64 mi),(5,.bool true),(6,.slice ad2 l.length cap3),(7,.slice ad10 l.length cap11),(8,.slice ad13 P.length cap14),(9,.int .i64 eP),(10,.slice ad16 P.length cap17),(11,.int .i64 eP),(12,.slice ad19 Q.length cap20),(13,.int .i64 eQ),(14,.slice ad22 Q.length cap23),(15,.int .i64 eQ),(16,.bool true)]) (by kernel_rfl) (by kernel_rfl) ?_
 clear hF; clear a; intro a hF
 show C Tryd.prog (sub b4 [1,1,1,1,1,1,1,1,1]) _ a h24
 refine C.seq [1,1,1,1,1,1,1,1,1,0] [1,1,1,1,1,1,1,1,1,1] (by kernel_rfl) ?_
 refine C.plain 9 (by kernel_rfl) hF (by kernel_rfl) ?_
 refine SeqK.pures (k' := 2) [.slice ad19 Q.length cap20,.slice ad22 Q.length cap23] (by kernel_rfl) rfl ?_
 refine SeqK.calm (k' := 3) (v := .bool true) (Does.call (f := 20) (args := #[.slice ad19 Q.length cap20,.slice ad22 Q.length cap23]) (by kernel_rfl) (hsame_eq _ (Q) _ _ _ _ (Q.length) (HR.of own_r h32Q) (HR.of own_s h32Q) (by omega))) rfl ?_
 refine SeqK.pures (k' := 4) [.bool true] (by kernel_rfl) rfl ?_
 refine SeqK.done [1,5,6,7,8,9,10,11,12,13,15,16,17] (L := [(1,.int .i64 mi),(5,.bool true),(6,.slice ad2 l.length cap3),(7,.slice ad10 l.length cap11),(8,.slice ad13 P.length cap14),(9,.int .i64 eP),(10,.slice ad16 P.length cap17),(11,.int .i64 eP),(12,.slice ad19 Q.length cap20),(13,.int .i64 eQ),(15,.int .i64 eQ),(16,.bool true),(17,.bool true)]) (by kernel_rfl) (by kernel_rfl) ?_
 clear hF; clear a; intro a hF
 show C Tryd.prog (sub b4 [1,1,1,1,1,1,1,1,1,1]) _ a h24
 refine C.seq [1,1,1,1,1,1,1,1,1,1,0] [1,1,1,1,1,1,1,1,1,1,1] (by kernel_rfl) ?_
 refine C.seq [1,1,1,1,1,1,1,1,1,1,0,0] [1,1,1,1,1,1,1,1,1,1,0,1] (by kernel_rfl) ?_
 refine C.plain 10 (by kernel_rfl) hF (by kernel_rfl) ?_
 refine SeqK.pures (k' := 1) [.int .i64 0] (by kernel_rfl) rfl ?_
 refine SeqK.done [1,5,6,7,8,9,10,11,12,13,15,16,17,18] (L := [(1,.int .i64 mi),(5,.bool true),(6,.slice ad2 l.length cap3),(7,.slice ad10 l.length cap11),(8,.slice ad13 P.length cap14),(9,.int .i64 eP),(10,.slice ad16 P.length cap17),(11,.int .i64 eP),(12,.slice ad19 Q.length cap20),(13,.int .i64 eQ),(15,.int .i64 eQ),(16,.bool true),(17,.bool true),(18,.int .i64 0)]) (by kernel_rfl) (by kernel_rfl) ?_
 clear hF; clear a; intro a hF
 show C Tryd.prog (sub b4 [1,1,1,1,1,1,1,1,1,1,0,1]) _ a h24
 refine C.block 0 [1,1,1,1,1,1,1,1,1,1,0,1,0] (by kernel_rfl) ?_
 refine C.loop (fun m a h' => ∃ k : Nat,∃ Lx : List Hs,∃ ax : Option Addr,∃ cx : Nat,m = P.length - k ∧ (Ext h h') ∧ (Ktab h') ∧ (All32 Lx ∧ Lx.length = P.length) ∧ (Own h' (.slice ax P.length cx) 27 P.length 32 (hcs Lx)) ∧ (Own h' (.slice ad2 l.length cap3) 27 l.length 32 (hcs (lvs l l.length))) ∧ (Own h' (.slice ad10 l.length cap11) 27 l.length 32 (hcs (lvs l l.length))) ∧ (Own h' (.slice ad16 P.length cap17) 27 P.length 32 (hcs P)) ∧ (Own h' (.slice ad22 Q.length cap23) 27 Q.length 32 (hcs Q)) ∧ (Own h' (.slice ad19 Q.length cap20) 27 Q.length 32 (hcs Q)) ∧ (Sep h.size h'.size [ad22.map (·.block),ad19.map (·.block),ad16.map (·.block),ax.map (·.block),ad10.map (·.block),ad2.map (·.block)]) ∧ (Fr a 113 [(1,.int .i64 mi),(5,.bool true),(6,.slice ad2 l.length cap3),(7,.slice ad10 l.length cap11),(8,.slice ax P.length cx),(9,.int .i64 eP),(10,.slice ad16 P.length cap17),(11,.int .i64 eP),(12,.slice ad19 Q.length cap20),(13,.int .i64 eQ),(15,.int .i64 eQ),(16,.bool true),(17,.bool true),(18,.int .i64 ((k : Nat) : Int))])) (P.length - 0) [1,1,1,1,1,1,1,1,1,1,0,1,0,0] (by kernel_rfl) ⟨0,P,ad13,cap14,rfl,e0,kt,⟨h32P,rfl⟩,own_p,own_hl,own_w,own_q,own_s,own_r,sep,hF⟩ ?_
 clear hF a
 clear e0
 clear kt
 clear own_p
 clear own_hl
 clear own_w
 clear own_q
 clear own_s
 clear own_r
 clear sep
 rintro m a h25 ⟨k,Lx,ax,cx,rfl,e0,kt,hxl,own_p,own_hl,own_w,own_q,own_s,own_r,sep,hF⟩
 refine C.seq [1,1,1,1,1,1,1,1,1,1,0,1,0,0,0] [1,1,1,1,1,1,1,1,1,1,0,1,0,0,1] (by kernel_rfl) ?_
 refine C.seq [1,1,1,1,1,1,1,1,1,1,0,1,0,0,0,0] [1,1,1,1,1,1,1,1,1,1,0,1,0,0,0,1] (by kernel_rfl) ?_
 refine C.plain 11 (by kernel_rfl) hF (by kernel_rfl) ?_
 refine SeqK.pures (k' := 4) [.int .i64 ((k : Nat) : Int),.slice ax P.length cx,.int .i64 ((P.length : Nat) : Int),.bool (decide (((k : Nat) : Int) < ((P.length : Nat) : Int)))] (by kernel_rfl) rfl ?_
 refine SeqK.done [1,5,6,7,8,9,10,11,12,13,15,16,17,18,61] (L := [(1,.int .i64 mi),(5,.bool true),(6,.slice ad2 l.length cap3),(7,.slice ad10 l.length cap11),(8,.slice ax P.length cx),(9,.int .i64 eP),(10,.slice ad16 P.length cap17),(11,.int .i64 eP),(12,.slice ad19 Q.length cap20),(13,.int .i64 eQ),(15,.int .i64 eQ),(16,.bool true),(17,.bool true),(18,.int .i64 ((k : Nat) : Int)),(61,.bool (decide (((k : Nat) : Int) < ((P.length : Nat) : Int))))]) (by kernel_rfl) (by kernel_rfl) ?_
 clear hF; clear a; intro a hF
 show C Tryd.prog (sub b4 [1,1,1,1,1,1,1,1,1,1,0,1,0,0,0,1]) _ a h25
 refine C.condS 61 (decide (((k : Nat) : Int) < ((P.length : Nat) : Int))) [1,1,1,1,1,1,1,1,1,1,0,1,0,0,0,1,0] [1,1,1,1,1,1,1,1,1,1,0,1,0,0,0,1,1] (by kernel_rfl) hF (fun _ => rfl) (fun hc26 => ?_) (fun hc26 => ?_)
 ·skip
  replace hc26 := of_decide_eq_true hc26
  have hxl2 := hxl.2
  obtain ⟨az,rfl,_⟩ := own_p.someA (by omega)
  refine C.skip (by kernel_rfl) ?_
  show C Tryd.prog (sub b4 [1,1,1,1,1,1,1,1,1,1,0,1,0,0,1]) _ a h25
  refine C.seq [1,1,1,1,1,1,1,1,1,1,0,1,0,0,1,0] [1,1,1,1,1,1,1,1,1,1,0,1,0,0,1,1] (by kernel_rfl) ?_
  refine C.block 1 [1,1,1,1,1,1,1,1,1,1,0,1,0,0,1,0,0] (by kernel_rfl) ?_
  refine C.plain 13 (by kernel_rfl) hF (by kernel_rfl) ?_
  refine SeqK.pures (k' := 3) [.slice (some az) P.length cx,.int .i64 ((k : Nat) : Int),.agg #[.int .u8 0,.int .u8 0,.int .u8 0,.int .u8 0,.int .u8 0,.int .u8 0,.int .u8 0,.int .u8 0,.int .u8 0,.int .u8 0,.int .u8 0,.int .u8 0,.int .u8 0,.int .u8 0,.int .u8 0,.int .u8 0,.int .u8 0,.int .u8 0,.int .u8 0,.int .u8 0,.int .u8 0,.int .u8 0,.int .u8 0,.int .u8 0,.int .u8 0,.int .u8 0,.int .u8 0,.int .u8 0,.int .u8 0,.int .u8 0,.int .u8 0,.int .u8 0]] (by kernel_rfl) rfl ?_
  refine SeqK.calm (k' := 4) (v := .pointer (some (Addr.add az (k * 32)))) ((Calm.indexA (a := az) (len := P.length) (sz := 32) (k := ((k : Nat) : Int)) k (k * 32) (by kernel_rfl) rfl (by omega) (by omega)) _) rfl ?_
  refine SeqK.eff (k' := 5) (Does.storeOwn (a := az) (q := k * 32) (vs := z32.map bv) (storeOp_of (by kernel_rfl) (hlm rfl)) own_p (by rw [hlm rfl]; omega) (ones_map _)) rfl ?_
  rintro _ h27 ⟨rfl,ownx,g⟩
  replace e0 := e0.grew g (sep.low 3 rfl)
  replace kt := kt.grew g (sep.zero 3 rfl h0s)
  replace own_hl := own_hl.kept g (by rw [blkOf_slice]; exact (sep.ap 5 3 rfl rfl (by decide)))
  replace own_w := own_w.kept g (by rw [blkOf_slice]; exact (sep.ap 4 3 rfl rfl (by decide)))
  replace own_q := own_q.kept g (by rw [blkOf_slice]; exact (sep.ap 2 3 rfl rfl (by decide)))
  replace own_s := own_s.kept g (by rw [blkOf_slice]; exact (sep.ap 0 3 rfl rfl (by decide)))
  replace own_r := own_r.kept g (by rw [blkOf_slice]; exact (sep.ap 1 3 rfl rfl (by decide)))
  replace sep := sep.up g.size
  rw [hcs_set hxl.1 (k := k) (by omega) rfl] at ownx
  clear own_p; have own_p := ownx; clear ownx g
  refine SeqK.done [1,5,6,7,8,9,10,11,12,13,15,16,17,18] (L := [(1,.int .i64 mi),(5,.bool true),(6,.slice ad2 l.length cap3),(7,.slice ad10 l.length cap11),(8,.slice (some az) P.length cx),(9,.int .i64 eP),(10,.slice ad16 P.length cap17),(11,.int .i64 eP),(12,.slice ad19 Q.length cap20),(13,.int .i64 eQ),(15,.int .i64 eQ),(16,.bool true),(17,.bool true),(18,.int .i64 ((k : Nat) : Int))]) (by kernel_rfl) (by kernel_rfl) ?_
  clear hF; clear a; intro a hF
  show C Tryd.prog (sub b4 [1,1,1,1,1,1,1,1,1,1,0,1,0,0,1,1]) _ a h27
  refine C.plain 12 (by kernel_rfl) hF (by kernel_rfl) ?_
  refine SeqK.pures (k' := 1) [.int .i64 ((k : Nat) : Int)] (by kernel_rfl) rfl ?_
  refine SeqK.pure1 (k' := 2) (v := .int .i64 ((k + 1 : Nat) : Int)) (v' := .int .i64 (IntKind.i64.wrap (((k : Nat) : Int) + 1))) (by kernel_rfl) (congrArg (Value.int .i64) (w64' (by omega) (by omega) (by omega))) rfl ?_
  refine SeqK.pures (k' := 3) [.int .i64 ((k + 1 : Nat) : Int)] (by kernel_rfl) rfl ?_
  refine SeqK.done [1,5,6,7,8,9,10,11,12,13,15,16,17,18] (L := [(1,.int .i64 mi),(5,.bool true),(6,.slice ad2 l.length cap3),(7,.slice ad10 l.length cap11),(8,.slice (some az) P.length cx),(9,.int .i64 eP),(10,.slice ad16 P.length cap17),(11,.int .i64 eP),(12,.slice ad19 Q.length cap20),(13,.int .i64 eQ),(15,.int .i64 eQ),(16,.bool true),(17,.bool true),(18,.int .i64 ((k + 1 : Nat) : Int))]) (by kernel_rfl) (by kernel_rfl) ?_
  clear hF; clear a; intro a hF
  show ∃ m',m' < _ ∧ _
  refine ⟨_,?_,(k + 1),(Lx.set k z32),(some az),cx,rfl,e0,kt,⟨hxl.1.set (x := z32) rfl,by rw [List.length_set]; exact hxl.2⟩,own_p,own_hl,own_w,own_q,own_s,own_r,sep,hF⟩
  omega
 ·skip
  replace hc26 := of_decide_eq_false hc26
  clear own_p hxl
  replace sep := sep.sub (l' := [ad22.map (·.block),ad19.map (·.block),ad16.map (·.block),ad10.map (·.block),ad2.map (·.block)]) (.cons_cons _ (.cons_cons _ (.cons_cons _ (.cons _ (.cons_cons _ (.cons_cons _ (.slnil)))))))
  refine C.exit 0 (by kernel_rfl) ?_
  show C Tryd.prog (sub b4 [1,1,1,1,1,1,1,1,1,1,1]) _ a h25
  refine C.seq [1,1,1,1,1,1,1,1,1,1,1,0] [1,1,1,1,1,1,1,1,1,1,1,1] (by kernel_rfl) ?_
  refine C.seq [1,1,1,1,1,1,1,1,1,1,1,0,0] [1,1,1,1,1,1,1,1,1,1,1,0,1] (by kernel_rfl) ?_
  refine C.plain 14 (by kernel_rfl) hF (by kernel_rfl) ?_
  refine SeqK.pures (k' := 1) [.int .i64 0] (by kernel_rfl) rfl ?_
  refine SeqK.done [1,5,6,7,9,10,11,12,13,15,16,17,19] (L := [(1,.int .i64 mi),(5,.bool true),(6,.slice ad2 l.length cap3),(7,.slice ad10 l.length cap11),(9,.int .i64 eP),(10,.slice ad16 P.length cap17),(11,.int .i64 eP),(12,.slice ad19 Q.length cap20),(13,.int .i64 eQ),(15,.int .i64 eQ),(16,.bool true),(17,.bool true),(19,.int .i64 0)]) (by kernel_rfl) (by kernel_rfl) ?_
  clear hF; clear a; intro a hF
  show C Tryd.prog (sub b4 [1,1,1,1,1,1,1,1,1,1,1,0,1]) _ a h25
  refine C.block 2 [1,1,1,1,1,1,1,1,1,1,1,0,1,0] (by kernel_rfl) ?_
  refine C.loop (fun m a h' => ∃ k : Nat,∃ Lx : List Hs,∃ ax : Option Addr,∃ cx : Nat,m = Q.length - k ∧ (Ext h h') ∧ (Ktab h') ∧ (All32 Lx ∧ Lx.length = Q.length) ∧ (Own h' (.slice ax Q.length cx) 27 Q.length 32 (hcs Lx)) ∧ (Own h' (.slice ad2 l.length cap3) 27 l.length 32 (hcs (lvs l l.length))) ∧ (Own h' (.slice ad10 l.length cap11) 27 l.length 32 (hcs (lvs l l.length))) ∧ (Own h' (.slice ad16 P.length cap17) 27 P.length 32 (hcs P)) ∧ (Own h' (.slice ad22 Q.length cap23) 27 Q.length 32 (hcs Q)) ∧ (Sep h.size h'.size [ad22.map (·.block),ax.map (·.block),ad16.map (·.block),ad10.map (·.block),ad2.map (·.block)]) ∧ (Fr a 113 [(1,.int .i64 mi),(5,.bool true),(6,.slice ad2 l.length cap3),(7,.slice ad10 l.length cap11),(9,.int .i64 eP),(10,.slice ad16 P.length cap17),(11,.int .i64 eP),(12,.slice ax Q.length cx),(13,.int .i64 eQ),(15,.int .i64 eQ),(16,.bool true),(17,.bool true),(19,.int .i64 ((k : Nat) : Int))])) (Q.length - 0) [1,1,1,1,1,1,1,1,1,1,1,0,1,0,0] (by kernel_rfl) ⟨0,Q,ad19,cap20,rfl,e0,kt,⟨h32Q,rfl⟩,own_r,own_hl,own_w,own_q,own_s,sep,hF⟩ ?_
  clear hF a
  clear e0
  clear kt
  clear own_r
  clear own_hl
  clear own_w
  clear own_q
  clear own_s
  clear sep
  rintro m a h28 ⟨k,Lx,ax,cx,rfl,e0,kt,hxl,own_r,own_hl,own_w,own_q,own_s,sep,hF⟩
  refine C.seq [1,1,1,1,1,1,1,1,1,1,1,0,1,0,0,0] [1,1,1,1,1,1,1,1,1,1,1,0,1,0,0,1] (by kernel_rfl) ?_
  refine C.seq [1,1,1,1,1,1,1,1,1,1,1,0,1,0,0,0,0] [1,1,1,1,1,1,1,1,1,1,1,0,1,0,0,0,1] (by kernel_rfl) ?_
  refine C.plain 15 (by kernel_rfl) hF (by kernel_rfl) ?_
  refine SeqK.pures (k' := 4) [.int .i64 ((k : Nat) : Int),.slice ax Q.length cx,.int .i64 ((Q.length : Nat) : Int),.bool (decide (((k : Nat) : Int) < ((Q.length : Nat) : Int)))] (by kernel_rfl) rfl ?_
  refine SeqK.done [1,5,6,7,9,10,11,12,13,15,16,17,19,71] (L := [(1,.int .i64 mi),(5,.bool true),(6,.slice ad2 l.length cap3),(7,.slice ad10 l.length cap11),(9,.int .i64 eP),(10,.slice ad16 P.length cap17),(11,.int .i64 eP),(12,.slice ax Q.length cx),(13,.int .i64 eQ),(15,.int .i64 eQ),(16,.bool true),(17,.bool true),(19,.int .i64 ((k : Nat) : Int)),(71,.bool (decide (((k : Nat) : Int) < ((Q.length : Nat) : Int))))]) (by kernel_rfl) (by kernel_rfl) ?_
  clear hF; clear a; intro a hF
  show C Tryd.prog (sub b4 [1,1,1,1,1,1,1,1,1,1,1,0,1,0,0,0,1]) _ a h28
  refine C.condS 71 (decide (((k : Nat) : Int) < ((Q.length : Nat) : Int))) [1,1,1,1,1,1,1,1,1,1,1,0,1,0,0,0,1,0] [1,1,1,1,1,1,1,1,1,1,1,0,1,0,0,0,1,1] (by kernel_rfl) hF (fun _ => rfl) (fun hc29 => ?_) (fun hc29 => ?_)
  ·skip
   replace hc29 := of_decide_eq_true hc29
   have hxl2 := hxl.2
   obtain ⟨az,rfl,_⟩ := own_r.someA (by omega)
   refine C.skip (by kernel_rfl) ?_
   show C Tryd.prog (sub b4 [1,1,1,1,1,1,1,1,1,1,1,0,1,0,0,1]) _ a h28
   refine C.seq [1,1,1,1,1,1,1,1,1,1,1,0,1,0,0,1,0] [1,1,1,1,1,1,1,1,1,1,1,0,1,0,0,1,1] (by kernel_rfl) ?_
   refine C.block 3 [1,1,1,1,1,1,1,1,1,1,1,0,1,0,0,1,0,0] (by kernel_rfl) ?_
   refine C.plain 17 (by kernel_rfl) hF (by kernel_rfl) ?_
   refine SeqK.pures (k' := 3) [.slice (some az) Q.length cx,.int .i64 ((k : Nat) : Int),.agg #[.int .u8 0,.int .u8 0,.int .u8 0,.int .u8 0,.int .u8 0,.int .u8 0,.int .u8 0,.int .u8 0,.int .u8 0,.int .u8 0,.int .u8 0,.int .u8 0,.int .u8 0,.int .u8 0,.int .u8 0,.int .u8 0,.int .u8 0,.int .u8 0,.int .u8 0,.int .u8 0,.int .u8 0,.int .u8 0,.int .u8 0,.int .u8 0,.int .u8 0,.int .u8 0,.int .u8 0,.int .u8 0,.int .u8 0,.int .u8 0,.int .u8 0,.int .u8 0]] (by kernel_rfl) rfl ?_
   refine SeqK.calm (k' := 4) (v := .pointer (some (Addr.add az (k * 32)))) ((Calm.indexA (a := az) (len := Q.length) (sz := 32) (k := ((k : Nat) : Int)) k (k * 32) (by kernel_rfl) rfl (by omega) (by omega)) _) rfl ?_
   refine SeqK.eff (k' := 5) (Does.storeOwn (a := az) (q := k * 32) (vs := z32.map bv) (storeOp_of (by kernel_rfl) (hlm rfl)) own_r (by rw [hlm rfl]; omega) (ones_map _)) rfl ?_
   rintro _ h30 ⟨rfl,ownx,g⟩
   replace e0 := e0.grew g (sep.low 1 rfl)
   replace kt := kt.grew g (sep.zero 1 rfl h0s)
   replace own_hl := own_hl.kept g (by rw [blkOf_slice]; exact (sep.ap 4 1 rfl rfl (by decide)))
   replace own_w := own_w.kept g (by rw [blkOf_slice]; exact (sep.ap 3 1 rfl rfl (by decide)))
   replace own_q := own_q.kept g (by rw [blkOf_slice]; exact (sep.ap 2 1 rfl rfl (by decide)))
   replace own_s := own_s.kept g (by rw [blkOf_slice]; exact (sep.ap 0 1 rfl rfl (by decide)))
   replace sep := sep.up g.size
   rw [hcs_set hxl.1 (k := k) (by omega) rfl] at ownx
   clear own_r; have own_r := ownx; clear ownx g
   refine SeqK.done [1,5,6,7,9,10,11,12,13,15,16,17,19] (L := [(1,.int .i64 mi),(5,.bool true),(6,.slice ad2 l.length cap3),(7,.slice ad10 l.length cap11),(9,.int .i64 eP),(10,.slice ad16 P.length cap17),(11,.int .i64 eP),(12,.slice (some az) Q.length cx),(13,.int .i64 eQ),(15,.int .i64 eQ),(16,.bool true),(17,.bool true),(19,.int .i64 ((k : Nat) : Int))]) (by kernel_rfl) (by kernel_rfl) ?_
   clear hF; clear a; intro a hF
   show C Tryd.prog (sub b4 [1,1,1,1,1,1,1,1,1,1,1,0,1,0,0,1,1]) _ a h30
   refine C.plain 16 (by kernel_rfl) hF (by kernel_rfl) ?_
   refine SeqK.pures (k' := 1) [.int .i64 ((k : Nat) : Int)] (by kernel_rfl) rfl ?_
   refine SeqK.pure1 (k' := 2) (v := .int .i64 ((k + 1 : Nat) : Int)) (v' := .int .i64 (IntKind.i64.wrap (((k : Nat) : Int) + 1))) (by kernel_rfl) (congrArg (Value.int .i64) (w64' (by omega) (by omega) (by omega))) rfl ?_
   refine SeqK.pures (k' := 3) [.int .i64 ((k + 1 : Nat) : Int)] (by kernel_rfl) rfl ?_
   refine SeqK.done [1,5,6,7,9,10,11,12,13,15,16,17,19] (L := [(1,.int .i64 mi),(5,.bool true),(6,.slice ad2 l.length cap3),(7,.slice ad10 l.length cap11),(9,.int .i64 eP),(10,.slice ad16 P.length cap17),(11,.int .i64 eP),(12,.slice (some az) Q.length cx),(13,.int .i64 eQ),(15,.int .i64 eQ),(16,.bool true),(17,.bool true),(19,.int .i64 ((k + 1 : Nat) : Int))]) (by kernel_rfl) (by kernel_rfl) ?_
   clear hF; clear a; intro a hF
   show ∃ m',m' < _ ∧ _
   refine ⟨_,?_,(k + 1),(Lx.set k z32),(some az),cx,rfl,e0,kt,⟨hxl.1.set (x := z32) rfl,by rw [List.length_set]; exact hxl.2⟩,own_r,own_hl,own_w,own_q,own_s,sep,hF⟩
   omega
  ·skip
   replace hc29 := of_decide_eq_false hc29
   clear own_r hxl
   replace sep := sep.sub (l' := [ad22.map (·.block),ad16.map (·.block),ad10.map (·.block),ad2.map (·.block)]) (.cons_cons _ (.cons _ (.cons_cons _ (.cons_cons _ (.cons_cons _ (.slnil))))))
   refine C.exit 2 (by kernel_rfl) ?_
   show C Tryd.prog (sub b4 [1,1,1,1,1,1,1,1,1,1,1,1]) _ a h28
   refine C.seq [1,1,1,1,1,1,1,1,1,1,1,1,0] [1,1,1,1,1,1,1,1,1,1,1,1,1] (by kernel_rfl) ?_
   refine C.plain 18 (by kernel_rfl) hF (by kernel_rfl) ?_
   refine SeqK.pures (k' := 2) [.slice ad10 l.length cap11,.slice ad2 l.length cap3] (by kernel_rfl) rfl ?_
   refine SeqK.calm (k' := 3) (v := .bool true) (Does.call (f := 20) (args := #[.slice ad10 l.length cap11,.slice ad2 l.length cap3]) (by kernel_rfl) (hsame_eq _ (lvs l l.length) _ _ _ _ (l.length) (HR.of own_w (lvs_32 _ _)) (HR.of own_hl (lvs_32 _ _)) (by omega))) rfl ?_
   refine SeqK.pures (k' := 4) [.bool true] (by kernel_rfl) rfl ?_
   refine SeqK.done [1,5,7,9,10,11,13,15,16,17,20] (L := [(1,.int .i64 mi),(5,.bool true),(7,.slice ad10 l.length cap11),(9,.int .i64 eP),(10,.slice ad16 P.length cap17),(11,.int .i64 eP),(13,.int .i64 eQ),(15,.int .i64 eQ),(16,.bool true),(17,.bool true),(20,.bool true)]) (by kernel_rfl) (by kernel_rfl) ?_
   clear hF; clear a; intro a hF
   show C Tryd.prog (sub b4 [1,1,1,1,1,1,1,1,1,1,1,1,1]) _ a h28
   refine C.seq [1,1,1,1,1,1,1,1,1,1,1,1,1,0] [1,1,1,1,1,1,1,1,1,1,1,1,1,1] (by kernel_rfl) ?_
   refine C.plain 19 (by kernel_rfl) hF (by kernel_rfl) ?_
   refine SeqK.pures (k' := 2) [.slice ad10 l.length cap11,.int .i64 mi] (by kernel_rfl) rfl ?_
   refine SeqK.eff (k' := 3) (Does.call (f := 16) (args := #[.slice ad10 l.length cap11,.int .i64 mi]) (by kernel_rfl) (tincl_at _ (lvs l l.length) _ _ l.length (HR.of own_w (lvs_32 _ _)) (by omega) mi kt _ _ hP)) rfl ?_
   rintro _ h33 ⟨_,rfl,ad31,cap32,rfl,ownx,hge,g⟩
   have hlo := e0.size
   have sepo := sep
   replace e0 := e0.ext g
   replace kt := kt.ext g
   replace own_hl := own_hl.ext g
   replace own_w := own_w.ext g
   replace own_q := own_q.ext g
   replace own_s := own_s.ext g
   replace sep := sep.up g.size
   replace sep := sepo.cons (x := ad31.map (fun (x : Addr) => x.block)) g.size hlo (fun k e => ⟨hge k e,ownx.lt (by rw [blkOf_slice]; exact e)⟩)
   have own_p : Own h33 (.slice ad31 P.length cap32) 27 P.length 32 (hcs P) := ownx; clear ownx sepo hlo hge g
   refine SeqK.pures (k' := 7) [.tuple #[.slice ad31 P.length cap32,.int .i64 eP],.slice ad31 P.length cap32,.int .i64 eP,.slice ad31 P.length cap32] (by kernel_rfl) rfl ?_
   refine SeqK.done [5,8,9,10,11,13,15,16,17,20] (L := [(5,.bool true),(8,.slice ad31 P.length cap32),(9,.int .i64 eP),(10,.slice ad16 P.length cap17),(11,.int .i64 eP),(13,.int .i64 eQ),(15,.int .i64 eQ),(16,.bool true),(17,.bool true),(20,.bool true)]) (by kernel_rfl) (by kernel_rfl) ?_
   clear hF; clear a; intro a hF
   show C Tryd.prog (sub b4 [1,1,1,1,1,1,1,1,1,1,1,1,1,1]) _ a h33
   refine C.seq [1,1,1,1,1,1,1,1,1,1,1,1,1,1,0] [1,1,1,1,1,1,1,1,1,1,1,1,1,1,1] (by kernel_rfl) ?_
   refine C.plain 20 (by kernel_rfl) hF (by kernel_rfl) ?_
   refine SeqK.pures (k' := 2) [.slice ad31 P.length cap32,.slice ad16 P.length cap17] (by kernel_rfl) rfl ?_
   refine SeqK.calm (k' := 3) (v := .bool true) (Does.call (f := 20) (args := #[.slice ad31 P.length cap32,.slice ad16 P.length cap17]) (by kernel_rfl) (hsame_eq _ (P) _ _ _ _ (P.length) (HR.of own_p h32P) (HR.of own_q h32P) (by omega))) rfl ?_
   refine SeqK.pures (k' := 4) [.bool true] (by kernel_rfl) rfl ?_
   refine SeqK.done [5,9,11,13,15,16,17,20,21] (L := [(5,.bool true),(9,.int .i64 eP),(11,.int .i64 eP),(13,.int .i64 eQ),(15,.int .i64 eQ),(16,.bool true),(17,.bool true),(20,.bool true),(21,.bool true)]) (by kernel_rfl) (by kernel_rfl) ?_
   clear hF; clear a; intro a hF
   show C Tryd.prog (sub b4 [1,1,1,1,1,1,1,1,1,1,1,1,1,1,1]) _ a h33
   refine C.seq [1,1,1,1,1,1,1,1,1,1,1,1,1,1,1,0] [1,1,1,1,1,1,1,1,1,1,1,1,1,1,1,1] (by kernel_rfl) ?_
   refine C.plain 21 (by kernel_rfl) hF (by kernel_rfl) ?_
   refine SeqK.pures (k' := 16) [.bool true,.bool true,.bool true,.bool true,.bool true,.bool true,.bool true,.bool true,.bool true,.bool true,.bool true,.bool true,.bool true,.bool true,.int .i64 eP,.int .i64 eP] (by kernel_rfl) rfl ?_
   refine SeqK.pure1 (k' := 17) (v := .bool true) (v' := .bool (eP == eP)) (by kernel_rfl) (congrArg Value.bool (beq_iff_eq.2 (by omega))) rfl ?_
   refine SeqK.pures (k' := 21) [.bool true,.bool true,.int .i64 eQ,.int .i64 eQ] (by kernel_rfl) rfl ?_
   refine SeqK.pure1 (k' := 22) (v := .bool true) (v' := .bool (eQ == eQ)) (by kernel_rfl) (congrArg Value.bool (beq_iff_eq.2 (by omega))) rfl ?_
   refine SeqK.pures (k' := 24) [.bool true,.bool true] (by kernel_rfl) rfl ?_
   refine SeqK.done [4] (L := [(4,.bool true)]) (by kernel_rfl) (by kernel_rfl) ?_
   clear hF; clear a; intro a hF
   show C Tryd.prog (sub b4 [1,1,1,1,1,1,1,1,1,1,1,1,1,1,1,1]) _ a h33
   refine C.ret (by kernel_rfl) ?_
   show retK Tryd.prog Tryd.f4 (fun v h' => v = .bool true ∧ Ext h h') .ret a h33
   refine ret_ok [.tmp 4] [.bool true] (.bool true) rfl hF ⟨rfl,trivial⟩ rfl ?_
   exact ⟨rfl,e0⟩
end Go.Proofs.YtfompolnofgldaaDoor
