/- Walks of the laws of the trees: what each function computes, as a law of its calls. No condition but those that each theorem names. -/
import Derived.Test.YtfompolnofgldaaDoorLaw05D
namespace Go.Proofs.YtfompolnofgldaaDoor
open Go Go.Lane Go.Sha
noncomputable def b6 : Code := Tryd.f6.body.getD .skip
set_option maxHeartbeats 1000000 in
theorem parts_sat (h : Heap) (l : List UInt8) (va : Option Addr) (vc : Nat) (hr : Row h (.slice va l.length vc) l.length 1 (l.map bv)) (hn : l.length ≤ 1048576) (kt : Ktab h) : Sat Tryd.prog 6 #[.slice va l.length vc] h fun v h' => v = .bool true ∧ Ext h h' := by
 have e0 := Ext.refl h
 have h0s := kt.lt
 have sep : Sep h.size h.size [] := Sep.nil _ _
 refine sat_of (args := [.slice va l.length vc]) (fn := Tryd.f6) (B := b6) (n := 72) (L := [(0,.slice va l.length vc)]) Tryd.func6 rfl (by kernel_rfl) rfl ?_
 intro a hF
 refine C.seq [0] [1] (by kernel_rfl) ?_
 refine C.plain 0 (by kernel_rfl) hF (by kernel_rfl) ?_
 refine SeqK.pures (k' := 1) [.bool false] (by kernel_rfl) rfl ?_
 refine SeqK.done [0] (L := [(0,.slice va l.length vc)]) (by kernel_rfl) (by kernel_rfl) ?_
 clear hF; clear a; intro a hF
 show C Tryd.prog (sub b6 [1]) _ a h
 refine C.seq [1,0] [1,1] (by kernel_rfl) ?_
 refine C.plain 1 (by kernel_rfl) hF (by kernel_rfl) ?_
 refine SeqK.eff (k' := 1) (Does.call (f := 8) (args := #[]) (by kernel_rfl) (shown5_sat _ kt)) rfl ?_
 rintro _ h1 ⟨rfl,g⟩
 replace e0 := e0.ext g
 replace kt := kt.ext g
 replace sep := sep.up g.size
 clear g
 refine SeqK.pures (k' := 2) [.bool true] (by kernel_rfl) rfl ?_
 refine SeqK.done [0,3] (L := [(0,.slice va l.length vc),(3,.bool true)]) (by kernel_rfl) (by kernel_rfl) ?_
 clear hF; clear a; intro a hF
 show C Tryd.prog (sub b6 [1,1]) _ a h1
 refine C.seq [1,1,0] [1,1,1] (by kernel_rfl) ?_
 refine C.plain 2 (by kernel_rfl) hF (by kernel_rfl) ?_
 refine SeqK.pures (k' := 1) [.slice va l.length vc] (by kernel_rfl) rfl ?_
 refine SeqK.eff (k' := 2) (Does.call (f := 9) (args := #[.slice va l.length vc]) (by kernel_rfl) (leaves_n _ l va vc (hr.ext e0) (by omega))) rfl ?_
 rintro _ h4 ⟨ad2,cap3,rfl,ownx,hge,g⟩
 have hlo := e0.size
 have sepo := sep
 replace e0 := e0.ext g
 replace kt := kt.ext g
 replace sep := sep.up g.size
 replace sep := sepo.cons (x := ad2.map (fun (x : Addr) => x.block)) g.size hlo (fun k e => ⟨hge k e,ownx.lt (by rw [blkOf_slice]; exact e)⟩)
 have own_hl : Own h4 (.slice ad2 l.length cap3) 27 l.length 32 (hcs (lvs l l.length)) := ownx; clear ownx sepo hlo hge g
 refine SeqK.pures (k' := 3) [.slice ad2 l.length cap3] (by kernel_rfl) rfl ?_
 refine SeqK.done [3,4] (L := [(3,.bool true),(4,.slice ad2 l.length cap3)]) (by kernel_rfl) (by kernel_rfl) ?_
 clear hF; clear a; intro a hF
 show C Tryd.prog (sub b6 [1,1,1]) _ a h4
 refine C.seq [1,1,1,0] [1,1,1,1] (by kernel_rfl) ?_
 refine C.seq [1,1,1,0,0] [1,1,1,0,1] (by kernel_rfl) ?_
 rcases Nat.lt_or_ge l.length 2 with hn2 | hn2
 ·skip
  refine C.plain 3 (by kernel_rfl) hF (by kernel_rfl) ?_
  refine SeqK.pures (k' := 5) [.bool true,.bool false,.bool false,.slice ad2 l.length cap3,.int .i64 ((l.length : Nat) : Int)] (by kernel_rfl) rfl ?_
  refine SeqK.pure1 (k' := 6) (v := .bool true) (v' := .bool (decide (((l.length : Nat) : Int) < (2 : Int)))) (by kernel_rfl) (congrArg Value.bool (decide_eq_true (by omega))) rfl ?_
  refine SeqK.pures (k' := 7) [.bool true] (by kernel_rfl) rfl ?_
  refine SeqK.done [3,4,20] (L := [(3,.bool true),(4,.slice ad2 l.length cap3),(20,.bool true)]) (by kernel_rfl) (by kernel_rfl) ?_
  clear hF; clear a; intro a hF
  show C Tryd.prog (sub b6 [1,1,1,0,1]) _ a h4
  refine C.condT 20 [1,1,1,0,1,0] [1,1,1,0,1,1] (by kernel_rfl) hF (fun _ => rfl) ?_
  refine C.seq [1,1,1,0,1,0,0] [1,1,1,0,1,0,1] (by kernel_rfl) ?_
  refine C.plain 4 (by kernel_rfl) hF (by kernel_rfl) ?_
  refine SeqK.pures (k' := 2) [.bool true,.bool true] (by kernel_rfl) rfl ?_
  refine SeqK.done [2] (L := [(2,.bool true)]) (by kernel_rfl) (by kernel_rfl) ?_
  clear hF; clear a; intro a hF
  show C Tryd.prog (sub b6 [1,1,1,0,1,0,1]) _ a h4
  refine C.ret (by kernel_rfl) ?_
  show retK Tryd.prog Tryd.f6 (fun v h' => v = .bool true ∧ Ext h h') .ret a h4
  refine ret_ok [.tmp 2] [.bool true] (.bool true) rfl hF ⟨rfl,trivial⟩ rfl ?_
  exact ⟨rfl,e0⟩
 ·skip
  refine C.plain 3 (by kernel_rfl) hF (by kernel_rfl) ?_
  refine SeqK.pures (k' := 5) [.bool true,.bool false,.bool false,.slice ad2 l.length cap3,.int .i64 ((l.length : Nat) : Int)] (by kernel_rfl) rfl ?_
  refine SeqK.pure1 (k' := 6) (v := .bool false) (v' := .bool (decide (((l.length : Nat) : Int) < (2 : Int)))) (by kernel_rfl) (congrArg Value.bool (decide_eq_false (by omega))) rfl ?_
  refine SeqK.pures (k' := 7) [.bool false] (by kernel_rfl) rfl ?_
  refine SeqK.done [3,4,20] (L := [(3,.bool true),(4,.slice ad2 l.length cap3),(20,.bool false)]) (by kernel_rfl) (by kernel_rfl) ?_
  clear hF; clear a; intro a hF
  show C Tryd.prog (sub b6 [1,1,1,0,1]) _ a h4
  refine C.condF 20 [1,1,1,0,1,0] [1,1,1,0,1,1] (by kernel_rfl) hF (fun _ => rfl) ?_
  refine C.skip (by kernel_rfl) ?_
  show C Tryd.prog (sub b6 [1,1,1,1]) _ a h4
  refine C.seq [1,1,1,1,0] [1,1,1,1,1] (by kernel_rfl) ?_
  refine C.plain 5 (by kernel_rfl) hF (by kernel_rfl) ?_
  refine SeqK.pures (k' := 1) [.int .i64 1] (by kernel_rfl) rfl ?_
  refine SeqK.done [4,5] (L := [(4,.slice ad2 l.length cap3),(5,.int .i64 1)]) (by kernel_rfl) (by kernel_rfl) ?_
  clear hF; clear a; intro a hF
  show C Tryd.prog (sub b6 [1,1,1,1,1]) _ a h4
  refine C.seq [1,1,1,1,1,0] [1,1,1,1,1,1] (by kernel_rfl) ?_
  refine C.block 0 [1,1,1,1,1,0,0] (by kernel_rfl) ?_
  refine C.loop (fun m a h' => ∃ j : Nat,m = l.length - 2 ^ j ∧ (Ext h h') ∧ (Ktab h') ∧ (2 ^ j < l.length) ∧ (Own h' (.slice ad2 l.length cap3) 27 l.length 32 (hcs (lvs l l.length))) ∧ (Sep h.size h'.size [ad2.map (·.block)]) ∧ (Fr a 72 [(4,.slice ad2 l.length cap3),(5,.int .i64 ((2 ^ j : Nat) : Int))])) (l.length - 1) [1,1,1,1,1,0,0,0] (by kernel_rfl) ⟨0,rfl,e0,kt,(by omega),own_hl,sep,hF⟩ ?_
  clear hF a
  clear e0
  clear kt
  clear own_hl
  clear sep
  rintro m a h5 ⟨j,rfl,e0,kt,hj,own_hl,sep,hF⟩
  have hp := Nat.two_pow_pos j
  refine C.seq [1,1,1,1,1,0,0,0,0] [1,1,1,1,1,0,0,0,1] (by kernel_rfl) ?_
  refine C.seq [1,1,1,1,1,0,0,0,0,0] [1,1,1,1,1,0,0,0,0,1] (by kernel_rfl) ?_
  refine C.plain 6 (by kernel_rfl) hF (by kernel_rfl) ?_
  refine SeqK.pures (k' := 1) [.int .i64 ((2 ^ j : Nat) : Int)] (by kernel_rfl) rfl ?_
  refine SeqK.pure1 (k' := 2) (v := .int .i64 ((2 * (2 ^ j) : Nat) : Int)) (v' := .int .i64 (IntKind.i64.wrap (2 * ((2 ^ j : Nat) : Int)))) (by kernel_rfl) (congrArg (Value.int .i64) (w64' (by omega) (by omega) (by omega))) rfl ?_
  refine SeqK.pures (k' := 5) [.slice ad2 l.length cap3,.int .i64 ((l.length : Nat) : Int),.bool (decide (((2 * (2 ^ j) : Nat) : Int) < ((l.length : Nat) : Int)))] (by kernel_rfl) rfl ?_
  refine SeqK.done [4,5,26] (L := [(4,.slice ad2 l.length cap3),(5,.int .i64 ((2 ^ j : Nat) : Int)),(26,.bool (decide (((2 * (2 ^ j) : Nat) : Int) < ((l.length : Nat) : Int))))]) (by kernel_rfl) (by kernel_rfl) ?_
  clear hF; clear a; intro a hF
  show C Tryd.prog (sub b6 [1,1,1,1,1,0,0,0,0,1]) _ a h5
  refine C.condS 26 (decide (((2 * (2 ^ j) : Nat) : Int) < ((l.length : Nat) : Int))) [1,1,1,1,1,0,0,0,0,1,0] [1,1,1,1,1,0,0,0,0,1,1] (by kernel_rfl) hF (fun _ => rfl) (fun hc6 => ?_) (fun hc6 => ?_)
  ·skip
   replace hc6 := of_decide_eq_true hc6
   refine C.skip (by kernel_rfl) ?_
   show C Tryd.prog (sub b6 [1,1,1,1,1,0,0,0,1]) _ a h5
   refine C.block 1 [1,1,1,1,1,0,0,0,1,0] (by kernel_rfl) ?_
   refine C.plain 7 (by kernel_rfl) hF (by kernel_rfl) ?_
   refine SeqK.pures (k' := 1) [.int .i64 ((2 ^ j : Nat) : Int)] (by kernel_rfl) rfl ?_
   refine SeqK.pure1 (k' := 2) (v := .int .i64 ((2 * (2 ^ j) : Nat) : Int)) (v' := .int .i64 (IntKind.i64.wrap (2 * ((2 ^ j : Nat) : Int)))) (by kernel_rfl) (congrArg (Value.int .i64) (w64' (by omega) (by omega) (by omega))) rfl ?_
   refine SeqK.pures (k' := 3) [.int .i64 ((2 * (2 ^ j) : Nat) : Int)] (by kernel_rfl) rfl ?_
   refine SeqK.done [4,5] (L := [(4,.slice ad2 l.length cap3),(5,.int .i64 ((2 * (2 ^ j) : Nat) : Int))]) (by kernel_rfl) (by kernel_rfl) ?_
   clear hF; clear a; intro a hF
   have hk2 : 2 * 2 ^ j = 2 ^ (j + 1) := by rw [Nat.pow_succ,Nat.mul_comm]
   rw [hk2] at hF
   show ∃ m',m' < _ ∧ _
   refine ⟨_,?_,(j + 1),rfl,e0,kt,(by rw [Nat.pow_succ]; omega),own_hl,sep,hF⟩
   omega
  ·skip
   replace hc6 := of_decide_eq_false hc6
   have hk : 2 ^ j = half l.length := (half_eq hj (by omega)).symm
   rw [hk] at hF
   have hhl := half_lt (n := l.length) (by omega)
   have hhp := half_pos l.length
   obtain ⟨ah,rfl,_⟩ := own_hl.someA (by omega)
   have hrl := HR.of own_hl (lvs_32 _ _)
   obtain ⟨ad2,had2⟩ : ∃ x,x = if cap3 = half l.length then (some ah : Option Addr) else (some ah : Option Addr).map (·.add (half l.length * 32)) := ⟨_,rfl⟩
   have hcp := hrl.cap
   refine C.exit 0 (by kernel_rfl) ?_
   show C Tryd.prog (sub b6 [1,1,1,1,1,1]) _ a h5
   refine C.seq [1,1,1,1,1,1,0] [1,1,1,1,1,1,1] (by kernel_rfl) ?_
   refine C.plain 8 (by kernel_rfl) hF (by kernel_rfl) ?_
   refine SeqK.pures (k' := 1) [.slice (some ah) l.length cap3] (by kernel_rfl) rfl ?_
   refine SeqK.eff (k' := 2) (Does.call (f := 12) (args := #[.slice (some ah) l.length cap3]) (by kernel_rfl) (troot_sat _ (lvs l l.length) _ _ (l.length) (HR.of own_hl (lvs_32 _ _)) kt (by omega))) rfl ?_
   rintro _ h7 ⟨rfl,g⟩
   replace e0 := e0.ext g
   replace kt := kt.ext g
   replace own_hl := own_hl.ext g
   replace sep := sep.up g.size
   clear g
   refine SeqK.eff (k' := 3) (Does.new (v := .pointer (some ⟨h7.size,0,none⟩)) (o := .cells (z32.map bv).toArray 27) (by kernel_rfl)) rfl ?_
   rintro _ h8 ⟨rfl,hh⟩
   have g9 : Ext h7 h8 := push_ext hh
   have m10 : h8[h7.size]? = some (.cells (z32.map bv).toArray 27) := push_at hh
   clear hh
   have lt11 := blk_lt m10
   have z12 := e0.size
   have hlo := e0.size
   have sepo := sep
   replace e0 := e0.ext g9
   replace kt := kt.ext g9
   replace own_hl := own_hl.ext g9
   replace sep := sep.up g9.size
   replace sep := sepo.new hlo (blk_lt m10)
   clear sepo hlo
   refine SeqK.eff (k' := 4) (Does.store (b := h7.size) (off := 0) (vs := (root (lvs l l.length)).map bv) (l := z32.map bv) (storeOp_of (by kernel_rfl) (hlm (root_len (lvs_32 _ _)))) m10 (hfit rfl (root_len (lvs_32 _ _))) (ones_map _)) rfl ?_
   rintro _ h13 ⟨rfl,hh⟩
   have g14 : Grew (some (h7.size)) h8 h13 := hput_gr hh
   replace m10 : h13[h7.size]? = some (.cells ((root (lvs l l.length)).map bv).toArray 27) := hput_at (off := 0) (vs := (root (lvs l l.length)).map bv) (l := (z32.map bv)) hh (hsplice rfl (root_len (lvs_32 _ _))) m10
   clear hh
   replace e0 := e0.grew g14 (sep.low 0 rfl)
   replace kt := kt.grew g14 (sep.zero 0 rfl h0s)
   replace own_hl := own_hl.kept g14 (by rw [blkOf_slice]; exact (sep.ap 1 0 rfl rfl (by decide)))
   replace sep := sep.up g14.size
   refine SeqK.done [4,5,6] (L := [(4,.slice (some ah) l.length cap3),(5,.int .i64 ((half l.length : Nat) : Int)),(6,.pointer (some ⟨h7.size,0,none⟩))]) (by kernel_rfl) (by kernel_rfl) ?_
   clear hF; clear a; intro a hF
   show C Tryd.prog (sub b6 [1,1,1,1,1,1,1]) _ a h13
   refine C.seq [1,1,1,1,1,1,1,0] [1,1,1,1,1,1,1,1] (by kernel_rfl) ?_
   refine C.plain 9 (by kernel_rfl) hF (by kernel_rfl) ?_
   refine SeqK.pures (k' := 2) [.slice (some ah) l.length cap3,.int .i64 ((half l.length : Nat) : Int)] (by kernel_rfl) rfl ?_
   refine SeqK.calm (k' := 3) (v := .slice (some ah) (half l.length) cap3) ((fun h => Calm.sliceO (a := (some ah)) (len := l.length) (cap := cap3) (sz := 32) (x := (some ah)) 0 (half l.length) cap3 (half l.length) cap3 (by kernel_rfl) (.inl ⟨rfl,rfl⟩) (.inr rfl) (.inl ⟨rfl,rfl⟩) (by omega) (by omega) (opt_add0 _ 32) (by first | rfl | omega) (by first | rfl | omega) h) _) rfl ?_
   refine SeqK.eff (k' := 4) (Does.call (f := 12) (args := #[.slice (some ah) (half l.length) cap3]) (by kernel_rfl) (troot_sat _ ((lvs l l.length).take (half l.length)) _ _ (half l.length) ((HR.of own_hl (lvs_32 _ _)).take (k := half l.length) (by omega)) kt (by omega))) rfl ?_
   rintro _ h15 ⟨rfl,g⟩
   replace e0 := e0.ext g
   replace kt := kt.ext g
   replace own_hl := own_hl.ext g
   replace m10 := Ext.blk g m10
   replace sep := sep.up g.size
   clear g
   refine SeqK.eff (k' := 5) (Does.new (v := .pointer (some ⟨h15.size,0,none⟩)) (o := .cells (z32.map bv).toArray 27) (by kernel_rfl)) rfl ?_
   rintro _ h16 ⟨rfl,hh⟩
   have g17 : Ext h15 h16 := push_ext hh
   have m18 : h16[h15.size]? = some (.cells (z32.map bv).toArray 27) := push_at hh
   clear hh
   have lt19 := blk_lt m18
   have z20 := e0.size
   have hlo := e0.size
   have sepo := sep
   replace e0 := e0.ext g17
   replace kt := kt.ext g17
   replace own_hl := own_hl.ext g17
   replace m10 := Ext.blk g17 m10
   replace sep := sep.up g17.size
   replace sep := sepo.new hlo (blk_lt m18)
   clear sepo hlo
   refine SeqK.eff (k' := 6) (Does.store (b := h15.size) (off := 0) (vs := (root ((lvs l l.length).take (half l.length))).map bv) (l := z32.map bv) (storeOp_of (by kernel_rfl) (hlm (root_len ((lvs_32 _ _).take _)))) m18 (hfit rfl (root_len ((lvs_32 _ _).take _))) (ones_map _)) rfl ?_
   rintro _ h21 ⟨rfl,hh⟩
   have g22 : Grew (some (h15.size)) h16 h21 := hput_gr hh
   replace m18 : h21[h15.size]? = some (.cells ((root ((lvs l l.length).take (half l.length))).map bv).toArray 27) := hput_at (off := 0) (vs := (root ((lvs l l.length).take (half l.length))).map bv) (l := (z32.map bv)) hh (hsplice rfl (root_len ((lvs_32 _ _).take _))) m18
   clear hh
   replace e0 := e0.grew g22 (sep.low 0 rfl)
   replace kt := kt.grew g22 (sep.zero 0 rfl h0s)
   replace own_hl := own_hl.kept g22 (by rw [blkOf_slice]; exact (sep.ap 2 0 rfl rfl (by decide)))
   replace m10 := Grew.blk g22 m10 ((sep.bp 1 0 rfl rfl (by decide)))
   replace sep := sep.up g22.size
   refine SeqK.done [4,5,6,7] (L := [(4,.slice (some ah) l.length cap3),(5,.int .i64 ((half l.length : Nat) : Int)),(6,.pointer (some ⟨h7.size,0,none⟩)),(7,.pointer (some ⟨h15.size,0,none⟩))]) (by kernel_rfl) (by kernel_rfl) ?_
   clear hF; clear a; intro a hF
   show C Tryd.prog (sub b6 [1,1,1,1,1,1,1,1]) _ a h21
   refine C.seq [1,1,1,1,1,1,1,1,0] [1,1,1,1,1,1,1,1,1] (by kernel_rfl) ?_
   refine C.plain 10 (by kernel_rfl) hF (by kernel_rfl) ?_
   refine SeqK.pures (k' := 2) [.slice (some ah) l.length cap3,.int .i64 ((half l.length : Nat) : Int)] (by kernel_rfl) rfl ?_
   refine SeqK.calm (k' := 3) (v := .slice ad2 (l.length - half l.length) (cap3 - half l.length)) ((fun h => Calm.sliceO (a := (some ah)) (len := l.length) (cap := cap3) (sz := 32) (x := ad2) (half l.length) l.length cap3 (l.length - half l.length) (cap3 - half l.length) (by kernel_rfl) (.inl ⟨rfl,rfl⟩) (.inl ⟨rfl,rfl⟩) (.inr rfl) (by omega) (by omega) had2 (by first | rfl | omega) (by first | rfl | omega) h) _) rfl ?_
   refine SeqK.eff (k' := 4) (Does.call (f := 12) (args := #[.slice ad2 (l.length - half l.length) (cap3 - half l.length)]) (by kernel_rfl) (troot_sat _ ((lvs l l.length).drop (half l.length)) _ _ (l.length - half l.length) ((HR.of own_hl (lvs_32 _ _)).drop (k := half l.length) (by omega) had2) kt (by omega))) rfl ?_
   rintro _ h23 ⟨rfl,g⟩
   replace e0 := e0.ext g
   replace kt := kt.ext g
   replace own_hl := own_hl.ext g
   replace m10 := Ext.blk g m10
   replace m18 := Ext.blk g m18
   replace sep := sep.up g.size
   clear g
   refine SeqK.eff (k' := 5) (Does.new (v := .pointer (some ⟨h23.size,0,none⟩)) (o := .cells (z32.map bv).toArray 27) (by kernel_rfl)) rfl ?_
   rintro _ h24 ⟨rfl,hh⟩
   have g25 : Ext h23 h24 := push_ext hh
   have m26 : h24[h23.size]? = some (.cells (z32.map bv).toArray 27) := push_at hh
   clear hh
   have lt27 := blk_lt m26
   have z28 := e0.size
   have hlo := e0.size
   have sepo := sep
   replace e0 := e0.ext g25
   replace kt := kt.ext g25
   replace own_hl := own_hl.ext g25
   replace m10 := Ext.blk g25 m10
   replace m18 := Ext.blk g25 m18
   replace sep := sep.up g25.size
   replace sep := sepo.new hlo (blk_lt m26)
   clear sepo hlo
   refine SeqK.eff (k' := 6) (Does.store (b := h23.size) (off := 0) (vs := (root ((lvs l l.length).drop (half l.length))).map bv) (l := z32.map bv) (storeOp_of (by kernel_rfl) (hlm (root_len ((lvs_32 _ _).drop _)))) m26 (hfit rfl (root_len ((lvs_32 _ _).drop _))) (ones_map _)) rfl ?_
   rintro _ h29 ⟨rfl,hh⟩
   have g30 : Grew (some (h23.size)) h24 h29 := hput_gr hh
   replace m26 : h29[h23.size]? = some (.cells ((root ((lvs l l.length).drop (half l.length))).map bv).toArray 27) := hput_at (off := 0) (vs := (root ((lvs l l.length).drop (half l.length))).map bv) (l := (z32.map bv)) hh (hsplice rfl (root_len ((lvs_32 _ _).drop _))) m26
   clear hh
   replace e0 := e0.grew g30 (sep.low 0 rfl)
   replace kt := kt.grew g30 (sep.zero 0 rfl h0s)
   replace own_hl := own_hl.kept g30 (by rw [blkOf_slice]; exact (sep.ap 3 0 rfl rfl (by decide)))
   replace m10 := Grew.blk g30 m10 ((sep.bp 2 0 rfl rfl (by decide)))
   replace m18 := Grew.blk g30 m18 ((sep.bp 1 0 rfl rfl (by decide)))
   replace sep := sep.up g30.size
   refine SeqK.done [4,6,7,8] (L := [(4,.slice (some ah) l.length cap3),(6,.pointer (some ⟨h7.size,0,none⟩)),(7,.pointer (some ⟨h15.size,0,none⟩)),(8,.pointer (some ⟨h23.size,0,none⟩))]) (by kernel_rfl) (by kernel_rfl) ?_
   clear hF; clear a; intro a hF
   show C Tryd.prog (sub b6 [1,1,1,1,1,1,1,1,1]) _ a h29
   refine C.seq [1,1,1,1,1,1,1,1,1,0] [1,1,1,1,1,1,1,1,1,1] (by kernel_rfl) ?_
   refine C.plain 11 (by kernel_rfl) hF (by kernel_rfl) ?_
   refine SeqK.eff (k' := 1) (Does.call (f := 21) (args := #[]) (by kernel_rfl) (newgrow_l _)) rfl ?_
   rintro _ h31 ⟨b_g,rfl,hs_g,hge,g⟩
   have hlo := e0.size
   have sepo := sep
   replace e0 := e0.ext g
   replace kt := kt.ext g
   replace own_hl := own_hl.ext g
   replace m10 := Ext.blk g m10
   replace m18 := Ext.blk g m18
   replace m26 := Ext.blk g m26
   replace sep := sep.up g.size
   have hlt := hs_g.lt.1
   replace sep := (sepo.cons (x := some b_g) g.size (by omega) (fun k e => by cases e; exact ⟨hge,hlt⟩)).none (by omega)
   clear hge hlo hlt g sepo
   refine SeqK.pures (k' := 2) [.pointer (some ⟨b_g,0,none⟩)] (by kernel_rfl) rfl ?_
   refine SeqK.done [4,6,7,8,9] (L := [(4,.slice (some ah) l.length cap3),(6,.pointer (some ⟨h7.size,0,none⟩)),(7,.pointer (some ⟨h15.size,0,none⟩)),(8,.pointer (some ⟨h23.size,0,none⟩)),(9,.pointer (some ⟨b_g,0,none⟩))]) (by kernel_rfl) (by kernel_rfl) ?_
   clear hF; clear a; intro a hF
   show C Tryd.prog (sub b6 [1,1,1,1,1,1,1,1,1,1]) _ a h31
   refine C.seq [1,1,1,1,1,1,1,1,1,1,0] [1,1,1,1,1,1,1,1,1,1,1] (by kernel_rfl) ?_
   refine C.seq [1,1,1,1,1,1,1,1,1,1,0,0] [1,1,1,1,1,1,1,1,1,1,0,1] (by kernel_rfl) ?_
   refine C.plain 12 (by kernel_rfl) hF (by kernel_rfl) ?_
   refine SeqK.pures (k' := 2) [.pointer (some ⟨b_g,0,none⟩),.bool false] (by kernel_rfl) rfl ?_
   refine SeqK.done [4,6,7,8,9,41] (L := [(4,.slice (some ah) l.length cap3),(6,.pointer (some ⟨h7.size,0,none⟩)),(7,.pointer (some ⟨h15.size,0,none⟩)),(8,.pointer (some ⟨h23.size,0,none⟩)),(9,.pointer (some ⟨b_g,0,none⟩)),(41,.bool false)]) (by kernel_rfl) (by kernel_rfl) ?_
   clear hF; clear a; intro a hF
   show C Tryd.prog (sub b6 [1,1,1,1,1,1,1,1,1,1,0,1]) _ a h31
   refine C.condF 41 [1,1,1,1,1,1,1,1,1,1,0,1,0] [1,1,1,1,1,1,1,1,1,1,0,1,1] (by kernel_rfl) hF (fun _ => rfl) ?_
   refine C.skip (by kernel_rfl) ?_
   show C Tryd.prog (sub b6 [1,1,1,1,1,1,1,1,1,1,1]) _ a h31
   refine C.seq [1,1,1,1,1,1,1,1,1,1,1,0] [1,1,1,1,1,1,1,1,1,1,1,1] (by kernel_rfl) ?_
   refine C.seq [1,1,1,1,1,1,1,1,1,1,1,0,0] [1,1,1,1,1,1,1,1,1,1,1,0,1] (by kernel_rfl) ?_
   refine C.plain 14 (by kernel_rfl) hF (by kernel_rfl) ?_
   refine SeqK.pures (k' := 1) [.int .i64 0] (by kernel_rfl) rfl ?_
   refine SeqK.done [4,6,7,8,9,10] (L := [(4,.slice (some ah) l.length cap3),(6,.pointer (some ⟨h7.size,0,none⟩)),(7,.pointer (some ⟨h15.size,0,none⟩)),(8,.pointer (some ⟨h23.size,0,none⟩)),(9,.pointer (some ⟨b_g,0,none⟩)),(10,.int .i64 0)]) (by kernel_rfl) (by kernel_rfl) ?_
   clear hF; clear a; intro a hF
   show C Tryd.prog (sub b6 [1,1,1,1,1,1,1,1,1,1,1,0,1]) _ a h31
   refine C.block 2 [1,1,1,1,1,1,1,1,1,1,1,0,1,0] (by kernel_rfl) ?_
   refine C.loop (fun m a h' => ∃ i : Nat,∃ o1 : Option Nat,m = l.length - i ∧ (Ext h h') ∧ (Ktab h') ∧ (h'[h7.size]? = some (.cells ((root (lvs l l.length)).map bv).toArray 27)) ∧ (h'[h15.size]? = some (.cells ((root ((lvs l l.length).take (half l.length))).map bv).toArray 27)) ∧ (h'[h23.size]? = some (.cells ((root ((lvs l l.length).drop (half l.length))).map bv).toArray 27)) ∧ (i ≤ l.length) ∧ (GrowL h' b_g o1 ((lvs l l.length).take i)) ∧ (Own h' (.slice (some ah) l.length cap3) 27 l.length 32 (hcs (lvs l l.length))) ∧ (Sep h.size h'.size [o1,b_g,some (h23.size),some (h15.size),some (h7.size),(some ah).map (·.block)]) ∧ (Fr a 72 [(4,.slice (some ah) l.length cap3),(6,.pointer (some ⟨h7.size,0,none⟩)),(7,.pointer (some ⟨h15.size,0,none⟩)),(8,.pointer (some ⟨h23.size,0,none⟩)),(9,.pointer (some ⟨b_g,0,none⟩)),(10,.int .i64 ((i : Nat) : Int))])) (l.length - 0) [1,1,1,1,1,1,1,1,1,1,1,0,1,0,0] (by kernel_rfl) ⟨0,none,rfl,e0,kt,m10,m18,m26,(by omega),hs_g,own_hl,sep,hF⟩ ?_
   clear hF a
   clear e0
   clear kt
   clear m10
   clear m18
   clear m26
   clear hs_g
   clear own_hl
   clear sep
   rintro m a h32 ⟨i,o1,rfl,e0,kt,m10,m18,m26,hi,hs_g,own_hl,sep,hF⟩
   refine C.seq [1,1,1,1,1,1,1,1,1,1,1,0,1,0,0,0] [1,1,1,1,1,1,1,1,1,1,1,0,1,0,0,1] (by kernel_rfl) ?_
   refine C.seq [1,1,1,1,1,1,1,1,1,1,1,0,1,0,0,0,0] [1,1,1,1,1,1,1,1,1,1,1,0,1,0,0,0,1] (by kernel_rfl) ?_
   refine C.plain 15 (by kernel_rfl) hF (by kernel_rfl) ?_
   refine SeqK.pures (k' := 4) [.int .i64 ((i : Nat) : Int),.slice (some ah) l.length cap3,.int .i64 ((l.length : Nat) : Int),.bool (decide (((i : Nat) : Int) < ((l.length : Nat) : Int)))] (by kernel_rfl) rfl ?_
   refine SeqK.done [4,6,7,8,9,10,45] (L := [(4,.slice (some ah) l.length cap3),(6,.pointer (some ⟨h7.size,0,none⟩)),(7,.pointer (some ⟨h15.size,0,none⟩)),(8,.pointer (some ⟨h23.size,0,none⟩)),(9,.pointer (some ⟨b_g,0,none⟩)),(10,.int .i64 ((i : Nat) : Int)),(45,.bool (decide (((i : Nat) : Int) < ((l.length : Nat) : Int))))]) (by kernel_rfl) (by kernel_rfl) ?_
   clear hF; clear a; intro a hF
   show C Tryd.prog (sub b6 [1,1,1,1,1,1,1,1,1,1,1,0,1,0,0,0,1]) _ a h32
   refine C.condS 45 (decide (((i : Nat) : Int) < ((l.length : Nat) : Int))) [1,1,1,1,1,1,1,1,1,1,1,0,1,0,0,0,1,0] [1,1,1,1,1,1,1,1,1,1,1,0,1,0,0,0,1,1] (by kernel_rfl) hF (fun _ => rfl) (fun hc33 => ?_) (fun hc33 => ?_)
   ·skip
    replace hc33 := of_decide_eq_true hc33
    have hi3 : i < l.length := by omega
    refine C.skip (by kernel_rfl) ?_
    show C Tryd.prog (sub b6 [1,1,1,1,1,1,1,1,1,1,1,0,1,0,0,1]) _ a h32
    refine C.seq [1,1,1,1,1,1,1,1,1,1,1,0,1,0,0,1,0] [1,1,1,1,1,1,1,1,1,1,1,0,1,0,0,1,1] (by kernel_rfl) ?_
    refine C.block 3 [1,1,1,1,1,1,1,1,1,1,1,0,1,0,0,1,0,0] (by kernel_rfl) ?_
    refine C.plain 17 (by kernel_rfl) hF (by kernel_rfl) ?_
    refine SeqK.pures (k' := 3) [.pointer (some ⟨b_g,0,none⟩),.slice (some ah) l.length cap3,.int .i64 ((i : Nat) : Int)] (by kernel_rfl) rfl ?_
    refine SeqK.calm (k' := 4) (v := .pointer (some (Addr.add ah (i * 32)))) ((Calm.indexA (a := ah) (len := l.length) (sz := 32) (k := ((i : Nat) : Int)) i (i * 32) (by kernel_rfl) rfl (by omega) (by omega)) _) rfl ?_
    refine SeqK.calm (k' := 5) (v := .agg (((lvs l l.length).getD i []).map bv).toArray) (Calm.load (T := 27) (p := (Addr.add ah (i * 32))) (by kernel_rfl) (HR.loads (k := i) (q := i * 32) (HR.of own_hl (lvs_32 _ _)) (by kernel_rfl) (by omega) (by omega))) rfl ?_
    refine SeqK.eff (k' := 6) (Does.call (f := 24) (args := #[.pointer (some ⟨b_g,0,none⟩),.agg (((lvs l l.length).getD i []).map bv).toArray]) (by kernel_rfl) (add_l _ b_g o1 ((lvs l l.length).take i) hs_g ((lvs l l.length).getD i []) (hrl.2.1.get (k := i) (by rw [hrl.2.2]; omega)) kt (by have := sep.low 1 rfl _ rfl; omega) (fun e => sep.zero 0 rfl h0s e.symm) (by rw [List.length_take,lvs_len]; omega))) rfl ?_
    rintro _ h35 ⟨o34,hs',ho',g⟩
    have hlo := e0.size
    replace e0 := Gr.toExt e0 g (sep.lowF 1 0 rfl rfl)
    replace kt := kt.gr g (sep.zeroF 1 0 rfl rfl h0s)
    replace own_hl := g.own own_hl (fun k e => (sep.gF 5 1 0 rfl rfl rfl (by decide) (by decide)) k (by rw [blkOf_slice] at e; exact e))
    replace hs_g : GrowL h35 b_g o34 ((lvs l l.length).take i ++ [((lvs l l.length).getD i [])]) := hs'
    replace m10 := g.blk m10 ((sep.gF 4 1 0 rfl rfl rfl (by decide) (by decide)) _ rfl)
    replace m18 := g.blk m18 ((sep.gF 3 1 0 rfl rfl rfl (by decide) (by decide)) _ rfl)
    replace m26 := g.blk m26 ((sep.gF 2 1 0 rfl rfl rfl (by decide) (by decide)) _ rfl)
    replace sep := sep.set g.1 hlo 0 (y := o34) rfl (ho'.imp id .inr) (fun k e => hs'.lt.2 k e)
    replace sep : Sep h.size h35.size [o34,b_g,some (h23.size),some (h15.size),some (h7.size),(some ah).map (·.block)] := sep
    clear hs' ho' g hlo
    refine SeqK.done [4,6,7,8,9,10] (L := [(4,.slice (some ah) l.length cap3),(6,.pointer (some ⟨h7.size,0,none⟩)),(7,.pointer (some ⟨h15.size,0,none⟩)),(8,.pointer (some ⟨h23.size,0,none⟩)),(9,.pointer (some ⟨b_g,0,none⟩)),(10,.int .i64 ((i : Nat) : Int))]) (by kernel_rfl) (by kernel_rfl) ?_
    clear hF; clear a; intro a hF
    show C Tryd.prog (sub b6 [1,1,1,1,1,1,1,1,1,1,1,0,1,0,0,1,1]) _ a h35
    refine C.plain 16 (by kernel_rfl) hF (by kernel_rfl) ?_
    refine SeqK.pures (k' := 1) [.int .i64 ((i : Nat) : Int)] (by kernel_rfl) rfl ?_
    refine SeqK.pure1 (k' := 2) (v := .int .i64 ((i + 1 : Nat) : Int)) (v' := .int .i64 (IntKind.i64.wrap (((i : Nat) : Int) + 1))) (by kernel_rfl) (congrArg (Value.int .i64) (w64' (by omega) (by omega) (by omega))) rfl ?_
    refine SeqK.pures (k' := 3) [.int .i64 ((i + 1 : Nat) : Int)] (by kernel_rfl) rfl ?_
    refine SeqK.done [4,6,7,8,9,10] (L := [(4,.slice (some ah) l.length cap3),(6,.pointer (some ⟨h7.size,0,none⟩)),(7,.pointer (some ⟨h15.size,0,none⟩)),(8,.pointer (some ⟨h23.size,0,none⟩)),(9,.pointer (some ⟨b_g,0,none⟩)),(10,.int .i64 ((i + 1 : Nat) : Int))]) (by kernel_rfl) (by kernel_rfl) ?_
    clear hF; clear a; intro a hF
    rw [take_next hrl hi3] at hs_g
    show ∃ m',m' < _ ∧ _
    refine ⟨_,?_,(i + 1),o34,rfl,e0,kt,m10,m18,m26,(by omega),hs_g,own_hl,sep,hF⟩
    omega
   ·skip
    replace hc33 := of_decide_eq_false hc33
    obtain rfl : i = l.length := by omega
    rw [List.take_of_length_le (by rw [lvs_len]; omega)] at hs_g
    refine C.exit 2 (by kernel_rfl) ?_
    show C Tryd.prog (sub b6 [1,1,1,1,1,1,1,1,1,1,1,1]) _ a h32
    refine C.seq [1,1,1,1,1,1,1,1,1,1,1,1,0] [1,1,1,1,1,1,1,1,1,1,1,1,1] (by kernel_rfl) ?_
    refine C.draw (A := [0,0,0,6,15,31,63,127,63,511,1023,2047,4095,8191,4095,20479,65535,131071,262143]) 18 (by kernel_rfl) mixed hF (by kernel_rfl) ?_
    refine SimK.look (D' := 1) (Wd' := 1) (i := 0) (v := .agg ((root (lvs l l.length)).map bv).toArray) (by kernel_rfl) (by kernel_rfl) (by kernel_rfl) (Calm.load (T := 27) (p := ⟨h7.size,0,none⟩) (by kernel_rfl) (Loads.hash (by kernel_rfl) (root_len (lvs_32 _ _)) m10)) ?_
    refine SimK.look (D' := 3) (Wd' := 3) (i := 1) (v := .agg ((root ((lvs l l.length).take (half l.length))).map bv).toArray) (by kernel_rfl) (by kernel_rfl) (by kernel_rfl) (Calm.load (T := 27) (p := ⟨h15.size,0,none⟩) (by kernel_rfl) (Loads.hash (by kernel_rfl) (root_len ((lvs_32 _ _).take _)) m18)) ?_
    refine SimK.look (D' := 7) (Wd' := 7) (i := 2) (v := .agg ((root ((lvs l l.length).drop (half l.length))).map bv).toArray) (by kernel_rfl) (by kernel_rfl) (by kernel_rfl) (Calm.load (T := 27) (p := ⟨h23.size,0,none⟩) (by kernel_rfl) (Loads.hash (by kernel_rfl) (root_len ((lvs_32 _ _).drop _)) m26)) ?_
    refine SimK.eff (i := 3) (D' := 15) (X' := 14) (by kernel_rfl) (by kernel_rfl) (by kernel_rfl) [0] (by kernel_rfl) (Does.call (f := 14) (args := #[.agg ((root ((lvs l l.length).take (half l.length))).map bv).toArray,.agg ((root ((lvs l l.length).drop (half l.length))).map bv).toArray]) (by kernel_rfl) (node_sat _ (root ((lvs l l.length).take (half l.length))) (root ((lvs l l.length).drop (half l.length))) (root_len ((lvs_32 _ _).take _)) (root_len ((lvs_32 _ _).drop _)) kt)) ?_
    rintro _ h36 ⟨rfl,g⟩
    replace e0 := e0.ext g
    replace kt := kt.ext g
    replace own_hl := own_hl.ext g
    replace hs_g := hs_g.ext g
    replace m10 := Ext.blk g m10
    replace m18 := Ext.blk g m18
    replace m26 := Ext.blk g m26
    replace sep := sep.up g.size
    refine ⟨?_,?_⟩
    ·intro j hj
     simp only [List.mem_cons,List.not_mem_nil,or_false] at hj
     subst hj
     exact goodOf (Calm.load (T := 27) (p := ⟨h7.size,0,none⟩) (by kernel_rfl) (Loads.hash (by kernel_rfl) (root_len (lvs_32 _ _)) m10))
    clear g
    refine SimK.free (D' := 31) (i := 4) (v := .bool true) (by kernel_rfl) (by kernel_rfl) (eqHT (q := true) (l := root (lvs l l.length)) (r := nodeH (root ((lvs l l.length).take (half l.length))) (root ((lvs l l.length).drop (half l.length)))) (n := 32) (by kernel_rfl) (root_len (lvs_32 _ _)) (node_len _ _) ((root_half (lvs_len _ _) hn2).symm)) ?_
    refine SimK.pures (D' := 127) (is := [5,6]) (vs := [.bool true,.pointer (some ⟨b_g,0,none⟩)]) (by kernel_rfl) ?_
    refine SimK.look (D' := 383) (Wd' := 263) (i := 8) (v := .agg ((root (lvs l l.length)).map bv).toArray) (by kernel_rfl) (by kernel_rfl) (by kernel_rfl) (Calm.load (T := 27) (p := ⟨h7.size,0,none⟩) (by kernel_rfl) (Loads.hash (by kernel_rfl) (root_len (lvs_32 _ _)) m10)) ?_
    refine SimK.eff (i := 7) (D' := 511) (X' := 255) (by kernel_rfl) (by kernel_rfl) (by kernel_rfl) [8] (by kernel_rfl) (Does.call (f := 23) (args := #[.pointer (some ⟨b_g,0,none⟩)]) (by kernel_rfl) (groot_l _ b_g o1 (lvs l l.length) hs_g kt (by rw [lvs_len]; omega))) ?_
    rintro _ h37 ⟨rfl,g⟩
    replace e0 := e0.ext g
    replace kt := kt.ext g
    replace own_hl := own_hl.ext g
    replace hs_g := hs_g.ext g
    replace m10 := Ext.blk g m10
    replace m18 := Ext.blk g m18
    replace m26 := Ext.blk g m26
    replace sep := sep.up g.size
    refine ⟨?_,?_⟩
    ·intro j hj
     simp only [List.mem_cons,List.not_mem_nil,or_false] at hj
     subst hj
     exact goodOf (Calm.load (T := 27) (p := ⟨h7.size,0,none⟩) (by kernel_rfl) (Loads.hash (by kernel_rfl) (root_len (lvs_32 _ _)) m10))
    clear g
    refine SimK.free (D' := 1023) (i := 9) (v := .bool true) (by kernel_rfl) (by kernel_rfl) (eqHT (q := true) (l := root (lvs l l.length)) (r := root (lvs l l.length)) (n := 32) (by kernel_rfl) (root_len (lvs_32 _ _)) (root_len (lvs_32 _ _)) rfl) ?_
    refine SimK.pures (D' := 8191) (is := [10,11,12]) (vs := [.bool true,.bool true,.pointer (some ⟨b_g,0,none⟩)]) (by kernel_rfl) ?_
    refine SimK.look (D' := 16383) (Wd' := 8455) (i := 13) (v := .int .i64 ((l.length : Nat) : Int)) (by kernel_rfl) (by kernel_rfl) (by kernel_rfl) (Does.call (f := 22) (args := #[.pointer (some ⟨b_g,0,none⟩)]) (by kernel_rfl) (size_n _ b_g o1 (lvs l l.length) hs_g l.length (lvs_len _ _))) ?_
    refine SimK.pures (D' := 65535) (is := [14,15]) (vs := [.slice (some ah) l.length cap3,.int .i64 ((l.length : Nat) : Int)]) (by kernel_rfl) ?_
    refine SimK.pure1 (D' := 131071) (i := 16) (v := .bool true) (v' := .bool (((l.length : Nat) : Int) == ((l.length : Nat) : Int))) (by kernel_rfl) (by kernel_rfl) (by kernel_rfl) (congrArg Value.bool (beq_iff_eq.2 (by omega))) ?_
    refine SimK.pures (D' := 524287) (is := [17,18]) (vs := [.bool true,.bool true]) (by kernel_rfl) ?_
    refine SimK.done [2] (L := [(2,.bool true)]) (by kernel_rfl) (by kernel_rfl) ?_
    clear hF; clear a; intro a hF
    show C Tryd.prog (sub b6 [1,1,1,1,1,1,1,1,1,1,1,1,1]) _ a h37
    refine C.ret (by kernel_rfl) ?_
    show retK Tryd.prog Tryd.f6 (fun v h' => v = .bool true ∧ Ext h h') .ret a h37
    refine ret_ok [.tmp 2] [.bool true] (.bool true) rfl hF ⟨rfl,trivial⟩ rfl ?_
    exact ⟨rfl,e0⟩
end Go.Proofs.YtfompolnofgldaaDoor
