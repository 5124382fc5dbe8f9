/- Walks of the laws of the trees: what each function computes, as a law of its calls. No condition but those that each theorem names. -/
import Derived.Test.YtfompolnofgldaaDoorLaw05H
namespace Go.Proofs.YtfompolnofgldaaDoor
open Go Go.Lane Go.Sha
noncomputable def b7 : Code := Tryd.f7.body.getD .skip
theorem binds_sat (h : Heap) (l : List UInt8) (va : Option Addr) (vc : Nat) (hr : Row h (.slice va l.length vc) l.length 1 (l.map bv)) (hn : l.length ≤ 1048576) (b : List UInt8) (vb : Option Addr) (vd : Nat) (hrb : Row h (.slice vb b.length vd) b.length 1 (b.map bv)) (hnb : b.length ≤ 1048576) (kt : Ktab h) (hcv : l.length ≤ vc) (hcw : b.length ≤ vd) : Sat Tryd.prog 7 #[.slice va l.length vc,.slice vb b.length vd] h fun v h' => v = .bool true ∧ Ext h h' := by
 have e0 := Ext.refl h
 have h0s := kt.lt
 have sep : Sep h.size h.size [] := Sep.nil _ _
 obtain ⟨n,hnm⟩ : ∃ n,n = min (min l.length b.length) 40 := ⟨_,rfl⟩
 refine sat_of (args := [.slice va l.length vc,.slice vb b.length vd]) (fn := Tryd.f7) (B := b7) (n := 50) (L := [(0,.slice va l.length vc),(1,.slice vb b.length vd)]) Tryd.func7 rfl (by kernel_rfl) rfl ?_
 intro a hF
 refine C.seq [0] [1] (by kernel_rfl) ?_
 refine C.plain 0 (by kernel_rfl) hF (by kernel_rfl) ?_
 refine SeqK.pures (k' := 1) [.bool false] (by kernel_rfl) rfl ?_
 refine SeqK.done [0,1] (L := [(0,.slice va l.length vc),(1,.slice vb b.length vd)]) (by kernel_rfl) (by kernel_rfl) ?_
 clear hF; clear a; intro a hF
 show C Tryd.prog (sub b7 [1]) _ a h
 refine C.seq [1,0] [1,1] (by kernel_rfl) ?_
 refine C.plain 1 (by kernel_rfl) hF (by kernel_rfl) ?_
 refine SeqK.eff (k' := 1) (Does.call (f := 8) (args := #[]) (by kernel_rfl) (shown5_sat _ kt)) rfl ?_
 rintro _ h1 ⟨rfl,g⟩
 replace e0 := e0.ext g
 replace kt := kt.ext g
 replace sep := sep.up g.size
 clear g
 refine SeqK.pures (k' := 2) [.bool true] (by kernel_rfl) rfl ?_
 refine SeqK.done [0,1,5] (L := [(0,.slice va l.length vc),(1,.slice vb b.length vd),(5,.bool true)]) (by kernel_rfl) (by kernel_rfl) ?_
 clear hF; clear a; intro a hF
 show C Tryd.prog (sub b7 [1,1]) _ a h1
 refine C.seq [1,1,0] [1,1,1] (by kernel_rfl) ?_
 refine C.plain 2 (by kernel_rfl) hF (by kernel_rfl) ?_
 refine SeqK.pures (k' := 4) [.slice va l.length vc,.int .i64 ((l.length : Nat) : Int),.slice vb b.length vd,.int .i64 ((b.length : Nat) : Int)] (by kernel_rfl) rfl ?_
 refine SeqK.pure1 (k' := 5) (v := .int .i64 ((n : Nat) : Int)) (v' := .int .i64 (if (40 : Int) < (if ((b.length : Nat) : Int) < ((l.length : Nat) : Int) then ((b.length : Nat) : Int) else ((l.length : Nat) : Int)) then (40 : Int) else (if ((b.length : Nat) : Int) < ((l.length : Nat) : Int) then ((b.length : Nat) : Int) else ((l.length : Nat) : Int)))) (by kernel_rfl) (congrArg (Value.int .i64) ((min3 l.length b.length).trans (by rw [hnm]))) rfl ?_
 refine SeqK.pures (k' := 6) [.int .i64 ((n : Nat) : Int)] (by kernel_rfl) rfl ?_
 refine SeqK.done [0,1,5,6] (L := [(0,.slice va l.length vc),(1,.slice vb b.length vd),(5,.bool true),(6,.int .i64 ((n : Nat) : Int))]) (by kernel_rfl) (by kernel_rfl) ?_
 clear hF; clear a; intro a hF
 show C Tryd.prog (sub b7 [1,1,1]) _ a h1
 refine C.seq [1,1,1,0] [1,1,1,1] (by kernel_rfl) ?_
 refine C.plain 3 (by kernel_rfl) hF (by kernel_rfl) ?_
 refine SeqK.pures (k' := 2) [.slice va l.length vc,.int .i64 ((n : Nat) : Int)] (by kernel_rfl) rfl ?_
 refine SeqK.calm (k' := 3) (v := .slice va n vc) ((fun h => Calm.sliceO (a := va) (len := l.length) (cap := vc) (sz := 1) (x := va) 0 n vc n vc (by kernel_rfl) (.inl ⟨rfl,rfl⟩) (.inr rfl) (.inl ⟨rfl,rfl⟩) (by omega) (by omega) (opt_add0 _ 1) (by first | rfl | omega) (by first | rfl | omega) h) _) rfl ?_
 refine SeqK.eff (k' := 4) (Does.call (f := 9) (args := #[.slice va n vc]) (by kernel_rfl) (leaves_k _ (l.take n) _ _ n (btake (hr.ext e0) (by omega)) (by rw [List.length_take]; omega) (by omega))) rfl ?_
 rintro _ h4 ⟨ad2,cap3,rfl,ownx,hge,g⟩
 have hlo := e0.size
 have sepo := sep
 replace e0 := e0.ext g
 replace kt := kt.ext g
 replace sep := sep.up g.size
 replace sep := sepo.cons (x := ad2.map (fun (x : Addr) => x.block)) g.size hlo (fun k e => ⟨hge k e,ownx.lt (by rw [blkOf_slice]; exact e)⟩)
 have own_x : Own h4 (.slice ad2 n cap3) 27 n 32 (hcs (lvs (l.take n) n)) := ownx; clear ownx sepo hlo hge g
 refine SeqK.pures (k' := 5) [.slice ad2 n cap3] (by kernel_rfl) rfl ?_
 refine SeqK.done [1,5,6,7] (L := [(1,.slice vb b.length vd),(5,.bool true),(6,.int .i64 ((n : Nat) : Int)),(7,.slice ad2 n cap3)]) (by kernel_rfl) (by kernel_rfl) ?_
 clear hF; clear a; intro a hF
 show C Tryd.prog (sub b7 [1,1,1,1]) _ a h4
 refine C.seq [1,1,1,1,0] [1,1,1,1,1] (by kernel_rfl) ?_
 refine C.plain 4 (by kernel_rfl) hF (by kernel_rfl) ?_
 refine SeqK.pures (k' := 2) [.slice vb b.length vd,.int .i64 ((n : Nat) : Int)] (by kernel_rfl) rfl ?_
 refine SeqK.calm (k' := 3) (v := .slice vb n vd) ((fun h => Calm.sliceO (a := vb) (len := b.length) (cap := vd) (sz := 1) (x := vb) 0 n vd n vd (by kernel_rfl) (.inl ⟨rfl,rfl⟩) (.inr rfl) (.inl ⟨rfl,rfl⟩) (by omega) (by omega) (opt_add0 _ 1) (by first | rfl | omega) (by first | rfl | omega) h) _) rfl ?_
 refine SeqK.eff (k' := 4) (Does.call (f := 9) (args := #[.slice vb n vd]) (by kernel_rfl) (leaves_k _ (b.take n) _ _ n (btake (hrb.ext e0) (by omega)) (by rw [List.length_take]; omega) (by omega))) rfl ?_
 rintro _ h7 ⟨ad5,cap6,rfl,ownx,hge,g⟩
 have hlo := e0.size
 have sepo := sep
 replace e0 := e0.ext g
 replace kt := kt.ext g
 replace own_x := own_x.ext g
 replace sep := sep.up g.size
 replace sep := sepo.cons (x := ad5.map (fun (x : Addr) => x.block)) g.size hlo (fun k e => ⟨hge k e,ownx.lt (by rw [blkOf_slice]; exact e)⟩)
 have own_y : Own h7 (.slice ad5 n cap6) 27 n 32 (hcs (lvs (b.take n) n)) := ownx; clear ownx sepo hlo hge g
 refine SeqK.pures (k' := 5) [.slice ad5 n cap6] (by kernel_rfl) rfl ?_
 refine SeqK.done [5,7,8] (L := [(5,.bool true),(7,.slice ad2 n cap3),(8,.slice ad5 n cap6)]) (by kernel_rfl) (by kernel_rfl) ?_
 clear hF; clear a; intro a hF
 show C Tryd.prog (sub b7 [1,1,1,1,1]) _ a h7
 refine C.seq [1,1,1,1,1,0] [1,1,1,1,1,1] (by kernel_rfl) ?_
 refine C.plain 5 (by kernel_rfl) hF (by kernel_rfl) ?_
 refine SeqK.pures (k' := 1) [.slice ad2 n cap3] (by kernel_rfl) rfl ?_
 refine SeqK.eff (k' := 2) (Does.call (f := 12) (args := #[.slice ad2 n cap3]) (by kernel_rfl) (troot_sat _ (lvs (l.take n) n) _ _ n (HR.of own_x (lvs_32 _ _)) kt (by omega))) rfl ?_
 rintro _ h8 ⟨rfl,g⟩
 replace e0 := e0.ext g
 replace kt := kt.ext g
 replace own_x := own_x.ext g
 replace own_y := own_y.ext g
 replace sep := sep.up g.size
 clear g
 refine SeqK.eff (k' := 3) (Does.new (v := .pointer (some ⟨h8.size,0,none⟩)) (o := .cells (z32.map bv).toArray 27) (by kernel_rfl)) rfl ?_
 rintro _ h9 ⟨rfl,hh⟩
 have g10 : Ext h8 h9 := push_ext hh
 have m11 : h9[h8.size]? = some (.cells (z32.map bv).toArray 27) := push_at hh
 clear hh
 have lt12 := blk_lt m11
 have z13 := e0.size
 have hlo := e0.size
 have sepo := sep
 replace e0 := e0.ext g10
 replace kt := kt.ext g10
 replace own_x := own_x.ext g10
 replace own_y := own_y.ext g10
 replace sep := sep.up g10.size
 replace sep := sepo.new hlo (blk_lt m11)
 clear sepo hlo
 refine SeqK.eff (k' := 4) (Does.store (b := h8.size) (off := 0) (vs := (root (lvs (l.take n) n)).map bv) (l := z32.map bv) (storeOp_of (by kernel_rfl) (hlm (root_len (lvs_32 _ _)))) m11 (hfit rfl (root_len (lvs_32 _ _))) (ones_map _)) rfl ?_
 rintro _ h14 ⟨rfl,hh⟩
 have g15 : Grew (some (h8.size)) h9 h14 := hput_gr hh
 replace m11 : h14[h8.size]? = some (.cells ((root (lvs (l.take n) n)).map bv).toArray 27) := hput_at (off := 0) (vs := (root (lvs (l.take n) n)).map bv) (l := (z32.map bv)) hh (hsplice rfl (root_len (lvs_32 _ _))) m11
 clear hh
 replace e0 := e0.grew g15 (sep.low 0 rfl)
 replace kt := kt.grew g15 (sep.zero 0 rfl h0s)
 replace own_x := own_x.kept g15 (by rw [blkOf_slice]; exact (sep.ap 2 0 rfl rfl (by decide)))
 replace own_y := own_y.kept g15 (by rw [blkOf_slice]; exact (sep.ap 1 0 rfl rfl (by decide)))
 replace sep := sep.up g15.size
 refine SeqK.done [5,7,8,9] (L := [(5,.bool true),(7,.slice ad2 n cap3),(8,.slice ad5 n cap6),(9,.pointer (some ⟨h8.size,0,none⟩))]) (by kernel_rfl) (by kernel_rfl) ?_
 clear hF; clear a; intro a hF
 show C Tryd.prog (sub b7 [1,1,1,1,1,1]) _ a h14
 refine C.seq [1,1,1,1,1,1,0] [1,1,1,1,1,1,1] (by kernel_rfl) ?_
 refine C.plain 6 (by kernel_rfl) hF (by kernel_rfl) ?_
 refine SeqK.pures (k' := 1) [.slice ad5 n cap6] (by kernel_rfl) rfl ?_
 refine SeqK.eff (k' := 2) (Does.call (f := 12) (args := #[.slice ad5 n cap6]) (by kernel_rfl) (troot_sat _ (lvs (b.take n) n) _ _ n (HR.of own_y (lvs_32 _ _)) kt (by omega))) rfl ?_
 rintro _ h16 ⟨rfl,g⟩
 replace e0 := e0.ext g
 replace kt := kt.ext g
 replace own_x := own_x.ext g
 replace own_y := own_y.ext g
 replace m11 := Ext.blk g m11
 replace sep := sep.up g.size
 clear g
 refine SeqK.eff (k' := 3) (Does.new (v := .pointer (some ⟨h16.size,0,none⟩)) (o := .cells (z32.map bv).toArray 27) (by kernel_rfl)) rfl ?_
 rintro _ h17 ⟨rfl,hh⟩
 have g18 : Ext h16 h17 := push_ext hh
 have m19 : h17[h16.size]? = some (.cells (z32.map bv).toArray 27) := push_at hh
 clear hh
 have lt20 := blk_lt m19
 have z21 := e0.size
 have hlo := e0.size
 have sepo := sep
 replace e0 := e0.ext g18
 replace kt := kt.ext g18
 replace own_x := own_x.ext g18
 replace own_y := own_y.ext g18
 replace m11 := Ext.blk g18 m11
 replace sep := sep.up g18.size
 replace sep := sepo.new hlo (blk_lt m19)
 clear sepo hlo
 refine SeqK.eff (k' := 4) (Does.store (b := h16.size) (off := 0) (vs := (root (lvs (b.take n) n)).map bv) (l := z32.map bv) (storeOp_of (by kernel_rfl) (hlm (root_len (lvs_32 _ _)))) m19 (hfit rfl (root_len (lvs_32 _ _))) (ones_map _)) rfl ?_
 rintro _ h22 ⟨rfl,hh⟩
 have g23 : Grew (some (h16.size)) h17 h22 := hput_gr hh
 replace m19 : h22[h16.size]? = some (.cells ((root (lvs (b.take n) n)).map bv).toArray 27) := hput_at (off := 0) (vs := (root (lvs (b.take n) n)).map bv) (l := (z32.map bv)) hh (hsplice rfl (root_len (lvs_32 _ _))) m19
 clear hh
 replace e0 := e0.grew g23 (sep.low 0 rfl)
 replace kt := kt.grew g23 (sep.zero 0 rfl h0s)
 replace own_x := own_x.kept g23 (by rw [blkOf_slice]; exact (sep.ap 3 0 rfl rfl (by decide)))
 replace own_y := own_y.kept g23 (by rw [blkOf_slice]; exact (sep.ap 2 0 rfl rfl (by decide)))
 replace m11 := Grew.blk g23 m11 ((sep.bp 1 0 rfl rfl (by decide)))
 replace sep := sep.up g23.size
 refine SeqK.done [5,7,8,9,10] (L := [(5,.bool true),(7,.slice ad2 n cap3),(8,.slice ad5 n cap6),(9,.pointer (some ⟨h8.size,0,none⟩)),(10,.pointer (some ⟨h16.size,0,none⟩))]) (by kernel_rfl) (by kernel_rfl) ?_
 clear hF; clear a; intro a hF
 show C Tryd.prog (sub b7 [1,1,1,1,1,1,1]) _ a h22
 refine C.seq [1,1,1,1,1,1,1,0] [1,1,1,1,1,1,1,1] (by kernel_rfl) ?_
 refine C.plain 7 (by kernel_rfl) hF (by kernel_rfl) ?_
 refine SeqK.pures (k' := 2) [.slice ad2 n cap3,.slice ad5 n cap6] (by kernel_rfl) rfl ?_
 refine SeqK.calm (k' := 3) (v := .bool (decide (lvs (l.take n) n = lvs (b.take n) n))) (Does.call (f := 20) (args := #[.slice ad2 n cap3,.slice ad5 n cap6]) (by kernel_rfl) (hsame_sat _ (lvs (l.take n) n) (lvs (b.take n) n) _ _ _ _ n n (HR.of own_x (lvs_32 _ _)) (HR.of own_y (lvs_32 _ _)) (by omega))) rfl ?_
 refine SeqK.pures (k' := 4) [.bool (decide (lvs (l.take n) n = lvs (b.take n) n))] (by kernel_rfl) rfl ?_
 refine SeqK.done [5,7,8,9,10,11] (L := [(5,.bool true),(7,.slice ad2 n cap3),(8,.slice ad5 n cap6),(9,.pointer (some ⟨h8.size,0,none⟩)),(10,.pointer (some ⟨h16.size,0,none⟩)),(11,.bool (decide (lvs (l.take n) n = lvs (b.take n) n)))]) (by kernel_rfl) (by kernel_rfl) ?_
 clear hF; clear a; intro a hF
 show C Tryd.prog (sub b7 [1,1,1,1,1,1,1,1]) _ a h22
 refine C.seq [1,1,1,1,1,1,1,1,0] [1,1,1,1,1,1,1,1,1] (by kernel_rfl) ?_
 refine C.seq [1,1,1,1,1,1,1,1,0,0] [1,1,1,1,1,1,1,1,0,1] (by kernel_rfl) ?_
 refine C.plain 8 (by kernel_rfl) hF (by kernel_rfl) ?_
 refine SeqK.pures (k' := 1) [.bool (decide (lvs (l.take n) n = lvs (b.take n) n))] (by kernel_rfl) rfl ?_
 refine SeqK.done [5,7,8,9,10,33] (L := [(5,.bool true),(7,.slice ad2 n cap3),(8,.slice ad5 n cap6),(9,.pointer (some ⟨h8.size,0,none⟩)),(10,.pointer (some ⟨h16.size,0,none⟩)),(33,.bool (decide (lvs (l.take n) n = lvs (b.take n) n)))]) (by kernel_rfl) (by kernel_rfl) ?_
 clear hF; clear a; intro a hF
 show C Tryd.prog (sub b7 [1,1,1,1,1,1,1,1,0,1]) _ a h22
 refine C.condS 33 (decide (lvs (l.take n) n = lvs (b.take n) n)) [1,1,1,1,1,1,1,1,0,1,0] [1,1,1,1,1,1,1,1,0,1,1] (by kernel_rfl) hF (fun _ => rfl) (fun hc24 => ?_) (fun hc24 => ?_)
 ·skip
  replace hc24 := of_decide_eq_true hc24
  have hsame := hc24
  refine C.seq [1,1,1,1,1,1,1,1,0,1,0,0] [1,1,1,1,1,1,1,1,0,1,0,1] (by kernel_rfl) ?_
  refine C.plain 9 (by kernel_rfl) hF (by kernel_rfl) ?_
  refine SeqK.pures (k' := 2) [.bool true,.bool true] (by kernel_rfl) rfl ?_
  refine SeqK.calm (k' := 3) (v := .agg ((root (lvs (l.take n) n)).map bv).toArray) (Calm.load (T := 27) (p := ⟨h8.size,0,none⟩) (by kernel_rfl) (Loads.hash (by kernel_rfl) (root_len (lvs_32 _ _)) m11)) rfl ?_
  refine SeqK.calm (k' := 4) (v := .agg ((root (lvs (b.take n) n)).map bv).toArray) (Calm.load (T := 27) (p := ⟨h16.size,0,none⟩) (by kernel_rfl) (Loads.hash (by kernel_rfl) (root_len (lvs_32 _ _)) m19)) rfl ?_
  refine SeqK.calm (k' := 5) (v := .bool true) ((eqHT (q := true) (l := root (lvs (l.take n) n)) (r := root (lvs (b.take n) n)) (n := 32) (by kernel_rfl) (root_len (lvs_32 _ _)) (root_len (lvs_32 _ _)) (by rw [hsame])) _) rfl ?_
  refine SeqK.pures (k' := 7) [.bool true,.bool true] (by kernel_rfl) rfl ?_
  refine SeqK.done [4] (L := [(4,.bool true)]) (by kernel_rfl) (by kernel_rfl) ?_
  clear hF; clear a; intro a hF
  show C Tryd.prog (sub b7 [1,1,1,1,1,1,1,1,0,1,0,1]) _ a h22
  refine C.ret (by kernel_rfl) ?_
  show retK Tryd.prog Tryd.f7 (fun v h' => v = .bool true ∧ Ext h h') .ret a h22
  refine ret_ok [.tmp 4] [.bool true] (.bool true) rfl hF ⟨rfl,trivial⟩ rfl ?_
  exact ⟨rfl,e0⟩
 ·skip
  replace hc24 := of_decide_eq_false hc24
  have hdiff := hc24
  refine C.skip (by kernel_rfl) ?_
  show C Tryd.prog (sub b7 [1,1,1,1,1,1,1,1,1]) _ a h22
  refine C.seq [1,1,1,1,1,1,1,1,1,0] [1,1,1,1,1,1,1,1,1,1] (by kernel_rfl) ?_
  refine C.seq [1,1,1,1,1,1,1,1,1,0,0] [1,1,1,1,1,1,1,1,1,0,1] (by kernel_rfl) ?_
  refine C.plain 10 (by kernel_rfl) hF (by kernel_rfl) ?_
  refine SeqK.calm (k' := 1) (v := .agg ((root (lvs (l.take n) n)).map bv).toArray) (Calm.load (T := 27) (p := ⟨h8.size,0,none⟩) (by kernel_rfl) (Loads.hash (by kernel_rfl) (root_len (lvs_32 _ _)) m11)) rfl ?_
  refine SeqK.calm (k' := 2) (v := .agg ((root (lvs (b.take n) n)).map bv).toArray) (Calm.load (T := 27) (p := ⟨h16.size,0,none⟩) (by kernel_rfl) (Loads.hash (by kernel_rfl) (root_len (lvs_32 _ _)) m19)) rfl ?_
  refine SeqK.calm (k' := 3) (v := .bool (decide (root (lvs (l.take n) n) = root (lvs (b.take n) n)))) ((eqH1 (l := root (lvs (l.take n) n)) (r := root (lvs (b.take n) n)) (n := 32) (by kernel_rfl) (root_len (lvs_32 _ _)) (root_len (lvs_32 _ _))) _) rfl ?_
  refine SeqK.done [5,7,8,42] (L := [(5,.bool true),(7,.slice ad2 n cap3),(8,.slice ad5 n cap6),(42,.bool (decide (root (lvs (l.take n) n) = root (lvs (b.take n) n))))]) (by kernel_rfl) (by kernel_rfl) ?_
  clear hF; clear a; intro a hF
  show C Tryd.prog (sub b7 [1,1,1,1,1,1,1,1,1,0,1]) _ a h22
  refine C.condS 42 (decide (root (lvs (l.take n) n) = root (lvs (b.take n) n))) [1,1,1,1,1,1,1,1,1,0,1,0] [1,1,1,1,1,1,1,1,1,0,1,1] (by kernel_rfl) hF (fun _ => rfl) (fun hc25 => ?_) (fun hc25 => ?_)
  ·skip
   replace hc25 := of_decide_eq_true hc25
   have hreq := hc25
   refine C.seq [1,1,1,1,1,1,1,1,1,0,1,0,0] [1,1,1,1,1,1,1,1,1,0,1,0,1] (by kernel_rfl) ?_
   refine C.plain 11 (by kernel_rfl) hF (by kernel_rfl) ?_
   refine SeqK.pures (k' := 4) [.bool true,.bool true,.slice ad2 n cap3,.slice ad5 n cap6] (by kernel_rfl) rfl ?_
   refine SeqK.eff (k' := 5) (Does.call (f := 25) (args := #[.slice ad2 n cap3,.slice ad5 n cap6]) (by kernel_rfl) (met_all n n (Nat.le_refl _) (by omega) _ (lvs (l.take n) n) (lvs (b.take n) n) _ _ _ _ (HR.of own_x (lvs_32 _ _)) (HR.of own_y (lvs_32 _ _)) hreq hdiff kt)) rfl ?_
   rintro _ h26 ⟨rfl,g⟩
   replace e0 := e0.ext g
   replace kt := kt.ext g
   replace own_x := own_x.ext g
   replace own_y := own_y.ext g
   replace m11 := Ext.blk g m11
   replace m19 := Ext.blk g m19
   replace sep := sep.up g.size
   clear g
   refine SeqK.pures (k' := 7) [.bool true,.bool true] (by kernel_rfl) rfl ?_
   refine SeqK.done [4] (L := [(4,.bool true)]) (by kernel_rfl) (by kernel_rfl) ?_
   clear hF; clear a; intro a hF
   show C Tryd.prog (sub b7 [1,1,1,1,1,1,1,1,1,0,1,0,1]) _ a h26
   refine C.ret (by kernel_rfl) ?_
   show retK Tryd.prog Tryd.f7 (fun v h' => v = .bool true ∧ Ext h h') .ret a h26
   refine ret_ok [.tmp 4] [.bool true] (.bool true) rfl hF ⟨rfl,trivial⟩ rfl ?_
   exact ⟨rfl,e0⟩
  ·skip
   replace hc25 := of_decide_eq_false hc25
   refine C.skip (by kernel_rfl) ?_
   show C Tryd.prog (sub b7 [1,1,1,1,1,1,1,1,1,1]) _ a h22
   refine C.seq [1,1,1,1,1,1,1,1,1,1,0] [1,1,1,1,1,1,1,1,1,1,1] (by kernel_rfl) ?_
   refine C.plain 12 (by kernel_rfl) hF (by kernel_rfl) ?_
   refine SeqK.pures (k' := 2) [.bool true,.bool true] (by kernel_rfl) rfl ?_
   refine SeqK.done [4] (L := [(4,.bool true)]) (by kernel_rfl) (by kernel_rfl) ?_
   clear hF; clear a; intro a hF
   show C Tryd.prog (sub b7 [1,1,1,1,1,1,1,1,1,1,1]) _ a h22
   refine C.ret (by kernel_rfl) ?_
   show retK Tryd.prog Tryd.f7 (fun v h' => v = .bool true ∧ Ext h h') .ret a h22
   refine ret_ok [.tmp 4] [.bool true] (.bool true) rfl hF ⟨rfl,trivial⟩ rfl ?_
   exact ⟨rfl,e0⟩
end Go.Proofs.YtfompolnofgldaaDoor
