/- Walks of the laws of proofs held: what each function computes, as a law of its calls. No condition but those that each theorem names. -/
import Derived.Test.YteinikjbaaembaaDoorLaw06D
import Derived.Test.YteinikjbaaembaaDoorTreeH
import Derived.Test.YteinikjbaaembaaDoorTreeI
namespace Go.Proofs.YteinikjbaaembaaDoor
open Go Go.Lane Go.Sha
theorem tincl_at (h : Heap) (L : List Hs) (va : Option Addr) (vc n : Nat) (hL : HR h va vc n L) (hn : n ≤ 1099511627000) (m : Int) (kt : Ktab h) (p : List Hs) (e : Int) (hz : inclZ L m = (p,e)) : Sat Tryd.prog 21 #[.slice va n vc,.int .i64 m] h fun v h' => ∃ s,v = .tuple #[s,.int .i64 e] ∧ OwnNew h h' 23 s p := by
 have := tincl_sat h L va vc n hL hn m kt
 rw [hz] at this
 exact this
theorem tcons_at (h : Heap) (L : List Hs) (va : Option Addr) (vc n : Nat) (hL : HR h va vc n L) (hn : n ≤ 1099511627000) (m : Int) (kt : Ktab h) (p : List Hs) (e : Int) (hz : consZ L m = (p,e)) : Sat Tryd.prog 22 #[.slice va n vc,.int .i64 m] h fun v h' => ∃ s,v = .tuple #[s,.int .i64 e] ∧ OwnNew h h' 23 s p := by
 have := tcons_sat h L va vc n hL hn m kt
 rw [hz] at this
 exact this
noncomputable def b7 : Code := Tryd.f7.body.getD .skip
set_option maxHeartbeats 1000000 in
theorem proved_sat (h : Heap) (sl : List Sl) (va : Option Addr) (vc : Nat) (ra : Rws h va vc sl) (hfl : (flat sl).length ≤ 1048576) (hsl : sl.length ≤ 1048576) (mi : Int) (hmi : -9223372036854775808 ≤ mi ∧ mi ≤ 9223372036854775807) (kt : Ktab h) : Sat Tryd.prog 7 #[.slice va sl.length vc,.int .i64 mi] h fun v h' => v = .bool true ∧ Ext h h' := by
 have e0 := Ext.refl h
 have h0s := kt.lt
 have sep : Sep h.size h.size [] := Sep.nil _ _
 obtain ⟨H,hH⟩ : ∃ H,lvr sl sl.length = H := ⟨_,rfl⟩
 have h32 : All32 H := hH ▸ lvr_32 _ _
 have hHl : H.length = sl.length := by rw [← hH,lvr_len (Nat.le_refl _)]
 refine sat_of (args := [.slice va sl.length vc,.int .i64 mi]) (fn := Tryd.f7) (B := b7) (n := 80) (L := [(0,.slice va sl.length vc),(1,.int .i64 mi)]) Tryd.func7 rfl (by kernel_rfl) rfl ?_
 intro a hF
 refine cS ?_
 refine cP 0 hF ?_
 refine sP 1 [.bool false] ?_
 refine sD [(0,.slice va sl.length vc),(1,.int .i64 mi)] ?_
 clear hF a; intro a hF
 refine tK ?_
 refine cS ?_
 refine cP 1 hF ?_
 refine SeqK.eff (k' := 1) (Does.call (f := 10) (args := #[]) (by kernel_rfl) (shown6_sat _ kt)) rfl ?_
 rintro _ h1 ⟨rfl,g⟩
 replace e0 := e0.ext g
 replace kt := kt.ext g
 replace sep := sep.up g.size
 clear g
 refine sP 2 [.bool true] ?_
 refine sD [(0,.slice va sl.length vc),(1,.int .i64 mi),(5,.bool true)] ?_
 clear hF a; intro a hF
 refine tK ?_
 refine cS ?_
 refine cS ?_
 refine cP 2 hF ?_
 refine sP 2 [.bool true,.bool false] ?_
 refine sD [(0,.slice va sl.length vc),(1,.int .i64 mi),(5,.bool true),(15,.bool false)] ?_
 clear hF a; intro a hF
 refine tK ?_
 refine C.condF 15 [1,1,0,1,0] [1,1,0,1,1] (by kernel_rfl) hF (fun _ => rfl) ?_
 refine C.skip (by kernel_rfl) ?_
 refine tK ?_
 refine cS ?_
 refine cS ?_
 refine cP 4 hF ?_
 refine sP 3 [.slice va sl.length vc,.int .i64 ((sl.length : Nat) : Int),.bool (decide ((300 : Int) < ((sl.length : Nat) : Int)))] ?_
 refine sD [(0,.slice va sl.length vc),(1,.int .i64 mi),(5,.bool true),(18,.bool (decide ((300 : Int) < ((sl.length : Nat) : Int))))] ?_
 clear hF a; intro a hF
 refine tK ?_
 refine C.condS 18 (decide ((300 : Int) < ((sl.length : Nat) : Int))) [1,1,1,0,1,0] [1,1,1,0,1,1] (by kernel_rfl) hF (fun _ => rfl) (fun hc2 => ?_) (fun hc2 => ?_)
 ·skip
  replace hc2 := of_decide_eq_true hc2
  refine cS ?_
  refine cP 5 hF ?_
  refine sP 2 [.bool true,.bool true] ?_
  refine sD [(4,.bool true)] ?_
  clear hF a; intro a hF
  refine tK ?_
  refine C.ret (by kernel_rfl) ?_
  show retK Tryd.prog Tryd.f7 (fun v h' => v = .bool true ∧ Ext h h') .ret a h1
  refine ret_ok [.tmp 4] [.bool true] (.bool true) rfl hF ⟨rfl,trivial⟩ rfl ?_
  exact ⟨rfl,e0⟩
 ·skip
  replace hc2 := of_decide_eq_false hc2
  refine C.skip (by kernel_rfl) ?_
  refine tK ?_
  refine cS ?_
  refine cP 6 hF ?_
  refine sP 1 [.slice va sl.length vc] ?_
  refine SeqK.eff (k' := 2) (Does.call (f := 16) (args := #[.slice va sl.length vc]) (by kernel_rfl) (leaves6_n _ sl va vc (ra.ext e0) hfl hsl H hH)) rfl ?_
  rintro _ h5 ⟨ad3,cap4,rfl,ownx,hge,g⟩
  have hlo := e0.size
  have sepo := sep
  replace e0 := e0.ext g
  replace kt := kt.ext g
  replace sep := sep.up g.size
  replace sep := sepo.cons (x := ad3.map (fun (x : Addr) => x.block)) g.size hlo (fun k e => ⟨hge k e,ownx.lt (by rw [blkOf_slice]; exact e)⟩)
  have own_hl : Own h5 (.slice ad3 sl.length cap4) 23 sl.length 32 (hcs H) := ownx; clear ownx sepo hlo hge g
  refine sP 3 [.slice ad3 sl.length cap4] ?_
  refine sD [(1,.int .i64 mi),(5,.bool true),(6,.slice ad3 sl.length cap4)] ?_
  clear hF a; intro a hF
  refine tK ?_
  refine cS ?_
  refine cP 7 hF ?_
  refine sP 3 [.slice ad3 sl.length cap4,.int .i64 ((sl.length : Nat) : Int),.int .i64 ((sl.length : Nat) : Int)] ?_
  refine sD [(1,.int .i64 mi),(5,.bool true),(6,.slice ad3 sl.length cap4),(7,.int .i64 ((sl.length : Nat) : Int))] ?_
  clear hF a; intro a hF
  refine tK ?_
  refine cS ?_
  refine cS ?_
  rcases Int.lt_or_le mi 0 with hmz | hmz
  ·skip
   obtain ⟨q,rfl⟩ : ∃ q : Nat,mi = -(((q : Nat) : Int) + 1) := ⟨(-(mi + 1)).toNat,by omega⟩
   refine cP 8 hF ?_
   refine sP 1 [.int .i64 (-(((q : Nat) : Int) + 1))] ?_
   refine s1 2 (.bool true) (.bool (decide ((-(((q : Nat) : Int) + 1)) < (0 : Int)))) (congrArg Value.bool (decide_eq_true (by omega))) ?_
   refine sD [(1,.int .i64 (-(((q : Nat) : Int) + 1))),(5,.bool true),(6,.slice ad3 sl.length cap4),(7,.int .i64 ((sl.length : Nat) : Int)),(25,.bool true)] ?_
   clear hF a; intro a hF
   refine tK ?_
   refine C.condT 25 [1,1,1,1,1,1,0,1,0] [1,1,1,1,1,1,0,1,1] (by kernel_rfl) hF (fun _ => rfl) ?_
   refine cP 9 hF ?_
   refine sP 1 [.int .i64 (-(((q : Nat) : Int) + 1))] ?_
   refine s1 2 (.int .i64 ((-(((q : Nat) : Int) + 1)) + 1)) (.int .i64 (IntKind.i64.wrap ((-(((q : Nat) : Int) + 1)) + 1))) (congrArg (Value.int .i64) (w64 (by omega) (by omega))) ?_
   refine s1 3 (.int .i64 ((q : Nat) : Int)) (.int .i64 (IntKind.i64.wrap (0 - ((-(((q : Nat) : Int) + 1)) + 1)))) (congrArg (Value.int .i64) (w64' (by omega) (by omega) (by omega))) ?_
   refine sP 4 [.int .i64 ((q : Nat) : Int)] ?_
   refine sD [(1,.int .i64 ((q : Nat) : Int)),(5,.bool true),(6,.slice ad3 sl.length cap4),(7,.int .i64 ((sl.length : Nat) : Int))] ?_
   clear hF a; intro a hF
   refine tK ?_
   refine cS ?_
   refine cP 10 hF ?_
   refine sP 2 [.int .i64 ((q : Nat) : Int),.int .i64 ((sl.length : Nat) : Int)] ?_
   refine s1 3 (.int .i64 ((sl.length + 1 : Nat) : Int)) (.int .i64 (IntKind.i64.wrap (((sl.length : Nat) : Int) + 1))) (congrArg (Value.int .i64) (w64' (by omega) (by omega) (by omega))) ?_
   refine sC 4 (.int .i64 ((q % (sl.length + 1) : Nat) : Int)) ((Calm.remN (x := q) (y := sl.length + 1) (by kernel_rfl) rfl rfl (by omega)) _) ?_
   refine sP 5 [.int .i64 ((q % (sl.length + 1) : Nat) : Int)] ?_
   refine sD [(1,.int .i64 ((q % (sl.length + 1) : Nat) : Int)),(5,.bool true),(6,.slice ad3 sl.length cap4),(7,.int .i64 ((sl.length : Nat) : Int))] ?_
   clear hF a; intro a hF
   obtain ⟨mm,hmm⟩ : ∃ x,x = q % (sl.length + 1) := ⟨_,rfl⟩
   rw [← hmm] at hF
   have hml : mm < sl.length + 1 := by have := Nat.mod_lt q (show 0 < sl.length + 1 by omega); omega
   refine tK ?_
   refine cS ?_
   refine cP 11 hF ?_
   refine sP 1 [.slice ad3 sl.length cap4] ?_
   refine SeqK.eff (k' := 2) (Does.call (f := 20) (args := #[.slice ad3 sl.length cap4]) (by kernel_rfl) (troot_sat _ H _ _ sl.length (HR.of own_hl h32) kt (by omega))) rfl ?_
   rintro _ h6 ⟨rfl,g⟩
   replace e0 := e0.ext g
   replace kt := kt.ext g
   replace own_hl := own_hl.ext g
   replace sep := sep.up g.size
   clear g
   refine SeqK.eff (k' := 3) (Does.new (v := .pointer (some ⟨h6.size,0,none⟩)) (o := .cells (z32.map bv).toArray 23) (by kernel_rfl)) rfl ?_
   rintro _ h7 ⟨rfl,hh⟩
   have g8 : Ext h6 h7 := push_ext hh
   have m9 : h7[h6.size]? = some (.cells (z32.map bv).toArray 23) := push_at hh
   clear hh
   have lt10 := blk_lt m9
   have zs11 := e0.size
   have hlo := e0.size
   have sepo := sep
   replace e0 := e0.ext g8
   replace kt := kt.ext g8
   replace own_hl := own_hl.ext g8
   replace sep := sep.up g8.size
   replace sep := sepo.new hlo (blk_lt m9)
   clear sepo hlo
   refine SeqK.eff (k' := 4) (Does.store (b := h6.size) (off := 0) (vs := (root H).map bv) (l := z32.map bv) (storeOp_of (by kernel_rfl) (hlm (root_len h32))) m9 (hfit rfl (root_len h32)) (ones_map _)) rfl ?_
   rintro _ h12 ⟨rfl,hh⟩
   have g13 : Grew (some (h6.size)) h7 h12 := hput_gr hh
   replace m9 : h12[h6.size]? = some (.cells ((root H).map bv).toArray 23) := hput_at (off := 0) (vs := (root H).map bv) (l := (z32.map bv)) hh (hsplice rfl (root_len h32)) m9
   clear hh
   replace e0 := e0.grew g13 (sep.low 0 rfl)
   replace kt := kt.grew g13 (sep.zero 0 rfl h0s)
   replace own_hl := own_hl.kept g13 (by rw [blkOf_slice]; exact (sep.ap 1 0 rfl rfl (by decide)))
   replace sep := sep.up g13.size
   refine sD [(1,.int .i64 ((mm : Nat) : Int)),(5,.bool true),(6,.slice ad3 sl.length cap4),(7,.int .i64 ((sl.length : Nat) : Int)),(8,.pointer (some ⟨h6.size,0,none⟩))] ?_
   clear hF a; intro a hF
   refine tK ?_
   refine cS ?_
   refine cS ?_
   rcases Nat.lt_or_ge mm sl.length with hlt | hlt
   ·skip
    obtain ⟨P,hP⟩ : ∃ P,incl H mm = P := ⟨_,rfl⟩
    have hPl : P.length ≤ sl.length := by rw [← hP,← hHl]; exact incl_len _ H mm (Nat.le_refl _)
    have h32P : All32 P := hP ▸ incl_32 _ H mm (Nat.le_refl _) h32
    obtain ⟨ah,rfl,_⟩ := own_hl.someA (by omega)
    have hrl := HR.of own_hl h32
    refine cP 12 hF ?_
    refine sP 2 [.int .i64 ((mm : Nat) : Int),.int .i64 ((sl.length : Nat) : Int)] ?_
    refine s1 3 (.bool true) (.bool (decide (((mm : Nat) : Int) < ((sl.length : Nat) : Int)))) (congrArg Value.bool (decide_eq_true (by omega))) ?_
    refine sD [(1,.int .i64 ((mm : Nat) : Int)),(5,.bool true),(6,.slice (some ah) sl.length cap4),(7,.int .i64 ((sl.length : Nat) : Int)),(8,.pointer (some ⟨h6.size,0,none⟩)),(37,.bool true)] ?_
    clear hF a; intro a hF
    refine tK ?_
    refine C.condT 37 [1,1,1,1,1,1,1,1,1,0,1,0] [1,1,1,1,1,1,1,1,1,0,1,1] (by kernel_rfl) hF (fun _ => rfl) ?_
    refine cS ?_
    refine cP 13 hF ?_
    refine sP 2 [.slice (some ah) sl.length cap4,.int .i64 ((mm : Nat) : Int)] ?_
    refine SeqK.eff (k' := 3) (Does.call (f := 21) (args := #[.slice (some ah) sl.length cap4,.int .i64 ((mm : Nat) : Int)]) (by kernel_rfl) (tincl_at _ H _ _ sl.length (HR.of own_hl h32) (by omega) ((mm : Nat) : Int) kt P 0 (inclZ_pair hHl hlt hP))) rfl ?_
    rintro _ h16 ⟨_,rfl,ad14,cap15,rfl,ownx,hge,g⟩
    have hlo := e0.size
    have sepo := sep
    replace e0 := e0.ext g
    replace kt := kt.ext g
    replace own_hl := own_hl.ext g
    replace m9 := Ext.blk g m9
    replace sep := sep.up g.size
    replace sep := sepo.cons (x := ad14.map (fun (x : Addr) => x.block)) g.size hlo (fun k e => ⟨hge k e,ownx.lt (by rw [blkOf_slice]; exact e)⟩)
    have own_p : Own h16 (.slice ad14 P.length cap15) 23 P.length 32 (hcs P) := ownx; clear ownx sepo hlo hge g
    refine sP 8 [.tuple #[.slice ad14 P.length cap15,.int .i64 0],.slice ad14 P.length cap15,.int .i64 0,.slice ad14 P.length cap15,.int .i64 0] ?_
    refine sD [(1,.int .i64 ((mm : Nat) : Int)),(5,.bool true),(6,.slice (some ah) sl.length cap4),(7,.int .i64 ((sl.length : Nat) : Int)),(8,.pointer (some ⟨h6.size,0,none⟩)),(9,.slice ad14 P.length cap15),(10,.int .i64 0)] ?_
    clear hF a; intro a hF
    refine tK ?_
    refine cS ?_
    refine cD [0,1,3,7,7,31,63,7,7,7,7,2047,4095,8191] 14 mixed hF ?_
    refine mP 31 [0,1,2,3,4] [.int .i64 0,.bool false,.bool false,.slice (some ah) sl.length cap4,.int .i64 ((mm : Nat) : Int)] ?_
    refine mF 63 5 (.pointer (some (Addr.add ah (mm * 32)))) (Calm.indexA (a := ah) (len := sl.length) (sz := 32) (k := ((mm : Nat) : Int)) mm (mm * 32) (by kernel_rfl) rfl (by omega) (by omega)) ?_
    refine mL 127 64 6 (.agg ((H.getD mm []).map bv).toArray) (Calm.load (T := 23) (p := (Addr.add ah (mm * 32))) (by kernel_rfl) (HR.loads (k := mm) (q := mm * 32) (HR.of own_hl h32) (by kernel_rfl) (by omega) (by omega))) ?_
    refine mP 1023 [7,8,9] [.int .i64 ((mm : Nat) : Int),.int .i64 ((sl.length : Nat) : Int),.slice ad14 P.length cap15] ?_
    refine mL 2047 1088 10 (.agg ((root H).map bv).toArray) (Calm.load (T := 23) (p := ⟨h6.size,0,none⟩) (by kernel_rfl) (Loads.hash (by kernel_rfl) (root_len h32) m9)) ?_
    refine SimK.eff0 (i := 11) (D' := 4095) (X' := 4095) (by kernel_rfl) (by kernel_rfl) (by kernel_rfl) (by kernel_rfl) (Does.call (f := 11) (args := #[.agg ((H.getD mm []).map bv).toArray,.int .i64 ((mm : Nat) : Int),.int .i64 ((sl.length : Nat) : Int),.slice ad14 P.length cap15,.agg ((root H).map bv).toArray]) (by kernel_rfl) (vincl_at _ (H.getD mm []) ((mm : Nat) : Int) ((sl.length : Nat) : Int) P _ _ (root H) (hrl.2.1.get (k := mm) (by rw [hrl.2.2]; omega)) (root_len h32) (HR.of own_p h32P) (by omega) (by omega) kt (fun k e => own_p.lt (by rw [blkOf_slice]; exact e)) true (incl_heldN hHl hlt hP))) ?_
    rintro _ h17 ⟨rfl,g⟩
    replace e0 := e0.ext g
    replace kt := kt.ext g
    replace own_hl := own_hl.ext g
    replace own_p := own_p.ext g
    replace m9 := Ext.blk g m9
    replace sep := sep.up g.size
    clear g
    refine mP 16383 [12,13] [.bool false,.bool false] ?_
    refine mD [(1,.int .i64 ((mm : Nat) : Int)),(5,.bool true),(6,.slice (some ah) sl.length cap4),(7,.int .i64 ((sl.length : Nat) : Int)),(8,.pointer (some ⟨h6.size,0,none⟩)),(57,.bool false)] ?_
    clear hF a; intro a hF
    refine tK ?_
    refine C.condF 57 [1,1,1,1,1,1,1,1,1,0,1,0,1,1,0] [1,1,1,1,1,1,1,1,1,0,1,0,1,1,1] (by kernel_rfl) hF (fun _ => rfl) ?_
    refine C.skip (by kernel_rfl) ?_
    refine tK ?_
    refine cS ?_
    obtain ⟨Q,hQ⟩ : ∃ Q,(consZ H ((mm : Nat) : Int)).1 = Q := ⟨_,rfl⟩
    have hQl : Q.length ≤ sl.length := by rw [← hQ,← hHl]; exact consZ_len _ _
    have h32Q : All32 Q := hQ ▸ consZ_32 h32 _
    have hcp := (HR.of own_hl h32).cap
    ·skip
     refine cP 16 hF ?_
     refine sP 2 [.slice (some ah) sl.length cap4,.int .i64 ((mm : Nat) : Int)] ?_
     refine SeqK.eff (k' := 3) (Does.call (f := 22) (args := #[.slice (some ah) sl.length cap4,.int .i64 ((mm : Nat) : Int)]) (by kernel_rfl) (tcons_at _ H _ _ sl.length (HR.of own_hl h32) (by omega) ((mm : Nat) : Int) kt Q 0 (consZ_pair hHl (by omega) hQ))) rfl ?_
     rintro _ h20 ⟨_,rfl,ad18,cap19,rfl,ownx,hge,g⟩
     have hlo := e0.size
     have sepo := sep
     replace e0 := e0.ext g
     replace kt := kt.ext g
     replace own_hl := own_hl.ext g
     replace own_p := own_p.ext g
     replace m9 := Ext.blk g m9
     replace sep := sep.up g.size
     replace sep := sepo.cons (x := ad18.map (fun (x : Addr) => x.block)) g.size hlo (fun k e => ⟨hge k e,ownx.lt (by rw [blkOf_slice]; exact e)⟩)
     have own_q : Own h20 (.slice ad18 Q.length cap19) 23 Q.length 32 (hcs Q) := ownx; clear ownx sepo hlo hge g
     refine sP 8 [.tuple #[.slice ad18 Q.length cap19,.int .i64 0],.slice ad18 Q.length cap19,.int .i64 0,.slice ad18 Q.length cap19,.int .i64 0] ?_
     refine sD [(1,.int .i64 ((mm : Nat) : Int)),(5,.bool true),(6,.slice (some ah) sl.length cap4),(7,.int .i64 ((sl.length : Nat) : Int)),(8,.pointer (some ⟨h6.size,0,none⟩)),(11,.slice ad18 Q.length cap19),(12,.int .i64 0)] ?_
     clear hF a; intro a hF
     refine tK ?_
     refine cS ?_
     refine cD [0,1,3,7,15,31,63,63,63,63,831,1855,63,63,16383,32767,65535] 17 mixed hF ?_
     refine mP 1023 [0,1,2,3,4,5,6,7,8,9] [.bool true,.bool true,.int .i64 0,.bool true,.bool true,.bool true,.int .i64 ((mm : Nat) : Int),.int .i64 ((sl.length : Nat) : Int),.slice (some ah) sl.length cap4,.int .i64 ((mm : Nat) : Int)] ?_
     refine mF 2047 10 (.slice (some ah) mm cap4) (fun h => Calm.sliceO (a := (some ah)) (len := sl.length) (cap := cap4) (sz := 32) (x := (some ah)) 0 mm cap4 mm cap4 (by kernel_rfl) (.inl ⟨rfl,rfl⟩) (.inr rfl) (.inl ⟨rfl,rfl⟩) (by omega) (by omega) (opt_add0 _ 32) (by first | rfl | omega) (by first | rfl | omega) h) ?_
     refine mL 6143 4096 12 (.agg ((root H).map bv).toArray) (Calm.load (T := 23) (p := ⟨h6.size,0,none⟩) (by kernel_rfl) (Loads.hash (by kernel_rfl) (root_len h32) m9)) ?_
     refine mP 14335 [13] [.slice ad18 Q.length cap19] ?_
     refine SimK.eff (i := 11) (D' := 16383) (X' := 3903) (by kernel_rfl) (by kernel_rfl) (by kernel_rfl) [12] (by kernel_rfl) (Does.call (f := 20) (args := #[.slice (some ah) mm cap4]) (by kernel_rfl) (troot_sat _ (H.take mm) _ _ mm ((HR.of own_hl h32).take (k := mm) (by omega)) kt (by omega))) ?_
     rintro _ h21 ⟨rfl,g⟩
     replace e0 := e0.ext g
     replace kt := kt.ext g
     replace own_hl := own_hl.ext g
     replace own_p := own_p.ext g
     replace own_q := own_q.ext g
     replace m9 := Ext.blk g m9
     replace sep := sep.up g.size
     refine ⟨?_,?_⟩
     ·intro j hj
      simp only [List.mem_cons,List.not_mem_nil,or_false] at hj
      subst hj
      exact goodOf (Calm.load (T := 23) (p := ⟨h6.size,0,none⟩) (by kernel_rfl) (Loads.hash (by kernel_rfl) (root_len h32) m9))
     clear g
     refine SimK.eff0 (i := 14) (D' := 32767) (X' := 32767) (by kernel_rfl) (by kernel_rfl) (by kernel_rfl) (by kernel_rfl) (Does.call (f := 14) (args := #[.int .i64 ((mm : Nat) : Int),.int .i64 ((sl.length : Nat) : Int),.agg ((root (H.take mm)).map bv).toArray,.agg ((root H).map bv).toArray,.slice ad18 Q.length cap19]) (by kernel_rfl) (vcons_at _ ((mm : Nat) : Int) ((sl.length : Nat) : Int) (root (H.take mm)) (root H) Q _ _ (root_len (h32.take _)) (root_len h32) (HR.of own_q h32Q) (by omega) (by omega) kt (fun k e => own_q.lt (by rw [blkOf_slice]; exact e)) true (cons_heldN hHl (by omega) hQ))) ?_
     rintro _ h22 ⟨rfl,g⟩
     replace e0 := e0.ext g
     replace kt := kt.ext g
     replace own_hl := own_hl.ext g
     replace own_p := own_p.ext g
     replace own_q := own_q.ext g
     replace m9 := Ext.blk g m9
     replace sep := sep.up g.size
     clear g
     refine mP 131071 [15,16] [.bool true,.bool true] ?_
     refine mD [(4,.bool true)] ?_
     clear hF a; intro a hF
     refine tK ?_
     refine C.ret (by kernel_rfl) ?_
     show retK Tryd.prog Tryd.f7 (fun v h' => v = .bool true ∧ Ext h h') .ret a h22
     refine ret_ok [.tmp 4] [.bool true] (.bool true) rfl hF ⟨rfl,trivial⟩ rfl ?_
     exact ⟨rfl,e0⟩
   ·skip
    refine cP 12 hF ?_
    refine sP 2 [.int .i64 ((mm : Nat) : Int),.int .i64 ((sl.length : Nat) : Int)] ?_
    refine s1 3 (.bool false) (.bool (decide (((mm : Nat) : Int) < ((sl.length : Nat) : Int)))) (congrArg Value.bool (decide_eq_false (by omega))) ?_
    refine sD [(1,.int .i64 ((mm : Nat) : Int)),(5,.bool true),(6,.slice ad3 sl.length cap4),(7,.int .i64 ((sl.length : Nat) : Int)),(8,.pointer (some ⟨h6.size,0,none⟩)),(37,.bool false)] ?_
    clear hF a; intro a hF
    refine tK ?_
    refine C.condF 37 [1,1,1,1,1,1,1,1,1,0,1,0] [1,1,1,1,1,1,1,1,1,0,1,1] (by kernel_rfl) hF (fun _ => rfl) ?_
    refine C.skip (by kernel_rfl) ?_
    refine tK ?_
    refine cS ?_
    obtain ⟨Q,hQ⟩ : ∃ Q,(consZ H ((mm : Nat) : Int)).1 = Q := ⟨_,rfl⟩
    have hQl : Q.length ≤ sl.length := by rw [← hQ,← hHl]; exact consZ_len _ _
    have h32Q : All32 Q := hQ ▸ consZ_32 h32 _
    have hcp := (HR.of own_hl h32).cap
    ·skip
     refine cP 16 hF ?_
     refine sP 2 [.slice ad3 sl.length cap4,.int .i64 ((mm : Nat) : Int)] ?_
     refine SeqK.eff (k' := 3) (Does.call (f := 22) (args := #[.slice ad3 sl.length cap4,.int .i64 ((mm : Nat) : Int)]) (by kernel_rfl) (tcons_at _ H _ _ sl.length (HR.of own_hl h32) (by omega) ((mm : Nat) : Int) kt Q 0 (consZ_pair hHl (by omega) hQ))) rfl ?_
     rintro _ h25 ⟨_,rfl,ad23,cap24,rfl,ownx,hge,g⟩
     have hlo := e0.size
     have sepo := sep
     replace e0 := e0.ext g
     replace kt := kt.ext g
     replace own_hl := own_hl.ext g
     replace m9 := Ext.blk g m9
     replace sep := sep.up g.size
     replace sep := sepo.cons (x := ad23.map (fun (x : Addr) => x.block)) g.size hlo (fun k e => ⟨hge k e,ownx.lt (by rw [blkOf_slice]; exact e)⟩)
     have own_q : Own h25 (.slice ad23 Q.length cap24) 23 Q.length 32 (hcs Q) := ownx; clear ownx sepo hlo hge g
     refine sP 8 [.tuple #[.slice ad23 Q.length cap24,.int .i64 0],.slice ad23 Q.length cap24,.int .i64 0,.slice ad23 Q.length cap24,.int .i64 0] ?_
     refine sD [(1,.int .i64 ((mm : Nat) : Int)),(5,.bool true),(6,.slice ad3 sl.length cap4),(7,.int .i64 ((sl.length : Nat) : Int)),(8,.pointer (some ⟨h6.size,0,none⟩)),(11,.slice ad23 Q.length cap24),(12,.int .i64 0)] ?_
     clear hF a; intro a hF
     refine tK ?_
     refine cS ?_
     refine cD [0,1,3,7,15,31,63,63,63,63,831,1855,63,63,16383,32767,65535] 17 mixed hF ?_
     refine mP 1023 [0,1,2,3,4,5,6,7,8,9] [.bool true,.bool true,.int .i64 0,.bool true,.bool true,.bool true,.int .i64 ((mm : Nat) : Int),.int .i64 ((sl.length : Nat) : Int),.slice ad3 sl.length cap4,.int .i64 ((mm : Nat) : Int)] ?_
     refine mF 2047 10 (.slice ad3 mm cap4) (fun h => Calm.sliceO (a := ad3) (len := sl.length) (cap := cap4) (sz := 32) (x := ad3) 0 mm cap4 mm cap4 (by kernel_rfl) (.inl ⟨rfl,rfl⟩) (.inr rfl) (.inl ⟨rfl,rfl⟩) (by omega) (by omega) (opt_add0 _ 32) (by first | rfl | omega) (by first | rfl | omega) h) ?_
     refine mL 6143 4096 12 (.agg ((root H).map bv).toArray) (Calm.load (T := 23) (p := ⟨h6.size,0,none⟩) (by kernel_rfl) (Loads.hash (by kernel_rfl) (root_len h32) m9)) ?_
     refine mP 14335 [13] [.slice ad23 Q.length cap24] ?_
     refine SimK.eff (i := 11) (D' := 16383) (X' := 3903) (by kernel_rfl) (by kernel_rfl) (by kernel_rfl) [12] (by kernel_rfl) (Does.call (f := 20) (args := #[.slice ad3 mm cap4]) (by kernel_rfl) (troot_sat _ (H.take mm) _ _ mm ((HR.of own_hl h32).take (k := mm) (by omega)) kt (by omega))) ?_
     rintro _ h26 ⟨rfl,g⟩
     replace e0 := e0.ext g
     replace kt := kt.ext g
     replace own_hl := own_hl.ext g
     replace own_q := own_q.ext g
     replace m9 := Ext.blk g m9
     replace sep := sep.up g.size
     refine ⟨?_,?_⟩
     ·intro j hj
      simp only [List.mem_cons,List.not_mem_nil,or_false] at hj
      subst hj
      exact goodOf (Calm.load (T := 23) (p := ⟨h6.size,0,none⟩) (by kernel_rfl) (Loads.hash (by kernel_rfl) (root_len h32) m9))
     clear g
     refine SimK.eff0 (i := 14) (D' := 32767) (X' := 32767) (by kernel_rfl) (by kernel_rfl) (by kernel_rfl) (by kernel_rfl) (Does.call (f := 14) (args := #[.int .i64 ((mm : Nat) : Int),.int .i64 ((sl.length : Nat) : Int),.agg ((root (H.take mm)).map bv).toArray,.agg ((root H).map bv).toArray,.slice ad23 Q.length cap24]) (by kernel_rfl) (vcons_at _ ((mm : Nat) : Int) ((sl.length : Nat) : Int) (root (H.take mm)) (root H) Q _ _ (root_len (h32.take _)) (root_len h32) (HR.of own_q h32Q) (by omega) (by omega) kt (fun k e => own_q.lt (by rw [blkOf_slice]; exact e)) true (cons_heldN hHl (by omega) hQ))) ?_
     rintro _ h27 ⟨rfl,g⟩
     replace e0 := e0.ext g
     replace kt := kt.ext g
     replace own_hl := own_hl.ext g
     replace own_q := own_q.ext g
     replace m9 := Ext.blk g m9
     replace sep := sep.up g.size
     clear g
     refine mP 131071 [15,16] [.bool true,.bool true] ?_
     refine mD [(4,.bool true)] ?_
     clear hF a; intro a hF
     refine tK ?_
     refine C.ret (by kernel_rfl) ?_
     show retK Tryd.prog Tryd.f7 (fun v h' => v = .bool true ∧ Ext h h') .ret a h27
     refine ret_ok [.tmp 4] [.bool true] (.bool true) rfl hF ⟨rfl,trivial⟩ rfl ?_
     exact ⟨rfl,e0⟩
  ·skip
   obtain ⟨q,rfl⟩ : ∃ q : Nat,mi = ((q : Nat) : Int) := ⟨mi.toNat,by omega⟩
   refine cP 8 hF ?_
   refine sP 1 [.int .i64 ((q : Nat) : Int)] ?_
   refine s1 2 (.bool false) (.bool (decide (((q : Nat) : Int) < (0 : Int)))) (congrArg Value.bool (decide_eq_false (by omega))) ?_
   refine sD [(1,.int .i64 ((q : Nat) : Int)),(5,.bool true),(6,.slice ad3 sl.length cap4),(7,.int .i64 ((sl.length : Nat) : Int)),(25,.bool false)] ?_
   clear hF a; intro a hF
   refine tK ?_
   refine C.condF 25 [1,1,1,1,1,1,0,1,0] [1,1,1,1,1,1,0,1,1] (by kernel_rfl) hF (fun _ => rfl) ?_
   refine C.skip (by kernel_rfl) ?_
   refine tK ?_
   refine cS ?_
   refine cP 10 hF ?_
   refine sP 2 [.int .i64 ((q : Nat) : Int),.int .i64 ((sl.length : Nat) : Int)] ?_
   refine s1 3 (.int .i64 ((sl.length + 1 : Nat) : Int)) (.int .i64 (IntKind.i64.wrap (((sl.length : Nat) : Int) + 1))) (congrArg (Value.int .i64) (w64' (by omega) (by omega) (by omega))) ?_
   refine sC 4 (.int .i64 ((q % (sl.length + 1) : Nat) : Int)) ((Calm.remN (x := q) (y := sl.length + 1) (by kernel_rfl) rfl rfl (by omega)) _) ?_
   refine sP 5 [.int .i64 ((q % (sl.length + 1) : Nat) : Int)] ?_
   refine sD [(1,.int .i64 ((q % (sl.length + 1) : Nat) : Int)),(5,.bool true),(6,.slice ad3 sl.length cap4),(7,.int .i64 ((sl.length : Nat) : Int))] ?_
   clear hF a; intro a hF
   obtain ⟨mm,hmm⟩ : ∃ x,x = q % (sl.length + 1) := ⟨_,rfl⟩
   rw [← hmm] at hF
   have hml : mm < sl.length + 1 := by have := Nat.mod_lt q (show 0 < sl.length + 1 by omega); omega
   refine tK ?_
   refine cS ?_
   refine cP 11 hF ?_
   refine sP 1 [.slice ad3 sl.length cap4] ?_
   refine SeqK.eff (k' := 2) (Does.call (f := 20) (args := #[.slice ad3 sl.length cap4]) (by kernel_rfl) (troot_sat _ H _ _ sl.length (HR.of own_hl h32) kt (by omega))) rfl ?_
   rintro _ h28 ⟨rfl,g⟩
   replace e0 := e0.ext g
   replace kt := kt.ext g
   replace own_hl := own_hl.ext g
   replace sep := sep.up g.size
   clear g
   refine SeqK.eff (k' := 3) (Does.new (v := .pointer (some ⟨h28.size,0,none⟩)) (o := .cells (z32.map bv).toArray 23) (by kernel_rfl)) rfl ?_
   rintro _ h29 ⟨rfl,hh⟩
   have g30 : Ext h28 h29 := push_ext hh
   have m31 : h29[h28.size]? = some (.cells (z32.map bv).toArray 23) := push_at hh
   clear hh
   have lt32 := blk_lt m31
   have zs33 := e0.size
   have hlo := e0.size
   have sepo := sep
   replace e0 := e0.ext g30
   replace kt := kt.ext g30
   replace own_hl := own_hl.ext g30
   replace sep := sep.up g30.size
   replace sep := sepo.new hlo (blk_lt m31)
   clear sepo hlo
   refine SeqK.eff (k' := 4) (Does.store (b := h28.size) (off := 0) (vs := (root H).map bv) (l := z32.map bv) (storeOp_of (by kernel_rfl) (hlm (root_len h32))) m31 (hfit rfl (root_len h32)) (ones_map _)) rfl ?_
   rintro _ h34 ⟨rfl,hh⟩
   have g35 : Grew (some (h28.size)) h29 h34 := hput_gr hh
   replace m31 : h34[h28.size]? = some (.cells ((root H).map bv).toArray 23) := hput_at (off := 0) (vs := (root H).map bv) (l := (z32.map bv)) hh (hsplice rfl (root_len h32)) m31
   clear hh
   replace e0 := e0.grew g35 (sep.low 0 rfl)
   replace kt := kt.grew g35 (sep.zero 0 rfl h0s)
   replace own_hl := own_hl.kept g35 (by rw [blkOf_slice]; exact (sep.ap 1 0 rfl rfl (by decide)))
   replace sep := sep.up g35.size
   refine sD [(1,.int .i64 ((mm : Nat) : Int)),(5,.bool true),(6,.slice ad3 sl.length cap4),(7,.int .i64 ((sl.length : Nat) : Int)),(8,.pointer (some ⟨h28.size,0,none⟩))] ?_
   clear hF a; intro a hF
   refine tK ?_
   refine cS ?_
   refine cS ?_
   rcases Nat.lt_or_ge mm sl.length with hlt | hlt
   ·skip
    obtain ⟨P,hP⟩ : ∃ P,incl H mm = P := ⟨_,rfl⟩
    have hPl : P.length ≤ sl.length := by rw [← hP,← hHl]; exact incl_len _ H mm (Nat.le_refl _)
    have h32P : All32 P := hP ▸ incl_32 _ H mm (Nat.le_refl _) h32
    obtain ⟨ah,rfl,_⟩ := own_hl.someA (by omega)
    have hrl := HR.of own_hl h32
    refine cP 12 hF ?_
    refine sP 2 [.int .i64 ((mm : Nat) : Int),.int .i64 ((sl.length : Nat) : Int)] ?_
    refine s1 3 (.bool true) (.bool (decide (((mm : Nat) : Int) < ((sl.length : Nat) : Int)))) (congrArg Value.bool (decide_eq_true (by omega))) ?_
    refine sD [(1,.int .i64 ((mm : Nat) : Int)),(5,.bool true),(6,.slice (some ah) sl.length cap4),(7,.int .i64 ((sl.length : Nat) : Int)),(8,.pointer (some ⟨h28.size,0,none⟩)),(37,.bool true)] ?_
    clear hF a; intro a hF
    refine tK ?_
    refine C.condT 37 [1,1,1,1,1,1,1,1,1,0,1,0] [1,1,1,1,1,1,1,1,1,0,1,1] (by kernel_rfl) hF (fun _ => rfl) ?_
    refine cS ?_
    refine cP 13 hF ?_
    refine sP 2 [.slice (some ah) sl.length cap4,.int .i64 ((mm : Nat) : Int)] ?_
    refine SeqK.eff (k' := 3) (Does.call (f := 21) (args := #[.slice (some ah) sl.length cap4,.int .i64 ((mm : Nat) : Int)]) (by kernel_rfl) (tincl_at _ H _ _ sl.length (HR.of own_hl h32) (by omega) ((mm : Nat) : Int) kt P 0 (inclZ_pair hHl hlt hP))) rfl ?_
    rintro _ h38 ⟨_,rfl,ad36,cap37,rfl,ownx,hge,g⟩
    have hlo := e0.size
    have sepo := sep
    replace e0 := e0.ext g
    replace kt := kt.ext g
    replace own_hl := own_hl.ext g
    replace m31 := Ext.blk g m31
    replace sep := sep.up g.size
    replace sep := sepo.cons (x := ad36.map (fun (x : Addr) => x.block)) g.size hlo (fun k e => ⟨hge k e,ownx.lt (by rw [blkOf_slice]; exact e)⟩)
    have own_p : Own h38 (.slice ad36 P.length cap37) 23 P.length 32 (hcs P) := ownx; clear ownx sepo hlo hge g
    refine sP 8 [.tuple #[.slice ad36 P.length cap37,.int .i64 0],.slice ad36 P.length cap37,.int .i64 0,.slice ad36 P.length cap37,.int .i64 0] ?_
    refine sD [(1,.int .i64 ((mm : Nat) : Int)),(5,.bool true),(6,.slice (some ah) sl.length cap4),(7,.int .i64 ((sl.length : Nat) : Int)),(8,.pointer (some ⟨h28.size,0,none⟩)),(9,.slice ad36 P.length cap37),(10,.int .i64 0)] ?_
    clear hF a; intro a hF
    refine tK ?_
    refine cS ?_
    refine cD [0,1,3,7,7,31,63,7,7,7,7,2047,4095,8191] 14 mixed hF ?_
    refine mP 31 [0,1,2,3,4] [.int .i64 0,.bool false,.bool false,.slice (some ah) sl.length cap4,.int .i64 ((mm : Nat) : Int)] ?_
    refine mF 63 5 (.pointer (some (Addr.add ah (mm * 32)))) (Calm.indexA (a := ah) (len := sl.length) (sz := 32) (k := ((mm : Nat) : Int)) mm (mm * 32) (by kernel_rfl) rfl (by omega) (by omega)) ?_
    refine mL 127 64 6 (.agg ((H.getD mm []).map bv).toArray) (Calm.load (T := 23) (p := (Addr.add ah (mm * 32))) (by kernel_rfl) (HR.loads (k := mm) (q := mm * 32) (HR.of own_hl h32) (by kernel_rfl) (by omega) (by omega))) ?_
    refine mP 1023 [7,8,9] [.int .i64 ((mm : Nat) : Int),.int .i64 ((sl.length : Nat) : Int),.slice ad36 P.length cap37] ?_
    refine mL 2047 1088 10 (.agg ((root H).map bv).toArray) (Calm.load (T := 23) (p := ⟨h28.size,0,none⟩) (by kernel_rfl) (Loads.hash (by kernel_rfl) (root_len h32) m31)) ?_
    refine SimK.eff0 (i := 11) (D' := 4095) (X' := 4095) (by kernel_rfl) (by kernel_rfl) (by kernel_rfl) (by kernel_rfl) (Does.call (f := 11) (args := #[.agg ((H.getD mm []).map bv).toArray,.int .i64 ((mm : Nat) : Int),.int .i64 ((sl.length : Nat) : Int),.slice ad36 P.length cap37,.agg ((root H).map bv).toArray]) (by kernel_rfl) (vincl_at _ (H.getD mm []) ((mm : Nat) : Int) ((sl.length : Nat) : Int) P _ _ (root H) (hrl.2.1.get (k := mm) (by rw [hrl.2.2]; omega)) (root_len h32) (HR.of own_p h32P) (by omega) (by omega) kt (fun k e => own_p.lt (by rw [blkOf_slice]; exact e)) true (incl_heldN hHl hlt hP))) ?_
    rintro _ h39 ⟨rfl,g⟩
    replace e0 := e0.ext g
    replace kt := kt.ext g
    replace own_hl := own_hl.ext g
    replace own_p := own_p.ext g
    replace m31 := Ext.blk g m31
    replace sep := sep.up g.size
    clear g
    refine mP 16383 [12,13] [.bool false,.bool false] ?_
    refine mD [(1,.int .i64 ((mm : Nat) : Int)),(5,.bool true),(6,.slice (some ah) sl.length cap4),(7,.int .i64 ((sl.length : Nat) : Int)),(8,.pointer (some ⟨h28.size,0,none⟩)),(57,.bool false)] ?_
    clear hF a; intro a hF
    refine tK ?_
    refine C.condF 57 [1,1,1,1,1,1,1,1,1,0,1,0,1,1,0] [1,1,1,1,1,1,1,1,1,0,1,0,1,1,1] (by kernel_rfl) hF (fun _ => rfl) ?_
    refine C.skip (by kernel_rfl) ?_
    refine tK ?_
    refine cS ?_
    obtain ⟨Q,hQ⟩ : ∃ Q,(consZ H ((mm : Nat) : Int)).1 = Q := ⟨_,rfl⟩
    have hQl : Q.length ≤ sl.length := by rw [← hQ,← hHl]; exact consZ_len _ _
    have h32Q : All32 Q := hQ ▸ consZ_32 h32 _
    have hcp := (HR.of own_hl h32).cap
    ·skip
     refine cP 16 hF ?_
     refine sP 2 [.slice (some ah) sl.length cap4,.int .i64 ((mm : Nat) : Int)] ?_
     refine SeqK.eff (k' := 3) (Does.call (f := 22) (args := #[.slice (some ah) sl.length cap4,.int .i64 ((mm : Nat) : Int)]) (by kernel_rfl) (tcons_at _ H _ _ sl.length (HR.of own_hl h32) (by omega) ((mm : Nat) : Int) kt Q 0 (consZ_pair hHl (by omega) hQ))) rfl ?_
     rintro _ h42 ⟨_,rfl,ad40,cap41,rfl,ownx,hge,g⟩
     have hlo := e0.size
     have sepo := sep
     replace e0 := e0.ext g
     replace kt := kt.ext g
     replace own_hl := own_hl.ext g
     replace own_p := own_p.ext g
     replace m31 := Ext.blk g m31
     replace sep := sep.up g.size
     replace sep := sepo.cons (x := ad40.map (fun (x : Addr) => x.block)) g.size hlo (fun k e => ⟨hge k e,ownx.lt (by rw [blkOf_slice]; exact e)⟩)
     have own_q : Own h42 (.slice ad40 Q.length cap41) 23 Q.length 32 (hcs Q) := ownx; clear ownx sepo hlo hge g
     refine sP 8 [.tuple #[.slice ad40 Q.length cap41,.int .i64 0],.slice ad40 Q.length cap41,.int .i64 0,.slice ad40 Q.length cap41,.int .i64 0] ?_
     refine sD [(1,.int .i64 ((mm : Nat) : Int)),(5,.bool true),(6,.slice (some ah) sl.length cap4),(7,.int .i64 ((sl.length : Nat) : Int)),(8,.pointer (some ⟨h28.size,0,none⟩)),(11,.slice ad40 Q.length cap41),(12,.int .i64 0)] ?_
     clear hF a; intro a hF
     refine tK ?_
     refine cS ?_
     refine cD [0,1,3,7,15,31,63,63,63,63,831,1855,63,63,16383,32767,65535] 17 mixed hF ?_
     refine mP 1023 [0,1,2,3,4,5,6,7,8,9] [.bool true,.bool true,.int .i64 0,.bool true,.bool true,.bool true,.int .i64 ((mm : Nat) : Int),.int .i64 ((sl.length : Nat) : Int),.slice (some ah) sl.length cap4,.int .i64 ((mm : Nat) : Int)] ?_
     refine mF 2047 10 (.slice (some ah) mm cap4) (fun h => Calm.sliceO (a := (some ah)) (len := sl.length) (cap := cap4) (sz := 32) (x := (some ah)) 0 mm cap4 mm cap4 (by kernel_rfl) (.inl ⟨rfl,rfl⟩) (.inr rfl) (.inl ⟨rfl,rfl⟩) (by omega) (by omega) (opt_add0 _ 32) (by first | rfl | omega) (by first | rfl | omega) h) ?_
     refine mL 6143 4096 12 (.agg ((root H).map bv).toArray) (Calm.load (T := 23) (p := ⟨h28.size,0,none⟩) (by kernel_rfl) (Loads.hash (by kernel_rfl) (root_len h32) m31)) ?_
     refine mP 14335 [13] [.slice ad40 Q.length cap41] ?_
     refine SimK.eff (i := 11) (D' := 16383) (X' := 3903) (by kernel_rfl) (by kernel_rfl) (by kernel_rfl) [12] (by kernel_rfl) (Does.call (f := 20) (args := #[.slice (some ah) mm cap4]) (by kernel_rfl) (troot_sat _ (H.take mm) _ _ mm ((HR.of own_hl h32).take (k := mm) (by omega)) kt (by omega))) ?_
     rintro _ h43 ⟨rfl,g⟩
     replace e0 := e0.ext g
     replace kt := kt.ext g
     replace own_hl := own_hl.ext g
     replace own_p := own_p.ext g
     replace own_q := own_q.ext g
     replace m31 := Ext.blk g m31
     replace sep := sep.up g.size
     refine ⟨?_,?_⟩
     ·intro j hj
      simp only [List.mem_cons,List.not_mem_nil,or_false] at hj
      subst hj
      exact goodOf (Calm.load (T := 23) (p := ⟨h28.size,0,none⟩) (by kernel_rfl) (Loads.hash (by kernel_rfl) (root_len h32) m31))
     clear g
     refine SimK.eff0 (i := 14) (D' := 32767) (X' := 32767) (by kernel_rfl) (by kernel_rfl) (by kernel_rfl) (by kernel_rfl) (Does.call (f := 14) (args := #[.int .i64 ((mm : Nat) : Int),.int .i64 ((sl.length : Nat) : Int),.agg ((root (H.take mm)).map bv).toArray,.agg ((root H).map bv).toArray,.slice ad40 Q.length cap41]) (by kernel_rfl) (vcons_at _ ((mm : Nat) : Int) ((sl.length : Nat) : Int) (root (H.take mm)) (root H) Q _ _ (root_len (h32.take _)) (root_len h32) (HR.of own_q h32Q) (by omega) (by omega) kt (fun k e => own_q.lt (by rw [blkOf_slice]; exact e)) true (cons_heldN hHl (by omega) hQ))) ?_
     rintro _ h44 ⟨rfl,g⟩
     replace e0 := e0.ext g
     replace kt := kt.ext g
     replace own_hl := own_hl.ext g
     replace own_p := own_p.ext g
     replace own_q := own_q.ext g
     replace m31 := Ext.blk g m31
     replace sep := sep.up g.size
     clear g
     refine mP 131071 [15,16] [.bool true,.bool true] ?_
     refine mD [(4,.bool true)] ?_
     clear hF a; intro a hF
     refine tK ?_
     refine C.ret (by kernel_rfl) ?_
     show retK Tryd.prog Tryd.f7 (fun v h' => v = .bool true ∧ Ext h h') .ret a h44
     refine ret_ok [.tmp 4] [.bool true] (.bool true) rfl hF ⟨rfl,trivial⟩ rfl ?_
     exact ⟨rfl,e0⟩
   ·skip
    refine cP 12 hF ?_
    refine sP 2 [.int .i64 ((mm : Nat) : Int),.int .i64 ((sl.length : Nat) : Int)] ?_
    refine s1 3 (.bool false) (.bool (decide (((mm : Nat) : Int) < ((sl.length : Nat) : Int)))) (congrArg Value.bool (decide_eq_false (by omega))) ?_
    refine sD [(1,.int .i64 ((mm : Nat) : Int)),(5,.bool true),(6,.slice ad3 sl.length cap4),(7,.int .i64 ((sl.length : Nat) : Int)),(8,.pointer (some ⟨h28.size,0,none⟩)),(37,.bool false)] ?_
    clear hF a; intro a hF
    refine tK ?_
    refine C.condF 37 [1,1,1,1,1,1,1,1,1,0,1,0] [1,1,1,1,1,1,1,1,1,0,1,1] (by kernel_rfl) hF (fun _ => rfl) ?_
    refine C.skip (by kernel_rfl) ?_
    refine tK ?_
    refine cS ?_
    obtain ⟨Q,hQ⟩ : ∃ Q,(consZ H ((mm : Nat) : Int)).1 = Q := ⟨_,rfl⟩
    have hQl : Q.length ≤ sl.length := by rw [← hQ,← hHl]; exact consZ_len _ _
    have h32Q : All32 Q := hQ ▸ consZ_32 h32 _
    have hcp := (HR.of own_hl h32).cap
    ·skip
     refine cP 16 hF ?_
     refine sP 2 [.slice ad3 sl.length cap4,.int .i64 ((mm : Nat) : Int)] ?_
     refine SeqK.eff (k' := 3) (Does.call (f := 22) (args := #[.slice ad3 sl.length cap4,.int .i64 ((mm : Nat) : Int)]) (by kernel_rfl) (tcons_at _ H _ _ sl.length (HR.of own_hl h32) (by omega) ((mm : Nat) : Int) kt Q 0 (consZ_pair hHl (by omega) hQ))) rfl ?_
     rintro _ h47 ⟨_,rfl,ad45,cap46,rfl,ownx,hge,g⟩
     have hlo := e0.size
     have sepo := sep
     replace e0 := e0.ext g
     replace kt := kt.ext g
     replace own_hl := own_hl.ext g
     replace m31 := Ext.blk g m31
     replace sep := sep.up g.size
     replace sep := sepo.cons (x := ad45.map (fun (x : Addr) => x.block)) g.size hlo (fun k e => ⟨hge k e,ownx.lt (by rw [blkOf_slice]; exact e)⟩)
     have own_q : Own h47 (.slice ad45 Q.length cap46) 23 Q.length 32 (hcs Q) := ownx; clear ownx sepo hlo hge g
     refine sP 8 [.tuple #[.slice ad45 Q.length cap46,.int .i64 0],.slice ad45 Q.length cap46,.int .i64 0,.slice ad45 Q.length cap46,.int .i64 0] ?_
     refine sD [(1,.int .i64 ((mm : Nat) : Int)),(5,.bool true),(6,.slice ad3 sl.length cap4),(7,.int .i64 ((sl.length : Nat) : Int)),(8,.pointer (some ⟨h28.size,0,none⟩)),(11,.slice ad45 Q.length cap46),(12,.int .i64 0)] ?_
     clear hF a; intro a hF
     refine tK ?_
     refine cS ?_
     refine cD [0,1,3,7,15,31,63,63,63,63,831,1855,63,63,16383,32767,65535] 17 mixed hF ?_
     refine mP 1023 [0,1,2,3,4,5,6,7,8,9] [.bool true,.bool true,.int .i64 0,.bool true,.bool true,.bool true,.int .i64 ((mm : Nat) : Int),.int .i64 ((sl.length : Nat) : Int),.slice ad3 sl.length cap4,.int .i64 ((mm : Nat) : Int)] ?_
     refine mF 2047 10 (.slice ad3 mm cap4) (fun h => Calm.sliceO (a := ad3) (len := sl.length) (cap := cap4) (sz := 32) (x := ad3) 0 mm cap4 mm cap4 (by kernel_rfl) (.inl ⟨rfl,rfl⟩) (.inr rfl) (.inl ⟨rfl,rfl⟩) (by omega) (by omega) (opt_add0 _ 32) (by first | rfl | omega) (by first | rfl | omega) h) ?_
     refine mL 6143 4096 12 (.agg ((root H).map bv).toArray) (Calm.load (T := 23) (p := ⟨h28.size,0,none⟩) (by kernel_rfl) (Loads.hash (by kernel_rfl) (root_len h32) m31)) ?_
     refine mP 14335 [13] [.slice ad45 Q.length cap46] ?_
     refine SimK.eff (i := 11) (D' := 16383) (X' := 3903) (by kernel_rfl) (by kernel_rfl) (by kernel_rfl) [12] (by kernel_rfl) (Does.call (f := 20) (args := #[.slice ad3 mm cap4]) (by kernel_rfl) (troot_sat _ (H.take mm) _ _ mm ((HR.of own_hl h32).take (k := mm) (by omega)) kt (by omega))) ?_
     rintro _ h48 ⟨rfl,g⟩
     replace e0 := e0.ext g
     replace kt := kt.ext g
     replace own_hl := own_hl.ext g
     replace own_q := own_q.ext g
     replace m31 := Ext.blk g m31
     replace sep := sep.up g.size
     refine ⟨?_,?_⟩
     ·intro j hj
      simp only [List.mem_cons,List.not_mem_nil,or_false] at hj
      subst hj
      exact goodOf (Calm.load (T := 23) (p := ⟨h28.size,0,none⟩) (by kernel_rfl) (Loads.hash (by kernel_rfl) (root_len h32) m31))
     clear g
     refine SimK.eff0 (i := 14) (D' := 32767) (X' := 32767) (by kernel_rfl) (by kernel_rfl) (by kernel_rfl) (by kernel_rfl) (Does.call (f := 14) (args := #[.int .i64 ((mm : Nat) : Int),.int .i64 ((sl.length : Nat) : Int),.agg ((root (H.take mm)).map bv).toArray,.agg ((root H).map bv).toArray,.slice ad45 Q.length cap46]) (by kernel_rfl) (vcons_at _ ((mm : Nat) : Int) ((sl.length : Nat) : Int) (root (H.take mm)) (root H) Q _ _ (root_len (h32.take _)) (root_len h32) (HR.of own_q h32Q) (by omega) (by omega) kt (fun k e => own_q.lt (by rw [blkOf_slice]; exact e)) true (cons_heldN hHl (by omega) hQ))) ?_
     rintro _ h49 ⟨rfl,g⟩
     replace e0 := e0.ext g
     replace kt := kt.ext g
     replace own_hl := own_hl.ext g
     replace own_q := own_q.ext g
     replace m31 := Ext.blk g m31
     replace sep := sep.up g.size
     clear g
     refine mP 131071 [15,16] [.bool true,.bool true] ?_
     refine mD [(4,.bool true)] ?_
     clear hF a; intro a hF
     refine tK ?_
     refine C.ret (by kernel_rfl) ?_
     show retK Tryd.prog Tryd.f7 (fun v h' => v = .bool true ∧ Ext h h') .ret a h49
     refine ret_ok [.tmp 4] [.bool true] (.bool true) rfl hF ⟨rfl,trivial⟩ rfl ?_
     exact ⟨rfl,e0⟩
end Go.Proofs.YteinikjbaaembaaDoor
