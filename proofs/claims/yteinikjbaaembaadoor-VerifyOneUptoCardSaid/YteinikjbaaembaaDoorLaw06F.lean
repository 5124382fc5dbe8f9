/- Walks of the laws of proofs held: what each function computes, as a law of its calls. No condition but those that each theorem names. -/
import Derived.Test.YteinikjbaaembaaDoorLaw06D
import Derived.Test.YteinikjbaaembaaDoorTreeH
import Derived.Test.YteinikjbaaembaaDoorTreeI
import Derived.Test.YteinikjbaaembaaDoorTreeF
namespace Go.Proofs.YteinikjbaaembaaDoor
open Go Go.Lane Go.Sha
theorem tincl_at (h : Heap) (L : List Hs) (va : Option Addr) (vc n : Nat) (hL : HR h va vc n L) (hn : n ≤ 1099511627000) (m : Int) (kt : Ktab h) (p : List Hs) (e : Int) (hz : inclZ L m = (p,e)) : Sat Tryd.prog 21 #[.slice va n vc,.int .i64 m] h fun v h' => ∃ s,v = .tuple #[s,.int .i64 e] ∧ OwnNew h h' 23 s p := by
 have := tincl_sat h L va vc n hL hn m kt
 rw [hz] at this
 exact this
theorem tcons_at (h : Heap) (L : List Hs) (va : Option Addr) (vc n : Nat) (hL : HR h va vc n L) (hn : n ≤ 1099511627000) (m : Int) (kt : Ktab h) (p : List Hs) (e : Int) (hz : consZ L m = (p,e)) : Sat Tryd.prog 22 #[.slice va n vc,.int .i64 m] h fun v h' => ∃ s,v = .tuple #[s,.int .i64 e] ∧ OwnNew h h' 23 s p := by
 have := tcons_sat h L va vc n hL hn m kt
 rw [hz] at this
 exact this
theorem off_blk {a x : Option Addr} {c : Prop} [Decidable c] {q : Nat} (e : x = if c then a else a.map (·.add q)) : x.map (fun (x : Addr) => x.block) = a.map (fun (x : Addr) => x.block) := by
 subst e; split
 ·rfl
 ·cases a with
  | none => rfl
  | some b => simp only [Option.map_some,Addr.add]; split <;> rfl
theorem vincl_n (h : Heap) (x : Hs) (m n : Int) (r : List Hs) (va : Option Addr) (vc : Nat) (t : Hs) (k : Nat) (hk : r.length = k) (hx : x.length = 32) (ht : t.length = 32) (hr : HR h va vc k r) (hrl : k ≤ 1099511627776) (hn : n ≤ 9223372036854775807) (kt : Ktab h) (hvl : ∀ k,va.map (fun (x : Addr) => x.block) = some k → k < h.size) (v : Bool) (hv : inclB x m n r t = v) : Sat Tryd.prog 11 #[.agg (x.map bv).toArray,.int .i64 m,.int .i64 n,.slice va k vc,.agg (t.map bv).toArray] h fun u h' => u = .bool v ∧ Ext h h' := by
 subst hk; exact vincl_at h x m n r va vc t hx ht hr hrl hn kt hvl v hv
theorem vcons_n (h : Heap) (m n : Int) (x t : Hs) (r : List Hs) (va : Option Addr) (vc : Nat) (k : Nat) (hk : r.length = k) (hx : x.length = 32) (ht : t.length = 32) (hr : HR h va vc k r) (hrl : k ≤ 1099511627776) (hn : n ≤ 9223372036854775807) (kt : Ktab h) (hvl : ∀ k,va.map (fun (x : Addr) => x.block) = some k → k < h.size) (v : Bool) (hv : consB m n x t r = v) : Sat Tryd.prog 14 #[.int .i64 m,.int .i64 n,.agg (x.map bv).toArray,.agg (t.map bv).toArray,.slice va k vc] h fun u h' => u = .bool v ∧ Ext h h' := by
 subst hk; exact vcons_at h m n x t r va vc hx ht hr hrl hn kt hvl v hv
noncomputable def b8 : Code := Tryd.f8.body.getD .skip
set_option maxHeartbeats 2000000 in
theorem one_sat (h : Heap) (sl : List Sl) (va : Option Addr) (vc : Nat) (ra : Rws h va vc sl) (hfl : (flat sl).length ≤ 1048576) (hsl : sl.length ≤ 1048576) (mi : Int) (hmi : -9223372036854775808 ≤ mi ∧ mi ≤ 9223372036854775807) (y : Hs) (hy : y.length = 32) (kt : Ktab h) : Sat Tryd.prog 8 #[.slice va sl.length vc,.int .i64 mi,.agg (y.map bv).toArray] h fun v h' => v = .bool true ∧ Ext h h' := by
 have e0 := Ext.refl h
 have h0s := kt.lt
 have sep : Sep h.size h.size [] := Sep.nil _ _
 obtain ⟨H,hH⟩ : ∃ H,lvr sl sl.length = H := ⟨_,rfl⟩
 have h32 : All32 H := hH ▸ lvr_32 _ _
 have hHl : H.length = sl.length := by rw [← hH,lvr_len (Nat.le_refl _)]
 refine sat_of (args := [.slice va sl.length vc,.int .i64 mi,.agg (y.map bv).toArray]) (fn := Tryd.f8) (B := b8) (n := 173) (L := [(0,.slice va sl.length vc),(1,.int .i64 mi),(2,.agg (y.map bv).toArray)]) Tryd.func8 rfl (by kernel_rfl) rfl ?_
 intro a hF
 refine cS ?_
 refine cP 0 hF ?_
 refine SeqK.eff (k' := 1) (Does.new (v := .pointer (some ⟨h.size,0,none⟩)) (o := .cells (y.map bv).toArray 23) (by kernel_rfl)) rfl ?_
 rintro _ h1 ⟨rfl,hh⟩
 have g2 : Ext h h1 := push_ext hh
 have m3 : h1[h.size]? = some (.cells (y.map bv).toArray 23) := push_at hh
 clear hh
 have lt4 := blk_lt m3
 have zs5 := e0.size
 have hlo := e0.size
 have sepo := sep
 replace e0 := e0.ext g2
 replace kt := kt.ext g2
 replace sep := sep.up g2.size
 replace sep := sepo.new hlo (blk_lt m3)
 clear sepo hlo
 refine sP 2 [.bool false] ?_
 refine sD [(0,.slice va sl.length vc),(1,.int .i64 mi),(5,pV h.size)] ?_
 clear hF a; intro a hF
 refine tK ?_
 refine cS ?_
 refine cP 1 hF ?_
 refine SeqK.eff (k' := 1) (Does.call (f := 10) (args := #[]) (by kernel_rfl) (shown6_sat _ kt)) rfl ?_
 rintro _ h6 ⟨rfl,g⟩
 replace e0 := e0.ext g
 replace kt := kt.ext g
 replace m3 := Ext.blk g m3
 replace sep := sep.up g.size
 clear g
 refine sP 2 [.bool true] ?_
 refine sD [(0,.slice va sl.length vc),(1,.int .i64 mi),(5,pV h.size),(7,.bool true)] ?_
 clear hF a; intro a hF
 refine tK ?_
 refine cS ?_
 refine cS ?_
 refine cP 2 hF ?_
 refine sP 2 [.bool true,.bool false] ?_
 refine sD [(0,.slice va sl.length vc),(1,.int .i64 mi),(5,pV h.size),(7,.bool true),(19,.bool false)] ?_
 clear hF a; intro a hF
 refine tK ?_
 refine cF 19 hF ?_
 refine cN ?_
 refine tK ?_
 refine cS ?_
 refine cS ?_
 rcases (show 300 < sl.length ∨ sl.length ≤ 300 ∧ sl.length < 2 ∨ sl.length ≤ 300 ∧ 2 ≤ sl.length by omega) with hn2 | hn2 | hn2
 ·skip
  refine cP 4 hF ?_
  refine sP 2 [.slice va sl.length vc,nV sl.length] ?_
  refine s1 3 (.bool true) (.bool (decide ((300 : Int) < ((sl.length : Nat) : Int)))) (congrArg Value.bool (decide_eq_true (by omega))) ?_
  refine sP 8 [.bool true,undef,undef,undef,.bool true] ?_
  refine sD [(0,.slice va sl.length vc),(1,.int .i64 mi),(5,pV h.size),(7,.bool true),(27,.bool true)] ?_
  clear hF a; intro a hF
  refine tK ?_
  refine cT 27 hF ?_
  refine cS ?_
  refine cP 5 hF ?_
  refine sP 2 [.bool true,.bool true] ?_
  refine sD [(6,.bool true)] ?_
  clear hF a; intro a hF
  refine tK ?_
  refine cR ?_
  show retK Tryd.prog Tryd.f8 (fun v h' => v = .bool true ∧ Ext h h') .ret a h6
  refine ret_ok [.tmp 6] [.bool true] (.bool true) rfl hF ⟨rfl,trivial⟩ rfl ?_
  exact ⟨rfl,e0⟩
 ·skip
  refine cP 4 hF ?_
  refine sP 2 [.slice va sl.length vc,nV sl.length] ?_
  refine s1 3 (.bool false) (.bool (decide ((300 : Int) < ((sl.length : Nat) : Int)))) (congrArg Value.bool (decide_eq_false (by omega))) ?_
  refine sP 6 [.bool false,.slice va sl.length vc,nV sl.length] ?_
  refine s1 7 (.bool true) (.bool (decide (((sl.length : Nat) : Int) < (2 : Int)))) (congrArg Value.bool (decide_eq_true (by omega))) ?_
  refine sP 8 [.bool true] ?_
  refine sD [(0,.slice va sl.length vc),(1,.int .i64 mi),(5,pV h.size),(7,.bool true),(27,.bool true)] ?_
  clear hF a; intro a hF
  refine tK ?_
  refine cT 27 hF ?_
  refine cS ?_
  refine cP 5 hF ?_
  refine sP 2 [.bool true,.bool true] ?_
  refine sD [(6,.bool true)] ?_
  clear hF a; intro a hF
  refine tK ?_
  refine cR ?_
  show retK Tryd.prog Tryd.f8 (fun v h' => v = .bool true ∧ Ext h h') .ret a h6
  refine ret_ok [.tmp 6] [.bool true] (.bool true) rfl hF ⟨rfl,trivial⟩ rfl ?_
  exact ⟨rfl,e0⟩
 ·skip
  refine cP 4 hF ?_
  refine sP 2 [.slice va sl.length vc,nV sl.length] ?_
  refine s1 3 (.bool false) (.bool (decide ((300 : Int) < ((sl.length : Nat) : Int)))) (congrArg Value.bool (decide_eq_false (by omega))) ?_
  refine sP 6 [.bool false,.slice va sl.length vc,nV sl.length] ?_
  refine s1 7 (.bool false) (.bool (decide (((sl.length : Nat) : Int) < (2 : Int)))) (congrArg Value.bool (decide_eq_false (by omega))) ?_
  refine sP 8 [.bool false] ?_
  refine sD [(0,.slice va sl.length vc),(1,.int .i64 mi),(5,pV h.size),(7,.bool true),(27,.bool false)] ?_
  clear hF a; intro a hF
  refine tK ?_
  refine cF 27 hF ?_
  refine cN ?_
  refine tK ?_
  refine cS ?_
  refine cP 6 hF ?_
  refine sP 1 [.slice va sl.length vc] ?_
  refine SeqK.eff (k' := 2) (Does.call (f := 16) (args := #[.slice va sl.length vc]) (by kernel_rfl) (leaves6_n _ sl va vc (ra.ext e0) hfl hsl H hH)) rfl ?_
  rintro _ h9 ⟨ad7,cap8,rfl,ownx,hge,g⟩
  have hlo := e0.size
  have sepo := sep
  replace e0 := e0.ext g
  replace kt := kt.ext g
  replace m3 := Ext.blk g m3
  replace sep := sep.up g.size
  replace sep := sepo.cons (x := ad7.map (fun (x : Addr) => x.block)) g.size hlo (fun k e => ⟨hge k e,ownx.lt (by rw [blkOf_slice]; exact e)⟩)
  have own_hl : Own h9 (.slice ad7 sl.length cap8) 23 sl.length 32 (hcs H) := ownx; clear ownx sepo hlo hge g
  refine sP 3 [.slice ad7 sl.length cap8] ?_
  refine sD [(1,.int .i64 mi),(5,pV h.size),(7,.bool true),(8,.slice ad7 sl.length cap8)] ?_
  clear hF a; intro a hF
  refine tK ?_
  refine cS ?_
  refine cP 7 hF ?_
  refine sP 3 [.slice ad7 sl.length cap8,nV sl.length,nV sl.length] ?_
  refine sD [(1,.int .i64 mi),(5,pV h.size),(7,.bool true),(8,.slice ad7 sl.length cap8),(9,nV sl.length)] ?_
  clear hF a; intro a hF
  refine tK ?_
  refine cS ?_
  refine C.mono (K := fun e a hJ => e = .normal ∧ h9 = hJ ∧ ∃ q : Nat,q ≤ 9223372036854775807 ∧ Fr a 173 [(1,.int .i64 ((q : Nat) : Int)),(5,.pointer (some ⟨h.size,0,none⟩)),(7,.bool true),(8,.slice ad7 sl.length cap8),(9,.int .i64 ((sl.length : Nat) : Int))]) ?_ ?_
  ·skip
   refine cS ?_
   rcases Int.lt_or_le mi 0 with hmz | hmz
   ·skip
    obtain ⟨q,rfl⟩ : ∃ q : Nat,mi = -(((q : Nat) : Int) + 1) := ⟨(-(mi + 1)).toNat,by omega⟩
    refine cP 8 hF ?_
    refine sP 1 [.int .i64 (-(((q : Nat) : Int) + 1))] ?_
    refine s1 2 (.bool true) (.bool (decide ((-(((q : Nat) : Int) + 1)) < (0 : Int)))) (congrArg Value.bool (decide_eq_true (by omega))) ?_
    refine sD [(1,.int .i64 (-(((q : Nat) : Int) + 1))),(5,pV h.size),(7,.bool true),(8,.slice ad7 sl.length cap8),(9,nV sl.length),(34,.bool true)] ?_
    clear hF a; intro a hF
    refine tK ?_
    refine cT 34 hF ?_
    refine cP 9 hF ?_
    refine sP 1 [.int .i64 (-(((q : Nat) : Int) + 1))] ?_
    refine s1 2 (.int .i64 ((-(((q : Nat) : Int) + 1)) + 1)) (.int .i64 (IntKind.i64.wrap ((-(((q : Nat) : Int) + 1)) + 1))) (congrArg (Value.int .i64) (w64 (by omega) (by omega))) ?_
    refine s1 3 (.int .i64 ((q : Nat) : Int)) (.int .i64 (IntKind.i64.wrap (0 - ((-(((q : Nat) : Int) + 1)) + 1)))) (congrArg (Value.int .i64) (w64' (by omega) (by omega) (by omega))) ?_
    refine sP 4 [nV q] ?_
    refine sD [(1,nV q),(5,pV h.size),(7,.bool true),(8,.slice ad7 sl.length cap8),(9,nV sl.length)] ?_
    clear hF a; intro a hF
    exact ⟨rfl,rfl,q,by omega,hF⟩
   ·skip
    obtain ⟨q,rfl⟩ : ∃ q : Nat,mi = ((q : Nat) : Int) := ⟨mi.toNat,by omega⟩
    refine cP 8 hF ?_
    refine sP 1 [nV q] ?_
    refine s1 2 (.bool false) (.bool (decide (((q : Nat) : Int) < (0 : Int)))) (congrArg Value.bool (decide_eq_false (by omega))) ?_
    refine sD [(1,nV q),(5,pV h.size),(7,.bool true),(8,.slice ad7 sl.length cap8),(9,nV sl.length),(34,.bool false)] ?_
    clear hF a; intro a hF
    refine tK ?_
    refine cF 34 hF ?_
    refine cN ?_
    exact ⟨rfl,rfl,q,by omega,hF.to⟩
  ·skip
   clear hF a
   rintro e a _ ⟨rfl,rfl,q,hjn,hF⟩
   refine tK ?_
   refine cS ?_
   refine cP 10 hF ?_
   refine sP 2 [nV q,nV sl.length] ?_
   refine sC 3 (.int .i64 ((q % (sl.length) : Nat) : Int)) ((Calm.remN (x := q) (y := sl.length) (by kernel_rfl) rfl rfl (by omega)) _) ?_
   refine sP 4 [nV (q % (sl.length))] ?_
   refine sD [(1,nV (q % (sl.length))),(5,pV h.size),(7,.bool true),(8,.slice ad7 sl.length cap8),(9,nV sl.length)] ?_
   clear hF a; intro a hF
   obtain ⟨mm,hmm⟩ : ∃ x,x = q % (sl.length) := ⟨_,rfl⟩
   rw [← hmm] at hF
   have hml : mm < sl.length := by have := Nat.mod_lt q (show 0 < sl.length by omega); omega
   refine tK ?_
   refine cS ?_
   refine cP 11 hF ?_
   refine sP 1 [.slice ad7 sl.length cap8] ?_
   refine SeqK.eff (k' := 2) (Does.call (f := 17) (args := #[.slice ad7 sl.length cap8]) (by kernel_rfl) (rroot_sat _ H _ _ sl.length (HR.of own_hl h32) (by omega))) rfl ?_
   rintro _ h10 ⟨rfl,g⟩
   replace e0 := e0.ext g
   replace kt := kt.ext g
   replace own_hl := own_hl.ext g
   replace m3 := Ext.blk g m3
   replace sep := sep.up g.size
   clear g
   refine SeqK.eff (k' := 3) (Does.new (v := .pointer (some ⟨h10.size,0,none⟩)) (o := .cells (z32.map bv).toArray 23) (by kernel_rfl)) rfl ?_
   rintro _ h11 ⟨rfl,hh⟩
   have g12 : Ext h10 h11 := push_ext hh
   have m13 : h11[h10.size]? = some (.cells (z32.map bv).toArray 23) := push_at hh
   clear hh
   have lt14 := blk_lt m13
   have zs15 := e0.size
   have hlo := e0.size
   have sepo := sep
   replace e0 := e0.ext g12
   replace kt := kt.ext g12
   replace own_hl := own_hl.ext g12
   replace m3 := Ext.blk g12 m3
   replace sep := sep.up g12.size
   replace sep := sepo.new hlo (blk_lt m13)
   clear sepo hlo
   refine SeqK.eff (k' := 4) (Does.store (b := h10.size) (off := 0) (vs := (root H).map bv) (l := z32.map bv) (storeOp_of (by kernel_rfl) (hlm (root_len h32))) m13 (hfit rfl (root_len h32)) (ones_map _)) rfl ?_
   rintro _ h16 ⟨rfl,hh⟩
   have g17 : Grew (some (h10.size)) h11 h16 := hput_gr hh
   replace m13 : h16[h10.size]? = some (.cells ((root H).map bv).toArray 23) := hput_at (off := 0) (vs := (root H).map bv) (l := (z32.map bv)) hh (hsplice rfl (root_len h32)) m13
   clear hh
   replace e0 := e0.grew g17 (sep.low 0 rfl)
   replace kt := kt.grew g17 (sep.zero 0 rfl h0s)
   replace own_hl := own_hl.kept g17 (by rw [blkOf_slice]; exact (sep.ap 1 0))
   replace m3 := Grew.blk g17 m3 ((sep.bp 2 0))
   replace sep := sep.up g17.size
   refine sD [(1,nV mm),(5,pV h.size),(7,.bool true),(8,.slice ad7 sl.length cap8),(9,nV sl.length),(10,pV h10.size)] ?_
   clear hF a; intro a hF
   refine tK ?_
   refine cS ?_
   obtain ⟨P,hP⟩ : ∃ P,incl H mm = P := ⟨_,rfl⟩
   have hPl : P.length ≤ sl.length := by rw [← hP,← hHl]; exact incl_len _ H mm (Nat.le_refl _)
   have h32P : All32 P := hP ▸ incl_32 _ H mm (Nat.le_refl _) h32
   have hPs := incl_some hHl hml hP hn2.2
   obtain ⟨ah,rfl,_⟩ := own_hl.someA (by omega)
   have hrl := HR.of own_hl h32
   ·skip
    refine cP 12 hF ?_
    refine sP 2 [.slice (some ah) sl.length cap8,nV mm] ?_
    refine SeqK.eff (k' := 3) (Does.call (f := 21) (args := #[.slice (some ah) sl.length cap8,.int .i64 ((mm : Nat) : Int)]) (by kernel_rfl) (tincl_at _ H _ _ sl.length (HR.of own_hl h32) (by omega) ((mm : Nat) : Int) kt P 0 (inclZ_pair hHl hml hP))) rfl ?_
    rintro _ h20 ⟨_,rfl,ad18,cap19,rfl,ownx,hge,g⟩
    have hlo := e0.size
    have sepo := sep
    replace e0 := e0.ext g
    replace kt := kt.ext g
    replace own_hl := own_hl.ext g
    replace m3 := Ext.blk g m3
    replace m13 := Ext.blk g m13
    replace sep := sep.up g.size
    replace sep := sepo.cons (x := ad18.map (fun (x : Addr) => x.block)) g.size hlo (fun k e => ⟨hge k e,ownx.lt (by rw [blkOf_slice]; exact e)⟩)
    have own_p : Own h20 (.slice ad18 P.length cap19) 23 P.length 32 (hcs P) := ownx; clear ownx sepo hlo hge g
    refine sP 8 [.tuple #[.slice ad18 P.length cap19,.int .i64 0],.slice ad18 P.length cap19,.int .i64 0,.slice ad18 P.length cap19,.int .i64 0] ?_
    refine sD [(1,nV mm),(5,pV h.size),(7,.bool true),(8,.slice (some ah) sl.length cap8),(9,nV sl.length),(10,pV h10.size),(11,.slice ad18 P.length cap19),(12,.int .i64 0)] ?_
    clear hF a; intro a hF
    refine tK ?_
    refine cS ?_
    refine cS ?_
    refine cP 13 hF ?_
    refine sP 5 [.int .i64 0,.bool false,.bool false,.slice ad18 P.length cap19,nV P.length] ?_
    refine s1 6 (.bool false) (.bool (((P.length : Nat) : Int) == (0 : Int))) (congrArg Value.bool (beq_eq_false_iff_ne.2 (by omega))) ?_
    refine sP 7 [.bool false] ?_
    refine sD [(1,nV mm),(5,pV h.size),(7,.bool true),(8,.slice (some ah) sl.length cap8),(9,nV sl.length),(10,pV h10.size),(11,.slice ad18 P.length cap19),(55,.bool false)] ?_
    clear hF a; intro a hF
    refine tK ?_
    refine cF 55 hF ?_
    refine cN ?_
    refine tK ?_
    refine cS ?_
    refine cS ?_
    refine C.mono (K := fun e a hJ => e = .normal ∧ (Ext h hJ) ∧ (Ktab hJ) ∧ (Own hJ (.slice (some ah) sl.length cap8) 23 sl.length 32 (hcs H)) ∧ (Own hJ (.slice ad18 P.length cap19) 23 P.length 32 (hcs P)) ∧ (hJ[h.size]? = some (.cells (y.map bv).toArray 23)) ∧ (hJ[h10.size]? = some (.cells ((root H).map bv).toArray 23)) ∧ (Sep h.size hJ.size [ad18.map (·.block),some (h10.size),(some ah).map (·.block),some (h.size)]) ∧ Fr a 173 [(1,.int .i64 ((mm : Nat) : Int)),(5,.pointer (some ⟨h.size,0,none⟩)),(7,.bool true),(8,.slice (some ah) sl.length cap8),(9,.int .i64 ((sl.length : Nat) : Int)),(10,.pointer (some ⟨h10.size,0,none⟩)),(112,.bool false)]) ?_ ?_
    ·skip
     have hxP : ∃ x,x = if cap19 = 1 then ad18 else ad18.map (·.add (1 * 32)) := ⟨_,rfl⟩
     obtain ⟨xp,hxp⟩ := hxP
     have hpc := (HR.of own_p h32P).cap
     rcases Decidable.em (y = root H) with hyr | hyr
     ·skip
      refine cD [0,0,3,7,15,15,63,127,15,15,15,15,4095,8191,16383,32767,32767,131071,262143,32767,32767,32767,32767,6324223,32767,16809983,65044479,32767,268435455,536870911,1073741823,2147483647,2147483647,8589934591,17179869183,2147483647,2147483647,2147483647,139586437119,2147483647,1099511627775,2199023255551,4398046511103,8796093022207,8796093022207,35184372088831,70368744177663,8796093022207,8796093022207,8796093022207,8796093022207,1134695999864831,3386495813550079,8453045394341887,8796093022207,36028797018963967,72057594037927935] 15 mixed hF ?_
      refine mL 1 1 0 (.agg (y.map bv).toArray) (Calm.load (T := 23) (p := ⟨h.size,0,none⟩) (by kernel_rfl) (Loads.hash (by kernel_rfl) hy m3)) ?_
      refine mL 3 3 1 (.agg ((root H).map bv).toArray) (Calm.load (T := 23) (p := ⟨h10.size,0,none⟩) (by kernel_rfl) (Loads.hash (by kernel_rfl) (root_len h32) m13)) ?_
      refine mF 7 2 (.bool false) (eqHT (q := false) (l := y) (r := root H) (n := 32) (by kernel_rfl) hy (root_len h32) hyr) ?_
      refine mP 131071 [3,4,5,6,7,8,9,10,11,12,13,14,15,16] [.bool false,undef,undef,undef,undef,undef,undef,undef,undef,undef,.bool false,.bool false,.slice (some ah) sl.length cap8,nV mm] ?_
      refine mF 262143 17 (.pointer (some (Addr.add ah (mm * 32)))) (Calm.indexA (a := ah) (len := sl.length) (sz := 32) (k := ((mm : Nat) : Int)) mm (mm * 32) (by kernel_rfl) rfl (by omega) (by omega)) ?_
      refine mL 524287 262147 18 (.agg ((H.getD mm []).map bv).toArray) (Calm.load (T := 23) (p := (Addr.add ah (mm * 32))) (by kernel_rfl) (HR.loads (k := mm) (q := mm * 32) (HR.of own_hl h32) (by kernel_rfl) (by omega) (by omega))) ?_
      refine mP 6291455 [19,20,22] [nV mm,nV sl.length,.slice ad18 P.length cap19] ?_
      refine mL 23068671 17039363 24 (.agg (y.map bv).toArray) (Calm.load (T := 23) (p := ⟨h.size,0,none⟩) (by kernel_rfl) (Loads.hash (by kernel_rfl) hy m3)) ?_
      refine mL 157286399 151257091 27 (.agg ((root H).map bv).toArray) (Calm.load (T := 23) (p := ⟨h10.size,0,none⟩) (by kernel_rfl) (Loads.hash (by kernel_rfl) (root_len h32) m13)) ?_
      refine SimK.effs (is := [21,25]) (by kernel_rfl) (by simp) ?_
      intro q hq
      simp only [List.mem_cons,List.not_mem_nil,or_false] at hq
      rcases hq with rfl | rfl
      ·skip
       refine SimK.effAt (i := 21) (D' := 159383551) (X' := 2129919) (by kernel_rfl) (by kernel_rfl) [18,24,27] (by kernel_rfl) (Does.new (v := .slice (some ⟨h20.size,0,none⟩) 0 0) (o := .cells #[] 23) (by kernel_rfl)) ?_
       rintro _ h21 ⟨rfl,hh⟩
       have g22 : Ext h20 h21 := push_ext hh
       have m23 : h21[h20.size]? = some (.cells #[] 23) := push_at hh
       clear hh
       have lt24 := blk_lt m23
       have zs25 := e0.size
       have hlo := e0.size
       have sepo := sep
       replace e0 := e0.ext g22
       replace kt := kt.ext g22
       replace own_hl := own_hl.ext g22
       replace own_p := own_p.ext g22
       replace m3 := Ext.blk g22 m3
       replace m13 := Ext.blk g22 m13
       replace sep := sep.up g22.size
       replace sep := sepo.new hlo (blk_lt m23)
       clear sepo hlo
       refine ⟨?_,?_⟩
       ·intro j hj
        simp only [List.mem_cons,List.not_mem_nil,or_false] at hj
        rcases hj with rfl | rfl | rfl
        ·exact goodOf (Calm.load (T := 23) (p := (Addr.add ah (mm * 32))) (by kernel_rfl) (HR.loads (k := mm) (q := mm * 32) (HR.of own_hl h32) (by kernel_rfl) (by omega) (by omega)))
        ·exact goodOf (Calm.load (T := 23) (p := ⟨h.size,0,none⟩) (by kernel_rfl) (Loads.hash (by kernel_rfl) hy m3))
        ·exact goodOf (Calm.load (T := 23) (p := ⟨h10.size,0,none⟩) (by kernel_rfl) (Loads.hash (by kernel_rfl) (root_len h32) m13))
       refine SimK.effs (is := [23,25]) (by kernel_rfl) (by simp) ?_
       intro q hq
       simp only [List.mem_cons,List.not_mem_nil,or_false] at hq
       rcases hq with rfl | rfl
       ·skip
        have own_c : Own h21 (.slice (some ⟨h20.size,0,none⟩) 0 0) 23 ([] : List UInt8).length 32 (hcs []) := Own.empty 32 m23
        replace sep : Sep h.size h21.size [(some ⟨h20.size,0,none⟩ : Option Addr).map (·.block),ad18.map (·.block),some (h10.size),(some ah).map (·.block),some (h.size)] := sep
        clear m23 lt24 zs25
        refine SimK.effAt (i := 23) (D' := 167772159) (X' := 14712831) (by kernel_rfl) (by kernel_rfl) [18,24,27] (by kernel_rfl) (Does.append2 (t := 24) (E := 23) (sz := 32) (by_ := 32) (n := 0) (m := P.length) (v := .slice (some ⟨h20.size,0,none⟩) 0 0) (x := .slice ad18 P.length cap19) (xs := (hcs ([]))) (ys := (hcs P)) (by kernel_rfl) (by kernel_rfl) own_c own_p.row (ones_hcs _) (by unfold maxLen; omega) (by omega)) ?_
        rintro _ h28 ⟨ad26,cap27,rfl,ownx,g,hb⟩
        rw [blkOf_slice] at g hb
        have hlo := e0.size
        have sepo := sep
        replace e0 := e0.grew g (sep.low 0 rfl)
        replace kt := kt.grew g (sep.zero 0 rfl h0s)
        replace own_hl := own_hl.kept g (by rw [blkOf_slice]; exact (sep.ap 3 0))
        replace own_p := own_p.kept g (by rw [blkOf_slice]; exact (sep.ap 1 0))
        replace m3 := Grew.blk g m3 ((sep.bp 4 0))
        replace m13 := Grew.blk g m13 ((sep.bp 2 0))
        replace sep := sep.up g.size
        replace sep : Sep h.size h28.size [ad26.map (·.block),ad18.map (·.block),some (h10.size),(some ah).map (·.block),some (h.size)] := sepo.set g.size hlo 0 (y := ad26.map (fun (x : Addr) => x.block)) rfl (hb.imp id fun e => .inr ⟨_,e,Nat.le_refl _⟩) (fun k e => ownx.lt (by rw [blkOf_slice]; exact e))
        replace own_c : Own h28 (.slice ad26 P.length cap27) 23 P.length 32 (hcs P) := Own.appG ownx (by first | rfl | exact (hcs_append _ _).symm | simp [hcs_append]) (by first | rfl | (simp; done) | (simp; omega))
        clear ownx g hb hlo sepo
        refine ⟨?_,?_⟩
        ·intro j hj
         simp only [List.mem_cons,List.not_mem_nil,or_false] at hj
         rcases hj with rfl | rfl | rfl
         ·exact goodOf (Calm.load (T := 23) (p := (Addr.add ah (mm * 32))) (by kernel_rfl) (HR.loads (k := mm) (q := mm * 32) (HR.of own_hl h32) (by kernel_rfl) (by omega) (by omega)))
         ·exact goodOf (Calm.load (T := 23) (p := ⟨h.size,0,none⟩) (by kernel_rfl) (Loads.hash (by kernel_rfl) hy m3))
         ·exact goodOf (Calm.load (T := 23) (p := ⟨h10.size,0,none⟩) (by kernel_rfl) (Loads.hash (by kernel_rfl) (root_len h32) m13))
        refine SimK.eff (i := 25) (D' := 201326591) (X' := 65044479) (by kernel_rfl) (by kernel_rfl) (by kernel_rfl) [18,27] (by kernel_rfl) (Does.newHs (L := [y]) (t := 24) (E := 23) (by_ := 32) (n := 1) (by kernel_rfl) (by kernel_rfl) (All32.cons hy All32.nil) rfl (by decide) (by decide)) ?_
        rintro _ h29 ⟨rfl,hh⟩
        have g30 : Ext h28 h29 := push_ext hh
        have m31 : h29[h28.size]? = some (.cells (hcs [y]).toArray 23) := push_at hh
        clear hh
        have lt32 := blk_lt m31
        have zs33 := e0.size
        have hlo := e0.size
        have sepo := sep
        replace e0 := e0.ext g30
        replace kt := kt.ext g30
        replace own_hl := own_hl.ext g30
        replace own_p := own_p.ext g30
        replace own_c := own_c.ext g30
        replace m3 := Ext.blk g30 m3
        replace m13 := Ext.blk g30 m13
        replace sep := sep.up g30.size
        replace sep := sepo.new hlo (blk_lt m31)
        clear sepo hlo
        refine ⟨?_,?_⟩
        ·intro j hj
         simp only [List.mem_cons,List.not_mem_nil,or_false] at hj
         rcases hj with rfl | rfl
         ·exact goodOf (Calm.load (T := 23) (p := (Addr.add ah (mm * 32))) (by kernel_rfl) (HR.loads (k := mm) (q := mm * 32) (HR.of own_hl h32) (by kernel_rfl) (by omega) (by omega)))
         ·exact goodOf (Calm.load (T := 23) (p := ⟨h10.size,0,none⟩) (by kernel_rfl) (Loads.hash (by kernel_rfl) (root_len h32) m13))
        replace own_c : Own h29 (.slice ad26 (0 + P.length) cap27) 23 (0 + P.length) 32 (hcs P) := by rw [show 0 + P.length = P.length by omega]; exact own_c
        refine SimK.eff (i := 26) (D' := 268435455) (X' := 132153343) (by kernel_rfl) (by kernel_rfl) (by kernel_rfl) [18,27] (by kernel_rfl) (Does.append2 (t := 24) (E := 23) (sz := 32) (by_ := 32) (n := 0 + P.length) (m := 1) (v := .slice ad26 (0 + P.length) cap27) (x := .slice (some ⟨h28.size,0,none⟩) 1 1) (xs := (hcs P)) (ys := (hcs ([y]))) (by kernel_rfl) (by kernel_rfl) own_c (hrow1 hy m31) (ones_hcs _) (by unfold maxLen; omega) (by omega)) ?_
        rintro _ h36 ⟨ad34,cap35,rfl,ownx,g,hb⟩
        rw [blkOf_slice] at g hb
        have hlo := e0.size
        have sepo := sep
        replace e0 := e0.grew g (sep.low 1 rfl)
        replace kt := kt.grew g (sep.zero 1 rfl h0s)
        replace own_hl := own_hl.kept g (by rw [blkOf_slice]; exact (sep.ap 4 1))
        replace own_p := own_p.kept g (by rw [blkOf_slice]; exact (sep.ap 2 1))
        replace m3 := Grew.blk g m3 ((sep.bp 5 1))
        replace m13 := Grew.blk g m13 ((sep.bp 3 1))
        replace m31 := Grew.blk g m31 ((sep.bp 0 1))
        replace sep := sep.up g.size
        replace sep : Sep h.size h36.size [some (h28.size),ad34.map (·.block),ad18.map (·.block),some (h10.size),(some ah).map (·.block),some (h.size)] := sepo.set g.size hlo 1 (y := ad34.map (fun (x : Addr) => x.block)) rfl (hb.imp id fun e => .inr ⟨_,e,Nat.le_refl _⟩) (fun k e => ownx.lt (by rw [blkOf_slice]; exact e))
        replace own_c : Own h36 (.slice ad34 (P.length + 1) cap35) 23 (P.length + 1) 32 (hcs (P ++ [y])) := Own.appG ownx (by first | rfl | exact (hcs_append _ _).symm | simp [hcs_append]) (by first | rfl | (simp; done) | (simp; omega))
        clear ownx g hb hlo sepo
        refine ⟨?_,?_⟩
        ·intro j hj
         simp only [List.mem_cons,List.not_mem_nil,or_false] at hj
         rcases hj with rfl | rfl
         ·exact goodOf (Calm.load (T := 23) (p := (Addr.add ah (mm * 32))) (by kernel_rfl) (HR.loads (k := mm) (q := mm * 32) (HR.of own_hl h32) (by kernel_rfl) (by omega) (by omega)))
         ·exact goodOf (Calm.load (T := 23) (p := ⟨h10.size,0,none⟩) (by kernel_rfl) (Loads.hash (by kernel_rfl) (root_len h32) m13))
        replace own_c : Own h36 (.slice ad34 ((0 + P.length) + 1) cap35) 23 ((0 + P.length) + 1) 32 (hcs (P ++ [y])) := by rw [show (0 + P.length) + 1 = P.length + 1 by omega]; exact own_c
        refine SimK.eff0 (i := 28) (D' := 536870911) (X' := 536870911) (by kernel_rfl) (by kernel_rfl) (by kernel_rfl) (by kernel_rfl) (Does.call (f := 11) (args := #[.agg ((H.getD mm []).map bv).toArray,.int .i64 ((mm : Nat) : Int),.int .i64 ((sl.length : Nat) : Int),.slice ad34 ((0 + P.length) + 1) cap35,.agg ((root H).map bv).toArray]) (by kernel_rfl) (vincl_n _ (H.getD mm []) ((mm : Nat) : Int) ((sl.length : Nat) : Int) (P ++ [y]) _ _ (root H) ((0 + P.length) + 1) (by simp) (hrl.2.1.get (k := mm) (by rw [hrl.2.2]; omega)) (root_len h32) (HR.of own_c (h32P.append (All32.one hy))) (by omega) (by omega) kt (fun k e => own_c.lt (by rw [blkOf_slice]; exact e)) false (incl_wrong hHl hml hP (by simp)))) ?_
        rintro _ h37 ⟨rfl,g⟩
        replace e0 := e0.ext g
        replace kt := kt.ext g
        replace own_hl := own_hl.ext g
        replace own_p := own_p.ext g
        replace own_c := own_c.ext g
        replace m3 := Ext.blk g m3
        replace m13 := Ext.blk g m13
        replace m31 := Ext.blk g m31
        replace sep := sep.up g.size
        clear g
        refine mP 8589934591 [29,30,31,32] [.bool false,.bool false,.slice (some ah) sl.length cap8,nV mm] ?_
        refine mF 17179869183 33 (.pointer (some (Addr.add ah (mm * 32)))) (Calm.indexA (a := ah) (len := sl.length) (sz := 32) (k := ((mm : Nat) : Int)) mm (mm * 32) (by kernel_rfl) rfl (by omega) (by omega)) ?_
        refine mL 34359738367 17331126275 34 (.agg ((H.getD mm []).map bv).toArray) (Calm.load (T := 23) (p := (Addr.add ah (mm * 32))) (by kernel_rfl) (HR.loads (k := mm) (q := mm * 32) (HR.of own_hl h32) (by kernel_rfl) (by omega) (by omega))) ?_
        refine mP 274877906943 [35,36,37] [nV mm,nV sl.length,.slice ad18 P.length cap19] ?_
        refine mF 549755813887 38 (.slice xp (P.length - 1) (cap19 - 1)) (fun h => Calm.sliceO (a := ad18) (len := P.length) (cap := cap19) (sz := 32) (x := xp) 1 P.length cap19 (P.length - 1) (cap19 - 1) (by kernel_rfl) (.inl ⟨rfl,rfl⟩) (.inl ⟨rfl,rfl⟩) (.inr rfl) (by omega) (by omega) hxp (by first | rfl | omega) (by first | rfl | omega) h) ?_
        refine mL 1099511627775 567086940163 39 (.agg ((root H).map bv).toArray) (Calm.load (T := 23) (p := ⟨h10.size,0,none⟩) (by kernel_rfl) (Loads.hash (by kernel_rfl) (root_len h32) m13)) ?_
        refine SimK.eff0 (i := 40) (D' := 2199023255551) (X' := 2199023255551) (by kernel_rfl) (by kernel_rfl) (by kernel_rfl) (by kernel_rfl) (Does.call (f := 11) (args := #[.agg ((H.getD mm []).map bv).toArray,.int .i64 ((mm : Nat) : Int),.int .i64 ((sl.length : Nat) : Int),.slice xp (P.length - 1) (cap19 - 1),.agg ((root H).map bv).toArray]) (by kernel_rfl) (vincl_n _ (H.getD mm []) ((mm : Nat) : Int) ((sl.length : Nat) : Int) (P.drop 1) _ _ (root H) (P.length - 1) (by simp) (hrl.2.1.get (k := mm) (by rw [hrl.2.2]; omega)) (root_len h32) ((HR.of own_p h32P).drop (k := 1) (by omega) hxp) (by omega) (by omega) kt (fun k e => own_p.lt (by rw [blkOf_slice,← off_blk hxp]; exact e)) false (incl_wrong hHl hml hP (by simp; omega)))) ?_
        rintro _ h38 ⟨rfl,g⟩
        replace e0 := e0.ext g
        replace kt := kt.ext g
        replace own_hl := own_hl.ext g
        replace own_p := own_p.ext g
        replace own_c := own_c.ext g
        replace m3 := Ext.blk g m3
        replace m13 := Ext.blk g m13
        replace m31 := Ext.blk g m31
        replace sep := sep.up g.size
        clear g
        refine mP 35184372088831 [41,42,43,44] [.bool false,.bool false,.slice (some ah) sl.length cap8,nV mm] ?_
        refine mF 70368744177663 45 (.pointer (some (Addr.add ah (mm * 32)))) (Calm.indexA (a := ah) (len := sl.length) (sz := 32) (k := ((mm : Nat) : Int)) mm (mm * 32) (by kernel_rfl) rfl (by omega) (by omega)) ?_
        refine mL 140737488355327 70935831117827 46 (.agg ((H.getD mm []).map bv).toArray) (Calm.load (T := 23) (p := (Addr.add ah (mm * 32))) (by kernel_rfl) (HR.loads (k := mm) (q := mm * 32) (HR.of own_hl h32) (by kernel_rfl) (by omega) (by omega))) ?_
        refine mP 4503599627370495 [47,48,49,50,51] [nV mm,nV sl.length,.slice ad18 P.length cap19,.slice ad18 P.length cap19,nV P.length] ?_
        refine m1 9007199254740991 52 (.int .i64 ((P.length - 1 : Nat) : Int)) (.int .i64 (IntKind.i64.wrap (((P.length : Nat) : Int) - 1))) (congrArg (Value.int .i64) (w64' (by omega) (by omega) (by omega))) ?_
        refine mF 18014398509481983 53 (.slice ad18 (P.length - 1) cap19) (fun h => Calm.sliceO (a := ad18) (len := P.length) (cap := cap19) (sz := 32) (x := ad18) 0 (P.length - 1) cap19 (P.length - 1) cap19 (by kernel_rfl) (.inl ⟨rfl,rfl⟩) (.inr rfl) (.inl ⟨rfl,rfl⟩) (by omega) (by omega) (opt_add0 _ 32) (by first | rfl | omega) (by first | rfl | omega) h) ?_
        refine mL 36028797018963967 18085334340599811 54 (.agg ((root H).map bv).toArray) (Calm.load (T := 23) (p := ⟨h10.size,0,none⟩) (by kernel_rfl) (Loads.hash (by kernel_rfl) (root_len h32) m13)) ?_
        refine SimK.eff0 (i := 55) (D' := 72057594037927935) (X' := 72057594037927935) (by kernel_rfl) (by kernel_rfl) (by kernel_rfl) (by kernel_rfl) (Does.call (f := 11) (args := #[.agg ((H.getD mm []).map bv).toArray,.int .i64 ((mm : Nat) : Int),.int .i64 ((sl.length : Nat) : Int),.slice ad18 (P.length - 1) cap19,.agg ((root H).map bv).toArray]) (by kernel_rfl) (vincl_n _ (H.getD mm []) ((mm : Nat) : Int) ((sl.length : Nat) : Int) (P.take (P.length - 1)) _ _ (root H) (P.length - 1) (by simp) (hrl.2.1.get (k := mm) (by rw [hrl.2.2]; omega)) (root_len h32) ((HR.of own_p h32P).take (k := P.length - 1) (by omega)) (by omega) (by omega) kt (fun k e => own_p.lt (by rw [blkOf_slice]; exact e)) false (incl_wrong hHl hml hP (by simp; omega)))) ?_
        rintro _ h39 ⟨rfl,g⟩
        replace e0 := e0.ext g
        replace kt := kt.ext g
        replace own_hl := own_hl.ext g
        replace own_p := own_p.ext g
        replace own_c := own_c.ext g
        replace m3 := Ext.blk g m3
        replace m13 := Ext.blk g m13
        replace m31 := Ext.blk g m31
        replace sep := sep.up g.size
        clear g
        refine mP 144115188075855871 [56] [.bool false] ?_
        refine mD [(1,nV mm),(5,pV h.size),(7,.bool true),(8,.slice (some ah) sl.length cap8),(9,nV sl.length),(10,pV h10.size),(112,.bool false)] ?_
        clear hF a; intro a hF
        replace sep := sep.sub (l' := [ad18.map (·.block),some (h10.size),(some ah).map (·.block),some (h.size)]) (.cons _ (.cons _ (.cons_cons _ (.cons_cons _ (.cons_cons _ (.cons_cons _ (.slnil)))))))
        exact ⟨rfl,e0,kt,own_hl,own_p,m3,m13,sep,hF⟩
       ·skip
        refine SimK.effAt (i := 25) (D' := 192937983) (X' := 52461567) (by kernel_rfl) (by kernel_rfl) [18,27] (by kernel_rfl) (Does.newHs (L := [y]) (t := 24) (E := 23) (by_ := 32) (n := 1) (by kernel_rfl) (by kernel_rfl) (All32.cons hy All32.nil) rfl (by decide) (by decide)) ?_
        rintro _ h40 ⟨rfl,hh⟩
        have g41 : Ext h21 h40 := push_ext hh
        have m42 : h40[h21.size]? = some (.cells (hcs [y]).toArray 23) := push_at hh
        clear hh
        have lt43 := blk_lt m42
        have zs44 := e0.size
        have hlo := e0.size
        have sepo := sep
        replace e0 := e0.ext g41
        replace kt := kt.ext g41
        replace own_hl := own_hl.ext g41
        replace own_p := own_p.ext g41
        replace m3 := Ext.blk g41 m3
        replace m13 := Ext.blk g41 m13
        replace m23 := Ext.blk g41 m23
        replace sep := sep.up g41.size
        replace sep := sepo.new hlo (blk_lt m42)
        clear sepo hlo
        refine ⟨?_,?_⟩
        ·intro j hj
         simp only [List.mem_cons,List.not_mem_nil,or_false] at hj
         rcases hj with rfl | rfl
         ·exact goodOf (Calm.load (T := 23) (p := (Addr.add ah (mm * 32))) (by kernel_rfl) (HR.loads (k := mm) (q := mm * 32) (HR.of own_hl h32) (by kernel_rfl) (by omega) (by omega)))
         ·exact goodOf (Calm.load (T := 23) (p := ⟨h10.size,0,none⟩) (by kernel_rfl) (Loads.hash (by kernel_rfl) (root_len h32) m13))
        have own_c : Own h40 (.slice (some ⟨h20.size,0,none⟩) 0 0) 23 ([] : List UInt8).length 32 (hcs []) := Own.empty 32 m23
        replace sep : Sep h.size h40.size [some (h21.size),(some ⟨h20.size,0,none⟩ : Option Addr).map (·.block),ad18.map (·.block),some (h10.size),(some ah).map (·.block),some (h.size)] := sep
        clear m23 lt24 zs25
        refine SimK.eff (i := 23) (D' := 201326591) (X' := 65044479) (by kernel_rfl) (by kernel_rfl) (by kernel_rfl) [18,27] (by kernel_rfl) (Does.append2 (t := 24) (E := 23) (sz := 32) (by_ := 32) (n := 0) (m := P.length) (v := .slice (some ⟨h20.size,0,none⟩) 0 0) (x := .slice ad18 P.length cap19) (xs := (hcs ([]))) (ys := (hcs P)) (by kernel_rfl) (by kernel_rfl) own_c own_p.row (ones_hcs _) (by unfold maxLen; omega) (by omega)) ?_
        rintro _ h47 ⟨ad45,cap46,rfl,ownx,g,hb⟩
        rw [blkOf_slice] at g hb
        have hlo := e0.size
        have sepo := sep
        replace e0 := e0.grew g (sep.low 1 rfl)
        replace kt := kt.grew g (sep.zero 1 rfl h0s)
        replace own_hl := own_hl.kept g (by rw [blkOf_slice]; exact (sep.ap 4 1))
        replace own_p := own_p.kept g (by rw [blkOf_slice]; exact (sep.ap 2 1))
        replace m3 := Grew.blk g m3 ((sep.bp 5 1))
        replace m13 := Grew.blk g m13 ((sep.bp 3 1))
        replace m42 := Grew.blk g m42 ((sep.bp 0 1))
        replace sep := sep.up g.size
        replace sep : Sep h.size h47.size [some (h21.size),ad45.map (·.block),ad18.map (·.block),some (h10.size),(some ah).map (·.block),some (h.size)] := sepo.set g.size hlo 1 (y := ad45.map (fun (x : Addr) => x.block)) rfl (hb.imp id fun e => .inr ⟨_,e,Nat.le_refl _⟩) (fun k e => ownx.lt (by rw [blkOf_slice]; exact e))
        replace own_c : Own h47 (.slice ad45 P.length cap46) 23 P.length 32 (hcs P) := Own.appG ownx (by first | rfl | exact (hcs_append _ _).symm | simp [hcs_append]) (by first | rfl | (simp; done) | (simp; omega))
        clear ownx g hb hlo sepo
        refine ⟨?_,?_⟩
        ·intro j hj
         simp only [List.mem_cons,List.not_mem_nil,or_false] at hj
         rcases hj with rfl | rfl
         ·exact goodOf (Calm.load (T := 23) (p := (Addr.add ah (mm * 32))) (by kernel_rfl) (HR.loads (k := mm) (q := mm * 32) (HR.of own_hl h32) (by kernel_rfl) (by omega) (by omega)))
         ·exact goodOf (Calm.load (T := 23) (p := ⟨h10.size,0,none⟩) (by kernel_rfl) (Loads.hash (by kernel_rfl) (root_len h32) m13))
        replace own_c : Own h47 (.slice ad45 (0 + P.length) cap46) 23 (0 + P.length) 32 (hcs P) := by rw [show 0 + P.length = P.length by omega]; exact own_c
        refine SimK.eff (i := 26) (D' := 268435455) (X' := 132153343) (by kernel_rfl) (by kernel_rfl) (by kernel_rfl) [18,27] (by kernel_rfl) (Does.append2 (t := 24) (E := 23) (sz := 32) (by_ := 32) (n := 0 + P.length) (m := 1) (v := .slice ad45 (0 + P.length) cap46) (x := .slice (some ⟨h21.size,0,none⟩) 1 1) (xs := (hcs P)) (ys := (hcs ([y]))) (by kernel_rfl) (by kernel_rfl) own_c (hrow1 hy m42) (ones_hcs _) (by unfold maxLen; omega) (by omega)) ?_
        rintro _ h50 ⟨ad48,cap49,rfl,ownx,g,hb⟩
        rw [blkOf_slice] at g hb
        have hlo := e0.size
        have sepo := sep
        replace e0 := e0.grew g (sep.low 1 rfl)
        replace kt := kt.grew g (sep.zero 1 rfl h0s)
        replace own_hl := own_hl.kept g (by rw [blkOf_slice]; exact (sep.ap 4 1))
        replace own_p := own_p.kept g (by rw [blkOf_slice]; exact (sep.ap 2 1))
        replace m3 := Grew.blk g m3 ((sep.bp 5 1))
        replace m13 := Grew.blk g m13 ((sep.bp 3 1))
        replace m42 := Grew.blk g m42 ((sep.bp 0 1))
        replace sep := sep.up g.size
        replace sep : Sep h.size h50.size [some (h21.size),ad48.map (·.block),ad18.map (·.block),some (h10.size),(some ah).map (·.block),some (h.size)] := sepo.set g.size hlo 1 (y := ad48.map (fun (x : Addr) => x.block)) rfl (hb.imp id fun e => .inr ⟨_,e,Nat.le_refl _⟩) (fun k e => ownx.lt (by rw [blkOf_slice]; exact e))
        replace own_c : Own h50 (.slice ad48 (P.length + 1) cap49) 23 (P.length + 1) 32 (hcs (P ++ [y])) := Own.appG ownx (by first | rfl | exact (hcs_append _ _).symm | simp [hcs_append]) (by first | rfl | (simp; done) | (simp; omega))
        clear ownx g hb hlo sepo
        refine ⟨?_,?_⟩
        ·intro j hj
         simp only [List.mem_cons,List.not_mem_nil,or_false] at hj
         rcases hj with rfl | rfl
         ·exact goodOf (Calm.load (T := 23) (p := (Addr.add ah (mm * 32))) (by kernel_rfl) (HR.loads (k := mm) (q := mm * 32) (HR.of own_hl h32) (by kernel_rfl) (by omega) (by omega)))
         ·exact goodOf (Calm.load (T := 23) (p := ⟨h10.size,0,none⟩) (by kernel_rfl) (Loads.hash (by kernel_rfl) (root_len h32) m13))
        replace own_c : Own h50 (.slice ad48 ((0 + P.length) + 1) cap49) 23 ((0 + P.length) + 1) 32 (hcs (P ++ [y])) := by rw [show (0 + P.length) + 1 = P.length + 1 by omega]; exact own_c
        refine SimK.eff0 (i := 28) (D' := 536870911) (X' := 536870911) (by kernel_rfl) (by kernel_rfl) (by kernel_rfl) (by kernel_rfl) (Does.call (f := 11) (args := #[.agg ((H.getD mm []).map bv).toArray,.int .i64 ((mm : Nat) : Int),.int .i64 ((sl.length : Nat) : Int),.slice ad48 ((0 + P.length) + 1) cap49,.agg ((root H).map bv).toArray]) (by kernel_rfl) (vincl_n _ (H.getD mm []) ((mm : Nat) : Int) ((sl.length : Nat) : Int) (P ++ [y]) _ _ (root H) ((0 + P.length) + 1) (by simp) (hrl.2.1.get (k := mm) (by rw [hrl.2.2]; omega)) (root_len h32) (HR.of own_c (h32P.append (All32.one hy))) (by omega) (by omega) kt (fun k e => own_c.lt (by rw [blkOf_slice]; exact e)) false (incl_wrong hHl hml hP (by simp)))) ?_
        rintro _ h51 ⟨rfl,g⟩
        replace e0 := e0.ext g
        replace kt := kt.ext g
        replace own_hl := own_hl.ext g
        replace own_p := own_p.ext g
        replace own_c := own_c.ext g
        replace m3 := Ext.blk g m3
        replace m13 := Ext.blk g m13
        replace m42 := Ext.blk g m42
        replace sep := sep.up g.size
        clear g
        refine mP 8589934591 [29,30,31,32] [.bool false,.bool false,.slice (some ah) sl.length cap8,nV mm] ?_
        refine mF 17179869183 33 (.pointer (some (Addr.add ah (mm * 32)))) (Calm.indexA (a := ah) (len := sl.length) (sz := 32) (k := ((mm : Nat) : Int)) mm (mm * 32) (by kernel_rfl) rfl (by omega) (by omega)) ?_
        refine mL 34359738367 17331126275 34 (.agg ((H.getD mm []).map bv).toArray) (Calm.load (T := 23) (p := (Addr.add ah (mm * 32))) (by kernel_rfl) (HR.loads (k := mm) (q := mm * 32) (HR.of own_hl h32) (by kernel_rfl) (by omega) (by omega))) ?_
        refine mP 274877906943 [35,36,37] [nV mm,nV sl.length,.slice ad18 P.length cap19] ?_
        refine mF 549755813887 38 (.slice xp (P.length - 1) (cap19 - 1)) (fun h => Calm.sliceO (a := ad18) (len := P.length) (cap := cap19) (sz := 32) (x := xp) 1 P.length cap19 (P.length - 1) (cap19 - 1) (by kernel_rfl) (.inl ⟨rfl,rfl⟩) (.inl ⟨rfl,rfl⟩) (.inr rfl) (by omega) (by omega) hxp (by first | rfl | omega) (by first | rfl | omega) h) ?_
        refine mL 1099511627775 567086940163 39 (.agg ((root H).map bv).toArray) (Calm.load (T := 23) (p := ⟨h10.size,0,none⟩) (by kernel_rfl) (Loads.hash (by kernel_rfl) (root_len h32) m13)) ?_
        refine SimK.eff0 (i := 40) (D' := 2199023255551) (X' := 2199023255551) (by kernel_rfl) (by kernel_rfl) (by kernel_rfl) (by kernel_rfl) (Does.call (f := 11) (args := #[.agg ((H.getD mm []).map bv).toArray,.int .i64 ((mm : Nat) : Int),.int .i64 ((sl.length : Nat) : Int),.slice xp (P.length - 1) (cap19 - 1),.agg ((root H).map bv).toArray]) (by kernel_rfl) (vincl_n _ (H.getD mm []) ((mm : Nat) : Int) ((sl.length : Nat) : Int) (P.drop 1) _ _ (root H) (P.length - 1) (by simp) (hrl.2.1.get (k := mm) (by rw [hrl.2.2]; omega)) (root_len h32) ((HR.of own_p h32P).drop (k := 1) (by omega) hxp) (by omega) (by omega) kt (fun k e => own_p.lt (by rw [blkOf_slice,← off_blk hxp]; exact e)) false (incl_wrong hHl hml hP (by simp; omega)))) ?_
        rintro _ h52 ⟨rfl,g⟩
        replace e0 := e0.ext g
        replace kt := kt.ext g
        replace own_hl := own_hl.ext g
        replace own_p := own_p.ext g
        replace own_c := own_c.ext g
        replace m3 := Ext.blk g m3
        replace m13 := Ext.blk g m13
        replace m42 := Ext.blk g m42
        replace sep := sep.up g.size
        clear g
        refine mP 35184372088831 [41,42,43,44] [.bool false,.bool false,.slice (some ah) sl.length cap8,nV mm] ?_
        refine mF 70368744177663 45 (.pointer (some (Addr.add ah (mm * 32)))) (Calm.indexA (a := ah) (len := sl.length) (sz := 32) (k := ((mm : Nat) : Int)) mm (mm * 32) (by kernel_rfl) rfl (by omega) (by omega)) ?_
        refine mL 140737488355327 70935831117827 46 (.agg ((H.getD mm []).map bv).toArray) (Calm.load (T := 23) (p := (Addr.add ah (mm * 32))) (by kernel_rfl) (HR.loads (k := mm) (q := mm * 32) (HR.of own_hl h32) (by kernel_rfl) (by omega) (by omega))) ?_
        refine mP 4503599627370495 [47,48,49,50,51] [nV mm,nV sl.length,.slice ad18 P.length cap19,.slice ad18 P.length cap19,nV P.length] ?_
        refine m1 9007199254740991 52 (.int .i64 ((P.length - 1 : Nat) : Int)) (.int .i64 (IntKind.i64.wrap (((P.length : Nat) : Int) - 1))) (congrArg (Value.int .i64) (w64' (by omega) (by omega) (by omega))) ?_
        refine mF 18014398509481983 53 (.slice ad18 (P.length - 1) cap19) (fun h => Calm.sliceO (a := ad18) (len := P.length) (cap := cap19) (sz := 32) (x := ad18) 0 (P.length - 1) cap19 (P.length - 1) cap19 (by kernel_rfl) (.inl ⟨rfl,rfl⟩) (.inr rfl) (.inl ⟨rfl,rfl⟩) (by omega) (by omega) (opt_add0 _ 32) (by first | rfl | omega) (by first | rfl | omega) h) ?_
        refine mL 36028797018963967 18085334340599811 54 (.agg ((root H).map bv).toArray) (Calm.load (T := 23) (p := ⟨h10.size,0,none⟩) (by kernel_rfl) (Loads.hash (by kernel_rfl) (root_len h32) m13)) ?_
        refine SimK.eff0 (i := 55) (D' := 72057594037927935) (X' := 72057594037927935) (by kernel_rfl) (by kernel_rfl) (by kernel_rfl) (by kernel_rfl) (Does.call (f := 11) (args := #[.agg ((H.getD mm []).map bv).toArray,.int .i64 ((mm : Nat) : Int),.int .i64 ((sl.length : Nat) : Int),.slice ad18 (P.length - 1) cap19,.agg ((root H).map bv).toArray]) (by kernel_rfl) (vincl_n _ (H.getD mm []) ((mm : Nat) : Int) ((sl.length : Nat) : Int) (P.take (P.length - 1)) _ _ (root H) (P.length - 1) (by simp) (hrl.2.1.get (k := mm) (by rw [hrl.2.2]; omega)) (root_len h32) ((HR.of own_p h32P).take (k := P.length - 1) (by omega)) (by omega) (by omega) kt (fun k e => own_p.lt (by rw [blkOf_slice]; exact e)) false (incl_wrong hHl hml hP (by simp; omega)))) ?_
        rintro _ h53 ⟨rfl,g⟩
        replace e0 := e0.ext g
        replace kt := kt.ext g
        replace own_hl := own_hl.ext g
        replace own_p := own_p.ext g
        replace own_c := own_c.ext g
        replace m3 := Ext.blk g m3
        replace m13 := Ext.blk g m13
        replace m42 := Ext.blk g m42
        replace sep := sep.up g.size
        clear g
        refine mP 144115188075855871 [56] [.bool false] ?_
        refine mD [(1,nV mm),(5,pV h.size),(7,.bool true),(8,.slice (some ah) sl.length cap8),(9,nV sl.length),(10,pV h10.size),(112,.bool false)] ?_
        clear hF a; intro a hF
        replace sep := sep.sub (l' := [ad18.map (·.block),some (h10.size),(some ah).map (·.block),some (h.size)]) (.cons _ (.cons _ (.cons_cons _ (.cons_cons _ (.cons_cons _ (.cons_cons _ (.slnil)))))))
        exact ⟨rfl,e0,kt,own_hl,own_p,m3,m13,sep,hF⟩
      ·skip
       refine SimK.effAt (i := 25) (D' := 190840831) (X' := 50364415) (by kernel_rfl) (by kernel_rfl) [18,27] (by kernel_rfl) (Does.newHs (L := [y]) (t := 24) (E := 23) (by_ := 32) (n := 1) (by kernel_rfl) (by kernel_rfl) (All32.cons hy All32.nil) rfl (by decide) (by decide)) ?_
       rintro _ h54 ⟨rfl,hh⟩
       have g55 : Ext h20 h54 := push_ext hh
       have m56 : h54[h20.size]? = some (.cells (hcs [y]).toArray 23) := push_at hh
       clear hh
       have lt57 := blk_lt m56
       have zs58 := e0.size
       have hlo := e0.size
       have sepo := sep
       replace e0 := e0.ext g55
       replace kt := kt.ext g55
       replace own_hl := own_hl.ext g55
       replace own_p := own_p.ext g55
       replace m3 := Ext.blk g55 m3
       replace m13 := Ext.blk g55 m13
       replace sep := sep.up g55.size
       replace sep := sepo.new hlo (blk_lt m56)
       clear sepo hlo
       refine ⟨?_,?_⟩
       ·intro j hj
        simp only [List.mem_cons,List.not_mem_nil,or_false] at hj
        rcases hj with rfl | rfl
        ·exact goodOf (Calm.load (T := 23) (p := (Addr.add ah (mm * 32))) (by kernel_rfl) (HR.loads (k := mm) (q := mm * 32) (HR.of own_hl h32) (by kernel_rfl) (by omega) (by omega)))
        ·exact goodOf (Calm.load (T := 23) (p := ⟨h10.size,0,none⟩) (by kernel_rfl) (Loads.hash (by kernel_rfl) (root_len h32) m13))
       refine SimK.eff (i := 21) (D' := 192937983) (X' := 52461567) (by kernel_rfl) (by kernel_rfl) (by kernel_rfl) [18,27] (by kernel_rfl) (Does.new (v := .slice (some ⟨h54.size,0,none⟩) 0 0) (o := .cells #[] 23) (by kernel_rfl)) ?_
       rintro _ h59 ⟨rfl,hh⟩
       have g60 : Ext h54 h59 := push_ext hh
       have m61 : h59[h54.size]? = some (.cells #[] 23) := push_at hh
       clear hh
       have lt62 := blk_lt m61
       have zs63 := e0.size
       have hlo := e0.size
       have sepo := sep
       replace e0 := e0.ext g60
       replace kt := kt.ext g60
       replace own_hl := own_hl.ext g60
       replace own_p := own_p.ext g60
       replace m3 := Ext.blk g60 m3
       replace m13 := Ext.blk g60 m13
       replace m56 := Ext.blk g60 m56
       replace sep := sep.up g60.size
       replace sep := sepo.new hlo (blk_lt m61)
       clear sepo hlo
       refine ⟨?_,?_⟩
       ·intro j hj
        simp only [List.mem_cons,List.not_mem_nil,or_false] at hj
        rcases hj with rfl | rfl
        ·exact goodOf (Calm.load (T := 23) (p := (Addr.add ah (mm * 32))) (by kernel_rfl) (HR.loads (k := mm) (q := mm * 32) (HR.of own_hl h32) (by kernel_rfl) (by omega) (by omega)))
        ·exact goodOf (Calm.load (T := 23) (p := ⟨h10.size,0,none⟩) (by kernel_rfl) (Loads.hash (by kernel_rfl) (root_len h32) m13))
       have own_c : Own h59 (.slice (some ⟨h54.size,0,none⟩) 0 0) 23 ([] : List UInt8).length 32 (hcs []) := Own.empty 32 m61
       replace sep : Sep h.size h59.size [(some ⟨h54.size,0,none⟩ : Option Addr).map (·.block),some (h20.size),ad18.map (·.block),some (h10.size),(some ah).map (·.block),some (h.size)] := sep
       clear m61 lt62 zs63
       refine SimK.eff (i := 23) (D' := 201326591) (X' := 65044479) (by kernel_rfl) (by kernel_rfl) (by kernel_rfl) [18,27] (by kernel_rfl) (Does.append2 (t := 24) (E := 23) (sz := 32) (by_ := 32) (n := 0) (m := P.length) (v := .slice (some ⟨h54.size,0,none⟩) 0 0) (x := .slice ad18 P.length cap19) (xs := (hcs ([]))) (ys := (hcs P)) (by kernel_rfl) (by kernel_rfl) own_c own_p.row (ones_hcs _) (by unfold maxLen; omega) (by omega)) ?_
       rintro _ h66 ⟨ad64,cap65,rfl,ownx,g,hb⟩
       rw [blkOf_slice] at g hb
       have hlo := e0.size
       have sepo := sep
       replace e0 := e0.grew g (sep.low 0 rfl)
       replace kt := kt.grew g (sep.zero 0 rfl h0s)
       replace own_hl := own_hl.kept g (by rw [blkOf_slice]; exact (sep.ap 4 0))
       replace own_p := own_p.kept g (by rw [blkOf_slice]; exact (sep.ap 2 0))
       replace m3 := Grew.blk g m3 ((sep.bp 5 0))
       replace m13 := Grew.blk g m13 ((sep.bp 3 0))
       replace m56 := Grew.blk g m56 ((sep.bp 1 0))
       replace sep := sep.up g.size
       replace sep : Sep h.size h66.size [ad64.map (·.block),some (h20.size),ad18.map (·.block),some (h10.size),(some ah).map (·.block),some (h.size)] := sepo.set g.size hlo 0 (y := ad64.map (fun (x : Addr) => x.block)) rfl (hb.imp id fun e => .inr ⟨_,e,Nat.le_refl _⟩) (fun k e => ownx.lt (by rw [blkOf_slice]; exact e))
       replace own_c : Own h66 (.slice ad64 P.length cap65) 23 P.length 32 (hcs P) := Own.appG ownx (by first | rfl | exact (hcs_append _ _).symm | simp [hcs_append]) (by first | rfl | (simp; done) | (simp; omega))
       clear ownx g hb hlo sepo
       refine ⟨?_,?_⟩
       ·intro j hj
        simp only [List.mem_cons,List.not_mem_nil,or_false] at hj
        rcases hj with rfl | rfl
        ·exact goodOf (Calm.load (T := 23) (p := (Addr.add ah (mm * 32))) (by kernel_rfl) (HR.loads (k := mm) (q := mm * 32) (HR.of own_hl h32) (by kernel_rfl) (by omega) (by omega)))
        ·exact goodOf (Calm.load (T := 23) (p := ⟨h10.size,0,none⟩) (by kernel_rfl) (Loads.hash (by kernel_rfl) (root_len h32) m13))
       replace own_c : Own h66 (.slice ad64 (0 + P.length) cap65) 23 (0 + P.length) 32 (hcs P) := by rw [show 0 + P.length = P.length by omega]; exact own_c
       refine SimK.eff (i := 26) (D' := 268435455) (X' := 132153343) (by kernel_rfl) (by kernel_rfl) (by kernel_rfl) [18,27] (by kernel_rfl) (Does.append2 (t := 24) (E := 23) (sz := 32) (by_ := 32) (n := 0 + P.length) (m := 1) (v := .slice ad64 (0 + P.length) cap65) (x := .slice (some ⟨h20.size,0,none⟩) 1 1) (xs := (hcs P)) (ys := (hcs ([y]))) (by kernel_rfl) (by kernel_rfl) own_c (hrow1 hy m56) (ones_hcs _) (by unfold maxLen; omega) (by omega)) ?_
       rintro _ h69 ⟨ad67,cap68,rfl,ownx,g,hb⟩
       rw [blkOf_slice] at g hb
       have hlo := e0.size
       have sepo := sep
       replace e0 := e0.grew g (sep.low 0 rfl)
       replace kt := kt.grew g (sep.zero 0 rfl h0s)
       replace own_hl := own_hl.kept g (by rw [blkOf_slice]; exact (sep.ap 4 0))
       replace own_p := own_p.kept g (by rw [blkOf_slice]; exact (sep.ap 2 0))
       replace m3 := Grew.blk g m3 ((sep.bp 5 0))
       replace m13 := Grew.blk g m13 ((sep.bp 3 0))
       replace m56 := Grew.blk g m56 ((sep.bp 1 0))
       replace sep := sep.up g.size
       replace sep : Sep h.size h69.size [ad67.map (·.block),some (h20.size),ad18.map (·.block),some (h10.size),(some ah).map (·.block),some (h.size)] := sepo.set g.size hlo 0 (y := ad67.map (fun (x : Addr) => x.block)) rfl (hb.imp id fun e => .inr ⟨_,e,Nat.le_refl _⟩) (fun k e => ownx.lt (by rw [blkOf_slice]; exact e))
       replace own_c : Own h69 (.slice ad67 (P.length + 1) cap68) 23 (P.length + 1) 32 (hcs (P ++ [y])) := Own.appG ownx (by first | rfl | exact (hcs_append _ _).symm | simp [hcs_append]) (by first | rfl | (simp; done) | (simp; omega))
       clear ownx g hb hlo sepo
       refine ⟨?_,?_⟩
       ·intro j hj
        simp only [List.mem_cons,List.not_mem_nil,or_false] at hj
        rcases hj with rfl | rfl
        ·exact goodOf (Calm.load (T := 23) (p := (Addr.add ah (mm * 32))) (by kernel_rfl) (HR.loads (k := mm) (q := mm * 32) (HR.of own_hl h32) (by kernel_rfl) (by omega) (by omega)))
        ·exact goodOf (Calm.load (T := 23) (p := ⟨h10.size,0,none⟩) (by kernel_rfl) (Loads.hash (by kernel_rfl) (root_len h32) m13))
       replace own_c : Own h69 (.slice ad67 ((0 + P.length) + 1) cap68) 23 ((0 + P.length) + 1) 32 (hcs (P ++ [y])) := by rw [show (0 + P.length) + 1 = P.length + 1 by omega]; exact own_c
       refine SimK.eff0 (i := 28) (D' := 536870911) (X' := 536870911) (by kernel_rfl) (by kernel_rfl) (by kernel_rfl) (by kernel_rfl) (Does.call (f := 11) (args := #[.agg ((H.getD mm []).map bv).toArray,.int .i64 ((mm : Nat) : Int),.int .i64 ((sl.length : Nat) : Int),.slice ad67 ((0 + P.length) + 1) cap68,.agg ((root H).map bv).toArray]) (by kernel_rfl) (vincl_n _ (H.getD mm []) ((mm : Nat) : Int) ((sl.length : Nat) : Int) (P ++ [y]) _ _ (root H) ((0 + P.length) + 1) (by simp) (hrl.2.1.get (k := mm) (by rw [hrl.2.2]; omega)) (root_len h32) (HR.of own_c (h32P.append (All32.one hy))) (by omega) (by omega) kt (fun k e => own_c.lt (by rw [blkOf_slice]; exact e)) false (incl_wrong hHl hml hP (by simp)))) ?_
       rintro _ h70 ⟨rfl,g⟩
       replace e0 := e0.ext g
       replace kt := kt.ext g
       replace own_hl := own_hl.ext g
       replace own_p := own_p.ext g
       replace own_c := own_c.ext g
       replace m3 := Ext.blk g m3
       replace m13 := Ext.blk g m13
       replace m56 := Ext.blk g m56
       replace sep := sep.up g.size
       clear g
       refine mP 8589934591 [29,30,31,32] [.bool false,.bool false,.slice (some ah) sl.length cap8,nV mm] ?_
       refine mF 17179869183 33 (.pointer (some (Addr.add ah (mm * 32)))) (Calm.indexA (a := ah) (len := sl.length) (sz := 32) (k := ((mm : Nat) : Int)) mm (mm * 32) (by kernel_rfl) rfl (by omega) (by omega)) ?_
       refine mL 34359738367 17331126275 34 (.agg ((H.getD mm []).map bv).toArray) (Calm.load (T := 23) (p := (Addr.add ah (mm * 32))) (by kernel_rfl) (HR.loads (k := mm) (q := mm * 32) (HR.of own_hl h32) (by kernel_rfl) (by omega) (by omega))) ?_
       refine mP 274877906943 [35,36,37] [nV mm,nV sl.length,.slice ad18 P.length cap19] ?_
       refine mF 549755813887 38 (.slice xp (P.length - 1) (cap19 - 1)) (fun h => Calm.sliceO (a := ad18) (len := P.length) (cap := cap19) (sz := 32) (x := xp) 1 P.length cap19 (P.length - 1) (cap19 - 1) (by kernel_rfl) (.inl ⟨rfl,rfl⟩) (.inl ⟨rfl,rfl⟩) (.inr rfl) (by omega) (by omega) hxp (by first | rfl | omega) (by first | rfl | omega) h) ?_
       refine mL 1099511627775 567086940163 39 (.agg ((root H).map bv).toArray) (Calm.load (T := 23) (p := ⟨h10.size,0,none⟩) (by kernel_rfl) (Loads.hash (by kernel_rfl) (root_len h32) m13)) ?_
       refine SimK.eff0 (i := 40) (D' := 2199023255551) (X' := 2199023255551) (by kernel_rfl) (by kernel_rfl) (by kernel_rfl) (by kernel_rfl) (Does.call (f := 11) (args := #[.agg ((H.getD mm []).map bv).toArray,.int .i64 ((mm : Nat) : Int),.int .i64 ((sl.length : Nat) : Int),.slice xp (P.length - 1) (cap19 - 1),.agg ((root H).map bv).toArray]) (by kernel_rfl) (vincl_n _ (H.getD mm []) ((mm : Nat) : Int) ((sl.length : Nat) : Int) (P.drop 1) _ _ (root H) (P.length - 1) (by simp) (hrl.2.1.get (k := mm) (by rw [hrl.2.2]; omega)) (root_len h32) ((HR.of own_p h32P).drop (k := 1) (by omega) hxp) (by omega) (by omega) kt (fun k e => own_p.lt (by rw [blkOf_slice,← off_blk hxp]; exact e)) false (incl_wrong hHl hml hP (by simp; omega)))) ?_
       rintro _ h71 ⟨rfl,g⟩
       replace e0 := e0.ext g
       replace kt := kt.ext g
       replace own_hl := own_hl.ext g
       replace own_p := own_p.ext g
       replace own_c := own_c.ext g
       replace m3 := Ext.blk g m3
       replace m13 := Ext.blk g m13
       replace m56 := Ext.blk g m56
       replace sep := sep.up g.size
       clear g
       refine mP 35184372088831 [41,42,43,44] [.bool false,.bool false,.slice (some ah) sl.length cap8,nV mm] ?_
       refine mF 70368744177663 45 (.pointer (some (Addr.add ah (mm * 32)))) (Calm.indexA (a := ah) (len := sl.length) (sz := 32) (k := ((mm : Nat) : Int)) mm (mm * 32) (by kernel_rfl) rfl (by omega) (by omega)) ?_
       refine mL 140737488355327 70935831117827 46 (.agg ((H.getD mm []).map bv).toArray) (Calm.load (T := 23) (p := (Addr.add ah (mm * 32))) (by kernel_rfl) (HR.loads (k := mm) (q := mm * 32) (HR.of own_hl h32) (by kernel_rfl) (by omega) (by omega))) ?_
       refine mP 4503599627370495 [47,48,49,50,51] [nV mm,nV sl.length,.slice ad18 P.length cap19,.slice ad18 P.length cap19,nV P.length] ?_
       refine m1 9007199254740991 52 (.int .i64 ((P.length - 1 : Nat) : Int)) (.int .i64 (IntKind.i64.wrap (((P.length : Nat) : Int) - 1))) (congrArg (Value.int .i64) (w64' (by omega) (by omega) (by omega))) ?_
       refine mF 18014398509481983 53 (.slice ad18 (P.length - 1) cap19) (fun h => Calm.sliceO (a := ad18) (len := P.length) (cap := cap19) (sz := 32) (x := ad18) 0 (P.length - 1) cap19 (P.length - 1) cap19 (by kernel_rfl) (.inl ⟨rfl,rfl⟩) (.inr rfl) (.inl ⟨rfl,rfl⟩) (by omega) (by omega) (opt_add0 _ 32) (by first | rfl | omega) (by first | rfl | omega) h) ?_
       refine mL 36028797018963967 18085334340599811 54 (.agg ((root H).map bv).toArray) (Calm.load (T := 23) (p := ⟨h10.size,0,none⟩) (by kernel_rfl) (Loads.hash (by kernel_rfl) (root_len h32) m13)) ?_
       refine SimK.eff0 (i := 55) (D' := 72057594037927935) (X' := 72057594037927935) (by kernel_rfl) (by kernel_rfl) (by kernel_rfl) (by kernel_rfl) (Does.call (f := 11) (args := #[.agg ((H.getD mm []).map bv).toArray,.int .i64 ((mm : Nat) : Int),.int .i64 ((sl.length : Nat) : Int),.slice ad18 (P.length - 1) cap19,.agg ((root H).map bv).toArray]) (by kernel_rfl) (vincl_n _ (H.getD mm []) ((mm : Nat) : Int) ((sl.length : Nat) : Int) (P.take (P.length - 1)) _ _ (root H) (P.length - 1) (by simp) (hrl.2.1.get (k := mm) (by rw [hrl.2.2]; omega)) (root_len h32) ((HR.of own_p h32P).take (k := P.length - 1) (by omega)) (by omega) (by omega) kt (fun k e => own_p.lt (by rw [blkOf_slice]; exact e)) false (incl_wrong hHl hml hP (by simp; omega)))) ?_
       rintro _ h72 ⟨rfl,g⟩
       replace e0 := e0.ext g
       replace kt := kt.ext g
       replace own_hl := own_hl.ext g
       replace own_p := own_p.ext g
       replace own_c := own_c.ext g
       replace m3 := Ext.blk g m3
       replace m13 := Ext.blk g m13
       replace m56 := Ext.blk g m56
       replace sep := sep.up g.size
       clear g
       refine mP 144115188075855871 [56] [.bool false] ?_
       refine mD [(1,nV mm),(5,pV h.size),(7,.bool true),(8,.slice (some ah) sl.length cap8),(9,nV sl.length),(10,pV h10.size),(112,.bool false)] ?_
       clear hF a; intro a hF
       replace sep := sep.sub (l' := [ad18.map (·.block),some (h10.size),(some ah).map (·.block),some (h.size)]) (.cons _ (.cons _ (.cons_cons _ (.cons_cons _ (.cons_cons _ (.cons_cons _ (.slnil)))))))
       exact ⟨rfl,e0,kt,own_hl,own_p,m3,m13,sep,hF⟩
     ·skip
      refine cD [0,0,3,7,15,15,63,127,15,15,15,15,4095,8191,16383,32767,32767,131071,262143,32767,32767,32767,32767,6324223,32767,16809983,65044479,32767,268435455,536870911,1073741823,2147483647,2147483647,8589934591,17179869183,2147483647,2147483647,2147483647,139586437119,2147483647,1099511627775,2199023255551,4398046511103,8796093022207,8796093022207,35184372088831,70368744177663,8796093022207,8796093022207,8796093022207,8796093022207,1134695999864831,3386495813550079,8453045394341887,8796093022207,36028797018963967,72057594037927935] 15 mixed hF ?_
      refine mL 1 1 0 (.agg (y.map bv).toArray) (Calm.load (T := 23) (p := ⟨h.size,0,none⟩) (by kernel_rfl) (Loads.hash (by kernel_rfl) hy m3)) ?_
      refine mL 3 3 1 (.agg ((root H).map bv).toArray) (Calm.load (T := 23) (p := ⟨h10.size,0,none⟩) (by kernel_rfl) (Loads.hash (by kernel_rfl) (root_len h32) m13)) ?_
      refine mF 7 2 (.bool true) (eqHF (q := false) (l := y) (r := root H) (n := 32) (by kernel_rfl) hy (root_len h32) hyr) ?_
      refine mP 63 [3,4,5] [.bool true,.slice (some ah) sl.length cap8,nV mm] ?_
      refine mF 127 6 (.pointer (some (Addr.add ah (mm * 32)))) (Calm.indexA (a := ah) (len := sl.length) (sz := 32) (k := ((mm : Nat) : Int)) mm (mm * 32) (by kernel_rfl) rfl (by omega) (by omega)) ?_
      refine mL 255 131 7 (.agg ((H.getD mm []).map bv).toArray) (Calm.load (T := 23) (p := (Addr.add ah (mm * 32))) (by kernel_rfl) (HR.loads (k := mm) (q := mm * 32) (HR.of own_hl h32) (by kernel_rfl) (by omega) (by omega))) ?_
      refine mP 2047 [8,9,10] [nV mm,nV sl.length,.slice ad18 P.length cap19] ?_
      refine mL 4095 2179 11 (.agg (y.map bv).toArray) (Calm.load (T := 23) (p := ⟨h.size,0,none⟩) (by kernel_rfl) (Loads.hash (by kernel_rfl) hy m3)) ?_
      refine SimK.eff0 (i := 12) (D' := 8191) (X' := 8191) (by kernel_rfl) (by kernel_rfl) (by kernel_rfl) (by kernel_rfl) (Does.call (f := 11) (args := #[.agg ((H.getD mm []).map bv).toArray,.int .i64 ((mm : Nat) : Int),.int .i64 ((sl.length : Nat) : Int),.slice ad18 P.length cap19,.agg (y.map bv).toArray]) (by kernel_rfl) (vincl_n _ (H.getD mm []) ((mm : Nat) : Int) ((sl.length : Nat) : Int) P _ _ y (P.length) rfl (hrl.2.1.get (k := mm) (by rw [hrl.2.2]; omega)) hy (HR.of own_p h32P) (by omega) (by omega) kt (fun k e => own_p.lt (by rw [blkOf_slice]; exact e)) false (incl_other hHl hml hP hyr))) ?_
      rintro _ h73 ⟨rfl,g⟩
      replace e0 := e0.ext g
      replace kt := kt.ext g
      replace own_hl := own_hl.ext g
      replace own_p := own_p.ext g
      replace m3 := Ext.blk g m3
      replace m13 := Ext.blk g m13
      replace sep := sep.up g.size
      clear g
      refine mP 131071 [13,14,15,16] [.bool false,.bool false,.slice (some ah) sl.length cap8,nV mm] ?_
      refine mF 262143 17 (.pointer (some (Addr.add ah (mm * 32)))) (Calm.indexA (a := ah) (len := sl.length) (sz := 32) (k := ((mm : Nat) : Int)) mm (mm * 32) (by kernel_rfl) rfl (by omega) (by omega)) ?_
      refine mL 524287 264323 18 (.agg ((H.getD mm []).map bv).toArray) (Calm.load (T := 23) (p := (Addr.add ah (mm * 32))) (by kernel_rfl) (HR.loads (k := mm) (q := mm * 32) (HR.of own_hl h32) (by kernel_rfl) (by omega) (by omega))) ?_
      refine mP 6291455 [19,20,22] [nV mm,nV sl.length,.slice ad18 P.length cap19] ?_
      refine mL 23068671 17041539 24 (.agg (y.map bv).toArray) (Calm.load (T := 23) (p := ⟨h.size,0,none⟩) (by kernel_rfl) (Loads.hash (by kernel_rfl) hy m3)) ?_
      refine mL 157286399 151259267 27 (.agg ((root H).map bv).toArray) (Calm.load (T := 23) (p := ⟨h10.size,0,none⟩) (by kernel_rfl) (Loads.hash (by kernel_rfl) (root_len h32) m13)) ?_
      refine SimK.effs (is := [21,25]) (by kernel_rfl) (by simp) ?_
      intro q hq
      simp only [List.mem_cons,List.not_mem_nil,or_false] at hq
      rcases hq with rfl | rfl
      ·skip
       refine SimK.effAt (i := 21) (D' := 159383551) (X' := 2129919) (by kernel_rfl) (by kernel_rfl) [18,24,27] (by kernel_rfl) (Does.new (v := .slice (some ⟨h73.size,0,none⟩) 0 0) (o := .cells #[] 23) (by kernel_rfl)) ?_
       rintro _ h74 ⟨rfl,hh⟩
       have g75 : Ext h73 h74 := push_ext hh
       have m76 : h74[h73.size]? = some (.cells #[] 23) := push_at hh
       clear hh
       have lt77 := blk_lt m76
       have zs78 := e0.size
       have hlo := e0.size
       have sepo := sep
       replace e0 := e0.ext g75
       replace kt := kt.ext g75
       replace own_hl := own_hl.ext g75
       replace own_p := own_p.ext g75
       replace m3 := Ext.blk g75 m3
       replace m13 := Ext.blk g75 m13
       replace sep := sep.up g75.size
       replace sep := sepo.new hlo (blk_lt m76)
       clear sepo hlo
       refine ⟨?_,?_⟩
       ·intro j hj
        simp only [List.mem_cons,List.not_mem_nil,or_false] at hj
        rcases hj with rfl | rfl | rfl
        ·exact goodOf (Calm.load (T := 23) (p := (Addr.add ah (mm * 32))) (by kernel_rfl) (HR.loads (k := mm) (q := mm * 32) (HR.of own_hl h32) (by kernel_rfl) (by omega) (by omega)))
        ·exact goodOf (Calm.load (T := 23) (p := ⟨h.size,0,none⟩) (by kernel_rfl) (Loads.hash (by kernel_rfl) hy m3))
        ·exact goodOf (Calm.load (T := 23) (p := ⟨h10.size,0,none⟩) (by kernel_rfl) (Loads.hash (by kernel_rfl) (root_len h32) m13))
       refine SimK.effs (is := [23,25]) (by kernel_rfl) (by simp) ?_
       intro q hq
       simp only [List.mem_cons,List.not_mem_nil,or_false] at hq
       rcases hq with rfl | rfl
       ·skip
        have own_c : Own h74 (.slice (some ⟨h73.size,0,none⟩) 0 0) 23 ([] : List UInt8).length 32 (hcs []) := Own.empty 32 m76
        replace sep : Sep h.size h74.size [(some ⟨h73.size,0,none⟩ : Option Addr).map (·.block),ad18.map (·.block),some (h10.size),(some ah).map (·.block),some (h.size)] := sep
        clear m76 lt77 zs78
        refine SimK.effAt (i := 23) (D' := 167772159) (X' := 14712831) (by kernel_rfl) (by kernel_rfl) [18,24,27] (by kernel_rfl) (Does.append2 (t := 24) (E := 23) (sz := 32) (by_ := 32) (n := 0) (m := P.length) (v := .slice (some ⟨h73.size,0,none⟩) 0 0) (x := .slice ad18 P.length cap19) (xs := (hcs ([]))) (ys := (hcs P)) (by kernel_rfl) (by kernel_rfl) own_c own_p.row (ones_hcs _) (by unfold maxLen; omega) (by omega)) ?_
        rintro _ h81 ⟨ad79,cap80,rfl,ownx,g,hb⟩
        rw [blkOf_slice] at g hb
        have hlo := e0.size
        have sepo := sep
        replace e0 := e0.grew g (sep.low 0 rfl)
        replace kt := kt.grew g (sep.zero 0 rfl h0s)
        replace own_hl := own_hl.kept g (by rw [blkOf_slice]; exact (sep.ap 3 0))
        replace own_p := own_p.kept g (by rw [blkOf_slice]; exact (sep.ap 1 0))
        replace m3 := Grew.blk g m3 ((sep.bp 4 0))
        replace m13 := Grew.blk g m13 ((sep.bp 2 0))
        replace sep := sep.up g.size
        replace sep : Sep h.size h81.size [ad79.map (·.block),ad18.map (·.block),some (h10.size),(some ah).map (·.block),some (h.size)] := sepo.set g.size hlo 0 (y := ad79.map (fun (x : Addr) => x.block)) rfl (hb.imp id fun e => .inr ⟨_,e,Nat.le_refl _⟩) (fun k e => ownx.lt (by rw [blkOf_slice]; exact e))
        replace own_c : Own h81 (.slice ad79 P.length cap80) 23 P.length 32 (hcs P) := Own.appG ownx (by first | rfl | exact (hcs_append _ _).symm | simp [hcs_append]) (by first | rfl | (simp; done) | (simp; omega))
        clear ownx g hb hlo sepo
        refine ⟨?_,?_⟩
        ·intro j hj
         simp only [List.mem_cons,List.not_mem_nil,or_false] at hj
         rcases hj with rfl | rfl | rfl
         ·exact goodOf (Calm.load (T := 23) (p := (Addr.add ah (mm * 32))) (by kernel_rfl) (HR.loads (k := mm) (q := mm * 32) (HR.of own_hl h32) (by kernel_rfl) (by omega) (by omega)))
         ·exact goodOf (Calm.load (T := 23) (p := ⟨h.size,0,none⟩) (by kernel_rfl) (Loads.hash (by kernel_rfl) hy m3))
         ·exact goodOf (Calm.load (T := 23) (p := ⟨h10.size,0,none⟩) (by kernel_rfl) (Loads.hash (by kernel_rfl) (root_len h32) m13))
        refine SimK.eff (i := 25) (D' := 201326591) (X' := 65044479) (by kernel_rfl) (by kernel_rfl) (by kernel_rfl) [18,27] (by kernel_rfl) (Does.newHs (L := [y]) (t := 24) (E := 23) (by_ := 32) (n := 1) (by kernel_rfl) (by kernel_rfl) (All32.cons hy All32.nil) rfl (by decide) (by decide)) ?_
        rintro _ h82 ⟨rfl,hh⟩
        have g83 : Ext h81 h82 := push_ext hh
        have m84 : h82[h81.size]? = some (.cells (hcs [y]).toArray 23) := push_at hh
        clear hh
        have lt85 := blk_lt m84
        have zs86 := e0.size
        have hlo := e0.size
        have sepo := sep
        replace e0 := e0.ext g83
        replace kt := kt.ext g83
        replace own_hl := own_hl.ext g83
        replace own_p := own_p.ext g83
        replace own_c := own_c.ext g83
        replace m3 := Ext.blk g83 m3
        replace m13 := Ext.blk g83 m13
        replace sep := sep.up g83.size
        replace sep := sepo.new hlo (blk_lt m84)
        clear sepo hlo
        refine ⟨?_,?_⟩
        ·intro j hj
         simp only [List.mem_cons,List.not_mem_nil,or_false] at hj
         rcases hj with rfl | rfl
         ·exact goodOf (Calm.load (T := 23) (p := (Addr.add ah (mm * 32))) (by kernel_rfl) (HR.loads (k := mm) (q := mm * 32) (HR.of own_hl h32) (by kernel_rfl) (by omega) (by omega)))
         ·exact goodOf (Calm.load (T := 23) (p := ⟨h10.size,0,none⟩) (by kernel_rfl) (Loads.hash (by kernel_rfl) (root_len h32) m13))
        replace own_c : Own h82 (.slice ad79 (0 + P.length) cap80) 23 (0 + P.length) 32 (hcs P) := by rw [show 0 + P.length = P.length by omega]; exact own_c
        refine SimK.eff (i := 26) (D' := 268435455) (X' := 132153343) (by kernel_rfl) (by kernel_rfl) (by kernel_rfl) [18,27] (by kernel_rfl) (Does.append2 (t := 24) (E := 23) (sz := 32) (by_ := 32) (n := 0 + P.length) (m := 1) (v := .slice ad79 (0 + P.length) cap80) (x := .slice (some ⟨h81.size,0,none⟩) 1 1) (xs := (hcs P)) (ys := (hcs ([y]))) (by kernel_rfl) (by kernel_rfl) own_c (hrow1 hy m84) (ones_hcs _) (by unfold maxLen; omega) (by omega)) ?_
        rintro _ h89 ⟨ad87,cap88,rfl,ownx,g,hb⟩
        rw [blkOf_slice] at g hb
        have hlo := e0.size
        have sepo := sep
        replace e0 := e0.grew g (sep.low 1 rfl)
        replace kt := kt.grew g (sep.zero 1 rfl h0s)
        replace own_hl := own_hl.kept g (by rw [blkOf_slice]; exact (sep.ap 4 1))
        replace own_p := own_p.kept g (by rw [blkOf_slice]; exact (sep.ap 2 1))
        replace m3 := Grew.blk g m3 ((sep.bp 5 1))
        replace m13 := Grew.blk g m13 ((sep.bp 3 1))
        replace m84 := Grew.blk g m84 ((sep.bp 0 1))
        replace sep := sep.up g.size
        replace sep : Sep h.size h89.size [some (h81.size),ad87.map (·.block),ad18.map (·.block),some (h10.size),(some ah).map (·.block),some (h.size)] := sepo.set g.size hlo 1 (y := ad87.map (fun (x : Addr) => x.block)) rfl (hb.imp id fun e => .inr ⟨_,e,Nat.le_refl _⟩) (fun k e => ownx.lt (by rw [blkOf_slice]; exact e))
        replace own_c : Own h89 (.slice ad87 (P.length + 1) cap88) 23 (P.length + 1) 32 (hcs (P ++ [y])) := Own.appG ownx (by first | rfl | exact (hcs_append _ _).symm | simp [hcs_append]) (by first | rfl | (simp; done) | (simp; omega))
        clear ownx g hb hlo sepo
        refine ⟨?_,?_⟩
        ·intro j hj
         simp only [List.mem_cons,List.not_mem_nil,or_false] at hj
         rcases hj with rfl | rfl
         ·exact goodOf (Calm.load (T := 23) (p := (Addr.add ah (mm * 32))) (by kernel_rfl) (HR.loads (k := mm) (q := mm * 32) (HR.of own_hl h32) (by kernel_rfl) (by omega) (by omega)))
         ·exact goodOf (Calm.load (T := 23) (p := ⟨h10.size,0,none⟩) (by kernel_rfl) (Loads.hash (by kernel_rfl) (root_len h32) m13))
        replace own_c : Own h89 (.slice ad87 ((0 + P.length) + 1) cap88) 23 ((0 + P.length) + 1) 32 (hcs (P ++ [y])) := by rw [show (0 + P.length) + 1 = P.length + 1 by omega]; exact own_c
        refine SimK.eff0 (i := 28) (D' := 536870911) (X' := 536870911) (by kernel_rfl) (by kernel_rfl) (by kernel_rfl) (by kernel_rfl) (Does.call (f := 11) (args := #[.agg ((H.getD mm []).map bv).toArray,.int .i64 ((mm : Nat) : Int),.int .i64 ((sl.length : Nat) : Int),.slice ad87 ((0 + P.length) + 1) cap88,.agg ((root H).map bv).toArray]) (by kernel_rfl) (vincl_n _ (H.getD mm []) ((mm : Nat) : Int) ((sl.length : Nat) : Int) (P ++ [y]) _ _ (root H) ((0 + P.length) + 1) (by simp) (hrl.2.1.get (k := mm) (by rw [hrl.2.2]; omega)) (root_len h32) (HR.of own_c (h32P.append (All32.one hy))) (by omega) (by omega) kt (fun k e => own_c.lt (by rw [blkOf_slice]; exact e)) false (incl_wrong hHl hml hP (by simp)))) ?_
        rintro _ h90 ⟨rfl,g⟩
        replace e0 := e0.ext g
        replace kt := kt.ext g
        replace own_hl := own_hl.ext g
        replace own_p := own_p.ext g
        replace own_c := own_c.ext g
        replace m3 := Ext.blk g m3
        replace m13 := Ext.blk g m13
        replace m84 := Ext.blk g m84
        replace sep := sep.up g.size
        clear g
        refine mP 8589934591 [29,30,31,32] [.bool false,.bool false,.slice (some ah) sl.length cap8,nV mm] ?_
        refine mF 17179869183 33 (.pointer (some (Addr.add ah (mm * 32)))) (Calm.indexA (a := ah) (len := sl.length) (sz := 32) (k := ((mm : Nat) : Int)) mm (mm * 32) (by kernel_rfl) rfl (by omega) (by omega)) ?_
        refine mL 34359738367 17331128451 34 (.agg ((H.getD mm []).map bv).toArray) (Calm.load (T := 23) (p := (Addr.add ah (mm * 32))) (by kernel_rfl) (HR.loads (k := mm) (q := mm * 32) (HR.of own_hl h32) (by kernel_rfl) (by omega) (by omega))) ?_
        refine mP 274877906943 [35,36,37] [nV mm,nV sl.length,.slice ad18 P.length cap19] ?_
        refine mF 549755813887 38 (.slice xp (P.length - 1) (cap19 - 1)) (fun h => Calm.sliceO (a := ad18) (len := P.length) (cap := cap19) (sz := 32) (x := xp) 1 P.length cap19 (P.length - 1) (cap19 - 1) (by kernel_rfl) (.inl ⟨rfl,rfl⟩) (.inl ⟨rfl,rfl⟩) (.inr rfl) (by omega) (by omega) hxp (by first | rfl | omega) (by first | rfl | omega) h) ?_
        refine mL 1099511627775 567086942339 39 (.agg ((root H).map bv).toArray) (Calm.load (T := 23) (p := ⟨h10.size,0,none⟩) (by kernel_rfl) (Loads.hash (by kernel_rfl) (root_len h32) m13)) ?_
        refine SimK.eff0 (i := 40) (D' := 2199023255551) (X' := 2199023255551) (by kernel_rfl) (by kernel_rfl) (by kernel_rfl) (by kernel_rfl) (Does.call (f := 11) (args := #[.agg ((H.getD mm []).map bv).toArray,.int .i64 ((mm : Nat) : Int),.int .i64 ((sl.length : Nat) : Int),.slice xp (P.length - 1) (cap19 - 1),.agg ((root H).map bv).toArray]) (by kernel_rfl) (vincl_n _ (H.getD mm []) ((mm : Nat) : Int) ((sl.length : Nat) : Int) (P.drop 1) _ _ (root H) (P.length - 1) (by simp) (hrl.2.1.get (k := mm) (by rw [hrl.2.2]; omega)) (root_len h32) ((HR.of own_p h32P).drop (k := 1) (by omega) hxp) (by omega) (by omega) kt (fun k e => own_p.lt (by rw [blkOf_slice,← off_blk hxp]; exact e)) false (incl_wrong hHl hml hP (by simp; omega)))) ?_
        rintro _ h91 ⟨rfl,g⟩
        replace e0 := e0.ext g
        replace kt := kt.ext g
        replace own_hl := own_hl.ext g
        replace own_p := own_p.ext g
        replace own_c := own_c.ext g
        replace m3 := Ext.blk g m3
        replace m13 := Ext.blk g m13
        replace m84 := Ext.blk g m84
        replace sep := sep.up g.size
        clear g
        refine mP 35184372088831 [41,42,43,44] [.bool false,.bool false,.slice (some ah) sl.length cap8,nV mm] ?_
        refine mF 70368744177663 45 (.pointer (some (Addr.add ah (mm * 32)))) (Calm.indexA (a := ah) (len := sl.length) (sz := 32) (k := ((mm : Nat) : Int)) mm (mm * 32) (by kernel_rfl) rfl (by omega) (by omega)) ?_
        refine mL 140737488355327 70935831120003 46 (.agg ((H.getD mm []).map bv).toArray) (Calm.load (T := 23) (p := (Addr.add ah (mm * 32))) (by kernel_rfl) (HR.loads (k := mm) (q := mm * 32) (HR.of own_hl h32) (by kernel_rfl) (by omega) (by omega))) ?_
        refine mP 4503599627370495 [47,48,49,50,51] [nV mm,nV sl.length,.slice ad18 P.length cap19,.slice ad18 P.length cap19,nV P.length] ?_
        refine m1 9007199254740991 52 (.int .i64 ((P.length - 1 : Nat) : Int)) (.int .i64 (IntKind.i64.wrap (((P.length : Nat) : Int) - 1))) (congrArg (Value.int .i64) (w64' (by omega) (by omega) (by omega))) ?_
        refine mF 18014398509481983 53 (.slice ad18 (P.length - 1) cap19) (fun h => Calm.sliceO (a := ad18) (len := P.length) (cap := cap19) (sz := 32) (x := ad18) 0 (P.length - 1) cap19 (P.length - 1) cap19 (by kernel_rfl) (.inl ⟨rfl,rfl⟩) (.inr rfl) (.inl ⟨rfl,rfl⟩) (by omega) (by omega) (opt_add0 _ 32) (by first | rfl | omega) (by first | rfl | omega) h) ?_
        refine mL 36028797018963967 18085334340601987 54 (.agg ((root H).map bv).toArray) (Calm.load (T := 23) (p := ⟨h10.size,0,none⟩) (by kernel_rfl) (Loads.hash (by kernel_rfl) (root_len h32) m13)) ?_
        refine SimK.eff0 (i := 55) (D' := 72057594037927935) (X' := 72057594037927935) (by kernel_rfl) (by kernel_rfl) (by kernel_rfl) (by kernel_rfl) (Does.call (f := 11) (args := #[.agg ((H.getD mm []).map bv).toArray,.int .i64 ((mm : Nat) : Int),.int .i64 ((sl.length : Nat) : Int),.slice ad18 (P.length - 1) cap19,.agg ((root H).map bv).toArray]) (by kernel_rfl) (vincl_n _ (H.getD mm []) ((mm : Nat) : Int) ((sl.length : Nat) : Int) (P.take (P.length - 1)) _ _ (root H) (P.length - 1) (by simp) (hrl.2.1.get (k := mm) (by rw [hrl.2.2]; omega)) (root_len h32) ((HR.of own_p h32P).take (k := P.length - 1) (by omega)) (by omega) (by omega) kt (fun k e => own_p.lt (by rw [blkOf_slice]; exact e)) false (incl_wrong hHl hml hP (by simp; omega)))) ?_
        rintro _ h92 ⟨rfl,g⟩
        replace e0 := e0.ext g
        replace kt := kt.ext g
        replace own_hl := own_hl.ext g
        replace own_p := own_p.ext g
        replace own_c := own_c.ext g
        replace m3 := Ext.blk g m3
        replace m13 := Ext.blk g m13
        replace m84 := Ext.blk g m84
        replace sep := sep.up g.size
        clear g
        refine mP 144115188075855871 [56] [.bool false] ?_
        refine mD [(1,nV mm),(5,pV h.size),(7,.bool true),(8,.slice (some ah) sl.length cap8),(9,nV sl.length),(10,pV h10.size),(112,.bool false)] ?_
        clear hF a; intro a hF
        replace sep := sep.sub (l' := [ad18.map (·.block),some (h10.size),(some ah).map (·.block),some (h.size)]) (.cons _ (.cons _ (.cons_cons _ (.cons_cons _ (.cons_cons _ (.cons_cons _ (.slnil)))))))
        exact ⟨rfl,e0,kt,own_hl,own_p,m3,m13,sep,hF⟩
       ·skip
        refine SimK.effAt (i := 25) (D' := 192937983) (X' := 52461567) (by kernel_rfl) (by kernel_rfl) [18,27] (by kernel_rfl) (Does.newHs (L := [y]) (t := 24) (E := 23) (by_ := 32) (n := 1) (by kernel_rfl) (by kernel_rfl) (All32.cons hy All32.nil) rfl (by decide) (by decide)) ?_
        rintro _ h93 ⟨rfl,hh⟩
        have g94 : Ext h74 h93 := push_ext hh
        have m95 : h93[h74.size]? = some (.cells (hcs [y]).toArray 23) := push_at hh
        clear hh
        have lt96 := blk_lt m95
        have zs97 := e0.size
        have hlo := e0.size
        have sepo := sep
        replace e0 := e0.ext g94
        replace kt := kt.ext g94
        replace own_hl := own_hl.ext g94
        replace own_p := own_p.ext g94
        replace m3 := Ext.blk g94 m3
        replace m13 := Ext.blk g94 m13
        replace m76 := Ext.blk g94 m76
        replace sep := sep.up g94.size
        replace sep := sepo.new hlo (blk_lt m95)
        clear sepo hlo
        refine ⟨?_,?_⟩
        ·intro j hj
         simp only [List.mem_cons,List.not_mem_nil,or_false] at hj
         rcases hj with rfl | rfl
         ·exact goodOf (Calm.load (T := 23) (p := (Addr.add ah (mm * 32))) (by kernel_rfl) (HR.loads (k := mm) (q := mm * 32) (HR.of own_hl h32) (by kernel_rfl) (by omega) (by omega)))
         ·exact goodOf (Calm.load (T := 23) (p := ⟨h10.size,0,none⟩) (by kernel_rfl) (Loads.hash (by kernel_rfl) (root_len h32) m13))
        have own_c : Own h93 (.slice (some ⟨h73.size,0,none⟩) 0 0) 23 ([] : List UInt8).length 32 (hcs []) := Own.empty 32 m76
        replace sep : Sep h.size h93.size [some (h74.size),(some ⟨h73.size,0,none⟩ : Option Addr).map (·.block),ad18.map (·.block),some (h10.size),(some ah).map (·.block),some (h.size)] := sep
        clear m76 lt77 zs78
        refine SimK.eff (i := 23) (D' := 201326591) (X' := 65044479) (by kernel_rfl) (by kernel_rfl) (by kernel_rfl) [18,27] (by kernel_rfl) (Does.append2 (t := 24) (E := 23) (sz := 32) (by_ := 32) (n := 0) (m := P.length) (v := .slice (some ⟨h73.size,0,none⟩) 0 0) (x := .slice ad18 P.length cap19) (xs := (hcs ([]))) (ys := (hcs P)) (by kernel_rfl) (by kernel_rfl) own_c own_p.row (ones_hcs _) (by unfold maxLen; omega) (by omega)) ?_
        rintro _ h100 ⟨ad98,cap99,rfl,ownx,g,hb⟩
        rw [blkOf_slice] at g hb
        have hlo := e0.size
        have sepo := sep
        replace e0 := e0.grew g (sep.low 1 rfl)
        replace kt := kt.grew g (sep.zero 1 rfl h0s)
        replace own_hl := own_hl.kept g (by rw [blkOf_slice]; exact (sep.ap 4 1))
        replace own_p := own_p.kept g (by rw [blkOf_slice]; exact (sep.ap 2 1))
        replace m3 := Grew.blk g m3 ((sep.bp 5 1))
        replace m13 := Grew.blk g m13 ((sep.bp 3 1))
        replace m95 := Grew.blk g m95 ((sep.bp 0 1))
        replace sep := sep.up g.size
        replace sep : Sep h.size h100.size [some (h74.size),ad98.map (·.block),ad18.map (·.block),some (h10.size),(some ah).map (·.block),some (h.size)] := sepo.set g.size hlo 1 (y := ad98.map (fun (x : Addr) => x.block)) rfl (hb.imp id fun e => .inr ⟨_,e,Nat.le_refl _⟩) (fun k e => ownx.lt (by rw [blkOf_slice]; exact e))
        replace own_c : Own h100 (.slice ad98 P.length cap99) 23 P.length 32 (hcs P) := Own.appG ownx (by first | rfl | exact (hcs_append _ _).symm | simp [hcs_append]) (by first | rfl | (simp; done) | (simp; omega))
        clear ownx g hb hlo sepo
        refine ⟨?_,?_⟩
        ·intro j hj
         simp only [List.mem_cons,List.not_mem_nil,or_false] at hj
         rcases hj with rfl | rfl
         ·exact goodOf (Calm.load (T := 23) (p := (Addr.add ah (mm * 32))) (by kernel_rfl) (HR.loads (k := mm) (q := mm * 32) (HR.of own_hl h32) (by kernel_rfl) (by omega) (by omega)))
         ·exact goodOf (Calm.load (T := 23) (p := ⟨h10.size,0,none⟩) (by kernel_rfl) (Loads.hash (by kernel_rfl) (root_len h32) m13))
        replace own_c : Own h100 (.slice ad98 (0 + P.length) cap99) 23 (0 + P.length) 32 (hcs P) := by rw [show 0 + P.length = P.length by omega]; exact own_c
        refine SimK.eff (i := 26) (D' := 268435455) (X' := 132153343) (by kernel_rfl) (by kernel_rfl) (by kernel_rfl) [18,27] (by kernel_rfl) (Does.append2 (t := 24) (E := 23) (sz := 32) (by_ := 32) (n := 0 + P.length) (m := 1) (v := .slice ad98 (0 + P.length) cap99) (x := .slice (some ⟨h74.size,0,none⟩) 1 1) (xs := (hcs P)) (ys := (hcs ([y]))) (by kernel_rfl) (by kernel_rfl) own_c (hrow1 hy m95) (ones_hcs _) (by unfold maxLen; omega) (by omega)) ?_
        rintro _ h103 ⟨ad101,cap102,rfl,ownx,g,hb⟩
        rw [blkOf_slice] at g hb
        have hlo := e0.size
        have sepo := sep
        replace e0 := e0.grew g (sep.low 1 rfl)
        replace kt := kt.grew g (sep.zero 1 rfl h0s)
        replace own_hl := own_hl.kept g (by rw [blkOf_slice]; exact (sep.ap 4 1))
        replace own_p := own_p.kept g (by rw [blkOf_slice]; exact (sep.ap 2 1))
        replace m3 := Grew.blk g m3 ((sep.bp 5 1))
        replace m13 := Grew.blk g m13 ((sep.bp 3 1))
        replace m95 := Grew.blk g m95 ((sep.bp 0 1))
        replace sep := sep.up g.size
        replace sep : Sep h.size h103.size [some (h74.size),ad101.map (·.block),ad18.map (·.block),some (h10.size),(some ah).map (·.block),some (h.size)] := sepo.set g.size hlo 1 (y := ad101.map (fun (x : Addr) => x.block)) rfl (hb.imp id fun e => .inr ⟨_,e,Nat.le_refl _⟩) (fun k e => ownx.lt (by rw [blkOf_slice]; exact e))
        replace own_c : Own h103 (.slice ad101 (P.length + 1) cap102) 23 (P.length + 1) 32 (hcs (P ++ [y])) := Own.appG ownx (by first | rfl | exact (hcs_append _ _).symm | simp [hcs_append]) (by first | rfl | (simp; done) | (simp; omega))
        clear ownx g hb hlo sepo
        refine ⟨?_,?_⟩
        ·intro j hj
         simp only [List.mem_cons,List.not_mem_nil,or_false] at hj
         rcases hj with rfl | rfl
         ·exact goodOf (Calm.load (T := 23) (p := (Addr.add ah (mm * 32))) (by kernel_rfl) (HR.loads (k := mm) (q := mm * 32) (HR.of own_hl h32) (by kernel_rfl) (by omega) (by omega)))
         ·exact goodOf (Calm.load (T := 23) (p := ⟨h10.size,0,none⟩) (by kernel_rfl) (Loads.hash (by kernel_rfl) (root_len h32) m13))
        replace own_c : Own h103 (.slice ad101 ((0 + P.length) + 1) cap102) 23 ((0 + P.length) + 1) 32 (hcs (P ++ [y])) := by rw [show (0 + P.length) + 1 = P.length + 1 by omega]; exact own_c
        refine SimK.eff0 (i := 28) (D' := 536870911) (X' := 536870911) (by kernel_rfl) (by kernel_rfl) (by kernel_rfl) (by kernel_rfl) (Does.call (f := 11) (args := #[.agg ((H.getD mm []).map bv).toArray,.int .i64 ((mm : Nat) : Int),.int .i64 ((sl.length : Nat) : Int),.slice ad101 ((0 + P.length) + 1) cap102,.agg ((root H).map bv).toArray]) (by kernel_rfl) (vincl_n _ (H.getD mm []) ((mm : Nat) : Int) ((sl.length : Nat) : Int) (P ++ [y]) _ _ (root H) ((0 + P.length) + 1) (by simp) (hrl.2.1.get (k := mm) (by rw [hrl.2.2]; omega)) (root_len h32) (HR.of own_c (h32P.append (All32.one hy))) (by omega) (by omega) kt (fun k e => own_c.lt (by rw [blkOf_slice]; exact e)) false (incl_wrong hHl hml hP (by simp)))) ?_
        rintro _ h104 ⟨rfl,g⟩
        replace e0 := e0.ext g
        replace kt := kt.ext g
        replace own_hl := own_hl.ext g
        replace own_p := own_p.ext g
        replace own_c := own_c.ext g
        replace m3 := Ext.blk g m3
        replace m13 := Ext.blk g m13
        replace m95 := Ext.blk g m95
        replace sep := sep.up g.size
        clear g
        refine mP 8589934591 [29,30,31,32] [.bool false,.bool false,.slice (some ah) sl.length cap8,nV mm] ?_
        refine mF 17179869183 33 (.pointer (some (Addr.add ah (mm * 32)))) (Calm.indexA (a := ah) (len := sl.length) (sz := 32) (k := ((mm : Nat) : Int)) mm (mm * 32) (by kernel_rfl) rfl (by omega) (by omega)) ?_
        refine mL 34359738367 17331128451 34 (.agg ((H.getD mm []).map bv).toArray) (Calm.load (T := 23) (p := (Addr.add ah (mm * 32))) (by kernel_rfl) (HR.loads (k := mm) (q := mm * 32) (HR.of own_hl h32) (by kernel_rfl) (by omega) (by omega))) ?_
        refine mP 274877906943 [35,36,37] [nV mm,nV sl.length,.slice ad18 P.length cap19] ?_
        refine mF 549755813887 38 (.slice xp (P.length - 1) (cap19 - 1)) (fun h => Calm.sliceO (a := ad18) (len := P.length) (cap := cap19) (sz := 32) (x := xp) 1 P.length cap19 (P.length - 1) (cap19 - 1) (by kernel_rfl) (.inl ⟨rfl,rfl⟩) (.inl ⟨rfl,rfl⟩) (.inr rfl) (by omega) (by omega) hxp (by first | rfl | omega) (by first | rfl | omega) h) ?_
        refine mL 1099511627775 567086942339 39 (.agg ((root H).map bv).toArray) (Calm.load (T := 23) (p := ⟨h10.size,0,none⟩) (by kernel_rfl) (Loads.hash (by kernel_rfl) (root_len h32) m13)) ?_
        refine SimK.eff0 (i := 40) (D' := 2199023255551) (X' := 2199023255551) (by kernel_rfl) (by kernel_rfl) (by kernel_rfl) (by kernel_rfl) (Does.call (f := 11) (args := #[.agg ((H.getD mm []).map bv).toArray,.int .i64 ((mm : Nat) : Int),.int .i64 ((sl.length : Nat) : Int),.slice xp (P.length - 1) (cap19 - 1),.agg ((root H).map bv).toArray]) (by kernel_rfl) (vincl_n _ (H.getD mm []) ((mm : Nat) : Int) ((sl.length : Nat) : Int) (P.drop 1) _ _ (root H) (P.length - 1) (by simp) (hrl.2.1.get (k := mm) (by rw [hrl.2.2]; omega)) (root_len h32) ((HR.of own_p h32P).drop (k := 1) (by omega) hxp) (by omega) (by omega) kt (fun k e => own_p.lt (by rw [blkOf_slice,← off_blk hxp]; exact e)) false (incl_wrong hHl hml hP (by simp; omega)))) ?_
        rintro _ h105 ⟨rfl,g⟩
        replace e0 := e0.ext g
        replace kt := kt.ext g
        replace own_hl := own_hl.ext g
        replace own_p := own_p.ext g
        replace own_c := own_c.ext g
        replace m3 := Ext.blk g m3
        replace m13 := Ext.blk g m13
        replace m95 := Ext.blk g m95
        replace sep := sep.up g.size
        clear g
        refine mP 35184372088831 [41,42,43,44] [.bool false,.bool false,.slice (some ah) sl.length cap8,nV mm] ?_
        refine mF 70368744177663 45 (.pointer (some (Addr.add ah (mm * 32)))) (Calm.indexA (a := ah) (len := sl.length) (sz := 32) (k := ((mm : Nat) : Int)) mm (mm * 32) (by kernel_rfl) rfl (by omega) (by omega)) ?_
        refine mL 140737488355327 70935831120003 46 (.agg ((H.getD mm []).map bv).toArray) (Calm.load (T := 23) (p := (Addr.add ah (mm * 32))) (by kernel_rfl) (HR.loads (k := mm) (q := mm * 32) (HR.of own_hl h32) (by kernel_rfl) (by omega) (by omega))) ?_
        refine mP 4503599627370495 [47,48,49,50,51] [nV mm,nV sl.length,.slice ad18 P.length cap19,.slice ad18 P.length cap19,nV P.length] ?_
        refine m1 9007199254740991 52 (.int .i64 ((P.length - 1 : Nat) : Int)) (.int .i64 (IntKind.i64.wrap (((P.length : Nat) : Int) - 1))) (congrArg (Value.int .i64) (w64' (by omega) (by omega) (by omega))) ?_
        refine mF 18014398509481983 53 (.slice ad18 (P.length - 1) cap19) (fun h => Calm.sliceO (a := ad18) (len := P.length) (cap := cap19) (sz := 32) (x := ad18) 0 (P.length - 1) cap19 (P.length - 1) cap19 (by kernel_rfl) (.inl ⟨rfl,rfl⟩) (.inr rfl) (.inl ⟨rfl,rfl⟩) (by omega) (by omega) (opt_add0 _ 32) (by first | rfl | omega) (by first | rfl | omega) h) ?_
        refine mL 36028797018963967 18085334340601987 54 (.agg ((root H).map bv).toArray) (Calm.load (T := 23) (p := ⟨h10.size,0,none⟩) (by kernel_rfl) (Loads.hash (by kernel_rfl) (root_len h32) m13)) ?_
        refine SimK.eff0 (i := 55) (D' := 72057594037927935) (X' := 72057594037927935) (by kernel_rfl) (by kernel_rfl) (by kernel_rfl) (by kernel_rfl) (Does.call (f := 11) (args := #[.agg ((H.getD mm []).map bv).toArray,.int .i64 ((mm : Nat) : Int),.int .i64 ((sl.length : Nat) : Int),.slice ad18 (P.length - 1) cap19,.agg ((root H).map bv).toArray]) (by kernel_rfl) (vincl_n _ (H.getD mm []) ((mm : Nat) : Int) ((sl.length : Nat) : Int) (P.take (P.length - 1)) _ _ (root H) (P.length - 1) (by simp) (hrl.2.1.get (k := mm) (by rw [hrl.2.2]; omega)) (root_len h32) ((HR.of own_p h32P).take (k := P.length - 1) (by omega)) (by omega) (by omega) kt (fun k e => own_p.lt (by rw [blkOf_slice]; exact e)) false (incl_wrong hHl hml hP (by simp; omega)))) ?_
        rintro _ h106 ⟨rfl,g⟩
        replace e0 := e0.ext g
        replace kt := kt.ext g
        replace own_hl := own_hl.ext g
        replace own_p := own_p.ext g
        replace own_c := own_c.ext g
        replace m3 := Ext.blk g m3
        replace m13 := Ext.blk g m13
        replace m95 := Ext.blk g m95
        replace sep := sep.up g.size
        clear g
        refine mP 144115188075855871 [56] [.bool false] ?_
        refine mD [(1,nV mm),(5,pV h.size),(7,.bool true),(8,.slice (some ah) sl.length cap8),(9,nV sl.length),(10,pV h10.size),(112,.bool false)] ?_
        clear hF a; intro a hF
        replace sep := sep.sub (l' := [ad18.map (·.block),some (h10.size),(some ah).map (·.block),some (h.size)]) (.cons _ (.cons _ (.cons_cons _ (.cons_cons _ (.cons_cons _ (.cons_cons _ (.slnil)))))))
        exact ⟨rfl,e0,kt,own_hl,own_p,m3,m13,sep,hF⟩
      ·skip
       refine SimK.effAt (i := 25) (D' := 190840831) (X' := 50364415) (by kernel_rfl) (by kernel_rfl) [18,27] (by kernel_rfl) (Does.newHs (L := [y]) (t := 24) (E := 23) (by_ := 32) (n := 1) (by kernel_rfl) (by kernel_rfl) (All32.cons hy All32.nil) rfl (by decide) (by decide)) ?_
       rintro _ h107 ⟨rfl,hh⟩
       have g108 : Ext h73 h107 := push_ext hh
       have m109 : h107[h73.size]? = some (.cells (hcs [y]).toArray 23) := push_at hh
       clear hh
       have lt110 := blk_lt m109
       have zs111 := e0.size
       have hlo := e0.size
       have sepo := sep
       replace e0 := e0.ext g108
       replace kt := kt.ext g108
       replace own_hl := own_hl.ext g108
       replace own_p := own_p.ext g108
       replace m3 := Ext.blk g108 m3
       replace m13 := Ext.blk g108 m13
       replace sep := sep.up g108.size
       replace sep := sepo.new hlo (blk_lt m109)
       clear sepo hlo
       refine ⟨?_,?_⟩
       ·intro j hj
        simp only [List.mem_cons,List.not_mem_nil,or_false] at hj
        rcases hj with rfl | rfl
        ·exact goodOf (Calm.load (T := 23) (p := (Addr.add ah (mm * 32))) (by kernel_rfl) (HR.loads (k := mm) (q := mm * 32) (HR.of own_hl h32) (by kernel_rfl) (by omega) (by omega)))
        ·exact goodOf (Calm.load (T := 23) (p := ⟨h10.size,0,none⟩) (by kernel_rfl) (Loads.hash (by kernel_rfl) (root_len h32) m13))
       refine SimK.eff (i := 21) (D' := 192937983) (X' := 52461567) (by kernel_rfl) (by kernel_rfl) (by kernel_rfl) [18,27] (by kernel_rfl) (Does.new (v := .slice (some ⟨h107.size,0,none⟩) 0 0) (o := .cells #[] 23) (by kernel_rfl)) ?_
       rintro _ h112 ⟨rfl,hh⟩
       have g113 : Ext h107 h112 := push_ext hh
       have m114 : h112[h107.size]? = some (.cells #[] 23) := push_at hh
       clear hh
       have lt115 := blk_lt m114
       have zs116 := e0.size
       have hlo := e0.size
       have sepo := sep
       replace e0 := e0.ext g113
       replace kt := kt.ext g113
       replace own_hl := own_hl.ext g113
       replace own_p := own_p.ext g113
       replace m3 := Ext.blk g113 m3
       replace m13 := Ext.blk g113 m13
       replace m109 := Ext.blk g113 m109
       replace sep := sep.up g113.size
       replace sep := sepo.new hlo (blk_lt m114)
       clear sepo hlo
       refine ⟨?_,?_⟩
       ·intro j hj
        simp only [List.mem_cons,List.not_mem_nil,or_false] at hj
        rcases hj with rfl | rfl
        ·exact goodOf (Calm.load (T := 23) (p := (Addr.add ah (mm * 32))) (by kernel_rfl) (HR.loads (k := mm) (q := mm * 32) (HR.of own_hl h32) (by kernel_rfl) (by omega) (by omega)))
        ·exact goodOf (Calm.load (T := 23) (p := ⟨h10.size,0,none⟩) (by kernel_rfl) (Loads.hash (by kernel_rfl) (root_len h32) m13))
       have own_c : Own h112 (.slice (some ⟨h107.size,0,none⟩) 0 0) 23 ([] : List UInt8).length 32 (hcs []) := Own.empty 32 m114
       replace sep : Sep h.size h112.size [(some ⟨h107.size,0,none⟩ : Option Addr).map (·.block),some (h73.size),ad18.map (·.block),some (h10.size),(some ah).map (·.block),some (h.size)] := sep
       clear m114 lt115 zs116
       refine SimK.eff (i := 23) (D' := 201326591) (X' := 65044479) (by kernel_rfl) (by kernel_rfl) (by kernel_rfl) [18,27] (by kernel_rfl) (Does.append2 (t := 24) (E := 23) (sz := 32) (by_ := 32) (n := 0) (m := P.length) (v := .slice (some ⟨h107.size,0,none⟩) 0 0) (x := .slice ad18 P.length cap19) (xs := (hcs ([]))) (ys := (hcs P)) (by kernel_rfl) (by kernel_rfl) own_c own_p.row (ones_hcs _) (by unfold maxLen; omega) (by omega)) ?_
       rintro _ h119 ⟨ad117,cap118,rfl,ownx,g,hb⟩
       rw [blkOf_slice] at g hb
       have hlo := e0.size
       have sepo := sep
       replace e0 := e0.grew g (sep.low 0 rfl)
       replace kt := kt.grew g (sep.zero 0 rfl h0s)
       replace own_hl := own_hl.kept g (by rw [blkOf_slice]; exact (sep.ap 4 0))
       replace own_p := own_p.kept g (by rw [blkOf_slice]; exact (sep.ap 2 0))
       replace m3 := Grew.blk g m3 ((sep.bp 5 0))
       replace m13 := Grew.blk g m13 ((sep.bp 3 0))
       replace m109 := Grew.blk g m109 ((sep.bp 1 0))
       replace sep := sep.up g.size
       replace sep : Sep h.size h119.size [ad117.map (·.block),some (h73.size),ad18.map (·.block),some (h10.size),(some ah).map (·.block),some (h.size)] := sepo.set g.size hlo 0 (y := ad117.map (fun (x : Addr) => x.block)) rfl (hb.imp id fun e => .inr ⟨_,e,Nat.le_refl _⟩) (fun k e => ownx.lt (by rw [blkOf_slice]; exact e))
       replace own_c : Own h119 (.slice ad117 P.length cap118) 23 P.length 32 (hcs P) := Own.appG ownx (by first | rfl | exact (hcs_append _ _).symm | simp [hcs_append]) (by first | rfl | (simp; done) | (simp; omega))
       clear ownx g hb hlo sepo
       refine ⟨?_,?_⟩
       ·intro j hj
        simp only [List.mem_cons,List.not_mem_nil,or_false] at hj
        rcases hj with rfl | rfl
        ·exact goodOf (Calm.load (T := 23) (p := (Addr.add ah (mm * 32))) (by kernel_rfl) (HR.loads (k := mm) (q := mm * 32) (HR.of own_hl h32) (by kernel_rfl) (by omega) (by omega)))
        ·exact goodOf (Calm.load (T := 23) (p := ⟨h10.size,0,none⟩) (by kernel_rfl) (Loads.hash (by kernel_rfl) (root_len h32) m13))
       replace own_c : Own h119 (.slice ad117 (0 + P.length) cap118) 23 (0 + P.length) 32 (hcs P) := by rw [show 0 + P.length = P.length by omega]; exact own_c
       refine SimK.eff (i := 26) (D' := 268435455) (X' := 132153343) (by kernel_rfl) (by kernel_rfl) (by kernel_rfl) [18,27] (by kernel_rfl) (Does.append2 (t := 24) (E := 23) (sz := 32) (by_ := 32) (n := 0 + P.length) (m := 1) (v := .slice ad117 (0 + P.length) cap118) (x := .slice (some ⟨h73.size,0,none⟩) 1 1) (xs := (hcs P)) (ys := (hcs ([y]))) (by kernel_rfl) (by kernel_rfl) own_c (hrow1 hy m109) (ones_hcs _) (by unfold maxLen; omega) (by omega)) ?_
       rintro _ h122 ⟨ad120,cap121,rfl,ownx,g,hb⟩
       rw [blkOf_slice] at g hb
       have hlo := e0.size
       have sepo := sep
       replace e0 := e0.grew g (sep.low 0 rfl)
       replace kt := kt.grew g (sep.zero 0 rfl h0s)
       replace own_hl := own_hl.kept g (by rw [blkOf_slice]; exact (sep.ap 4 0))
       replace own_p := own_p.kept g (by rw [blkOf_slice]; exact (sep.ap 2 0))
       replace m3 := Grew.blk g m3 ((sep.bp 5 0))
       replace m13 := Grew.blk g m13 ((sep.bp 3 0))
       replace m109 := Grew.blk g m109 ((sep.bp 1 0))
       replace sep := sep.up g.size
       replace sep : Sep h.size h122.size [ad120.map (·.block),some (h73.size),ad18.map (·.block),some (h10.size),(some ah).map (·.block),some (h.size)] := sepo.set g.size hlo 0 (y := ad120.map (fun (x : Addr) => x.block)) rfl (hb.imp id fun e => .inr ⟨_,e,Nat.le_refl _⟩) (fun k e => ownx.lt (by rw [blkOf_slice]; exact e))
       replace own_c : Own h122 (.slice ad120 (P.length + 1) cap121) 23 (P.length + 1) 32 (hcs (P ++ [y])) := Own.appG ownx (by first | rfl | exact (hcs_append _ _).symm | simp [hcs_append]) (by first | rfl | (simp; done) | (simp; omega))
       clear ownx g hb hlo sepo
       refine ⟨?_,?_⟩
       ·intro j hj
        simp only [List.mem_cons,List.not_mem_nil,or_false] at hj
        rcases hj with rfl | rfl
        ·exact goodOf (Calm.load (T := 23) (p := (Addr.add ah (mm * 32))) (by kernel_rfl) (HR.loads (k := mm) (q := mm * 32) (HR.of own_hl h32) (by kernel_rfl) (by omega) (by omega)))
        ·exact goodOf (Calm.load (T := 23) (p := ⟨h10.size,0,none⟩) (by kernel_rfl) (Loads.hash (by kernel_rfl) (root_len h32) m13))
       replace own_c : Own h122 (.slice ad120 ((0 + P.length) + 1) cap121) 23 ((0 + P.length) + 1) 32 (hcs (P ++ [y])) := by rw [show (0 + P.length) + 1 = P.length + 1 by omega]; exact own_c
       refine SimK.eff0 (i := 28) (D' := 536870911) (X' := 536870911) (by kernel_rfl) (by kernel_rfl) (by kernel_rfl) (by kernel_rfl) (Does.call (f := 11) (args := #[.agg ((H.getD mm []).map bv).toArray,.int .i64 ((mm : Nat) : Int),.int .i64 ((sl.length : Nat) : Int),.slice ad120 ((0 + P.length) + 1) cap121,.agg ((root H).map bv).toArray]) (by kernel_rfl) (vincl_n _ (H.getD mm []) ((mm : Nat) : Int) ((sl.length : Nat) : Int) (P ++ [y]) _ _ (root H) ((0 + P.length) + 1) (by simp) (hrl.2.1.get (k := mm) (by rw [hrl.2.2]; omega)) (root_len h32) (HR.of own_c (h32P.append (All32.one hy))) (by omega) (by omega) kt (fun k e => own_c.lt (by rw [blkOf_slice]; exact e)) false (incl_wrong hHl hml hP (by simp)))) ?_
       rintro _ h123 ⟨rfl,g⟩
       replace e0 := e0.ext g
       replace kt := kt.ext g
       replace own_hl := own_hl.ext g
       replace own_p := own_p.ext g
       replace own_c := own_c.ext g
       replace m3 := Ext.blk g m3
       replace m13 := Ext.blk g m13
       replace m109 := Ext.blk g m109
       replace sep := sep.up g.size
       clear g
       refine mP 8589934591 [29,30,31,32] [.bool false,.bool false,.slice (some ah) sl.length cap8,nV mm] ?_
       refine mF 17179869183 33 (.pointer (some (Addr.add ah (mm * 32)))) (Calm.indexA (a := ah) (len := sl.length) (sz := 32) (k := ((mm : Nat) : Int)) mm (mm * 32) (by kernel_rfl) rfl (by omega) (by omega)) ?_
       refine mL 34359738367 17331128451 34 (.agg ((H.getD mm []).map bv).toArray) (Calm.load (T := 23) (p := (Addr.add ah (mm * 32))) (by kernel_rfl) (HR.loads (k := mm) (q := mm * 32) (HR.of own_hl h32) (by kernel_rfl) (by omega) (by omega))) ?_
       refine mP 274877906943 [35,36,37] [nV mm,nV sl.length,.slice ad18 P.length cap19] ?_
       refine mF 549755813887 38 (.slice xp (P.length - 1) (cap19 - 1)) (fun h => Calm.sliceO (a := ad18) (len := P.length) (cap := cap19) (sz := 32) (x := xp) 1 P.length cap19 (P.length - 1) (cap19 - 1) (by kernel_rfl) (.inl ⟨rfl,rfl⟩) (.inl ⟨rfl,rfl⟩) (.inr rfl) (by omega) (by omega) hxp (by first | rfl | omega) (by first | rfl | omega) h) ?_
       refine mL 1099511627775 567086942339 39 (.agg ((root H).map bv).toArray) (Calm.load (T := 23) (p := ⟨h10.size,0,none⟩) (by kernel_rfl) (Loads.hash (by kernel_rfl) (root_len h32) m13)) ?_
       refine SimK.eff0 (i := 40) (D' := 2199023255551) (X' := 2199023255551) (by kernel_rfl) (by kernel_rfl) (by kernel_rfl) (by kernel_rfl) (Does.call (f := 11) (args := #[.agg ((H.getD mm []).map bv).toArray,.int .i64 ((mm : Nat) : Int),.int .i64 ((sl.length : Nat) : Int),.slice xp (P.length - 1) (cap19 - 1),.agg ((root H).map bv).toArray]) (by kernel_rfl) (vincl_n _ (H.getD mm []) ((mm : Nat) : Int) ((sl.length : Nat) : Int) (P.drop 1) _ _ (root H) (P.length - 1) (by simp) (hrl.2.1.get (k := mm) (by rw [hrl.2.2]; omega)) (root_len h32) ((HR.of own_p h32P).drop (k := 1) (by omega) hxp) (by omega) (by omega) kt (fun k e => own_p.lt (by rw [blkOf_slice,← off_blk hxp]; exact e)) false (incl_wrong hHl hml hP (by simp; omega)))) ?_
       rintro _ h124 ⟨rfl,g⟩
       replace e0 := e0.ext g
       replace kt := kt.ext g
       replace own_hl := own_hl.ext g
       replace own_p := own_p.ext g
       replace own_c := own_c.ext g
       replace m3 := Ext.blk g m3
       replace m13 := Ext.blk g m13
       replace m109 := Ext.blk g m109
       replace sep := sep.up g.size
       clear g
       refine mP 35184372088831 [41,42,43,44] [.bool false,.bool false,.slice (some ah) sl.length cap8,nV mm] ?_
       refine mF 70368744177663 45 (.pointer (some (Addr.add ah (mm * 32)))) (Calm.indexA (a := ah) (len := sl.length) (sz := 32) (k := ((mm : Nat) : Int)) mm (mm * 32) (by kernel_rfl) rfl (by omega) (by omega)) ?_
       refine mL 140737488355327 70935831120003 46 (.agg ((H.getD mm []).map bv).toArray) (Calm.load (T := 23) (p := (Addr.add ah (mm * 32))) (by kernel_rfl) (HR.loads (k := mm) (q := mm * 32) (HR.of own_hl h32) (by kernel_rfl) (by omega) (by omega))) ?_
       refine mP 4503599627370495 [47,48,49,50,51] [nV mm,nV sl.length,.slice ad18 P.length cap19,.slice ad18 P.length cap19,nV P.length] ?_
       refine m1 9007199254740991 52 (.int .i64 ((P.length - 1 : Nat) : Int)) (.int .i64 (IntKind.i64.wrap (((P.length : Nat) : Int) - 1))) (congrArg (Value.int .i64) (w64' (by omega) (by omega) (by omega))) ?_
       refine mF 18014398509481983 53 (.slice ad18 (P.length - 1) cap19) (fun h => Calm.sliceO (a := ad18) (len := P.length) (cap := cap19) (sz := 32) (x := ad18) 0 (P.length - 1) cap19 (P.length - 1) cap19 (by kernel_rfl) (.inl ⟨rfl,rfl⟩) (.inr rfl) (.inl ⟨rfl,rfl⟩) (by omega) (by omega) (opt_add0 _ 32) (by first | rfl | omega) (by first | rfl | omega) h) ?_
       refine mL 36028797018963967 18085334340601987 54 (.agg ((root H).map bv).toArray) (Calm.load (T := 23) (p := ⟨h10.size,0,none⟩) (by kernel_rfl) (Loads.hash (by kernel_rfl) (root_len h32) m13)) ?_
       refine SimK.eff0 (i := 55) (D' := 72057594037927935) (X' := 72057594037927935) (by kernel_rfl) (by kernel_rfl) (by kernel_rfl) (by kernel_rfl) (Does.call (f := 11) (args := #[.agg ((H.getD mm []).map bv).toArray,.int .i64 ((mm : Nat) : Int),.int .i64 ((sl.length : Nat) : Int),.slice ad18 (P.length - 1) cap19,.agg ((root H).map bv).toArray]) (by kernel_rfl) (vincl_n _ (H.getD mm []) ((mm : Nat) : Int) ((sl.length : Nat) : Int) (P.take (P.length - 1)) _ _ (root H) (P.length - 1) (by simp) (hrl.2.1.get (k := mm) (by rw [hrl.2.2]; omega)) (root_len h32) ((HR.of own_p h32P).take (k := P.length - 1) (by omega)) (by omega) (by omega) kt (fun k e => own_p.lt (by rw [blkOf_slice]; exact e)) false (incl_wrong hHl hml hP (by simp; omega)))) ?_
       rintro _ h125 ⟨rfl,g⟩
       replace e0 := e0.ext g
       replace kt := kt.ext g
       replace own_hl := own_hl.ext g
       replace own_p := own_p.ext g
       replace own_c := own_c.ext g
       replace m3 := Ext.blk g m3
       replace m13 := Ext.blk g m13
       replace m109 := Ext.blk g m109
       replace sep := sep.up g.size
       clear g
       refine mP 144115188075855871 [56] [.bool false] ?_
       refine mD [(1,nV mm),(5,pV h.size),(7,.bool true),(8,.slice (some ah) sl.length cap8),(9,nV sl.length),(10,pV h10.size),(112,.bool false)] ?_
       clear hF a; intro a hF
       replace sep := sep.sub (l' := [ad18.map (·.block),some (h10.size),(some ah).map (·.block),some (h.size)]) (.cons _ (.cons _ (.cons_cons _ (.cons_cons _ (.cons_cons _ (.cons_cons _ (.slnil)))))))
       exact ⟨rfl,e0,kt,own_hl,own_p,m3,m13,sep,hF⟩
    ·skip
     clear hF a e0 kt own_hl own_p m3 m13 sep
     rintro e a h126 ⟨rfl,e0,kt,own_hl,own_p,m3,m13,sep,hF⟩
     refine tK ?_
     refine cF 112 hF ?_
     refine cN ?_
     refine tK ?_
     refine cS ?_
     refine cS ?_
     rcases Nat.eq_zero_or_pos mm with hm0 | hm0
     ·skip
      refine cP 17 hF ?_
      refine sP 1 [nV mm] ?_
      refine s1 2 (.bool true) (.bool (((mm : Nat) : Int) == (0 : Int))) (congrArg Value.bool (beq_iff_eq.2 (by omega))) ?_
      refine sD [(1,nV mm),(5,pV h.size),(7,.bool true),(8,.slice (some ah) sl.length cap8),(9,nV sl.length),(10,pV h10.size),(114,.bool true)] ?_
      clear hF a; intro a hF
      refine tK ?_
      refine cT 114 hF ?_
      refine cS ?_
      refine cP 18 hF ?_
      refine sP 2 [.bool true,.bool true] ?_
      refine sD [(6,.bool true)] ?_
      clear hF a; intro a hF
      refine tK ?_
      refine cR ?_
      show retK Tryd.prog Tryd.f8 (fun v h' => v = .bool true ∧ Ext h h') .ret a h126
      refine ret_ok [.tmp 6] [.bool true] (.bool true) rfl hF ⟨rfl,trivial⟩ rfl ?_
      exact ⟨rfl,e0⟩
     ·skip
      refine cP 17 hF ?_
      refine sP 1 [nV mm] ?_
      refine s1 2 (.bool false) (.bool (((mm : Nat) : Int) == (0 : Int))) (congrArg Value.bool (beq_eq_false_iff_ne.2 (by omega))) ?_
      refine sD [(1,nV mm),(5,pV h.size),(7,.bool true),(8,.slice (some ah) sl.length cap8),(9,nV sl.length),(10,pV h10.size),(114,.bool false)] ?_
      clear hF a; intro a hF
      refine tK ?_
      refine cF 114 hF ?_
      refine cN ?_
      refine tK ?_
      refine cS ?_
      have hcp := (HR.of own_hl h32).cap
      ·skip
       refine cP 19 hF ?_
       refine sP 2 [.slice (some ah) sl.length cap8,nV mm] ?_
       refine sC 3 (.slice (some ah) mm cap8) ((fun h => Calm.sliceO (a := (some ah)) (len := sl.length) (cap := cap8) (sz := 32) (x := (some ah)) 0 mm cap8 mm cap8 (by kernel_rfl) (.inl ⟨rfl,rfl⟩) (.inr rfl) (.inl ⟨rfl,rfl⟩) (by omega) (by omega) (opt_add0 _ 32) (by first | rfl | omega) (by first | rfl | omega) h) _) ?_
       refine SeqK.eff (k' := 4) (Does.call (f := 17) (args := #[.slice (some ah) mm cap8]) (by kernel_rfl) (rroot_sat _ (H.take mm) _ _ mm ((HR.of own_hl h32).take (k := mm) (by omega)) (by omega))) rfl ?_
       rintro _ h127 ⟨rfl,g⟩
       replace e0 := e0.ext g
       replace kt := kt.ext g
       replace own_hl := own_hl.ext g
       replace own_p := own_p.ext g
       replace m3 := Ext.blk g m3
       replace m13 := Ext.blk g m13
       replace sep := sep.up g.size
       clear g
       refine SeqK.eff (k' := 5) (Does.new (v := .pointer (some ⟨h127.size,0,none⟩)) (o := .cells (z32.map bv).toArray 23) (by kernel_rfl)) rfl ?_
       rintro _ h128 ⟨rfl,hh⟩
       have g129 : Ext h127 h128 := push_ext hh
       have m130 : h128[h127.size]? = some (.cells (z32.map bv).toArray 23) := push_at hh
       clear hh
       have lt131 := blk_lt m130
       have zs132 := e0.size
       have hlo := e0.size
       have sepo := sep
       replace e0 := e0.ext g129
       replace kt := kt.ext g129
       replace own_hl := own_hl.ext g129
       replace own_p := own_p.ext g129
       replace m3 := Ext.blk g129 m3
       replace m13 := Ext.blk g129 m13
       replace sep := sep.up g129.size
       replace sep := sepo.new hlo (blk_lt m130)
       clear sepo hlo
       refine SeqK.eff (k' := 6) (Does.store (b := h127.size) (off := 0) (vs := (root (H.take mm)).map bv) (l := z32.map bv) (storeOp_of (by kernel_rfl) (hlm (root_len (h32.take _)))) m130 (hfit rfl (root_len (h32.take _))) (ones_map _)) rfl ?_
       rintro _ h133 ⟨rfl,hh⟩
       have g134 : Grew (some (h127.size)) h128 h133 := hput_gr hh
       replace m130 : h133[h127.size]? = some (.cells ((root (H.take mm)).map bv).toArray 23) := hput_at (off := 0) (vs := (root (H.take mm)).map bv) (l := (z32.map bv)) hh (hsplice rfl (root_len (h32.take _))) m130
       clear hh
       replace e0 := e0.grew g134 (sep.low 0 rfl)
       replace kt := kt.grew g134 (sep.zero 0 rfl h0s)
       replace own_hl := own_hl.kept g134 (by rw [blkOf_slice]; exact (sep.ap 3 0))
       replace own_p := own_p.kept g134 (by rw [blkOf_slice]; exact (sep.ap 1 0))
       replace m3 := Grew.blk g134 m3 ((sep.bp 4 0))
       replace m13 := Grew.blk g134 m13 ((sep.bp 2 0))
       replace sep := sep.up g134.size
       refine sD [(1,nV mm),(5,pV h.size),(7,.bool true),(8,.slice (some ah) sl.length cap8),(9,nV sl.length),(10,pV h10.size),(13,pV h127.size)] ?_
       clear hF a; intro a hF
       refine tK ?_
       refine cS ?_
       obtain ⟨Q,hQ⟩ : ∃ Q,(consZ H ((mm : Nat) : Int)).1 = Q := ⟨_,rfl⟩
       have hQl : Q.length ≤ sl.length := by rw [← hQ,← hHl]; exact consZ_len _ _
       have h32Q : All32 Q := hQ ▸ consZ_32 h32 _
       have hQs := cons_some hHl hm0 hml hQ
       ·skip
        refine cP 20 hF ?_
        refine sP 2 [.slice (some ah) sl.length cap8,nV mm] ?_
        refine SeqK.eff (k' := 3) (Does.call (f := 22) (args := #[.slice (some ah) sl.length cap8,.int .i64 ((mm : Nat) : Int)]) (by kernel_rfl) (tcons_at _ H _ _ sl.length (HR.of own_hl h32) (by omega) ((mm : Nat) : Int) kt Q 0 (consZ_pair hHl (by omega) hQ))) rfl ?_
        rintro _ h137 ⟨_,rfl,ad135,cap136,rfl,ownx,hge,g⟩
        have hlo := e0.size
        have sepo := sep
        replace e0 := e0.ext g
        replace kt := kt.ext g
        replace own_hl := own_hl.ext g
        replace own_p := own_p.ext g
        replace m3 := Ext.blk g m3
        replace m13 := Ext.blk g m13
        replace m130 := Ext.blk g m130
        replace sep := sep.up g.size
        replace sep := sepo.cons (x := ad135.map (fun (x : Addr) => x.block)) g.size hlo (fun k e => ⟨hge k e,ownx.lt (by rw [blkOf_slice]; exact e)⟩)
        have own_q : Own h137 (.slice ad135 Q.length cap136) 23 Q.length 32 (hcs Q) := ownx; clear ownx sepo hlo hge g
        refine sP 8 [.tuple #[.slice ad135 Q.length cap136,.int .i64 0],.slice ad135 Q.length cap136,.int .i64 0,.slice ad135 Q.length cap136,.int .i64 0] ?_
        refine sD [(1,nV mm),(5,pV h.size),(7,.bool true),(9,nV sl.length),(10,pV h10.size),(13,pV h127.size),(14,.slice ad135 Q.length cap136),(15,.int .i64 0)] ?_
        clear hF a; intro a hF
        refine tK ?_
        refine cS ?_
        refine cS ?_
        refine cP 21 hF ?_
        refine sP 5 [.int .i64 0,.bool false,.bool false,.slice ad135 Q.length cap136,nV Q.length] ?_
        refine s1 6 (.bool false) (.bool (((Q.length : Nat) : Int) == (0 : Int))) (congrArg Value.bool (beq_eq_false_iff_ne.2 (by omega))) ?_
        refine sP 7 [.bool false] ?_
        refine sD [(1,nV mm),(5,pV h.size),(7,.bool true),(9,nV sl.length),(10,pV h10.size),(13,pV h127.size),(14,.slice ad135 Q.length cap136),(132,.bool false)] ?_
        clear hF a; intro a hF
        refine tK ?_
        refine cF 132 hF ?_
        refine cN ?_
        refine tK ?_
        refine cS ?_
        refine C.mono (K := fun e a hJ => ∃ (ad151 : Option Addr) (cap152 : Nat),e = .normal ∧ (Ext h hJ) ∧ (Ktab hJ) ∧ (Own hJ (.slice (some ah) sl.length cap8) 23 sl.length 32 (hcs H)) ∧ (Own hJ (.slice ad18 P.length cap19) 23 P.length 32 (hcs P)) ∧ (Own hJ (.slice ad135 Q.length cap136) 23 Q.length 32 (hcs Q)) ∧ (Own hJ (.slice ad151 (Q.length + 1) cap152) 23 (Q.length + 1) 32 (hcs (Q ++ [y]))) ∧ (hJ[h.size]? = some (.cells (y.map bv).toArray 23)) ∧ (hJ[h10.size]? = some (.cells ((root H).map bv).toArray 23)) ∧ (hJ[h127.size]? = some (.cells ((root (H.take mm)).map bv).toArray 23)) ∧ (Sep h.size hJ.size [ad151.map (·.block),ad135.map (·.block),some (h127.size),ad18.map (·.block),some (h10.size),(some ah).map (·.block),some (h.size)]) ∧ Fr a 173 [(1,.int .i64 ((mm : Nat) : Int)),(5,.pointer (some ⟨h.size,0,none⟩)),(7,.bool true),(9,.int .i64 ((sl.length : Nat) : Int)),(10,.pointer (some ⟨h10.size,0,none⟩)),(13,.pointer (some ⟨h127.size,0,none⟩)),(14,.slice ad135 Q.length cap136),(16,.slice ad151 (Q.length + 1) cap152)]) ?_ ?_
        ·skip
         refine cD [0,0,3,0,8,31,63] 23 mixed hF ?_
         refine mP 2 [1] [.slice ad135 Q.length cap136] ?_
         refine mL 10 8 3 (.agg (y.map bv).toArray) (Calm.load (T := 23) (p := ⟨h.size,0,none⟩) (by kernel_rfl) (Loads.hash (by kernel_rfl) hy m3)) ?_
         refine SimK.effs (is := [0,4]) (by kernel_rfl) (by simp) ?_
         intro q hq
         simp only [List.mem_cons,List.not_mem_nil,or_false] at hq
         rcases hq with rfl | rfl
         ·skip
          refine SimK.effAt (i := 0) (D' := 11) (X' := 1) (by kernel_rfl) (by kernel_rfl) [3] (by kernel_rfl) (Does.new (v := .slice (some ⟨h137.size,0,none⟩) 0 0) (o := .cells #[] 23) (by kernel_rfl)) ?_
          rintro _ h138 ⟨rfl,hh⟩
          have g139 : Ext h137 h138 := push_ext hh
          have m140 : h138[h137.size]? = some (.cells #[] 23) := push_at hh
          clear hh
          have lt141 := blk_lt m140
          have zs142 := e0.size
          have hlo := e0.size
          have sepo := sep
          replace e0 := e0.ext g139
          replace kt := kt.ext g139
          replace own_hl := own_hl.ext g139
          replace own_p := own_p.ext g139
          replace own_q := own_q.ext g139
          replace m3 := Ext.blk g139 m3
          replace m13 := Ext.blk g139 m13
          replace m130 := Ext.blk g139 m130
          replace sep := sep.up g139.size
          replace sep := sepo.new hlo (blk_lt m140)
          clear sepo hlo
          refine ⟨?_,?_⟩
          ·intro j hj
           simp only [List.mem_cons,List.not_mem_nil,or_false] at hj
           subst hj
           exact goodOf (Calm.load (T := 23) (p := ⟨h.size,0,none⟩) (by kernel_rfl) (Loads.hash (by kernel_rfl) hy m3))
          refine SimK.effs (is := [2,4]) (by kernel_rfl) (by simp) ?_
          intro q hq
          simp only [List.mem_cons,List.not_mem_nil,or_false] at hq
          rcases hq with rfl | rfl
          ·skip
           have own_c : Own h138 (.slice (some ⟨h137.size,0,none⟩) 0 0) 23 ([] : List UInt8).length 32 (hcs []) := Own.empty 32 m140
           replace sep : Sep h.size h138.size [(some ⟨h137.size,0,none⟩ : Option Addr).map (·.block),ad135.map (·.block),some (h127.size),ad18.map (·.block),some (h10.size),(some ah).map (·.block),some (h.size)] := sep
           clear m140 lt141 zs142
           refine SimK.effAt (i := 2) (D' := 15) (X' := 7) (by kernel_rfl) (by kernel_rfl) [3] (by kernel_rfl) (Does.append2 (t := 24) (E := 23) (sz := 32) (by_ := 32) (n := 0) (m := Q.length) (v := .slice (some ⟨h137.size,0,none⟩) 0 0) (x := .slice ad135 Q.length cap136) (xs := (hcs ([]))) (ys := (hcs Q)) (by kernel_rfl) (by kernel_rfl) own_c own_q.row (ones_hcs _) (by unfold maxLen; omega) (by omega)) ?_
           rintro _ h145 ⟨ad143,cap144,rfl,ownx,g,hb⟩
           rw [blkOf_slice] at g hb
           have hlo := e0.size
           have sepo := sep
           replace e0 := e0.grew g (sep.low 0 rfl)
           replace kt := kt.grew g (sep.zero 0 rfl h0s)
           replace own_hl := own_hl.kept g (by rw [blkOf_slice]; exact (sep.ap 5 0))
           replace own_p := own_p.kept g (by rw [blkOf_slice]; exact (sep.ap 3 0))
           replace own_q := own_q.kept g (by rw [blkOf_slice]; exact (sep.ap 1 0))
           replace m3 := Grew.blk g m3 ((sep.bp 6 0))
           replace m13 := Grew.blk g m13 ((sep.bp 4 0))
           replace m130 := Grew.blk g m130 ((sep.bp 2 0))
           replace sep := sep.up g.size
           replace sep : Sep h.size h145.size [ad143.map (·.block),ad135.map (·.block),some (h127.size),ad18.map (·.block),some (h10.size),(some ah).map (·.block),some (h.size)] := sepo.set g.size hlo 0 (y := ad143.map (fun (x : Addr) => x.block)) rfl (hb.imp id fun e => .inr ⟨_,e,Nat.le_refl _⟩) (fun k e => ownx.lt (by rw [blkOf_slice]; exact e))
           replace own_c : Own h145 (.slice ad143 Q.length cap144) 23 Q.length 32 (hcs Q) := Own.appG ownx (by first | rfl | exact (hcs_append _ _).symm | simp [hcs_append]) (by first | rfl | (simp; done) | (simp; omega))
           clear ownx g hb hlo sepo
           refine ⟨?_,?_⟩
           ·intro j hj
            simp only [List.mem_cons,List.not_mem_nil,or_false] at hj
            subst hj
            exact goodOf (Calm.load (T := 23) (p := ⟨h.size,0,none⟩) (by kernel_rfl) (Loads.hash (by kernel_rfl) hy m3))
           refine SimK.eff0 (i := 4) (D' := 31) (X' := 31) (by kernel_rfl) (by kernel_rfl) (by kernel_rfl) (by kernel_rfl) (Does.newHs (L := [y]) (t := 24) (E := 23) (by_ := 32) (n := 1) (by kernel_rfl) (by kernel_rfl) (All32.cons hy All32.nil) rfl (by decide) (by decide)) ?_
           rintro _ h146 ⟨rfl,hh⟩
           have g147 : Ext h145 h146 := push_ext hh
           have m148 : h146[h145.size]? = some (.cells (hcs [y]).toArray 23) := push_at hh
           clear hh
           have lt149 := blk_lt m148
           have zs150 := e0.size
           have hlo := e0.size
           have sepo := sep
           replace e0 := e0.ext g147
           replace kt := kt.ext g147
           replace own_hl := own_hl.ext g147
           replace own_p := own_p.ext g147
           replace own_q := own_q.ext g147
           replace own_c := own_c.ext g147
           replace m3 := Ext.blk g147 m3
           replace m13 := Ext.blk g147 m13
           replace m130 := Ext.blk g147 m130
           replace sep := sep.up g147.size
           replace sep := sepo.new hlo (blk_lt m148)
           clear sepo hlo
           replace own_c : Own h146 (.slice ad143 (0 + Q.length) cap144) 23 (0 + Q.length) 32 (hcs Q) := by rw [show 0 + Q.length = Q.length by omega]; exact own_c
           refine SimK.eff0 (i := 5) (D' := 63) (X' := 63) (by kernel_rfl) (by kernel_rfl) (by kernel_rfl) (by kernel_rfl) (Does.append2 (t := 24) (E := 23) (sz := 32) (by_ := 32) (n := 0 + Q.length) (m := 1) (v := .slice ad143 (0 + Q.length) cap144) (x := .slice (some ⟨h145.size,0,none⟩) 1 1) (xs := (hcs Q)) (ys := (hcs ([y]))) (by kernel_rfl) (by kernel_rfl) own_c (hrow1 hy m148) (ones_hcs _) (by unfold maxLen; omega) (by omega)) ?_
           rintro _ h153 ⟨ad151,cap152,rfl,ownx,g,hb⟩
           rw [blkOf_slice] at g hb
           have hlo := e0.size
           have sepo := sep
           replace e0 := e0.grew g (sep.low 1 rfl)
           replace kt := kt.grew g (sep.zero 1 rfl h0s)
           replace own_hl := own_hl.kept g (by rw [blkOf_slice]; exact (sep.ap 6 1))
           replace own_p := own_p.kept g (by rw [blkOf_slice]; exact (sep.ap 4 1))
           replace own_q := own_q.kept g (by rw [blkOf_slice]; exact (sep.ap 2 1))
           replace m3 := Grew.blk g m3 ((sep.bp 7 1))
           replace m13 := Grew.blk g m13 ((sep.bp 5 1))
           replace m130 := Grew.blk g m130 ((sep.bp 3 1))
           replace m148 := Grew.blk g m148 ((sep.bp 0 1))
           replace sep := sep.up g.size
           replace sep : Sep h.size h153.size [some (h145.size),ad151.map (·.block),ad135.map (·.block),some (h127.size),ad18.map (·.block),some (h10.size),(some ah).map (·.block),some (h.size)] := sepo.set g.size hlo 1 (y := ad151.map (fun (x : Addr) => x.block)) rfl (hb.imp id fun e => .inr ⟨_,e,Nat.le_refl _⟩) (fun k e => ownx.lt (by rw [blkOf_slice]; exact e))
           replace own_c : Own h153 (.slice ad151 (Q.length + 1) cap152) 23 (Q.length + 1) 32 (hcs (Q ++ [y])) := Own.appG ownx (by first | rfl | exact (hcs_append _ _).symm | simp [hcs_append]) (by first | rfl | (simp; done) | (simp; omega))
           clear ownx g hb hlo sepo
           refine mP 127 [6] [.slice ad151 ((0 + Q.length) + 1) cap152] ?_
           refine mD [(1,nV mm),(5,pV h.size),(7,.bool true),(9,nV sl.length),(10,pV h10.size),(13,pV h127.size),(14,.slice ad135 Q.length cap136),(16,.slice ad151 ((0 + Q.length) + 1) cap152)] ?_
           clear hF a; intro a hF
           have hcan : ((0 + Q.length) + 1 : Nat) = Q.length + 1 := by first | (simp; done) | (simp; omega)
           rw [hcan] at hF; clear hcan
           replace sep := sep.sub (l' := [ad151.map (·.block),ad135.map (·.block),some (h127.size),ad18.map (·.block),some (h10.size),(some ah).map (·.block),some (h.size)]) (.cons _ (.cons_cons _ (.cons_cons _ (.cons_cons _ (.cons_cons _ (.cons_cons _ (.cons_cons _ (.cons_cons _ (.slnil)))))))))
           exact ⟨ad151,cap152,rfl,e0,kt,own_hl,own_p,own_q,own_c,m3,m13,m130,sep,hF⟩
          ·skip
           refine SimK.effAt (i := 4) (D' := 27) (X' := 25) (by kernel_rfl) (by kernel_rfl) [] (by kernel_rfl) (Does.newHs (L := [y]) (t := 24) (E := 23) (by_ := 32) (n := 1) (by kernel_rfl) (by kernel_rfl) (All32.cons hy All32.nil) rfl (by decide) (by decide)) ?_
           rintro _ h154 ⟨rfl,hh⟩
           refine ⟨fun j hj => by simp at hj,?_⟩
           have g155 : Ext h138 h154 := push_ext hh
           have m156 : h154[h138.size]? = some (.cells (hcs [y]).toArray 23) := push_at hh
           clear hh
           have lt157 := blk_lt m156
           have zs158 := e0.size
           have hlo := e0.size
           have sepo := sep
           replace e0 := e0.ext g155
           replace kt := kt.ext g155
           replace own_hl := own_hl.ext g155
           replace own_p := own_p.ext g155
           replace own_q := own_q.ext g155
           replace m3 := Ext.blk g155 m3
           replace m13 := Ext.blk g155 m13
           replace m130 := Ext.blk g155 m130
           replace m140 := Ext.blk g155 m140
           replace sep := sep.up g155.size
           replace sep := sepo.new hlo (blk_lt m156)
           clear sepo hlo
           have own_c : Own h154 (.slice (some ⟨h137.size,0,none⟩) 0 0) 23 ([] : List UInt8).length 32 (hcs []) := Own.empty 32 m140
           replace sep : Sep h.size h154.size [some (h138.size),(some ⟨h137.size,0,none⟩ : Option Addr).map (·.block),ad135.map (·.block),some (h127.size),ad18.map (·.block),some (h10.size),(some ah).map (·.block),some (h.size)] := sep
           clear m140 lt141 zs142
           refine SimK.eff0 (i := 2) (D' := 31) (X' := 31) (by kernel_rfl) (by kernel_rfl) (by kernel_rfl) (by kernel_rfl) (Does.append2 (t := 24) (E := 23) (sz := 32) (by_ := 32) (n := 0) (m := Q.length) (v := .slice (some ⟨h137.size,0,none⟩) 0 0) (x := .slice ad135 Q.length cap136) (xs := (hcs ([]))) (ys := (hcs Q)) (by kernel_rfl) (by kernel_rfl) own_c own_q.row (ones_hcs _) (by unfold maxLen; omega) (by omega)) ?_
           rintro _ h161 ⟨ad159,cap160,rfl,ownx,g,hb⟩
           rw [blkOf_slice] at g hb
           have hlo := e0.size
           have sepo := sep
           replace e0 := e0.grew g (sep.low 1 rfl)
           replace kt := kt.grew g (sep.zero 1 rfl h0s)
           replace own_hl := own_hl.kept g (by rw [blkOf_slice]; exact (sep.ap 6 1))
           replace own_p := own_p.kept g (by rw [blkOf_slice]; exact (sep.ap 4 1))
           replace own_q := own_q.kept g (by rw [blkOf_slice]; exact (sep.ap 2 1))
           replace m3 := Grew.blk g m3 ((sep.bp 7 1))
           replace m13 := Grew.blk g m13 ((sep.bp 5 1))
           replace m130 := Grew.blk g m130 ((sep.bp 3 1))
           replace m156 := Grew.blk g m156 ((sep.bp 0 1))
           replace sep := sep.up g.size
           replace sep : Sep h.size h161.size [some (h138.size),ad159.map (·.block),ad135.map (·.block),some (h127.size),ad18.map (·.block),some (h10.size),(some ah).map (·.block),some (h.size)] := sepo.set g.size hlo 1 (y := ad159.map (fun (x : Addr) => x.block)) rfl (hb.imp id fun e => .inr ⟨_,e,Nat.le_refl _⟩) (fun k e => ownx.lt (by rw [blkOf_slice]; exact e))
           replace own_c : Own h161 (.slice ad159 Q.length cap160) 23 Q.length 32 (hcs Q) := Own.appG ownx (by first | rfl | exact (hcs_append _ _).symm | simp [hcs_append]) (by first | rfl | (simp; done) | (simp; omega))
           clear ownx g hb hlo sepo
           replace own_c : Own h161 (.slice ad159 (0 + Q.length) cap160) 23 (0 + Q.length) 32 (hcs Q) := by rw [show 0 + Q.length = Q.length by omega]; exact own_c
           refine SimK.eff0 (i := 5) (D' := 63) (X' := 63) (by kernel_rfl) (by kernel_rfl) (by kernel_rfl) (by kernel_rfl) (Does.append2 (t := 24) (E := 23) (sz := 32) (by_ := 32) (n := 0 + Q.length) (m := 1) (v := .slice ad159 (0 + Q.length) cap160) (x := .slice (some ⟨h138.size,0,none⟩) 1 1) (xs := (hcs Q)) (ys := (hcs ([y]))) (by kernel_rfl) (by kernel_rfl) own_c (hrow1 hy m156) (ones_hcs _) (by unfold maxLen; omega) (by omega)) ?_
           rintro _ h164 ⟨ad162,cap163,rfl,ownx,g,hb⟩
           rw [blkOf_slice] at g hb
           have hlo := e0.size
           have sepo := sep
           replace e0 := e0.grew g (sep.low 1 rfl)
           replace kt := kt.grew g (sep.zero 1 rfl h0s)
           replace own_hl := own_hl.kept g (by rw [blkOf_slice]; exact (sep.ap 6 1))
           replace own_p := own_p.kept g (by rw [blkOf_slice]; exact (sep.ap 4 1))
           replace own_q := own_q.kept g (by rw [blkOf_slice]; exact (sep.ap 2 1))
           replace m3 := Grew.blk g m3 ((sep.bp 7 1))
           replace m13 := Grew.blk g m13 ((sep.bp 5 1))
           replace m130 := Grew.blk g m130 ((sep.bp 3 1))
           replace m156 := Grew.blk g m156 ((sep.bp 0 1))
           replace sep := sep.up g.size
           replace sep : Sep h.size h164.size [some (h138.size),ad162.map (·.block),ad135.map (·.block),some (h127.size),ad18.map (·.block),some (h10.size),(some ah).map (·.block),some (h.size)] := sepo.set g.size hlo 1 (y := ad162.map (fun (x : Addr) => x.block)) rfl (hb.imp id fun e => .inr ⟨_,e,Nat.le_refl _⟩) (fun k e => ownx.lt (by rw [blkOf_slice]; exact e))
           replace own_c : Own h164 (.slice ad162 (Q.length + 1) cap163) 23 (Q.length + 1) 32 (hcs (Q ++ [y])) := Own.appG ownx (by first | rfl | exact (hcs_append _ _).symm | simp [hcs_append]) (by first | rfl | (simp; done) | (simp; omega))
           clear ownx g hb hlo sepo
           refine mP 127 [6] [.slice ad162 ((0 + Q.length) + 1) cap163] ?_
           refine mD [(1,nV mm),(5,pV h.size),(7,.bool true),(9,nV sl.length),(10,pV h10.size),(13,pV h127.size),(14,.slice ad135 Q.length cap136),(16,.slice ad162 ((0 + Q.length) + 1) cap163)] ?_
           clear hF a; intro a hF
           have hcan : ((0 + Q.length) + 1 : Nat) = Q.length + 1 := by first | (simp; done) | (simp; omega)
           rw [hcan] at hF; clear hcan
           replace sep := sep.sub (l' := [ad162.map (·.block),ad135.map (·.block),some (h127.size),ad18.map (·.block),some (h10.size),(some ah).map (·.block),some (h.size)]) (.cons _ (.cons_cons _ (.cons_cons _ (.cons_cons _ (.cons_cons _ (.cons_cons _ (.cons_cons _ (.cons_cons _ (.slnil)))))))))
           exact ⟨ad162,cap163,rfl,e0,kt,own_hl,own_p,own_q,own_c,m3,m13,m130,sep,hF⟩
         ·skip
          refine SimK.effAt (i := 4) (D' := 26) (X' := 24) (by kernel_rfl) (by kernel_rfl) [] (by kernel_rfl) (Does.newHs (L := [y]) (t := 24) (E := 23) (by_ := 32) (n := 1) (by kernel_rfl) (by kernel_rfl) (All32.cons hy All32.nil) rfl (by decide) (by decide)) ?_
          rintro _ h165 ⟨rfl,hh⟩
          refine ⟨fun j hj => by simp at hj,?_⟩
          have g166 : Ext h137 h165 := push_ext hh
          have m167 : h165[h137.size]? = some (.cells (hcs [y]).toArray 23) := push_at hh
          clear hh
          have lt168 := blk_lt m167
          have zs169 := e0.size
          have hlo := e0.size
          have sepo := sep
          replace e0 := e0.ext g166
          replace kt := kt.ext g166
          replace own_hl := own_hl.ext g166
          replace own_p := own_p.ext g166
          replace own_q := own_q.ext g166
          replace m3 := Ext.blk g166 m3
          replace m13 := Ext.blk g166 m13
          replace m130 := Ext.blk g166 m130
          replace sep := sep.up g166.size
          replace sep := sepo.new hlo (blk_lt m167)
          clear sepo hlo
          refine SimK.eff0 (i := 0) (D' := 27) (X' := 25) (by kernel_rfl) (by kernel_rfl) (by kernel_rfl) (by kernel_rfl) (Does.new (v := .slice (some ⟨h165.size,0,none⟩) 0 0) (o := .cells #[] 23) (by kernel_rfl)) ?_
          rintro _ h170 ⟨rfl,hh⟩
          have g171 : Ext h165 h170 := push_ext hh
          have m172 : h170[h165.size]? = some (.cells #[] 23) := push_at hh
          clear hh
          have lt173 := blk_lt m172
          have zs174 := e0.size
          have hlo := e0.size
          have sepo := sep
          replace e0 := e0.ext g171
          replace kt := kt.ext g171
          replace own_hl := own_hl.ext g171
          replace own_p := own_p.ext g171
          replace own_q := own_q.ext g171
          replace m3 := Ext.blk g171 m3
          replace m13 := Ext.blk g171 m13
          replace m130 := Ext.blk g171 m130
          replace m167 := Ext.blk g171 m167
          replace sep := sep.up g171.size
          replace sep := sepo.new hlo (blk_lt m172)
          clear sepo hlo
          have own_c : Own h170 (.slice (some ⟨h165.size,0,none⟩) 0 0) 23 ([] : List UInt8).length 32 (hcs []) := Own.empty 32 m172
          replace sep : Sep h.size h170.size [(some ⟨h165.size,0,none⟩ : Option Addr).map (·.block),some (h137.size),ad135.map (·.block),some (h127.size),ad18.map (·.block),some (h10.size),(some ah).map (·.block),some (h.size)] := sep
          clear m172 lt173 zs174
          refine SimK.eff0 (i := 2) (D' := 31) (X' := 31) (by kernel_rfl) (by kernel_rfl) (by kernel_rfl) (by kernel_rfl) (Does.append2 (t := 24) (E := 23) (sz := 32) (by_ := 32) (n := 0) (m := Q.length) (v := .slice (some ⟨h165.size,0,none⟩) 0 0) (x := .slice ad135 Q.length cap136) (xs := (hcs ([]))) (ys := (hcs Q)) (by kernel_rfl) (by kernel_rfl) own_c own_q.row (ones_hcs _) (by unfold maxLen; omega) (by omega)) ?_
          rintro _ h177 ⟨ad175,cap176,rfl,ownx,g,hb⟩
          rw [blkOf_slice] at g hb
          have hlo := e0.size
          have sepo := sep
          replace e0 := e0.grew g (sep.low 0 rfl)
          replace kt := kt.grew g (sep.zero 0 rfl h0s)
          replace own_hl := own_hl.kept g (by rw [blkOf_slice]; exact (sep.ap 6 0))
          replace own_p := own_p.kept g (by rw [blkOf_slice]; exact (sep.ap 4 0))
          replace own_q := own_q.kept g (by rw [blkOf_slice]; exact (sep.ap 2 0))
          replace m3 := Grew.blk g m3 ((sep.bp 7 0))
          replace m13 := Grew.blk g m13 ((sep.bp 5 0))
          replace m130 := Grew.blk g m130 ((sep.bp 3 0))
          replace m167 := Grew.blk g m167 ((sep.bp 1 0))
          replace sep := sep.up g.size
          replace sep : Sep h.size h177.size [ad175.map (·.block),some (h137.size),ad135.map (·.block),some (h127.size),ad18.map (·.block),some (h10.size),(some ah).map (·.block),some (h.size)] := sepo.set g.size hlo 0 (y := ad175.map (fun (x : Addr) => x.block)) rfl (hb.imp id fun e => .inr ⟨_,e,Nat.le_refl _⟩) (fun k e => ownx.lt (by rw [blkOf_slice]; exact e))
          replace own_c : Own h177 (.slice ad175 Q.length cap176) 23 Q.length 32 (hcs Q) := Own.appG ownx (by first | rfl | exact (hcs_append _ _).symm | simp [hcs_append]) (by first | rfl | (simp; done) | (simp; omega))
          clear ownx g hb hlo sepo
          replace own_c : Own h177 (.slice ad175 (0 + Q.length) cap176) 23 (0 + Q.length) 32 (hcs Q) := by rw [show 0 + Q.length = Q.length by omega]; exact own_c
          refine SimK.eff0 (i := 5) (D' := 63) (X' := 63) (by kernel_rfl) (by kernel_rfl) (by kernel_rfl) (by kernel_rfl) (Does.append2 (t := 24) (E := 23) (sz := 32) (by_ := 32) (n := 0 + Q.length) (m := 1) (v := .slice ad175 (0 + Q.length) cap176) (x := .slice (some ⟨h137.size,0,none⟩) 1 1) (xs := (hcs Q)) (ys := (hcs ([y]))) (by kernel_rfl) (by kernel_rfl) own_c (hrow1 hy m167) (ones_hcs _) (by unfold maxLen; omega) (by omega)) ?_
          rintro _ h180 ⟨ad178,cap179,rfl,ownx,g,hb⟩
          rw [blkOf_slice] at g hb
          have hlo := e0.size
          have sepo := sep
          replace e0 := e0.grew g (sep.low 0 rfl)
          replace kt := kt.grew g (sep.zero 0 rfl h0s)
          replace own_hl := own_hl.kept g (by rw [blkOf_slice]; exact (sep.ap 6 0))
          replace own_p := own_p.kept g (by rw [blkOf_slice]; exact (sep.ap 4 0))
          replace own_q := own_q.kept g (by rw [blkOf_slice]; exact (sep.ap 2 0))
          replace m3 := Grew.blk g m3 ((sep.bp 7 0))
          replace m13 := Grew.blk g m13 ((sep.bp 5 0))
          replace m130 := Grew.blk g m130 ((sep.bp 3 0))
          replace m167 := Grew.blk g m167 ((sep.bp 1 0))
          replace sep := sep.up g.size
          replace sep : Sep h.size h180.size [ad178.map (·.block),some (h137.size),ad135.map (·.block),some (h127.size),ad18.map (·.block),some (h10.size),(some ah).map (·.block),some (h.size)] := sepo.set g.size hlo 0 (y := ad178.map (fun (x : Addr) => x.block)) rfl (hb.imp id fun e => .inr ⟨_,e,Nat.le_refl _⟩) (fun k e => ownx.lt (by rw [blkOf_slice]; exact e))
          replace own_c : Own h180 (.slice ad178 (Q.length + 1) cap179) 23 (Q.length + 1) 32 (hcs (Q ++ [y])) := Own.appG ownx (by first | rfl | exact (hcs_append _ _).symm | simp [hcs_append]) (by first | rfl | (simp; done) | (simp; omega))
          clear ownx g hb hlo sepo
          refine mP 127 [6] [.slice ad178 ((0 + Q.length) + 1) cap179] ?_
          refine mD [(1,nV mm),(5,pV h.size),(7,.bool true),(9,nV sl.length),(10,pV h10.size),(13,pV h127.size),(14,.slice ad135 Q.length cap136),(16,.slice ad178 ((0 + Q.length) + 1) cap179)] ?_
          clear hF a; intro a hF
          have hcan : ((0 + Q.length) + 1 : Nat) = Q.length + 1 := by first | (simp; done) | (simp; omega)
          rw [hcan] at hF; clear hcan
          replace sep := sep.sub (l' := [ad178.map (·.block),ad135.map (·.block),some (h127.size),ad18.map (·.block),some (h10.size),(some ah).map (·.block),some (h.size)]) (.cons_cons _ (.cons _ (.cons_cons _ (.cons_cons _ (.cons_cons _ (.cons_cons _ (.cons_cons _ (.cons_cons _ (.slnil)))))))))
          exact ⟨ad178,cap179,rfl,e0,kt,own_hl,own_p,own_q,own_c,m3,m13,m130,sep,hF⟩
        ·skip
         clear hF a e0 kt own_hl own_p own_q m3 m13 m130 sep
         rintro e a h181 ⟨ad151,cap152,rfl,e0,kt,own_hl,own_p,own_q,own_c,m3,m13,m130,sep,hF⟩
         refine tK ?_
         refine cS ?_
         have hxQ : ∃ x,x = if cap136 = 1 then ad135 else ad135.map (·.add (1 * 32)) := ⟨_,rfl⟩
         obtain ⟨xq,hxq⟩ := hxQ
         have hqc := (HR.of own_q h32Q).cap
         rcases Decidable.em (y = root H) with hyr | hyr
         ·skip
          refine cD [0,1,3,3,15,31,63,63,63,63,63,2047,4095,8191,16383,32767,65535,65535,65535,65535,65535,2097151,4194303,8388607,16777215,33554431,33554431,33554431,33554431,33554431,570425343,2147483647,4294967295,8589934591,17179869183] 24 mixed hF ?_
          refine mP 3 [0,1] [.bool true,.bool true] ?_
          refine mL 7 4 2 (.agg (y.map bv).toArray) (Calm.load (T := 23) (p := ⟨h.size,0,none⟩) (by kernel_rfl) (Loads.hash (by kernel_rfl) hy m3)) ?_
          refine mL 15 12 3 (.agg ((root H).map bv).toArray) (Calm.load (T := 23) (p := ⟨h10.size,0,none⟩) (by kernel_rfl) (Loads.hash (by kernel_rfl) (root_len h32) m13)) ?_
          refine mF 31 4 (.bool false) (eqHT (q := false) (l := y) (r := root H) (n := 32) (by kernel_rfl) hy (root_len h32) hyr) ?_
          refine mP 262143 [5,6,7,8,9,10,11,12,13,14,15,16,17] [.bool false,undef,undef,undef,undef,undef,undef,.bool false,.bool true,.bool true,.bool true,nV mm,nV sl.length] ?_
          refine mL 524287 262156 18 (.agg ((root (H.take mm)).map bv).toArray) (Calm.load (T := 23) (p := ⟨h127.size,0,none⟩) (by kernel_rfl) (Loads.hash (by kernel_rfl) (root_len (h32.take _)) m130)) ?_
          refine mL 1048575 786444 19 (.agg ((root H).map bv).toArray) (Calm.load (T := 23) (p := ⟨h10.size,0,none⟩) (by kernel_rfl) (Loads.hash (by kernel_rfl) (root_len h32) m13)) ?_
          refine mP 2097151 [20] [.slice ad151 (Q.length + 1) cap152] ?_
          refine SimK.eff0 (i := 21) (D' := 4194303) (X' := 4194303) (by kernel_rfl) (by kernel_rfl) (by kernel_rfl) (by kernel_rfl) (Does.call (f := 14) (args := #[.int .i64 ((mm : Nat) : Int),.int .i64 ((sl.length : Nat) : Int),.agg ((root (H.take mm)).map bv).toArray,.agg ((root H).map bv).toArray,.slice ad151 (Q.length + 1) cap152]) (by kernel_rfl) (vcons_n _ ((mm : Nat) : Int) ((sl.length : Nat) : Int) (root (H.take mm)) (root H) (Q ++ [y]) _ _ (Q.length + 1) (by simp) (root_len (h32.take _)) (root_len h32) (HR.of own_c (h32Q.append (All32.one hy))) (by omega) (by omega) kt (fun k e => own_c.lt (by rw [blkOf_slice]; exact e)) false (cons_wrong hHl hm0 hml hQ (by simp)))) ?_
          rintro _ h182 ⟨rfl,g⟩
          replace e0 := e0.ext g
          replace kt := kt.ext g
          replace own_hl := own_hl.ext g
          replace own_p := own_p.ext g
          replace own_q := own_q.ext g
          replace own_c := own_c.ext g
          replace m3 := Ext.blk g m3
          replace m13 := Ext.blk g m13
          replace m130 := Ext.blk g m130
          replace sep := sep.up g.size
          clear g
          refine mP 134217727 [22,23,24,25,26] [.bool true,.bool true,.bool true,nV mm,nV sl.length] ?_
          refine mL 268435455 135004172 27 (.agg ((root (H.take mm)).map bv).toArray) (Calm.load (T := 23) (p := ⟨h127.size,0,none⟩) (by kernel_rfl) (Loads.hash (by kernel_rfl) (root_len (h32.take _)) m130)) ?_
          refine mL 536870911 403439628 28 (.agg ((root H).map bv).toArray) (Calm.load (T := 23) (p := ⟨h10.size,0,none⟩) (by kernel_rfl) (Loads.hash (by kernel_rfl) (root_len h32) m13)) ?_
          refine mP 1073741823 [29] [.slice ad135 Q.length cap136] ?_
          refine mF 2147483647 30 (.slice xq (Q.length - 1) (cap136 - 1)) (fun h => Calm.sliceO (a := ad135) (len := Q.length) (cap := cap136) (sz := 32) (x := xq) 1 Q.length cap136 (Q.length - 1) (cap136 - 1) (by kernel_rfl) (.inl ⟨rfl,rfl⟩) (.inl ⟨rfl,rfl⟩) (.inr rfl) (by omega) (by omega) hxq (by first | rfl | omega) (by first | rfl | omega) h) ?_
          refine SimK.eff0 (i := 31) (D' := 4294967295) (X' := 4294967295) (by kernel_rfl) (by kernel_rfl) (by kernel_rfl) (by kernel_rfl) (Does.call (f := 14) (args := #[.int .i64 ((mm : Nat) : Int),.int .i64 ((sl.length : Nat) : Int),.agg ((root (H.take mm)).map bv).toArray,.agg ((root H).map bv).toArray,.slice xq (Q.length - 1) (cap136 - 1)]) (by kernel_rfl) (vcons_n _ ((mm : Nat) : Int) ((sl.length : Nat) : Int) (root (H.take mm)) (root H) (Q.drop 1) _ _ (Q.length - 1) (by simp) (root_len (h32.take _)) (root_len h32) ((HR.of own_q h32Q).drop (k := 1) (by omega) hxq) (by omega) (by omega) kt (fun k e => own_q.lt (by rw [blkOf_slice,← off_blk hxq]; exact e)) false (cons_wrong hHl hm0 hml hQ (by simp; omega)))) ?_
          rintro _ h183 ⟨rfl,g⟩
          replace e0 := e0.ext g
          replace kt := kt.ext g
          replace own_hl := own_hl.ext g
          replace own_p := own_p.ext g
          replace own_q := own_q.ext g
          replace own_c := own_c.ext g
          replace m3 := Ext.blk g m3
          replace m13 := Ext.blk g m13
          replace m130 := Ext.blk g m130
          replace sep := sep.up g.size
          clear g
          refine mP 34359738367 [32,33,34] [.bool true,.bool true,.bool true] ?_
          refine mD [(6,.bool true)] ?_
          clear hF a; intro a hF
          refine tK ?_
          refine cR ?_
          show retK Tryd.prog Tryd.f8 (fun v h' => v = .bool true ∧ Ext h h') .ret a h183
          refine ret_ok [.tmp 6] [.bool true] (.bool true) rfl hF ⟨rfl,trivial⟩ rfl ?_
          exact ⟨rfl,e0⟩
         ·skip
          refine cD [0,1,3,3,15,31,63,63,63,63,63,2047,4095,8191,16383,32767,65535,65535,65535,65535,65535,2097151,4194303,8388607,16777215,33554431,33554431,33554431,33554431,33554431,570425343,2147483647,4294967295,8589934591,17179869183] 24 mixed hF ?_
          refine mP 3 [0,1] [.bool true,.bool true] ?_
          refine mL 7 4 2 (.agg (y.map bv).toArray) (Calm.load (T := 23) (p := ⟨h.size,0,none⟩) (by kernel_rfl) (Loads.hash (by kernel_rfl) hy m3)) ?_
          refine mL 15 12 3 (.agg ((root H).map bv).toArray) (Calm.load (T := 23) (p := ⟨h10.size,0,none⟩) (by kernel_rfl) (Loads.hash (by kernel_rfl) (root_len h32) m13)) ?_
          refine mF 31 4 (.bool true) (eqHF (q := false) (l := y) (r := root H) (n := 32) (by kernel_rfl) hy (root_len h32) hyr) ?_
          refine mP 255 [5,6,7] [.bool true,nV mm,nV sl.length] ?_
          refine mL 511 268 8 (.agg ((root (H.take mm)).map bv).toArray) (Calm.load (T := 23) (p := ⟨h127.size,0,none⟩) (by kernel_rfl) (Loads.hash (by kernel_rfl) (root_len (h32.take _)) m130)) ?_
          refine mL 1023 780 9 (.agg (y.map bv).toArray) (Calm.load (T := 23) (p := ⟨h.size,0,none⟩) (by kernel_rfl) (Loads.hash (by kernel_rfl) hy m3)) ?_
          refine mP 2047 [10] [.slice ad135 Q.length cap136] ?_
          refine SimK.eff0 (i := 11) (D' := 4095) (X' := 4095) (by kernel_rfl) (by kernel_rfl) (by kernel_rfl) (by kernel_rfl) (Does.call (f := 14) (args := #[.int .i64 ((mm : Nat) : Int),.int .i64 ((sl.length : Nat) : Int),.agg ((root (H.take mm)).map bv).toArray,.agg (y.map bv).toArray,.slice ad135 Q.length cap136]) (by kernel_rfl) (vcons_n _ ((mm : Nat) : Int) ((sl.length : Nat) : Int) (root (H.take mm)) y Q _ _ (Q.length) rfl (root_len (h32.take _)) hy (HR.of own_q h32Q) (by omega) (by omega) kt (fun k e => own_q.lt (by rw [blkOf_slice]; exact e)) false (cons_other hHl hm0 hml hQ hyr))) ?_
          rintro _ h184 ⟨rfl,g⟩
          replace e0 := e0.ext g
          replace kt := kt.ext g
          replace own_hl := own_hl.ext g
          replace own_p := own_p.ext g
          replace own_q := own_q.ext g
          replace own_c := own_c.ext g
          replace m3 := Ext.blk g m3
          replace m13 := Ext.blk g m13
          replace m130 := Ext.blk g m130
          replace sep := sep.up g.size
          clear g
          refine mP 262143 [12,13,14,15,16,17] [.bool false,.bool true,.bool true,.bool true,nV mm,nV sl.length] ?_
          refine mL 524287 262924 18 (.agg ((root (H.take mm)).map bv).toArray) (Calm.load (T := 23) (p := ⟨h127.size,0,none⟩) (by kernel_rfl) (Loads.hash (by kernel_rfl) (root_len (h32.take _)) m130)) ?_
          refine mL 1048575 787212 19 (.agg ((root H).map bv).toArray) (Calm.load (T := 23) (p := ⟨h10.size,0,none⟩) (by kernel_rfl) (Loads.hash (by kernel_rfl) (root_len h32) m13)) ?_
          refine mP 2097151 [20] [.slice ad151 (Q.length + 1) cap152] ?_
          refine SimK.eff0 (i := 21) (D' := 4194303) (X' := 4194303) (by kernel_rfl) (by kernel_rfl) (by kernel_rfl) (by kernel_rfl) (Does.call (f := 14) (args := #[.int .i64 ((mm : Nat) : Int),.int .i64 ((sl.length : Nat) : Int),.agg ((root (H.take mm)).map bv).toArray,.agg ((root H).map bv).toArray,.slice ad151 (Q.length + 1) cap152]) (by kernel_rfl) (vcons_n _ ((mm : Nat) : Int) ((sl.length : Nat) : Int) (root (H.take mm)) (root H) (Q ++ [y]) _ _ (Q.length + 1) (by simp) (root_len (h32.take _)) (root_len h32) (HR.of own_c (h32Q.append (All32.one hy))) (by omega) (by omega) kt (fun k e => own_c.lt (by rw [blkOf_slice]; exact e)) false (cons_wrong hHl hm0 hml hQ (by simp)))) ?_
          rintro _ h185 ⟨rfl,g⟩
          replace e0 := e0.ext g
          replace kt := kt.ext g
          replace own_hl := own_hl.ext g
          replace own_p := own_p.ext g
          replace own_q := own_q.ext g
          replace own_c := own_c.ext g
          replace m3 := Ext.blk g m3
          replace m13 := Ext.blk g m13
          replace m130 := Ext.blk g m130
          replace sep := sep.up g.size
          clear g
          refine mP 134217727 [22,23,24,25,26] [.bool true,.bool true,.bool true,nV mm,nV sl.length] ?_
          refine mL 268435455 135004940 27 (.agg ((root (H.take mm)).map bv).toArray) (Calm.load (T := 23) (p := ⟨h127.size,0,none⟩) (by kernel_rfl) (Loads.hash (by kernel_rfl) (root_len (h32.take _)) m130)) ?_
          refine mL 536870911 403440396 28 (.agg ((root H).map bv).toArray) (Calm.load (T := 23) (p := ⟨h10.size,0,none⟩) (by kernel_rfl) (Loads.hash (by kernel_rfl) (root_len h32) m13)) ?_
          refine mP 1073741823 [29] [.slice ad135 Q.length cap136] ?_
          refine mF 2147483647 30 (.slice xq (Q.length - 1) (cap136 - 1)) (fun h => Calm.sliceO (a := ad135) (len := Q.length) (cap := cap136) (sz := 32) (x := xq) 1 Q.length cap136 (Q.length - 1) (cap136 - 1) (by kernel_rfl) (.inl ⟨rfl,rfl⟩) (.inl ⟨rfl,rfl⟩) (.inr rfl) (by omega) (by omega) hxq (by first | rfl | omega) (by first | rfl | omega) h) ?_
          refine SimK.eff0 (i := 31) (D' := 4294967295) (X' := 4294967295) (by kernel_rfl) (by kernel_rfl) (by kernel_rfl) (by kernel_rfl) (Does.call (f := 14) (args := #[.int .i64 ((mm : Nat) : Int),.int .i64 ((sl.length : Nat) : Int),.agg ((root (H.take mm)).map bv).toArray,.agg ((root H).map bv).toArray,.slice xq (Q.length - 1) (cap136 - 1)]) (by kernel_rfl) (vcons_n _ ((mm : Nat) : Int) ((sl.length : Nat) : Int) (root (H.take mm)) (root H) (Q.drop 1) _ _ (Q.length - 1) (by simp) (root_len (h32.take _)) (root_len h32) ((HR.of own_q h32Q).drop (k := 1) (by omega) hxq) (by omega) (by omega) kt (fun k e => own_q.lt (by rw [blkOf_slice,← off_blk hxq]; exact e)) false (cons_wrong hHl hm0 hml hQ (by simp; omega)))) ?_
          rintro _ h186 ⟨rfl,g⟩
          replace e0 := e0.ext g
          replace kt := kt.ext g
          replace own_hl := own_hl.ext g
          replace own_p := own_p.ext g
          replace own_q := own_q.ext g
          replace own_c := own_c.ext g
          replace m3 := Ext.blk g m3
          replace m13 := Ext.blk g m13
          replace m130 := Ext.blk g m130
          replace sep := sep.up g.size
          clear g
          refine mP 34359738367 [32,33,34] [.bool true,.bool true,.bool true] ?_
          refine mD [(6,.bool true)] ?_
          clear hF a; intro a hF
          refine tK ?_
          refine cR ?_
          show retK Tryd.prog Tryd.f8 (fun v h' => v = .bool true ∧ Ext h h') .ret a h186
          refine ret_ok [.tmp 6] [.bool true] (.bool true) rfl hF ⟨rfl,trivial⟩ rfl ?_
          exact ⟨rfl,e0⟩
end Go.Proofs.YteinikjbaaembaaDoor
