/- Walks of the laws of proofs held: what each function computes, as a law of its calls. No condition but those that each theorem names. -/
import Derived.Test.YteinikjbaaembaaDoorLaw06I
namespace Go.Proofs.YteinikjbaaembaaDoor
open Go Go.Lane Go.Sha
noncomputable def b6 : Code := Tryd.f6.body.getD .skip
theorem vcons_gb (h : Heap) (m n : Int) (x t : Hs) (r : List Hs) (va : Option Addr) (vc : Nat) (hx : x.length = 32) (ht : t.length = 32) (hr : HR h va vc r.length r) (hrl : r.length ≤ 1099511627776) (hn : n ≤ 9223372036854775807) (kt : Ktab h) (hz0 : r = [] ∨ ∀ k,va.map (fun (x : Addr) => x.block) = some k → k < h.size) (v : Bool) (hv : consB m n x t r = v) : Sat Tryd.prog 14 #[.int .i64 m,.int .i64 n,.agg (x.map bv).toArray,.agg (t.map bv).toArray,.slice va r.length vc] h fun u h' => u = .bool v ∧ Ext h h' := by
 have := vcons_gen h m n x t r va vc hx ht hr hrl hn kt hz0
 rwa [hv] at this
theorem parts_n (h : Heap) (m n : Nat) (L : List Hs) (vb : Option Addr) (vd : Nat) (r : List Hs) (x : Hs) (hx : x.length = 32) (va : Option Addr) (vc : Nat) (hL : HR h vb vd n L) (hr : HR h va vc r.length r) (hl : r.length ≤ 1099511627776) (hm0 : 0 < m) (hn : n ≤ 1099511627000) (v : Bool) (hv : prtB x m L r true = v) : Sat Tryd.prog 19 #[.int .i64 ((m : Nat) : Int),.slice vb n vd,.agg (x.map bv).toArray,.slice va r.length vc,.bool true] h fun u h' => u = .bool v ∧ Ext h h' := by
 have := parts_all x hx va vc r.length h m n L vb vd r true r.length rfl (Nat.le_refl _) hl hL hr hm0 hn
 rwa [hv] at this
set_option maxHeartbeats 1000000 in
theorem begins_sat (h : Heap) (sl : List Sl) (va : Option Addr) (vc : Nat) (ra : Rws h va vc sl) (hfl : (flat sl).length ≤ 1048576) (hsl : sl.length ≤ 1048576) (mi : Int) (hmi : -9223372036854775808 ≤ mi ∧ mi ≤ 9223372036854775807) (x : Hs) (hx : x.length = 32) (r : List Hs) (va2 : Option Addr) (vc2 : Nat) (hr : HR h va2 vc2 r.length r) (hrl : r.length ≤ 1048576) (hz0 : r = [] ∨ ∀ k,va2.map (fun (x : Addr) => x.block) = some k → k < h.size) (kt : Ktab h) : Sat Tryd.prog 6 #[.slice va sl.length vc,.int .i64 mi,.agg (x.map bv).toArray,.slice va2 r.length vc2] h fun v h' => v = .bool true ∧ Ext h h' := by
 have e0 := Ext.refl h
 have h0s := kt.lt
 have sep : Sep h.size h.size [] := Sep.nil _ _
 obtain ⟨H,hH⟩ : ∃ H,lvr sl sl.length = H := ⟨_,rfl⟩
 have h32 : All32 H := hH ▸ lvr_32 _ _
 have hHl : H.length = sl.length := by rw [← hH,lvr_len (Nat.le_refl _)]
 refine sat_of (args := [.slice va sl.length vc,.int .i64 mi,.agg (x.map bv).toArray,.slice va2 r.length vc2]) (fn := Tryd.f6) (B := b6) (n := 55) (L := [(0,.slice va sl.length vc),(1,.int .i64 mi),(2,.agg (x.map bv).toArray),(3,.slice va2 r.length vc2)]) Tryd.func6 rfl (by kernel_rfl) rfl ?_
 intro a hF
 refine cS ?_
 refine cP 0 hF ?_
 refine SeqK.eff (k' := 1) (Does.new (v := .pointer (some ⟨h.size,0,none⟩)) (o := .cells (x.map bv).toArray 23) (by kernel_rfl)) rfl ?_
 rintro _ h1 ⟨rfl,hh⟩
 have g2 : Ext h h1 := push_ext hh
 have m3 : h1[h.size]? = some (.cells (x.map bv).toArray 23) := push_at hh
 clear hh
 have lt4 := blk_lt m3
 have zs5 := e0.size
 have hlo := e0.size
 have sepo := sep
 replace e0 := e0.ext g2
 replace kt := kt.ext g2
 replace sep := sep.up g2.size
 replace sep := sepo.new hlo (blk_lt m3)
 clear sepo hlo
 refine sP 2 [.bool false] ?_
 refine sD [(0,.slice va sl.length vc),(1,.int .i64 mi),(3,.slice va2 r.length vc2),(6,pV h.size)] ?_
 clear hF a; intro a hF
 refine tK ?_
 refine cS ?_
 refine cP 1 hF ?_
 refine SeqK.eff (k' := 1) (Does.call (f := 10) (args := #[]) (by kernel_rfl) (shown6_sat _ kt)) rfl ?_
 rintro _ h6 ⟨rfl,g⟩
 replace e0 := e0.ext g
 replace kt := kt.ext g
 replace m3 := Ext.blk g m3
 replace sep := sep.up g.size
 clear g
 refine sP 2 [.bool true] ?_
 refine sD [(0,.slice va sl.length vc),(1,.int .i64 mi),(3,.slice va2 r.length vc2),(6,pV h.size),(9,.bool true)] ?_
 clear hF a; intro a hF
 refine tK ?_
 refine cS ?_
 refine cS ?_
 refine cP 2 hF ?_
 refine sP 2 [.bool true,.bool false] ?_
 refine sD [(0,.slice va sl.length vc),(1,.int .i64 mi),(3,.slice va2 r.length vc2),(6,pV h.size),(9,.bool true),(13,.bool false)] ?_
 clear hF a; intro a hF
 refine tK ?_
 refine cF 13 hF ?_
 refine cN ?_
 refine tK ?_
 refine cS ?_
 refine cP 4 hF ?_
 refine sP 1 [.slice va sl.length vc] ?_
 refine SeqK.eff (k' := 2) (Does.call (f := 16) (args := #[.slice va sl.length vc]) (by kernel_rfl) (leaves6_n _ sl va vc (ra.ext e0) hfl hsl H hH)) rfl ?_
 rintro _ h9 ⟨ad7,cap8,rfl,ownx,hge,g⟩
 have hlo := e0.size
 have sepo := sep
 replace e0 := e0.ext g
 replace kt := kt.ext g
 replace m3 := Ext.blk g m3
 replace sep := sep.up g.size
 replace sep := sepo.cons (x := ad7.map (fun (x : Addr) => x.block)) g.size hlo (fun k e => ⟨hge k e,ownx.lt (by rw [blkOf_slice]; exact e)⟩)
 have own_hl : Own h9 (.slice ad7 sl.length cap8) 23 sl.length 32 (hcs H) := ownx; clear ownx sepo hlo hge g
 refine sP 3 [.slice ad7 sl.length cap8] ?_
 refine sD [(1,.int .i64 mi),(3,.slice va2 r.length vc2),(6,pV h.size),(9,.bool true),(10,.slice ad7 sl.length cap8)] ?_
 clear hF a; intro a hF
 refine tK ?_
 refine cS ?_
 refine cS ?_
 rcases Nat.lt_or_ge 300 sl.length with h300 | h300
 rotate_left 1
 cases hib : consB mi ((sl.length : Nat) : Int) x (root H) r
 rotate_left 2
 ·skip
  refine cD [0,1,3,7,15,15,47,15,15,271,15,2047,4095,8191] 5 mixed hF ?_
  refine mP 3 [0,1] [.slice ad7 sl.length cap8,nV sl.length] ?_
  refine m1 7 2 (.bool true) (.bool (decide ((300 : Int) < ((sl.length : Nat) : Int)))) (congrArg Value.bool (decide_eq_true (by omega))) ?_
  refine mP 16383 [3,4,5,6,7,8,9,10,11,12,13] [.bool true,undef,undef,undef,undef,undef,undef,undef,undef,undef,.bool true] ?_
  refine mD [(1,.int .i64 mi),(3,.slice va2 r.length vc2),(6,pV h.size),(9,.bool true),(10,.slice ad7 sl.length cap8),(29,.bool true)] ?_
  clear hF a; intro a hF
  refine tK ?_
  refine cT 29 hF ?_
  refine cS ?_
  refine cP 6 hF ?_
  refine sP 2 [.bool true,.bool true] ?_
  refine sD [(8,.bool true)] ?_
  clear hF a; intro a hF
  refine tK ?_
  refine cR ?_
  show retK Tryd.prog Tryd.f6 (fun v h' => v = .bool true ∧ Ext h h') .ret a h9
  refine ret_ok [.tmp 8] [.bool true] (.bool true) rfl hF ⟨rfl,trivial⟩ rfl ?_
  exact ⟨rfl,e0⟩
 ·skip
  refine cD [0,1,3,7,15,15,47,15,15,271,15,2047,4095,8191] 5 mixed hF ?_
  refine mP 3 [0,1] [.slice ad7 sl.length cap8,nV sl.length] ?_
  refine m1 7 2 (.bool false) (.bool (decide ((300 : Int) < ((sl.length : Nat) : Int)))) (congrArg Value.bool (decide_eq_false (by omega))) ?_
  refine mP 127 [3,4,5,6] [.bool false,.int .i64 mi,.slice ad7 sl.length cap8,nV sl.length] ?_
  refine mL 255 128 7 (.agg (x.map bv).toArray) (Calm.load (T := 23) (p := ⟨h.size,0,none⟩) (by kernel_rfl) (Loads.hash (by kernel_rfl) hx m3)) ?_
  refine mP 1535 [8,10] [.slice ad7 sl.length cap8,.slice va2 r.length vc2] ?_
  refine SimK.eff (i := 9) (D' := 2047) (X' := 783) (by kernel_rfl) (by kernel_rfl) (by kernel_rfl) [7] (by kernel_rfl) (Does.call (f := 17) (args := #[.slice ad7 sl.length cap8]) (by kernel_rfl) (rroot_sat _ H _ _ sl.length (HR.of own_hl h32) (by omega))) ?_
  rintro _ h10 ⟨rfl,g⟩
  replace e0 := e0.ext g
  replace kt := kt.ext g
  replace own_hl := own_hl.ext g
  replace m3 := Ext.blk g m3
  replace sep := sep.up g.size
  refine ⟨?_,?_⟩
  ·intro j hj
   simp only [List.mem_cons,List.not_mem_nil,or_false] at hj
   subst hj
   exact goodOf (Calm.load (T := 23) (p := ⟨h.size,0,none⟩) (by kernel_rfl) (Loads.hash (by kernel_rfl) hx m3))
  clear g
  refine SimK.eff0 (i := 11) (D' := 4095) (X' := 4095) (by kernel_rfl) (by kernel_rfl) (by kernel_rfl) (by kernel_rfl) (Does.call (f := 14) (args := #[.int .i64 mi,.int .i64 ((sl.length : Nat) : Int),.agg (x.map bv).toArray,.agg ((root H).map bv).toArray,.slice va2 r.length vc2]) (by kernel_rfl) (vcons_gb _ mi ((sl.length : Nat) : Int) x (root H) r _ _ hx (root_len h32) (hr.ext e0) (by omega) (by omega) kt (hz0.imp id fun z k e => Nat.lt_of_lt_of_le (z k e) e0.size) false hib)) ?_
  rintro _ h11 ⟨rfl,g⟩
  replace e0 := e0.ext g
  replace kt := kt.ext g
  replace own_hl := own_hl.ext g
  replace m3 := Ext.blk g m3
  replace sep := sep.up g.size
  clear g
  refine mP 16383 [12,13] [.bool true,.bool true] ?_
  refine mD [(1,.int .i64 mi),(3,.slice va2 r.length vc2),(6,pV h.size),(9,.bool true),(10,.slice ad7 sl.length cap8),(29,.bool true)] ?_
  clear hF a; intro a hF
  refine tK ?_
  refine cT 29 hF ?_
  refine cS ?_
  refine cP 6 hF ?_
  refine sP 2 [.bool true,.bool true] ?_
  refine sD [(8,.bool true)] ?_
  clear hF a; intro a hF
  refine tK ?_
  refine cR ?_
  show retK Tryd.prog Tryd.f6 (fun v h' => v = .bool true ∧ Ext h h') .ret a h11
  refine ret_ok [.tmp 8] [.bool true] (.bool true) rfl hF ⟨rfl,trivial⟩ rfl ?_
  exact ⟨rfl,e0⟩
 ·skip
  refine cD [0,1,3,7,15,15,47,15,15,271,15,2047,4095,8191] 5 mixed hF ?_
  refine mP 3 [0,1] [.slice ad7 sl.length cap8,nV sl.length] ?_
  refine m1 7 2 (.bool false) (.bool (decide ((300 : Int) < ((sl.length : Nat) : Int)))) (congrArg Value.bool (decide_eq_false (by omega))) ?_
  refine mP 127 [3,4,5,6] [.bool false,.int .i64 mi,.slice ad7 sl.length cap8,nV sl.length] ?_
  refine mL 255 128 7 (.agg (x.map bv).toArray) (Calm.load (T := 23) (p := ⟨h.size,0,none⟩) (by kernel_rfl) (Loads.hash (by kernel_rfl) hx m3)) ?_
  refine mP 1535 [8,10] [.slice ad7 sl.length cap8,.slice va2 r.length vc2] ?_
  refine SimK.eff (i := 9) (D' := 2047) (X' := 783) (by kernel_rfl) (by kernel_rfl) (by kernel_rfl) [7] (by kernel_rfl) (Does.call (f := 17) (args := #[.slice ad7 sl.length cap8]) (by kernel_rfl) (rroot_sat _ H _ _ sl.length (HR.of own_hl h32) (by omega))) ?_
  rintro _ h12 ⟨rfl,g⟩
  replace e0 := e0.ext g
  replace kt := kt.ext g
  replace own_hl := own_hl.ext g
  replace m3 := Ext.blk g m3
  replace sep := sep.up g.size
  refine ⟨?_,?_⟩
  ·intro j hj
   simp only [List.mem_cons,List.not_mem_nil,or_false] at hj
   subst hj
   exact goodOf (Calm.load (T := 23) (p := ⟨h.size,0,none⟩) (by kernel_rfl) (Loads.hash (by kernel_rfl) hx m3))
  clear g
  refine SimK.eff0 (i := 11) (D' := 4095) (X' := 4095) (by kernel_rfl) (by kernel_rfl) (by kernel_rfl) (by kernel_rfl) (Does.call (f := 14) (args := #[.int .i64 mi,.int .i64 ((sl.length : Nat) : Int),.agg (x.map bv).toArray,.agg ((root H).map bv).toArray,.slice va2 r.length vc2]) (by kernel_rfl) (vcons_gb _ mi ((sl.length : Nat) : Int) x (root H) r _ _ hx (root_len h32) (hr.ext e0) (by omega) (by omega) kt (hz0.imp id fun z k e => Nat.lt_of_lt_of_le (z k e) e0.size) true hib)) ?_
  rintro _ h13 ⟨rfl,g⟩
  replace e0 := e0.ext g
  replace kt := kt.ext g
  replace own_hl := own_hl.ext g
  replace m3 := Ext.blk g m3
  replace sep := sep.up g.size
  clear g
  refine mP 16383 [12,13] [.bool false,.bool false] ?_
  refine mD [(1,.int .i64 mi),(3,.slice va2 r.length vc2),(6,pV h.size),(9,.bool true),(10,.slice ad7 sl.length cap8),(29,.bool false)] ?_
  clear hF a; intro a hF
  refine tK ?_
  refine cF 29 hF ?_
  refine cN ?_
  refine tK ?_
  refine cS ?_
  refine cS ?_
  have hmz : 0 ≤ mi ∧ mi ≤ ((sl.length : Nat) : Int) := by
   apply Decidable.byContradiction; intro hcon
   rw [consB_no (by omega)] at hib; cases hib
  obtain ⟨mm,rfl⟩ : ∃ mm : Nat,mi = ((mm : Nat) : Int) := ⟨mi.toNat,by omega⟩
  have hmm : mm ≤ H.length := by omega
  have hfo := begins (a := x) (r := r) hmm (by rw [hHl]; exact hib)
  have hcp := (HR.of own_hl h32).cap
  ·skip
   refine cP 7 hF ?_
   refine sP 1 [nV mm] ?_
   refine s1 2 (.bool false) (.bool (decide (((mm : Nat) : Int) < (0 : Int)))) (congrArg Value.bool (decide_eq_false (by omega))) ?_
   refine sP 6 [.bool false,nV mm,.slice ad7 sl.length cap8,nV sl.length] ?_
   refine s1 7 (.bool false) (.bool (decide (((sl.length : Nat) : Int) < ((mm : Nat) : Int)))) (congrArg Value.bool (decide_eq_false (by omega))) ?_
   refine sP 8 [.bool false] ?_
   refine sD [(1,nV mm),(3,.slice va2 r.length vc2),(6,pV h.size),(9,.bool true),(10,.slice ad7 sl.length cap8),(38,.bool false)] ?_
   clear hF a; intro a hF
   refine tK ?_
   refine cF 38 hF ?_
   refine cN ?_
   refine tK ?_
   refine cS ?_
   rcases Decidable.em (x = root (H.take mm)) with heq | heq
   ·skip
    refine cD [0,1,3,3,3,27,59,127,255,511,511,511,511,8191,16383,32767,65535] 9 mixed hF ?_
    refine mP 3 [0,1] [.bool true,.bool true] ?_
    refine mL 7 4 2 (.agg (x.map bv).toArray) (Calm.load (T := 23) (p := ⟨h.size,0,none⟩) (by kernel_rfl) (Loads.hash (by kernel_rfl) hx m3)) ?_
    refine mP 31 [3,4] [.slice ad7 sl.length cap8,nV mm] ?_
    refine mF 63 5 (.slice ad7 mm cap8) (fun h => Calm.sliceO (a := ad7) (len := sl.length) (cap := cap8) (sz := 32) (x := ad7) 0 mm cap8 mm cap8 (by kernel_rfl) (.inl ⟨rfl,rfl⟩) (.inr rfl) (.inl ⟨rfl,rfl⟩) (by omega) (by omega) (opt_add0 _ 32) (by first | rfl | omega) (by first | rfl | omega) h) ?_
    refine SimK.eff (i := 6) (D' := 127) (X' := 123) (by kernel_rfl) (by kernel_rfl) (by kernel_rfl) [2] (by kernel_rfl) (Does.call (f := 17) (args := #[.slice ad7 mm cap8]) (by kernel_rfl) (rroot_sat _ (H.take mm) _ _ mm ((HR.of own_hl h32).take (k := mm) (by omega)) (by omega))) ?_
    rintro _ h14 ⟨rfl,g⟩
    replace e0 := e0.ext g
    replace kt := kt.ext g
    replace own_hl := own_hl.ext g
    replace m3 := Ext.blk g m3
    replace sep := sep.up g.size
    refine ⟨?_,?_⟩
    ·intro j hj
     simp only [List.mem_cons,List.not_mem_nil,or_false] at hj
     subst hj
     exact goodOf (Calm.load (T := 23) (p := ⟨h.size,0,none⟩) (by kernel_rfl) (Loads.hash (by kernel_rfl) hx m3))
    clear g
    refine mF 255 7 (.bool true) (eqHT (q := true) (l := x) (r := root (H.take mm)) (n := 32) (by kernel_rfl) hx (root_len (h32.take _)) heq) ?_
    refine mP 131071 [8,9,10,11,12,13,14,15,16] [.bool true,undef,undef,undef,undef,undef,.bool true,.bool true,.bool true] ?_
    refine mD [(8,.bool true)] ?_
    clear hF a; intro a hF
    refine tK ?_
    refine cR ?_
    show retK Tryd.prog Tryd.f6 (fun v h' => v = .bool true ∧ Ext h h') .ret a h14
    refine ret_ok [.tmp 8] [.bool true] (.bool true) rfl hF ⟨rfl,trivial⟩ rfl ?_
    exact ⟨rfl,e0⟩
   ·skip
    have hcol := hfo.resolve_left heq
    refine cD [0,1,3,3,3,27,59,127,255,511,511,511,511,8191,16383,32767,65535] 9 mixed hF ?_
    refine mP 3 [0,1] [.bool true,.bool true] ?_
    refine mL 7 4 2 (.agg (x.map bv).toArray) (Calm.load (T := 23) (p := ⟨h.size,0,none⟩) (by kernel_rfl) (Loads.hash (by kernel_rfl) hx m3)) ?_
    refine mP 31 [3,4] [.slice ad7 sl.length cap8,nV mm] ?_
    refine mF 63 5 (.slice ad7 mm cap8) (fun h => Calm.sliceO (a := ad7) (len := sl.length) (cap := cap8) (sz := 32) (x := ad7) 0 mm cap8 mm cap8 (by kernel_rfl) (.inl ⟨rfl,rfl⟩) (.inr rfl) (.inl ⟨rfl,rfl⟩) (by omega) (by omega) (opt_add0 _ 32) (by first | rfl | omega) (by first | rfl | omega) h) ?_
    refine SimK.eff (i := 6) (D' := 127) (X' := 123) (by kernel_rfl) (by kernel_rfl) (by kernel_rfl) [2] (by kernel_rfl) (Does.call (f := 17) (args := #[.slice ad7 mm cap8]) (by kernel_rfl) (rroot_sat _ (H.take mm) _ _ mm ((HR.of own_hl h32).take (k := mm) (by omega)) (by omega))) ?_
    rintro _ h15 ⟨rfl,g⟩
    replace e0 := e0.ext g
    replace kt := kt.ext g
    replace own_hl := own_hl.ext g
    replace m3 := Ext.blk g m3
    replace sep := sep.up g.size
    refine ⟨?_,?_⟩
    ·intro j hj
     simp only [List.mem_cons,List.not_mem_nil,or_false] at hj
     subst hj
     exact goodOf (Calm.load (T := 23) (p := ⟨h.size,0,none⟩) (by kernel_rfl) (Loads.hash (by kernel_rfl) hx m3))
    clear g
    refine mF 255 7 (.bool false) (eqHF (q := true) (l := x) (r := root (H.take mm)) (n := 32) (by kernel_rfl) hx (root_len (h32.take _)) heq) ?_
    refine mP 2047 [8,9,10] [.bool false,nV mm,.slice ad7 sl.length cap8] ?_
    refine mL 4095 2052 11 (.agg (x.map bv).toArray) (Calm.load (T := 23) (p := ⟨h.size,0,none⟩) (by kernel_rfl) (Loads.hash (by kernel_rfl) hx m3)) ?_
    refine mP 8191 [12] [.slice va2 r.length vc2] ?_
    refine SimK.eff0 (i := 13) (D' := 16383) (X' := 16383) (by kernel_rfl) (by kernel_rfl) (by kernel_rfl) (by kernel_rfl) (Does.call (f := 19) (args := #[.int .i64 ((mm : Nat) : Int),.slice ad7 sl.length cap8,.agg (x.map bv).toArray,.slice va2 r.length vc2,.bool true]) (by kernel_rfl) (parts_n _ mm sl.length H _ _ r x hx _ _ (HR.of own_hl h32) (hr.ext e0) (by omega) hcol.1 (by omega) true hcol.2)) ?_
    rintro _ h16 ⟨rfl,g⟩
    replace e0 := e0.ext g
    replace kt := kt.ext g
    replace own_hl := own_hl.ext g
    replace m3 := Ext.blk g m3
    replace sep := sep.up g.size
    clear g
    refine mP 131071 [14,15,16] [.bool true,.bool true,.bool true] ?_
    refine mD [(8,.bool true)] ?_
    clear hF a; intro a hF
    refine tK ?_
    refine cR ?_
    show retK Tryd.prog Tryd.f6 (fun v h' => v = .bool true ∧ Ext h h') .ret a h16
    refine ret_ok [.tmp 8] [.bool true] (.bool true) rfl hF ⟨rfl,trivial⟩ rfl ?_
    exact ⟨rfl,e0⟩
end Go.Proofs.YteinikjbaaembaaDoor
