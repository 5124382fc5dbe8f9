/- Walks of proofs held: what each function computes, as a law of its calls. No condition but those that each theorem names. -/
import Derived.Test.YtkjlafiefgbjpaaDoorVerB
namespace Go.Proofs.YtkjlafiefgbjpaaDoor
open Go Go.Lane Go.Sha
noncomputable def b23 : Code := Tryd.f23.body.getD .skip
theorem vincl_gen (h : Heap) (x : Hs) (m n : Int) (r : List Hs) (va : Option Addr) (vc : Nat) (t : Hs) (hx : x.length = 32) (ht : t.length = 32) (hr : HR h va vc r.length r) (hrl : r.length ≤ 1099511627776) (hn : n ≤ 9223372036854775807) (kt : Ktab h) (hz0 : r = [] ∨ ∀ k,va.map (fun (x : Addr) => x.block) = some k → k < h.size) : Sat Tryd.prog 23 #[.agg (x.map bv).toArray,.int .i64 m,.int .i64 n,.slice va r.length vc,.agg (t.map bv).toArray] h fun v h' => v = .bool (inclB x m n r t) ∧ Ext h h' := by
 have e0 := Ext.refl h
 have h0s := kt.lt
 have sep : Sep h.size h.size [] := Sep.nil _ _
 refine sat_of (args := [.agg (x.map bv).toArray,.int .i64 m,.int .i64 n,.slice va r.length vc,.agg (t.map bv).toArray]) (fn := Tryd.f23) (B := b23) (n := 42) (L := [(0,.agg (x.map bv).toArray),(1,.int .i64 m),(2,.int .i64 n),(3,.slice va r.length vc),(4,.agg (t.map bv).toArray)]) Tryd.func23 rfl (by kernel_rfl) rfl ?_
 intro a hF
 refine cS ?_
 refine cP 0 hF ?_
 refine SeqK.eff (k' := 1) (Does.new (v := .pointer (some ⟨h.size,0,none⟩)) (o := .cells (x.map bv).toArray 31) (by kernel_rfl)) rfl ?_
 rintro _ h1 ⟨rfl,hh⟩
 have g2 : Ext h h1 := push_ext hh
 have m3 : h1[h.size]? = some (.cells (x.map bv).toArray 31) := push_at hh
 clear hh
 have lt4 := blk_lt m3
 have zs5 := e0.size
 have hlo := e0.size
 have sepo := sep
 replace e0 := e0.ext g2
 replace kt := kt.ext g2
 replace sep := sep.up g2.size
 replace sep := sepo.new hlo (blk_lt m3)
 clear sepo hlo
 refine SeqK.eff (k' := 2) (Does.new (v := .pointer (some ⟨h1.size,0,none⟩)) (o := .cells (t.map bv).toArray 31) (by kernel_rfl)) rfl ?_
 rintro _ h6 ⟨rfl,hh⟩
 have g7 : Ext h1 h6 := push_ext hh
 have m8 : h6[h1.size]? = some (.cells (t.map bv).toArray 31) := push_at hh
 clear hh
 have lt9 := blk_lt m8
 have zs10 := e0.size
 have hlo := e0.size
 have sepo := sep
 replace e0 := e0.ext g7
 replace kt := kt.ext g7
 replace m3 := Ext.blk g7 m3
 replace sep := sep.up g7.size
 replace sep := sepo.new hlo (blk_lt m8)
 clear sepo hlo
 refine sP 3 [.bool false] ?_
 refine sD [(1,.int .i64 m),(2,.int .i64 n),(3,.slice va r.length vc),(5,pV h.size),(9,pV h1.size)] ?_
 clear hF a; intro a hF
 refine tK ?_
 refine cS ?_
 refine cS ?_
 have hm3 : m < 0 ∨ (0 ≤ m ∧ n ≤ m) ∨ ∃ a b : Nat,m = (a : Int) ∧ n = (b : Int) ∧ a < b := by
  rcases Int.lt_or_le m 0 with h0 | h0
  ·exact .inl h0
  ·rcases Int.lt_or_le m n with h1 | h1
   ·exact .inr (.inr ⟨m.toNat,n.toNat,by omega,by omega,by omega⟩)
   ·exact .inr (.inl ⟨h0,h1⟩)
 rcases hm3 with hm0 | hm0 | ⟨mi,ni,rfl,rfl,hmn⟩
 rotate_left 2
 rcases Nat.lt_or_ge 64 r.length with h64 | h64
 rotate_left 2
 ·skip
  refine cP 1 hF ?_
  refine sP 1 [.int .i64 m] ?_
  refine s1 2 (.bool true) (.bool (decide (m < (0 : Int)))) (congrArg Value.bool (decide_eq_true (by omega))) ?_
  refine sP 12 [.bool true,undef,undef,undef,.bool true,.bool true,undef,undef,undef,.bool true] ?_
  refine sD [(1,.int .i64 m),(2,.int .i64 n),(3,.slice va r.length vc),(5,pV h.size),(9,pV h1.size),(26,.bool true)] ?_
  clear hF a; intro a hF
  refine tK ?_
  refine cT 26 hF ?_
  refine cS ?_
  refine cP 2 hF ?_
  refine sP 1 [.bool false] ?_
  refine sD [(10,.bool false)] ?_
  clear hF a; intro a hF
  refine tK ?_
  refine cR ?_
  show retK Tryd.prog Tryd.f23 (fun v h' => v = .bool (inclB x m n r t) ∧ Ext h h') .ret a h6
  refine ret_ok [.tmp 10] [.bool false] (.bool false) rfl hF ⟨rfl,trivial⟩ rfl ?_
  exact ⟨by rw [inclB_no (by omega)] <;> rfl,e0⟩
 ·skip
  refine cP 1 hF ?_
  refine sP 1 [.int .i64 m] ?_
  refine s1 2 (.bool false) (.bool (decide (m < (0 : Int)))) (congrArg Value.bool (decide_eq_false (by omega))) ?_
  refine sP 5 [.bool false,.int .i64 m,.int .i64 n] ?_
  refine s1 6 (.bool true) (.bool (decide (n ≤ m))) (congrArg Value.bool (decide_eq_true (by omega))) ?_
  refine sP 12 [.bool true,.bool true,undef,undef,undef,.bool true] ?_
  refine sD [(1,.int .i64 m),(2,.int .i64 n),(3,.slice va r.length vc),(5,pV h.size),(9,pV h1.size),(26,.bool true)] ?_
  clear hF a; intro a hF
  refine tK ?_
  refine cT 26 hF ?_
  refine cS ?_
  refine cP 2 hF ?_
  refine sP 1 [.bool false] ?_
  refine sD [(10,.bool false)] ?_
  clear hF a; intro a hF
  refine tK ?_
  refine cR ?_
  show retK Tryd.prog Tryd.f23 (fun v h' => v = .bool (inclB x m n r t) ∧ Ext h h') .ret a h6
  refine ret_ok [.tmp 10] [.bool false] (.bool false) rfl hF ⟨rfl,trivial⟩ rfl ?_
  exact ⟨by rw [inclB_no (by omega)] <;> rfl,e0⟩
 ·skip
  refine cP 1 hF ?_
  refine sP 1 [nV mi] ?_
  refine s1 2 (.bool false) (.bool (decide (((mi : Nat) : Int) < (0 : Int)))) (congrArg Value.bool (decide_eq_false (by omega))) ?_
  refine sP 5 [.bool false,nV mi,nV ni] ?_
  refine s1 6 (.bool false) (.bool (decide (((ni : Nat) : Int) ≤ ((mi : Nat) : Int)))) (congrArg Value.bool (decide_eq_false (by omega))) ?_
  refine sP 10 [.bool false,.bool false,.slice va r.length vc,nV r.length] ?_
  refine s1 11 (.bool true) (.bool (decide ((64 : Int) < ((r.length : Nat) : Int)))) (congrArg Value.bool (decide_eq_true (by omega))) ?_
  refine sP 12 [.bool true] ?_
  refine sD [(1,nV mi),(2,nV ni),(3,.slice va r.length vc),(5,pV h.size),(9,pV h1.size),(26,.bool true)] ?_
  clear hF a; intro a hF
  refine tK ?_
  refine cT 26 hF ?_
  refine cS ?_
  refine cP 2 hF ?_
  refine sP 1 [.bool false] ?_
  refine sD [(10,.bool false)] ?_
  clear hF a; intro a hF
  refine tK ?_
  refine cR ?_
  show retK Tryd.prog Tryd.f23 (fun v h' => v = .bool (inclB x (mi : Int) (ni : Int) r t) ∧ Ext h h') .ret a h6
  refine ret_ok [.tmp 10] [.bool false] (.bool false) rfl hF ⟨rfl,trivial⟩ rfl ?_
  exact ⟨by rw [inclB_long (by omega) (by omega) h64] <;> rfl,e0⟩
 ·skip
  refine cP 1 hF ?_
  refine sP 1 [nV mi] ?_
  refine s1 2 (.bool false) (.bool (decide (((mi : Nat) : Int) < (0 : Int)))) (congrArg Value.bool (decide_eq_false (by omega))) ?_
  refine sP 5 [.bool false,nV mi,nV ni] ?_
  refine s1 6 (.bool false) (.bool (decide (((ni : Nat) : Int) ≤ ((mi : Nat) : Int)))) (congrArg Value.bool (decide_eq_false (by omega))) ?_
  refine sP 10 [.bool false,.bool false,.slice va r.length vc,nV r.length] ?_
  refine s1 11 (.bool false) (.bool (decide ((64 : Int) < ((r.length : Nat) : Int)))) (congrArg Value.bool (decide_eq_false (by omega))) ?_
  refine sP 12 [.bool false] ?_
  refine sD [(1,nV mi),(2,nV ni),(3,.slice va r.length vc),(5,pV h.size),(9,pV h1.size),(26,.bool false)] ?_
  clear hF a; intro a hF
  refine tK ?_
  refine cF 26 hF ?_
  refine cN ?_
  refine tK ?_
  refine cS ?_
  refine cP 3 hF ?_
  refine sP 1 [.slice va r.length vc] ?_
  refine SeqK.eff (k' := 2) (Does.new (v := .pointer (some ⟨h6.size,0,none⟩)) (o := .cells #[.slice none 0 0] 26) (by kernel_rfl)) rfl ?_
  rintro _ h11 ⟨rfl,hh⟩
  have g12 : Ext h6 h11 := push_ext hh
  have m13 : h11[h6.size]? = some (.cells #[.slice none 0 0] 26) := push_at hh
  clear hh
  have lt14 := blk_lt m13
  have zs15 := e0.size
  have hlo := e0.size
  have sepo := sep
  replace e0 := e0.ext g12
  replace kt := kt.ext g12
  replace m3 := Ext.blk g12 m3
  replace m8 := Ext.blk g12 m8
  replace sep := sep.up g12.size
  replace sep := sepo.new hlo (blk_lt m13)
  clear sepo hlo
  refine SeqK.eff (k' := 3) (Does.store (b := h6.size) (off := 0) (vs := [.slice va r.length vc]) (l := [.slice none 0 0]) (by kernel_rfl) m13 (of_decide_eq_true (by kernel_rfl)) (List.all_eq_true.1 (by kernel_rfl))) rfl ?_
  rintro _ h16 ⟨rfl,hh⟩
  have g17 : Grew (some (h6.size)) h11 h16 := hput_gr hh
  replace m13 : h16[h6.size]? = some (.cells ([.slice va r.length vc]).toArray 26) := hput_at (off := 0) (vs := [.slice va r.length vc]) (l := ([.slice none 0 0])) hh (by kernel_rfl) m13
  clear hh
  replace e0 := e0.grew g17 (sep.low 0 rfl)
  replace kt := kt.grew g17 (sep.zero 0 rfl h0s)
  replace m3 := Grew.blk g17 m3 ((sep.bp 2 0))
  replace m8 := Grew.blk g17 m8 ((sep.bp 1 0))
  replace sep := sep.up g17.size
  refine sD [(1,nV mi),(2,nV ni),(5,pV h.size),(9,pV h1.size),(11,pV h6.size)] ?_
  clear hF a; intro a hF
  refine tK ?_
  refine cS ?_
  refine cP 4 hF ?_
  refine SeqK.eff (k' := 1) (Does.new (v := .pointer (some ⟨h16.size,0,none⟩)) (o := .cells #[.nilFunc] 52) (by kernel_rfl)) rfl ?_
  rintro _ h18 ⟨rfl,hh⟩
  have g19 : Ext h16 h18 := push_ext hh
  have m20 : h18[h16.size]? = some (.cells #[.nilFunc] 52) := push_at hh
  clear hh
  have lt21 := blk_lt m20
  have zs22 := e0.size
  have hlo := e0.size
  have sepo := sep
  replace e0 := e0.ext g19
  replace kt := kt.ext g19
  replace m3 := Ext.blk g19 m3
  replace m8 := Ext.blk g19 m8
  replace m13 := Ext.blk g19 m13
  replace sep := sep.up g19.size
  replace sep := sepo.new hlo (blk_lt m20)
  clear sepo hlo
  refine sD [(1,nV mi),(2,nV ni),(5,pV h.size),(9,pV h1.size),(11,pV h6.size),(12,pV h16.size)] ?_
  clear hF a; intro a hF
  refine tK ?_
  refine cS ?_
  refine cP 5 hF ?_
  refine sP 1 [.func (.func 35) #[] #[pV h.size,pV h6.size,pV h16.size]] ?_
  refine SeqK.eff (k' := 2) (Does.store (b := h16.size) (off := 0) (vs := [.func (.func 35) #[] #[.pointer (some ⟨h.size,0,none⟩),.pointer (some ⟨h6.size,0,none⟩),.pointer (some ⟨h16.size,0,none⟩)]]) (l := [.nilFunc]) (by kernel_rfl) m20 (of_decide_eq_true (by kernel_rfl)) (List.all_eq_true.1 (by kernel_rfl))) rfl ?_
  rintro _ h23 ⟨rfl,hh⟩
  have g24 : Grew (some (h16.size)) h18 h23 := hput_gr hh
  replace m20 : h23[h16.size]? = some (.cells ([.func (.func 35) #[] #[.pointer (some ⟨h.size,0,none⟩),.pointer (some ⟨h6.size,0,none⟩),.pointer (some ⟨h16.size,0,none⟩)]]).toArray 52) := hput_at (off := 0) (vs := [.func (.func 35) #[] #[.pointer (some ⟨h.size,0,none⟩),.pointer (some ⟨h6.size,0,none⟩),.pointer (some ⟨h16.size,0,none⟩)]]) (l := ([.nilFunc])) hh (by kernel_rfl) m20
  clear hh
  replace e0 := e0.grew g24 (sep.low 0 rfl)
  replace kt := kt.grew g24 (sep.zero 0 rfl h0s)
  replace m3 := Grew.blk g24 m3 ((sep.bp 3 0))
  replace m8 := Grew.blk g24 m8 ((sep.bp 2 0))
  replace m13 := Grew.blk g24 m13 ((sep.bp 1 0))
  replace sep := sep.up g24.size
  refine sD [(1,nV mi),(2,nV ni),(9,pV h1.size),(12,pV h16.size)] ?_
  clear hF a; intro a hF
  refine tK ?_
  refine cS ?_
  refine cP 6 hF ?_
  refine sC 1 (.func (.func 35) #[] #[.pointer (some ⟨h.size,0,none⟩),.pointer (some ⟨h6.size,0,none⟩),.pointer (some ⟨h16.size,0,none⟩)]) (Calm.load (T := 52) (p := ⟨h16.size,0,none⟩) (by kernel_rfl) (Loads.one (k := 1) (by kernel_rfl) ((hcell_blk m20).trans rfl))) ?_
  refine sP 3 [nV mi,nV ni] ?_
  have sepq : Sep h.size h23.size [some (h.size),some (h6.size),some (h16.size)] := sep.pick3' 3 1 0 rfl rfl rfl (by decide) (by decide) (by decide)
  refine SeqK.eff (k' := 4) (Does.call (f := 35) (args := #[.int .i64 ((mi : Nat) : Int),.int .i64 ((ni : Nat) : Int),.pointer (some ⟨h.size,0,none⟩),.pointer (some ⟨h6.size,0,none⟩),.pointer (some ⟨h16.size,0,none⟩)]) (by kernel_rfl) (upc_all h (h.size) (h6.size) (h16.size) x va vc hx h0s r.length _ mi ni r (Nat.le_refl _) hrl m3 m13 m20 hr hz0 sepq e0 kt hmn (by omega))) rfl ?_
  rintro _ h25 ⟨rfl,hl3,r3,hm3,hu3,g3,e3,kt3⟩
  replace m8 := Grew.blk g3 m8 (sep.bp 2 1)
  have sepo := sep; clear sep sepq e0 kt m3 m13 m20; have sep := sepo.up g3.size; have e0 := e3; have kt := kt3; clear e3 kt3 hl3 hm3 hu3 g3 sepo
  refine sP 7 [.tuple #[.agg (((upV x mi ni r).1).map bv).toArray,.bool ((upV x mi ni r).2)],.agg (((upV x mi ni r).1).map bv).toArray,.bool ((upV x mi ni r).2)] ?_
  refine SeqK.eff (k' := 8) (Does.new (v := .pointer (some ⟨h25.size,0,none⟩)) (o := .cells (z32.map bv).toArray 31) (by kernel_rfl)) rfl ?_
  rintro _ h26 ⟨rfl,hh⟩
  have g27 : Ext h25 h26 := push_ext hh
  have m28 : h26[h25.size]? = some (.cells (z32.map bv).toArray 31) := push_at hh
  clear hh
  have lt29 := blk_lt m28
  have zs30 := e0.size
  have hlo := e0.size
  have sepo := sep
  replace e0 := e0.ext g27
  replace kt := kt.ext g27
  replace m8 := Ext.blk g27 m8
  replace sep := sep.up g27.size
  replace sep := sepo.new hlo (blk_lt m28)
  clear sepo hlo
  refine SeqK.eff (k' := 9) (Does.store (b := h25.size) (off := 0) (vs := ((upV x mi ni r).1).map bv) (l := z32.map bv) (storeOp_of (by kernel_rfl) (hlm (up_len hx))) m28 (hfit rfl (up_len hx)) (ones_map _)) rfl ?_
  rintro _ h31 ⟨rfl,hh⟩
  have g32 : Grew (some (h25.size)) h26 h31 := hput_gr hh
  replace m28 : h31[h25.size]? = some (.cells (((upV x mi ni r).1).map bv).toArray 31) := hput_at (off := 0) (vs := ((upV x mi ni r).1).map bv) (l := (z32.map bv)) hh (hsplice rfl (up_len hx)) m28
  clear hh
  replace e0 := e0.grew g32 (sep.low 0 rfl)
  replace kt := kt.grew g32 (sep.zero 0 rfl h0s)
  replace m8 := Grew.blk g32 m8 ((sep.bp 3 0))
  replace sep := sep.up g32.size
  refine sP 10 [.bool ((upV x mi ni r).2)] ?_
  refine sD [(9,pV h1.size),(13,pV h25.size),(14,.bool ((upV x mi ni r).2))] ?_
  clear hF a; intro a hF
  refine tK ?_
  refine cS ?_
  cases hok : (upV x mi ni r).2
  all_goals rw [hok] at hF
  ·skip
   refine cP 7 hF ?_
   refine sP 7 [.bool false,.bool false,undef,undef,undef,.bool false,.bool false] ?_
   refine sD [(10,.bool false)] ?_
   clear hF a; intro a hF
   refine tK ?_
   refine cR ?_
   show retK Tryd.prog Tryd.f23 (fun v h' => v = .bool (inclB x (mi : Int) (ni : Int) r t) ∧ Ext h h') .ret a h31
   refine ret_ok [.tmp 10] [.bool false] (.bool false) rfl hF ⟨rfl,trivial⟩ rfl ?_
   exact ⟨by rw [inclB_yes (by omega),hok] <;> rfl,e0⟩
  ·skip
   refine cP 7 hF ?_
   refine sP 2 [.bool true,.bool true] ?_
   refine sC 3 (.agg (((upV x mi ni r).1).map bv).toArray) (Calm.load (T := 31) (p := ⟨h25.size,0,none⟩) (by kernel_rfl) (Loads.hash (by kernel_rfl) (up_len hx) m28)) ?_
   refine sC 4 (.agg (t.map bv).toArray) (Calm.load (T := 31) (p := ⟨h1.size,0,none⟩) (by kernel_rfl) (Loads.hash (by kernel_rfl) ht m8)) ?_
   refine sC 5 (.bool (decide ((upV x mi ni r).1 = t))) ((eqH1 (l := (upV x mi ni r).1) (r := t) (n := 32) (by kernel_rfl) (up_len hx) ht) _) ?_
   refine sP 7 [.bool (decide ((upV x mi ni r).1 = t)),.bool (decide ((upV x mi ni r).1 = t))] ?_
   refine sD [(10,.bool (decide ((upV x mi ni r).1 = t)))] ?_
   clear hF a; intro a hF
   refine tK ?_
   refine cR ?_
   show retK Tryd.prog Tryd.f23 (fun v h' => v = .bool (inclB x (mi : Int) (ni : Int) r t) ∧ Ext h h') .ret a h31
   refine ret_ok [.tmp 10] [.bool (decide ((upV x mi ni r).1 = t))] (.bool (decide ((upV x mi ni r).1 = t))) rfl hF ⟨rfl,trivial⟩ rfl ?_
   exact ⟨by rw [inclB_yes (by omega),hok] <;> rfl,e0⟩
end Go.Proofs.YtkjlafiefgbjpaaDoor
