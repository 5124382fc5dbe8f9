/- Walks of the laws of proofs held: what each function computes, as a law of its calls. No condition but those that each theorem names. -/
import Derived.Test.YteinikjbaaembaaDoorLaw06D
import Derived.Test.YteinikjbaaembaaDoorTreeF
import Derived.Test.YteinikjbaaembaaDoorVerForge
namespace Go.Proofs.YteinikjbaaembaaDoor
open Go Go.Lane Go.Sha
noncomputable def b38 : Code := Tryd.f38.body.getD .skip
theorem lbelow_sat (h : Heap) (n : Nat) (hn : 2 ≤ n) (hn2 : n ≤ 9223372036854775807) : Sat Tryd.prog 38 #[.int .i64 ((n : Nat) : Int)] h fun v h' => v = .int .i64 ((half n : Nat) : Int) ∧ h' = h := by
 refine sat_of (args := [.int .i64 ((n : Nat) : Int)]) (fn := Tryd.f38) (B := b38) (n := 12) (L := [(0,.int .i64 ((n : Nat) : Int))]) Tryd.func38 rfl (by kernel_rfl) rfl ?_
 intro a hF
 refine cS ?_
 refine cP 0 hF ?_
 refine sP 1 [.int .i64 0] ?_
 refine sD [(0,nV n)] ?_
 clear hF a; intro a hF
 refine tK ?_
 refine cS ?_
 refine cP 1 hF ?_
 refine sP 1 [.int .i64 1] ?_
 refine sD [(0,nV n),(3,.int .i64 1)] ?_
 clear hF a; intro a hF
 refine tK ?_
 refine cS ?_
 refine cB 0 ?_
 refine C.loop (fun m a h' => ∃ j : Nat,m = n - 2 ^ j ∧ (2 ^ j < n) ∧ (h = h') ∧ (Fr a 12 [(0,.int .i64 ((n : Nat) : Int)),(3,.int .i64 ((2 ^ j : Nat) : Int))])) (n - 1) [1,1,0,0,0] (by kernel_rfl) ⟨0,rfl,(by omega),rfl,hF⟩ ?_
 clear hF a
 rintro m a h1 ⟨j,rfl,hj,hh,hF⟩
 have hp := Nat.two_pow_pos j
 refine cS ?_
 refine cS ?_
 refine cP 2 hF ?_
 refine sP 3 [nV (2 ^ j),nV n,nV (2 ^ j)] ?_
 refine s1 4 (.int .i64 ((n - (2 ^ j) : Nat) : Int)) (.int .i64 (IntKind.i64.wrap (((n : Nat) : Int) - ((2 ^ j : Nat) : Int)))) (congrArg (Value.int .i64) (w64' (by omega) (by omega) (by omega))) ?_
 refine sP 5 [.bool (decide (((2 ^ j : Nat) : Int) < ((n - (2 ^ j) : Nat) : Int)))] ?_
 refine sD [(0,nV n),(3,nV (2 ^ j)),(8,.bool (decide (((2 ^ j : Nat) : Int) < ((n - (2 ^ j) : Nat) : Int))))] ?_
 clear hF a; intro a hF
 refine tK ?_
 refine cC 8 (decide (((2 ^ j : Nat) : Int) < ((n - (2 ^ j) : Nat) : Int))) hF (fun hc2 => ?_) (fun hc2 => ?_)
 ·skip
  replace hc2 := of_decide_eq_true hc2
  refine cN ?_
  refine tK ?_
  refine cB 1 ?_
  refine cP 3 hF ?_
  refine sP 1 [nV (2 ^ j)] ?_
  refine s1 2 (.int .i64 ((2 * (2 ^ j) : Nat) : Int)) (.int .i64 (IntKind.i64.wrap (2 * ((2 ^ j : Nat) : Int)))) (congrArg (Value.int .i64) (w64' (by omega) (by omega) (by omega))) ?_
  refine sP 3 [nV (2 * (2 ^ j))] ?_
  refine sD [(0,nV n),(3,nV (2 * (2 ^ j)))] ?_
  clear hF a; intro a hF
  have hk2 : 2 * 2 ^ j = 2 ^ (j + 1) := by rw [Nat.pow_succ,Nat.mul_comm]
  rw [hk2] at hF
  show ∃ m',m' < _ ∧ _
  refine ⟨_,?_,(j + 1),rfl,(by rw [Nat.pow_succ]; omega),hh,hF⟩
  omega
 ·skip
  replace hc2 := of_decide_eq_false hc2
  refine cX 0 ?_
  show C Tryd.prog (sub b38 [1,1,1]) _ a h1
  refine cS ?_
  refine cP 4 hF ?_
  refine sP 2 [nV (2 ^ j),nV (2 ^ j)] ?_
  refine sD [(2,nV (2 ^ j))] ?_
  clear hF a; intro a hF
  refine tK ?_
  refine cR ?_
  show retK Tryd.prog Tryd.f38 (fun v h' => v = .int .i64 ((half n : Nat) : Int) ∧ h' = h) .ret a h1
  refine ret_ok [.tmp 2] [.int .i64 ((2 ^ j : Nat) : Int)] (.int .i64 ((2 ^ j : Nat) : Int)) rfl hF ⟨rfl,trivial⟩ rfl ?_
  exact ⟨congrArg (fun z : Nat => Value.int .i64 (z : Int)) (half_eq hj (by omega)).symm,hh.symm⟩
noncomputable def b40 : Code := Tryd.f40.body.getD .skip
theorem fresh_step (x : Hs) (hx : x.length = 32) (va : Option Addr) (vc rl : Nat) (ih : ∀ (h : Heap) (m n : Nat) (r : List Hs) (whole : Bool) (k : Nat),r.length = k → k < rl → HR h va vc k r → 0 < m → m ≤ n → n ≤ 9223372036854775807 → Sat Tryd.prog 40 #[.int .i64 ((m : Nat) : Int),.int .i64 ((n : Nat) : Int),.agg (x.map bv).toArray,.slice va k vc,.bool whole] h (fun v h' => v = .agg ((twV x m n r whole).2.1.map bv).toArray ∧ Ext h h')) (h : Heap) (m n : Nat) (r : List Hs) (whole : Bool) (hrl : r.length = rl) (hr : HR h va vc r.length r) (hm0 : 0 < m) (hmn : m ≤ n) (hn : n ≤ 9223372036854775807) (hl : r.length ≤ 1099511627776) : Sat Tryd.prog 40 #[.int .i64 ((m : Nat) : Int),.int .i64 ((n : Nat) : Int),.agg (x.map bv).toArray,.slice va r.length vc,.bool whole] h fun v h' => v = .agg ((twV x m n r whole).2.1.map bv).toArray ∧ Ext h h' := by
 have e0 := Ext.refl h
 have sep : Sep h.size h.size [] := Sep.nil _ _
 refine sat_of (args := [.int .i64 ((m : Nat) : Int),.int .i64 ((n : Nat) : Int),.agg (x.map bv).toArray,.slice va r.length vc,.bool whole]) (fn := Tryd.f40) (B := b40) (n := 67) (L := [(0,.int .i64 ((m : Nat) : Int)),(1,.int .i64 ((n : Nat) : Int)),(2,.agg (x.map bv).toArray),(3,.slice va r.length vc),(4,.bool whole)]) Tryd.func40 rfl (by kernel_rfl) rfl ?_
 intro a hF
 refine cS ?_
 refine cP 0 hF ?_
 refine SeqK.eff (k' := 1) (Does.new (v := .pointer (some ⟨h.size,0,none⟩)) (o := .cells (x.map bv).toArray 23) (by kernel_rfl)) rfl ?_
 rintro _ h1 ⟨rfl,hh⟩
 have g2 : Ext h h1 := push_ext hh
 have m3 : h1[h.size]? = some (.cells (x.map bv).toArray 23) := push_at hh
 clear hh
 have lt4 := blk_lt m3
 have zs5 := e0.size
 have hlo := e0.size
 have sepo := sep
 replace e0 := e0.ext g2
 replace sep := sep.up g2.size
 replace sep := sepo.new hlo (blk_lt m3)
 clear sepo hlo
 refine SeqK.eff (k' := 2) (Does.new (v := .pointer (some ⟨h1.size,0,none⟩)) (o := .cells (z32.map bv).toArray 23) (by kernel_rfl)) rfl ?_
 rintro _ h6 ⟨rfl,hh⟩
 have g7 : Ext h1 h6 := push_ext hh
 have m8 : h6[h1.size]? = some (.cells (z32.map bv).toArray 23) := push_at hh
 clear hh
 have lt9 := blk_lt m8
 have zs10 := e0.size
 have hlo := e0.size
 have sepo := sep
 replace e0 := e0.ext g7
 replace m3 := Ext.blk g7 m3
 replace sep := sep.up g7.size
 replace sep := sepo.new hlo (blk_lt m8)
 clear sepo hlo
 refine sD [(0,nV m),(1,nV n),(3,.slice va r.length vc),(4,.bool whole),(7,pV h.size),(10,pV h1.size)] ?_
 clear hF a; intro a hF
 refine tK ?_
 refine cS ?_
 refine cS ?_
 rcases fresh_cases (k := r.length) hmn whole with ⟨he,rfl⟩ | ⟨he,rfl,hr0⟩ | ⟨he,rfl,hr0⟩ | ⟨he,hr0⟩ | ⟨he,hr0⟩
 ·skip
  refine cP 1 hF ?_
  refine sP 2 [nV m,nV n] ?_
  refine s1 3 (.bool true) (.bool (((m : Nat) : Int) == ((n : Nat) : Int))) (congrArg Value.bool (beq_iff_eq.2 (by omega))) ?_
  refine sP 11 [.bool true,.bool true,.bool true,.bool true,undef,undef,undef,.bool true] ?_
  refine sD [(0,nV m),(1,nV n),(3,.slice va r.length vc),(4,.bool true),(7,pV h.size),(10,pV h1.size),(23,.bool true)] ?_
  clear hF a; intro a hF
  refine tK ?_
  refine cT 23 hF ?_
  refine cS ?_
  refine cP 2 hF ?_
  refine sC 1 (.agg (x.map bv).toArray) (Calm.load (T := 23) (p := ⟨h.size,0,none⟩) (by kernel_rfl) (Loads.hash (by kernel_rfl) hx m3)) ?_
  refine SeqK.eff (k' := 2) (Does.store (b := h1.size) (off := 0) (vs := x.map bv) (l := z32.map bv) (storeOp_of (by kernel_rfl) (hlm hx)) m8 (hfit rfl hx) (ones_map _)) rfl ?_
  rintro _ h11 ⟨rfl,hh⟩
  have g12 : Grew (some (h1.size)) h6 h11 := hput_gr hh
  replace m8 : h11[h1.size]? = some (.cells (x.map bv).toArray 23) := hput_at (off := 0) (vs := x.map bv) (l := (z32.map bv)) hh (hsplice rfl hx) m8
  clear hh
  replace e0 := e0.grew g12 (sep.low 0 rfl)
  replace m3 := Grew.blk g12 m3 ((sep.bp 1 0))
  replace sep := sep.up g12.size
  refine sD [(10,pV h1.size)] ?_
  clear hF a; intro a hF
  refine tK ?_
  refine cR ?_
  show retK Tryd.prog Tryd.f40 (fun v h' => v = .agg ((twV x m n r true).2.1.map bv).toArray ∧ Ext h h') .ret a h11
  refine ret_ok [.cell 10 23] [.agg (x.map bv).toArray] (.agg (x.map bv).toArray) rfl hF ⟨⟨_,rfl,Loads.hash (by kernel_rfl) hx m8⟩,trivial⟩ rfl ?_
  exact ⟨by rw [tw_all ⟨he,rfl⟩] <;> rfl,e0⟩
 ·skip
  refine cP 1 hF ?_
  refine sP 2 [nV m,nV n] ?_
  refine s1 3 (.bool true) (.bool (((m : Nat) : Int) == ((n : Nat) : Int))) (congrArg Value.bool (beq_iff_eq.2 (by omega))) ?_
  refine sP 9 [.bool true,.bool false,.bool false,.bool false,.slice va r.length vc,nV r.length] ?_
  refine s1 10 (.bool true) (.bool (((r.length : Nat) : Int) == (0 : Int))) (congrArg Value.bool (beq_iff_eq.2 (by omega))) ?_
  refine sP 11 [.bool true] ?_
  refine sD [(0,nV m),(1,nV n),(3,.slice va r.length vc),(4,.bool false),(7,pV h.size),(10,pV h1.size),(23,.bool true)] ?_
  clear hF a; intro a hF
  refine tK ?_
  refine cT 23 hF ?_
  refine cS ?_
  refine cP 2 hF ?_
  refine sC 1 (.agg (x.map bv).toArray) (Calm.load (T := 23) (p := ⟨h.size,0,none⟩) (by kernel_rfl) (Loads.hash (by kernel_rfl) hx m3)) ?_
  refine SeqK.eff (k' := 2) (Does.store (b := h1.size) (off := 0) (vs := x.map bv) (l := z32.map bv) (storeOp_of (by kernel_rfl) (hlm hx)) m8 (hfit rfl hx) (ones_map _)) rfl ?_
  rintro _ h13 ⟨rfl,hh⟩
  have g14 : Grew (some (h1.size)) h6 h13 := hput_gr hh
  replace m8 : h13[h1.size]? = some (.cells (x.map bv).toArray 23) := hput_at (off := 0) (vs := x.map bv) (l := (z32.map bv)) hh (hsplice rfl hx) m8
  clear hh
  replace e0 := e0.grew g14 (sep.low 0 rfl)
  replace m3 := Grew.blk g14 m3 ((sep.bp 1 0))
  replace sep := sep.up g14.size
  refine sD [(10,pV h1.size)] ?_
  clear hF a; intro a hF
  refine tK ?_
  refine cR ?_
  show retK Tryd.prog Tryd.f40 (fun v h' => v = .agg ((twV x m n r false).2.1.map bv).toArray ∧ Ext h h') .ret a h13
  refine ret_ok [.cell 10 23] [.agg (x.map bv).toArray] (.agg (x.map bv).toArray) rfl hF ⟨⟨_,rfl,Loads.hash (by kernel_rfl) hx m8⟩,trivial⟩ rfl ?_
  exact ⟨by rw [tw_none (by simp) hr0] <;> rfl,e0⟩
 ·skip
  obtain ⟨aa,rfl,hcap_aa⟩ := hr.someA (by omega)
  refine cP 1 hF ?_
  refine sP 2 [nV m,nV n] ?_
  refine s1 3 (.bool true) (.bool (((m : Nat) : Int) == ((n : Nat) : Int))) (congrArg Value.bool (beq_iff_eq.2 (by omega))) ?_
  refine sP 9 [.bool true,.bool false,.bool false,.bool false,.slice (some aa) r.length vc,nV r.length] ?_
  refine s1 10 (.bool false) (.bool (((r.length : Nat) : Int) == (0 : Int))) (congrArg Value.bool (beq_eq_false_iff_ne.2 (by omega))) ?_
  refine sP 11 [.bool false] ?_
  refine sD [(0,nV m),(1,nV n),(3,.slice (some aa) r.length vc),(4,.bool false),(7,pV h.size),(10,pV h1.size),(23,.bool false)] ?_
  clear hF a; intro a hF
  refine tK ?_
  refine cF 23 hF ?_
  refine cN ?_
  refine tK ?_
  refine cS ?_
  refine cP 3 hF ?_
  refine sP 3 [.slice (some aa) r.length vc,.slice (some aa) r.length vc,nV r.length] ?_
  refine s1 4 (.int .i64 ((r.length - 1 : Nat) : Int)) (.int .i64 (IntKind.i64.wrap (((r.length : Nat) : Int) - 1))) (congrArg (Value.int .i64) (w64' (by omega) (by omega) (by omega))) ?_
  refine sC 5 (.pointer (some (Addr.add aa ((r.length - 1) * 32)))) ((Calm.indexA (a := aa) (len := r.length) (sz := 32) (k := ((r.length - 1 : Nat) : Int)) (r.length - 1) ((r.length - 1) * 32) (by kernel_rfl) rfl (by omega) (by omega)) _) ?_
  refine sC 6 (.agg ((r.getD (r.length - 1) []).map bv).toArray) (Calm.load (T := 23) (p := (Addr.add aa ((r.length - 1) * 32))) (by kernel_rfl) (HR.loads (k := (r.length - 1)) (q := (r.length - 1) * 32) (hr.ext e0) (by kernel_rfl) (by omega) (by omega))) ?_
  refine SeqK.eff (k' := 7) (Does.new (v := .pointer (some ⟨h6.size,0,none⟩)) (o := .cells (z32.map bv).toArray 23) (by kernel_rfl)) rfl ?_
  rintro _ h15 ⟨rfl,hh⟩
  have g16 : Ext h6 h15 := push_ext hh
  have m17 : h15[h6.size]? = some (.cells (z32.map bv).toArray 23) := push_at hh
  clear hh
  have lt18 := blk_lt m17
  have zs19 := e0.size
  have hlo := e0.size
  have sepo := sep
  replace e0 := e0.ext g16
  replace m3 := Ext.blk g16 m3
  replace m8 := Ext.blk g16 m8
  replace sep := sep.up g16.size
  replace sep := sepo.new hlo (blk_lt m17)
  clear sepo hlo
  refine SeqK.eff (k' := 8) (Does.store (b := h6.size) (off := 0) (vs := (r.getD (r.length - 1) []).map bv) (l := z32.map bv) (storeOp_of (by kernel_rfl) (hlm (hr.2.1.get (k := (r.length - 1)) (by rw [hr.2.2]; omega)))) m17 (hfit rfl (hr.2.1.get (k := (r.length - 1)) (by rw [hr.2.2]; omega))) (ones_map _)) rfl ?_
  rintro _ h20 ⟨rfl,hh⟩
  have g21 : Grew (some (h6.size)) h15 h20 := hput_gr hh
  replace m17 : h20[h6.size]? = some (.cells ((r.getD (r.length - 1) []).map bv).toArray 23) := hput_at (off := 0) (vs := (r.getD (r.length - 1) []).map bv) (l := (z32.map bv)) hh (hsplice rfl (hr.2.1.get (k := (r.length - 1)) (by rw [hr.2.2]; omega))) m17
  clear hh
  replace e0 := e0.grew g21 (sep.low 0 rfl)
  replace m3 := Grew.blk g21 m3 ((sep.bp 2 0))
  replace m8 := Grew.blk g21 m8 ((sep.bp 1 0))
  replace sep := sep.up g21.size
  refine sD [(0,nV m),(1,nV n),(3,.slice (some aa) r.length vc),(4,.bool false),(7,pV h.size),(10,pV h1.size),(11,pV h6.size)] ?_
  clear hF a; intro a hF
  refine tK ?_
  refine cS ?_
  refine cS ?_
  refine cP 4 hF ?_
  refine sP 2 [nV m,nV n] ?_
  refine s1 3 (.bool true) (.bool (decide (((n : Nat) : Int) ≤ ((m : Nat) : Int)))) (congrArg Value.bool (decide_eq_true (by omega))) ?_
  refine sD [(0,nV m),(1,nV n),(3,.slice (some aa) r.length vc),(4,.bool false),(7,pV h.size),(10,pV h1.size),(11,pV h6.size),(33,.bool true)] ?_
  clear hF a; intro a hF
  refine tK ?_
  refine cT 33 hF ?_
  refine cS ?_
  refine cP 5 hF ?_
  refine sC 1 (.agg ((r.getD (r.length - 1) []).map bv).toArray) (Calm.load (T := 23) (p := ⟨h6.size,0,none⟩) (by kernel_rfl) (Loads.hash (by kernel_rfl) (hr.2.1.get (k := (r.length - 1)) (by rw [hr.2.2]; omega)) m17)) ?_
  refine SeqK.eff (k' := 2) (Does.store (b := h1.size) (off := 0) (vs := (r.getD (r.length - 1) []).map bv) (l := z32.map bv) (storeOp_of (by kernel_rfl) (hlm (hr.2.1.get (k := (r.length - 1)) (by rw [hr.2.2]; omega)))) m8 (hfit rfl (hr.2.1.get (k := (r.length - 1)) (by rw [hr.2.2]; omega))) (ones_map _)) rfl ?_
  rintro _ h22 ⟨rfl,hh⟩
  have g23 : Grew (some (h1.size)) h20 h22 := hput_gr hh
  replace m8 : h22[h1.size]? = some (.cells ((r.getD (r.length - 1) []).map bv).toArray 23) := hput_at (off := 0) (vs := (r.getD (r.length - 1) []).map bv) (l := (z32.map bv)) hh (hsplice rfl (hr.2.1.get (k := (r.length - 1)) (by rw [hr.2.2]; omega))) m8
  clear hh
  replace e0 := e0.grew g23 (sep.low 1 rfl)
  replace m3 := Grew.blk g23 m3 ((sep.bp 2 1))
  replace m17 := Grew.blk g23 m17 ((sep.bp 0 1))
  replace sep := sep.up g23.size
  refine sD [(10,pV h1.size)] ?_
  clear hF a; intro a hF
  refine tK ?_
  refine cR ?_
  show retK Tryd.prog Tryd.f40 (fun v h' => v = .agg ((twV x m n r false).2.1.map bv).toArray ∧ Ext h h') .ret a h22
  refine ret_ok [.cell 10 23] [.agg ((r.getD (r.length - 1) []).map bv).toArray] (.agg ((r.getD (r.length - 1) []).map bv).toArray) rfl hF ⟨⟨_,rfl,Loads.hash (by kernel_rfl) (hr.2.1.get (k := (r.length - 1)) (by rw [hr.2.2]; omega)) m8⟩,trivial⟩ rfl ?_
  exact ⟨by rw [tw_end (by simp) hr0 he] <;> rfl,e0⟩
 ·skip
  refine cP 1 hF ?_
  refine sP 2 [nV m,nV n] ?_
  refine s1 3 (.bool false) (.bool (((m : Nat) : Int) == ((n : Nat) : Int))) (congrArg Value.bool (beq_eq_false_iff_ne.2 (by omega))) ?_
  refine sP 9 [.bool false,undef,.bool false,.bool false,.slice va r.length vc,nV r.length] ?_
  refine s1 10 (.bool true) (.bool (((r.length : Nat) : Int) == (0 : Int))) (congrArg Value.bool (beq_iff_eq.2 (by omega))) ?_
  refine sP 11 [.bool true] ?_
  refine sD [(0,nV m),(1,nV n),(3,.slice va r.length vc),(4,.bool whole),(7,pV h.size),(10,pV h1.size),(23,.bool true)] ?_
  clear hF a; intro a hF
  refine tK ?_
  refine cT 23 hF ?_
  refine cS ?_
  refine cP 2 hF ?_
  refine sC 1 (.agg (x.map bv).toArray) (Calm.load (T := 23) (p := ⟨h.size,0,none⟩) (by kernel_rfl) (Loads.hash (by kernel_rfl) hx m3)) ?_
  refine SeqK.eff (k' := 2) (Does.store (b := h1.size) (off := 0) (vs := x.map bv) (l := z32.map bv) (storeOp_of (by kernel_rfl) (hlm hx)) m8 (hfit rfl hx) (ones_map _)) rfl ?_
  rintro _ h24 ⟨rfl,hh⟩
  have g25 : Grew (some (h1.size)) h6 h24 := hput_gr hh
  replace m8 : h24[h1.size]? = some (.cells (x.map bv).toArray 23) := hput_at (off := 0) (vs := x.map bv) (l := (z32.map bv)) hh (hsplice rfl hx) m8
  clear hh
  replace e0 := e0.grew g25 (sep.low 0 rfl)
  replace m3 := Grew.blk g25 m3 ((sep.bp 1 0))
  replace sep := sep.up g25.size
  refine sD [(10,pV h1.size)] ?_
  clear hF a; intro a hF
  refine tK ?_
  refine cR ?_
  show retK Tryd.prog Tryd.f40 (fun v h' => v = .agg ((twV x m n r whole).2.1.map bv).toArray ∧ Ext h h') .ret a h24
  refine ret_ok [.cell 10 23] [.agg (x.map bv).toArray] (.agg (x.map bv).toArray) rfl hF ⟨⟨_,rfl,Loads.hash (by kernel_rfl) hx m8⟩,trivial⟩ rfl ?_
  exact ⟨by rw [tw_none (by omega) hr0] <;> rfl,e0⟩
 ·skip
  obtain ⟨aa,rfl,hcap_aa⟩ := hr.someA (by omega)
  have hhl := half_lt (n := n) (by omega); have hhp := half_pos n
  refine cP 1 hF ?_
  refine sP 2 [nV m,nV n] ?_
  refine s1 3 (.bool false) (.bool (((m : Nat) : Int) == ((n : Nat) : Int))) (congrArg Value.bool (beq_eq_false_iff_ne.2 (by omega))) ?_
  refine sP 9 [.bool false,undef,.bool false,.bool false,.slice (some aa) r.length vc,nV r.length] ?_
  refine s1 10 (.bool false) (.bool (((r.length : Nat) : Int) == (0 : Int))) (congrArg Value.bool (beq_eq_false_iff_ne.2 (by omega))) ?_
  refine sP 11 [.bool false] ?_
  refine sD [(0,nV m),(1,nV n),(3,.slice (some aa) r.length vc),(4,.bool whole),(7,pV h.size),(10,pV h1.size),(23,.bool false)] ?_
  clear hF a; intro a hF
  refine tK ?_
  refine cF 23 hF ?_
  refine cN ?_
  refine tK ?_
  refine cS ?_
  refine cP 3 hF ?_
  refine sP 3 [.slice (some aa) r.length vc,.slice (some aa) r.length vc,nV r.length] ?_
  refine s1 4 (.int .i64 ((r.length - 1 : Nat) : Int)) (.int .i64 (IntKind.i64.wrap (((r.length : Nat) : Int) - 1))) (congrArg (Value.int .i64) (w64' (by omega) (by omega) (by omega))) ?_
  refine sC 5 (.pointer (some (Addr.add aa ((r.length - 1) * 32)))) ((Calm.indexA (a := aa) (len := r.length) (sz := 32) (k := ((r.length - 1 : Nat) : Int)) (r.length - 1) ((r.length - 1) * 32) (by kernel_rfl) rfl (by omega) (by omega)) _) ?_
  refine sC 6 (.agg ((r.getD (r.length - 1) []).map bv).toArray) (Calm.load (T := 23) (p := (Addr.add aa ((r.length - 1) * 32))) (by kernel_rfl) (HR.loads (k := (r.length - 1)) (q := (r.length - 1) * 32) (hr.ext e0) (by kernel_rfl) (by omega) (by omega))) ?_
  refine SeqK.eff (k' := 7) (Does.new (v := .pointer (some ⟨h6.size,0,none⟩)) (o := .cells (z32.map bv).toArray 23) (by kernel_rfl)) rfl ?_
  rintro _ h26 ⟨rfl,hh⟩
  have g27 : Ext h6 h26 := push_ext hh
  have m28 : h26[h6.size]? = some (.cells (z32.map bv).toArray 23) := push_at hh
  clear hh
  have lt29 := blk_lt m28
  have zs30 := e0.size
  have hlo := e0.size
  have sepo := sep
  replace e0 := e0.ext g27
  replace m3 := Ext.blk g27 m3
  replace m8 := Ext.blk g27 m8
  replace sep := sep.up g27.size
  replace sep := sepo.new hlo (blk_lt m28)
  clear sepo hlo
  refine SeqK.eff (k' := 8) (Does.store (b := h6.size) (off := 0) (vs := (r.getD (r.length - 1) []).map bv) (l := z32.map bv) (storeOp_of (by kernel_rfl) (hlm (hr.2.1.get (k := (r.length - 1)) (by rw [hr.2.2]; omega)))) m28 (hfit rfl (hr.2.1.get (k := (r.length - 1)) (by rw [hr.2.2]; omega))) (ones_map _)) rfl ?_
  rintro _ h31 ⟨rfl,hh⟩
  have g32 : Grew (some (h6.size)) h26 h31 := hput_gr hh
  replace m28 : h31[h6.size]? = some (.cells ((r.getD (r.length - 1) []).map bv).toArray 23) := hput_at (off := 0) (vs := (r.getD (r.length - 1) []).map bv) (l := (z32.map bv)) hh (hsplice rfl (hr.2.1.get (k := (r.length - 1)) (by rw [hr.2.2]; omega))) m28
  clear hh
  replace e0 := e0.grew g32 (sep.low 0 rfl)
  replace m3 := Grew.blk g32 m3 ((sep.bp 2 0))
  replace m8 := Grew.blk g32 m8 ((sep.bp 1 0))
  replace sep := sep.up g32.size
  refine sD [(0,nV m),(1,nV n),(3,.slice (some aa) r.length vc),(4,.bool whole),(7,pV h.size),(10,pV h1.size),(11,pV h6.size)] ?_
  clear hF a; intro a hF
  refine tK ?_
  refine cS ?_
  refine cS ?_
  refine cP 4 hF ?_
  refine sP 2 [nV m,nV n] ?_
  refine s1 3 (.bool false) (.bool (decide (((n : Nat) : Int) ≤ ((m : Nat) : Int)))) (congrArg Value.bool (decide_eq_false (by omega))) ?_
  refine sD [(0,nV m),(1,nV n),(3,.slice (some aa) r.length vc),(4,.bool whole),(7,pV h.size),(10,pV h1.size),(11,pV h6.size),(33,.bool false)] ?_
  clear hF a; intro a hF
  refine tK ?_
  refine cF 33 hF ?_
  refine cN ?_
  refine tK ?_
  refine cS ?_
  refine cP 6 hF ?_
  refine sP 1 [nV n] ?_
  refine sC 2 (.int .i64 ((half n : Nat) : Int)) (Does.call (f := 38) (args := #[.int .i64 ((n : Nat) : Int)]) (by kernel_rfl) (lbelow_sat _ n (by omega) (by omega))) ?_
  refine sP 3 [nV (half n)] ?_
  refine sD [(0,nV m),(1,nV n),(3,.slice (some aa) r.length vc),(4,.bool whole),(7,pV h.size),(10,pV h1.size),(11,pV h6.size),(12,nV (half n))] ?_
  clear hF a; intro a hF
  refine tK ?_
  refine cS ?_
  refine cS ?_
  refine cP 7 hF ?_
  refine sP 3 [nV m,nV (half n),.bool (decide (((m : Nat) : Int) ≤ ((half n : Nat) : Int)))] ?_
  refine sD [(0,nV m),(1,nV n),(3,.slice (some aa) r.length vc),(4,.bool whole),(7,pV h.size),(10,pV h1.size),(11,pV h6.size),(12,nV (half n)),(39,.bool (decide (((m : Nat) : Int) ≤ ((half n : Nat) : Int))))] ?_
  clear hF a; intro a hF
  refine tK ?_
  refine cC 39 (decide (((m : Nat) : Int) ≤ ((half n : Nat) : Int))) hF (fun hc33 => ?_) (fun hc33 => ?_)
  ·skip
   replace hc33 := of_decide_eq_true hc33
   refine cS ?_
   refine cD [0,0,0,0,0,16,48,120,0,511,0,2047,4095] 8 mixed hF ?_
   refine mP 3 [0,1] [nV m,nV (half n)] ?_
   refine mL 7 4 2 (.agg (x.map bv).toArray) (Calm.load (T := 23) (p := ⟨h.size,0,none⟩) (by kernel_rfl) (Loads.hash (by kernel_rfl) hx m3)) ?_
   refine mP 63 [3,4,5] [.slice (some aa) r.length vc,.slice (some aa) r.length vc,nV r.length] ?_
   refine m1 127 6 (.int .i64 ((r.length - 1 : Nat) : Int)) (.int .i64 (IntKind.i64.wrap (((r.length : Nat) : Int) - 1))) (congrArg (Value.int .i64) (w64' (by omega) (by omega) (by omega))) ?_
   refine mF 255 7 (.slice (some aa) (r.length - 1) vc) (fun h => Calm.sliceO (a := (some aa)) (len := r.length) (cap := vc) (sz := 32) (x := (some aa)) 0 (r.length - 1) vc (r.length - 1) vc (by kernel_rfl) (.inl ⟨rfl,rfl⟩) (.inr rfl) (.inl ⟨rfl,rfl⟩) (by omega) (by omega) (opt_add0 _ 32) (by first | rfl | omega) (by first | rfl | omega) h) ?_
   refine mP 511 [8] [.bool whole] ?_
   refine mL 1535 1028 10 (.agg ((r.getD (r.length - 1) []).map bv).toArray) (Calm.load (T := 23) (p := ⟨h6.size,0,none⟩) (by kernel_rfl) (Loads.hash (by kernel_rfl) (hr.2.1.get (k := (r.length - 1)) (by rw [hr.2.2]; omega)) m28)) ?_
   refine SimK.eff (i := 9) (D' := 2047) (X' := 1023) (by kernel_rfl) (by kernel_rfl) (by kernel_rfl) [10] (by kernel_rfl) (Does.call (f := 40) (args := #[.int .i64 ((m : Nat) : Int),.int .i64 ((half n : Nat) : Int),.agg (x.map bv).toArray,.slice (some aa) (r.length - 1) vc,.bool whole]) (by kernel_rfl) (ih _ m (half n) (initH r) whole (r.length - 1) (initH_len r) (by omega) ((hr.ext e0).take (by omega)) (by omega) (by omega) (by omega))) ?_
   rintro _ h34 ⟨rfl,g⟩
   replace e0 := e0.ext g
   replace m3 := Ext.blk g m3
   replace m8 := Ext.blk g m8
   replace m28 := Ext.blk g m28
   replace sep := sep.up g.size
   refine ⟨?_,?_⟩
   ·intro j hj
    simp only [List.mem_cons,List.not_mem_nil,or_false] at hj
    subst hj
    exact goodOf (Calm.load (T := 23) (p := ⟨h6.size,0,none⟩) (by kernel_rfl) (Loads.hash (by kernel_rfl) (hr.2.1.get (k := (r.length - 1)) (by rw [hr.2.2]; omega)) m28))
   clear g
   refine SimK.eff0 (i := 11) (D' := 4095) (X' := 4095) (by kernel_rfl) (by kernel_rfl) (by kernel_rfl) (by kernel_rfl) (Does.call (f := 37) (args := #[.agg (((twV x m (half n) (initH r) whole).2.1).map bv).toArray,.agg ((r.getD (r.length - 1) []).map bv).toArray]) (by kernel_rfl) (rnode_sat _ ((twV x m (half n) (initH r) whole).2.1) (r.getD (r.length - 1) []) (tw_len _ (Nat.le_refl _) hx (init_32 hr.2.1)).2 (hr.2.1.get (k := (r.length - 1)) (by rw [hr.2.2]; omega)))) ?_
   rintro _ h35 ⟨rfl,g⟩
   replace e0 := e0.ext g
   replace m3 := Ext.blk g m3
   replace m8 := Ext.blk g m8
   replace m28 := Ext.blk g m28
   replace sep := sep.up g.size
   clear g
   refine SimK.eff0 (i := 12) (D' := 8191) (X' := 8191) (by kernel_rfl) (by kernel_rfl) (by kernel_rfl) (by kernel_rfl) (Does.store (b := h1.size) (off := 0) (vs := (nodeH ((twV x m (half n) (initH r) whole).2.1) (r.getD (r.length - 1) [])).map bv) (l := z32.map bv) (storeOp_of (by kernel_rfl) (hlm (node_len _ _))) m8 (hfit rfl (node_len _ _)) (ones_map _)) ?_
   rintro _ h36 ⟨rfl,hh⟩
   have g37 : Grew (some (h1.size)) h35 h36 := hput_gr hh
   replace m8 : h36[h1.size]? = some (.cells ((nodeH ((twV x m (half n) (initH r) whole).2.1) (r.getD (r.length - 1) [])).map bv).toArray 23) := hput_at (off := 0) (vs := (nodeH ((twV x m (half n) (initH r) whole).2.1) (r.getD (r.length - 1) [])).map bv) (l := (z32.map bv)) hh (hsplice rfl (node_len _ _)) m8
   clear hh
   replace e0 := e0.grew g37 (sep.low 1 rfl)
   replace m3 := Grew.blk g37 m3 ((sep.bp 2 1))
   replace m28 := Grew.blk g37 m28 ((sep.bp 0 1))
   replace sep := sep.up g37.size
   refine mD [(10,pV h1.size)] ?_
   clear hF a; intro a hF
   refine tK ?_
   refine cR ?_
   show retK Tryd.prog Tryd.f40 (fun v h' => v = .agg ((twV x m n r whole).2.1.map bv).toArray ∧ Ext h h') .ret a h36
   refine ret_ok [.cell 10 23] [.agg ((nodeH ((twV x m (half n) (initH r) whole).2.1) (r.getD (r.length - 1) [])).map bv).toArray] (.agg ((nodeH ((twV x m (half n) (initH r) whole).2.1) (r.getD (r.length - 1) [])).map bv).toArray) rfl hF ⟨⟨_,rfl,Loads.hash (by kernel_rfl) (node_len _ _) m8⟩,trivial⟩ rfl ?_
   exact ⟨by rw [tw_lo hr0 (by omega) (by omega)] <;> rfl,e0⟩
  ·skip
   replace hc33 := of_decide_eq_false hc33
   refine cN ?_
   refine tK ?_
   refine cS ?_
   refine cD [0,0,0,6,0,0,48,0,0,0,512,1536,3840,8190,16383,32767] 9 mixed hF ?_
   refine mL 1 1 0 (.agg ((r.getD (r.length - 1) []).map bv).toArray) (Calm.load (T := 23) (p := ⟨h6.size,0,none⟩) (by kernel_rfl) (Loads.hash (by kernel_rfl) (hr.2.1.get (k := (r.length - 1)) (by rw [hr.2.2]; omega)) m28)) ?_
   refine mP 7 [1,2] [nV m,nV (half n)] ?_
   refine m1 15 3 (.int .i64 ((m - (half n) : Nat) : Int)) (.int .i64 (IntKind.i64.wrap (((m : Nat) : Int) - ((half n : Nat) : Int)))) (congrArg (Value.int .i64) (w64' (by omega) (by omega) (by omega))) ?_
   refine mP 63 [4,5] [nV n,nV (half n)] ?_
   refine m1 127 6 (.int .i64 ((n - (half n) : Nat) : Int)) (.int .i64 (IntKind.i64.wrap (((n : Nat) : Int) - ((half n : Nat) : Int)))) (congrArg (Value.int .i64) (w64' (by omega) (by omega) (by omega))) ?_
   refine mL 255 129 7 (.agg (x.map bv).toArray) (Calm.load (T := 23) (p := ⟨h.size,0,none⟩) (by kernel_rfl) (Loads.hash (by kernel_rfl) hx m3)) ?_
   refine mP 2047 [8,9,10] [.slice (some aa) r.length vc,.slice (some aa) r.length vc,nV r.length] ?_
   refine m1 4095 11 (.int .i64 ((r.length - 1 : Nat) : Int)) (.int .i64 (IntKind.i64.wrap (((r.length : Nat) : Int) - 1))) (congrArg (Value.int .i64) (w64' (by omega) (by omega) (by omega))) ?_
   refine mF 8191 12 (.slice (some aa) (r.length - 1) vc) (fun h => Calm.sliceO (a := (some aa)) (len := r.length) (cap := vc) (sz := 32) (x := (some aa)) 0 (r.length - 1) vc (r.length - 1) vc (by kernel_rfl) (.inl ⟨rfl,rfl⟩) (.inr rfl) (.inl ⟨rfl,rfl⟩) (by omega) (by omega) (opt_add0 _ 32) (by first | rfl | omega) (by first | rfl | omega) h) ?_
   refine SimK.eff (i := 13) (D' := 16383) (X' := 16382) (by kernel_rfl) (by kernel_rfl) (by kernel_rfl) [0] (by kernel_rfl) (Does.call (f := 40) (args := #[.int .i64 ((m - (half n) : Nat) : Int),.int .i64 ((n - (half n) : Nat) : Int),.agg (x.map bv).toArray,.slice (some aa) (r.length - 1) vc,.bool false]) (by kernel_rfl) (ih _ (m - half n) (n - half n) (initH r) false (r.length - 1) (initH_len r) (by omega) ((hr.ext e0).take (by omega)) (by omega) (by omega) (by omega))) ?_
   rintro _ h38 ⟨rfl,g⟩
   replace e0 := e0.ext g
   replace m3 := Ext.blk g m3
   replace m8 := Ext.blk g m8
   replace m28 := Ext.blk g m28
   replace sep := sep.up g.size
   refine ⟨?_,?_⟩
   ·intro j hj
    simp only [List.mem_cons,List.not_mem_nil,or_false] at hj
    subst hj
    exact goodOf (Calm.load (T := 23) (p := ⟨h6.size,0,none⟩) (by kernel_rfl) (Loads.hash (by kernel_rfl) (hr.2.1.get (k := (r.length - 1)) (by rw [hr.2.2]; omega)) m28))
   clear g
   refine SimK.eff0 (i := 14) (D' := 32767) (X' := 32767) (by kernel_rfl) (by kernel_rfl) (by kernel_rfl) (by kernel_rfl) (Does.call (f := 37) (args := #[.agg ((r.getD (r.length - 1) []).map bv).toArray,.agg (((twV x (m - half n) (n - half n) (initH r) false).2.1).map bv).toArray]) (by kernel_rfl) (rnode_sat _ (r.getD (r.length - 1) []) ((twV x (m - half n) (n - half n) (initH r) false).2.1) (hr.2.1.get (k := (r.length - 1)) (by rw [hr.2.2]; omega)) (tw_len _ (Nat.le_refl _) hx (init_32 hr.2.1)).2)) ?_
   rintro _ h39 ⟨rfl,g⟩
   replace e0 := e0.ext g
   replace m3 := Ext.blk g m3
   replace m8 := Ext.blk g m8
   replace m28 := Ext.blk g m28
   replace sep := sep.up g.size
   clear g
   refine SimK.eff0 (i := 15) (D' := 65535) (X' := 65535) (by kernel_rfl) (by kernel_rfl) (by kernel_rfl) (by kernel_rfl) (Does.store (b := h1.size) (off := 0) (vs := (nodeH (r.getD (r.length - 1) []) ((twV x (m - half n) (n - half n) (initH r) false).2.1)).map bv) (l := z32.map bv) (storeOp_of (by kernel_rfl) (hlm (node_len _ _))) m8 (hfit rfl (node_len _ _)) (ones_map _)) ?_
   rintro _ h40 ⟨rfl,hh⟩
   have g41 : Grew (some (h1.size)) h39 h40 := hput_gr hh
   replace m8 : h40[h1.size]? = some (.cells ((nodeH (r.getD (r.length - 1) []) ((twV x (m - half n) (n - half n) (initH r) false).2.1)).map bv).toArray 23) := hput_at (off := 0) (vs := (nodeH (r.getD (r.length - 1) []) ((twV x (m - half n) (n - half n) (initH r) false).2.1)).map bv) (l := (z32.map bv)) hh (hsplice rfl (node_len _ _)) m8
   clear hh
   replace e0 := e0.grew g41 (sep.low 1 rfl)
   replace m3 := Grew.blk g41 m3 ((sep.bp 2 1))
   replace m28 := Grew.blk g41 m28 ((sep.bp 0 1))
   replace sep := sep.up g41.size
   refine mD [(10,pV h1.size)] ?_
   clear hF a; intro a hF
   refine tK ?_
   refine cR ?_
   show retK Tryd.prog Tryd.f40 (fun v h' => v = .agg ((twV x m n r whole).2.1.map bv).toArray ∧ Ext h h') .ret a h40
   refine ret_ok [.cell 10 23] [.agg ((nodeH (r.getD (r.length - 1) []) ((twV x (m - half n) (n - half n) (initH r) false).2.1)).map bv).toArray] (.agg ((nodeH (r.getD (r.length - 1) []) ((twV x (m - half n) (n - half n) (initH r) false).2.1)).map bv).toArray) rfl hF ⟨⟨_,rfl,Loads.hash (by kernel_rfl) (node_len _ _) m8⟩,trivial⟩ rfl ?_
   exact ⟨by rw [tw_hi hr0 (by omega) (by omega)] <;> rfl,e0⟩
theorem fresh_all (x : Hs) (hx : x.length = 32) (va : Option Addr) (vc : Nat) : ∀ (q : Nat) (h : Heap) (m n : Nat) (r : List Hs) (whole : Bool) (k : Nat),r.length = k → k ≤ q → q ≤ 1099511627776 → HR h va vc k r → 0 < m → m ≤ n → n ≤ 9223372036854775807 → Sat Tryd.prog 40 #[.int .i64 ((m : Nat) : Int),.int .i64 ((n : Nat) : Int),.agg (x.map bv).toArray,.slice va k vc,.bool whole] h (fun v h' => v = .agg ((twV x m n r whole).2.1.map bv).toArray ∧ Ext h h')
 | 0,h,m,n,r,whole,k,hk,hq,hql,hr,hm0,hmn,hn => by subst hk; exact fresh_step x hx va vc r.length (fun _ _ _ _ _ _ _ hlt => by omega) h m n r whole rfl hr hm0 hmn hn (by omega)
 | q + 1,h,m,n,r,whole,k,hk,hq,hql,hr,hm0,hmn,hn => by subst hk; exact fresh_step x hx va vc r.length (fun h m n r whole k hk hlt hr hm0 hmn hn => fresh_all x hx va vc q h m n r whole k hk (by omega) (by omega) hr hm0 hmn hn) h m n r whole rfl hr hm0 hmn hn (by omega)
noncomputable def b19 : Code := Tryd.f19.body.getD .skip
set_option maxHeartbeats 1000000 in
theorem parts_step (x : Hs) (hx : x.length = 32) (va : Option Addr) (vc rl : Nat) (ih : ∀ (h : Heap) (m n : Nat) (L : List Hs) (vb : Option Addr) (vd : Nat) (r : List Hs) (whole : Bool) (k : Nat),r.length = k → k < rl → HR h vb vd n L → HR h va vc k r → 0 < m → n ≤ 1099511627000 → Sat Tryd.prog 19 #[.int .i64 ((m : Nat) : Int),.slice vb n vd,.agg (x.map bv).toArray,.slice va k vc,.bool whole] h (fun v h' => v = .bool (prtB x m L r whole) ∧ Ext h h')) (h : Heap) (m n : Nat) (L : List Hs) (vb : Option Addr) (vd : Nat) (r : List Hs) (whole : Bool) (hrl : r.length = rl) (hL : HR h vb vd n L) (hr : HR h va vc r.length r) (hm0 : 0 < m) (hn : n ≤ 1099511627000) (hl : r.length ≤ 1099511627776) : Sat Tryd.prog 19 #[.int .i64 ((m : Nat) : Int),.slice vb n vd,.agg (x.map bv).toArray,.slice va r.length vc,.bool whole] h fun v h' => v = .bool (prtB x m L r whole) ∧ Ext h h' := by
 have hLn := hL.2.2
 have e0 := Ext.refl h
 have sep : Sep h.size h.size [] := Sep.nil _ _
 refine sat_of (args := [.int .i64 ((m : Nat) : Int),.slice vb n vd,.agg (x.map bv).toArray,.slice va r.length vc,.bool whole]) (fn := Tryd.f19) (B := b19) (n := 115) (L := [(0,.int .i64 ((m : Nat) : Int)),(1,.slice vb n vd),(2,.agg (x.map bv).toArray),(3,.slice va r.length vc),(4,.bool whole)]) Tryd.func19 rfl (by kernel_rfl) rfl ?_
 intro a hF
 refine cS ?_
 refine cP 0 hF ?_
 refine SeqK.eff (k' := 1) (Does.new (v := .pointer (some ⟨h.size,0,none⟩)) (o := .cells (x.map bv).toArray 23) (by kernel_rfl)) rfl ?_
 rintro _ h1 ⟨rfl,hh⟩
 have g2 : Ext h h1 := push_ext hh
 have m3 : h1[h.size]? = some (.cells (x.map bv).toArray 23) := push_at hh
 clear hh
 have lt4 := blk_lt m3
 have zs5 := e0.size
 have hlo := e0.size
 have sepo := sep
 replace e0 := e0.ext g2
 replace sep := sep.up g2.size
 replace sep := sepo.new hlo (blk_lt m3)
 clear sepo hlo
 refine sP 2 [.bool false] ?_
 refine sD [(0,nV m),(1,.slice vb n vd),(3,.slice va r.length vc),(4,.bool whole),(7,pV h.size)] ?_
 clear hF a; intro a hF
 refine tK ?_
 refine cS ?_
 refine cP 1 hF ?_
 refine sP 3 [.slice vb n vd,nV n,nV n] ?_
 refine sD [(0,nV m),(1,.slice vb n vd),(3,.slice va r.length vc),(4,.bool whole),(7,pV h.size),(11,nV n)] ?_
 clear hF a; intro a hF
 refine tK ?_
 refine cS ?_
 refine cS ?_
 rcases (show n ≤ m ∨ (m < n ∧ r.length = 0) ∨ (m < n ∧ 0 < r.length) by omega) with hn1 | ⟨hn1,hr0⟩ | ⟨hn1,hr0⟩
 ·skip
  refine cP 2 hF ?_
  refine sP 2 [nV m,nV n] ?_
  refine s1 3 (.bool true) (.bool (decide (((n : Nat) : Int) ≤ ((m : Nat) : Int)))) (congrArg Value.bool (decide_eq_true (by omega))) ?_
  refine sP 8 [.bool true,undef,undef,undef,.bool true] ?_
  refine sD [(0,nV m),(1,.slice vb n vd),(3,.slice va r.length vc),(4,.bool whole),(7,pV h.size),(11,nV n),(28,.bool true)] ?_
  clear hF a; intro a hF
  refine tK ?_
  refine cT 28 hF ?_
  refine cS ?_
  refine cP 3 hF ?_
  refine sP 1 [.bool false] ?_
  refine sD [(10,.bool false)] ?_
  clear hF a; intro a hF
  refine tK ?_
  refine cR ?_
  show retK Tryd.prog Tryd.f19 (fun v h' => v = .bool (prtB x m L r whole) ∧ Ext h h') .ret a h1
  refine ret_ok [.tmp 10] [.bool false] (.bool false) rfl hF ⟨rfl,trivial⟩ rfl ?_
  exact ⟨congrArg Value.bool (prt_no (by omega)).symm,e0⟩
 ·skip
  refine cP 2 hF ?_
  refine sP 2 [nV m,nV n] ?_
  refine s1 3 (.bool false) (.bool (decide (((n : Nat) : Int) ≤ ((m : Nat) : Int)))) (congrArg Value.bool (decide_eq_false (by omega))) ?_
  refine sP 6 [.bool false,.slice va r.length vc,nV r.length] ?_
  refine s1 7 (.bool true) (.bool (((r.length : Nat) : Int) == (0 : Int))) (congrArg Value.bool (beq_iff_eq.2 (by omega))) ?_
  refine sP 8 [.bool true] ?_
  refine sD [(0,nV m),(1,.slice vb n vd),(3,.slice va r.length vc),(4,.bool whole),(7,pV h.size),(11,nV n),(28,.bool true)] ?_
  clear hF a; intro a hF
  refine tK ?_
  refine cT 28 hF ?_
  refine cS ?_
  refine cP 3 hF ?_
  refine sP 1 [.bool false] ?_
  refine sD [(10,.bool false)] ?_
  clear hF a; intro a hF
  refine tK ?_
  refine cR ?_
  show retK Tryd.prog Tryd.f19 (fun v h' => v = .bool (prtB x m L r whole) ∧ Ext h h') .ret a h1
  refine ret_ok [.tmp 10] [.bool false] (.bool false) rfl hF ⟨rfl,trivial⟩ rfl ?_
  exact ⟨congrArg Value.bool (prt_no (by omega)).symm,e0⟩
 ·skip
  obtain ⟨aa,rfl,hcap_aa⟩ := hr.someA (by omega)
  have hhl := half_lt (n := n) (by omega); have hhp := half_pos n
  obtain ⟨ad2,had2⟩ : ∃ x,x = if vd = half n then vb else vb.map (·.add (half n * 32)) := ⟨_,rfl⟩
  have hcd := hL.cap
  refine cP 2 hF ?_
  refine sP 2 [nV m,nV n] ?_
  refine s1 3 (.bool false) (.bool (decide (((n : Nat) : Int) ≤ ((m : Nat) : Int)))) (congrArg Value.bool (decide_eq_false (by omega))) ?_
  refine sP 6 [.bool false,.slice (some aa) r.length vc,nV r.length] ?_
  refine s1 7 (.bool false) (.bool (((r.length : Nat) : Int) == (0 : Int))) (congrArg Value.bool (beq_eq_false_iff_ne.2 (by omega))) ?_
  refine sP 8 [.bool false] ?_
  refine sD [(0,nV m),(1,.slice vb n vd),(3,.slice (some aa) r.length vc),(4,.bool whole),(7,pV h.size),(11,nV n),(28,.bool false)] ?_
  clear hF a; intro a hF
  refine tK ?_
  refine cF 28 hF ?_
  refine cN ?_
  refine tK ?_
  refine cS ?_
  refine cP 4 hF ?_
  refine sP 1 [nV n] ?_
  refine sC 2 (.int .i64 ((half n : Nat) : Int)) (Does.call (f := 38) (args := #[.int .i64 ((n : Nat) : Int)]) (by kernel_rfl) (lbelow_sat _ n (by omega) (by omega))) ?_
  refine sP 3 [nV (half n)] ?_
  refine sD [(0,nV m),(1,.slice vb n vd),(3,.slice (some aa) r.length vc),(4,.bool whole),(7,pV h.size),(11,nV n),(12,nV (half n))] ?_
  clear hF a; intro a hF
  refine tK ?_
  refine cS ?_
  refine cP 5 hF ?_
  refine sP 3 [.slice (some aa) r.length vc,.slice (some aa) r.length vc,nV r.length] ?_
  refine s1 4 (.int .i64 ((r.length - 1 : Nat) : Int)) (.int .i64 (IntKind.i64.wrap (((r.length : Nat) : Int) - 1))) (congrArg (Value.int .i64) (w64' (by omega) (by omega) (by omega))) ?_
  refine sC 5 (.pointer (some (Addr.add aa ((r.length - 1) * 32)))) ((Calm.indexA (a := aa) (len := r.length) (sz := 32) (k := ((r.length - 1 : Nat) : Int)) (r.length - 1) ((r.length - 1) * 32) (by kernel_rfl) rfl (by omega) (by omega)) _) ?_
  refine sC 6 (.agg ((r.getD (r.length - 1) []).map bv).toArray) (Calm.load (T := 23) (p := (Addr.add aa ((r.length - 1) * 32))) (by kernel_rfl) (HR.loads (k := (r.length - 1)) (q := (r.length - 1) * 32) (hr.ext e0) (by kernel_rfl) (by omega) (by omega))) ?_
  refine SeqK.eff (k' := 7) (Does.new (v := .pointer (some ⟨h1.size,0,none⟩)) (o := .cells (z32.map bv).toArray 23) (by kernel_rfl)) rfl ?_
  rintro _ h6 ⟨rfl,hh⟩
  have g7 : Ext h1 h6 := push_ext hh
  have m8 : h6[h1.size]? = some (.cells (z32.map bv).toArray 23) := push_at hh
  clear hh
  have lt9 := blk_lt m8
  have zs10 := e0.size
  have hlo := e0.size
  have sepo := sep
  replace e0 := e0.ext g7
  replace m3 := Ext.blk g7 m3
  replace sep := sep.up g7.size
  replace sep := sepo.new hlo (blk_lt m8)
  clear sepo hlo
  refine SeqK.eff (k' := 8) (Does.store (b := h1.size) (off := 0) (vs := (r.getD (r.length - 1) []).map bv) (l := z32.map bv) (storeOp_of (by kernel_rfl) (hlm (hr.2.1.get (k := (r.length - 1)) (by rw [hr.2.2]; omega)))) m8 (hfit rfl (hr.2.1.get (k := (r.length - 1)) (by rw [hr.2.2]; omega))) (ones_map _)) rfl ?_
  rintro _ h11 ⟨rfl,hh⟩
  have g12 : Grew (some (h1.size)) h6 h11 := hput_gr hh
  replace m8 : h11[h1.size]? = some (.cells ((r.getD (r.length - 1) []).map bv).toArray 23) := hput_at (off := 0) (vs := (r.getD (r.length - 1) []).map bv) (l := (z32.map bv)) hh (hsplice rfl (hr.2.1.get (k := (r.length - 1)) (by rw [hr.2.2]; omega))) m8
  clear hh
  replace e0 := e0.grew g12 (sep.low 0 rfl)
  replace m3 := Grew.blk g12 m3 ((sep.bp 1 0))
  replace sep := sep.up g12.size
  refine sD [(0,nV m),(1,.slice vb n vd),(3,.slice (some aa) r.length vc),(4,.bool whole),(7,pV h.size),(11,nV n),(12,nV (half n)),(13,pV h1.size)] ?_
  clear hF a; intro a hF
  refine tK ?_
  refine cS ?_
  refine cP 6 hF ?_
  refine sP 3 [.slice (some aa) r.length vc,.slice (some aa) r.length vc,nV r.length] ?_
  refine s1 4 (.int .i64 ((r.length - 1 : Nat) : Int)) (.int .i64 (IntKind.i64.wrap (((r.length : Nat) : Int) - 1))) (congrArg (Value.int .i64) (w64' (by omega) (by omega) (by omega))) ?_
  refine sC 5 (.slice (some aa) (r.length - 1) vc) ((fun h => Calm.sliceO (a := (some aa)) (len := r.length) (cap := vc) (sz := 32) (x := (some aa)) 0 (r.length - 1) vc (r.length - 1) vc (by kernel_rfl) (.inl ⟨rfl,rfl⟩) (.inr rfl) (.inl ⟨rfl,rfl⟩) (by omega) (by omega) (opt_add0 _ 32) (by first | rfl | omega) (by first | rfl | omega) h) _) ?_
  refine sP 6 [.slice (some aa) (r.length - 1) vc] ?_
  refine sD [(0,nV m),(1,.slice vb n vd),(4,.bool whole),(7,pV h.size),(11,nV n),(12,nV (half n)),(13,pV h1.size),(14,.slice (some aa) (r.length - 1) vc)] ?_
  clear hF a; intro a hF
  refine tK ?_
  refine cS ?_
  refine cP 7 hF ?_
  refine sP 2 [.slice vb n vd,nV (half n)] ?_
  refine sC 3 (.slice vb (half n) vd) ((fun h => Calm.sliceO (a := vb) (len := n) (cap := vd) (sz := 32) (x := vb) 0 (half n) vd (half n) vd (by kernel_rfl) (.inl ⟨rfl,rfl⟩) (.inr rfl) (.inl ⟨rfl,rfl⟩) (by omega) (by omega) (opt_add0 _ 32) (by first | rfl | omega) (by first | rfl | omega) h) _) ?_
  refine SeqK.eff (k' := 4) (Does.call (f := 17) (args := #[.slice vb (half n) vd]) (by kernel_rfl) (rroot_sat _ (L.take (half n)) _ _ (half n) ((hL.ext e0).take (k := half n) (by omega)) (by omega))) rfl ?_
  rintro _ h13 ⟨rfl,g⟩
  replace e0 := e0.ext g
  replace m3 := Ext.blk g m3
  replace m8 := Ext.blk g m8
  replace sep := sep.up g.size
  clear g
  refine SeqK.eff (k' := 5) (Does.new (v := .pointer (some ⟨h13.size,0,none⟩)) (o := .cells (z32.map bv).toArray 23) (by kernel_rfl)) rfl ?_
  rintro _ h14 ⟨rfl,hh⟩
  have g15 : Ext h13 h14 := push_ext hh
  have m16 : h14[h13.size]? = some (.cells (z32.map bv).toArray 23) := push_at hh
  clear hh
  have lt17 := blk_lt m16
  have zs18 := e0.size
  have hlo := e0.size
  have sepo := sep
  replace e0 := e0.ext g15
  replace m3 := Ext.blk g15 m3
  replace m8 := Ext.blk g15 m8
  replace sep := sep.up g15.size
  replace sep := sepo.new hlo (blk_lt m16)
  clear sepo hlo
  refine SeqK.eff (k' := 6) (Does.store (b := h13.size) (off := 0) (vs := (root (L.take (half n))).map bv) (l := z32.map bv) (storeOp_of (by kernel_rfl) (hlm (root_len (hL.2.1.take _)))) m16 (hfit rfl (root_len (hL.2.1.take _))) (ones_map _)) rfl ?_
  rintro _ h19 ⟨rfl,hh⟩
  have g20 : Grew (some (h13.size)) h14 h19 := hput_gr hh
  replace m16 : h19[h13.size]? = some (.cells ((root (L.take (half n))).map bv).toArray 23) := hput_at (off := 0) (vs := (root (L.take (half n))).map bv) (l := (z32.map bv)) hh (hsplice rfl (root_len (hL.2.1.take _))) m16
  clear hh
  replace e0 := e0.grew g20 (sep.low 0 rfl)
  replace m3 := Grew.blk g20 m3 ((sep.bp 2 0))
  replace m8 := Grew.blk g20 m8 ((sep.bp 1 0))
  replace sep := sep.up g20.size
  refine sD [(0,nV m),(1,.slice vb n vd),(4,.bool whole),(7,pV h.size),(11,nV n),(12,nV (half n)),(13,pV h1.size),(14,.slice (some aa) (r.length - 1) vc),(15,pV h13.size)] ?_
  clear hF a; intro a hF
  refine tK ?_
  refine cS ?_
  refine cP 8 hF ?_
  refine sP 2 [.slice vb n vd,nV (half n)] ?_
  refine sC 3 (.slice ad2 (n - half n) (vd - half n)) ((fun h => Calm.sliceO (a := vb) (len := n) (cap := vd) (sz := 32) (x := ad2) (half n) n vd (n - half n) (vd - half n) (by kernel_rfl) (.inl ⟨rfl,rfl⟩) (.inl ⟨rfl,rfl⟩) (.inr rfl) (by omega) (by omega) had2 (by first | rfl | omega) (by first | rfl | omega) h) _) ?_
  refine SeqK.eff (k' := 4) (Does.call (f := 17) (args := #[.slice ad2 (n - half n) (vd - half n)]) (by kernel_rfl) (rroot_sat _ (L.drop (half n)) _ _ (n - half n) ((hL.ext e0).drop (by omega) had2) (by omega))) rfl ?_
  rintro _ h21 ⟨rfl,g⟩
  replace e0 := e0.ext g
  replace m3 := Ext.blk g m3
  replace m8 := Ext.blk g m8
  replace m16 := Ext.blk g m16
  replace sep := sep.up g.size
  clear g
  refine SeqK.eff (k' := 5) (Does.new (v := .pointer (some ⟨h21.size,0,none⟩)) (o := .cells (z32.map bv).toArray 23) (by kernel_rfl)) rfl ?_
  rintro _ h22 ⟨rfl,hh⟩
  have g23 : Ext h21 h22 := push_ext hh
  have m24 : h22[h21.size]? = some (.cells (z32.map bv).toArray 23) := push_at hh
  clear hh
  have lt25 := blk_lt m24
  have zs26 := e0.size
  have hlo := e0.size
  have sepo := sep
  replace e0 := e0.ext g23
  replace m3 := Ext.blk g23 m3
  replace m8 := Ext.blk g23 m8
  replace m16 := Ext.blk g23 m16
  replace sep := sep.up g23.size
  replace sep := sepo.new hlo (blk_lt m24)
  clear sepo hlo
  refine SeqK.eff (k' := 6) (Does.store (b := h21.size) (off := 0) (vs := (root (L.drop (half n))).map bv) (l := z32.map bv) (storeOp_of (by kernel_rfl) (hlm (root_len (hL.2.1.drop _)))) m24 (hfit rfl (root_len (hL.2.1.drop _))) (ones_map _)) rfl ?_
  rintro _ h27 ⟨rfl,hh⟩
  have g28 : Grew (some (h21.size)) h22 h27 := hput_gr hh
  replace m24 : h27[h21.size]? = some (.cells ((root (L.drop (half n))).map bv).toArray 23) := hput_at (off := 0) (vs := (root (L.drop (half n))).map bv) (l := (z32.map bv)) hh (hsplice rfl (root_len (hL.2.1.drop _))) m24
  clear hh
  replace e0 := e0.grew g28 (sep.low 0 rfl)
  replace m3 := Grew.blk g28 m3 ((sep.bp 3 0))
  replace m8 := Grew.blk g28 m8 ((sep.bp 2 0))
  replace m16 := Grew.blk g28 m16 ((sep.bp 1 0))
  replace sep := sep.up g28.size
  refine sD [(0,nV m),(1,.slice vb n vd),(4,.bool whole),(7,pV h.size),(11,nV n),(12,nV (half n)),(13,pV h1.size),(14,.slice (some aa) (r.length - 1) vc),(15,pV h13.size),(16,pV h21.size)] ?_
  clear hF a; intro a hF
  refine tK ?_
  refine cS ?_
  refine cS ?_
  refine cP 9 hF ?_
  refine sP 3 [nV m,nV (half n),.bool (decide (((m : Nat) : Int) ≤ ((half n : Nat) : Int)))] ?_
  refine sD [(0,nV m),(1,.slice vb n vd),(4,.bool whole),(7,pV h.size),(11,nV n),(12,nV (half n)),(13,pV h1.size),(14,.slice (some aa) (r.length - 1) vc),(15,pV h13.size),(16,pV h21.size),(52,.bool (decide (((m : Nat) : Int) ≤ ((half n : Nat) : Int))))] ?_
  clear hF a; intro a hF
  refine tK ?_
  refine cC 52 (decide (((m : Nat) : Int) ≤ ((half n : Nat) : Int))) hF (fun hc29 => ?_) (fun hc29 => ?_)
  ·skip
   replace hc29 := of_decide_eq_true hc29
   refine cS ?_
   refine cP 10 hF ?_
   refine sP 2 [nV m,nV (half n)] ?_
   refine sC 3 (.agg (x.map bv).toArray) (Calm.load (T := 23) (p := ⟨h.size,0,none⟩) (by kernel_rfl) (Loads.hash (by kernel_rfl) hx m3)) ?_
   refine sP 5 [.slice (some aa) (r.length - 1) vc,.bool whole] ?_
   refine SeqK.eff (k' := 6) (Does.call (f := 40) (args := #[.int .i64 ((m : Nat) : Int),.int .i64 ((half n : Nat) : Int),.agg (x.map bv).toArray,.slice (some aa) (r.length - 1) vc,.bool whole]) (by kernel_rfl) (fresh_all x hx _ vc (r.length - 1) _ m (half n) (initH r) whole (r.length - 1) (initH_len r) (Nat.le_refl _) (by omega) ((hr.ext e0).take (by omega)) (by omega) (by omega) (by omega))) rfl ?_
   rintro _ h30 ⟨rfl,g⟩
   replace e0 := e0.ext g
   replace m3 := Ext.blk g m3
   replace m8 := Ext.blk g m8
   replace m16 := Ext.blk g m16
   replace m24 := Ext.blk g m24
   replace sep := sep.up g.size
   clear g
   refine SeqK.eff (k' := 7) (Does.new (v := .pointer (some ⟨h30.size,0,none⟩)) (o := .cells (z32.map bv).toArray 23) (by kernel_rfl)) rfl ?_
   rintro _ h31 ⟨rfl,hh⟩
   have g32 : Ext h30 h31 := push_ext hh
   have m33 : h31[h30.size]? = some (.cells (z32.map bv).toArray 23) := push_at hh
   clear hh
   have lt34 := blk_lt m33
   have zs35 := e0.size
   have hlo := e0.size
   have sepo := sep
   replace e0 := e0.ext g32
   replace m3 := Ext.blk g32 m3
   replace m8 := Ext.blk g32 m8
   replace m16 := Ext.blk g32 m16
   replace m24 := Ext.blk g32 m24
   replace sep := sep.up g32.size
   replace sep := sepo.new hlo (blk_lt m33)
   clear sepo hlo
   refine SeqK.eff (k' := 8) (Does.store (b := h30.size) (off := 0) (vs := ((twV x m (half n) (initH r) whole).2.1).map bv) (l := z32.map bv) (storeOp_of (by kernel_rfl) (hlm (tw_len _ (Nat.le_refl _) hx (init_32 hr.2.1)).2)) m33 (hfit rfl (tw_len _ (Nat.le_refl _) hx (init_32 hr.2.1)).2) (ones_map _)) rfl ?_
   rintro _ h36 ⟨rfl,hh⟩
   have g37 : Grew (some (h30.size)) h31 h36 := hput_gr hh
   replace m33 : h36[h30.size]? = some (.cells (((twV x m (half n) (initH r) whole).2.1).map bv).toArray 23) := hput_at (off := 0) (vs := ((twV x m (half n) (initH r) whole).2.1).map bv) (l := (z32.map bv)) hh (hsplice rfl (tw_len _ (Nat.le_refl _) hx (init_32 hr.2.1)).2) m33
   clear hh
   replace e0 := e0.grew g37 (sep.low 0 rfl)
   replace m3 := Grew.blk g37 m3 ((sep.bp 4 0))
   replace m8 := Grew.blk g37 m8 ((sep.bp 3 0))
   replace m16 := Grew.blk g37 m16 ((sep.bp 2 0))
   replace m24 := Grew.blk g37 m24 ((sep.bp 1 0))
   replace sep := sep.up g37.size
   refine sD [(0,nV m),(1,.slice vb n vd),(4,.bool whole),(7,pV h.size),(12,nV (half n)),(13,pV h1.size),(14,.slice (some aa) (r.length - 1) vc),(15,pV h13.size),(16,pV h21.size),(17,pV h30.size)] ?_
   clear hF a; intro a hF
   refine tK ?_
   refine cS ?_
   refine cS ?_
   rcases Decidable.em ((twV x m (half n) (initH r) whole).2.1 = root (L.take (half n))) with hc1 | hc1
   rcases Decidable.em (r.getD (r.length - 1) [] = root (L.drop (half n))) with hc2 | hc2
   ·skip
    refine cP 11 hF ?_
    refine sC 1 (.agg (((twV x m (half n) (initH r) whole).2.1).map bv).toArray) (Calm.load (T := 23) (p := ⟨h30.size,0,none⟩) (by kernel_rfl) (Loads.hash (by kernel_rfl) (tw_len _ (Nat.le_refl _) hx (init_32 hr.2.1)).2 m33)) ?_
    refine sC 2 (.agg ((root (L.take (half n))).map bv).toArray) (Calm.load (T := 23) (p := ⟨h13.size,0,none⟩) (by kernel_rfl) (Loads.hash (by kernel_rfl) (root_len (hL.2.1.take _)) m16)) ?_
    refine sC 3 (.bool false) ((eqHT (q := false) (l := (twV x m (half n) (initH r) whole).2.1) (r := root (L.take (half n))) (n := 32) (by kernel_rfl) (tw_len _ (Nat.le_refl _) hx (init_32 hr.2.1)).2 (root_len (hL.2.1.take _)) hc1) _) ?_
    refine sP 4 [.bool false] ?_
    refine sC 5 (.agg ((r.getD (r.length - 1) []).map bv).toArray) (Calm.load (T := 23) (p := ⟨h1.size,0,none⟩) (by kernel_rfl) (Loads.hash (by kernel_rfl) (hr.2.1.get (k := (r.length - 1)) (by rw [hr.2.2]; omega)) m8)) ?_
    refine sC 6 (.agg ((root (L.drop (half n))).map bv).toArray) (Calm.load (T := 23) (p := ⟨h21.size,0,none⟩) (by kernel_rfl) (Loads.hash (by kernel_rfl) (root_len (hL.2.1.drop _)) m24)) ?_
    refine sC 7 (.bool false) ((eqHT (q := false) (l := (r.getD (r.length - 1) [])) (r := root (L.drop (half n))) (n := 32) (by kernel_rfl) (hr.2.1.get (k := (r.length - 1)) (by rw [hr.2.2]; omega)) (root_len (hL.2.1.drop _)) hc2) _) ?_
    refine sP 8 [.bool false] ?_
    refine sD [(0,nV m),(1,.slice vb n vd),(4,.bool whole),(7,pV h.size),(12,nV (half n)),(13,pV h1.size),(14,.slice (some aa) (r.length - 1) vc),(15,pV h13.size),(16,pV h21.size),(17,pV h30.size),(66,.bool false)] ?_
    clear hF a; intro a hF
    refine tK ?_
    refine cF 66 hF ?_
    refine cN ?_
    refine tK ?_
    refine cS ?_
    refine cD [0,0,0,6,0,0,0,127,255] 13 mixed hF ?_
    refine mP 7 [0,1,2] [nV m,.slice vb n vd,nV (half n)] ?_
    refine mF 15 3 (.slice vb (half n) vd) (fun h => Calm.sliceO (a := vb) (len := n) (cap := vd) (sz := 32) (x := vb) 0 (half n) vd (half n) vd (by kernel_rfl) (.inl ⟨rfl,rfl⟩) (.inr rfl) (.inl ⟨rfl,rfl⟩) (by omega) (by omega) (opt_add0 _ 32) (by first | rfl | omega) (by first | rfl | omega) h) ?_
    refine mL 31 16 4 (.agg (x.map bv).toArray) (Calm.load (T := 23) (p := ⟨h.size,0,none⟩) (by kernel_rfl) (Loads.hash (by kernel_rfl) hx m3)) ?_
    refine mP 127 [5,6] [.slice (some aa) (r.length - 1) vc,.bool whole] ?_
    refine SimK.eff0 (i := 7) (D' := 255) (X' := 255) (by kernel_rfl) (by kernel_rfl) (by kernel_rfl) (by kernel_rfl) (Does.call (f := 19) (args := #[.int .i64 ((m : Nat) : Int),.slice vb (half n) vd,.agg (x.map bv).toArray,.slice (some aa) (r.length - 1) vc,.bool whole]) (by kernel_rfl) (ih _ m (half n) (L.take (half n)) _ _ (initH r) whole (r.length - 1) (initH_len r) (by omega) ((hL.ext e0).take (k := half n) (by omega)) ((hr.ext e0).take (by omega)) (by omega) (by omega))) ?_
    rintro _ h38 ⟨rfl,g⟩
    replace e0 := e0.ext g
    replace m3 := Ext.blk g m3
    replace m8 := Ext.blk g m8
    replace m16 := Ext.blk g m16
    replace m24 := Ext.blk g m24
    replace m33 := Ext.blk g m33
    replace sep := sep.up g.size
    clear g
    refine mP 511 [8] [.bool (prtB x m (L.take (half n)) (initH r) whole)] ?_
    refine mD [(10,.bool (prtB x m (L.take (half n)) (initH r) whole))] ?_
    clear hF a; intro a hF
    refine tK ?_
    refine cR ?_
    show retK Tryd.prog Tryd.f19 (fun v h' => v = .bool (prtB x m L r whole) ∧ Ext h h') .ret a h38
    refine ret_ok [.tmp 10] [.bool (prtB x m (L.take (half n)) (initH r) whole)] (.bool (prtB x m (L.take (half n)) (initH r) whole)) rfl hF ⟨rfl,trivial⟩ rfl ?_
    have hcb := prt_lo (a := x) (m := m) (L := L) (r := r) (w := whole) (by omega) hr0 (by rw [hLn]; omega)
    rw [hLn] at hcb
    exact ⟨congrArg Value.bool (by rw [hcb,if_pos ⟨hc1,hc2⟩] <;> rfl),e0⟩
   ·skip
    refine cP 11 hF ?_
    refine sC 1 (.agg (((twV x m (half n) (initH r) whole).2.1).map bv).toArray) (Calm.load (T := 23) (p := ⟨h30.size,0,none⟩) (by kernel_rfl) (Loads.hash (by kernel_rfl) (tw_len _ (Nat.le_refl _) hx (init_32 hr.2.1)).2 m33)) ?_
    refine sC 2 (.agg ((root (L.take (half n))).map bv).toArray) (Calm.load (T := 23) (p := ⟨h13.size,0,none⟩) (by kernel_rfl) (Loads.hash (by kernel_rfl) (root_len (hL.2.1.take _)) m16)) ?_
    refine sC 3 (.bool false) ((eqHT (q := false) (l := (twV x m (half n) (initH r) whole).2.1) (r := root (L.take (half n))) (n := 32) (by kernel_rfl) (tw_len _ (Nat.le_refl _) hx (init_32 hr.2.1)).2 (root_len (hL.2.1.take _)) hc1) _) ?_
    refine sP 4 [.bool false] ?_
    refine sC 5 (.agg ((r.getD (r.length - 1) []).map bv).toArray) (Calm.load (T := 23) (p := ⟨h1.size,0,none⟩) (by kernel_rfl) (Loads.hash (by kernel_rfl) (hr.2.1.get (k := (r.length - 1)) (by rw [hr.2.2]; omega)) m8)) ?_
    refine sC 6 (.agg ((root (L.drop (half n))).map bv).toArray) (Calm.load (T := 23) (p := ⟨h21.size,0,none⟩) (by kernel_rfl) (Loads.hash (by kernel_rfl) (root_len (hL.2.1.drop _)) m24)) ?_
    refine sC 7 (.bool true) ((eqHF (q := false) (l := (r.getD (r.length - 1) [])) (r := root (L.drop (half n))) (n := 32) (by kernel_rfl) (hr.2.1.get (k := (r.length - 1)) (by rw [hr.2.2]; omega)) (root_len (hL.2.1.drop _)) hc2) _) ?_
    refine sP 8 [.bool true] ?_
    refine sD [(0,nV m),(1,.slice vb n vd),(4,.bool whole),(7,pV h.size),(12,nV (half n)),(13,pV h1.size),(14,.slice (some aa) (r.length - 1) vc),(15,pV h13.size),(16,pV h21.size),(17,pV h30.size),(66,.bool true)] ?_
    clear hF a; intro a hF
    refine tK ?_
    refine cT 66 hF ?_
    refine cS ?_
    refine cD [0,0,3,0,0,31,63,127] 12 mixed hF ?_
    refine mL 1 1 0 (.agg (((twV x m (half n) (initH r) whole).2.1).map bv).toArray) (Calm.load (T := 23) (p := ⟨h30.size,0,none⟩) (by kernel_rfl) (Loads.hash (by kernel_rfl) (tw_len _ (Nat.le_refl _) hx (init_32 hr.2.1)).2 m33)) ?_
    refine mL 3 3 1 (.agg ((r.getD (r.length - 1) []).map bv).toArray) (Calm.load (T := 23) (p := ⟨h1.size,0,none⟩) (by kernel_rfl) (Loads.hash (by kernel_rfl) (hr.2.1.get (k := (r.length - 1)) (by rw [hr.2.2]; omega)) m8)) ?_
    refine mL 11 11 3 (.agg ((root (L.take (half n))).map bv).toArray) (Calm.load (T := 23) (p := ⟨h13.size,0,none⟩) (by kernel_rfl) (Loads.hash (by kernel_rfl) (root_len (hL.2.1.take _)) m16)) ?_
    refine mL 27 27 4 (.agg ((root (L.drop (half n))).map bv).toArray) (Calm.load (T := 23) (p := ⟨h21.size,0,none⟩) (by kernel_rfl) (Loads.hash (by kernel_rfl) (root_len (hL.2.1.drop _)) m24)) ?_
    refine SimK.eff (i := 2) (D' := 31) (X' := 7) (by kernel_rfl) (by kernel_rfl) (by kernel_rfl) [3,4] (by kernel_rfl) (Does.call (f := 37) (args := #[.agg (((twV x m (half n) (initH r) whole).2.1).map bv).toArray,.agg ((r.getD (r.length - 1) []).map bv).toArray]) (by kernel_rfl) (rnode_sat _ ((twV x m (half n) (initH r) whole).2.1) (r.getD (r.length - 1) []) (tw_len _ (Nat.le_refl _) hx (init_32 hr.2.1)).2 (hr.2.1.get (k := (r.length - 1)) (by rw [hr.2.2]; omega)))) ?_
    rintro _ h39 ⟨rfl,g⟩
    replace e0 := e0.ext g
    replace m3 := Ext.blk g m3
    replace m8 := Ext.blk g m8
    replace m16 := Ext.blk g m16
    replace m24 := Ext.blk g m24
    replace m33 := Ext.blk g m33
    replace sep := sep.up g.size
    refine ⟨?_,?_⟩
    ·intro j hj
     simp only [List.mem_cons,List.not_mem_nil,or_false] at hj
     rcases hj with rfl | rfl
     ·exact goodOf (Calm.load (T := 23) (p := ⟨h13.size,0,none⟩) (by kernel_rfl) (Loads.hash (by kernel_rfl) (root_len (hL.2.1.take _)) m16))
     ·exact goodOf (Calm.load (T := 23) (p := ⟨h21.size,0,none⟩) (by kernel_rfl) (Loads.hash (by kernel_rfl) (root_len (hL.2.1.drop _)) m24))
    clear g
    refine SimK.eff0 (i := 5) (D' := 63) (X' := 63) (by kernel_rfl) (by kernel_rfl) (by kernel_rfl) (by kernel_rfl) (Does.call (f := 37) (args := #[.agg ((root (L.take (half n))).map bv).toArray,.agg ((root (L.drop (half n))).map bv).toArray]) (by kernel_rfl) (rnode_sat _ (root (L.take (half n))) (root (L.drop (half n))) (root_len (hL.2.1.take _)) (root_len (hL.2.1.drop _)))) ?_
    rintro _ h40 ⟨rfl,g⟩
    replace e0 := e0.ext g
    replace m3 := Ext.blk g m3
    replace m8 := Ext.blk g m8
    replace m16 := Ext.blk g m16
    replace m24 := Ext.blk g m24
    replace m33 := Ext.blk g m33
    replace sep := sep.up g.size
    clear g
    refine mF 127 6 (.bool (decide (nodeH ((twV x m (half n) (initH r) whole).2.1) (r.getD (r.length - 1) []) = nodeH (root (L.take (half n))) (root (L.drop (half n)))))) (eqH1 (l := nodeH ((twV x m (half n) (initH r) whole).2.1) (r.getD (r.length - 1) [])) (r := nodeH (root (L.take (half n))) (root (L.drop (half n)))) (n := 32) (by kernel_rfl) (node_len _ _) (node_len _ _)) ?_
    refine mP 255 [7] [.bool (decide (nodeH ((twV x m (half n) (initH r) whole).2.1) (r.getD (r.length - 1) []) = nodeH (root (L.take (half n))) (root (L.drop (half n)))))] ?_
    refine mD [(10,.bool (decide (nodeH ((twV x m (half n) (initH r) whole).2.1) (r.getD (r.length - 1) []) = nodeH (root (L.take (half n))) (root (L.drop (half n))))))] ?_
    clear hF a; intro a hF
    refine tK ?_
    refine cR ?_
    show retK Tryd.prog Tryd.f19 (fun v h' => v = .bool (prtB x m L r whole) ∧ Ext h h') .ret a h40
    refine ret_ok [.tmp 10] [.bool (decide (nodeH ((twV x m (half n) (initH r) whole).2.1) (r.getD (r.length - 1) []) = nodeH (root (L.take (half n))) (root (L.drop (half n)))))] (.bool (decide (nodeH ((twV x m (half n) (initH r) whole).2.1) (r.getD (r.length - 1) []) = nodeH (root (L.take (half n))) (root (L.drop (half n)))))) rfl hF ⟨rfl,trivial⟩ rfl ?_
    have hcb := prt_lo (a := x) (m := m) (L := L) (r := r) (w := whole) (by omega) hr0 (by rw [hLn]; omega)
    rw [hLn] at hcb
    exact ⟨congrArg Value.bool (by rw [hcb,if_neg (fun z => hc2 z.2)] <;> rfl),e0⟩
   ·skip
    refine cP 11 hF ?_
    refine sC 1 (.agg (((twV x m (half n) (initH r) whole).2.1).map bv).toArray) (Calm.load (T := 23) (p := ⟨h30.size,0,none⟩) (by kernel_rfl) (Loads.hash (by kernel_rfl) (tw_len _ (Nat.le_refl _) hx (init_32 hr.2.1)).2 m33)) ?_
    refine sC 2 (.agg ((root (L.take (half n))).map bv).toArray) (Calm.load (T := 23) (p := ⟨h13.size,0,none⟩) (by kernel_rfl) (Loads.hash (by kernel_rfl) (root_len (hL.2.1.take _)) m16)) ?_
    refine sC 3 (.bool true) ((eqHF (q := false) (l := (twV x m (half n) (initH r) whole).2.1) (r := root (L.take (half n))) (n := 32) (by kernel_rfl) (tw_len _ (Nat.le_refl _) hx (init_32 hr.2.1)).2 (root_len (hL.2.1.take _)) hc1) _) ?_
    refine sP 8 [.bool true,undef,undef,undef,.bool true] ?_
    refine sD [(0,nV m),(1,.slice vb n vd),(4,.bool whole),(7,pV h.size),(12,nV (half n)),(13,pV h1.size),(14,.slice (some aa) (r.length - 1) vc),(15,pV h13.size),(16,pV h21.size),(17,pV h30.size),(66,.bool true)] ?_
    clear hF a; intro a hF
    refine tK ?_
    refine cT 66 hF ?_
    refine cS ?_
    refine cD [0,0,3,0,0,31,63,127] 12 mixed hF ?_
    refine mL 1 1 0 (.agg (((twV x m (half n) (initH r) whole).2.1).map bv).toArray) (Calm.load (T := 23) (p := ⟨h30.size,0,none⟩) (by kernel_rfl) (Loads.hash (by kernel_rfl) (tw_len _ (Nat.le_refl _) hx (init_32 hr.2.1)).2 m33)) ?_
    refine mL 3 3 1 (.agg ((r.getD (r.length - 1) []).map bv).toArray) (Calm.load (T := 23) (p := ⟨h1.size,0,none⟩) (by kernel_rfl) (Loads.hash (by kernel_rfl) (hr.2.1.get (k := (r.length - 1)) (by rw [hr.2.2]; omega)) m8)) ?_
    refine mL 11 11 3 (.agg ((root (L.take (half n))).map bv).toArray) (Calm.load (T := 23) (p := ⟨h13.size,0,none⟩) (by kernel_rfl) (Loads.hash (by kernel_rfl) (root_len (hL.2.1.take _)) m16)) ?_
    refine mL 27 27 4 (.agg ((root (L.drop (half n))).map bv).toArray) (Calm.load (T := 23) (p := ⟨h21.size,0,none⟩) (by kernel_rfl) (Loads.hash (by kernel_rfl) (root_len (hL.2.1.drop _)) m24)) ?_
    refine SimK.eff (i := 2) (D' := 31) (X' := 7) (by kernel_rfl) (by kernel_rfl) (by kernel_rfl) [3,4] (by kernel_rfl) (Does.call (f := 37) (args := #[.agg (((twV x m (half n) (initH r) whole).2.1).map bv).toArray,.agg ((r.getD (r.length - 1) []).map bv).toArray]) (by kernel_rfl) (rnode_sat _ ((twV x m (half n) (initH r) whole).2.1) (r.getD (r.length - 1) []) (tw_len _ (Nat.le_refl _) hx (init_32 hr.2.1)).2 (hr.2.1.get (k := (r.length - 1)) (by rw [hr.2.2]; omega)))) ?_
    rintro _ h41 ⟨rfl,g⟩
    replace e0 := e0.ext g
    replace m3 := Ext.blk g m3
    replace m8 := Ext.blk g m8
    replace m16 := Ext.blk g m16
    replace m24 := Ext.blk g m24
    replace m33 := Ext.blk g m33
    replace sep := sep.up g.size
    refine ⟨?_,?_⟩
    ·intro j hj
     simp only [List.mem_cons,List.not_mem_nil,or_false] at hj
     rcases hj with rfl | rfl
     ·exact goodOf (Calm.load (T := 23) (p := ⟨h13.size,0,none⟩) (by kernel_rfl) (Loads.hash (by kernel_rfl) (root_len (hL.2.1.take _)) m16))
     ·exact goodOf (Calm.load (T := 23) (p := ⟨h21.size,0,none⟩) (by kernel_rfl) (Loads.hash (by kernel_rfl) (root_len (hL.2.1.drop _)) m24))
    clear g
    refine SimK.eff0 (i := 5) (D' := 63) (X' := 63) (by kernel_rfl) (by kernel_rfl) (by kernel_rfl) (by kernel_rfl) (Does.call (f := 37) (args := #[.agg ((root (L.take (half n))).map bv).toArray,.agg ((root (L.drop (half n))).map bv).toArray]) (by kernel_rfl) (rnode_sat _ (root (L.take (half n))) (root (L.drop (half n))) (root_len (hL.2.1.take _)) (root_len (hL.2.1.drop _)))) ?_
    rintro _ h42 ⟨rfl,g⟩
    replace e0 := e0.ext g
    replace m3 := Ext.blk g m3
    replace m8 := Ext.blk g m8
    replace m16 := Ext.blk g m16
    replace m24 := Ext.blk g m24
    replace m33 := Ext.blk g m33
    replace sep := sep.up g.size
    clear g
    refine mF 127 6 (.bool (decide (nodeH ((twV x m (half n) (initH r) whole).2.1) (r.getD (r.length - 1) []) = nodeH (root (L.take (half n))) (root (L.drop (half n)))))) (eqH1 (l := nodeH ((twV x m (half n) (initH r) whole).2.1) (r.getD (r.length - 1) [])) (r := nodeH (root (L.take (half n))) (root (L.drop (half n)))) (n := 32) (by kernel_rfl) (node_len _ _) (node_len _ _)) ?_
    refine mP 255 [7] [.bool (decide (nodeH ((twV x m (half n) (initH r) whole).2.1) (r.getD (r.length - 1) []) = nodeH (root (L.take (half n))) (root (L.drop (half n)))))] ?_
    refine mD [(10,.bool (decide (nodeH ((twV x m (half n) (initH r) whole).2.1) (r.getD (r.length - 1) []) = nodeH (root (L.take (half n))) (root (L.drop (half n))))))] ?_
    clear hF a; intro a hF
    refine tK ?_
    refine cR ?_
    show retK Tryd.prog Tryd.f19 (fun v h' => v = .bool (prtB x m L r whole) ∧ Ext h h') .ret a h42
    refine ret_ok [.tmp 10] [.bool (decide (nodeH ((twV x m (half n) (initH r) whole).2.1) (r.getD (r.length - 1) []) = nodeH (root (L.take (half n))) (root (L.drop (half n)))))] (.bool (decide (nodeH ((twV x m (half n) (initH r) whole).2.1) (r.getD (r.length - 1) []) = nodeH (root (L.take (half n))) (root (L.drop (half n)))))) rfl hF ⟨rfl,trivial⟩ rfl ?_
    have hcb := prt_lo (a := x) (m := m) (L := L) (r := r) (w := whole) (by omega) hr0 (by rw [hLn]; omega)
    rw [hLn] at hcb
    exact ⟨congrArg Value.bool (by rw [hcb,if_neg (fun z => hc1 z.1)] <;> rfl),e0⟩
  ·skip
   replace hc29 := of_decide_eq_false hc29
   refine cN ?_
   refine tK ?_
   refine cS ?_
   refine cP 14 hF ?_
   refine sP 2 [nV m,nV (half n)] ?_
   refine s1 3 (.int .i64 ((m - (half n) : Nat) : Int)) (.int .i64 (IntKind.i64.wrap (((m : Nat) : Int) - ((half n : Nat) : Int)))) (congrArg (Value.int .i64) (w64' (by omega) (by omega) (by omega))) ?_
   refine sP 5 [nV n,nV (half n)] ?_
   refine s1 6 (.int .i64 ((n - (half n) : Nat) : Int)) (.int .i64 (IntKind.i64.wrap (((n : Nat) : Int) - ((half n : Nat) : Int)))) (congrArg (Value.int .i64) (w64' (by omega) (by omega) (by omega))) ?_
   refine sC 7 (.agg (x.map bv).toArray) (Calm.load (T := 23) (p := ⟨h.size,0,none⟩) (by kernel_rfl) (Loads.hash (by kernel_rfl) hx m3)) ?_
   refine sP 8 [.slice (some aa) (r.length - 1) vc] ?_
   refine SeqK.eff (k' := 9) (Does.call (f := 40) (args := #[.int .i64 ((m - (half n) : Nat) : Int),.int .i64 ((n - (half n) : Nat) : Int),.agg (x.map bv).toArray,.slice (some aa) (r.length - 1) vc,.bool false]) (by kernel_rfl) (fresh_all x hx _ vc (r.length - 1) _ (m - half n) (n - half n) (initH r) false (r.length - 1) (initH_len r) (Nat.le_refl _) (by omega) ((hr.ext e0).take (by omega)) (by omega) (by omega) (by omega))) rfl ?_
   rintro _ h43 ⟨rfl,g⟩
   replace e0 := e0.ext g
   replace m3 := Ext.blk g m3
   replace m8 := Ext.blk g m8
   replace m16 := Ext.blk g m16
   replace m24 := Ext.blk g m24
   replace sep := sep.up g.size
   clear g
   refine SeqK.eff (k' := 10) (Does.new (v := .pointer (some ⟨h43.size,0,none⟩)) (o := .cells (z32.map bv).toArray 23) (by kernel_rfl)) rfl ?_
   rintro _ h44 ⟨rfl,hh⟩
   have g45 : Ext h43 h44 := push_ext hh
   have m46 : h44[h43.size]? = some (.cells (z32.map bv).toArray 23) := push_at hh
   clear hh
   have lt47 := blk_lt m46
   have zs48 := e0.size
   have hlo := e0.size
   have sepo := sep
   replace e0 := e0.ext g45
   replace m3 := Ext.blk g45 m3
   replace m8 := Ext.blk g45 m8
   replace m16 := Ext.blk g45 m16
   replace m24 := Ext.blk g45 m24
   replace sep := sep.up g45.size
   replace sep := sepo.new hlo (blk_lt m46)
   clear sepo hlo
   refine SeqK.eff (k' := 11) (Does.store (b := h43.size) (off := 0) (vs := ((twV x (m - half n) (n - half n) (initH r) false).2.1).map bv) (l := z32.map bv) (storeOp_of (by kernel_rfl) (hlm (tw_len _ (Nat.le_refl _) hx (init_32 hr.2.1)).2)) m46 (hfit rfl (tw_len _ (Nat.le_refl _) hx (init_32 hr.2.1)).2) (ones_map _)) rfl ?_
   rintro _ h49 ⟨rfl,hh⟩
   have g50 : Grew (some (h43.size)) h44 h49 := hput_gr hh
   replace m46 : h49[h43.size]? = some (.cells (((twV x (m - half n) (n - half n) (initH r) false).2.1).map bv).toArray 23) := hput_at (off := 0) (vs := ((twV x (m - half n) (n - half n) (initH r) false).2.1).map bv) (l := (z32.map bv)) hh (hsplice rfl (tw_len _ (Nat.le_refl _) hx (init_32 hr.2.1)).2) m46
   clear hh
   replace e0 := e0.grew g50 (sep.low 0 rfl)
   replace m3 := Grew.blk g50 m3 ((sep.bp 4 0))
   replace m8 := Grew.blk g50 m8 ((sep.bp 3 0))
   replace m16 := Grew.blk g50 m16 ((sep.bp 2 0))
   replace m24 := Grew.blk g50 m24 ((sep.bp 1 0))
   replace sep := sep.up g50.size
   refine sD [(0,nV m),(1,.slice vb n vd),(7,pV h.size),(12,nV (half n)),(13,pV h1.size),(14,.slice (some aa) (r.length - 1) vc),(15,pV h13.size),(16,pV h21.size),(18,pV h43.size)] ?_
   clear hF a; intro a hF
   refine tK ?_
   refine cS ?_
   refine cS ?_
   rcases Decidable.em ((twV x (m - half n) (n - half n) (initH r) false).2.1 = root (L.drop (half n))) with hc1 | hc1
   rcases Decidable.em (r.getD (r.length - 1) [] = root (L.take (half n))) with hc2 | hc2
   ·skip
    refine cP 15 hF ?_
    refine sC 1 (.agg (((twV x (m - half n) (n - half n) (initH r) false).2.1).map bv).toArray) (Calm.load (T := 23) (p := ⟨h43.size,0,none⟩) (by kernel_rfl) (Loads.hash (by kernel_rfl) (tw_len _ (Nat.le_refl _) hx (init_32 hr.2.1)).2 m46)) ?_
    refine sC 2 (.agg ((root (L.drop (half n))).map bv).toArray) (Calm.load (T := 23) (p := ⟨h21.size,0,none⟩) (by kernel_rfl) (Loads.hash (by kernel_rfl) (root_len (hL.2.1.drop _)) m24)) ?_
    refine sC 3 (.bool false) ((eqHT (q := false) (l := (twV x (m - half n) (n - half n) (initH r) false).2.1) (r := root (L.drop (half n))) (n := 32) (by kernel_rfl) (tw_len _ (Nat.le_refl _) hx (init_32 hr.2.1)).2 (root_len (hL.2.1.drop _)) hc1) _) ?_
    refine sP 4 [.bool false] ?_
    refine sC 5 (.agg ((r.getD (r.length - 1) []).map bv).toArray) (Calm.load (T := 23) (p := ⟨h1.size,0,none⟩) (by kernel_rfl) (Loads.hash (by kernel_rfl) (hr.2.1.get (k := (r.length - 1)) (by rw [hr.2.2]; omega)) m8)) ?_
    refine sC 6 (.agg ((root (L.take (half n))).map bv).toArray) (Calm.load (T := 23) (p := ⟨h13.size,0,none⟩) (by kernel_rfl) (Loads.hash (by kernel_rfl) (root_len (hL.2.1.take _)) m16)) ?_
    refine sC 7 (.bool false) ((eqHT (q := false) (l := (r.getD (r.length - 1) [])) (r := root (L.take (half n))) (n := 32) (by kernel_rfl) (hr.2.1.get (k := (r.length - 1)) (by rw [hr.2.2]; omega)) (root_len (hL.2.1.take _)) hc2) _) ?_
    refine sP 8 [.bool false] ?_
    refine sD [(0,nV m),(1,.slice vb n vd),(7,pV h.size),(12,nV (half n)),(13,pV h1.size),(14,.slice (some aa) (r.length - 1) vc),(15,pV h13.size),(16,pV h21.size),(18,pV h43.size),(98,.bool false)] ?_
    clear hF a; intro a hF
    refine tK ?_
    refine cF 98 hF ?_
    refine cN ?_
    refine tK ?_
    refine cS ?_
    refine cD [0,0,3,0,0,24,0,0,255,511] 17 mixed hF ?_
    refine mP 3 [0,1] [nV m,nV (half n)] ?_
    refine m1 7 2 (.int .i64 ((m - (half n) : Nat) : Int)) (.int .i64 (IntKind.i64.wrap (((m : Nat) : Int) - ((half n : Nat) : Int)))) (congrArg (Value.int .i64) (w64' (by omega) (by omega) (by omega))) ?_
    refine mP 31 [3,4] [.slice vb n vd,nV (half n)] ?_
    refine mF 63 5 (.slice ad2 (n - half n) (vd - half n)) (fun h => Calm.sliceO (a := vb) (len := n) (cap := vd) (sz := 32) (x := ad2) (half n) n vd (n - half n) (vd - half n) (by kernel_rfl) (.inl ⟨rfl,rfl⟩) (.inl ⟨rfl,rfl⟩) (.inr rfl) (by omega) (by omega) had2 (by first | rfl | omega) (by first | rfl | omega) h) ?_
    refine mL 127 64 6 (.agg (x.map bv).toArray) (Calm.load (T := 23) (p := ⟨h.size,0,none⟩) (by kernel_rfl) (Loads.hash (by kernel_rfl) hx m3)) ?_
    refine mP 255 [7] [.slice (some aa) (r.length - 1) vc] ?_
    refine SimK.eff0 (i := 8) (D' := 511) (X' := 511) (by kernel_rfl) (by kernel_rfl) (by kernel_rfl) (by kernel_rfl) (Does.call (f := 19) (args := #[.int .i64 ((m - (half n) : Nat) : Int),.slice ad2 (n - half n) (vd - half n),.agg (x.map bv).toArray,.slice (some aa) (r.length - 1) vc,.bool false]) (by kernel_rfl) (ih _ (m - half n) (n - half n) (L.drop (half n)) _ _ (initH r) false (r.length - 1) (initH_len r) (by omega) ((hL.ext e0).drop (by omega) had2) ((hr.ext e0).take (by omega)) (by omega) (by omega))) ?_
    rintro _ h51 ⟨rfl,g⟩
    replace e0 := e0.ext g
    replace m3 := Ext.blk g m3
    replace m8 := Ext.blk g m8
    replace m16 := Ext.blk g m16
    replace m24 := Ext.blk g m24
    replace m46 := Ext.blk g m46
    replace sep := sep.up g.size
    clear g
    refine mP 1023 [9] [.bool (prtB x (m - half n) (L.drop (half n)) (initH r) false)] ?_
    refine mD [(10,.bool (prtB x (m - half n) (L.drop (half n)) (initH r) false))] ?_
    clear hF a; intro a hF
    refine tK ?_
    refine cR ?_
    show retK Tryd.prog Tryd.f19 (fun v h' => v = .bool (prtB x m L r whole) ∧ Ext h h') .ret a h51
    refine ret_ok [.tmp 10] [.bool (prtB x (m - half n) (L.drop (half n)) (initH r) false)] (.bool (prtB x (m - half n) (L.drop (half n)) (initH r) false)) rfl hF ⟨rfl,trivial⟩ rfl ?_
    have hcb := prt_hi (a := x) (m := m) (L := L) (r := r) (w := whole) (by omega) hr0 (by rw [hLn]; omega)
    rw [hLn] at hcb
    exact ⟨congrArg Value.bool (by rw [hcb,if_pos ⟨hc1,hc2⟩] <;> rfl),e0⟩
   ·skip
    refine cP 15 hF ?_
    refine sC 1 (.agg (((twV x (m - half n) (n - half n) (initH r) false).2.1).map bv).toArray) (Calm.load (T := 23) (p := ⟨h43.size,0,none⟩) (by kernel_rfl) (Loads.hash (by kernel_rfl) (tw_len _ (Nat.le_refl _) hx (init_32 hr.2.1)).2 m46)) ?_
    refine sC 2 (.agg ((root (L.drop (half n))).map bv).toArray) (Calm.load (T := 23) (p := ⟨h21.size,0,none⟩) (by kernel_rfl) (Loads.hash (by kernel_rfl) (root_len (hL.2.1.drop _)) m24)) ?_
    refine sC 3 (.bool false) ((eqHT (q := false) (l := (twV x (m - half n) (n - half n) (initH r) false).2.1) (r := root (L.drop (half n))) (n := 32) (by kernel_rfl) (tw_len _ (Nat.le_refl _) hx (init_32 hr.2.1)).2 (root_len (hL.2.1.drop _)) hc1) _) ?_
    refine sP 4 [.bool false] ?_
    refine sC 5 (.agg ((r.getD (r.length - 1) []).map bv).toArray) (Calm.load (T := 23) (p := ⟨h1.size,0,none⟩) (by kernel_rfl) (Loads.hash (by kernel_rfl) (hr.2.1.get (k := (r.length - 1)) (by rw [hr.2.2]; omega)) m8)) ?_
    refine sC 6 (.agg ((root (L.take (half n))).map bv).toArray) (Calm.load (T := 23) (p := ⟨h13.size,0,none⟩) (by kernel_rfl) (Loads.hash (by kernel_rfl) (root_len (hL.2.1.take _)) m16)) ?_
    refine sC 7 (.bool true) ((eqHF (q := false) (l := (r.getD (r.length - 1) [])) (r := root (L.take (half n))) (n := 32) (by kernel_rfl) (hr.2.1.get (k := (r.length - 1)) (by rw [hr.2.2]; omega)) (root_len (hL.2.1.take _)) hc2) _) ?_
    refine sP 8 [.bool true] ?_
    refine sD [(0,nV m),(1,.slice vb n vd),(7,pV h.size),(12,nV (half n)),(13,pV h1.size),(14,.slice (some aa) (r.length - 1) vc),(15,pV h13.size),(16,pV h21.size),(18,pV h43.size),(98,.bool true)] ?_
    clear hF a; intro a hF
    refine tK ?_
    refine cT 98 hF ?_
    refine cS ?_
    refine cD [0,0,3,0,0,31,63,127] 16 mixed hF ?_
    refine mL 1 1 0 (.agg ((r.getD (r.length - 1) []).map bv).toArray) (Calm.load (T := 23) (p := ⟨h1.size,0,none⟩) (by kernel_rfl) (Loads.hash (by kernel_rfl) (hr.2.1.get (k := (r.length - 1)) (by rw [hr.2.2]; omega)) m8)) ?_
    refine mL 3 3 1 (.agg (((twV x (m - half n) (n - half n) (initH r) false).2.1).map bv).toArray) (Calm.load (T := 23) (p := ⟨h43.size,0,none⟩) (by kernel_rfl) (Loads.hash (by kernel_rfl) (tw_len _ (Nat.le_refl _) hx (init_32 hr.2.1)).2 m46)) ?_
    refine mL 11 11 3 (.agg ((root (L.take (half n))).map bv).toArray) (Calm.load (T := 23) (p := ⟨h13.size,0,none⟩) (by kernel_rfl) (Loads.hash (by kernel_rfl) (root_len (hL.2.1.take _)) m16)) ?_
    refine mL 27 27 4 (.agg ((root (L.drop (half n))).map bv).toArray) (Calm.load (T := 23) (p := ⟨h21.size,0,none⟩) (by kernel_rfl) (Loads.hash (by kernel_rfl) (root_len (hL.2.1.drop _)) m24)) ?_
    refine SimK.eff (i := 2) (D' := 31) (X' := 7) (by kernel_rfl) (by kernel_rfl) (by kernel_rfl) [3,4] (by kernel_rfl) (Does.call (f := 37) (args := #[.agg ((r.getD (r.length - 1) []).map bv).toArray,.agg (((twV x (m - half n) (n - half n) (initH r) false).2.1).map bv).toArray]) (by kernel_rfl) (rnode_sat _ (r.getD (r.length - 1) []) ((twV x (m - half n) (n - half n) (initH r) false).2.1) (hr.2.1.get (k := (r.length - 1)) (by rw [hr.2.2]; omega)) (tw_len _ (Nat.le_refl _) hx (init_32 hr.2.1)).2)) ?_
    rintro _ h52 ⟨rfl,g⟩
    replace e0 := e0.ext g
    replace m3 := Ext.blk g m3
    replace m8 := Ext.blk g m8
    replace m16 := Ext.blk g m16
    replace m24 := Ext.blk g m24
    replace m46 := Ext.blk g m46
    replace sep := sep.up g.size
    refine ⟨?_,?_⟩
    ·intro j hj
     simp only [List.mem_cons,List.not_mem_nil,or_false] at hj
     rcases hj with rfl | rfl
     ·exact goodOf (Calm.load (T := 23) (p := ⟨h13.size,0,none⟩) (by kernel_rfl) (Loads.hash (by kernel_rfl) (root_len (hL.2.1.take _)) m16))
     ·exact goodOf (Calm.load (T := 23) (p := ⟨h21.size,0,none⟩) (by kernel_rfl) (Loads.hash (by kernel_rfl) (root_len (hL.2.1.drop _)) m24))
    clear g
    refine SimK.eff0 (i := 5) (D' := 63) (X' := 63) (by kernel_rfl) (by kernel_rfl) (by kernel_rfl) (by kernel_rfl) (Does.call (f := 37) (args := #[.agg ((root (L.take (half n))).map bv).toArray,.agg ((root (L.drop (half n))).map bv).toArray]) (by kernel_rfl) (rnode_sat _ (root (L.take (half n))) (root (L.drop (half n))) (root_len (hL.2.1.take _)) (root_len (hL.2.1.drop _)))) ?_
    rintro _ h53 ⟨rfl,g⟩
    replace e0 := e0.ext g
    replace m3 := Ext.blk g m3
    replace m8 := Ext.blk g m8
    replace m16 := Ext.blk g m16
    replace m24 := Ext.blk g m24
    replace m46 := Ext.blk g m46
    replace sep := sep.up g.size
    clear g
    refine mF 127 6 (.bool (decide (nodeH (r.getD (r.length - 1) []) ((twV x (m - half n) (n - half n) (initH r) false).2.1) = nodeH (root (L.take (half n))) (root (L.drop (half n)))))) (eqH1 (l := nodeH (r.getD (r.length - 1) []) ((twV x (m - half n) (n - half n) (initH r) false).2.1)) (r := nodeH (root (L.take (half n))) (root (L.drop (half n)))) (n := 32) (by kernel_rfl) (node_len _ _) (node_len _ _)) ?_
    refine mP 255 [7] [.bool (decide (nodeH (r.getD (r.length - 1) []) ((twV x (m - half n) (n - half n) (initH r) false).2.1) = nodeH (root (L.take (half n))) (root (L.drop (half n)))))] ?_
    refine mD [(10,.bool (decide (nodeH (r.getD (r.length - 1) []) ((twV x (m - half n) (n - half n) (initH r) false).2.1) = nodeH (root (L.take (half n))) (root (L.drop (half n))))))] ?_
    clear hF a; intro a hF
    refine tK ?_
    refine cR ?_
    show retK Tryd.prog Tryd.f19 (fun v h' => v = .bool (prtB x m L r whole) ∧ Ext h h') .ret a h53
    refine ret_ok [.tmp 10] [.bool (decide (nodeH (r.getD (r.length - 1) []) ((twV x (m - half n) (n - half n) (initH r) false).2.1) = nodeH (root (L.take (half n))) (root (L.drop (half n)))))] (.bool (decide (nodeH (r.getD (r.length - 1) []) ((twV x (m - half n) (n - half n) (initH r) false).2.1) = nodeH (root (L.take (half n))) (root (L.drop (half n)))))) rfl hF ⟨rfl,trivial⟩ rfl ?_
    have hcb := prt_hi (a := x) (m := m) (L := L) (r := r) (w := whole) (by omega) hr0 (by rw [hLn]; omega)
    rw [hLn] at hcb
    exact ⟨congrArg Value.bool (by rw [hcb,if_neg (fun z => hc2 z.2)] <;> rfl),e0⟩
   ·skip
    refine cP 15 hF ?_
    refine sC 1 (.agg (((twV x (m - half n) (n - half n) (initH r) false).2.1).map bv).toArray) (Calm.load (T := 23) (p := ⟨h43.size,0,none⟩) (by kernel_rfl) (Loads.hash (by kernel_rfl) (tw_len _ (Nat.le_refl _) hx (init_32 hr.2.1)).2 m46)) ?_
    refine sC 2 (.agg ((root (L.drop (half n))).map bv).toArray) (Calm.load (T := 23) (p := ⟨h21.size,0,none⟩) (by kernel_rfl) (Loads.hash (by kernel_rfl) (root_len (hL.2.1.drop _)) m24)) ?_
    refine sC 3 (.bool true) ((eqHF (q := false) (l := (twV x (m - half n) (n - half n) (initH r) false).2.1) (r := root (L.drop (half n))) (n := 32) (by kernel_rfl) (tw_len _ (Nat.le_refl _) hx (init_32 hr.2.1)).2 (root_len (hL.2.1.drop _)) hc1) _) ?_
    refine sP 8 [.bool true,undef,undef,undef,.bool true] ?_
    refine sD [(0,nV m),(1,.slice vb n vd),(7,pV h.size),(12,nV (half n)),(13,pV h1.size),(14,.slice (some aa) (r.length - 1) vc),(15,pV h13.size),(16,pV h21.size),(18,pV h43.size),(98,.bool true)] ?_
    clear hF a; intro a hF
    refine tK ?_
    refine cT 98 hF ?_
    refine cS ?_
    refine cD [0,0,3,0,0,31,63,127] 16 mixed hF ?_
    refine mL 1 1 0 (.agg ((r.getD (r.length - 1) []).map bv).toArray) (Calm.load (T := 23) (p := ⟨h1.size,0,none⟩) (by kernel_rfl) (Loads.hash (by kernel_rfl) (hr.2.1.get (k := (r.length - 1)) (by rw [hr.2.2]; omega)) m8)) ?_
    refine mL 3 3 1 (.agg (((twV x (m - half n) (n - half n) (initH r) false).2.1).map bv).toArray) (Calm.load (T := 23) (p := ⟨h43.size,0,none⟩) (by kernel_rfl) (Loads.hash (by kernel_rfl) (tw_len _ (Nat.le_refl _) hx (init_32 hr.2.1)).2 m46)) ?_
    refine mL 11 11 3 (.agg ((root (L.take (half n))).map bv).toArray) (Calm.load (T := 23) (p := ⟨h13.size,0,none⟩) (by kernel_rfl) (Loads.hash (by kernel_rfl) (root_len (hL.2.1.take _)) m16)) ?_
    refine mL 27 27 4 (.agg ((root (L.drop (half n))).map bv).toArray) (Calm.load (T := 23) (p := ⟨h21.size,0,none⟩) (by kernel_rfl) (Loads.hash (by kernel_rfl) (root_len (hL.2.1.drop _)) m24)) ?_
    refine SimK.eff (i := 2) (D' := 31) (X' := 7) (by kernel_rfl) (by kernel_rfl) (by kernel_rfl) [3,4] (by kernel_rfl) (Does.call (f := 37) (args := #[.agg ((r.getD (r.length - 1) []).map bv).toArray,.agg (((twV x (m - half n) (n - half n) (initH r) false).2.1).map bv).toArray]) (by kernel_rfl) (rnode_sat _ (r.getD (r.length - 1) []) ((twV x (m - half n) (n - half n) (initH r) false).2.1) (hr.2.1.get (k := (r.length - 1)) (by rw [hr.2.2]; omega)) (tw_len _ (Nat.le_refl _) hx (init_32 hr.2.1)).2)) ?_
    rintro _ h54 ⟨rfl,g⟩
    replace e0 := e0.ext g
    replace m3 := Ext.blk g m3
    replace m8 := Ext.blk g m8
    replace m16 := Ext.blk g m16
    replace m24 := Ext.blk g m24
    replace m46 := Ext.blk g m46
    replace sep := sep.up g.size
    refine ⟨?_,?_⟩
    ·intro j hj
     simp only [List.mem_cons,List.not_mem_nil,or_false] at hj
     rcases hj with rfl | rfl
     ·exact goodOf (Calm.load (T := 23) (p := ⟨h13.size,0,none⟩) (by kernel_rfl) (Loads.hash (by kernel_rfl) (root_len (hL.2.1.take _)) m16))
     ·exact goodOf (Calm.load (T := 23) (p := ⟨h21.size,0,none⟩) (by kernel_rfl) (Loads.hash (by kernel_rfl) (root_len (hL.2.1.drop _)) m24))
    clear g
    refine SimK.eff0 (i := 5) (D' := 63) (X' := 63) (by kernel_rfl) (by kernel_rfl) (by kernel_rfl) (by kernel_rfl) (Does.call (f := 37) (args := #[.agg ((root (L.take (half n))).map bv).toArray,.agg ((root (L.drop (half n))).map bv).toArray]) (by kernel_rfl) (rnode_sat _ (root (L.take (half n))) (root (L.drop (half n))) (root_len (hL.2.1.take _)) (root_len (hL.2.1.drop _)))) ?_
    rintro _ h55 ⟨rfl,g⟩
    replace e0 := e0.ext g
    replace m3 := Ext.blk g m3
    replace m8 := Ext.blk g m8
    replace m16 := Ext.blk g m16
    replace m24 := Ext.blk g m24
    replace m46 := Ext.blk g m46
    replace sep := sep.up g.size
    clear g
    refine mF 127 6 (.bool (decide (nodeH (r.getD (r.length - 1) []) ((twV x (m - half n) (n - half n) (initH r) false).2.1) = nodeH (root (L.take (half n))) (root (L.drop (half n)))))) (eqH1 (l := nodeH (r.getD (r.length - 1) []) ((twV x (m - half n) (n - half n) (initH r) false).2.1)) (r := nodeH (root (L.take (half n))) (root (L.drop (half n)))) (n := 32) (by kernel_rfl) (node_len _ _) (node_len _ _)) ?_
    refine mP 255 [7] [.bool (decide (nodeH (r.getD (r.length - 1) []) ((twV x (m - half n) (n - half n) (initH r) false).2.1) = nodeH (root (L.take (half n))) (root (L.drop (half n)))))] ?_
    refine mD [(10,.bool (decide (nodeH (r.getD (r.length - 1) []) ((twV x (m - half n) (n - half n) (initH r) false).2.1) = nodeH (root (L.take (half n))) (root (L.drop (half n))))))] ?_
    clear hF a; intro a hF
    refine tK ?_
    refine cR ?_
    show retK Tryd.prog Tryd.f19 (fun v h' => v = .bool (prtB x m L r whole) ∧ Ext h h') .ret a h55
    refine ret_ok [.tmp 10] [.bool (decide (nodeH (r.getD (r.length - 1) []) ((twV x (m - half n) (n - half n) (initH r) false).2.1) = nodeH (root (L.take (half n))) (root (L.drop (half n)))))] (.bool (decide (nodeH (r.getD (r.length - 1) []) ((twV x (m - half n) (n - half n) (initH r) false).2.1) = nodeH (root (L.take (half n))) (root (L.drop (half n)))))) rfl hF ⟨rfl,trivial⟩ rfl ?_
    have hcb := prt_hi (a := x) (m := m) (L := L) (r := r) (w := whole) (by omega) hr0 (by rw [hLn]; omega)
    rw [hLn] at hcb
    exact ⟨congrArg Value.bool (by rw [hcb,if_neg (fun z => hc1 z.1)] <;> rfl),e0⟩
theorem parts_all (x : Hs) (hx : x.length = 32) (va : Option Addr) (vc : Nat) : ∀ (q : Nat) (h : Heap) (m n : Nat) (L : List Hs) (vb : Option Addr) (vd : Nat) (r : List Hs) (whole : Bool) (k : Nat),r.length = k → k ≤ q → q ≤ 1099511627776 → HR h vb vd n L → HR h va vc k r → 0 < m → n ≤ 1099511627000 → Sat Tryd.prog 19 #[.int .i64 ((m : Nat) : Int),.slice vb n vd,.agg (x.map bv).toArray,.slice va k vc,.bool whole] h (fun v h' => v = .bool (prtB x m L r whole) ∧ Ext h h')
 | 0,h,m,n,L,vb,vd,r,whole,k,hk,hq,hql,hL,hr,hmn,hn => by subst hk; exact parts_step x hx va vc r.length (fun _ _ _ _ _ _ _ _ _ _ hlt => by omega) h m n L vb vd r whole rfl hL hr hmn hn (by omega)
 | q + 1,h,m,n,L,vb,vd,r,whole,k,hk,hq,hql,hL,hr,hmn,hn => by subst hk; exact parts_step x hx va vc r.length (fun h m n L vb vd r whole k hk hlt hL hr hmn hn => parts_all x hx va vc q h m n L vb vd r whole k hk (by omega) (by omega) hL hr hmn hn) h m n L vb vd r whole rfl hL hr hmn hn (by omega)
end Go.Proofs.YteinikjbaaembaaDoor
