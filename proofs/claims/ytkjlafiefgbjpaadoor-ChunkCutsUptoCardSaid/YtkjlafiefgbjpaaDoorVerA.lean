/- Walks of proofs held: what each function computes, as a law of its calls. No condition but those that each theorem names. -/
import Derived.Test.YtkjlafiefgbjpaaDoorVerMath
import Derived.Test.YtkjlafiefgbjpaaDoorTreeE
import Derived.Test.YtkjlafiefgbjpaaDoorTreeA
namespace Go.Proofs.YtkjlafiefgbjpaaDoor
open Go Go.Lane Go.Sha
noncomputable def b37 : Code := Tryd.f37.body.getD .skip
theorem vsplit_sat (h : Heap) (n : Nat) (hn : 2 ≤ n) (hn2 : n ≤ 9223372036854775807) : Sat Tryd.prog 37 #[.int .i64 ((n : Nat) : Int)] h fun v h' => v = .int .i64 ((half n : Nat) : Int) ∧ h' = h := by
 have hbl := bitlen_lt (x := n - 1) (k := 63) (by omega)
 have hbl2 : 1 ≤ bitlen (n - 1) := by unfold bitlen; rw [if_neg (by omega)]; omega
 refine sat_of (args := [.int .i64 ((n : Nat) : Int)]) (fn := Tryd.f37) (B := b37) (n := 9) (L := [(0,.int .i64 ((n : Nat) : Int))]) Tryd.func37 rfl (by kernel_rfl) rfl ?_
 intro a hF
 refine cS ?_
 refine cP 0 hF ?_
 refine sP 1 [.int .i64 0] ?_
 refine sD [(0,nV n)] ?_
 clear hF a; intro a hF
 refine tK ?_
 refine cS ?_
 refine cP 1 hF ?_
 refine sP 1 [nV n] ?_
 refine s1 2 (.int .i64 ((n - 1 : Nat) : Int)) (.int .i64 (IntKind.i64.wrap (((n : Nat) : Int) - 1))) (congrArg (Value.int .i64) (w64' (by omega) (by omega) (by omega))) ?_
 refine s1 3 (.int .u64 ((n - 1 : Nat) : Int)) (.int .u64 (IntKind.u64.wrap ((n - 1 : Nat) : Int))) (congrArg (Value.int .u64) (u64n (by omega))) ?_
 refine sC 4 (.int .i64 ((bitlen (n - 1) : Nat) : Int)) (Does.call (f := 44) (args := #[.int .u64 ((n - 1 : Nat) : Int)]) (by kernel_rfl) (len_sat _ (n - 1) (by omega))) ?_
 refine s1 5 (.int .i64 (((bitlen (n - 1)) - 1 : Nat) : Int)) (.int .i64 (IntKind.i64.wrap (((bitlen (n - 1) : Nat) : Int) - 1))) (congrArg (Value.int .i64) (w64' (by omega) (by omega) (by omega))) ?_
 refine sC 6 (.int .i64 ((2 ^ ((bitlen (n - 1)) - 1) : Nat) : Int)) ((Calm.shl1 ((bitlen (n - 1)) - 1) (by kernel_rfl) (by omega)) _) ?_
 refine sP 7 [nV (2 ^ ((bitlen (n - 1)) - 1))] ?_
 refine sD [(2,nV (2 ^ ((bitlen (n - 1)) - 1)))] ?_
 clear hF a; intro a hF
 refine tK ?_
 refine cR ?_
 show retK Tryd.prog Tryd.f37 (fun v h' => v = .int .i64 ((half n : Nat) : Int) ∧ h' = h) .ret a h
 refine ret_ok [.tmp 2] [.int .i64 ((2 ^ ((bitlen (n - 1)) - 1) : Nat) : Int)] (.int .i64 ((2 ^ ((bitlen (n - 1)) - 1) : Nat) : Int)) rfl hF ⟨rfl,trivial⟩ rfl ?_
 exact ⟨congrArg (fun z : Nat => Value.int .i64 (z : Int)) (half_shift hn),rfl⟩
noncomputable def b49 : Code := Tryd.f49.body.getD .skip
theorem below_sat (h : Heap) (n : Nat) (hn : 2 ≤ n) (hn2 : n ≤ 9223372036854775807) : Sat Tryd.prog 49 #[.int .i64 ((n : Nat) : Int)] h fun v h' => v = .int .i64 ((half n : Nat) : Int) ∧ h' = h := by
 refine sat_of (args := [.int .i64 ((n : Nat) : Int)]) (fn := Tryd.f49) (B := b49) (n := 12) (L := [(0,.int .i64 ((n : Nat) : Int))]) Tryd.func49 rfl (by kernel_rfl) rfl ?_
 intro a hF
 refine cS ?_
 refine cP 0 hF ?_
 refine sP 1 [.int .i64 0] ?_
 refine sD [(0,nV n)] ?_
 clear hF a; intro a hF
 refine tK ?_
 refine cS ?_
 refine cP 1 hF ?_
 refine sP 1 [.int .i64 1] ?_
 refine sD [(0,nV n),(3,.int .i64 1)] ?_
 clear hF a; intro a hF
 refine tK ?_
 refine cS ?_
 refine cB 0 ?_
 refine C.loop (fun m a h' => ∃ j : Nat,m = n - 2 ^ j ∧ (2 ^ j < n) ∧ (h = h') ∧ (Fr a 12 [(0,.int .i64 ((n : Nat) : Int)),(3,.int .i64 ((2 ^ j : Nat) : Int))])) (n - 1) [1,1,0,0,0] (by kernel_rfl) ⟨0,rfl,(by omega),rfl,hF⟩ ?_
 clear hF a
 rintro m a h1 ⟨j,rfl,hj,hh,hF⟩
 have hp := Nat.two_pow_pos j
 refine cS ?_
 refine cS ?_
 refine cP 2 hF ?_
 refine sP 3 [nV (2 ^ j),nV n,nV (2 ^ j)] ?_
 refine s1 4 (.int .i64 ((n - (2 ^ j) : Nat) : Int)) (.int .i64 (IntKind.i64.wrap (((n : Nat) : Int) - ((2 ^ j : Nat) : Int)))) (congrArg (Value.int .i64) (w64' (by omega) (by omega) (by omega))) ?_
 refine sP 5 [.bool (decide (((2 ^ j : Nat) : Int) < ((n - (2 ^ j) : Nat) : Int)))] ?_
 refine sD [(0,nV n),(3,nV (2 ^ j)),(8,.bool (decide (((2 ^ j : Nat) : Int) < ((n - (2 ^ j) : Nat) : Int))))] ?_
 clear hF a; intro a hF
 refine tK ?_
 refine cC 8 (decide (((2 ^ j : Nat) : Int) < ((n - (2 ^ j) : Nat) : Int))) hF (fun hc2 => ?_) (fun hc2 => ?_)
 ·skip
  replace hc2 := of_decide_eq_true hc2
  refine cN ?_
  refine tK ?_
  refine cB 1 ?_
  refine cP 3 hF ?_
  refine sP 1 [nV (2 ^ j)] ?_
  refine s1 2 (.int .i64 ((2 * (2 ^ j) : Nat) : Int)) (.int .i64 (IntKind.i64.wrap (2 * ((2 ^ j : Nat) : Int)))) (congrArg (Value.int .i64) (w64' (by omega) (by omega) (by omega))) ?_
  refine sP 3 [nV (2 * (2 ^ j))] ?_
  refine sD [(0,nV n),(3,nV (2 * (2 ^ j)))] ?_
  clear hF a; intro a hF
  have hk2 : 2 * 2 ^ j = 2 ^ (j + 1) := by rw [Nat.pow_succ,Nat.mul_comm]
  rw [hk2] at hF
  show ∃ m',m' < _ ∧ _
  refine ⟨_,?_,(j + 1),rfl,(by rw [Nat.pow_succ]; omega),hh,hF⟩
  omega
 ·skip
  replace hc2 := of_decide_eq_false hc2
  refine cX 0 ?_
  show C Tryd.prog (sub b49 [1,1,1]) _ a h1
  refine cS ?_
  refine cP 4 hF ?_
  refine sP 2 [nV (2 ^ j),nV (2 ^ j)] ?_
  refine sD [(2,nV (2 ^ j))] ?_
  clear hF a; intro a hF
  refine tK ?_
  refine cR ?_
  show retK Tryd.prog Tryd.f49 (fun v h' => v = .int .i64 ((half n : Nat) : Int) ∧ h' = h) .ret a h1
  refine ret_ok [.tmp 2] [.int .i64 ((2 ^ j : Nat) : Int)] (.int .i64 ((2 ^ j : Nat) : Int)) rfl hF ⟨rfl,trivial⟩ rfl ?_
  exact ⟨congrArg (fun z : Nat => Value.int .i64 (z : Int)) (half_eq hj (by omega)).symm,hh.symm⟩
noncomputable def b36 : Code := Tryd.f36.body.getD .skip
theorem pop_sat (h : Heap) (br : Nat) (r : List Hs) (va : Option Addr) (vc : Nat) (hm : h[br]? = some (.cells #[.slice va r.length vc] 26)) (hr : HR h va vc r.length r) (hz0 : r = [] ∨ va.map (fun (x : Addr) => x.block) ≠ some br ∧ ∀ k,va.map (fun (x : Addr) => x.block) = some k → k < h.size) (hn : r.length ≤ 1099511627776) : Sat Tryd.prog 36 #[.pointer (some ⟨br,0,none⟩)] h fun v h' => v = .tuple #[hv (if r.length = 0 then z32 else lastH r),.bool (decide (0 < r.length))] ∧ h'[br]? = some (.cells #[.slice va (r.length - 1) vc] 26) ∧ Grew (some br) h h' := by
 have h32 := hr.2.1
 have hb : br < h.size := blk_lt hm
 have g0 := Gr.refl (fun k => k = br) h
 refine sat_of (args := [.pointer (some ⟨br,0,none⟩)]) (fn := Tryd.f36) (B := b36) (n := 25) (L := [(0,.pointer (some ⟨br,0,none⟩))]) Tryd.func36 rfl (by kernel_rfl) rfl ?_
 intro a hF
 refine cS ?_
 refine cP 0 hF ?_
 refine SeqK.eff (k' := 1) (Does.new (v := .pointer (some ⟨h.size,0,none⟩)) (o := .cells (z32.map bv).toArray 31) (by kernel_rfl)) rfl ?_
 rintro _ h1 ⟨rfl,hh⟩
 have g2 : Ext h h1 := push_ext hh
 have m3 : h1[h.size]? = some (.cells (z32.map bv).toArray 31) := push_at hh
 clear hh
 have lt4 := blk_lt m3
 have zs5 := g0.1
 replace g0 := g0.ext g2
 replace hr := hr.ext g2
 replace hm := Ext.blk g2 hm
 refine sP 2 [.bool false] ?_
 refine sD [(0,pV br),(2,pV h.size)] ?_
 clear hF a; intro a hF
 refine tK ?_
 refine cS ?_
 refine cP 1 hF ?_
 refine sP 2 [pV br,pV br] ?_
 refine sC 3 (.slice va r.length vc) (Calm.load (T := 26) (p := ⟨br,0,none⟩) (by kernel_rfl) (Loads.one (k := 1) (by kernel_rfl) ((hcell_blk hm).trans rfl))) ?_
 refine sP 4 [.slice va r.length vc] ?_
 refine sD [(0,pV br),(2,pV h.size),(4,.slice va r.length vc)] ?_
 clear hF a; intro a hF
 refine tK ?_
 refine cS ?_
 refine cS ?_
 refine cP 2 hF ?_
 refine sP 3 [.slice va r.length vc,nV r.length,.bool (decide (((r.length : Nat) : Int) = (0 : Int)))] ?_
 refine sD [(0,pV br),(2,pV h.size),(4,.slice va r.length vc),(10,.bool (decide (((r.length : Nat) : Int) = (0 : Int))))] ?_
 clear hF a; intro a hF
 refine tK ?_
 refine cC 10 (decide (((r.length : Nat) : Int) = (0 : Int))) hF (fun hc6 => ?_) (fun hc6 => ?_)
 ·skip
  replace hc6 := of_decide_eq_true hc6
  refine cS ?_
  refine cP 3 hF ?_
  refine sP 1 [.agg #[.int .u8 0,.int .u8 0,.int .u8 0,.int .u8 0,.int .u8 0,.int .u8 0,.int .u8 0,.int .u8 0,.int .u8 0,.int .u8 0,.int .u8 0,.int .u8 0,.int .u8 0,.int .u8 0,.int .u8 0,.int .u8 0,.int .u8 0,.int .u8 0,.int .u8 0,.int .u8 0,.int .u8 0,.int .u8 0,.int .u8 0,.int .u8 0,.int .u8 0,.int .u8 0,.int .u8 0,.int .u8 0,.int .u8 0,.int .u8 0,.int .u8 0,.int .u8 0]] ?_
  refine SeqK.eff (k' := 2) (Does.store (b := h.size) (off := 0) (vs := ([0,0,0,0,0,0,0,0,0,0,0,0,0,0,0,0,0,0,0,0,0,0,0,0,0,0,0,0,0,0,0,0]).map bv) (l := z32.map bv) (storeOp_of (by kernel_rfl) (hlm rfl)) m3 (hfit rfl rfl) (ones_map _)) rfl ?_
  rintro _ h7 ⟨rfl,hh⟩
  have g8 : Grew (some (h.size)) h1 h7 := hput_gr hh
  replace m3 : h7[h.size]? = some (.cells (([0,0,0,0,0,0,0,0,0,0,0,0,0,0,0,0,0,0,0,0,0,0,0,0,0,0,0,0,0,0,0,0]).map bv).toArray 31) := hput_at (off := 0) (vs := ([0,0,0,0,0,0,0,0,0,0,0,0,0,0,0,0,0,0,0,0,0,0,0,0,0,0,0,0,0,0,0,0]).map bv) (l := (z32.map bv)) hh (hsplice rfl rfl) m3
  clear hh
  replace g0 := g0.grew g8 (fun i e => .inr (by cases e; omega))
  replace hr := hr.keepE g8 (hz0.imp id fun z e => by rw [e] at z; have := z.2 _ rfl; omega)
  replace hm := Grew.blk g8 hm (by simp; omega)
  refine sP 3 [.bool false] ?_
  refine sD [(2,pV h.size),(3,.bool false)] ?_
  clear hF a; intro a hF
  refine tK ?_
  refine cR ?_
  show retK Tryd.prog Tryd.f36 (fun v h' => v = .tuple #[hv (if r.length = 0 then z32 else lastH r),.bool (decide (0 < r.length))] ∧ h'[br]? = some (.cells #[.slice va (r.length - 1) vc] 26) ∧ Grew (some br) h h') .ret a h7
  refine ret_ok [.cell 2 31,.tmp 3] [.agg (([0,0,0,0,0,0,0,0,0,0,0,0,0,0,0,0,0,0,0,0,0,0,0,0,0,0,0,0,0,0,0,0]).map bv).toArray,.bool false] (.tuple #[.agg (([0,0,0,0,0,0,0,0,0,0,0,0,0,0,0,0,0,0,0,0,0,0,0,0,0,0,0,0,0,0,0,0]).map bv).toArray,.bool false]) rfl hF ⟨⟨_,rfl,Loads.hash (by kernel_rfl) rfl m3⟩,rfl,trivial⟩ rfl ?_
  exact ⟨by rw [if_pos (by omega),decide_eq_false (by omega)]; rfl,by rw [show r.length - 1 = r.length by omega]; exact hm,g0.toGrew⟩
 ·skip
  replace hc6 := of_decide_eq_false hc6
  obtain ⟨aa,rfl,hcap⟩ := hr.someA (by omega)
  refine cN ?_
  refine tK ?_
  refine cS ?_
  refine cP 4 hF ?_
  refine sP 4 [pV br,.slice (some aa) r.length vc,.slice (some aa) r.length vc,nV r.length] ?_
  refine s1 5 (.int .i64 ((r.length - 1 : Nat) : Int)) (.int .i64 (IntKind.i64.wrap (((r.length : Nat) : Int) - 1))) (congrArg (Value.int .i64) (w64' (by omega) (by omega) (by omega))) ?_
  refine sC 6 (.slice (some aa) (r.length - 1) vc) ((fun h => Calm.sliceO (a := (some aa)) (len := r.length) (cap := vc) (sz := 32) (x := (some aa)) 0 (r.length - 1) vc (r.length - 1) vc (by kernel_rfl) (.inl ⟨rfl,rfl⟩) (.inr rfl) (.inl ⟨rfl,rfl⟩) (by omega) (by omega) (opt_add0 _ 32) (by first | rfl | omega) (by first | rfl | omega) h) _) ?_
  refine sP 7 [pV br] ?_
  refine SeqK.eff (k' := 8) (Does.store (b := br) (off := 0) (vs := [.slice (some aa) (r.length - 1) vc]) (l := [.slice (some aa) r.length vc]) (by kernel_rfl) hm (of_decide_eq_true (by kernel_rfl)) (List.all_eq_true.1 (by kernel_rfl))) rfl ?_
  rintro _ h9 ⟨rfl,hh⟩
  have g10 : Grew (some (br)) h1 h9 := hput_gr hh
  replace hm : h9[br]? = some (.cells ([.slice (some aa) (r.length - 1) vc]).toArray 26) := hput_at (off := 0) (vs := [.slice (some aa) (r.length - 1) vc]) (l := ([.slice (some aa) r.length vc])) hh (by kernel_rfl) hm
  clear hh
  replace g0 := g0.grew g10 (fun i e => .inl (by cases e; rfl))
  replace hr := hr.keepE g10 (hz0.imp id (·.1))
  replace m3 := Grew.blk g10 m3 (by simp; omega)
  refine sD [(2,pV h.size),(4,.slice (some aa) r.length vc)] ?_
  clear hF a; intro a hF
  refine tK ?_
  refine cS ?_
  refine cP 5 hF ?_
  refine sP 3 [.slice (some aa) r.length vc,.slice (some aa) r.length vc,nV r.length] ?_
  refine s1 4 (.int .i64 ((r.length - 1 : Nat) : Int)) (.int .i64 (IntKind.i64.wrap (((r.length : Nat) : Int) - 1))) (congrArg (Value.int .i64) (w64' (by omega) (by omega) (by omega))) ?_
  refine sC 5 (.pointer (some (Addr.add aa ((r.length - 1) * 32)))) ((Calm.indexA (a := aa) (len := r.length) (sz := 32) (k := ((r.length - 1 : Nat) : Int)) (r.length - 1) ((r.length - 1) * 32) (by kernel_rfl) rfl (by omega) (by omega)) _) ?_
  refine sC 6 (.agg ((r.getD (r.length - 1) []).map bv).toArray) (Calm.load (T := 31) (p := (Addr.add aa ((r.length - 1) * 32))) (by kernel_rfl) (HR.loads (k := (r.length - 1)) (q := (r.length - 1) * 32) (hr) (by kernel_rfl) (by omega) (by omega))) ?_
  refine SeqK.eff (k' := 7) (Does.store (b := h.size) (off := 0) (vs := (r.getD (r.length - 1) []).map bv) (l := z32.map bv) (storeOp_of (by kernel_rfl) (hlm (hr.2.1.get (k := (r.length - 1)) (by rw [hr.2.2]; omega)))) m3 (hfit rfl (hr.2.1.get (k := (r.length - 1)) (by rw [hr.2.2]; omega))) (ones_map _)) rfl ?_
  rintro _ h11 ⟨rfl,hh⟩
  have g12 : Grew (some (h.size)) h9 h11 := hput_gr hh
  replace m3 : h11[h.size]? = some (.cells ((r.getD (r.length - 1) []).map bv).toArray 31) := hput_at (off := 0) (vs := (r.getD (r.length - 1) []).map bv) (l := (z32.map bv)) hh (hsplice rfl (hr.2.1.get (k := (r.length - 1)) (by rw [hr.2.2]; omega))) m3
  clear hh
  replace g0 := g0.grew g12 (fun i e => .inr (by cases e; omega))
  replace hr := hr.keepE g12 (hz0.imp id fun z e => by rw [e] at z; have := z.2 _ rfl; omega)
  replace hm := Grew.blk g12 hm (by simp; omega)
  refine sP 8 [.bool true] ?_
  refine sD [(2,pV h.size),(3,.bool true)] ?_
  clear hF a; intro a hF
  refine tK ?_
  refine cR ?_
  show retK Tryd.prog Tryd.f36 (fun v h' => v = .tuple #[hv (if r.length = 0 then z32 else lastH r),.bool (decide (0 < r.length))] ∧ h'[br]? = some (.cells #[.slice (some aa) (r.length - 1) vc] 26) ∧ Grew (some br) h h') .ret a h11
  refine ret_ok [.cell 2 31,.tmp 3] [.agg ((r.getD (r.length - 1) []).map bv).toArray,.bool true] (.tuple #[.agg ((r.getD (r.length - 1) []).map bv).toArray,.bool true]) rfl hF ⟨⟨_,rfl,Loads.hash (by kernel_rfl) (hr.2.1.get (k := (r.length - 1)) (by rw [hr.2.2]; omega)) m3⟩,rfl,trivial⟩ rfl ?_
  exact ⟨by rw [if_neg (by omega),decide_eq_true (by omega)]; rfl,hm,g0.toGrew⟩
theorem pop_no (h : Heap) (br : Nat) (r : List Hs) (va : Option Addr) (vc : Nat) (hm : h[br]? = some (.cells #[.slice va r.length vc] 26)) (hr : HR h va vc r.length r) (hz0 : r = [] ∨ va.map (fun (x : Addr) => x.block) ≠ some br ∧ ∀ k,va.map (fun (x : Addr) => x.block) = some k → k < h.size) (hn : r.length ≤ 1099511627776) (h0 : r.length = 0) :
  Sat Tryd.prog 36 #[.pointer (some ⟨br,0,none⟩)] h fun v h' => v = .tuple #[.agg (z32.map bv).toArray,.bool false] ∧ h'[br]? = some (.cells #[.slice va (r.length - 1) vc] 26) ∧ Grew (some br) h h' := by
 have := pop_sat h br r va vc hm hr hz0 hn
 rw [if_pos h0,decide_eq_false (by omega)] at this
 exact this
theorem pop_ok (h : Heap) (br : Nat) (r : List Hs) (va : Option Addr) (vc : Nat) (hm : h[br]? = some (.cells #[.slice va r.length vc] 26)) (hr : HR h va vc r.length r) (hz0 : r = [] ∨ va.map (fun (x : Addr) => x.block) ≠ some br ∧ ∀ k,va.map (fun (x : Addr) => x.block) = some k → k < h.size) (hn : r.length ≤ 1099511627776) (h0 : 0 < r.length) :
  Sat Tryd.prog 36 #[.pointer (some ⟨br,0,none⟩)] h fun v h' => v = .tuple #[.agg ((lastH r).map bv).toArray,.bool true] ∧ h'[br]? = some (.cells #[.slice va (r.length - 1) vc] 26) ∧ Grew (some br) h h' := by
 have := pop_sat h br r va vc hm hr hz0 hn
 rw [if_neg (by omega),decide_eq_true h0] at this
 exact this
end Go.Proofs.YtkjlafiefgbjpaaDoor
