/- Walks of chunks: what each function computes, as a law of its calls. No condition but those that each theorem names. -/
import Derived.Test.YtkjlafiefgbjpaaDoorVerC
import Derived.Test.YtkjlafiefgbjpaaDoorChkMath
namespace Go.Proofs.YtkjlafiefgbjpaaDoor
open Go Go.Lane Go.Sha
noncomputable def b14 : Code := Tryd.f14.body.getD .skip
theorem check7_sat (h : Heap) (c : List UInt8) (va : Option Addr) (vc : Nat) (hr : Row h (.slice va c.length vc) c.length 1 (c.map bv)) (hcl : c.length ≤ 1099511627000) (i n : Int) (hn2 : n ≤ 9223372036854775807) (r : List Hs) (wa : Option Addr) (wc : Nat) (hp : HR h wa wc r.length r) (hrl : r.length ≤ 1099511627776) (t : Hs) (ht : t.length = 32) (hlt : c = [] ∨ ∀ k,blkOf (.slice va c.length vc) = some k → k < h.size) (hz0 : r = [] ∨ ∀ k,wa.map (fun (x : Addr) => x.block) = some k → k < h.size) (kt : Ktab h) : Sat Tryd.prog 14 #[.slice va c.length vc,.int .i64 i,.int .i64 n,.slice wa r.length wc,.agg (t.map bv).toArray] h fun v h' => v = .bool (chkB c i n r t) ∧ Ext h h' := by
 have e0 := Ext.refl h
 have h0s := kt.lt
 have sep : Sep h.size h.size [] := Sep.nil _ _
 refine sat_of (args := [.slice va c.length vc,.int .i64 i,.int .i64 n,.slice wa r.length wc,.agg (t.map bv).toArray]) (fn := Tryd.f14) (B := b14) (n := 42) (L := [(0,.slice va c.length vc),(1,.int .i64 i),(2,.int .i64 n),(3,.slice wa r.length wc),(4,.agg (t.map bv).toArray)]) Tryd.func14 rfl (by kernel_rfl) rfl ?_
 intro a hF
 refine cS ?_
 refine cP 0 hF ?_
 refine SeqK.eff (k' := 1) (Does.new (v := .pointer (some ⟨h.size,0,none⟩)) (o := .cells (t.map bv).toArray 31) (by kernel_rfl)) rfl ?_
 rintro _ h1 ⟨rfl,hh⟩
 have g2 : Ext h h1 := push_ext hh
 have m3 : h1[h.size]? = some (.cells (t.map bv).toArray 31) := push_at hh
 clear hh
 have lt4 := blk_lt m3
 have zs5 := e0.size
 have hlo := e0.size
 have sepo := sep
 replace e0 := e0.ext g2
 replace kt := kt.ext g2
 replace sep := sep.up g2.size
 replace sep := sepo.new hlo (blk_lt m3)
 clear sepo hlo
 refine sP 2 [.bool false] ?_
 refine sD [(0,.slice va c.length vc),(1,.int .i64 i),(2,.int .i64 n),(3,.slice wa r.length wc),(9,pV h.size)] ?_
 clear hF a; intro a hF
 refine tK ?_
 refine cS ?_
 refine cS ?_
 rcases Int.lt_or_le n 1 with hn1 | hn1
 rotate_left 1
 obtain ⟨nn,rfl⟩ : ∃ nn : Nat,n = ((nn : Nat) : Int) := ⟨n.toNat,by omega⟩
 rcases Int.lt_or_le i 0 with hi0 | hi0
 rotate_left 1
 obtain ⟨ii,rfl⟩ : ∃ ii : Nat,i = ((ii : Nat) : Int) := ⟨i.toNat,by omega⟩
 rcases Nat.lt_or_ge ii ((nn - 1) / 64 + 1) with hi1 | hi1
 rcases Nat.decEq c.length (min 64 (nn - ii * 64)) with hc | hc
 ·skip
  refine cP 1 hF ?_
  refine sP 1 [nV nn] ?_
  refine s1 2 (.bool false) (.bool (decide (((nn : Nat) : Int) < (1 : Int)))) (congrArg Value.bool (decide_eq_false (by omega))) ?_
  refine sD [(0,.slice va c.length vc),(1,nV ii),(2,nV nn),(3,.slice wa r.length wc),(9,pV h.size),(13,.bool false)] ?_
  clear hF a; intro a hF
  refine tK ?_
  refine cF 13 hF ?_
  refine cN ?_
  refine tK ?_
  refine cS ?_
  refine cP 3 hF ?_
  refine sP 1 [nV nn] ?_
  refine s1 2 (.int .i64 ((nn - 1 : Nat) : Int)) (.int .i64 (IntKind.i64.wrap (((nn : Nat) : Int) - 1))) (congrArg (Value.int .i64) (w64' (by omega) (by omega) (by omega))) ?_
  refine s1 3 (.int .i64 (((nn - 1) / 64 : Nat) : Int)) (.int .i64 (IntKind.i64.wrap (Int.tdiv ((nn - 1 : Nat) : Int) 64))) (congrArg (Value.int .i64) ((congrArg IntKind.i64.wrap (tdivN (nn - 1) 64)).trans (w64 (by omega) (by omega)))) ?_
  refine s1 4 (.int .i64 ((((nn - 1) / 64) + 1 : Nat) : Int)) (.int .i64 (IntKind.i64.wrap ((((nn - 1) / 64 : Nat) : Int) + 1))) (congrArg (Value.int .i64) (w64' (by omega) (by omega) (by omega))) ?_
  refine sP 5 [nV (((nn - 1) / 64) + 1)] ?_
  refine sD [(0,.slice va c.length vc),(1,nV ii),(2,nV nn),(3,.slice wa r.length wc),(9,pV h.size),(11,nV (((nn - 1) / 64) + 1))] ?_
  clear hF a; intro a hF
  refine tK ?_
  refine cS ?_
  refine cS ?_
  refine cP 4 hF ?_
  refine sP 1 [nV ii] ?_
  refine s1 2 (.bool false) (.bool (decide (((ii : Nat) : Int) < (0 : Int)))) (congrArg Value.bool (decide_eq_false (by omega))) ?_
  refine sP 5 [.bool false,nV ii,nV (((nn - 1) / 64) + 1)] ?_
  refine s1 6 (.bool false) (.bool (decide (((((nn - 1) / 64) + 1 : Nat) : Int) ≤ ((ii : Nat) : Int)))) (congrArg Value.bool (decide_eq_false (by omega))) ?_
  refine sP 12 [.bool false,.bool false,.slice va c.length vc,nV c.length,nV nn,nV ii] ?_
  refine s1 13 (.int .i64 ((ii * 64 : Nat) : Int)) (.int .i64 (IntKind.i64.wrap (((ii : Nat) : Int) * 64))) (congrArg (Value.int .i64) (w64' (by omega) (by omega) (by omega))) ?_
  refine s1 14 (.int .i64 ((nn - (ii * 64) : Nat) : Int)) (.int .i64 (IntKind.i64.wrap (((nn : Nat) : Int) - ((ii * 64 : Nat) : Int)))) (congrArg (Value.int .i64) (w64' (by omega) (by omega) (by omega))) ?_
  refine s1 15 (.int .i64 ((min 64 (nn - (ii * 64)) : Nat) : Int)) (.int .i64 (if ((nn - (ii * 64) : Nat) : Int) < (64 : Int) then ((nn - (ii * 64) : Nat) : Int) else (64 : Int))) (congrArg (Value.int .i64) (by rw [Nat.min_def]; split <;> split <;> omega)) ?_
  refine s1 16 (.bool true) (.bool (!(((c.length : Nat) : Int) == ((min 64 (nn - (ii * 64)) : Nat) : Int)))) (congrArg (fun b => Value.bool (!b)) (beq_eq_false_iff_ne.2 (by omega))) ?_
  refine sP 17 [.bool true] ?_
  refine sD [(0,.slice va c.length vc),(1,nV ii),(3,.slice wa r.length wc),(9,pV h.size),(11,nV (((nn - 1) / 64) + 1)),(34,.bool true)] ?_
  clear hF a; intro a hF
  refine tK ?_
  refine cT 34 hF ?_
  refine cS ?_
  refine cP 5 hF ?_
  refine sP 1 [.bool false] ?_
  refine sD [(10,.bool false)] ?_
  clear hF a; intro a hF
  refine tK ?_
  refine cR ?_
  show retK Tryd.prog Tryd.f14 (fun v h' => v = .bool (chkB c ((ii : Nat) : Int) ((nn : Nat) : Int) r t) ∧ Ext h h') .ret a h1
  refine ret_ok [.tmp 10] [.bool false] (.bool false) rfl hF ⟨rfl,trivial⟩ rfl ?_
  exact ⟨by rw [chk_no (by omega) (by omega)],e0⟩
 ·skip
  refine cP 1 hF ?_
  refine sP 1 [nV nn] ?_
  refine s1 2 (.bool false) (.bool (decide (((nn : Nat) : Int) < (1 : Int)))) (congrArg Value.bool (decide_eq_false (by omega))) ?_
  refine sD [(0,.slice va c.length vc),(1,nV ii),(2,nV nn),(3,.slice wa r.length wc),(9,pV h.size),(13,.bool false)] ?_
  clear hF a; intro a hF
  refine tK ?_
  refine cF 13 hF ?_
  refine cN ?_
  refine tK ?_
  refine cS ?_
  refine cP 3 hF ?_
  refine sP 1 [nV nn] ?_
  refine s1 2 (.int .i64 ((nn - 1 : Nat) : Int)) (.int .i64 (IntKind.i64.wrap (((nn : Nat) : Int) - 1))) (congrArg (Value.int .i64) (w64' (by omega) (by omega) (by omega))) ?_
  refine s1 3 (.int .i64 (((nn - 1) / 64 : Nat) : Int)) (.int .i64 (IntKind.i64.wrap (Int.tdiv ((nn - 1 : Nat) : Int) 64))) (congrArg (Value.int .i64) ((congrArg IntKind.i64.wrap (tdivN (nn - 1) 64)).trans (w64 (by omega) (by omega)))) ?_
  refine s1 4 (.int .i64 ((((nn - 1) / 64) + 1 : Nat) : Int)) (.int .i64 (IntKind.i64.wrap ((((nn - 1) / 64 : Nat) : Int) + 1))) (congrArg (Value.int .i64) (w64' (by omega) (by omega) (by omega))) ?_
  refine sP 5 [nV (((nn - 1) / 64) + 1)] ?_
  refine sD [(0,.slice va c.length vc),(1,nV ii),(2,nV nn),(3,.slice wa r.length wc),(9,pV h.size),(11,nV (((nn - 1) / 64) + 1))] ?_
  clear hF a; intro a hF
  refine tK ?_
  refine cS ?_
  refine cS ?_
  refine cP 4 hF ?_
  refine sP 1 [nV ii] ?_
  refine s1 2 (.bool false) (.bool (decide (((ii : Nat) : Int) < (0 : Int)))) (congrArg Value.bool (decide_eq_false (by omega))) ?_
  refine sP 5 [.bool false,nV ii,nV (((nn - 1) / 64) + 1)] ?_
  refine s1 6 (.bool false) (.bool (decide (((((nn - 1) / 64) + 1 : Nat) : Int) ≤ ((ii : Nat) : Int)))) (congrArg Value.bool (decide_eq_false (by omega))) ?_
  refine sP 12 [.bool false,.bool false,.slice va c.length vc,nV c.length,nV nn,nV ii] ?_
  refine s1 13 (.int .i64 ((ii * 64 : Nat) : Int)) (.int .i64 (IntKind.i64.wrap (((ii : Nat) : Int) * 64))) (congrArg (Value.int .i64) (w64' (by omega) (by omega) (by omega))) ?_
  refine s1 14 (.int .i64 ((nn - (ii * 64) : Nat) : Int)) (.int .i64 (IntKind.i64.wrap (((nn : Nat) : Int) - ((ii * 64 : Nat) : Int)))) (congrArg (Value.int .i64) (w64' (by omega) (by omega) (by omega))) ?_
  refine s1 15 (.int .i64 ((min 64 (nn - (ii * 64)) : Nat) : Int)) (.int .i64 (if ((nn - (ii * 64) : Nat) : Int) < (64 : Int) then ((nn - (ii * 64) : Nat) : Int) else (64 : Int))) (congrArg (Value.int .i64) (by rw [Nat.min_def]; split <;> split <;> omega)) ?_
  refine s1 16 (.bool false) (.bool (!(((c.length : Nat) : Int) == ((min 64 (nn - (ii * 64)) : Nat) : Int)))) (congrArg (fun b => Value.bool (!b)) (beq_iff_eq.2 (by omega))) ?_
  refine sP 17 [.bool false] ?_
  refine sD [(0,.slice va c.length vc),(1,nV ii),(3,.slice wa r.length wc),(9,pV h.size),(11,nV (((nn - 1) / 64) + 1)),(34,.bool false)] ?_
  clear hF a; intro a hF
  refine tK ?_
  refine cF 34 hF ?_
  refine cN ?_
  refine tK ?_
  refine cS ?_
  refine cD [0,1,0,0,0,0,63,127] 6 mixed hF ?_
  refine mP 29 [0,2,3,4] [.slice va c.length vc,nV ii,nV (((nn - 1) / 64) + 1),.slice wa r.length wc] ?_
  refine mL 61 32 5 (.agg (t.map bv).toArray) (Calm.load (T := 31) (p := ⟨h.size,0,none⟩) (by kernel_rfl) (Loads.hash (by kernel_rfl) ht m3)) ?_
  refine SimK.eff (i := 1) (D' := 63) (X' := 3) (by kernel_rfl) (by kernel_rfl) (by kernel_rfl) [5] (by kernel_rfl) (Does.call (f := 24) (args := #[.slice va c.length vc]) (by kernel_rfl) (leaf_sat _ c _ _ (hr.ext e0) (hlt.imp id fun z k e => Nat.lt_of_lt_of_le (z k e) e0.size) kt (by omega))) ?_
  rintro _ h6 ⟨rfl,g⟩
  replace e0 := e0.ext g
  replace kt := kt.ext g
  replace m3 := Ext.blk g m3
  replace sep := sep.up g.size
  refine ⟨?_,?_⟩
  ·intro j hj
   simp only [List.mem_cons,List.not_mem_nil,or_false] at hj
   subst hj
   exact goodOf (Calm.load (T := 31) (p := ⟨h.size,0,none⟩) (by kernel_rfl) (Loads.hash (by kernel_rfl) ht m3))
  clear g
  refine SimK.eff0 (i := 6) (D' := 127) (X' := 127) (by kernel_rfl) (by kernel_rfl) (by kernel_rfl) (by kernel_rfl) (Does.call (f := 23) (args := #[.agg ((leafH c).map bv).toArray,.int .i64 ((ii : Nat) : Int),.int .i64 ((((nn - 1) / 64) + 1 : Nat) : Int),.slice wa r.length wc,.agg (t.map bv).toArray]) (by kernel_rfl) (vincl_gen _ (leafH c) ((ii : Nat) : Int) (((nn - 1) / 64 + 1 : Nat) : Int) r _ _ t (leaf_len _) ht (hp.ext e0) (by omega) (by omega) kt (hz0.imp id fun z k e => Nat.lt_of_lt_of_le (z k e) e0.size))) ?_
  rintro _ h7 ⟨rfl,g⟩
  replace e0 := e0.ext g
  replace kt := kt.ext g
  replace m3 := Ext.blk g m3
  replace sep := sep.up g.size
  clear g
  refine mP 255 [7] [.bool (inclB (leafH c) ((ii : Nat) : Int) (((nn - 1) / 64 + 1 : Nat) : Int) r t)] ?_
  refine mD [(10,.bool (inclB (leafH c) ((ii : Nat) : Int) (((nn - 1) / 64 + 1 : Nat) : Int) r t))] ?_
  clear hF a; intro a hF
  refine tK ?_
  refine cR ?_
  show retK Tryd.prog Tryd.f14 (fun v h' => v = .bool (chkB c ((ii : Nat) : Int) ((nn : Nat) : Int) r t) ∧ Ext h h') .ret a h7
  refine ret_ok [.tmp 10] [.bool (inclB (leafH c) ((ii : Nat) : Int) (((nn - 1) / 64 + 1 : Nat) : Int) r t)] (.bool (inclB (leafH c) ((ii : Nat) : Int) (((nn - 1) / 64 + 1 : Nat) : Int) r t)) rfl hF ⟨rfl,trivial⟩ rfl ?_
  exact ⟨by rw [chk_yes (by omega) hi1 hc],e0⟩
 ·skip
  refine cP 1 hF ?_
  refine sP 1 [nV nn] ?_
  refine s1 2 (.bool false) (.bool (decide (((nn : Nat) : Int) < (1 : Int)))) (congrArg Value.bool (decide_eq_false (by omega))) ?_
  refine sD [(0,.slice va c.length vc),(1,nV ii),(2,nV nn),(3,.slice wa r.length wc),(9,pV h.size),(13,.bool false)] ?_
  clear hF a; intro a hF
  refine tK ?_
  refine cF 13 hF ?_
  refine cN ?_
  refine tK ?_
  refine cS ?_
  refine cP 3 hF ?_
  refine sP 1 [nV nn] ?_
  refine s1 2 (.int .i64 ((nn - 1 : Nat) : Int)) (.int .i64 (IntKind.i64.wrap (((nn : Nat) : Int) - 1))) (congrArg (Value.int .i64) (w64' (by omega) (by omega) (by omega))) ?_
  refine s1 3 (.int .i64 (((nn - 1) / 64 : Nat) : Int)) (.int .i64 (IntKind.i64.wrap (Int.tdiv ((nn - 1 : Nat) : Int) 64))) (congrArg (Value.int .i64) ((congrArg IntKind.i64.wrap (tdivN (nn - 1) 64)).trans (w64 (by omega) (by omega)))) ?_
  refine s1 4 (.int .i64 ((((nn - 1) / 64) + 1 : Nat) : Int)) (.int .i64 (IntKind.i64.wrap ((((nn - 1) / 64 : Nat) : Int) + 1))) (congrArg (Value.int .i64) (w64' (by omega) (by omega) (by omega))) ?_
  refine sP 5 [nV (((nn - 1) / 64) + 1)] ?_
  refine sD [(0,.slice va c.length vc),(1,nV ii),(2,nV nn),(3,.slice wa r.length wc),(9,pV h.size),(11,nV (((nn - 1) / 64) + 1))] ?_
  clear hF a; intro a hF
  refine tK ?_
  refine cS ?_
  refine cS ?_
  refine cP 4 hF ?_
  refine sP 1 [nV ii] ?_
  refine s1 2 (.bool false) (.bool (decide (((ii : Nat) : Int) < (0 : Int)))) (congrArg Value.bool (decide_eq_false (by omega))) ?_
  refine sP 5 [.bool false,nV ii,nV (((nn - 1) / 64) + 1)] ?_
  refine s1 6 (.bool true) (.bool (decide (((((nn - 1) / 64) + 1 : Nat) : Int) ≤ ((ii : Nat) : Int)))) (congrArg Value.bool (decide_eq_true (by omega))) ?_
  refine sP 17 [.bool true,.bool true,undef,undef,undef,undef,undef,undef,undef,undef,.bool true] ?_
  refine sD [(0,.slice va c.length vc),(1,nV ii),(3,.slice wa r.length wc),(9,pV h.size),(11,nV (((nn - 1) / 64) + 1)),(34,.bool true)] ?_
  clear hF a; intro a hF
  refine tK ?_
  refine cT 34 hF ?_
  refine cS ?_
  refine cP 5 hF ?_
  refine sP 1 [.bool false] ?_
  refine sD [(10,.bool false)] ?_
  clear hF a; intro a hF
  refine tK ?_
  refine cR ?_
  show retK Tryd.prog Tryd.f14 (fun v h' => v = .bool (chkB c ((ii : Nat) : Int) ((nn : Nat) : Int) r t) ∧ Ext h h') .ret a h1
  refine ret_ok [.tmp 10] [.bool false] (.bool false) rfl hF ⟨rfl,trivial⟩ rfl ?_
  exact ⟨by rw [chk_no (by omega) (by omega)],e0⟩
 ·skip
  refine cP 1 hF ?_
  refine sP 1 [.int .i64 n] ?_
  refine s1 2 (.bool true) (.bool (decide (n < (1 : Int)))) (congrArg Value.bool (decide_eq_true (by omega))) ?_
  refine sD [(0,.slice va c.length vc),(1,.int .i64 i),(2,.int .i64 n),(3,.slice wa r.length wc),(9,pV h.size),(13,.bool true)] ?_
  clear hF a; intro a hF
  refine tK ?_
  refine cT 13 hF ?_
  refine cS ?_
  refine cP 2 hF ?_
  refine sP 1 [.bool false] ?_
  refine sD [(10,.bool false)] ?_
  clear hF a; intro a hF
  refine tK ?_
  refine cR ?_
  show retK Tryd.prog Tryd.f14 (fun v h' => v = .bool (chkB c i n r t) ∧ Ext h h') .ret a h1
  refine ret_ok [.tmp 10] [.bool false] (.bool false) rfl hF ⟨rfl,trivial⟩ rfl ?_
  exact ⟨by rw [chk_small hn1],e0⟩
 ·skip
  refine cP 1 hF ?_
  refine sP 1 [nV nn] ?_
  refine s1 2 (.bool false) (.bool (decide (((nn : Nat) : Int) < (1 : Int)))) (congrArg Value.bool (decide_eq_false (by omega))) ?_
  refine sD [(0,.slice va c.length vc),(1,.int .i64 i),(2,nV nn),(3,.slice wa r.length wc),(9,pV h.size),(13,.bool false)] ?_
  clear hF a; intro a hF
  refine tK ?_
  refine cF 13 hF ?_
  refine cN ?_
  refine tK ?_
  refine cS ?_
  refine cP 3 hF ?_
  refine sP 1 [nV nn] ?_
  refine s1 2 (.int .i64 ((nn - 1 : Nat) : Int)) (.int .i64 (IntKind.i64.wrap (((nn : Nat) : Int) - 1))) (congrArg (Value.int .i64) (w64' (by omega) (by omega) (by omega))) ?_
  refine s1 3 (.int .i64 (((nn - 1) / 64 : Nat) : Int)) (.int .i64 (IntKind.i64.wrap (Int.tdiv ((nn - 1 : Nat) : Int) 64))) (congrArg (Value.int .i64) ((congrArg IntKind.i64.wrap (tdivN (nn - 1) 64)).trans (w64 (by omega) (by omega)))) ?_
  refine s1 4 (.int .i64 ((((nn - 1) / 64) + 1 : Nat) : Int)) (.int .i64 (IntKind.i64.wrap ((((nn - 1) / 64 : Nat) : Int) + 1))) (congrArg (Value.int .i64) (w64' (by omega) (by omega) (by omega))) ?_
  refine sP 5 [nV (((nn - 1) / 64) + 1)] ?_
  refine sD [(0,.slice va c.length vc),(1,.int .i64 i),(2,nV nn),(3,.slice wa r.length wc),(9,pV h.size),(11,nV (((nn - 1) / 64) + 1))] ?_
  clear hF a; intro a hF
  refine tK ?_
  refine cS ?_
  refine cS ?_
  refine cP 4 hF ?_
  refine sP 1 [.int .i64 i] ?_
  refine s1 2 (.bool true) (.bool (decide (i < (0 : Int)))) (congrArg Value.bool (decide_eq_true (by omega))) ?_
  refine sP 17 [.bool true,undef,undef,undef,.bool true,.bool true,undef,undef,undef,undef,undef,undef,undef,undef,.bool true] ?_
  refine sD [(0,.slice va c.length vc),(1,.int .i64 i),(3,.slice wa r.length wc),(9,pV h.size),(11,nV (((nn - 1) / 64) + 1)),(34,.bool true)] ?_
  clear hF a; intro a hF
  refine tK ?_
  refine cT 34 hF ?_
  refine cS ?_
  refine cP 5 hF ?_
  refine sP 1 [.bool false] ?_
  refine sD [(10,.bool false)] ?_
  clear hF a; intro a hF
  refine tK ?_
  refine cR ?_
  show retK Tryd.prog Tryd.f14 (fun v h' => v = .bool (chkB c i ((nn : Nat) : Int) r t) ∧ Ext h h') .ret a h1
  refine ret_ok [.tmp 10] [.bool false] (.bool false) rfl hF ⟨rfl,trivial⟩ rfl ?_
  exact ⟨by rw [chk_no (by omega) (by omega)],e0⟩
theorem check7_at (h : Heap) (c : List UInt8) (va : Option Addr) (vc : Nat) (hr : Row h (.slice va c.length vc) c.length 1 (c.map bv)) (hcl : c.length ≤ 1099511627000) (i n : Int) (hn2 : n ≤ 9223372036854775807) (r : List Hs) (wa : Option Addr) (wc : Nat) (hp : HR h wa wc r.length r) (hrl : r.length ≤ 1099511627776) (t : Hs) (ht : t.length = 32) (hlt : c = [] ∨ ∀ k,blkOf (.slice va c.length vc) = some k → k < h.size) (hz0 : r = [] ∨ ∀ k,wa.map (fun (x : Addr) => x.block) = some k → k < h.size) (kt : Ktab h) (q : Bool) (hq : chkB c i n r t = q) : Sat Tryd.prog 14 #[.slice va c.length vc,.int .i64 i,.int .i64 n,.slice wa r.length wc,.agg (t.map bv).toArray] h fun v h' => v = .bool q ∧ Ext h h' := by
 have := check7_sat h c va vc hr hcl i n hn2 r wa wc hp hrl t ht hlt hz0 kt
 rwa [hq] at this
end Go.Proofs.YtkjlafiefgbjpaaDoor
