/- Walks of chunks: what each function computes, as a law of its calls. No condition but those that each theorem names. -/
import Derived.Test.YtkjlafiefgbjpaaDoorChkD
import Derived.Test.YtkjlafiefgbjpaaDoorVerD
namespace Go.Proofs.YtkjlafiefgbjpaaDoor
open Go Go.Lane Go.Sha
noncomputable def b15 : Code := Tryd.f15.body.getD .skip
set_option maxHeartbeats 1000000 in
theorem rcheck7_sat (h : Heap) (c : List UInt8) (va : Option Addr) (vc : Nat) (hr : Row h (.slice va c.length vc) c.length 1 (c.map bv)) (hcl : c.length ≤ 1099511627000) (i n : Int) (hn2 : n ≤ 9223372036854775807) (r : List Hs) (wa : Option Addr) (wc : Nat) (hp : HR h wa wc r.length r) (hrl : r.length ≤ 1099511627776) (t : Hs) (ht : t.length = 32) : Sat Tryd.prog 15 #[.slice va c.length vc,.int .i64 i,.int .i64 n,.slice wa r.length wc,.agg (t.map bv).toArray] h fun v h' => v = .bool (chkB c i n r t) ∧ Ext h h' := by
 have e0 := Ext.refl h
 have sep : Sep h.size h.size [] := Sep.nil _ _
 refine sat_of (args := [.slice va c.length vc,.int .i64 i,.int .i64 n,.slice wa r.length wc,.agg (t.map bv).toArray]) (fn := Tryd.f15) (B := b15) (n := 48) (L := [(0,.slice va c.length vc),(1,.int .i64 i),(2,.int .i64 n),(3,.slice wa r.length wc),(4,.agg (t.map bv).toArray)]) Tryd.func15 rfl (by kernel_rfl) rfl ?_
 intro a hF
 refine cS ?_
 refine cP 0 hF ?_
 refine SeqK.eff (k' := 1) (Does.new (v := .pointer (some ⟨h.size,0,none⟩)) (o := .cells (t.map bv).toArray 31) (by kernel_rfl)) rfl ?_
 rintro _ h1 ⟨rfl,hh⟩
 have g2 : Ext h h1 := push_ext hh
 have m3 : h1[h.size]? = some (.cells (t.map bv).toArray 31) := push_at hh
 clear hh
 have lt4 := blk_lt m3
 have zs5 := e0.size
 have hlo := e0.size
 have sepo := sep
 replace e0 := e0.ext g2
 replace sep := sep.up g2.size
 replace sep := sepo.new hlo (blk_lt m3)
 clear sepo hlo
 refine sP 2 [.bool false] ?_
 refine sD [(0,.slice va c.length vc),(1,.int .i64 i),(2,.int .i64 n),(3,.slice wa r.length wc),(9,pV h.size)] ?_
 clear hF a; intro a hF
 refine tK ?_
 refine cS ?_
 refine cS ?_
 rcases Int.lt_or_le n 1 with hn1 | hn1
 rotate_left 1
 obtain ⟨nn,rfl⟩ : ∃ nn : Nat,n = ((nn : Nat) : Int) := ⟨n.toNat,by omega⟩
 rcases Int.lt_or_le i 0 with hi0 | hi0
 rotate_left 1
 obtain ⟨ii,rfl⟩ : ∃ ii : Nat,i = ((ii : Nat) : Int) := ⟨i.toNat,by omega⟩
 rcases (show (nn - 1) / 64 + 1 ≤ ii ∨ (ii < (nn - 1) / 64 ∧ c.length ≠ min 64 (nn - ii * 64)) ∨ (ii < (nn - 1) / 64 ∧ c.length = min 64 (nn - ii * 64)) ∨ (ii = (nn - 1) / 64 ∧ c.length ≠ min 64 (nn - ii * 64)) ∨ (ii = (nn - 1) / 64 ∧ c.length = min 64 (nn - ii * 64)) by omega) with hi1 | ⟨hi1,hc⟩ | ⟨hi1,hc⟩ | ⟨hi1,hc⟩ | ⟨hi1,hc⟩
 ·skip
  refine cP 1 hF ?_
  refine sP 1 [nV nn] ?_
  refine s1 2 (.bool false) (.bool (decide (((nn : Nat) : Int) < (1 : Int)))) (congrArg Value.bool (decide_eq_false (by omega))) ?_
  refine sP 4 [.bool false,nV ii] ?_
  refine s1 5 (.bool false) (.bool (decide (((ii : Nat) : Int) < (0 : Int)))) (congrArg Value.bool (decide_eq_false (by omega))) ?_
  refine sP 6 [.bool false] ?_
  refine sD [(0,.slice va c.length vc),(1,nV ii),(2,nV nn),(3,.slice wa r.length wc),(9,pV h.size),(18,.bool false)] ?_
  clear hF a; intro a hF
  refine tK ?_
  refine cF 18 hF ?_
  refine cN ?_
  refine tK ?_
  refine cS ?_
  refine cP 3 hF ?_
  refine sP 1 [nV nn] ?_
  refine s1 2 (.int .i64 ((nn - 1 : Nat) : Int)) (.int .i64 (IntKind.i64.wrap (((nn : Nat) : Int) - 1))) (congrArg (Value.int .i64) (w64' (by omega) (by omega) (by omega))) ?_
  refine s1 3 (.int .i64 (((nn - 1) / 64 : Nat) : Int)) (.int .i64 (IntKind.i64.wrap (Int.tdiv ((nn - 1 : Nat) : Int) 64))) (congrArg (Value.int .i64) ((congrArg IntKind.i64.wrap (tdivN (nn - 1) 64)).trans (w64 (by omega) (by omega)))) ?_
  refine s1 4 (.int .i64 ((((nn - 1) / 64) + 1 : Nat) : Int)) (.int .i64 (IntKind.i64.wrap ((((nn - 1) / 64 : Nat) : Int) + 1))) (congrArg (Value.int .i64) (w64' (by omega) (by omega) (by omega))) ?_
  refine sP 5 [nV (((nn - 1) / 64) + 1)] ?_
  refine sD [(0,.slice va c.length vc),(1,nV ii),(2,nV nn),(3,.slice wa r.length wc),(9,pV h.size),(11,nV (((nn - 1) / 64) + 1))] ?_
  clear hF a; intro a hF
  refine tK ?_
  refine cS ?_
  refine cS ?_
  refine cP 4 hF ?_
  refine sP 2 [nV ii,nV (((nn - 1) / 64) + 1)] ?_
  refine s1 3 (.bool true) (.bool (decide (((((nn - 1) / 64) + 1 : Nat) : Int) ≤ ((ii : Nat) : Int)))) (congrArg Value.bool (decide_eq_true (by omega))) ?_
  refine sD [(0,.slice va c.length vc),(1,nV ii),(2,nV nn),(3,.slice wa r.length wc),(9,pV h.size),(11,nV (((nn - 1) / 64) + 1)),(25,.bool true)] ?_
  clear hF a; intro a hF
  refine tK ?_
  refine cT 25 hF ?_
  refine cS ?_
  refine cP 5 hF ?_
  refine sP 1 [.bool false] ?_
  refine sD [(10,.bool false)] ?_
  clear hF a; intro a hF
  refine tK ?_
  refine cR ?_
  show retK Tryd.prog Tryd.f15 (fun v h' => v = .bool (chkB c ((ii : Nat) : Int) ((nn : Nat) : Int) r t) ∧ Ext h h') .ret a h1
  refine ret_ok [.tmp 10] [.bool false] (.bool false) rfl hF ⟨rfl,trivial⟩ rfl ?_
  exact ⟨by rw [chk_no (by omega) (by omega)],e0⟩
 ·skip
  refine cP 1 hF ?_
  refine sP 1 [nV nn] ?_
  refine s1 2 (.bool false) (.bool (decide (((nn : Nat) : Int) < (1 : Int)))) (congrArg Value.bool (decide_eq_false (by omega))) ?_
  refine sP 4 [.bool false,nV ii] ?_
  refine s1 5 (.bool false) (.bool (decide (((ii : Nat) : Int) < (0 : Int)))) (congrArg Value.bool (decide_eq_false (by omega))) ?_
  refine sP 6 [.bool false] ?_
  refine sD [(0,.slice va c.length vc),(1,nV ii),(2,nV nn),(3,.slice wa r.length wc),(9,pV h.size),(18,.bool false)] ?_
  clear hF a; intro a hF
  refine tK ?_
  refine cF 18 hF ?_
  refine cN ?_
  refine tK ?_
  refine cS ?_
  refine cP 3 hF ?_
  refine sP 1 [nV nn] ?_
  refine s1 2 (.int .i64 ((nn - 1 : Nat) : Int)) (.int .i64 (IntKind.i64.wrap (((nn : Nat) : Int) - 1))) (congrArg (Value.int .i64) (w64' (by omega) (by omega) (by omega))) ?_
  refine s1 3 (.int .i64 (((nn - 1) / 64 : Nat) : Int)) (.int .i64 (IntKind.i64.wrap (Int.tdiv ((nn - 1 : Nat) : Int) 64))) (congrArg (Value.int .i64) ((congrArg IntKind.i64.wrap (tdivN (nn - 1) 64)).trans (w64 (by omega) (by omega)))) ?_
  refine s1 4 (.int .i64 ((((nn - 1) / 64) + 1 : Nat) : Int)) (.int .i64 (IntKind.i64.wrap ((((nn - 1) / 64 : Nat) : Int) + 1))) (congrArg (Value.int .i64) (w64' (by omega) (by omega) (by omega))) ?_
  refine sP 5 [nV (((nn - 1) / 64) + 1)] ?_
  refine sD [(0,.slice va c.length vc),(1,nV ii),(2,nV nn),(3,.slice wa r.length wc),(9,pV h.size),(11,nV (((nn - 1) / 64) + 1))] ?_
  clear hF a; intro a hF
  refine tK ?_
  refine cS ?_
  refine cS ?_
  refine cP 4 hF ?_
  refine sP 2 [nV ii,nV (((nn - 1) / 64) + 1)] ?_
  refine s1 3 (.bool false) (.bool (decide (((((nn - 1) / 64) + 1 : Nat) : Int) ≤ ((ii : Nat) : Int)))) (congrArg Value.bool (decide_eq_false (by omega))) ?_
  refine sD [(0,.slice va c.length vc),(1,nV ii),(2,nV nn),(3,.slice wa r.length wc),(9,pV h.size),(11,nV (((nn - 1) / 64) + 1)),(25,.bool false)] ?_
  clear hF a; intro a hF
  refine tK ?_
  refine cF 25 hF ?_
  refine cN ?_
  refine tK ?_
  refine cS ?_
  refine cP 6 hF ?_
  refine sP 1 [.int .i64 64] ?_
  refine sD [(0,.slice va c.length vc),(1,nV ii),(2,nV nn),(3,.slice wa r.length wc),(9,pV h.size),(11,nV (((nn - 1) / 64) + 1)),(12,.int .i64 64)] ?_
  clear hF a; intro a hF
  refine tK ?_
  refine cS ?_
  refine cS ?_
  refine cP 7 hF ?_
  refine sP 2 [nV ii,nV (((nn - 1) / 64) + 1)] ?_
  refine s1 3 (.int .i64 (((((nn - 1) / 64) + 1) - 1 : Nat) : Int)) (.int .i64 (IntKind.i64.wrap (((((nn - 1) / 64) + 1 : Nat) : Int) - 1))) (congrArg (Value.int .i64) (w64' (by omega) (by omega) (by omega))) ?_
  refine s1 4 (.bool false) (.bool (((ii : Nat) : Int) == (((((nn - 1) / 64) + 1) - 1 : Nat) : Int))) (congrArg Value.bool (beq_eq_false_iff_ne.2 (by omega))) ?_
  refine sD [(0,.slice va c.length vc),(1,nV ii),(2,nV nn),(3,.slice wa r.length wc),(9,pV h.size),(11,nV (((nn - 1) / 64) + 1)),(12,.int .i64 64),(29,.bool false)] ?_
  clear hF a; intro a hF
  refine tK ?_
  refine cF 29 hF ?_
  refine cN ?_
  refine tK ?_
  refine cS ?_
  refine cD [0,1,0,7,15,31,63,31,31,31,31,2047,4095,8191] 9 mixed hF ?_
  refine mP 7 [0,1,2] [.slice va c.length vc,nV c.length,.int .i64 64] ?_
  refine m1 15 3 (.bool false) (.bool (((c.length : Nat) : Int) == (64 : Int))) (congrArg Value.bool (beq_eq_false_iff_ne.2 (by omega))) ?_
  refine mP 16383 [4,5,6,7,8,9,10,11,12,13] [.bool false,undef,undef,undef,undef,undef,undef,undef,.bool false,.bool false] ?_
  refine mD [(10,.bool false)] ?_
  clear hF a; intro a hF
  refine tK ?_
  refine cR ?_
  show retK Tryd.prog Tryd.f15 (fun v h' => v = .bool (chkB c ((ii : Nat) : Int) ((nn : Nat) : Int) r t) ∧ Ext h h') .ret a h1
  refine ret_ok [.tmp 10] [.bool false] (.bool false) rfl hF ⟨rfl,trivial⟩ rfl ?_
  exact ⟨by rw [chk_no (by omega) (by omega)],e0⟩
 ·skip
  refine cP 1 hF ?_
  refine sP 1 [nV nn] ?_
  refine s1 2 (.bool false) (.bool (decide (((nn : Nat) : Int) < (1 : Int)))) (congrArg Value.bool (decide_eq_false (by omega))) ?_
  refine sP 4 [.bool false,nV ii] ?_
  refine s1 5 (.bool false) (.bool (decide (((ii : Nat) : Int) < (0 : Int)))) (congrArg Value.bool (decide_eq_false (by omega))) ?_
  refine sP 6 [.bool false] ?_
  refine sD [(0,.slice va c.length vc),(1,nV ii),(2,nV nn),(3,.slice wa r.length wc),(9,pV h.size),(18,.bool false)] ?_
  clear hF a; intro a hF
  refine tK ?_
  refine cF 18 hF ?_
  refine cN ?_
  refine tK ?_
  refine cS ?_
  refine cP 3 hF ?_
  refine sP 1 [nV nn] ?_
  refine s1 2 (.int .i64 ((nn - 1 : Nat) : Int)) (.int .i64 (IntKind.i64.wrap (((nn : Nat) : Int) - 1))) (congrArg (Value.int .i64) (w64' (by omega) (by omega) (by omega))) ?_
  refine s1 3 (.int .i64 (((nn - 1) / 64 : Nat) : Int)) (.int .i64 (IntKind.i64.wrap (Int.tdiv ((nn - 1 : Nat) : Int) 64))) (congrArg (Value.int .i64) ((congrArg IntKind.i64.wrap (tdivN (nn - 1) 64)).trans (w64 (by omega) (by omega)))) ?_
  refine s1 4 (.int .i64 ((((nn - 1) / 64) + 1 : Nat) : Int)) (.int .i64 (IntKind.i64.wrap ((((nn - 1) / 64 : Nat) : Int) + 1))) (congrArg (Value.int .i64) (w64' (by omega) (by omega) (by omega))) ?_
  refine sP 5 [nV (((nn - 1) / 64) + 1)] ?_
  refine sD [(0,.slice va c.length vc),(1,nV ii),(2,nV nn),(3,.slice wa r.length wc),(9,pV h.size),(11,nV (((nn - 1) / 64) + 1))] ?_
  clear hF a; intro a hF
  refine tK ?_
  refine cS ?_
  refine cS ?_
  refine cP 4 hF ?_
  refine sP 2 [nV ii,nV (((nn - 1) / 64) + 1)] ?_
  refine s1 3 (.bool false) (.bool (decide (((((nn - 1) / 64) + 1 : Nat) : Int) ≤ ((ii : Nat) : Int)))) (congrArg Value.bool (decide_eq_false (by omega))) ?_
  refine sD [(0,.slice va c.length vc),(1,nV ii),(2,nV nn),(3,.slice wa r.length wc),(9,pV h.size),(11,nV (((nn - 1) / 64) + 1)),(25,.bool false)] ?_
  clear hF a; intro a hF
  refine tK ?_
  refine cF 25 hF ?_
  refine cN ?_
  refine tK ?_
  refine cS ?_
  refine cP 6 hF ?_
  refine sP 1 [.int .i64 64] ?_
  refine sD [(0,.slice va c.length vc),(1,nV ii),(2,nV nn),(3,.slice wa r.length wc),(9,pV h.size),(11,nV (((nn - 1) / 64) + 1)),(12,.int .i64 64)] ?_
  clear hF a; intro a hF
  refine tK ?_
  refine cS ?_
  refine cS ?_
  refine cP 7 hF ?_
  refine sP 2 [nV ii,nV (((nn - 1) / 64) + 1)] ?_
  refine s1 3 (.int .i64 (((((nn - 1) / 64) + 1) - 1 : Nat) : Int)) (.int .i64 (IntKind.i64.wrap (((((nn - 1) / 64) + 1 : Nat) : Int) - 1))) (congrArg (Value.int .i64) (w64' (by omega) (by omega) (by omega))) ?_
  refine s1 4 (.bool false) (.bool (((ii : Nat) : Int) == (((((nn - 1) / 64) + 1) - 1 : Nat) : Int))) (congrArg Value.bool (beq_eq_false_iff_ne.2 (by omega))) ?_
  refine sD [(0,.slice va c.length vc),(1,nV ii),(2,nV nn),(3,.slice wa r.length wc),(9,pV h.size),(11,nV (((nn - 1) / 64) + 1)),(12,.int .i64 64),(29,.bool false)] ?_
  clear hF a; intro a hF
  refine tK ?_
  refine cF 29 hF ?_
  refine cN ?_
  refine tK ?_
  refine cS ?_
  refine cD [0,1,0,7,15,31,63,31,31,31,31,2047,4095,8191] 9 mixed hF ?_
  refine mP 7 [0,1,2] [.slice va c.length vc,nV c.length,.int .i64 64] ?_
  refine m1 15 3 (.bool true) (.bool (((c.length : Nat) : Int) == (64 : Int))) (congrArg Value.bool (beq_iff_eq.2 (by omega))) ?_
  refine mP 959 [4,5,7,8,9] [.bool true,.slice va c.length vc,nV ii,nV (((nn - 1) / 64) + 1),.slice wa r.length wc] ?_
  refine mL 1983 1024 10 (.agg (t.map bv).toArray) (Calm.load (T := 31) (p := ⟨h.size,0,none⟩) (by kernel_rfl) (Loads.hash (by kernel_rfl) ht m3)) ?_
  refine SimK.eff (i := 6) (D' := 2047) (X' := 127) (by kernel_rfl) (by kernel_rfl) (by kernel_rfl) [10] (by kernel_rfl) (Does.call (f := 16) (args := #[.slice va c.length vc]) (by kernel_rfl) (rleaf_sat _ c _ _ (hr.ext e0) (by omega))) ?_
  rintro _ h6 ⟨rfl,g⟩
  replace e0 := e0.ext g
  replace m3 := Ext.blk g m3
  replace sep := sep.up g.size
  refine ⟨?_,?_⟩
  ·intro j hj
   simp only [List.mem_cons,List.not_mem_nil,or_false] at hj
   subst hj
   exact goodOf (Calm.load (T := 31) (p := ⟨h.size,0,none⟩) (by kernel_rfl) (Loads.hash (by kernel_rfl) ht m3))
  clear g
  refine SimK.eff0 (i := 11) (D' := 4095) (X' := 4095) (by kernel_rfl) (by kernel_rfl) (by kernel_rfl) (by kernel_rfl) (Does.call (f := 25) (args := #[.agg ((leafH c).map bv).toArray,.int .i64 ((ii : Nat) : Int),.int .i64 ((((nn - 1) / 64) + 1 : Nat) : Int),.slice wa r.length wc,.agg (t.map bv).toArray]) (by kernel_rfl) (rincl6_sat _ (leafH c) ((ii : Nat) : Int) (((nn - 1) / 64 + 1 : Nat) : Int) r _ _ t (leaf_len _) ht (hp.ext e0) (by omega) (by omega))) ?_
  rintro _ h7 ⟨rfl,g⟩
  replace e0 := e0.ext g
  replace m3 := Ext.blk g m3
  replace sep := sep.up g.size
  clear g
  refine mP 16383 [12,13] [.bool (inclB (leafH c) ((ii : Nat) : Int) (((nn - 1) / 64 + 1 : Nat) : Int) r t),.bool (inclB (leafH c) ((ii : Nat) : Int) (((nn - 1) / 64 + 1 : Nat) : Int) r t)] ?_
  refine mD [(10,.bool (inclB (leafH c) ((ii : Nat) : Int) (((nn - 1) / 64 + 1 : Nat) : Int) r t))] ?_
  clear hF a; intro a hF
  refine tK ?_
  refine cR ?_
  show retK Tryd.prog Tryd.f15 (fun v h' => v = .bool (chkB c ((ii : Nat) : Int) ((nn : Nat) : Int) r t) ∧ Ext h h') .ret a h7
  refine ret_ok [.tmp 10] [.bool (inclB (leafH c) ((ii : Nat) : Int) (((nn - 1) / 64 + 1 : Nat) : Int) r t)] (.bool (inclB (leafH c) ((ii : Nat) : Int) (((nn - 1) / 64 + 1 : Nat) : Int) r t)) rfl hF ⟨rfl,trivial⟩ rfl ?_
  exact ⟨by rw [chk_yes (by omega) (by omega) hc],e0⟩
 ·skip
  refine cP 1 hF ?_
  refine sP 1 [nV nn] ?_
  refine s1 2 (.bool false) (.bool (decide (((nn : Nat) : Int) < (1 : Int)))) (congrArg Value.bool (decide_eq_false (by omega))) ?_
  refine sP 4 [.bool false,nV ii] ?_
  refine s1 5 (.bool false) (.bool (decide (((ii : Nat) : Int) < (0 : Int)))) (congrArg Value.bool (decide_eq_false (by omega))) ?_
  refine sP 6 [.bool false] ?_
  refine sD [(0,.slice va c.length vc),(1,nV ii),(2,nV nn),(3,.slice wa r.length wc),(9,pV h.size),(18,.bool false)] ?_
  clear hF a; intro a hF
  refine tK ?_
  refine cF 18 hF ?_
  refine cN ?_
  refine tK ?_
  refine cS ?_
  refine cP 3 hF ?_
  refine sP 1 [nV nn] ?_
  refine s1 2 (.int .i64 ((nn - 1 : Nat) : Int)) (.int .i64 (IntKind.i64.wrap (((nn : Nat) : Int) - 1))) (congrArg (Value.int .i64) (w64' (by omega) (by omega) (by omega))) ?_
  refine s1 3 (.int .i64 (((nn - 1) / 64 : Nat) : Int)) (.int .i64 (IntKind.i64.wrap (Int.tdiv ((nn - 1 : Nat) : Int) 64))) (congrArg (Value.int .i64) ((congrArg IntKind.i64.wrap (tdivN (nn - 1) 64)).trans (w64 (by omega) (by omega)))) ?_
  refine s1 4 (.int .i64 ((((nn - 1) / 64) + 1 : Nat) : Int)) (.int .i64 (IntKind.i64.wrap ((((nn - 1) / 64 : Nat) : Int) + 1))) (congrArg (Value.int .i64) (w64' (by omega) (by omega) (by omega))) ?_
  refine sP 5 [nV (((nn - 1) / 64) + 1)] ?_
  refine sD [(0,.slice va c.length vc),(1,nV ii),(2,nV nn),(3,.slice wa r.length wc),(9,pV h.size),(11,nV (((nn - 1) / 64) + 1))] ?_
  clear hF a; intro a hF
  refine tK ?_
  refine cS ?_
  refine cS ?_
  refine cP 4 hF ?_
  refine sP 2 [nV ii,nV (((nn - 1) / 64) + 1)] ?_
  refine s1 3 (.bool false) (.bool (decide (((((nn - 1) / 64) + 1 : Nat) : Int) ≤ ((ii : Nat) : Int)))) (congrArg Value.bool (decide_eq_false (by omega))) ?_
  refine sD [(0,.slice va c.length vc),(1,nV ii),(2,nV nn),(3,.slice wa r.length wc),(9,pV h.size),(11,nV (((nn - 1) / 64) + 1)),(25,.bool false)] ?_
  clear hF a; intro a hF
  refine tK ?_
  refine cF 25 hF ?_
  refine cN ?_
  refine tK ?_
  refine cS ?_
  refine cP 6 hF ?_
  refine sP 1 [.int .i64 64] ?_
  refine sD [(0,.slice va c.length vc),(1,nV ii),(2,nV nn),(3,.slice wa r.length wc),(9,pV h.size),(11,nV (((nn - 1) / 64) + 1)),(12,.int .i64 64)] ?_
  clear hF a; intro a hF
  refine tK ?_
  refine cS ?_
  refine cS ?_
  refine cP 7 hF ?_
  refine sP 2 [nV ii,nV (((nn - 1) / 64) + 1)] ?_
  refine s1 3 (.int .i64 (((((nn - 1) / 64) + 1) - 1 : Nat) : Int)) (.int .i64 (IntKind.i64.wrap (((((nn - 1) / 64) + 1 : Nat) : Int) - 1))) (congrArg (Value.int .i64) (w64' (by omega) (by omega) (by omega))) ?_
  refine s1 4 (.bool true) (.bool (((ii : Nat) : Int) == (((((nn - 1) / 64) + 1) - 1 : Nat) : Int))) (congrArg Value.bool (beq_iff_eq.2 (by omega))) ?_
  refine sD [(0,.slice va c.length vc),(1,nV ii),(2,nV nn),(3,.slice wa r.length wc),(9,pV h.size),(11,nV (((nn - 1) / 64) + 1)),(12,.int .i64 64),(29,.bool true)] ?_
  clear hF a; intro a hF
  refine tK ?_
  refine cT 29 hF ?_
  refine cP 8 hF ?_
  refine sP 2 [nV nn,nV (((nn - 1) / 64) + 1)] ?_
  refine s1 3 (.int .i64 (((((nn - 1) / 64) + 1) - 1 : Nat) : Int)) (.int .i64 (IntKind.i64.wrap (((((nn - 1) / 64) + 1 : Nat) : Int) - 1))) (congrArg (Value.int .i64) (w64' (by omega) (by omega) (by omega))) ?_
  refine s1 4 (.int .i64 ((((((nn - 1) / 64) + 1) - 1) * 64 : Nat) : Int)) (.int .i64 (IntKind.i64.wrap ((((((nn - 1) / 64) + 1) - 1 : Nat) : Int) * 64))) (congrArg (Value.int .i64) (w64' (by omega) (by omega) (by omega))) ?_
  refine s1 5 (.int .i64 ((nn - (((((nn - 1) / 64) + 1) - 1) * 64) : Nat) : Int)) (.int .i64 (IntKind.i64.wrap (((nn : Nat) : Int) - ((((((nn - 1) / 64) + 1) - 1) * 64 : Nat) : Int)))) (congrArg (Value.int .i64) (w64' (by omega) (by omega) (by omega))) ?_
  refine sP 6 [nV (nn - (((((nn - 1) / 64) + 1) - 1) * 64))] ?_
  refine sD [(0,.slice va c.length vc),(1,nV ii),(3,.slice wa r.length wc),(9,pV h.size),(11,nV (((nn - 1) / 64) + 1)),(12,nV (nn - (((((nn - 1) / 64) + 1) - 1) * 64)))] ?_
  clear hF a; intro a hF
  refine tK ?_
  refine cS ?_
  refine cD [0,1,0,7,15,31,63,31,31,31,31,2047,4095,8191] 9 mixed hF ?_
  refine mP 7 [0,1,2] [.slice va c.length vc,nV c.length,nV (nn - (((((nn - 1) / 64) + 1) - 1) * 64))] ?_
  refine m1 15 3 (.bool false) (.bool (((c.length : Nat) : Int) == ((nn - (((((nn - 1) / 64) + 1) - 1) * 64) : Nat) : Int))) (congrArg Value.bool (beq_eq_false_iff_ne.2 (by omega))) ?_
  refine mP 16383 [4,5,6,7,8,9,10,11,12,13] [.bool false,undef,undef,undef,undef,undef,undef,undef,.bool false,.bool false] ?_
  refine mD [(10,.bool false)] ?_
  clear hF a; intro a hF
  refine tK ?_
  refine cR ?_
  show retK Tryd.prog Tryd.f15 (fun v h' => v = .bool (chkB c ((ii : Nat) : Int) ((nn : Nat) : Int) r t) ∧ Ext h h') .ret a h1
  refine ret_ok [.tmp 10] [.bool false] (.bool false) rfl hF ⟨rfl,trivial⟩ rfl ?_
  exact ⟨by rw [chk_no (by omega) (by omega)],e0⟩
 ·skip
  refine cP 1 hF ?_
  refine sP 1 [nV nn] ?_
  refine s1 2 (.bool false) (.bool (decide (((nn : Nat) : Int) < (1 : Int)))) (congrArg Value.bool (decide_eq_false (by omega))) ?_
  refine sP 4 [.bool false,nV ii] ?_
  refine s1 5 (.bool false) (.bool (decide (((ii : Nat) : Int) < (0 : Int)))) (congrArg Value.bool (decide_eq_false (by omega))) ?_
  refine sP 6 [.bool false] ?_
  refine sD [(0,.slice va c.length vc),(1,nV ii),(2,nV nn),(3,.slice wa r.length wc),(9,pV h.size),(18,.bool false)] ?_
  clear hF a; intro a hF
  refine tK ?_
  refine cF 18 hF ?_
  refine cN ?_
  refine tK ?_
  refine cS ?_
  refine cP 3 hF ?_
  refine sP 1 [nV nn] ?_
  refine s1 2 (.int .i64 ((nn - 1 : Nat) : Int)) (.int .i64 (IntKind.i64.wrap (((nn : Nat) : Int) - 1))) (congrArg (Value.int .i64) (w64' (by omega) (by omega) (by omega))) ?_
  refine s1 3 (.int .i64 (((nn - 1) / 64 : Nat) : Int)) (.int .i64 (IntKind.i64.wrap (Int.tdiv ((nn - 1 : Nat) : Int) 64))) (congrArg (Value.int .i64) ((congrArg IntKind.i64.wrap (tdivN (nn - 1) 64)).trans (w64 (by omega) (by omega)))) ?_
  refine s1 4 (.int .i64 ((((nn - 1) / 64) + 1 : Nat) : Int)) (.int .i64 (IntKind.i64.wrap ((((nn - 1) / 64 : Nat) : Int) + 1))) (congrArg (Value.int .i64) (w64' (by omega) (by omega) (by omega))) ?_
  refine sP 5 [nV (((nn - 1) / 64) + 1)] ?_
  refine sD [(0,.slice va c.length vc),(1,nV ii),(2,nV nn),(3,.slice wa r.length wc),(9,pV h.size),(11,nV (((nn - 1) / 64) + 1))] ?_
  clear hF a; intro a hF
  refine tK ?_
  refine cS ?_
  refine cS ?_
  refine cP 4 hF ?_
  refine sP 2 [nV ii,nV (((nn - 1) / 64) + 1)] ?_
  refine s1 3 (.bool false) (.bool (decide (((((nn - 1) / 64) + 1 : Nat) : Int) ≤ ((ii : Nat) : Int)))) (congrArg Value.bool (decide_eq_false (by omega))) ?_
  refine sD [(0,.slice va c.length vc),(1,nV ii),(2,nV nn),(3,.slice wa r.length wc),(9,pV h.size),(11,nV (((nn - 1) / 64) + 1)),(25,.bool false)] ?_
  clear hF a; intro a hF
  refine tK ?_
  refine cF 25 hF ?_
  refine cN ?_
  refine tK ?_
  refine cS ?_
  refine cP 6 hF ?_
  refine sP 1 [.int .i64 64] ?_
  refine sD [(0,.slice va c.length vc),(1,nV ii),(2,nV nn),(3,.slice wa r.length wc),(9,pV h.size),(11,nV (((nn - 1) / 64) + 1)),(12,.int .i64 64)] ?_
  clear hF a; intro a hF
  refine tK ?_
  refine cS ?_
  refine cS ?_
  refine cP 7 hF ?_
  refine sP 2 [nV ii,nV (((nn - 1) / 64) + 1)] ?_
  refine s1 3 (.int .i64 (((((nn - 1) / 64) + 1) - 1 : Nat) : Int)) (.int .i64 (IntKind.i64.wrap (((((nn - 1) / 64) + 1 : Nat) : Int) - 1))) (congrArg (Value.int .i64) (w64' (by omega) (by omega) (by omega))) ?_
  refine s1 4 (.bool true) (.bool (((ii : Nat) : Int) == (((((nn - 1) / 64) + 1) - 1 : Nat) : Int))) (congrArg Value.bool (beq_iff_eq.2 (by omega))) ?_
  refine sD [(0,.slice va c.length vc),(1,nV ii),(2,nV nn),(3,.slice wa r.length wc),(9,pV h.size),(11,nV (((nn - 1) / 64) + 1)),(12,.int .i64 64),(29,.bool true)] ?_
  clear hF a; intro a hF
  refine tK ?_
  refine cT 29 hF ?_
  refine cP 8 hF ?_
  refine sP 2 [nV nn,nV (((nn - 1) / 64) + 1)] ?_
  refine s1 3 (.int .i64 (((((nn - 1) / 64) + 1) - 1 : Nat) : Int)) (.int .i64 (IntKind.i64.wrap (((((nn - 1) / 64) + 1 : Nat) : Int) - 1))) (congrArg (Value.int .i64) (w64' (by omega) (by omega) (by omega))) ?_
  refine s1 4 (.int .i64 ((((((nn - 1) / 64) + 1) - 1) * 64 : Nat) : Int)) (.int .i64 (IntKind.i64.wrap ((((((nn - 1) / 64) + 1) - 1 : Nat) : Int) * 64))) (congrArg (Value.int .i64) (w64' (by omega) (by omega) (by omega))) ?_
  refine s1 5 (.int .i64 ((nn - (((((nn - 1) / 64) + 1) - 1) * 64) : Nat) : Int)) (.int .i64 (IntKind.i64.wrap (((nn : Nat) : Int) - ((((((nn - 1) / 64) + 1) - 1) * 64 : Nat) : Int)))) (congrArg (Value.int .i64) (w64' (by omega) (by omega) (by omega))) ?_
  refine sP 6 [nV (nn - (((((nn - 1) / 64) + 1) - 1) * 64))] ?_
  refine sD [(0,.slice va c.length vc),(1,nV ii),(3,.slice wa r.length wc),(9,pV h.size),(11,nV (((nn - 1) / 64) + 1)),(12,nV (nn - (((((nn - 1) / 64) + 1) - 1) * 64)))] ?_
  clear hF a; intro a hF
  refine tK ?_
  refine cS ?_
  refine cD [0,1,0,7,15,31,63,31,31,31,31,2047,4095,8191] 9 mixed hF ?_
  refine mP 7 [0,1,2] [.slice va c.length vc,nV c.length,nV (nn - (((((nn - 1) / 64) + 1) - 1) * 64))] ?_
  refine m1 15 3 (.bool true) (.bool (((c.length : Nat) : Int) == ((nn - (((((nn - 1) / 64) + 1) - 1) * 64) : Nat) : Int))) (congrArg Value.bool (beq_iff_eq.2 (by omega))) ?_
  refine mP 959 [4,5,7,8,9] [.bool true,.slice va c.length vc,nV ii,nV (((nn - 1) / 64) + 1),.slice wa r.length wc] ?_
  refine mL 1983 1024 10 (.agg (t.map bv).toArray) (Calm.load (T := 31) (p := ⟨h.size,0,none⟩) (by kernel_rfl) (Loads.hash (by kernel_rfl) ht m3)) ?_
  refine SimK.eff (i := 6) (D' := 2047) (X' := 127) (by kernel_rfl) (by kernel_rfl) (by kernel_rfl) [10] (by kernel_rfl) (Does.call (f := 16) (args := #[.slice va c.length vc]) (by kernel_rfl) (rleaf_sat _ c _ _ (hr.ext e0) (by omega))) ?_
  rintro _ h8 ⟨rfl,g⟩
  replace e0 := e0.ext g
  replace m3 := Ext.blk g m3
  replace sep := sep.up g.size
  refine ⟨?_,?_⟩
  ·intro j hj
   simp only [List.mem_cons,List.not_mem_nil,or_false] at hj
   subst hj
   exact goodOf (Calm.load (T := 31) (p := ⟨h.size,0,none⟩) (by kernel_rfl) (Loads.hash (by kernel_rfl) ht m3))
  clear g
  refine SimK.eff0 (i := 11) (D' := 4095) (X' := 4095) (by kernel_rfl) (by kernel_rfl) (by kernel_rfl) (by kernel_rfl) (Does.call (f := 25) (args := #[.agg ((leafH c).map bv).toArray,.int .i64 ((ii : Nat) : Int),.int .i64 ((((nn - 1) / 64) + 1 : Nat) : Int),.slice wa r.length wc,.agg (t.map bv).toArray]) (by kernel_rfl) (rincl6_sat _ (leafH c) ((ii : Nat) : Int) (((nn - 1) / 64 + 1 : Nat) : Int) r _ _ t (leaf_len _) ht (hp.ext e0) (by omega) (by omega))) ?_
  rintro _ h9 ⟨rfl,g⟩
  replace e0 := e0.ext g
  replace m3 := Ext.blk g m3
  replace sep := sep.up g.size
  clear g
  refine mP 16383 [12,13] [.bool (inclB (leafH c) ((ii : Nat) : Int) (((nn - 1) / 64 + 1 : Nat) : Int) r t),.bool (inclB (leafH c) ((ii : Nat) : Int) (((nn - 1) / 64 + 1 : Nat) : Int) r t)] ?_
  refine mD [(10,.bool (inclB (leafH c) ((ii : Nat) : Int) (((nn - 1) / 64 + 1 : Nat) : Int) r t))] ?_
  clear hF a; intro a hF
  refine tK ?_
  refine cR ?_
  show retK Tryd.prog Tryd.f15 (fun v h' => v = .bool (chkB c ((ii : Nat) : Int) ((nn : Nat) : Int) r t) ∧ Ext h h') .ret a h9
  refine ret_ok [.tmp 10] [.bool (inclB (leafH c) ((ii : Nat) : Int) (((nn - 1) / 64 + 1 : Nat) : Int) r t)] (.bool (inclB (leafH c) ((ii : Nat) : Int) (((nn - 1) / 64 + 1 : Nat) : Int) r t)) rfl hF ⟨rfl,trivial⟩ rfl ?_
  exact ⟨by rw [chk_yes (by omega) (by omega) hc],e0⟩
 ·skip
  refine cP 1 hF ?_
  refine sP 1 [.int .i64 n] ?_
  refine s1 2 (.bool true) (.bool (decide (n < (1 : Int)))) (congrArg Value.bool (decide_eq_true (by omega))) ?_
  refine sP 6 [.bool true,undef,undef,.bool true] ?_
  refine sD [(0,.slice va c.length vc),(1,.int .i64 i),(2,.int .i64 n),(3,.slice wa r.length wc),(9,pV h.size),(18,.bool true)] ?_
  clear hF a; intro a hF
  refine tK ?_
  refine cT 18 hF ?_
  refine cS ?_
  refine cP 2 hF ?_
  refine sP 1 [.bool false] ?_
  refine sD [(10,.bool false)] ?_
  clear hF a; intro a hF
  refine tK ?_
  refine cR ?_
  show retK Tryd.prog Tryd.f15 (fun v h' => v = .bool (chkB c i n r t) ∧ Ext h h') .ret a h1
  refine ret_ok [.tmp 10] [.bool false] (.bool false) rfl hF ⟨rfl,trivial⟩ rfl ?_
  exact ⟨by rw [chk_small hn1],e0⟩
 ·skip
  refine cP 1 hF ?_
  refine sP 1 [nV nn] ?_
  refine s1 2 (.bool false) (.bool (decide (((nn : Nat) : Int) < (1 : Int)))) (congrArg Value.bool (decide_eq_false (by omega))) ?_
  refine sP 4 [.bool false,.int .i64 i] ?_
  refine s1 5 (.bool true) (.bool (decide (i < (0 : Int)))) (congrArg Value.bool (decide_eq_true (by omega))) ?_
  refine sP 6 [.bool true] ?_
  refine sD [(0,.slice va c.length vc),(1,.int .i64 i),(2,nV nn),(3,.slice wa r.length wc),(9,pV h.size),(18,.bool true)] ?_
  clear hF a; intro a hF
  refine tK ?_
  refine cT 18 hF ?_
  refine cS ?_
  refine cP 2 hF ?_
  refine sP 1 [.bool false] ?_
  refine sD [(10,.bool false)] ?_
  clear hF a; intro a hF
  refine tK ?_
  refine cR ?_
  show retK Tryd.prog Tryd.f15 (fun v h' => v = .bool (chkB c i ((nn : Nat) : Int) r t) ∧ Ext h h') .ret a h1
  refine ret_ok [.tmp 10] [.bool false] (.bool false) rfl hF ⟨rfl,trivial⟩ rfl ?_
  exact ⟨by rw [chk_no (by omega) (by omega)],e0⟩
noncomputable def b4 : Code := Tryd.f4.body.getD .skip
theorem checks7_sat (h : Heap) (c : List UInt8) (va : Option Addr) (vc : Nat) (hr : Row h (.slice va c.length vc) c.length 1 (c.map bv)) (hcl : c.length ≤ 1048576) (i n : Int) (hn2 : n ≤ 9223372036854775807) (r : List Hs) (wa : Option Addr) (wc : Nat) (hp : HR h wa wc r.length r) (hrl : r.length ≤ 1048576) (t : Hs) (ht : t.length = 32) (hlt : c = [] ∨ ∀ k,blkOf (.slice va c.length vc) = some k → k < h.size) (hz0 : r = [] ∨ ∀ k,wa.map (fun (x : Addr) => x.block) = some k → k < h.size) (kt : Ktab h) : Sat Tryd.prog 4 #[.slice va c.length vc,.agg (heldc i n (.slice wa r.length wc) t).toArray] h fun v h' => v = .bool true ∧ Ext h h' := by
 have e0 := Ext.refl h
 have h0s := kt.lt
 have sep : Sep h.size h.size [] := Sep.nil _ _
 refine sat_of (args := [.slice va c.length vc,.agg (heldc i n (.slice wa r.length wc) t).toArray]) (fn := Tryd.f4) (B := b4) (n := 35) (L := [(0,.slice va c.length vc),(1,.agg (heldc i n (.slice wa r.length wc) t).toArray)]) Tryd.func4 rfl (by kernel_rfl) rfl ?_
 intro a hF
 refine cS ?_
 refine cP 0 hF ?_
 refine SeqK.eff (k' := 1) (Does.new (v := .pointer (some ⟨h.size,0,none⟩)) (o := .cells (heldc i n (.slice wa r.length wc) t).toArray 35) (by kernel_rfl)) rfl ?_
 rintro _ h1 ⟨rfl,hh⟩
 have g2 : Ext h h1 := push_ext hh
 have m3 : h1[h.size]? = some (.cells (heldc i n (.slice wa r.length wc) t).toArray 35) := push_at hh
 clear hh
 have lt4 := blk_lt m3
 have zs5 := e0.size
 have hlo := e0.size
 have sepo := sep
 replace e0 := e0.ext g2
 replace kt := kt.ext g2
 replace sep := sep.up g2.size
 replace sep := sepo.new hlo (blk_lt m3)
 clear sepo hlo
 refine sP 2 [.bool false] ?_
 refine sD [(0,.slice va c.length vc),(3,pV h.size)] ?_
 clear hF a; intro a hF
 refine tK ?_
 refine cS ?_
 refine cP 1 hF ?_
 refine SeqK.eff (k' := 1) (Does.call (f := 7) (args := #[]) (by kernel_rfl) (shown7_sat _ kt)) rfl ?_
 rintro _ h6 ⟨rfl,g⟩
 replace e0 := e0.ext g
 replace kt := kt.ext g
 replace m3 := Ext.blk g m3
 replace sep := sep.up g.size
 clear g
 refine sP 2 [.bool true] ?_
 refine sD [(0,.slice va c.length vc),(3,pV h.size),(5,.bool true)] ?_
 clear hF a; intro a hF
 refine tK ?_
 refine cS ?_
 refine cP 2 hF ?_
 refine sP 2 [.slice va c.length vc,pV h.size] ?_
 refine sC 3 (.int .i64 i) (Calm.load (T := 3) (p := ⟨h.size,0,none⟩) (by kernel_rfl) (Loads.one (k := 1) (by kernel_rfl) ((hcell_blk m3).trans (rfl)))) ?_
 refine sP 4 [.pointer (some ⟨h.size,1,none⟩)] ?_
 refine sC 5 (.int .i64 n) (Calm.load (T := 3) (p := ⟨h.size,1,none⟩) (by kernel_rfl) (Loads.one (k := 1) (by kernel_rfl) ((hcell_blk m3).trans (rfl)))) ?_
 refine sP 6 [.pointer (some ⟨h.size,2,none⟩)] ?_
 refine sC 7 (.slice wa r.length wc) (Calm.load (T := 26) (p := ⟨h.size,2,none⟩) (by kernel_rfl) (Loads.one (k := 1) (by kernel_rfl) ((hcell_blk m3).trans (rfl)))) ?_
 refine sP 8 [.pointer (some ⟨h.size,3,none⟩)] ?_
 refine sC 9 (.agg (t.map bv).toArray) (Calm.load (T := 31) (p := ⟨h.size,3,none⟩) (by kernel_rfl) (heldc_t (by kernel_rfl) ht m3)) ?_
 refine SeqK.eff (k' := 10) (Does.call (f := 14) (args := #[.slice va c.length vc,.int .i64 i,.int .i64 n,.slice wa r.length wc,.agg (t.map bv).toArray]) (by kernel_rfl) (check7_sat _ c _ _ (hr.ext e0) (by omega) i n hn2 r _ _ (hp.ext e0) (by omega) t ht (hlt.imp id fun z k e => Nat.lt_of_lt_of_le (z k e) e0.size) (hz0.imp id fun z k e => Nat.lt_of_lt_of_le (z k e) e0.size) kt)) rfl ?_
 rintro _ h7 ⟨rfl,g⟩
 replace e0 := e0.ext g
 replace kt := kt.ext g
 replace m3 := Ext.blk g m3
 replace sep := sep.up g.size
 clear g
 refine sP 11 [.bool (chkB c i n r t)] ?_
 refine sD [(0,.slice va c.length vc),(3,pV h.size),(5,.bool true),(6,.bool (chkB c i n r t))] ?_
 clear hF a; intro a hF
 refine tK ?_
 refine cS ?_
 refine cP 3 hF ?_
 refine sP 2 [.slice va c.length vc,pV h.size] ?_
 refine sC 3 (.int .i64 i) (Calm.load (T := 3) (p := ⟨h.size,0,none⟩) (by kernel_rfl) (Loads.one (k := 1) (by kernel_rfl) ((hcell_blk m3).trans (rfl)))) ?_
 refine sP 4 [.pointer (some ⟨h.size,1,none⟩)] ?_
 refine sC 5 (.int .i64 n) (Calm.load (T := 3) (p := ⟨h.size,1,none⟩) (by kernel_rfl) (Loads.one (k := 1) (by kernel_rfl) ((hcell_blk m3).trans (rfl)))) ?_
 refine sP 6 [.pointer (some ⟨h.size,2,none⟩)] ?_
 refine sC 7 (.slice wa r.length wc) (Calm.load (T := 26) (p := ⟨h.size,2,none⟩) (by kernel_rfl) (Loads.one (k := 1) (by kernel_rfl) ((hcell_blk m3).trans (rfl)))) ?_
 refine sP 8 [.pointer (some ⟨h.size,3,none⟩)] ?_
 refine sC 9 (.agg (t.map bv).toArray) (Calm.load (T := 31) (p := ⟨h.size,3,none⟩) (by kernel_rfl) (heldc_t (by kernel_rfl) ht m3)) ?_
 refine SeqK.eff (k' := 10) (Does.call (f := 15) (args := #[.slice va c.length vc,.int .i64 i,.int .i64 n,.slice wa r.length wc,.agg (t.map bv).toArray]) (by kernel_rfl) (rcheck7_sat _ c _ _ (hr.ext e0) (by omega) i n hn2 r _ _ (hp.ext e0) (by omega) t ht)) rfl ?_
 rintro _ h8 ⟨rfl,g⟩
 replace e0 := e0.ext g
 replace kt := kt.ext g
 replace m3 := Ext.blk g m3
 replace sep := sep.up g.size
 clear g
 refine sP 11 [.bool (chkB c i n r t)] ?_
 refine sD [(5,.bool true),(6,.bool (chkB c i n r t)),(7,.bool (chkB c i n r t))] ?_
 clear hF a; intro a hF
 refine tK ?_
 refine cS ?_
 refine cP 4 hF ?_
 refine sP 4 [.bool true,.bool true,.bool (chkB c i n r t),.bool (chkB c i n r t)] ?_
 refine s1 5 (.bool true) (.bool ((chkB c i n r t) == (chkB c i n r t))) (congrArg Value.bool (beq_self_eq_true _)) ?_
 refine sP 7 [.bool true,.bool true] ?_
 refine sD [(4,.bool true)] ?_
 clear hF a; intro a hF
 refine tK ?_
 refine cR ?_
 show retK Tryd.prog Tryd.f4 (fun v h' => v = .bool true ∧ Ext h h') .ret a h8
 refine ret_ok [.tmp 4] [.bool true] (.bool true) rfl hF ⟨rfl,trivial⟩ rfl ?_
 exact ⟨rfl,e0⟩
end Go.Proofs.YtkjlafiefgbjpaaDoor
