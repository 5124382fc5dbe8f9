/- Walks of trees of hashes: what each function computes, as a law of its calls. No condition but those that each theorem names. -/
import Derived.Test.YtkjlafiefgbjpaaDoorTreeMath
namespace Go.Proofs.YtkjlafiefgbjpaaDoor
open Go Go.Lane Go.Sha
noncomputable def b28 : Code := Tryd.f28.body.getD .skip
theorem reverse_sat (h : Heap) (ad : Option Addr) (cap n : Nat) (L : List Hs) (own_p : Own h (.slice ad n cap) 31 n 32 (hcs L)) (h32 : All32 L) (hLn : L.length = n) (hn : n ≤ 1099511627776) : Sat Tryd.prog 28 #[.slice ad n cap] h fun _ h' => Own h' (.slice ad n cap) 31 n 32 (hcs L.reverse) ∧ Grew (ad.map (·.block)) h h' := by
 have g0 : Grew (ad.map (·.block)) h h := Grew.refl _ _
 refine sat_of (args := [.slice ad n cap]) (fn := Tryd.f28) (B := b28) (n := 28) (L := [(0,.slice ad n cap)]) Tryd.func28 rfl (by kernel_rfl) rfl ?_
 intro a hF
 refine cS ?_
 refine cP 0 hF ?_
 refine sP 2 [.slice ad n cap,nV n] ?_
 refine s1 3 (.int .i64 (((n : Nat) : Int) - 1)) (.int .i64 (IntKind.i64.wrap (((n : Nat) : Int) - 1))) (congrArg (Value.int .i64) (w64 (by omega) (by omega))) ?_
 refine sP 5 [.int .i64 0,.int .i64 (((n : Nat) : Int) - 1)] ?_
 refine sD [(0,.slice ad n cap),(2,.int .i64 0),(3,.int .i64 (((n : Nat) : Int) - 1))] ?_
 clear hF a; intro a hF
 refine tK ?_
 refine cB 0 ?_
 have hst : (((n : Nat) : Int) - 1) = ((n : Nat) : Int) - 1 - ((0 : Nat) : Int) := by omega
 rw [hst] at hF
 refine C.loop (fun m a h' => ∃ t : Nat,∃ L' : List Hs,m = n - t ∧ (Grew (ad.map (·.block)) h h') ∧ (RevI L L' t) ∧ (All32 L') ∧ (Own h' (.slice ad n cap) 31 n 32 (hcs L')) ∧ (Fr a 28 [(0,.slice ad n cap),(2,.int .i64 ((t : Nat) : Int)),(3,.int .i64 (((n : Nat) : Int) - 1 - ((t : Nat) : Int)))])) (n - 0) [1,0,0] (by kernel_rfl) ⟨0,L,rfl,g0,(RevI.start L),h32,own_p,hF⟩ ?_
 clear hF a
 clear g0
 clear h32
 clear own_p
 rintro m a h1 ⟨t,L',rfl,g0,hrv,h32',own_p,hF⟩
 refine cS ?_
 refine cS ?_
 refine cP 1 hF ?_
 refine sP 3 [nV t,.int .i64 (((n : Nat) : Int) - 1 - ((t : Nat) : Int)),.bool (decide (((t : Nat) : Int) < (((n : Nat) : Int) - 1 - ((t : Nat) : Int))))] ?_
 refine sD [(0,.slice ad n cap),(2,nV t),(3,.int .i64 (((n : Nat) : Int) - 1 - ((t : Nat) : Int))),(9,.bool (decide (((t : Nat) : Int) < (((n : Nat) : Int) - 1 - ((t : Nat) : Int)))))] ?_
 clear hF a; intro a hF
 refine tK ?_
 refine cC 9 (decide (((t : Nat) : Int) < (((n : Nat) : Int) - 1 - ((t : Nat) : Int)))) hF (fun hc2 => ?_) (fun hc2 => ?_)
 ·skip
  replace hc2 := of_decide_eq_true hc2
  have hlL : L'.length = n := hrv.1.trans hLn
  have hj : (((n : Nat) : Int) - 1 - ((t : Nat) : Int)) = ((n - 1 - t : Nat) : Int) := by omega
  rw [hj] at hF
  have hlt : t < n - 1 - t := by omega
  obtain ⟨aa,rfl,hcap⟩ := own_p.someA (by omega)
  have hr' := HR.of own_p h32'
  have hx1 : (L'.getD (n - 1 - t) []).length = 32 := h32'.get (by omega)
  have hx2 : (L'.getD t []).length = 32 := h32'.get (by omega)
  have hrv2 : RevI L ((L'.set t (L'.getD (n - 1 - t) [])).set (n - 1 - t) (L'.getD t [])) (t + 1) := by have := hrv.step (by rw [hLn]; exact hlt); rw [hLn] at this; exact this
  have hls : (L'.set t (L'.getD (n - 1 - t) [])).length = n := by rw [List.length_set]; exact hlL
  refine cN ?_
  refine tK ?_
  refine cS ?_
  refine cB 1 ?_
  refine cD [0,0,0,0,0,0,48,112,0,0,768,1792,4083,8179,16383,32767] 3 mixed hF ?_
  refine mP 63 [0,1,2,3,4,5] [.slice (some aa) n cap,nV t,.slice (some aa) n cap,nV (n - 1 - t),.slice (some aa) n cap,nV (n - 1 - t)] ?_
  refine mF 127 6 (.pointer (some (Addr.add aa ((n - 1 - t) * 32)))) (Calm.indexA (a := aa) (len := n) (sz := 32) (k := ((n - 1 - t : Nat) : Int)) (n - 1 - t) ((n - 1 - t) * 32) (by kernel_rfl) rfl (by omega) (by omega)) ?_
  refine mL 255 128 7 (.agg ((L'.getD (n - 1 - t) []).map bv).toArray) (Calm.load (T := 31) (p := (Addr.add aa ((n - 1 - t) * 32))) (by kernel_rfl) (HR.loads (k := (n - 1 - t)) (q := (n - 1 - t) * 32) (HR.of own_p h32') (by kernel_rfl) (by omega) (by omega))) ?_
  refine mP 1023 [8,9] [.slice (some aa) n cap,nV t] ?_
  refine mF 2047 10 (.pointer (some (Addr.add aa (t * 32)))) (Calm.indexA (a := aa) (len := n) (sz := 32) (k := ((t : Nat) : Int)) t (t * 32) (by kernel_rfl) rfl (by omega) (by omega)) ?_
  refine mL 4095 2176 11 (.agg ((L'.getD t []).map bv).toArray) (Calm.load (T := 31) (p := (Addr.add aa (t * 32))) (by kernel_rfl) (HR.loads (k := t) (q := t * 32) (HR.of own_p h32') (by kernel_rfl) (by omega) (by omega))) ?_
  refine mF 8191 12 (.pointer (some (Addr.add aa (t * 32)))) (Calm.indexA (a := aa) (len := n) (sz := 32) (k := ((t : Nat) : Int)) t (t * 32) (by kernel_rfl) rfl (by omega) (by omega)) ?_
  refine SimK.eff0 (i := 13) (D' := 16383) (X' := 16371) (by kernel_rfl) (by kernel_rfl) (by kernel_rfl) (by kernel_rfl) (Does.storeOwn (a := aa) (q := t * 32) (vs := (L'.getD (n - 1 - t) []).map bv) (storeOp_of (by kernel_rfl) (hlm (hr'.2.1.get (k := (n - 1 - t)) (by rw [hr'.2.2]; omega)))) own_p (by rw [hlm (hr'.2.1.get (k := (n - 1 - t)) (by rw [hr'.2.2]; omega))]; omega) (ones_map _)) ?_
  rintro _ h3 ⟨rfl,ownx,g⟩
  replace g0 := g0.trans g
  rw [hcs_set h32' (k := t) (by omega) (hr'.2.1.get (k := (n - 1 - t)) (by rw [hr'.2.2]; omega))] at ownx
  clear own_p; have own_p := ownx; clear ownx g
  refine mF 32767 14 (.pointer (some (Addr.add aa ((n - 1 - t) * 32)))) (Calm.indexA (a := aa) (len := n) (sz := 32) (k := ((n - 1 - t : Nat) : Int)) (n - 1 - t) ((n - 1 - t) * 32) (by kernel_rfl) rfl (by omega) (by omega)) ?_
  refine SimK.eff0 (i := 15) (D' := 65535) (X' := 65535) (by kernel_rfl) (by kernel_rfl) (by kernel_rfl) (by kernel_rfl) (Does.storeOwn (a := aa) (q := (n - 1 - t) * 32) (vs := (L'.getD t []).map bv) (storeOp_of (by kernel_rfl) (hlm (hr'.2.1.get (k := t) (by rw [hr'.2.2]; omega)))) own_p (by rw [hlm (hr'.2.1.get (k := t) (by rw [hr'.2.2]; omega))]; omega) (ones_map _)) ?_
  rintro _ h4 ⟨rfl,ownx,g⟩
  replace g0 := g0.trans g
  rw [hcs_set (h32'.set hx1) (k := n - 1 - t) (by omega) (hr'.2.1.get (k := t) (by rw [hr'.2.2]; omega))] at ownx
  clear own_p; have own_p := ownx; clear ownx g
  refine mD [(0,.slice (some aa) n cap),(2,nV t),(3,nV (n - 1 - t))] ?_
  clear hF a; intro a hF
  show C Tryd.prog (sub b28 [1,0,0,1,1]) _ a h4
  refine cP 2 hF ?_
  refine sP 1 [nV t] ?_
  refine s1 2 (.int .i64 ((t + 1 : Nat) : Int)) (.int .i64 (IntKind.i64.wrap (((t : Nat) : Int) + 1))) (congrArg (Value.int .i64) (w64' (by omega) (by omega) (by omega))) ?_
  refine sP 3 [nV (n - 1 - t)] ?_
  refine s1 4 (.int .i64 (((n - 1 - t) - 1 : Nat) : Int)) (.int .i64 (IntKind.i64.wrap (((n - 1 - t : Nat) : Int) - 1))) (congrArg (Value.int .i64) (w64' (by omega) (by omega) (by omega))) ?_
  refine sP 6 [nV (t + 1),nV ((n - 1 - t) - 1)] ?_
  refine sD [(0,.slice (some aa) n cap),(2,nV (t + 1)),(3,nV ((n - 1 - t) - 1))] ?_
  clear hF a; intro a hF
  have hnx : ((n - 1 - t - 1 : Nat) : Int) = ((n : Nat) : Int) - 1 - ((t + 1 : Nat) : Int) := by omega
  simp only [nV,hnx] at hF
  show ∃ m',m' < _ ∧ _
  refine ⟨_,?_,(t + 1),((L'.set t (L'.getD (n - 1 - t) [])).set (n - 1 - t) (L'.getD t [])),rfl,g0,hrv2,((h32'.set hx1).set hx2),own_p,hF⟩
  omega
 ·skip
  replace hc2 := of_decide_eq_false hc2
  refine cX 0 ?_
  show retK Tryd.prog Tryd.f28 (fun _ h' => Own h' (.slice ad n cap) 31 n 32 (hcs L.reverse) ∧ Grew (ad.map (·.block)) h h') .normal a h1
  refine ret_okN [] [] (.tuple #[]) rfl hF trivial rfl ?_
  have hlL : L'.length = n := hrv.1.trans hLn
  have e := hrv.done (by omega)
  exact ⟨e ▸ own_p,g0⟩
end Go.Proofs.YtkjlafiefgbjpaaDoor
