/- Walks of the laws of proofs held: what each function computes, as a law of its calls. No condition but those that each theorem names. -/
import Derived.Test.YteinikjbaaembaaDoorLawVer
import Derived.Test.YteinikjbaaembaaDoorVerC
import Derived.Test.YteinikjbaaembaaDoorVerE
namespace Go.Proofs.YteinikjbaaembaaDoor
open Go Go.Lane Go.Sha
noncomputable def b13 : Code := Tryd.f13.body.getD .skip
theorem hsame_sat (h : Heap) (A B : List Hs) (va vb : Option Addr) (vc vd n k : Nat) (hA : HR h va vc n A) (hB : HR h vb vd k B) (hn : n ≤ 1099511627776) : Sat Tryd.prog 13 #[.slice va n vc,.slice vb k vd] h fun v h' => v = .bool (decide (A = B)) ∧ h' = h := by
 refine sat_of (args := [.slice va n vc,.slice vb k vd]) (fn := Tryd.f13) (B := b13) (n := 26) (L := [(0,.slice va n vc),(1,.slice vb k vd)]) Tryd.func13 rfl (by kernel_rfl) rfl ?_
 intro a hF
 refine cS ?_
 refine cP 0 hF ?_
 refine sP 1 [.bool false] ?_
 refine sD [(0,.slice va n vc),(1,.slice vb k vd)] ?_
 clear hF a; intro a hF
 refine tK ?_
 refine cS ?_
 refine cS ?_
 refine cP 1 hF ?_
 refine sP 5 [.slice va n vc,nV n,.slice vb k vd,nV k,.bool (!decide (((n : Nat) : Int) = ((k : Nat) : Int)))] ?_
 refine sD [(0,.slice va n vc),(1,.slice vb k vd),(10,.bool (!decide (((n : Nat) : Int) = ((k : Nat) : Int))))] ?_
 clear hF a; intro a hF
 refine tK ?_
 refine cC 10 (!decide (((n : Nat) : Int) = ((k : Nat) : Int))) hF (fun hc1 => ?_) (fun hc1 => ?_)
 ·skip
  replace hc1 := not_decide_true hc1
  refine cS ?_
  refine cP 2 hF ?_
  refine sP 1 [.bool false] ?_
  refine sD [(4,.bool false)] ?_
  clear hF a; intro a hF
  refine tK ?_
  refine cR ?_
  show retK Tryd.prog Tryd.f13 (fun v h' => v = .bool (decide (A = B)) ∧ h' = h) .ret a h
  refine ret_ok [.tmp 4] [.bool false] (.bool false) rfl hF ⟨rfl,trivial⟩ rfl ?_
  exact ⟨by rw [decide_eq_false (fun e => by have h1 := hA.2.2; have h2 := hB.2.2; rw [e] at h1; omega)],rfl⟩
 ·skip
  replace hc1 := not_decide_false hc1
  have hnm : k = n := by omega
  refine cN ?_
  refine tK ?_
  refine cS ?_
  refine cS ?_
  refine cP 3 hF ?_
  refine sP 1 [.int .i64 0] ?_
  refine sD [(0,.slice va n vc),(1,.slice vb k vd),(5,.int .i64 0)] ?_
  clear hF a; intro a hF
  refine tK ?_
  refine cB 0 ?_
  refine C.loop (fun m a h' => ∃ i : Nat,m = n - i ∧ (i ≤ n ∧ A.take i = B.take i) ∧ (h = h') ∧ (Fr a 26 [(0,.slice va n vc),(1,.slice vb k vd),(5,.int .i64 ((i : Nat) : Int))])) (n - 0) [1,1,0,1,0,0] (by kernel_rfl) ⟨0,rfl,⟨by omega,rfl⟩,rfl,hF⟩ ?_
  clear hF a
  rintro m a h2 ⟨i,rfl,hi,hh,hF⟩
  obtain ⟨hi1,hi2⟩ := hi; have hi := And.intro hi1 hi2
  refine cS ?_
  refine cS ?_
  refine cP 4 hF ?_
  refine sP 4 [nV i,.slice va n vc,nV n,.bool (decide (((i : Nat) : Int) < ((n : Nat) : Int)))] ?_
  refine sD [(0,.slice va n vc),(1,.slice vb k vd),(5,nV i),(14,.bool (decide (((i : Nat) : Int) < ((n : Nat) : Int))))] ?_
  clear hF a; intro a hF
  refine tK ?_
  refine cC 14 (decide (((i : Nat) : Int) < ((n : Nat) : Int))) hF (fun hc3 => ?_) (fun hc3 => ?_)
  ·skip
   replace hc3 := of_decide_eq_true hc3
   obtain ⟨aa,rfl,_⟩ := hA.someA (by omega)
   obtain ⟨ab,rfl,_⟩ := hB.someA (by omega)
   refine cN ?_
   refine tK ?_
   refine cS ?_
   refine cB 1 ?_
   refine cS ?_
   refine cD [0,0,3,7,0,0,48,112,255] 6 mixed hF ?_
   refine mP 3 [0,1] [.slice (some aa) n vc,nV i] ?_
   refine mF 7 2 (.pointer (some (Addr.add aa (i * 32)))) (Calm.indexA (a := aa) (len := n) (sz := 32) (k := ((i : Nat) : Int)) i (i * 32) (by kernel_rfl) rfl (by omega) (by omega)) ?_
   refine mL 15 8 3 (.agg ((A.getD i []).map bv).toArray) (Calm.load (T := 23) (p := (Addr.add aa (i * 32))) (by kernel_rfl) (HR.loads (k := i) (q := i * 32) ((hh ▸ hA)) (by kernel_rfl) (by omega) (by omega))) ?_
   refine mP 63 [4,5] [.slice (some ab) k vd,nV i] ?_
   refine mF 127 6 (.pointer (some (Addr.add ab (i * 32)))) (Calm.indexA (a := ab) (len := k) (sz := 32) (k := ((i : Nat) : Int)) i (i * 32) (by kernel_rfl) rfl (by omega) (by omega)) ?_
   refine mL 255 136 7 (.agg ((B.getD i []).map bv).toArray) (Calm.load (T := 23) (p := (Addr.add ab (i * 32))) (by kernel_rfl) (HR.loads (k := i) (q := i * 32) ((hh ▸ hB)) (by kernel_rfl) (by omega) (by omega))) ?_
   refine mF 511 8 (.bool (!decide ((A.getD i []) = (B.getD i [])))) (eqH0 (l := (A.getD i [])) (r := (B.getD i [])) (n := 32) (by kernel_rfl) (hA.2.1.get (k := i) (by rw [hA.2.2]; omega)) (hB.2.1.get (k := i) (by rw [hB.2.2]; omega))) ?_
   refine mD [(0,.slice (some aa) n vc),(1,.slice (some ab) k vd),(5,nV i),(25,.bool (!decide ((A.getD i []) = (B.getD i []))))] ?_
   clear hF a; intro a hF
   refine tK ?_
   refine cC 25 (!decide ((A.getD i []) = (B.getD i []))) hF (fun hc4 => ?_) (fun hc4 => ?_)
   ·skip
    replace hc4 := not_decide_true hc4
    refine cS ?_
    refine cP 7 hF ?_
    refine sP 1 [.bool false] ?_
    refine sD [(4,.bool false)] ?_
    clear hF a; intro a hF
    refine tK ?_
    refine cR ?_
    show retK Tryd.prog Tryd.f13 (fun v h' => v = .bool (decide (A = B)) ∧ h' = h) .ret a h2
    refine ret_ok [.tmp 4] [.bool false] (.bool false) rfl hF ⟨rfl,trivial⟩ rfl ?_
    exact ⟨by rw [decide_eq_false (take_ne hc4)],hh.symm⟩
   ·skip
    replace hc4 := not_decide_false hc4
    have hq := hc4
    refine cN ?_
    show C Tryd.prog (sub b13 [1,1,0,1,0,0,1,1]) _ a h2
    refine cP 5 hF ?_
    refine sP 1 [nV i] ?_
    refine s1 2 (.int .i64 ((i + 1 : Nat) : Int)) (.int .i64 (IntKind.i64.wrap (((i : Nat) : Int) + 1))) (congrArg (Value.int .i64) (w64' (by omega) (by omega) (by omega))) ?_
    refine sP 3 [nV (i + 1)] ?_
    refine sD [(0,.slice (some aa) n vc),(1,.slice (some ab) k vd),(5,nV (i + 1))] ?_
    clear hF a; intro a hF
    show ∃ m',m' < _ ∧ _
    refine ⟨_,?_,i + 1,rfl,⟨by omega,take_eq (i := i) (n := n) hA.2.2 (hB.2.2.trans hnm) (by omega) hi.2 hq⟩,hh,hF⟩
    omega
  ·skip
   replace hc3 := of_decide_eq_false hc3
   refine cX 0 ?_
   show C Tryd.prog (sub b13 [1,1,1]) _ a h2
   refine cS ?_
   refine cP 8 hF ?_
   refine sP 1 [.bool true] ?_
   refine sD [(4,.bool true)] ?_
   clear hF a; intro a hF
   refine tK ?_
   refine cR ?_
   show retK Tryd.prog Tryd.f13 (fun v h' => v = .bool (decide (A = B)) ∧ h' = h) .ret a h2
   refine ret_ok [.tmp 4] [.bool true] (.bool true) rfl hF ⟨rfl,trivial⟩ rfl ?_
   have hAB : A = B := by
    have e := hi.2
    rw [List.take_of_length_le (by rw [hA.2.2]; omega),List.take_of_length_le (by rw [hB.2.2]; omega)] at e; exact e
   exact ⟨by rw [decide_eq_true hAB],hh.symm⟩
theorem vincl_at (h : Heap) (x : Hs) (m n : Int) (r : List Hs) (va : Option Addr) (vc : Nat) (t : Hs) (hx : x.length = 32) (ht : t.length = 32) (hr : HR h va vc r.length r) (hrl : r.length ≤ 1099511627776) (hn : n ≤ 9223372036854775807) (kt : Ktab h) (hvl : ∀ k,va.map (fun (x : Addr) => x.block) = some k → k < h.size) (v : Bool) (hv : inclB x m n r t = v) : Sat Tryd.prog 11 #[.agg (x.map bv).toArray,.int .i64 m,.int .i64 n,.slice va r.length vc,.agg (t.map bv).toArray] h fun u h' => u = .bool v ∧ Ext h h' := by
 have := vincl_gen h x m n r va vc t hx ht hr hrl hn kt (.inr hvl)
 rw [hv] at this; exact this
theorem vcons_at (h : Heap) (m n : Int) (x t : Hs) (r : List Hs) (va : Option Addr) (vc : Nat) (hx : x.length = 32) (ht : t.length = 32) (hr : HR h va vc r.length r) (hrl : r.length ≤ 1099511627776) (hn : n ≤ 9223372036854775807) (kt : Ktab h) (hvl : ∀ k,va.map (fun (x : Addr) => x.block) = some k → k < h.size) (v : Bool) (hv : consB m n x t r = v) : Sat Tryd.prog 14 #[.int .i64 m,.int .i64 n,.agg (x.map bv).toArray,.agg (t.map bv).toArray,.slice va r.length vc] h fun u h' => u = .bool v ∧ Ext h h' := by
 have := vcons_gen h m n x t r va vc hx ht hr hrl hn kt (.inr hvl)
 rw [hv] at this; exact this
theorem hsame_eq (h : Heap) (A : List Hs) (va vb : Option Addr) (vc vd n : Nat) (hA : HR h va vc n A) (hB : HR h vb vd n A) (hn : n ≤ 1099511627776) : Sat Tryd.prog 13 #[.slice va n vc,.slice vb n vd] h fun v h' => v = .bool true ∧ h' = h :=
 (hsame_sat h A A va vb vc vd n n hA hB hn).mono fun _ _ e => ⟨by rw [e.1]; simp,e.2⟩
noncomputable def b10 : Code := Tryd.f10.body.getD .skip
set_option maxHeartbeats 4000000 in
theorem shown6_sat (h : Heap) (kt : Ktab h) : Sat Tryd.prog 10 #[] h fun v h' => v = .bool true ∧ Ext h h' := by
 have e0 := Ext.refl h
 have h0s := kt.lt
 have sep : Sep h.size h.size [] := Sep.nil _ _
 refine sat_of (args := []) (fn := Tryd.f10) (B := b10) (n := 107) (L := []) Tryd.func10 rfl (by kernel_rfl) rfl ?_
 intro a hF
 refine cS ?_
 refine cP 0 hF ?_
 refine sP 1 [.bool false] ?_
 refine sD [] ?_
 clear hF a; intro a hF
 refine tK ?_
 refine cS ?_
 refine cP 1 hF ?_
 refine sP 1 [.agg (hk1.map bv).toArray] ?_
 refine SeqK.eff (k' := 2) (Does.new (v := .pointer (some ⟨h.size,0,none⟩)) (o := .cells (z32.map bv).toArray 23) (by kernel_rfl)) rfl ?_
 rintro _ h1 ⟨rfl,hh⟩
 have g2 : Ext h h1 := push_ext hh
 have m3 : h1[h.size]? = some (.cells (z32.map bv).toArray 23) := push_at hh
 clear hh
 have lt4 := blk_lt m3
 have zs5 := e0.size
 have hlo := e0.size
 have sepo := sep
 replace e0 := e0.ext g2
 replace kt := kt.ext g2
 replace sep := sep.up g2.size
 replace sep := sepo.new hlo (blk_lt m3)
 clear sepo hlo
 refine SeqK.eff (k' := 3) (Does.store (b := h.size) (off := 0) (vs := hk1.map bv) (l := z32.map bv) (storeOp_of (by kernel_rfl) (hlm rfl)) m3 (hfit rfl rfl) (ones_map _)) rfl ?_
 rintro _ h6 ⟨rfl,hh⟩
 have g7 : Grew (some (h.size)) h1 h6 := hput_gr hh
 replace m3 : h6[h.size]? = some (.cells (hk1.map bv).toArray 23) := hput_at (off := 0) (vs := hk1.map bv) (l := (z32.map bv)) hh (hsplice rfl rfl) m3
 clear hh
 replace e0 := e0.grew g7 (sep.low 0 rfl)
 replace kt := kt.grew g7 (sep.zero 0 rfl h0s)
 replace sep := sep.up g7.size
 refine sD [(1,pV h.size)] ?_
 clear hF a; intro a hF
 refine tK ?_
 refine cS ?_
 refine cP 2 hF ?_
 refine sP 1 [.agg (hk2.map bv).toArray] ?_
 refine SeqK.eff (k' := 2) (Does.new (v := .pointer (some ⟨h6.size,0,none⟩)) (o := .cells (z32.map bv).toArray 23) (by kernel_rfl)) rfl ?_
 rintro _ h8 ⟨rfl,hh⟩
 have g9 : Ext h6 h8 := push_ext hh
 have m10 : h8[h6.size]? = some (.cells (z32.map bv).toArray 23) := push_at hh
 clear hh
 have lt11 := blk_lt m10
 have zs12 := e0.size
 have hlo := e0.size
 have sepo := sep
 replace e0 := e0.ext g9
 replace kt := kt.ext g9
 replace m3 := Ext.blk g9 m3
 replace sep := sep.up g9.size
 replace sep := sepo.new hlo (blk_lt m10)
 clear sepo hlo
 refine SeqK.eff (k' := 3) (Does.store (b := h6.size) (off := 0) (vs := hk2.map bv) (l := z32.map bv) (storeOp_of (by kernel_rfl) (hlm rfl)) m10 (hfit rfl rfl) (ones_map _)) rfl ?_
 rintro _ h13 ⟨rfl,hh⟩
 have g14 : Grew (some (h6.size)) h8 h13 := hput_gr hh
 replace m10 : h13[h6.size]? = some (.cells (hk2.map bv).toArray 23) := hput_at (off := 0) (vs := hk2.map bv) (l := (z32.map bv)) hh (hsplice rfl rfl) m10
 clear hh
 replace e0 := e0.grew g14 (sep.low 0 rfl)
 replace kt := kt.grew g14 (sep.zero 0 rfl h0s)
 replace m3 := Grew.blk g14 m3 ((sep.bp 1 0))
 replace sep := sep.up g14.size
 refine sD [(1,pV h.size),(2,pV h6.size)] ?_
 clear hF a; intro a hF
 refine tK ?_
 refine cS ?_
 refine cP 3 hF ?_
 refine sP 1 [.agg (hk3.map bv).toArray] ?_
 refine SeqK.eff (k' := 2) (Does.new (v := .pointer (some ⟨h13.size,0,none⟩)) (o := .cells (z32.map bv).toArray 23) (by kernel_rfl)) rfl ?_
 rintro _ h15 ⟨rfl,hh⟩
 have g16 : Ext h13 h15 := push_ext hh
 have m17 : h15[h13.size]? = some (.cells (z32.map bv).toArray 23) := push_at hh
 clear hh
 have lt18 := blk_lt m17
 have zs19 := e0.size
 have hlo := e0.size
 have sepo := sep
 replace e0 := e0.ext g16
 replace kt := kt.ext g16
 replace m3 := Ext.blk g16 m3
 replace m10 := Ext.blk g16 m10
 replace sep := sep.up g16.size
 replace sep := sepo.new hlo (blk_lt m17)
 clear sepo hlo
 refine SeqK.eff (k' := 3) (Does.store (b := h13.size) (off := 0) (vs := hk3.map bv) (l := z32.map bv) (storeOp_of (by kernel_rfl) (hlm rfl)) m17 (hfit rfl rfl) (ones_map _)) rfl ?_
 rintro _ h20 ⟨rfl,hh⟩
 have g21 : Grew (some (h13.size)) h15 h20 := hput_gr hh
 replace m17 : h20[h13.size]? = some (.cells (hk3.map bv).toArray 23) := hput_at (off := 0) (vs := hk3.map bv) (l := (z32.map bv)) hh (hsplice rfl rfl) m17
 clear hh
 replace e0 := e0.grew g21 (sep.low 0 rfl)
 replace kt := kt.grew g21 (sep.zero 0 rfl h0s)
 replace m3 := Grew.blk g21 m3 ((sep.bp 2 0))
 replace m10 := Grew.blk g21 m10 ((sep.bp 1 0))
 replace sep := sep.up g21.size
 refine sD [(1,pV h.size),(2,pV h6.size),(3,pV h13.size)] ?_
 clear hF a; intro a hF
 refine tK ?_
 refine cS ?_
 refine cP 4 hF ?_
 refine sP 1 [.agg (hk4.map bv).toArray] ?_
 refine SeqK.eff (k' := 2) (Does.new (v := .pointer (some ⟨h20.size,0,none⟩)) (o := .cells (z32.map bv).toArray 23) (by kernel_rfl)) rfl ?_
 rintro _ h22 ⟨rfl,hh⟩
 have g23 : Ext h20 h22 := push_ext hh
 have m24 : h22[h20.size]? = some (.cells (z32.map bv).toArray 23) := push_at hh
 clear hh
 have lt25 := blk_lt m24
 have zs26 := e0.size
 have hlo := e0.size
 have sepo := sep
 replace e0 := e0.ext g23
 replace kt := kt.ext g23
 replace m3 := Ext.blk g23 m3
 replace m10 := Ext.blk g23 m10
 replace m17 := Ext.blk g23 m17
 replace sep := sep.up g23.size
 replace sep := sepo.new hlo (blk_lt m24)
 clear sepo hlo
 refine SeqK.eff (k' := 3) (Does.store (b := h20.size) (off := 0) (vs := hk4.map bv) (l := z32.map bv) (storeOp_of (by kernel_rfl) (hlm rfl)) m24 (hfit rfl rfl) (ones_map _)) rfl ?_
 rintro _ h27 ⟨rfl,hh⟩
 have g28 : Grew (some (h20.size)) h22 h27 := hput_gr hh
 replace m24 : h27[h20.size]? = some (.cells (hk4.map bv).toArray 23) := hput_at (off := 0) (vs := hk4.map bv) (l := (z32.map bv)) hh (hsplice rfl rfl) m24
 clear hh
 replace e0 := e0.grew g28 (sep.low 0 rfl)
 replace kt := kt.grew g28 (sep.zero 0 rfl h0s)
 replace m3 := Grew.blk g28 m3 ((sep.bp 3 0))
 replace m10 := Grew.blk g28 m10 ((sep.bp 2 0))
 replace m17 := Grew.blk g28 m17 ((sep.bp 1 0))
 replace sep := sep.up g28.size
 refine sD [(1,pV h.size),(2,pV h6.size),(3,pV h13.size),(4,pV h20.size)] ?_
 clear hF a; intro a hF
 refine tK ?_
 refine cS ?_
 refine cP 5 hF ?_
 refine sC 1 (.agg (hk1.map bv).toArray) (Calm.load (T := 23) (p := ⟨h.size,0,none⟩) (by kernel_rfl) (Loads.hash (by kernel_rfl) rfl m3)) ?_
 refine sC 2 (.agg (hk2.map bv).toArray) (Calm.load (T := 23) (p := ⟨h6.size,0,none⟩) (by kernel_rfl) (Loads.hash (by kernel_rfl) rfl m10)) ?_
 refine SeqK.eff (k' := 3) (Does.call (f := 27) (args := #[.agg (hk1.map bv).toArray,.agg (hk2.map bv).toArray]) (by kernel_rfl) (node_sat _ hk1 hk2 rfl rfl kt)) rfl ?_
 rintro _ h29 ⟨rfl,g⟩
 replace e0 := e0.ext g
 replace kt := kt.ext g
 replace m3 := Ext.blk g m3
 replace m10 := Ext.blk g m10
 replace m17 := Ext.blk g m17
 replace m24 := Ext.blk g m24
 replace sep := sep.up g.size
 clear g
 refine SeqK.eff (k' := 4) (Does.new (v := .pointer (some ⟨h29.size,0,none⟩)) (o := .cells (z32.map bv).toArray 23) (by kernel_rfl)) rfl ?_
 rintro _ h30 ⟨rfl,hh⟩
 have g31 : Ext h29 h30 := push_ext hh
 have m32 : h30[h29.size]? = some (.cells (z32.map bv).toArray 23) := push_at hh
 clear hh
 have lt33 := blk_lt m32
 have zs34 := e0.size
 have hlo := e0.size
 have sepo := sep
 replace e0 := e0.ext g31
 replace kt := kt.ext g31
 replace m3 := Ext.blk g31 m3
 replace m10 := Ext.blk g31 m10
 replace m17 := Ext.blk g31 m17
 replace m24 := Ext.blk g31 m24
 replace sep := sep.up g31.size
 replace sep := sepo.new hlo (blk_lt m32)
 clear sepo hlo
 refine SeqK.eff (k' := 5) (Does.store (b := h29.size) (off := 0) (vs := (nodeH hk1 hk2).map bv) (l := z32.map bv) (storeOp_of (by kernel_rfl) (hlm (node_len _ _))) m32 (hfit rfl (node_len _ _)) (ones_map _)) rfl ?_
 rintro _ h35 ⟨rfl,hh⟩
 have g36 : Grew (some (h29.size)) h30 h35 := hput_gr hh
 replace m32 : h35[h29.size]? = some (.cells ((nodeH hk1 hk2).map bv).toArray 23) := hput_at (off := 0) (vs := (nodeH hk1 hk2).map bv) (l := (z32.map bv)) hh (hsplice rfl (node_len _ _)) m32
 clear hh
 replace e0 := e0.grew g36 (sep.low 0 rfl)
 replace kt := kt.grew g36 (sep.zero 0 rfl h0s)
 replace m3 := Grew.blk g36 m3 ((sep.bp 4 0))
 replace m10 := Grew.blk g36 m10 ((sep.bp 3 0))
 replace m17 := Grew.blk g36 m17 ((sep.bp 2 0))
 replace m24 := Grew.blk g36 m24 ((sep.bp 1 0))
 replace sep := sep.up g36.size
 refine sD [(1,pV h.size),(2,pV h6.size),(3,pV h13.size),(4,pV h20.size),(5,pV h29.size)] ?_
 clear hF a; intro a hF
 refine tK ?_
 refine cS ?_
 refine C.mono (K := fun e a hJ => e = .normal ∧ (Ext h hJ) ∧ (Ktab hJ) ∧ (hJ[h.size]? = some (.cells (hk1.map bv).toArray 23)) ∧ (hJ[h6.size]? = some (.cells (hk2.map bv).toArray 23)) ∧ (hJ[h13.size]? = some (.cells (hk3.map bv).toArray 23)) ∧ (hJ[h20.size]? = some (.cells (hk4.map bv).toArray 23)) ∧ (hJ[h29.size]? = some (.cells ((nodeH hk1 hk2).map bv).toArray 23)) ∧ (Sep h.size hJ.size [some (h29.size),some (h20.size),some (h13.size),some (h6.size),some (h.size)]) ∧ Fr a 107 [(1,.pointer (some ⟨h.size,0,none⟩)),(2,.pointer (some ⟨h6.size,0,none⟩)),(3,.pointer (some ⟨h13.size,0,none⟩)),(4,.pointer (some ⟨h20.size,0,none⟩)),(5,.pointer (some ⟨h29.size,0,none⟩)),(6,.bool true)]) ?_ ?_
 ·skip
  refine cD [0,0,3,7,15,15,47,15,255,511,1023,2047,4095,4095,12287,4095,4095,102399,262143,524287,1048575,2097151,2097151,2097151,14680063,2097151,2097151,102760447,268435455,536870911,1073741823] 6 mixed hF ?_
  refine mL 1 1 0 (.agg (hk1.map bv).toArray) (Calm.load (T := 23) (p := ⟨h.size,0,none⟩) (by kernel_rfl) (Loads.hash (by kernel_rfl) rfl m3)) ?_
  refine mL 3 3 1 (.agg (hk1.map bv).toArray) (Calm.load (T := 23) (p := ⟨h.size,0,none⟩) (by kernel_rfl) (Loads.hash (by kernel_rfl) rfl m3)) ?_
  refine SimK.eff0 (i := 2) (D' := 7) (X' := 7) (by kernel_rfl) (by kernel_rfl) (by kernel_rfl) (by kernel_rfl) (Does.call (f := 11) (args := #[.agg (hk1.map bv).toArray,.int .i64 0,.int .i64 1,.slice none 0 0,.agg (hk1.map bv).toArray]) (by kernel_rfl) (vincl_at _ hk1 (0) (1) [] _ _ hk1 rfl rfl (HR.nil _) (by decide) (by decide) kt (fun k e => by cases e) true (i_one _))) ?_
  rintro _ h37 ⟨rfl,g⟩
  replace e0 := e0.ext g
  replace kt := kt.ext g
  replace m3 := Ext.blk g m3
  replace m10 := Ext.blk g m10
  replace m17 := Ext.blk g m17
  replace m24 := Ext.blk g m24
  replace m32 := Ext.blk g m32
  replace sep := sep.up g.size
  clear g
  refine mP 15 [3] [.bool true] ?_
  refine mL 31 19 4 (.agg (hk1.map bv).toArray) (Calm.load (T := 23) (p := ⟨h.size,0,none⟩) (by kernel_rfl) (Loads.hash (by kernel_rfl) rfl m3)) ?_
  refine mL 63 51 5 (.agg (hk2.map bv).toArray) (Calm.load (T := 23) (p := ⟨h6.size,0,none⟩) (by kernel_rfl) (Loads.hash (by kernel_rfl) rfl m10)) ?_
  refine mL 191 179 7 (.agg (hk1.map bv).toArray) (Calm.load (T := 23) (p := ⟨h.size,0,none⟩) (by kernel_rfl) (Loads.hash (by kernel_rfl) rfl m3)) ?_
  refine SimK.eff (i := 6) (D' := 255) (X' := 111) (by kernel_rfl) (by kernel_rfl) (by kernel_rfl) [4,7] (by kernel_rfl) (Does.newHs (L := [hk2]) (t := 24) (E := 23) (by_ := 32) (n := 1) (by kernel_rfl) (by kernel_rfl) (All32.cons rfl All32.nil) rfl (by decide) (by decide)) ?_
  rintro _ h38 ⟨rfl,hh⟩
  have g39 : Ext h37 h38 := push_ext hh
  have m40 : h38[h37.size]? = some (.cells (hcs [hk2]).toArray 23) := push_at hh
  clear hh
  have lt41 := blk_lt m40
  have zs42 := e0.size
  have hlo := e0.size
  have sepo := sep
  replace e0 := e0.ext g39
  replace kt := kt.ext g39
  replace m3 := Ext.blk g39 m3
  replace m10 := Ext.blk g39 m10
  replace m17 := Ext.blk g39 m17
  replace m24 := Ext.blk g39 m24
  replace m32 := Ext.blk g39 m32
  replace sep := sep.up g39.size
  replace sep := sepo.new hlo (blk_lt m40)
  clear sepo hlo
  refine ⟨?_,?_⟩
  ·intro j hj
   simp only [List.mem_cons,List.not_mem_nil,or_false] at hj
   rcases hj with rfl | rfl
   ·exact goodOf (Calm.load (T := 23) (p := ⟨h.size,0,none⟩) (by kernel_rfl) (Loads.hash (by kernel_rfl) rfl m3))
   ·exact goodOf (Calm.load (T := 23) (p := ⟨h.size,0,none⟩) (by kernel_rfl) (Loads.hash (by kernel_rfl) rfl m3))
  refine SimK.eff0 (i := 8) (D' := 511) (X' := 511) (by kernel_rfl) (by kernel_rfl) (by kernel_rfl) (by kernel_rfl) (Does.call (f := 11) (args := #[.agg (hk1.map bv).toArray,.int .i64 0,.int .i64 1,.slice (some ⟨h37.size,0,none⟩) 1 1,.agg (hk1.map bv).toArray]) (by kernel_rfl) (vincl_at _ hk1 (0) (1) [hk2] _ _ hk1 rfl rfl (HR.of (Own.blk (n := 1) m40 (by rw [hcs_length (All32.cons rfl All32.nil)]; rfl) (by unfold maxLen; decide)) (All32.cons rfl All32.nil)) (by decide) (by decide) kt (fun k e => by cases e; exact blk_lt m40) false (i_more _ _))) ?_
  rintro _ h43 ⟨rfl,g⟩
  replace e0 := e0.ext g
  replace kt := kt.ext g
  replace m3 := Ext.blk g m3
  replace m10 := Ext.blk g m10
  replace m17 := Ext.blk g m17
  replace m24 := Ext.blk g m24
  replace m32 := Ext.blk g m32
  replace m40 := Ext.blk g m40
  replace sep := sep.up g.size
  clear g
  refine mP 4095 [9,10,11] [.bool true,.bool true,.bool true] ?_
  refine mL 8191 4275 12 (.agg (hk3.map bv).toArray) (Calm.load (T := 23) (p := ⟨h13.size,0,none⟩) (by kernel_rfl) (Loads.hash (by kernel_rfl) rfl m17)) ?_
  refine mL 16383 12467 13 (.agg ((nodeH hk1 hk2).map bv).toArray) (Calm.load (T := 23) (p := ⟨h29.size,0,none⟩) (by kernel_rfl) (Loads.hash (by kernel_rfl) (node_len _ _) m32)) ?_
  refine mL 49151 45235 15 (.agg ((nodeH hk1 hk2).map bv).toArray) (Calm.load (T := 23) (p := ⟨h29.size,0,none⟩) (by kernel_rfl) (Loads.hash (by kernel_rfl) (node_len _ _) m32)) ?_
  refine mL 114687 110771 16 (.agg (hk3.map bv).toArray) (Calm.load (T := 23) (p := ⟨h13.size,0,none⟩) (by kernel_rfl) (Loads.hash (by kernel_rfl) rfl m17)) ?_
  refine SimK.effs (is := [14,17]) (by kernel_rfl) (by simp) ?_
  intro q hq
  simp only [List.mem_cons,List.not_mem_nil,or_false] at hq
  rcases hq with rfl | rfl
  ·skip
   refine SimK.effAt (i := 14) (D' := 131071) (X' := 28671) (by kernel_rfl) (by kernel_rfl) [12,15,16] (by kernel_rfl) (Does.newHs (L := [nodeH hk1 hk2]) (t := 24) (E := 23) (by_ := 32) (n := 1) (by kernel_rfl) (by kernel_rfl) (All32.cons (node_len _ _) All32.nil) rfl (by decide) (by decide)) ?_
   rintro _ h44 ⟨rfl,hh⟩
   have g45 : Ext h43 h44 := push_ext hh
   have m46 : h44[h43.size]? = some (.cells (hcs [nodeH hk1 hk2]).toArray 23) := push_at hh
   clear hh
   have lt47 := blk_lt m46
   have zs48 := e0.size
   have hlo := e0.size
   have sepo := sep
   replace e0 := e0.ext g45
   replace kt := kt.ext g45
   replace m3 := Ext.blk g45 m3
   replace m10 := Ext.blk g45 m10
   replace m17 := Ext.blk g45 m17
   replace m24 := Ext.blk g45 m24
   replace m32 := Ext.blk g45 m32
   replace m40 := Ext.blk g45 m40
   replace sep := sep.up g45.size
   replace sep := sepo.new hlo (blk_lt m46)
   clear sepo hlo
   refine ⟨?_,?_⟩
   ·intro j hj
    simp only [List.mem_cons,List.not_mem_nil,or_false] at hj
    rcases hj with rfl | rfl | rfl
    ·exact goodOf (Calm.load (T := 23) (p := ⟨h13.size,0,none⟩) (by kernel_rfl) (Loads.hash (by kernel_rfl) rfl m17))
    ·exact goodOf (Calm.load (T := 23) (p := ⟨h29.size,0,none⟩) (by kernel_rfl) (Loads.hash (by kernel_rfl) (node_len _ _) m32))
    ·exact goodOf (Calm.load (T := 23) (p := ⟨h13.size,0,none⟩) (by kernel_rfl) (Loads.hash (by kernel_rfl) rfl m17))
   refine SimK.eff (i := 17) (D' := 262143) (X' := 258047) (by kernel_rfl) (by kernel_rfl) (by kernel_rfl) [12] (by kernel_rfl) (Does.call (f := 27) (args := #[.agg ((nodeH hk1 hk2).map bv).toArray,.agg (hk3.map bv).toArray]) (by kernel_rfl) (node_sat _ (nodeH hk1 hk2) hk3 (node_len _ _) rfl kt)) ?_
   rintro _ h49 ⟨rfl,g⟩
   replace e0 := e0.ext g
   replace kt := kt.ext g
   replace m3 := Ext.blk g m3
   replace m10 := Ext.blk g m10
   replace m17 := Ext.blk g m17
   replace m24 := Ext.blk g m24
   replace m32 := Ext.blk g m32
   replace m40 := Ext.blk g m40
   replace m46 := Ext.blk g m46
   replace sep := sep.up g.size
   refine ⟨?_,?_⟩
   ·intro j hj
    simp only [List.mem_cons,List.not_mem_nil,or_false] at hj
    subst hj
    exact goodOf (Calm.load (T := 23) (p := ⟨h13.size,0,none⟩) (by kernel_rfl) (Loads.hash (by kernel_rfl) rfl m17))
   clear g
   refine SimK.eff0 (i := 18) (D' := 524287) (X' := 524287) (by kernel_rfl) (by kernel_rfl) (by kernel_rfl) (by kernel_rfl) (Does.call (f := 11) (args := #[.agg (hk3.map bv).toArray,.int .i64 2,.int .i64 3,.slice (some ⟨h43.size,0,none⟩) 1 1,.agg ((nodeH (nodeH hk1 hk2) hk3).map bv).toArray]) (by kernel_rfl) (vincl_at _ hk3 (2) (3) [nodeH hk1 hk2] _ _ (nodeH (nodeH hk1 hk2) hk3) rfl (node_len _ _) (HR.of (Own.blk (n := 1) m46 (by rw [hcs_length (All32.cons (node_len _ _) All32.nil)]; rfl) (by unfold maxLen; decide)) (All32.cons (node_len _ _) All32.nil)) (by decide) (by decide) kt (fun k e => by cases e; exact blk_lt m46) true (i_three _ _))) ?_
   rintro _ h50 ⟨rfl,g⟩
   replace e0 := e0.ext g
   replace kt := kt.ext g
   replace m3 := Ext.blk g m3
   replace m10 := Ext.blk g m10
   replace m17 := Ext.blk g m17
   replace m24 := Ext.blk g m24
   replace m32 := Ext.blk g m32
   replace m40 := Ext.blk g m40
   replace m46 := Ext.blk g m46
   replace sep := sep.up g.size
   clear g
   refine mP 2097151 [19,20] [.bool true,.bool true] ?_
   refine mL 4194303 2207923 21 (.agg (hk1.map bv).toArray) (Calm.load (T := 23) (p := ⟨h.size,0,none⟩) (by kernel_rfl) (Loads.hash (by kernel_rfl) rfl m3)) ?_
   refine mL 8388607 6402227 22 (.agg (hk2.map bv).toArray) (Calm.load (T := 23) (p := ⟨h6.size,0,none⟩) (by kernel_rfl) (Loads.hash (by kernel_rfl) rfl m10)) ?_
   refine mL 16777215 14790835 23 (.agg (hk3.map bv).toArray) (Calm.load (T := 23) (p := ⟨h13.size,0,none⟩) (by kernel_rfl) (Loads.hash (by kernel_rfl) rfl m17)) ?_
   refine mL 50331647 48345267 25 (.agg ((nodeH hk1 hk2).map bv).toArray) (Calm.load (T := 23) (p := ⟨h29.size,0,none⟩) (by kernel_rfl) (Loads.hash (by kernel_rfl) (node_len _ _) m32)) ?_
   refine mL 117440511 115454131 26 (.agg (hk3.map bv).toArray) (Calm.load (T := 23) (p := ⟨h13.size,0,none⟩) (by kernel_rfl) (Loads.hash (by kernel_rfl) rfl m17)) ?_
   refine SimK.effs (is := [24,27]) (by kernel_rfl) (by simp) ?_
   intro q hq
   simp only [List.mem_cons,List.not_mem_nil,or_false] at hq
   rcases hq with rfl | rfl
   ·skip
    refine SimK.effAt (i := 24) (D' := 134217727) (X' := 31457279) (by kernel_rfl) (by kernel_rfl) [21,25,26] (by kernel_rfl) (Does.newHs (L := [hk2,hk3]) (t := 24) (E := 23) (by_ := 32) (n := 2) (by kernel_rfl) (by kernel_rfl) (All32.cons rfl (All32.cons rfl All32.nil)) rfl (by decide) (by decide)) ?_
    rintro _ h51 ⟨rfl,hh⟩
    have g52 : Ext h50 h51 := push_ext hh
    have m53 : h51[h50.size]? = some (.cells (hcs [hk2,hk3]).toArray 23) := push_at hh
    clear hh
    have lt54 := blk_lt m53
    have zs55 := e0.size
    have hlo := e0.size
    have sepo := sep
    replace e0 := e0.ext g52
    replace kt := kt.ext g52
    replace m3 := Ext.blk g52 m3
    replace m10 := Ext.blk g52 m10
    replace m17 := Ext.blk g52 m17
    replace m24 := Ext.blk g52 m24
    replace m32 := Ext.blk g52 m32
    replace m40 := Ext.blk g52 m40
    replace m46 := Ext.blk g52 m46
    replace sep := sep.up g52.size
    replace sep := sepo.new hlo (blk_lt m53)
    clear sepo hlo
    refine ⟨?_,?_⟩
    ·intro j hj
     simp only [List.mem_cons,List.not_mem_nil,or_false] at hj
     rcases hj with rfl | rfl | rfl
     ·exact goodOf (Calm.load (T := 23) (p := ⟨h.size,0,none⟩) (by kernel_rfl) (Loads.hash (by kernel_rfl) rfl m3))
     ·exact goodOf (Calm.load (T := 23) (p := ⟨h29.size,0,none⟩) (by kernel_rfl) (Loads.hash (by kernel_rfl) (node_len _ _) m32))
     ·exact goodOf (Calm.load (T := 23) (p := ⟨h13.size,0,none⟩) (by kernel_rfl) (Loads.hash (by kernel_rfl) rfl m17))
    refine SimK.eff (i := 27) (D' := 268435455) (X' := 266338303) (by kernel_rfl) (by kernel_rfl) (by kernel_rfl) [21] (by kernel_rfl) (Does.call (f := 27) (args := #[.agg ((nodeH hk1 hk2).map bv).toArray,.agg (hk3.map bv).toArray]) (by kernel_rfl) (node_sat _ (nodeH hk1 hk2) hk3 (node_len _ _) rfl kt)) ?_
    rintro _ h56 ⟨rfl,g⟩
    replace e0 := e0.ext g
    replace kt := kt.ext g
    replace m3 := Ext.blk g m3
    replace m10 := Ext.blk g m10
    replace m17 := Ext.blk g m17
    replace m24 := Ext.blk g m24
    replace m32 := Ext.blk g m32
    replace m40 := Ext.blk g m40
    replace m46 := Ext.blk g m46
    replace m53 := Ext.blk g m53
    replace sep := sep.up g.size
    refine ⟨?_,?_⟩
    ·intro j hj
     simp only [List.mem_cons,List.not_mem_nil,or_false] at hj
     subst hj
     exact goodOf (Calm.load (T := 23) (p := ⟨h.size,0,none⟩) (by kernel_rfl) (Loads.hash (by kernel_rfl) rfl m3))
    clear g
    refine SimK.eff0 (i := 28) (D' := 536870911) (X' := 536870911) (by kernel_rfl) (by kernel_rfl) (by kernel_rfl) (by kernel_rfl) (Does.call (f := 11) (args := #[.agg (hk1.map bv).toArray,.int .i64 0,.int .i64 3,.slice (some ⟨h50.size,0,none⟩) 2 2,.agg ((nodeH (nodeH hk1 hk2) hk3).map bv).toArray]) (by kernel_rfl) (vincl_at _ hk1 (0) (3) [hk2,hk3] _ _ (nodeH (nodeH hk1 hk2) hk3) rfl (node_len _ _) (HR.of (Own.blk (n := 2) m53 (by rw [hcs_length (All32.cons rfl (All32.cons rfl All32.nil))]; rfl) (by unfold maxLen; decide)) (All32.cons rfl (All32.cons rfl All32.nil))) (by decide) (by decide) kt (fun k e => by cases e; exact blk_lt m53) true (i_first _ _ _))) ?_
    rintro _ h57 ⟨rfl,g⟩
    replace e0 := e0.ext g
    replace kt := kt.ext g
    replace m3 := Ext.blk g m3
    replace m10 := Ext.blk g m10
    replace m17 := Ext.blk g m17
    replace m24 := Ext.blk g m24
    replace m32 := Ext.blk g m32
    replace m40 := Ext.blk g m40
    replace m46 := Ext.blk g m46
    replace m53 := Ext.blk g m53
    replace sep := sep.up g.size
    clear g
    refine mP 2147483647 [29,30] [.bool true,.bool true] ?_
    refine mD [(1,pV h.size),(2,pV h6.size),(3,pV h13.size),(4,pV h20.size),(5,pV h29.size),(6,.bool true)] ?_
    clear hF a; intro a hF
    replace sep := sep.sub (l' := [some (h29.size),some (h20.size),some (h13.size),some (h6.size),some (h.size)]) (.cons _ (.cons _ (.cons _ (.cons_cons _ (.cons_cons _ (.cons_cons _ (.cons_cons _ (.cons_cons _ (.slnil)))))))))
    exact ⟨rfl,e0,kt,m3,m10,m17,m24,m32,sep,hF⟩
   ·skip
    refine SimK.effAt (i := 27) (D' := 251658239) (X' := 236978175) (by kernel_rfl) (by kernel_rfl) [21,22,23] (by kernel_rfl) (Does.call (f := 27) (args := #[.agg ((nodeH hk1 hk2).map bv).toArray,.agg (hk3.map bv).toArray]) (by kernel_rfl) (node_sat _ (nodeH hk1 hk2) hk3 (node_len _ _) rfl kt)) ?_
    rintro _ h58 ⟨rfl,g⟩
    replace e0 := e0.ext g
    replace kt := kt.ext g
    replace m3 := Ext.blk g m3
    replace m10 := Ext.blk g m10
    replace m17 := Ext.blk g m17
    replace m24 := Ext.blk g m24
    replace m32 := Ext.blk g m32
    replace m40 := Ext.blk g m40
    replace m46 := Ext.blk g m46
    replace sep := sep.up g.size
    refine ⟨?_,?_⟩
    ·intro j hj
     simp only [List.mem_cons,List.not_mem_nil,or_false] at hj
     rcases hj with rfl | rfl | rfl
     ·exact goodOf (Calm.load (T := 23) (p := ⟨h.size,0,none⟩) (by kernel_rfl) (Loads.hash (by kernel_rfl) rfl m3))
     ·exact goodOf (Calm.load (T := 23) (p := ⟨h6.size,0,none⟩) (by kernel_rfl) (Loads.hash (by kernel_rfl) rfl m10))
     ·exact goodOf (Calm.load (T := 23) (p := ⟨h13.size,0,none⟩) (by kernel_rfl) (Loads.hash (by kernel_rfl) rfl m17))
    clear g
    refine SimK.eff (i := 24) (D' := 268435455) (X' := 266338303) (by kernel_rfl) (by kernel_rfl) (by kernel_rfl) [21] (by kernel_rfl) (Does.newHs (L := [hk2,hk3]) (t := 24) (E := 23) (by_ := 32) (n := 2) (by kernel_rfl) (by kernel_rfl) (All32.cons rfl (All32.cons rfl All32.nil)) rfl (by decide) (by decide)) ?_
    rintro _ h59 ⟨rfl,hh⟩
    have g60 : Ext h58 h59 := push_ext hh
    have m61 : h59[h58.size]? = some (.cells (hcs [hk2,hk3]).toArray 23) := push_at hh
    clear hh
    have lt62 := blk_lt m61
    have zs63 := e0.size
    have hlo := e0.size
    have sepo := sep
    replace e0 := e0.ext g60
    replace kt := kt.ext g60
    replace m3 := Ext.blk g60 m3
    replace m10 := Ext.blk g60 m10
    replace m17 := Ext.blk g60 m17
    replace m24 := Ext.blk g60 m24
    replace m32 := Ext.blk g60 m32
    replace m40 := Ext.blk g60 m40
    replace m46 := Ext.blk g60 m46
    replace sep := sep.up g60.size
    replace sep := sepo.new hlo (blk_lt m61)
    clear sepo hlo
    refine ⟨?_,?_⟩
    ·intro j hj
     simp only [List.mem_cons,List.not_mem_nil,or_false] at hj
     subst hj
     exact goodOf (Calm.load (T := 23) (p := ⟨h.size,0,none⟩) (by kernel_rfl) (Loads.hash (by kernel_rfl) rfl m3))
    refine SimK.eff0 (i := 28) (D' := 536870911) (X' := 536870911) (by kernel_rfl) (by kernel_rfl) (by kernel_rfl) (by kernel_rfl) (Does.call (f := 11) (args := #[.agg (hk1.map bv).toArray,.int .i64 0,.int .i64 3,.slice (some ⟨h58.size,0,none⟩) 2 2,.agg ((nodeH (nodeH hk1 hk2) hk3).map bv).toArray]) (by kernel_rfl) (vincl_at _ hk1 (0) (3) [hk2,hk3] _ _ (nodeH (nodeH hk1 hk2) hk3) rfl (node_len _ _) (HR.of (Own.blk (n := 2) m61 (by rw [hcs_length (All32.cons rfl (All32.cons rfl All32.nil))]; rfl) (by unfold maxLen; decide)) (All32.cons rfl (All32.cons rfl All32.nil))) (by decide) (by decide) kt (fun k e => by cases e; exact blk_lt m61) true (i_first _ _ _))) ?_
    rintro _ h64 ⟨rfl,g⟩
    replace e0 := e0.ext g
    replace kt := kt.ext g
    replace m3 := Ext.blk g m3
    replace m10 := Ext.blk g m10
    replace m17 := Ext.blk g m17
    replace m24 := Ext.blk g m24
    replace m32 := Ext.blk g m32
    replace m40 := Ext.blk g m40
    replace m46 := Ext.blk g m46
    replace m61 := Ext.blk g m61
    replace sep := sep.up g.size
    clear g
    refine mP 2147483647 [29,30] [.bool true,.bool true] ?_
    refine mD [(1,pV h.size),(2,pV h6.size),(3,pV h13.size),(4,pV h20.size),(5,pV h29.size),(6,.bool true)] ?_
    clear hF a; intro a hF
    replace sep := sep.sub (l' := [some (h29.size),some (h20.size),some (h13.size),some (h6.size),some (h.size)]) (.cons _ (.cons _ (.cons _ (.cons_cons _ (.cons_cons _ (.cons_cons _ (.cons_cons _ (.cons_cons _ (.slnil)))))))))
    exact ⟨rfl,e0,kt,m3,m10,m17,m24,m32,sep,hF⟩
  ·skip
   refine SimK.effAt (i := 17) (D' := 245759) (X' := 233471) (by kernel_rfl) (by kernel_rfl) [12,13] (by kernel_rfl) (Does.call (f := 27) (args := #[.agg ((nodeH hk1 hk2).map bv).toArray,.agg (hk3.map bv).toArray]) (by kernel_rfl) (node_sat _ (nodeH hk1 hk2) hk3 (node_len _ _) rfl kt)) ?_
   rintro _ h65 ⟨rfl,g⟩
   replace e0 := e0.ext g
   replace kt := kt.ext g
   replace m3 := Ext.blk g m3
   replace m10 := Ext.blk g m10
   replace m17 := Ext.blk g m17
   replace m24 := Ext.blk g m24
   replace m32 := Ext.blk g m32
   replace m40 := Ext.blk g m40
   replace sep := sep.up g.size
   refine ⟨?_,?_⟩
   ·intro j hj
    simp only [List.mem_cons,List.not_mem_nil,or_false] at hj
    rcases hj with rfl | rfl
    ·exact goodOf (Calm.load (T := 23) (p := ⟨h13.size,0,none⟩) (by kernel_rfl) (Loads.hash (by kernel_rfl) rfl m17))
    ·exact goodOf (Calm.load (T := 23) (p := ⟨h29.size,0,none⟩) (by kernel_rfl) (Loads.hash (by kernel_rfl) (node_len _ _) m32))
   clear g
   refine SimK.eff (i := 14) (D' := 262143) (X' := 258047) (by kernel_rfl) (by kernel_rfl) (by kernel_rfl) [12] (by kernel_rfl) (Does.newHs (L := [nodeH hk1 hk2]) (t := 24) (E := 23) (by_ := 32) (n := 1) (by kernel_rfl) (by kernel_rfl) (All32.cons (node_len _ _) All32.nil) rfl (by decide) (by decide)) ?_
   rintro _ h66 ⟨rfl,hh⟩
   have g67 : Ext h65 h66 := push_ext hh
   have m68 : h66[h65.size]? = some (.cells (hcs [nodeH hk1 hk2]).toArray 23) := push_at hh
   clear hh
   have lt69 := blk_lt m68
   have zs70 := e0.size
   have hlo := e0.size
   have sepo := sep
   replace e0 := e0.ext g67
   replace kt := kt.ext g67
   replace m3 := Ext.blk g67 m3
   replace m10 := Ext.blk g67 m10
   replace m17 := Ext.blk g67 m17
   replace m24 := Ext.blk g67 m24
   replace m32 := Ext.blk g67 m32
   replace m40 := Ext.blk g67 m40
   replace sep := sep.up g67.size
   replace sep := sepo.new hlo (blk_lt m68)
   clear sepo hlo
   refine ⟨?_,?_⟩
   ·intro j hj
    simp only [List.mem_cons,List.not_mem_nil,or_false] at hj
    subst hj
    exact goodOf (Calm.load (T := 23) (p := ⟨h13.size,0,none⟩) (by kernel_rfl) (Loads.hash (by kernel_rfl) rfl m17))
   refine SimK.eff0 (i := 18) (D' := 524287) (X' := 524287) (by kernel_rfl) (by kernel_rfl) (by kernel_rfl) (by kernel_rfl) (Does.call (f := 11) (args := #[.agg (hk3.map bv).toArray,.int .i64 2,.int .i64 3,.slice (some ⟨h65.size,0,none⟩) 1 1,.agg ((nodeH (nodeH hk1 hk2) hk3).map bv).toArray]) (by kernel_rfl) (vincl_at _ hk3 (2) (3) [nodeH hk1 hk2] _ _ (nodeH (nodeH hk1 hk2) hk3) rfl (node_len _ _) (HR.of (Own.blk (n := 1) m68 (by rw [hcs_length (All32.cons (node_len _ _) All32.nil)]; rfl) (by unfold maxLen; decide)) (All32.cons (node_len _ _) All32.nil)) (by decide) (by decide) kt (fun k e => by cases e; exact blk_lt m68) true (i_three _ _))) ?_
   rintro _ h71 ⟨rfl,g⟩
   replace e0 := e0.ext g
   replace kt := kt.ext g
   replace m3 := Ext.blk g m3
   replace m10 := Ext.blk g m10
   replace m17 := Ext.blk g m17
   replace m24 := Ext.blk g m24
   replace m32 := Ext.blk g m32
   replace m40 := Ext.blk g m40
   replace m68 := Ext.blk g m68
   replace sep := sep.up g.size
   clear g
   refine mP 2097151 [19,20] [.bool true,.bool true] ?_
   refine mL 4194303 2207923 21 (.agg (hk1.map bv).toArray) (Calm.load (T := 23) (p := ⟨h.size,0,none⟩) (by kernel_rfl) (Loads.hash (by kernel_rfl) rfl m3)) ?_
   refine mL 8388607 6402227 22 (.agg (hk2.map bv).toArray) (Calm.load (T := 23) (p := ⟨h6.size,0,none⟩) (by kernel_rfl) (Loads.hash (by kernel_rfl) rfl m10)) ?_
   refine mL 16777215 14790835 23 (.agg (hk3.map bv).toArray) (Calm.load (T := 23) (p := ⟨h13.size,0,none⟩) (by kernel_rfl) (Loads.hash (by kernel_rfl) rfl m17)) ?_
   refine mL 50331647 48345267 25 (.agg ((nodeH hk1 hk2).map bv).toArray) (Calm.load (T := 23) (p := ⟨h29.size,0,none⟩) (by kernel_rfl) (Loads.hash (by kernel_rfl) (node_len _ _) m32)) ?_
   refine mL 117440511 115454131 26 (.agg (hk3.map bv).toArray) (Calm.load (T := 23) (p := ⟨h13.size,0,none⟩) (by kernel_rfl) (Loads.hash (by kernel_rfl) rfl m17)) ?_
   refine SimK.effs (is := [24,27]) (by kernel_rfl) (by simp) ?_
   intro q hq
   simp only [List.mem_cons,List.not_mem_nil,or_false] at hq
   rcases hq with rfl | rfl
   ·skip
    refine SimK.effAt (i := 24) (D' := 134217727) (X' := 31457279) (by kernel_rfl) (by kernel_rfl) [21,25,26] (by kernel_rfl) (Does.newHs (L := [hk2,hk3]) (t := 24) (E := 23) (by_ := 32) (n := 2) (by kernel_rfl) (by kernel_rfl) (All32.cons rfl (All32.cons rfl All32.nil)) rfl (by decide) (by decide)) ?_
    rintro _ h72 ⟨rfl,hh⟩
    have g73 : Ext h71 h72 := push_ext hh
    have m74 : h72[h71.size]? = some (.cells (hcs [hk2,hk3]).toArray 23) := push_at hh
    clear hh
    have lt75 := blk_lt m74
    have zs76 := e0.size
    have hlo := e0.size
    have sepo := sep
    replace e0 := e0.ext g73
    replace kt := kt.ext g73
    replace m3 := Ext.blk g73 m3
    replace m10 := Ext.blk g73 m10
    replace m17 := Ext.blk g73 m17
    replace m24 := Ext.blk g73 m24
    replace m32 := Ext.blk g73 m32
    replace m40 := Ext.blk g73 m40
    replace m68 := Ext.blk g73 m68
    replace sep := sep.up g73.size
    replace sep := sepo.new hlo (blk_lt m74)
    clear sepo hlo
    refine ⟨?_,?_⟩
    ·intro j hj
     simp only [List.mem_cons,List.not_mem_nil,or_false] at hj
     rcases hj with rfl | rfl | rfl
     ·exact goodOf (Calm.load (T := 23) (p := ⟨h.size,0,none⟩) (by kernel_rfl) (Loads.hash (by kernel_rfl) rfl m3))
     ·exact goodOf (Calm.load (T := 23) (p := ⟨h29.size,0,none⟩) (by kernel_rfl) (Loads.hash (by kernel_rfl) (node_len _ _) m32))
     ·exact goodOf (Calm.load (T := 23) (p := ⟨h13.size,0,none⟩) (by kernel_rfl) (Loads.hash (by kernel_rfl) rfl m17))
    refine SimK.eff (i := 27) (D' := 268435455) (X' := 266338303) (by kernel_rfl) (by kernel_rfl) (by kernel_rfl) [21] (by kernel_rfl) (Does.call (f := 27) (args := #[.agg ((nodeH hk1 hk2).map bv).toArray,.agg (hk3.map bv).toArray]) (by kernel_rfl) (node_sat _ (nodeH hk1 hk2) hk3 (node_len _ _) rfl kt)) ?_
    rintro _ h77 ⟨rfl,g⟩
    replace e0 := e0.ext g
    replace kt := kt.ext g
    replace m3 := Ext.blk g m3
    replace m10 := Ext.blk g m10
    replace m17 := Ext.blk g m17
    replace m24 := Ext.blk g m24
    replace m32 := Ext.blk g m32
    replace m40 := Ext.blk g m40
    replace m68 := Ext.blk g m68
    replace m74 := Ext.blk g m74
    replace sep := sep.up g.size
    refine ⟨?_,?_⟩
    ·intro j hj
     simp only [List.mem_cons,List.not_mem_nil,or_false] at hj
     subst hj
     exact goodOf (Calm.load (T := 23) (p := ⟨h.size,0,none⟩) (by kernel_rfl) (Loads.hash (by kernel_rfl) rfl m3))
    clear g
    refine SimK.eff0 (i := 28) (D' := 536870911) (X' := 536870911) (by kernel_rfl) (by kernel_rfl) (by kernel_rfl) (by kernel_rfl) (Does.call (f := 11) (args := #[.agg (hk1.map bv).toArray,.int .i64 0,.int .i64 3,.slice (some ⟨h71.size,0,none⟩) 2 2,.agg ((nodeH (nodeH hk1 hk2) hk3).map bv).toArray]) (by kernel_rfl) (vincl_at _ hk1 (0) (3) [hk2,hk3] _ _ (nodeH (nodeH hk1 hk2) hk3) rfl (node_len _ _) (HR.of (Own.blk (n := 2) m74 (by rw [hcs_length (All32.cons rfl (All32.cons rfl All32.nil))]; rfl) (by unfold maxLen; decide)) (All32.cons rfl (All32.cons rfl All32.nil))) (by decide) (by decide) kt (fun k e => by cases e; exact blk_lt m74) true (i_first _ _ _))) ?_
    rintro _ h78 ⟨rfl,g⟩
    replace e0 := e0.ext g
    replace kt := kt.ext g
    replace m3 := Ext.blk g m3
    replace m10 := Ext.blk g m10
    replace m17 := Ext.blk g m17
    replace m24 := Ext.blk g m24
    replace m32 := Ext.blk g m32
    replace m40 := Ext.blk g m40
    replace m68 := Ext.blk g m68
    replace m74 := Ext.blk g m74
    replace sep := sep.up g.size
    clear g
    refine mP 2147483647 [29,30] [.bool true,.bool true] ?_
    refine mD [(1,pV h.size),(2,pV h6.size),(3,pV h13.size),(4,pV h20.size),(5,pV h29.size),(6,.bool true)] ?_
    clear hF a; intro a hF
    replace sep := sep.sub (l' := [some (h29.size),some (h20.size),some (h13.size),some (h6.size),some (h.size)]) (.cons _ (.cons _ (.cons _ (.cons_cons _ (.cons_cons _ (.cons_cons _ (.cons_cons _ (.cons_cons _ (.slnil)))))))))
    exact ⟨rfl,e0,kt,m3,m10,m17,m24,m32,sep,hF⟩
   ·skip
    refine SimK.effAt (i := 27) (D' := 251658239) (X' := 236978175) (by kernel_rfl) (by kernel_rfl) [21,22,23] (by kernel_rfl) (Does.call (f := 27) (args := #[.agg ((nodeH hk1 hk2).map bv).toArray,.agg (hk3.map bv).toArray]) (by kernel_rfl) (node_sat _ (nodeH hk1 hk2) hk3 (node_len _ _) rfl kt)) ?_
    rintro _ h79 ⟨rfl,g⟩
    replace e0 := e0.ext g
    replace kt := kt.ext g
    replace m3 := Ext.blk g m3
    replace m10 := Ext.blk g m10
    replace m17 := Ext.blk g m17
    replace m24 := Ext.blk g m24
    replace m32 := Ext.blk g m32
    replace m40 := Ext.blk g m40
    replace m68 := Ext.blk g m68
    replace sep := sep.up g.size
    refine ⟨?_,?_⟩
    ·intro j hj
     simp only [List.mem_cons,List.not_mem_nil,or_false] at hj
     rcases hj with rfl | rfl | rfl
     ·exact goodOf (Calm.load (T := 23) (p := ⟨h.size,0,none⟩) (by kernel_rfl) (Loads.hash (by kernel_rfl) rfl m3))
     ·exact goodOf (Calm.load (T := 23) (p := ⟨h6.size,0,none⟩) (by kernel_rfl) (Loads.hash (by kernel_rfl) rfl m10))
     ·exact goodOf (Calm.load (T := 23) (p := ⟨h13.size,0,none⟩) (by kernel_rfl) (Loads.hash (by kernel_rfl) rfl m17))
    clear g
    refine SimK.eff (i := 24) (D' := 268435455) (X' := 266338303) (by kernel_rfl) (by kernel_rfl) (by kernel_rfl) [21] (by kernel_rfl) (Does.newHs (L := [hk2,hk3]) (t := 24) (E := 23) (by_ := 32) (n := 2) (by kernel_rfl) (by kernel_rfl) (All32.cons rfl (All32.cons rfl All32.nil)) rfl (by decide) (by decide)) ?_
    rintro _ h80 ⟨rfl,hh⟩
    have g81 : Ext h79 h80 := push_ext hh
    have m82 : h80[h79.size]? = some (.cells (hcs [hk2,hk3]).toArray 23) := push_at hh
    clear hh
    have lt83 := blk_lt m82
    have zs84 := e0.size
    have hlo := e0.size
    have sepo := sep
    replace e0 := e0.ext g81
    replace kt := kt.ext g81
    replace m3 := Ext.blk g81 m3
    replace m10 := Ext.blk g81 m10
    replace m17 := Ext.blk g81 m17
    replace m24 := Ext.blk g81 m24
    replace m32 := Ext.blk g81 m32
    replace m40 := Ext.blk g81 m40
    replace m68 := Ext.blk g81 m68
    replace sep := sep.up g81.size
    replace sep := sepo.new hlo (blk_lt m82)
    clear sepo hlo
    refine ⟨?_,?_⟩
    ·intro j hj
     simp only [List.mem_cons,List.not_mem_nil,or_false] at hj
     subst hj
     exact goodOf (Calm.load (T := 23) (p := ⟨h.size,0,none⟩) (by kernel_rfl) (Loads.hash (by kernel_rfl) rfl m3))
    refine SimK.eff0 (i := 28) (D' := 536870911) (X' := 536870911) (by kernel_rfl) (by kernel_rfl) (by kernel_rfl) (by kernel_rfl) (Does.call (f := 11) (args := #[.agg (hk1.map bv).toArray,.int .i64 0,.int .i64 3,.slice (some ⟨h79.size,0,none⟩) 2 2,.agg ((nodeH (nodeH hk1 hk2) hk3).map bv).toArray]) (by kernel_rfl) (vincl_at _ hk1 (0) (3) [hk2,hk3] _ _ (nodeH (nodeH hk1 hk2) hk3) rfl (node_len _ _) (HR.of (Own.blk (n := 2) m82 (by rw [hcs_length (All32.cons rfl (All32.cons rfl All32.nil))]; rfl) (by unfold maxLen; decide)) (All32.cons rfl (All32.cons rfl All32.nil))) (by decide) (by decide) kt (fun k e => by cases e; exact blk_lt m82) true (i_first _ _ _))) ?_
    rintro _ h85 ⟨rfl,g⟩
    replace e0 := e0.ext g
    replace kt := kt.ext g
    replace m3 := Ext.blk g m3
    replace m10 := Ext.blk g m10
    replace m17 := Ext.blk g m17
    replace m24 := Ext.blk g m24
    replace m32 := Ext.blk g m32
    replace m40 := Ext.blk g m40
    replace m68 := Ext.blk g m68
    replace m82 := Ext.blk g m82
    replace sep := sep.up g.size
    clear g
    refine mP 2147483647 [29,30] [.bool true,.bool true] ?_
    refine mD [(1,pV h.size),(2,pV h6.size),(3,pV h13.size),(4,pV h20.size),(5,pV h29.size),(6,.bool true)] ?_
    clear hF a; intro a hF
    replace sep := sep.sub (l' := [some (h29.size),some (h20.size),some (h13.size),some (h6.size),some (h.size)]) (.cons _ (.cons _ (.cons _ (.cons_cons _ (.cons_cons _ (.cons_cons _ (.cons_cons _ (.cons_cons _ (.slnil)))))))))
    exact ⟨rfl,e0,kt,m3,m10,m17,m24,m32,sep,hF⟩
 ·skip
  clear hF a e0 kt m3 m10 m17 m24 m32 sep
  rintro e a h86 ⟨rfl,e0,kt,m3,m10,m17,m24,m32,sep,hF⟩
  refine tK ?_
  refine cS ?_
  refine C.mono (K := fun e a hJ => e = .normal ∧ (Ext h hJ) ∧ (Ktab hJ) ∧ (hJ[h.size]? = some (.cells (hk1.map bv).toArray 23)) ∧ (hJ[h6.size]? = some (.cells (hk2.map bv).toArray 23)) ∧ (hJ[h13.size]? = some (.cells (hk3.map bv).toArray 23)) ∧ (hJ[h20.size]? = some (.cells (hk4.map bv).toArray 23)) ∧ (hJ[h29.size]? = some (.cells ((nodeH hk1 hk2).map bv).toArray 23)) ∧ (Sep h.size hJ.size [some (h29.size),some (h20.size),some (h13.size),some (h6.size),some (h.size)]) ∧ Fr a 107 [(1,.pointer (some ⟨h.size,0,none⟩)),(2,.pointer (some ⟨h6.size,0,none⟩)),(3,.pointer (some ⟨h13.size,0,none⟩)),(4,.pointer (some ⟨h20.size,0,none⟩)),(5,.pointer (some ⟨h29.size,0,none⟩)),(6,.bool true),(7,.bool true)]) ?_ ?_
  ·skip
   refine cD [0,0,3,7,15,31,31,127,255,511,1023,2047,2047,2047,14335,2047,34815,131071,262143,524287] 7 mixed hF ?_
   refine mL 1 1 0 (.agg (hk1.map bv).toArray) (Calm.load (T := 23) (p := ⟨h.size,0,none⟩) (by kernel_rfl) (Loads.hash (by kernel_rfl) rfl m3)) ?_
   refine mL 3 3 1 (.agg (hk1.map bv).toArray) (Calm.load (T := 23) (p := ⟨h.size,0,none⟩) (by kernel_rfl) (Loads.hash (by kernel_rfl) rfl m3)) ?_
   refine SimK.eff0 (i := 2) (D' := 7) (X' := 7) (by kernel_rfl) (by kernel_rfl) (by kernel_rfl) (by kernel_rfl) (Does.call (f := 11) (args := #[.agg (hk1.map bv).toArray,.int .i64 (-1),.int .i64 1,.slice none 0 0,.agg (hk1.map bv).toArray]) (by kernel_rfl) (vincl_at _ hk1 (-1) (1) [] _ _ hk1 rfl rfl (HR.nil _) (by decide) (by decide) kt (fun k e => by cases e) false (inclB_no (by decide)))) ?_
   rintro _ h87 ⟨rfl,g⟩
   replace e0 := e0.ext g
   replace kt := kt.ext g
   replace m3 := Ext.blk g m3
   replace m10 := Ext.blk g m10
   replace m17 := Ext.blk g m17
   replace m24 := Ext.blk g m24
   replace m32 := Ext.blk g m32
   replace sep := sep.up g.size
   clear g
   refine mP 31 [3,4] [.bool true,.bool true] ?_
   refine mL 63 35 5 (.agg (hk1.map bv).toArray) (Calm.load (T := 23) (p := ⟨h.size,0,none⟩) (by kernel_rfl) (Loads.hash (by kernel_rfl) rfl m3)) ?_
   refine mL 127 99 6 (.agg (hk1.map bv).toArray) (Calm.load (T := 23) (p := ⟨h.size,0,none⟩) (by kernel_rfl) (Loads.hash (by kernel_rfl) rfl m3)) ?_
   refine SimK.eff0 (i := 7) (D' := 255) (X' := 255) (by kernel_rfl) (by kernel_rfl) (by kernel_rfl) (by kernel_rfl) (Does.call (f := 11) (args := #[.agg (hk1.map bv).toArray,.int .i64 1,.int .i64 1,.slice none 0 0,.agg (hk1.map bv).toArray]) (by kernel_rfl) (vincl_at _ hk1 (1) (1) [] _ _ hk1 rfl rfl (HR.nil _) (by decide) (by decide) kt (fun k e => by cases e) false (inclB_no (by decide)))) ?_
   rintro _ h88 ⟨rfl,g⟩
   replace e0 := e0.ext g
   replace kt := kt.ext g
   replace m3 := Ext.blk g m3
   replace m10 := Ext.blk g m10
   replace m17 := Ext.blk g m17
   replace m24 := Ext.blk g m24
   replace m32 := Ext.blk g m32
   replace sep := sep.up g.size
   clear g
   refine mP 2047 [8,9,10] [.bool true,.bool true,.bool true] ?_
   refine mL 4095 2147 11 (.agg ((nodeH hk1 hk2).map bv).toArray) (Calm.load (T := 23) (p := ⟨h29.size,0,none⟩) (by kernel_rfl) (Loads.hash (by kernel_rfl) (node_len _ _) m32)) ?_
   refine mL 8191 6243 12 (.agg ((nodeH hk1 hk2).map bv).toArray) (Calm.load (T := 23) (p := ⟨h29.size,0,none⟩) (by kernel_rfl) (Loads.hash (by kernel_rfl) (node_len _ _) m32)) ?_
   refine mL 16383 14435 13 (.agg (hk3.map bv).toArray) (Calm.load (T := 23) (p := ⟨h13.size,0,none⟩) (by kernel_rfl) (Loads.hash (by kernel_rfl) rfl m17)) ?_
   refine mL 49151 47203 15 (.agg (hk3.map bv).toArray) (Calm.load (T := 23) (p := ⟨h13.size,0,none⟩) (by kernel_rfl) (Loads.hash (by kernel_rfl) rfl m17)) ?_
   refine SimK.effs (is := [14,16]) (by kernel_rfl) (by simp) ?_
   intro q hq
   simp only [List.mem_cons,List.not_mem_nil,or_false] at hq
   rcases hq with rfl | rfl
   ·skip
    refine SimK.effAt (i := 14) (D' := 65535) (X' := 30719) (by kernel_rfl) (by kernel_rfl) [11,15] (by kernel_rfl) (Does.call (f := 27) (args := #[.agg ((nodeH hk1 hk2).map bv).toArray,.agg (hk3.map bv).toArray]) (by kernel_rfl) (node_sat _ (nodeH hk1 hk2) hk3 (node_len _ _) rfl kt)) ?_
    rintro _ h89 ⟨rfl,g⟩
    replace e0 := e0.ext g
    replace kt := kt.ext g
    replace m3 := Ext.blk g m3
    replace m10 := Ext.blk g m10
    replace m17 := Ext.blk g m17
    replace m24 := Ext.blk g m24
    replace m32 := Ext.blk g m32
    replace sep := sep.up g.size
    refine ⟨?_,?_⟩
    ·intro j hj
     simp only [List.mem_cons,List.not_mem_nil,or_false] at hj
     rcases hj with rfl | rfl
     ·exact goodOf (Calm.load (T := 23) (p := ⟨h29.size,0,none⟩) (by kernel_rfl) (Loads.hash (by kernel_rfl) (node_len _ _) m32))
     ·exact goodOf (Calm.load (T := 23) (p := ⟨h13.size,0,none⟩) (by kernel_rfl) (Loads.hash (by kernel_rfl) rfl m17))
    clear g
    refine SimK.eff (i := 16) (D' := 131071) (X' := 129023) (by kernel_rfl) (by kernel_rfl) (by kernel_rfl) [11] (by kernel_rfl) (Does.newHs (L := [hk3]) (t := 24) (E := 23) (by_ := 32) (n := 1) (by kernel_rfl) (by kernel_rfl) (All32.cons rfl All32.nil) rfl (by decide) (by decide)) ?_
    rintro _ h90 ⟨rfl,hh⟩
    have g91 : Ext h89 h90 := push_ext hh
    have m92 : h90[h89.size]? = some (.cells (hcs [hk3]).toArray 23) := push_at hh
    clear hh
    have lt93 := blk_lt m92
    have zs94 := e0.size
    have hlo := e0.size
    have sepo := sep
    replace e0 := e0.ext g91
    replace kt := kt.ext g91
    replace m3 := Ext.blk g91 m3
    replace m10 := Ext.blk g91 m10
    replace m17 := Ext.blk g91 m17
    replace m24 := Ext.blk g91 m24
    replace m32 := Ext.blk g91 m32
    replace sep := sep.up g91.size
    replace sep := sepo.new hlo (blk_lt m92)
    clear sepo hlo
    refine ⟨?_,?_⟩
    ·intro j hj
     simp only [List.mem_cons,List.not_mem_nil,or_false] at hj
     subst hj
     exact goodOf (Calm.load (T := 23) (p := ⟨h29.size,0,none⟩) (by kernel_rfl) (Loads.hash (by kernel_rfl) (node_len _ _) m32))
    refine SimK.eff0 (i := 17) (D' := 262143) (X' := 262143) (by kernel_rfl) (by kernel_rfl) (by kernel_rfl) (by kernel_rfl) (Does.call (f := 14) (args := #[.int .i64 2,.int .i64 3,.agg ((nodeH hk1 hk2).map bv).toArray,.agg ((nodeH (nodeH hk1 hk2) hk3).map bv).toArray,.slice (some ⟨h89.size,0,none⟩) 1 1]) (by kernel_rfl) (vcons_at _ (2) (3) (nodeH hk1 hk2) (nodeH (nodeH hk1 hk2) hk3) [hk3] _ _ (node_len _ _) (node_len _ _) (HR.of (Own.blk (n := 1) m92 (by rw [hcs_length (All32.cons rfl All32.nil)]; rfl) (by unfold maxLen; decide)) (All32.cons rfl All32.nil)) (by decide) (by decide) kt (fun k e => by cases e; exact blk_lt m92) true (c_two _ _))) ?_
    rintro _ h95 ⟨rfl,g⟩
    replace e0 := e0.ext g
    replace kt := kt.ext g
    replace m3 := Ext.blk g m3
    replace m10 := Ext.blk g m10
    replace m17 := Ext.blk g m17
    replace m24 := Ext.blk g m24
    replace m32 := Ext.blk g m32
    replace m92 := Ext.blk g m92
    replace sep := sep.up g.size
    clear g
    refine mP 1048575 [18,19] [.bool true,.bool true] ?_
    refine mD [(1,pV h.size),(2,pV h6.size),(3,pV h13.size),(4,pV h20.size),(5,pV h29.size),(6,.bool true),(7,.bool true)] ?_
    clear hF a; intro a hF
    replace sep := sep.sub (l' := [some (h29.size),some (h20.size),some (h13.size),some (h6.size),some (h.size)]) (.cons _ (.cons_cons _ (.cons_cons _ (.cons_cons _ (.cons_cons _ (.cons_cons _ (.slnil)))))))
    exact ⟨rfl,e0,kt,m3,m10,m17,m24,m32,sep,hF⟩
   ·skip
    refine SimK.effAt (i := 16) (D' := 114687) (X' := 100351) (by kernel_rfl) (by kernel_rfl) [11,12,13] (by kernel_rfl) (Does.newHs (L := [hk3]) (t := 24) (E := 23) (by_ := 32) (n := 1) (by kernel_rfl) (by kernel_rfl) (All32.cons rfl All32.nil) rfl (by decide) (by decide)) ?_
    rintro _ h96 ⟨rfl,hh⟩
    have g97 : Ext h88 h96 := push_ext hh
    have m98 : h96[h88.size]? = some (.cells (hcs [hk3]).toArray 23) := push_at hh
    clear hh
    have lt99 := blk_lt m98
    have zs100 := e0.size
    have hlo := e0.size
    have sepo := sep
    replace e0 := e0.ext g97
    replace kt := kt.ext g97
    replace m3 := Ext.blk g97 m3
    replace m10 := Ext.blk g97 m10
    replace m17 := Ext.blk g97 m17
    replace m24 := Ext.blk g97 m24
    replace m32 := Ext.blk g97 m32
    replace sep := sep.up g97.size
    replace sep := sepo.new hlo (blk_lt m98)
    clear sepo hlo
    refine ⟨?_,?_⟩
    ·intro j hj
     simp only [List.mem_cons,List.not_mem_nil,or_false] at hj
     rcases hj with rfl | rfl | rfl
     ·exact goodOf (Calm.load (T := 23) (p := ⟨h29.size,0,none⟩) (by kernel_rfl) (Loads.hash (by kernel_rfl) (node_len _ _) m32))
     ·exact goodOf (Calm.load (T := 23) (p := ⟨h29.size,0,none⟩) (by kernel_rfl) (Loads.hash (by kernel_rfl) (node_len _ _) m32))
     ·exact goodOf (Calm.load (T := 23) (p := ⟨h13.size,0,none⟩) (by kernel_rfl) (Loads.hash (by kernel_rfl) rfl m17))
    refine SimK.eff (i := 14) (D' := 131071) (X' := 129023) (by kernel_rfl) (by kernel_rfl) (by kernel_rfl) [11] (by kernel_rfl) (Does.call (f := 27) (args := #[.agg ((nodeH hk1 hk2).map bv).toArray,.agg (hk3.map bv).toArray]) (by kernel_rfl) (node_sat _ (nodeH hk1 hk2) hk3 (node_len _ _) rfl kt)) ?_
    rintro _ h101 ⟨rfl,g⟩
    replace e0 := e0.ext g
    replace kt := kt.ext g
    replace m3 := Ext.blk g m3
    replace m10 := Ext.blk g m10
    replace m17 := Ext.blk g m17
    replace m24 := Ext.blk g m24
    replace m32 := Ext.blk g m32
    replace m98 := Ext.blk g m98
    replace sep := sep.up g.size
    refine ⟨?_,?_⟩
    ·intro j hj
     simp only [List.mem_cons,List.not_mem_nil,or_false] at hj
     subst hj
     exact goodOf (Calm.load (T := 23) (p := ⟨h29.size,0,none⟩) (by kernel_rfl) (Loads.hash (by kernel_rfl) (node_len _ _) m32))
    clear g
    refine SimK.eff0 (i := 17) (D' := 262143) (X' := 262143) (by kernel_rfl) (by kernel_rfl) (by kernel_rfl) (by kernel_rfl) (Does.call (f := 14) (args := #[.int .i64 2,.int .i64 3,.agg ((nodeH hk1 hk2).map bv).toArray,.agg ((nodeH (nodeH hk1 hk2) hk3).map bv).toArray,.slice (some ⟨h88.size,0,none⟩) 1 1]) (by kernel_rfl) (vcons_at _ (2) (3) (nodeH hk1 hk2) (nodeH (nodeH hk1 hk2) hk3) [hk3] _ _ (node_len _ _) (node_len _ _) (HR.of (Own.blk (n := 1) m98 (by rw [hcs_length (All32.cons rfl All32.nil)]; rfl) (by unfold maxLen; decide)) (All32.cons rfl All32.nil)) (by decide) (by decide) kt (fun k e => by cases e; exact blk_lt m98) true (c_two _ _))) ?_
    rintro _ h102 ⟨rfl,g⟩
    replace e0 := e0.ext g
    replace kt := kt.ext g
    replace m3 := Ext.blk g m3
    replace m10 := Ext.blk g m10
    replace m17 := Ext.blk g m17
    replace m24 := Ext.blk g m24
    replace m32 := Ext.blk g m32
    replace m98 := Ext.blk g m98
    replace sep := sep.up g.size
    clear g
    refine mP 1048575 [18,19] [.bool true,.bool true] ?_
    refine mD [(1,pV h.size),(2,pV h6.size),(3,pV h13.size),(4,pV h20.size),(5,pV h29.size),(6,.bool true),(7,.bool true)] ?_
    clear hF a; intro a hF
    replace sep := sep.sub (l' := [some (h29.size),some (h20.size),some (h13.size),some (h6.size),some (h.size)]) (.cons _ (.cons_cons _ (.cons_cons _ (.cons_cons _ (.cons_cons _ (.cons_cons _ (.slnil)))))))
    exact ⟨rfl,e0,kt,m3,m10,m17,m24,m32,sep,hF⟩
  ·skip
   clear hF a e0 kt m3 m10 m17 m24 m32 sep
   rintro e a h103 ⟨rfl,e0,kt,m3,m10,m17,m24,m32,sep,hF⟩
   refine tK ?_
   refine cS ?_
   refine C.mono (K := fun e a hJ => e = .normal ∧ (Ext h hJ) ∧ (Ktab hJ) ∧ (hJ[h.size]? = some (.cells (hk1.map bv).toArray 23)) ∧ (hJ[h6.size]? = some (.cells (hk2.map bv).toArray 23)) ∧ (hJ[h13.size]? = some (.cells (hk3.map bv).toArray 23)) ∧ (hJ[h20.size]? = some (.cells (hk4.map bv).toArray 23)) ∧ (hJ[h29.size]? = some (.cells ((nodeH hk1 hk2).map bv).toArray 23)) ∧ (Sep h.size hJ.size [some (h29.size),some (h20.size),some (h13.size),some (h6.size),some (h.size)]) ∧ Fr a 107 [(1,.pointer (some ⟨h.size,0,none⟩)),(2,.pointer (some ⟨h6.size,0,none⟩)),(6,.bool true),(7,.bool true),(8,.bool true)]) ?_ ?_
   ·skip
    refine cD [0,0,3,0,0,0,55,127,0,0,0,1792,4095,8191] 8 mixed hF ?_
    refine mL 1 1 0 (.agg ((nodeH hk1 hk2).map bv).toArray) (Calm.load (T := 23) (p := ⟨h29.size,0,none⟩) (by kernel_rfl) (Loads.hash (by kernel_rfl) (node_len _ _) m32)) ?_
    refine mL 3 3 1 (.agg (hk3.map bv).toArray) (Calm.load (T := 23) (p := ⟨h13.size,0,none⟩) (by kernel_rfl) (Loads.hash (by kernel_rfl) rfl m17)) ?_
    refine mL 11 11 3 (.agg ((nodeH hk1 hk2).map bv).toArray) (Calm.load (T := 23) (p := ⟨h29.size,0,none⟩) (by kernel_rfl) (Loads.hash (by kernel_rfl) (node_len _ _) m32)) ?_
    refine mL 27 27 4 (.agg (hk3.map bv).toArray) (Calm.load (T := 23) (p := ⟨h13.size,0,none⟩) (by kernel_rfl) (Loads.hash (by kernel_rfl) rfl m17)) ?_
    refine mL 59 59 5 (.agg (hk4.map bv).toArray) (Calm.load (T := 23) (p := ⟨h20.size,0,none⟩) (by kernel_rfl) (Loads.hash (by kernel_rfl) rfl m24)) ?_
    refine mL 315 315 8 (.agg (hk3.map bv).toArray) (Calm.load (T := 23) (p := ⟨h13.size,0,none⟩) (by kernel_rfl) (Loads.hash (by kernel_rfl) rfl m17)) ?_
    refine mL 827 827 9 (.agg (hk4.map bv).toArray) (Calm.load (T := 23) (p := ⟨h20.size,0,none⟩) (by kernel_rfl) (Loads.hash (by kernel_rfl) rfl m24)) ?_
    refine mL 1851 1851 10 (.agg ((nodeH hk1 hk2).map bv).toArray) (Calm.load (T := 23) (p := ⟨h29.size,0,none⟩) (by kernel_rfl) (Loads.hash (by kernel_rfl) (node_len _ _) m32)) ?_
    refine SimK.effs (is := [2,11]) (by kernel_rfl) (by simp) ?_
    intro q hq
    simp only [List.mem_cons,List.not_mem_nil,or_false] at hq
    rcases hq with rfl | rfl
    ·skip
     refine SimK.effAt (i := 2) (D' := 1855) (X' := 7) (by kernel_rfl) (by kernel_rfl) [3,4,5,8,9,10] (by kernel_rfl) (Does.call (f := 27) (args := #[.agg ((nodeH hk1 hk2).map bv).toArray,.agg (hk3.map bv).toArray]) (by kernel_rfl) (node_sat _ (nodeH hk1 hk2) hk3 (node_len _ _) rfl kt)) ?_
     rintro _ h104 ⟨rfl,g⟩
     replace e0 := e0.ext g
     replace kt := kt.ext g
     replace m3 := Ext.blk g m3
     replace m10 := Ext.blk g m10
     replace m17 := Ext.blk g m17
     replace m24 := Ext.blk g m24
     replace m32 := Ext.blk g m32
     replace sep := sep.up g.size
     refine ⟨?_,?_⟩
     ·intro j hj
      simp only [List.mem_cons,List.not_mem_nil,or_false] at hj
      rcases hj with rfl | rfl | rfl | rfl | rfl | rfl
      ·exact goodOf (Calm.load (T := 23) (p := ⟨h29.size,0,none⟩) (by kernel_rfl) (Loads.hash (by kernel_rfl) (node_len _ _) m32))
      ·exact goodOf (Calm.load (T := 23) (p := ⟨h13.size,0,none⟩) (by kernel_rfl) (Loads.hash (by kernel_rfl) rfl m17))
      ·exact goodOf (Calm.load (T := 23) (p := ⟨h20.size,0,none⟩) (by kernel_rfl) (Loads.hash (by kernel_rfl) rfl m24))
      ·exact goodOf (Calm.load (T := 23) (p := ⟨h13.size,0,none⟩) (by kernel_rfl) (Loads.hash (by kernel_rfl) rfl m17))
      ·exact goodOf (Calm.load (T := 23) (p := ⟨h20.size,0,none⟩) (by kernel_rfl) (Loads.hash (by kernel_rfl) rfl m24))
      ·exact goodOf (Calm.load (T := 23) (p := ⟨h29.size,0,none⟩) (by kernel_rfl) (Loads.hash (by kernel_rfl) (node_len _ _) m32))
     clear g
     refine SimK.effs (is := [6,11]) (by kernel_rfl) (by simp) ?_
     intro q hq
     simp only [List.mem_cons,List.not_mem_nil,or_false] at hq
     rcases hq with rfl | rfl
     ·skip
      refine SimK.effAt (i := 6) (D' := 1919) (X' := 119) (by kernel_rfl) (by kernel_rfl) [3,8,9,10] (by kernel_rfl) (Does.call (f := 27) (args := #[.agg (hk3.map bv).toArray,.agg (hk4.map bv).toArray]) (by kernel_rfl) (node_sat _ hk3 hk4 rfl rfl kt)) ?_
      rintro _ h105 ⟨rfl,g⟩
      replace e0 := e0.ext g
      replace kt := kt.ext g
      replace m3 := Ext.blk g m3
      replace m10 := Ext.blk g m10
      replace m17 := Ext.blk g m17
      replace m24 := Ext.blk g m24
      replace m32 := Ext.blk g m32
      replace sep := sep.up g.size
      refine ⟨?_,?_⟩
      ·intro j hj
       simp only [List.mem_cons,List.not_mem_nil,or_false] at hj
       rcases hj with rfl | rfl | rfl | rfl
       ·exact goodOf (Calm.load (T := 23) (p := ⟨h29.size,0,none⟩) (by kernel_rfl) (Loads.hash (by kernel_rfl) (node_len _ _) m32))
       ·exact goodOf (Calm.load (T := 23) (p := ⟨h13.size,0,none⟩) (by kernel_rfl) (Loads.hash (by kernel_rfl) rfl m17))
       ·exact goodOf (Calm.load (T := 23) (p := ⟨h20.size,0,none⟩) (by kernel_rfl) (Loads.hash (by kernel_rfl) rfl m24))
       ·exact goodOf (Calm.load (T := 23) (p := ⟨h29.size,0,none⟩) (by kernel_rfl) (Loads.hash (by kernel_rfl) (node_len _ _) m32))
      clear g
      refine SimK.effs (is := [7,11]) (by kernel_rfl) (by simp) ?_
      intro q hq
      simp only [List.mem_cons,List.not_mem_nil,or_false] at hq
      rcases hq with rfl | rfl
      ·skip
       refine SimK.effAt (i := 7) (D' := 2047) (X' := 255) (by kernel_rfl) (by kernel_rfl) [8,9,10] (by kernel_rfl) (Does.call (f := 27) (args := #[.agg ((nodeH hk1 hk2).map bv).toArray,.agg ((nodeH hk3 hk4).map bv).toArray]) (by kernel_rfl) (node_sat _ (nodeH hk1 hk2) (nodeH hk3 hk4) (node_len _ _) (node_len _ _) kt)) ?_
       rintro _ h106 ⟨rfl,g⟩
       replace e0 := e0.ext g
       replace kt := kt.ext g
       replace m3 := Ext.blk g m3
       replace m10 := Ext.blk g m10
       replace m17 := Ext.blk g m17
       replace m24 := Ext.blk g m24
       replace m32 := Ext.blk g m32
       replace sep := sep.up g.size
       refine ⟨?_,?_⟩
       ·intro j hj
        simp only [List.mem_cons,List.not_mem_nil,or_false] at hj
        rcases hj with rfl | rfl | rfl
        ·exact goodOf (Calm.load (T := 23) (p := ⟨h13.size,0,none⟩) (by kernel_rfl) (Loads.hash (by kernel_rfl) rfl m17))
        ·exact goodOf (Calm.load (T := 23) (p := ⟨h20.size,0,none⟩) (by kernel_rfl) (Loads.hash (by kernel_rfl) rfl m24))
        ·exact goodOf (Calm.load (T := 23) (p := ⟨h29.size,0,none⟩) (by kernel_rfl) (Loads.hash (by kernel_rfl) (node_len _ _) m32))
       clear g
       refine SimK.eff0 (i := 11) (D' := 4095) (X' := 4095) (by kernel_rfl) (by kernel_rfl) (by kernel_rfl) (by kernel_rfl) (Does.newHs (L := [hk3,hk4,nodeH hk1 hk2]) (t := 24) (E := 23) (by_ := 32) (n := 3) (by kernel_rfl) (by kernel_rfl) (All32.cons rfl (All32.cons rfl (All32.cons (node_len _ _) All32.nil))) rfl (by decide) (by decide)) ?_
       rintro _ h107 ⟨rfl,hh⟩
       have g108 : Ext h106 h107 := push_ext hh
       have m109 : h107[h106.size]? = some (.cells (hcs [hk3,hk4,nodeH hk1 hk2]).toArray 23) := push_at hh
       clear hh
       have lt110 := blk_lt m109
       have zs111 := e0.size
       have hlo := e0.size
       have sepo := sep
       replace e0 := e0.ext g108
       replace kt := kt.ext g108
       replace m3 := Ext.blk g108 m3
       replace m10 := Ext.blk g108 m10
       replace m17 := Ext.blk g108 m17
       replace m24 := Ext.blk g108 m24
       replace m32 := Ext.blk g108 m32
       replace sep := sep.up g108.size
       replace sep := sepo.new hlo (blk_lt m109)
       clear sepo hlo
       refine SimK.eff0 (i := 12) (D' := 8191) (X' := 8191) (by kernel_rfl) (by kernel_rfl) (by kernel_rfl) (by kernel_rfl) (Does.call (f := 14) (args := #[.int .i64 3,.int .i64 4,.agg ((nodeH (nodeH hk1 hk2) hk3).map bv).toArray,.agg ((nodeH (nodeH hk1 hk2) (nodeH hk3 hk4)).map bv).toArray,.slice (some ⟨h106.size,0,none⟩) 3 3]) (by kernel_rfl) (vcons_at _ (3) (4) (nodeH (nodeH hk1 hk2) hk3) (nodeH (nodeH hk1 hk2) (nodeH hk3 hk4)) [hk3,hk4,nodeH hk1 hk2] _ _ (node_len _ _) (node_len _ _) (HR.of (Own.blk (n := 3) m109 (by rw [hcs_length (All32.cons rfl (All32.cons rfl (All32.cons (node_len _ _) All32.nil)))]; rfl) (by unfold maxLen; decide)) (All32.cons rfl (All32.cons rfl (All32.cons (node_len _ _) All32.nil)))) (by decide) (by decide) kt (fun k e => by cases e; exact blk_lt m109) true (c_three _ _ _))) ?_
       rintro _ h112 ⟨rfl,g⟩
       replace e0 := e0.ext g
       replace kt := kt.ext g
       replace m3 := Ext.blk g m3
       replace m10 := Ext.blk g m10
       replace m17 := Ext.blk g m17
       replace m24 := Ext.blk g m24
       replace m32 := Ext.blk g m32
       replace m109 := Ext.blk g m109
       replace sep := sep.up g.size
       clear g
       refine mP 16383 [13] [.bool true] ?_
       refine mD [(1,pV h.size),(2,pV h6.size),(6,.bool true),(7,.bool true),(8,.bool true)] ?_
       clear hF a; intro a hF
       replace sep := sep.sub (l' := [some (h29.size),some (h20.size),some (h13.size),some (h6.size),some (h.size)]) (.cons _ (.cons_cons _ (.cons_cons _ (.cons_cons _ (.cons_cons _ (.cons_cons _ (.slnil)))))))
       exact ⟨rfl,e0,kt,m3,m10,m17,m24,m32,sep,hF⟩
      ·skip
       refine SimK.effAt (i := 11) (D' := 3967) (X' := 3959) (by kernel_rfl) (by kernel_rfl) [3] (by kernel_rfl) (Does.newHs (L := [hk3,hk4,nodeH hk1 hk2]) (t := 24) (E := 23) (by_ := 32) (n := 3) (by kernel_rfl) (by kernel_rfl) (All32.cons rfl (All32.cons rfl (All32.cons (node_len _ _) All32.nil))) rfl (by decide) (by decide)) ?_
       rintro _ h113 ⟨rfl,hh⟩
       have g114 : Ext h105 h113 := push_ext hh
       have m115 : h113[h105.size]? = some (.cells (hcs [hk3,hk4,nodeH hk1 hk2]).toArray 23) := push_at hh
       clear hh
       have lt116 := blk_lt m115
       have zs117 := e0.size
       have hlo := e0.size
       have sepo := sep
       replace e0 := e0.ext g114
       replace kt := kt.ext g114
       replace m3 := Ext.blk g114 m3
       replace m10 := Ext.blk g114 m10
       replace m17 := Ext.blk g114 m17
       replace m24 := Ext.blk g114 m24
       replace m32 := Ext.blk g114 m32
       replace sep := sep.up g114.size
       replace sep := sepo.new hlo (blk_lt m115)
       clear sepo hlo
       refine ⟨?_,?_⟩
       ·intro j hj
        simp only [List.mem_cons,List.not_mem_nil,or_false] at hj
        subst hj
        exact goodOf (Calm.load (T := 23) (p := ⟨h29.size,0,none⟩) (by kernel_rfl) (Loads.hash (by kernel_rfl) (node_len _ _) m32))
       refine SimK.eff0 (i := 7) (D' := 4095) (X' := 4095) (by kernel_rfl) (by kernel_rfl) (by kernel_rfl) (by kernel_rfl) (Does.call (f := 27) (args := #[.agg ((nodeH hk1 hk2).map bv).toArray,.agg ((nodeH hk3 hk4).map bv).toArray]) (by kernel_rfl) (node_sat _ (nodeH hk1 hk2) (nodeH hk3 hk4) (node_len _ _) (node_len _ _) kt)) ?_
       rintro _ h118 ⟨rfl,g⟩
       replace e0 := e0.ext g
       replace kt := kt.ext g
       replace m3 := Ext.blk g m3
       replace m10 := Ext.blk g m10
       replace m17 := Ext.blk g m17
       replace m24 := Ext.blk g m24
       replace m32 := Ext.blk g m32
       replace m115 := Ext.blk g m115
       replace sep := sep.up g.size
       clear g
       refine SimK.eff0 (i := 12) (D' := 8191) (X' := 8191) (by kernel_rfl) (by kernel_rfl) (by kernel_rfl) (by kernel_rfl) (Does.call (f := 14) (args := #[.int .i64 3,.int .i64 4,.agg ((nodeH (nodeH hk1 hk2) hk3).map bv).toArray,.agg ((nodeH (nodeH hk1 hk2) (nodeH hk3 hk4)).map bv).toArray,.slice (some ⟨h105.size,0,none⟩) 3 3]) (by kernel_rfl) (vcons_at _ (3) (4) (nodeH (nodeH hk1 hk2) hk3) (nodeH (nodeH hk1 hk2) (nodeH hk3 hk4)) [hk3,hk4,nodeH hk1 hk2] _ _ (node_len _ _) (node_len _ _) (HR.of (Own.blk (n := 3) m115 (by rw [hcs_length (All32.cons rfl (All32.cons rfl (All32.cons (node_len _ _) All32.nil)))]; rfl) (by unfold maxLen; decide)) (All32.cons rfl (All32.cons rfl (All32.cons (node_len _ _) All32.nil)))) (by decide) (by decide) kt (fun k e => by cases e; exact blk_lt m115) true (c_three _ _ _))) ?_
       rintro _ h119 ⟨rfl,g⟩
       replace e0 := e0.ext g
       replace kt := kt.ext g
       replace m3 := Ext.blk g m3
       replace m10 := Ext.blk g m10
       replace m17 := Ext.blk g m17
       replace m24 := Ext.blk g m24
       replace m32 := Ext.blk g m32
       replace m115 := Ext.blk g m115
       replace sep := sep.up g.size
       clear g
       refine mP 16383 [13] [.bool true] ?_
       refine mD [(1,pV h.size),(2,pV h6.size),(6,.bool true),(7,.bool true),(8,.bool true)] ?_
       clear hF a; intro a hF
       replace sep := sep.sub (l' := [some (h29.size),some (h20.size),some (h13.size),some (h6.size),some (h.size)]) (.cons _ (.cons_cons _ (.cons_cons _ (.cons_cons _ (.cons_cons _ (.cons_cons _ (.slnil)))))))
       exact ⟨rfl,e0,kt,m3,m10,m17,m24,m32,sep,hF⟩
     ·skip
      refine SimK.effAt (i := 11) (D' := 3903) (X' := 3847) (by kernel_rfl) (by kernel_rfl) [3,4,5] (by kernel_rfl) (Does.newHs (L := [hk3,hk4,nodeH hk1 hk2]) (t := 24) (E := 23) (by_ := 32) (n := 3) (by kernel_rfl) (by kernel_rfl) (All32.cons rfl (All32.cons rfl (All32.cons (node_len _ _) All32.nil))) rfl (by decide) (by decide)) ?_
      rintro _ h120 ⟨rfl,hh⟩
      have g121 : Ext h104 h120 := push_ext hh
      have m122 : h120[h104.size]? = some (.cells (hcs [hk3,hk4,nodeH hk1 hk2]).toArray 23) := push_at hh
      clear hh
      have lt123 := blk_lt m122
      have zs124 := e0.size
      have hlo := e0.size
      have sepo := sep
      replace e0 := e0.ext g121
      replace kt := kt.ext g121
      replace m3 := Ext.blk g121 m3
      replace m10 := Ext.blk g121 m10
      replace m17 := Ext.blk g121 m17
      replace m24 := Ext.blk g121 m24
      replace m32 := Ext.blk g121 m32
      replace sep := sep.up g121.size
      replace sep := sepo.new hlo (blk_lt m122)
      clear sepo hlo
      refine ⟨?_,?_⟩
      ·intro j hj
       simp only [List.mem_cons,List.not_mem_nil,or_false] at hj
       rcases hj with rfl | rfl | rfl
       ·exact goodOf (Calm.load (T := 23) (p := ⟨h29.size,0,none⟩) (by kernel_rfl) (Loads.hash (by kernel_rfl) (node_len _ _) m32))
       ·exact goodOf (Calm.load (T := 23) (p := ⟨h13.size,0,none⟩) (by kernel_rfl) (Loads.hash (by kernel_rfl) rfl m17))
       ·exact goodOf (Calm.load (T := 23) (p := ⟨h20.size,0,none⟩) (by kernel_rfl) (Loads.hash (by kernel_rfl) rfl m24))
      refine SimK.eff (i := 6) (D' := 3967) (X' := 3959) (by kernel_rfl) (by kernel_rfl) (by kernel_rfl) [3] (by kernel_rfl) (Does.call (f := 27) (args := #[.agg (hk3.map bv).toArray,.agg (hk4.map bv).toArray]) (by kernel_rfl) (node_sat _ hk3 hk4 rfl rfl kt)) ?_
      rintro _ h125 ⟨rfl,g⟩
      replace e0 := e0.ext g
      replace kt := kt.ext g
      replace m3 := Ext.blk g m3
      replace m10 := Ext.blk g m10
      replace m17 := Ext.blk g m17
      replace m24 := Ext.blk g m24
      replace m32 := Ext.blk g m32
      replace m122 := Ext.blk g m122
      replace sep := sep.up g.size
      refine ⟨?_,?_⟩
      ·intro j hj
       simp only [List.mem_cons,List.not_mem_nil,or_false] at hj
       subst hj
       exact goodOf (Calm.load (T := 23) (p := ⟨h29.size,0,none⟩) (by kernel_rfl) (Loads.hash (by kernel_rfl) (node_len _ _) m32))
      clear g
      refine SimK.eff0 (i := 7) (D' := 4095) (X' := 4095) (by kernel_rfl) (by kernel_rfl) (by kernel_rfl) (by kernel_rfl) (Does.call (f := 27) (args := #[.agg ((nodeH hk1 hk2).map bv).toArray,.agg ((nodeH hk3 hk4).map bv).toArray]) (by kernel_rfl) (node_sat _ (nodeH hk1 hk2) (nodeH hk3 hk4) (node_len _ _) (node_len _ _) kt)) ?_
      rintro _ h126 ⟨rfl,g⟩
      replace e0 := e0.ext g
      replace kt := kt.ext g
      replace m3 := Ext.blk g m3
      replace m10 := Ext.blk g m10
      replace m17 := Ext.blk g m17
      replace m24 := Ext.blk g m24
      replace m32 := Ext.blk g m32
      replace m122 := Ext.blk g m122
      replace sep := sep.up g.size
      clear g
      refine SimK.eff0 (i := 12) (D' := 8191) (X' := 8191) (by kernel_rfl) (by kernel_rfl) (by kernel_rfl) (by kernel_rfl) (Does.call (f := 14) (args := #[.int .i64 3,.int .i64 4,.agg ((nodeH (nodeH hk1 hk2) hk3).map bv).toArray,.agg ((nodeH (nodeH hk1 hk2) (nodeH hk3 hk4)).map bv).toArray,.slice (some ⟨h104.size,0,none⟩) 3 3]) (by kernel_rfl) (vcons_at _ (3) (4) (nodeH (nodeH hk1 hk2) hk3) (nodeH (nodeH hk1 hk2) (nodeH hk3 hk4)) [hk3,hk4,nodeH hk1 hk2] _ _ (node_len _ _) (node_len _ _) (HR.of (Own.blk (n := 3) m122 (by rw [hcs_length (All32.cons rfl (All32.cons rfl (All32.cons (node_len _ _) All32.nil)))]; rfl) (by unfold maxLen; decide)) (All32.cons rfl (All32.cons rfl (All32.cons (node_len _ _) All32.nil)))) (by decide) (by decide) kt (fun k e => by cases e; exact blk_lt m122) true (c_three _ _ _))) ?_
      rintro _ h127 ⟨rfl,g⟩
      replace e0 := e0.ext g
      replace kt := kt.ext g
      replace m3 := Ext.blk g m3
      replace m10 := Ext.blk g m10
      replace m17 := Ext.blk g m17
      replace m24 := Ext.blk g m24
      replace m32 := Ext.blk g m32
      replace m122 := Ext.blk g m122
      replace sep := sep.up g.size
      clear g
      refine mP 16383 [13] [.bool true] ?_
      refine mD [(1,pV h.size),(2,pV h6.size),(6,.bool true),(7,.bool true),(8,.bool true)] ?_
      clear hF a; intro a hF
      replace sep := sep.sub (l' := [some (h29.size),some (h20.size),some (h13.size),some (h6.size),some (h.size)]) (.cons _ (.cons_cons _ (.cons_cons _ (.cons_cons _ (.cons_cons _ (.cons_cons _ (.slnil)))))))
      exact ⟨rfl,e0,kt,m3,m10,m17,m24,m32,sep,hF⟩
    ·skip
     refine SimK.effAt (i := 11) (D' := 3899) (X' := 3840) (by kernel_rfl) (by kernel_rfl) [0,1,3,4,5] (by kernel_rfl) (Does.newHs (L := [hk3,hk4,nodeH hk1 hk2]) (t := 24) (E := 23) (by_ := 32) (n := 3) (by kernel_rfl) (by kernel_rfl) (All32.cons rfl (All32.cons rfl (All32.cons (node_len _ _) All32.nil))) rfl (by decide) (by decide)) ?_
     rintro _ h128 ⟨rfl,hh⟩
     have g129 : Ext h103 h128 := push_ext hh
     have m130 : h128[h103.size]? = some (.cells (hcs [hk3,hk4,nodeH hk1 hk2]).toArray 23) := push_at hh
     clear hh
     have lt131 := blk_lt m130
     have zs132 := e0.size
     have hlo := e0.size
     have sepo := sep
     replace e0 := e0.ext g129
     replace kt := kt.ext g129
     replace m3 := Ext.blk g129 m3
     replace m10 := Ext.blk g129 m10
     replace m17 := Ext.blk g129 m17
     replace m24 := Ext.blk g129 m24
     replace m32 := Ext.blk g129 m32
     replace sep := sep.up g129.size
     replace sep := sepo.new hlo (blk_lt m130)
     clear sepo hlo
     refine ⟨?_,?_⟩
     ·intro j hj
      simp only [List.mem_cons,List.not_mem_nil,or_false] at hj
      rcases hj with rfl | rfl | rfl | rfl | rfl
      ·exact goodOf (Calm.load (T := 23) (p := ⟨h29.size,0,none⟩) (by kernel_rfl) (Loads.hash (by kernel_rfl) (node_len _ _) m32))
      ·exact goodOf (Calm.load (T := 23) (p := ⟨h13.size,0,none⟩) (by kernel_rfl) (Loads.hash (by kernel_rfl) rfl m17))
      ·exact goodOf (Calm.load (T := 23) (p := ⟨h29.size,0,none⟩) (by kernel_rfl) (Loads.hash (by kernel_rfl) (node_len _ _) m32))
      ·exact goodOf (Calm.load (T := 23) (p := ⟨h13.size,0,none⟩) (by kernel_rfl) (Loads.hash (by kernel_rfl) rfl m17))
      ·exact goodOf (Calm.load (T := 23) (p := ⟨h20.size,0,none⟩) (by kernel_rfl) (Loads.hash (by kernel_rfl) rfl m24))
     refine SimK.eff (i := 2) (D' := 3903) (X' := 3847) (by kernel_rfl) (by kernel_rfl) (by kernel_rfl) [3,4,5] (by kernel_rfl) (Does.call (f := 27) (args := #[.agg ((nodeH hk1 hk2).map bv).toArray,.agg (hk3.map bv).toArray]) (by kernel_rfl) (node_sat _ (nodeH hk1 hk2) hk3 (node_len _ _) rfl kt)) ?_
     rintro _ h133 ⟨rfl,g⟩
     replace e0 := e0.ext g
     replace kt := kt.ext g
     replace m3 := Ext.blk g m3
     replace m10 := Ext.blk g m10
     replace m17 := Ext.blk g m17
     replace m24 := Ext.blk g m24
     replace m32 := Ext.blk g m32
     replace m130 := Ext.blk g m130
     replace sep := sep.up g.size
     refine ⟨?_,?_⟩
     ·intro j hj
      simp only [List.mem_cons,List.not_mem_nil,or_false] at hj
      rcases hj with rfl | rfl | rfl
      ·exact goodOf (Calm.load (T := 23) (p := ⟨h29.size,0,none⟩) (by kernel_rfl) (Loads.hash (by kernel_rfl) (node_len _ _) m32))
      ·exact goodOf (Calm.load (T := 23) (p := ⟨h13.size,0,none⟩) (by kernel_rfl) (Loads.hash (by kernel_rfl) rfl m17))
      ·exact goodOf (Calm.load (T := 23) (p := ⟨h20.size,0,none⟩) (by kernel_rfl) (Loads.hash (by kernel_rfl) rfl m24))
     clear g
     refine SimK.eff (i := 6) (D' := 3967) (X' := 3959) (by kernel_rfl) (by kernel_rfl) (by kernel_rfl) [3] (by kernel_rfl) (Does.call (f := 27) (args := #[.agg (hk3.map bv).toArray,.agg (hk4.map bv).toArray]) (by kernel_rfl) (node_sat _ hk3 hk4 rfl rfl kt)) ?_
     rintro _ h134 ⟨rfl,g⟩
     replace e0 := e0.ext g
     replace kt := kt.ext g
     replace m3 := Ext.blk g m3
     replace m10 := Ext.blk g m10
     replace m17 := Ext.blk g m17
     replace m24 := Ext.blk g m24
     replace m32 := Ext.blk g m32
     replace m130 := Ext.blk g m130
     replace sep := sep.up g.size
     refine ⟨?_,?_⟩
     ·intro j hj
      simp only [List.mem_cons,List.not_mem_nil,or_false] at hj
      subst hj
      exact goodOf (Calm.load (T := 23) (p := ⟨h29.size,0,none⟩) (by kernel_rfl) (Loads.hash (by kernel_rfl) (node_len _ _) m32))
     clear g
     refine SimK.eff0 (i := 7) (D' := 4095) (X' := 4095) (by kernel_rfl) (by kernel_rfl) (by kernel_rfl) (by kernel_rfl) (Does.call (f := 27) (args := #[.agg ((nodeH hk1 hk2).map bv).toArray,.agg ((nodeH hk3 hk4).map bv).toArray]) (by kernel_rfl) (node_sat _ (nodeH hk1 hk2) (nodeH hk3 hk4) (node_len _ _) (node_len _ _) kt)) ?_
     rintro _ h135 ⟨rfl,g⟩
     replace e0 := e0.ext g
     replace kt := kt.ext g
     replace m3 := Ext.blk g m3
     replace m10 := Ext.blk g m10
     replace m17 := Ext.blk g m17
     replace m24 := Ext.blk g m24
     replace m32 := Ext.blk g m32
     replace m130 := Ext.blk g m130
     replace sep := sep.up g.size
     clear g
     refine SimK.eff0 (i := 12) (D' := 8191) (X' := 8191) (by kernel_rfl) (by kernel_rfl) (by kernel_rfl) (by kernel_rfl) (Does.call (f := 14) (args := #[.int .i64 3,.int .i64 4,.agg ((nodeH (nodeH hk1 hk2) hk3).map bv).toArray,.agg ((nodeH (nodeH hk1 hk2) (nodeH hk3 hk4)).map bv).toArray,.slice (some ⟨h103.size,0,none⟩) 3 3]) (by kernel_rfl) (vcons_at _ (3) (4) (nodeH (nodeH hk1 hk2) hk3) (nodeH (nodeH hk1 hk2) (nodeH hk3 hk4)) [hk3,hk4,nodeH hk1 hk2] _ _ (node_len _ _) (node_len _ _) (HR.of (Own.blk (n := 3) m130 (by rw [hcs_length (All32.cons rfl (All32.cons rfl (All32.cons (node_len _ _) All32.nil)))]; rfl) (by unfold maxLen; decide)) (All32.cons rfl (All32.cons rfl (All32.cons (node_len _ _) All32.nil)))) (by decide) (by decide) kt (fun k e => by cases e; exact blk_lt m130) true (c_three _ _ _))) ?_
     rintro _ h136 ⟨rfl,g⟩
     replace e0 := e0.ext g
     replace kt := kt.ext g
     replace m3 := Ext.blk g m3
     replace m10 := Ext.blk g m10
     replace m17 := Ext.blk g m17
     replace m24 := Ext.blk g m24
     replace m32 := Ext.blk g m32
     replace m130 := Ext.blk g m130
     replace sep := sep.up g.size
     clear g
     refine mP 16383 [13] [.bool true] ?_
     refine mD [(1,pV h.size),(2,pV h6.size),(6,.bool true),(7,.bool true),(8,.bool true)] ?_
     clear hF a; intro a hF
     replace sep := sep.sub (l' := [some (h29.size),some (h20.size),some (h13.size),some (h6.size),some (h.size)]) (.cons _ (.cons_cons _ (.cons_cons _ (.cons_cons _ (.cons_cons _ (.cons_cons _ (.slnil)))))))
     exact ⟨rfl,e0,kt,m3,m10,m17,m24,m32,sep,hF⟩
   ·skip
    clear hF a e0 kt m3 m10 m17 m24 m32 sep
    rintro e a h137 ⟨rfl,e0,kt,m3,m10,m17,m24,m32,sep,hF⟩
    refine tK ?_
    refine cS ?_
    refine cD [0,1,3,7,15,31,63,127,255,255,1023,2047,4095,8191,8191,32767,65535,131071,262143,524287,524287,2097151,4194303,8388607,16777215,16777215,67108863,134217727,268435455,536870911] 9 mixed hF ?_
    refine mP 255 [0,1,2,3,4,5,6,7] [.bool true,.bool true,.bool true,.bool true,.bool true,.bool true,.bool true,.bool true] ?_
    refine mL 511 256 8 (.agg (hk1.map bv).toArray) (Calm.load (T := 23) (p := ⟨h.size,0,none⟩) (by kernel_rfl) (Loads.hash (by kernel_rfl) rfl m3)) ?_
    refine mL 1023 768 9 (.agg (hk1.map bv).toArray) (Calm.load (T := 23) (p := ⟨h.size,0,none⟩) (by kernel_rfl) (Loads.hash (by kernel_rfl) rfl m3)) ?_
    refine SimK.eff0 (i := 10) (D' := 2047) (X' := 2047) (by kernel_rfl) (by kernel_rfl) (by kernel_rfl) (by kernel_rfl) (Does.call (f := 14) (args := #[.int .i64 3,.int .i64 3,.agg (hk1.map bv).toArray,.agg (hk1.map bv).toArray,.slice none 0 0]) (by kernel_rfl) (vcons_at _ (3) (3) hk1 hk1 [] _ _ rfl rfl (HR.nil _) (by decide) (by decide) kt (fun k e => by cases e) true (c_same _))) ?_
    rintro _ h138 ⟨rfl,g⟩
    replace e0 := e0.ext g
    replace kt := kt.ext g
    replace m3 := Ext.blk g m3
    replace m10 := Ext.blk g m10
    replace m17 := Ext.blk g m17
    replace m24 := Ext.blk g m24
    replace m32 := Ext.blk g m32
    replace sep := sep.up g.size
    clear g
    refine mP 8191 [11,12] [.bool true,.bool true] ?_
    refine mL 16383 8960 13 (.agg (hk1.map bv).toArray) (Calm.load (T := 23) (p := ⟨h.size,0,none⟩) (by kernel_rfl) (Loads.hash (by kernel_rfl) rfl m3)) ?_
    refine mL 32767 25344 14 (.agg (hk2.map bv).toArray) (Calm.load (T := 23) (p := ⟨h6.size,0,none⟩) (by kernel_rfl) (Loads.hash (by kernel_rfl) rfl m10)) ?_
    refine SimK.eff0 (i := 15) (D' := 65535) (X' := 65535) (by kernel_rfl) (by kernel_rfl) (by kernel_rfl) (by kernel_rfl) (Does.call (f := 14) (args := #[.int .i64 4,.int .i64 3,.agg (hk1.map bv).toArray,.agg (hk2.map bv).toArray,.slice none 0 0]) (by kernel_rfl) (vcons_at _ (4) (3) hk1 hk2 [] _ _ rfl rfl (HR.nil _) (by decide) (by decide) kt (fun k e => by cases e) false (consB_no (by decide)))) ?_
    rintro _ h139 ⟨rfl,g⟩
    replace e0 := e0.ext g
    replace kt := kt.ext g
    replace m3 := Ext.blk g m3
    replace m10 := Ext.blk g m10
    replace m17 := Ext.blk g m17
    replace m24 := Ext.blk g m24
    replace m32 := Ext.blk g m32
    replace sep := sep.up g.size
    clear g
    refine mP 524287 [16,17,18] [.bool true,.bool true,.bool true] ?_
    refine mL 1572863 1073920 20 (.agg (hk1.map bv).toArray) (Calm.load (T := 23) (p := ⟨h.size,0,none⟩) (by kernel_rfl) (Loads.hash (by kernel_rfl) rfl m3)) ?_
    refine SimK.eff (i := 19) (D' := 2097151) (X' := 1048575) (by kernel_rfl) (by kernel_rfl) (by kernel_rfl) [20] (by kernel_rfl) (Does.call (f := 20) (args := #[.slice none 0 0]) (by kernel_rfl) (troot_sat _ [] none 0 0 (HR.nil _) kt (by decide))) ?_
    rintro _ h140 ⟨rfl,g⟩
    replace e0 := e0.ext g
    replace kt := kt.ext g
    replace m3 := Ext.blk g m3
    replace m10 := Ext.blk g m10
    replace m17 := Ext.blk g m17
    replace m24 := Ext.blk g m24
    replace m32 := Ext.blk g m32
    replace sep := sep.up g.size
    refine ⟨?_,?_⟩
    ·intro j hj
     simp only [List.mem_cons,List.not_mem_nil,or_false] at hj
     subst hj
     exact goodOf (Calm.load (T := 23) (p := ⟨h.size,0,none⟩) (by kernel_rfl) (Loads.hash (by kernel_rfl) rfl m3))
    clear g
    refine SimK.eff0 (i := 21) (D' := 4194303) (X' := 4194303) (by kernel_rfl) (by kernel_rfl) (by kernel_rfl) (by kernel_rfl) (Does.call (f := 14) (args := #[.int .i64 0,.int .i64 3,.agg ((root []).map bv).toArray,.agg (hk1.map bv).toArray,.slice none 0 0]) (by kernel_rfl) (vcons_at _ (0) (3) (root []) hk1 [] _ _ (root_len All32.nil) rfl (HR.nil _) (by decide) (by decide) kt (fun k e => by cases e) true (c_none _))) ?_
    rintro _ h141 ⟨rfl,g⟩
    replace e0 := e0.ext g
    replace kt := kt.ext g
    replace m3 := Ext.blk g m3
    replace m10 := Ext.blk g m10
    replace m17 := Ext.blk g m17
    replace m24 := Ext.blk g m24
    replace m32 := Ext.blk g m32
    replace sep := sep.up g.size
    clear g
    refine mP 16777215 [22,23] [.bool true,.bool true] ?_
    refine mL 33554431 17851136 24 (.agg (hk1.map bv).toArray) (Calm.load (T := 23) (p := ⟨h.size,0,none⟩) (by kernel_rfl) (Loads.hash (by kernel_rfl) rfl m3)) ?_
    refine mL 67108863 51405568 25 (.agg (hk1.map bv).toArray) (Calm.load (T := 23) (p := ⟨h.size,0,none⟩) (by kernel_rfl) (Loads.hash (by kernel_rfl) rfl m3)) ?_
    refine SimK.eff0 (i := 26) (D' := 134217727) (X' := 134217727) (by kernel_rfl) (by kernel_rfl) (by kernel_rfl) (by kernel_rfl) (Does.call (f := 14) (args := #[.int .i64 0,.int .i64 3,.agg (hk1.map bv).toArray,.agg (hk1.map bv).toArray,.slice none 0 0]) (by kernel_rfl) (vcons_at _ (0) (3) hk1 hk1 [] _ _ rfl rfl (HR.nil _) (by decide) (by decide) kt (fun k e => by cases e) false (c_bad one_ne))) ?_
    rintro _ h142 ⟨rfl,g⟩
    replace e0 := e0.ext g
    replace kt := kt.ext g
    replace m3 := Ext.blk g m3
    replace m10 := Ext.blk g m10
    replace m17 := Ext.blk g m17
    replace m24 := Ext.blk g m24
    replace m32 := Ext.blk g m32
    replace sep := sep.up g.size
    clear g
    refine mP 1073741823 [27,28,29] [.bool true,.bool true,.bool true] ?_
    refine mD [(0,.bool true)] ?_
    clear hF a; intro a hF
    refine tK ?_
    refine cR ?_
    show retK Tryd.prog Tryd.f10 (fun v h' => v = .bool true ∧ Ext h h') .ret a h142
    refine ret_ok [.tmp 0] [.bool true] (.bool true) rfl hF ⟨rfl,trivial⟩ rfl ?_
    exact ⟨rfl,e0⟩
end Go.Proofs.YteinikjbaaembaaDoor
