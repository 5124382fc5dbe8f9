/- Walks of trees of hashes: what each function computes, as a law of its calls. No condition but those that each theorem names. -/
import Derived.Test.YtkjlafiefgbjpaaDoorTreeB
namespace Go.Proofs.YtkjlafiefgbjpaaDoor
open Go Go.Lane Go.Sha
noncomputable def b31 : Code := Tryd.f31.body.getD .skip
set_option maxHeartbeats 1000000 in
theorem growadd_sat (h : Heap) (b : Nat) (o : Option Nat) (n : Nat) (ps : List Hs) (g : GrowA h b o n ps) (x : Hs) (hx : x.length = 32) (hfor0 : ∃ s l,Forest n s ps l) (kt : Ktab h) (hb0 : 0 < b) (ho0 : o ≠ some 0) (hn : n ≤ 1099511627776) (hpl0 : ps.length ≤ 1099511627776) : Sat Tryd.prog 31 #[.pointer (some ⟨b,0,none⟩),.agg (x.map bv).toArray] h fun _ h' => ∃ o',GrowA h' b o' (n + 1) (addP n ps x) ∧ (o' = o ∨ ∃ g,o' = some g ∧ h.size ≤ g) ∧ Gr (fun k => k = b ∨ some k = o) h h' := by
 have h0s : 0 < 1 := by decide
 obtain ⟨ad,cap,ho,hob,hm,own_p,h32⟩ := g
 have hb : b < h.size := blk_lt hm
 have hop_p : ad.map (fun (x : Addr) => x.block) = o ∨ ∃ g,ad.map (fun (x : Addr) => x.block) = some g ∧ h.size ≤ g := .inl ho.symm
 have hpo : ∀ k,ad.map (·.block) = some k → 1 ≤ k ∧ k < h.size := fun k e => ⟨Nat.pos_of_ne_zero fun e0 => ho0 (by rw [ho,e,e0]),own_p.lt (by rw [blkOf_slice]; exact e)⟩
 have sep : Sep 1 h.size [ad.map (·.block),some b] := Sep.two (ho ▸ hob) hb0 hb hpo
 have g0 := Gr.refl (fun k => k = b ∨ some k = o) h
 refine sat_of (args := [.pointer (some ⟨b,0,none⟩),.agg (x.map bv).toArray]) (fn := Tryd.f31) (B := b31) (n := 56) (L := [(0,.pointer (some ⟨b,0,none⟩)),(1,.agg (x.map bv).toArray)]) Tryd.func31 rfl (by kernel_rfl) rfl ?_
 intro a hF
 refine cS ?_
 refine cP 0 hF ?_
 refine SeqK.eff (k' := 1) (Does.new (v := .pointer (some ⟨h.size,0,none⟩)) (o := .cells (x.map bv).toArray 31) (by kernel_rfl)) rfl ?_
 rintro _ h1 ⟨rfl,hh⟩
 have g2 : Ext h h1 := push_ext hh
 have m3 : h1[h.size]? = some (.cells (x.map bv).toArray 31) := push_at hh
 clear hh
 have lt4 := blk_lt m3
 have zs5 := g0.1
 have hlo := kt.lt
 have sepo := sep
 replace g0 := g0.ext g2
 replace kt := kt.ext g2
 replace own_p := own_p.ext g2
 replace hm := Ext.blk g2 hm
 replace sep := sep.up g2.size
 replace sep := sepo.new hlo (blk_lt m3)
 clear sepo hlo
 refine sD [(0,pV b),(3,pV h.size)] ?_
 clear hF a; intro a hF
 refine tK ?_
 refine cS ?_
 refine cS ?_
 refine cP 1 hF ?_
 refine sP 3 [pV b,pV b,pV b] ?_
 refine sC 4 (.int .i64 ((n : Nat) : Int)) (Calm.load (T := 3) (p := ⟨b,0,none⟩) (by kernel_rfl) (Loads.one (k := 1) (by kernel_rfl) ((hcell_blk hm).trans rfl))) ?_
 refine sP 5 [nV n] ?_
 refine sD [(0,pV b),(3,pV h.size),(4,nV n)] ?_
 clear hF a; intro a hF
 refine tK ?_
 refine cB 0 ?_
 refine C.loop (fun m a h' => ∃ nn : Nat,∃ ps' : List Hs,∃ x' : Hs,m = nn + 1 ∧ (Gr (fun k => k = b ∨ some k = o) h h') ∧ (Ktab h') ∧ (addP nn ps' x' = addP n ps x) ∧ (∃ s l,Forest nn s ps' l) ∧ (nn ≤ n) ∧ (x'.length = 32) ∧ (All32 ps') ∧ (ps'.length ≤ 1099511627776) ∧ (h'[b]? = some (.cells #[.int .i64 ((n : Nat) : Int),.slice ad ps'.length cap] 67)) ∧ (Own h' (.slice ad ps'.length cap) 31 ps'.length 32 (hcs ps')) ∧ (Sep 1 h'.size [some (h.size),ad.map (·.block),some b]) ∧ (h'[h.size]? = some (.cells (x'.map bv).toArray 31)) ∧ (Fr a 56 [(0,.pointer (some ⟨b,0,none⟩)),(3,.pointer (some ⟨h.size,0,none⟩)),(4,.int .i64 ((nn : Nat) : Int))])) (n + 1) [1,0,1,0,0] (by kernel_rfl) ⟨n,ps,x,rfl,g0,kt,rfl,hfor0,(Nat.le_refl _),hx,h32,hpl0,hm,own_p,sep,m3,hF⟩ ?_
 clear hF a
 clear g0
 clear kt
 clear hfor0
 clear hx
 clear h32
 clear hpl0
 clear hm
 clear own_p
 clear sep
 clear m3
 rintro m a h6 ⟨nn,ps',x',rfl,g0,kt,hadd,hfor,hnn,hx',h32',hpl,hm,own_p,sep,m3,hF⟩
 refine cS ?_
 refine cS ?_
 refine cP 2 hF ?_
 refine sP 1 [nV nn] ?_
 refine s1 2 (.int .i64 ((nn % 2 : Nat) : Int)) (.int .i64 (IntKind.i64.wrap ((BitVec.ofInt 64 ((nn : Nat) : Int) &&& BitVec.ofInt 64 1).toNat : Int))) (and1 (by omega)) ?_
 refine sP 3 [.bool (decide (((nn % 2 : Nat) : Int) = (1 : Int)))] ?_
 refine sD [(0,pV b),(3,pV h.size),(4,nV nn),(12,.bool (decide (((nn % 2 : Nat) : Int) = (1 : Int))))] ?_
 clear hF a; intro a hF
 refine tK ?_
 refine cC 12 (decide (((nn % 2 : Nat) : Int) = (1 : Int))) hF (fun hc7 => ?_) (fun hc7 => ?_)
 ·skip
  replace hc7 := of_decide_eq_true hc7
  have hodd : nn % 2 = 1 := by omega
  obtain ⟨s',l',f⟩ := hfor
  obtain ⟨ps0,c0,l0,eps,_,_,f2⟩ := f.inv_odd hodd
  have hfor2 : ∃ s l,Forest (nn / 2 ^ 1) s ps'.dropLast l := ⟨_,_,by rw [show ps'.dropLast = ps0 by rw [eps]; simp]; exact f2⟩
  have hpp : 0 < ps'.length := by rw [eps]; simp
  clear f f2 eps
  obtain ⟨aa,rfl,hcap⟩ := own_p.someA hpp
  have hp' := HR.of own_p h32'
  refine cN ?_
  refine tK ?_
  refine cS ?_
  refine cB 1 ?_
  refine cS ?_
  refine cP 4 hF ?_
  refine sP 3 [pV b,pV b,.pointer (some ⟨b,1,none⟩)] ?_
  refine sC 4 (.slice (some aa) ps'.length cap) (Calm.load (T := 26) (p := ⟨b,1,none⟩) (by kernel_rfl) (Loads.one (k := 1) (by kernel_rfl) ((hcell_blk hm).trans rfl))) ?_
  refine sP 5 [nV (ps'.length)] ?_
  refine s1 6 (.int .i64 ((ps'.length - 1 : Nat) : Int)) (.int .i64 (IntKind.i64.wrap (((ps'.length : Nat) : Int) - 1))) (congrArg (Value.int .i64) (w64' (by omega) (by omega) (by omega))) ?_
  refine sP 7 [nV (ps'.length - 1)] ?_
  refine sD [(0,pV b),(3,pV h.size),(4,nV nn),(5,nV (ps'.length - 1))] ?_
  clear hF a; intro a hF
  refine tK ?_
  refine cS ?_
  refine cD [0,1,3,7,0,31,63,0,255,511] 5 mixed hF ?_
  refine mP 7 [0,1,2] [pV b,pV b,.pointer (some ⟨b,1,none⟩)] ?_
  refine mL 15 8 3 (.slice (some aa) ps'.length cap) (Calm.load (T := 26) (p := ⟨b,1,none⟩) (by kernel_rfl) (Loads.one (k := 1) (by kernel_rfl) ((hcell_blk hm).trans rfl))) ?_
  refine mP 31 [4] [nV (ps'.length - 1)] ?_
  refine mF 63 5 (.pointer (some (Addr.add aa ((ps'.length - 1) * 32)))) (Calm.indexA (a := aa) (len := ps'.length) (sz := 32) (k := ((ps'.length - 1 : Nat) : Int)) (ps'.length - 1) ((ps'.length - 1) * 32) (by kernel_rfl) rfl (by omega) (by omega)) ?_
  refine mL 127 72 6 (.agg ((ps'.getD (ps'.length - 1) []).map bv).toArray) (Calm.load (T := 31) (p := (Addr.add aa ((ps'.length - 1) * 32))) (by kernel_rfl) (HR.loads (k := (ps'.length - 1)) (q := (ps'.length - 1) * 32) (HR.of own_p h32') (by kernel_rfl) (by omega) (by omega))) ?_
  refine mL 255 200 7 (.agg (x'.map bv).toArray) (Calm.load (T := 31) (p := ⟨h.size,0,none⟩) (by kernel_rfl) (Loads.hash (by kernel_rfl) hx' m3)) ?_
  refine SimK.eff0 (i := 8) (D' := 511) (X' := 511) (by kernel_rfl) (by kernel_rfl) (by kernel_rfl) (by kernel_rfl) (Does.call (f := 38) (args := #[.agg ((ps'.getD (ps'.length - 1) []).map bv).toArray,.agg (x'.map bv).toArray]) (by kernel_rfl) (node_sat _ (ps'.getD (ps'.length - 1) []) x' (hp'.2.1.get (k := (ps'.length - 1)) (by rw [hp'.2.2]; omega)) hx' kt)) ?_
  rintro _ h8 ⟨rfl,g⟩
  replace g0 := g0.ext g
  replace kt := kt.ext g
  replace own_p := own_p.ext g
  replace m3 := Ext.blk g m3
  replace hm := Ext.blk g hm
  replace sep := sep.up g.size
  clear g
  refine SimK.eff0 (i := 9) (D' := 1023) (X' := 1023) (by kernel_rfl) (by kernel_rfl) (by kernel_rfl) (by kernel_rfl) (Does.store (b := h.size) (off := 0) (vs := (nodeH (ps'.getD (ps'.length - 1) []) x').map bv) (l := x'.map bv) (storeOp_of (by kernel_rfl) (hlm (node_len _ _))) m3 (hfit hx' (node_len _ _)) (ones_map _)) ?_
  rintro _ h9 ⟨rfl,hh⟩
  have g10 : Grew (some (h.size)) h8 h9 := hput_gr hh
  replace m3 : h9[h.size]? = some (.cells ((nodeH (ps'.getD (ps'.length - 1) []) x').map bv).toArray 31) := hput_at (off := 0) (vs := (nodeH (ps'.getD (ps'.length - 1) []) x').map bv) (l := (x'.map bv)) hh (hsplice hx' (node_len _ _)) m3
  clear hh
  replace g0 := g0.grew g10 (fun i e => .inr (by cases e; omega))
  replace kt := kt.grew g10 (sep.zero 0 rfl h0s)
  replace own_p := own_p.kept g10 (by rw [blkOf_slice]; exact (sep.ap 1 0))
  replace hm := Grew.blk g10 hm ((sep.bp 2 0))
  replace sep := sep.up g10.size
  refine mD [(0,pV b),(3,pV h.size),(4,nV nn),(5,nV (ps'.length - 1))] ?_
  clear hF a; intro a hF
  refine tK ?_
  refine cP 6 hF ?_
  refine sP 4 [pV b,pV b,pV b,.pointer (some ⟨b,1,none⟩)] ?_
  refine sC 5 (.slice (some aa) ps'.length cap) (Calm.load (T := 26) (p := ⟨b,1,none⟩) (by kernel_rfl) (Loads.one (k := 1) (by kernel_rfl) ((hcell_blk hm).trans rfl))) ?_
  refine sP 6 [nV (ps'.length - 1)] ?_
  refine sC 7 (.slice (some aa) (ps'.length - 1) cap) ((fun h => Calm.sliceO (a := (some aa)) (len := ps'.length) (cap := cap) (sz := 32) (x := (some aa)) 0 (ps'.length - 1) cap (ps'.length - 1) cap (by kernel_rfl) (.inl ⟨rfl,rfl⟩) (.inr rfl) (.inl ⟨rfl,rfl⟩) (by omega) (by omega) (opt_add0 _ 32) (by first | rfl | omega) (by first | rfl | omega) h) _) ?_
  refine sP 9 [pV b,.pointer (some ⟨b,1,none⟩)] ?_
  refine SeqK.eff (k' := 10) (Does.store (b := b) (off := 1) (vs := [.slice (some aa) (ps'.length - 1) cap]) (l := [.int .i64 ((n : Nat) : Int),.slice (some aa) ps'.length cap]) (by kernel_rfl) hm (of_decide_eq_true (by kernel_rfl)) (List.all_eq_true.1 (by kernel_rfl))) rfl ?_
  rintro _ h11 ⟨rfl,hh⟩
  have g12 : Grew (some (b)) h9 h11 := hput_gr hh
  replace hm : h11[b]? = some (.cells ([.int .i64 ((n : Nat) : Int),.slice (some aa) (ps'.length - 1) cap]).toArray 67) := hput_at (off := 1) (vs := [.slice (some aa) (ps'.length - 1) cap]) (l := ([.int .i64 ((n : Nat) : Int),.slice (some aa) ps'.length cap])) hh (by kernel_rfl) hm
  clear hh
  replace g0 := g0.grew g12 (fun i e => .inl (.inl (by cases e; rfl)))
  replace kt := kt.grew g12 (sep.zero 2 rfl h0s)
  replace own_p := own_p.kept g12 (by rw [blkOf_slice]; exact (sep.ap 1 2))
  replace m3 := Grew.blk g12 m3 ((sep.bp 0 2))
  replace sep := sep.up g12.size
  refine sD [(0,pV b),(3,pV h.size),(4,nV nn)] ?_
  clear hF a; intro a hF
  show C Tryd.prog (sub b31 [1,0,1,0,0,1,1]) _ a h11
  refine cP 3 hF ?_
  refine sP 1 [nV nn] ?_
  refine s1 2 (.int .i64 ((nn / 2 ^ 1 : Nat) : Int)) (.int .i64 (Int.fdiv ((nn : Nat) : Int) (2 ^ 1))) (congrArg (Value.int .i64) (fdivN (nn) 1)) ?_
  refine sP 3 [nV (nn / 2 ^ 1)] ?_
  refine sD [(0,pV b),(3,pV h.size),(4,nV (nn / 2 ^ 1))] ?_
  clear hF a; intro a hF
  replace own_p := own_p.take (k := ps'.length - 1) (by omega)
  rw [hcs_dropLast h32'] at own_p
  have hdl : ps'.length - 1 = ps'.dropLast.length := by simp
  rw [hdl] at own_p hm
  show ∃ m',m' < _ ∧ _
  refine ⟨_,?_,(nn / 2 ^ 1),ps'.dropLast,(nodeH (ps'.getD (ps'.length - 1) []) x'),rfl,g0,kt,((addP_odd hodd).symm.trans hadd),hfor2,(by omega),(node_len _ _),h32'.dropLast,(by rw [List.length_dropLast]; omega),hm,own_p,sep,m3,hF⟩
  omega
 ·skip
  replace hc7 := of_decide_eq_false hc7
  refine cX 0 ?_
  show C Tryd.prog (sub b31 [1,1]) _ a h6
  refine cS ?_
  refine cD [0,0,2,6,14,0,32,126,255,511,1023] 7 mixed hF ?_
  refine mP 15 [0,1,2,3] [pV b,pV b,pV b,.pointer (some ⟨b,1,none⟩)] ?_
  refine mL 31 16 4 (.slice ad ps'.length cap) (Calm.load (T := 26) (p := ⟨b,1,none⟩) (by kernel_rfl) (Loads.one (k := 1) (by kernel_rfl) ((hcell_blk hm).trans rfl))) ?_
  refine mL 63 48 5 (.agg (x'.map bv).toArray) (Calm.load (T := 31) (p := ⟨h.size,0,none⟩) (by kernel_rfl) (Loads.hash (by kernel_rfl) hx' m3)) ?_
  refine SimK.eff (i := 6) (D' := 127) (X' := 96) (by kernel_rfl) (by kernel_rfl) (by kernel_rfl) [4] (by kernel_rfl) (Does.newHs (L := [x']) (t := 26) (E := 31) (by_ := 32) (n := 1) (by kernel_rfl) (by kernel_rfl) (All32.cons hx' All32.nil) rfl (by decide) (by decide)) ?_
  rintro _ h13 ⟨rfl,hh⟩
  have g14 : Ext h6 h13 := push_ext hh
  have m15 : h13[h6.size]? = some (.cells (hcs [x']).toArray 31) := push_at hh
  clear hh
  have lt16 := blk_lt m15
  have zs17 := g0.1
  have hlo := kt.lt
  have sepo := sep
  replace g0 := g0.ext g14
  replace kt := kt.ext g14
  replace own_p := own_p.ext g14
  replace m3 := Ext.blk g14 m3
  replace hm := Ext.blk g14 hm
  replace sep := sep.up g14.size
  replace sep := sepo.new hlo (blk_lt m15)
  clear sepo hlo
  refine ⟨?_,?_⟩
  ·intro j hj
   simp only [List.mem_cons,List.not_mem_nil,or_false] at hj
   subst hj
   exact goodOf (Calm.load (T := 26) (p := ⟨b,1,none⟩) (by kernel_rfl) (Loads.one (k := 1) (by kernel_rfl) ((hcell_blk hm).trans rfl)))
  refine SimK.eff0 (i := 7) (D' := 255) (X' := 254) (by kernel_rfl) (by kernel_rfl) (by kernel_rfl) (by kernel_rfl) (Does.append2 (t := 26) (E := 31) (sz := 32) (by_ := 32) (n := ps'.length) (m := 1) (v := .slice ad ps'.length cap) (x := .slice (some ⟨h6.size,0,none⟩) 1 1) (xs := (hcs ps')) (ys := (hcs ([x']))) (by kernel_rfl) (by kernel_rfl) own_p (hrow1 hx' m15) (ones_hcs _) (by unfold maxLen; omega) (by omega)) ?_
  rintro _ h20 ⟨ad18,cap19,rfl,ownx,g,hb⟩
  rw [blkOf_slice] at g hb
  have hlo := kt.lt
  have sepo := sep
  have hop_n := grown hop_p hb g0.1
  replace g0 := g0.grew g (alw hop_p)
  replace kt := kt.grew g (sep.zero 2 rfl h0s)
  replace m3 := Grew.blk g m3 ((sep.bp 1 2))
  replace hm := Grew.blk g hm ((sep.bp 3 2))
  replace m15 := Grew.blk g m15 ((sep.bp 0 2))
  replace sep := sep.up g.size
  replace sep : Sep 1 h20.size [some (h6.size),some (h.size),ad18.map (·.block),some b] := sepo.set g.size hlo 2 (y := ad18.map (fun (x : Addr) => x.block)) rfl (hb.imp id fun e => .inr ⟨_,e,Nat.le_refl _⟩) (fun k e => ownx.lt (by rw [blkOf_slice]; exact e))
  replace own_p : Own h20 (.slice ad18 ((ps' ++ [x']).length) cap19) 31 ((ps' ++ [x']).length) 32 (hcs (ps' ++ [x'])) := Own.appG ownx (by first | rfl | exact (hcs_append _ _).symm | simp [hcs_append]) (by first | rfl | (simp; done) | (simp; omega))
  replace hop_p := hop_n; clear hop_n
  clear ownx g hb hlo sepo
  clear m15
  replace sep := sep.sub (l' := [some (h.size),ad18.map (·.block),some b]) (.cons _ (.cons_cons _ (.cons_cons _ (.cons_cons _ (.slnil)))))
  refine mP 1023 [8,9] [pV b,.pointer (some ⟨b,1,none⟩)] ?_
  refine SimK.eff0 (i := 10) (D' := 2047) (X' := 2047) (by kernel_rfl) (by kernel_rfl) (by kernel_rfl) (by kernel_rfl) (Does.store (b := b) (off := 1) (vs := [.slice ad18 (ps'.length + 1) cap19]) (l := [.int .i64 ((n : Nat) : Int),.slice ad ps'.length cap]) (by kernel_rfl) hm (of_decide_eq_true (by kernel_rfl)) (List.all_eq_true.1 (by kernel_rfl))) ?_
  rintro _ h21 ⟨rfl,hh⟩
  have g22 : Grew (some (b)) h20 h21 := hput_gr hh
  replace hm : h21[b]? = some (.cells ([.int .i64 ((n : Nat) : Int),.slice ad18 (ps'.length + 1) cap19]).toArray 67) := hput_at (off := 1) (vs := [.slice ad18 (ps'.length + 1) cap19]) (l := ([.int .i64 ((n : Nat) : Int),.slice ad ps'.length cap])) hh (by kernel_rfl) hm
  clear hh
  replace g0 := g0.grew g22 (fun i e => .inl (.inl (by cases e; rfl)))
  replace kt := kt.grew g22 (sep.zero 2 rfl h0s)
  replace own_p := own_p.kept g22 (by rw [blkOf_slice]; exact (sep.ap 1 2))
  replace m3 := Grew.blk g22 m3 ((sep.bp 0 2))
  replace sep := sep.up g22.size
  refine mD [(0,pV b)] ?_
  clear hF a; intro a hF
  refine tK ?_
  refine cP 8 hF ?_
  refine sP 3 [pV b,pV b,pV b] ?_
  refine sC 4 (.int .i64 ((n : Nat) : Int)) (Calm.load (T := 3) (p := ⟨b,0,none⟩) (by kernel_rfl) (Loads.one (k := 1) (by kernel_rfl) ((hcell_blk hm).trans rfl))) ?_
  refine s1 5 (.int .i64 ((n + 1 : Nat) : Int)) (.int .i64 (IntKind.i64.wrap (((n : Nat) : Int) + 1))) (congrArg (Value.int .i64) (w64' (by omega) (by omega) (by omega))) ?_
  refine sP 7 [pV b,pV b] ?_
  refine SeqK.eff (k' := 8) (Does.store (b := b) (off := 0) (vs := [.int .i64 ((n + 1 : Nat) : Int)]) (l := [.int .i64 ((n : Nat) : Int),.slice ad18 (ps'.length + 1) cap19]) (by kernel_rfl) hm (of_decide_eq_true (by kernel_rfl)) (List.all_eq_true.1 (by kernel_rfl))) rfl ?_
  rintro _ h23 ⟨rfl,hh⟩
  have g24 : Grew (some (b)) h21 h23 := hput_gr hh
  replace hm : h23[b]? = some (.cells ([.int .i64 ((n + 1 : Nat) : Int),.slice ad18 (ps'.length + 1) cap19]).toArray 67) := hput_at (off := 0) (vs := [.int .i64 ((n + 1 : Nat) : Int)]) (l := ([.int .i64 ((n : Nat) : Int),.slice ad18 (ps'.length + 1) cap19])) hh (by kernel_rfl) hm
  clear hh
  replace g0 := g0.grew g24 (fun i e => .inl (.inl (by cases e; rfl)))
  replace kt := kt.grew g24 (sep.zero 2 rfl h0s)
  replace own_p := own_p.kept g24 (by rw [blkOf_slice]; exact (sep.ap 1 2))
  replace m3 := Grew.blk g24 m3 ((sep.bp 0 2))
  replace sep := sep.up g24.size
  refine sD [] ?_
  clear hF a; intro a hF
  show retK Tryd.prog Tryd.f31 (fun _ h' => ∃ o',GrowA h' b o' (n + 1) (addP n ps x) ∧ (o' = o ∨ ∃ g,o' = some g ∧ h.size ≤ g) ∧ Gr (fun k => k = b ∨ some k = o) h h') .normal a h23
  refine ret_okN [] [] (.tuple #[]) rfl hF trivial rfl ?_
  have hfin : ps' ++ [x'] = addP n ps x := (addP_even (by omega)).symm.trans hadd
  have hcl : ps'.length + 1 = (ps' ++ [x']).length := by simp
  rw [hcl] at hm
  rw [hfin] at hm own_p
  exact ⟨ad18.map (·.block),⟨ad18,cap19,rfl,Ne.symm (sep.bp 2 1),hm,own_p,hfin ▸ h32'.append (All32.one hx')⟩,hop_p,g0⟩
end Go.Proofs.YtkjlafiefgbjpaaDoor
