/- Walks of trees of hashes: what each function computes, as a law of its calls. No condition but those that each theorem names. -/
import Derived.Test.YtkjlafiefgbjpaaDoorTreeA
namespace Go.Proofs.YtkjlafiefgbjpaaDoor
open Go Go.Lane Go.Sha
noncomputable def b30 : Code := Tryd.f30.body.getD .skip
theorem newgrow_sat (h : Heap) : Sat Tryd.prog 30 #[] h fun v h' => ∃ b,v = .pointer (some ⟨b,0,none⟩) ∧ GrowA h' b none 0 [] ∧ h.size ≤ b ∧ Ext h h' := by
 have e0 := Ext.refl h
 have sep : Sep h.size h.size [] := Sep.nil _ _
 refine sat_of (args := []) (fn := Tryd.f30) (B := b30) (n := 3) (L := []) Tryd.func30 rfl (by kernel_rfl) rfl ?_
 intro a hF
 refine cS ?_
 refine cP 0 hF ?_
 refine sP 1 [.pointer none] ?_
 refine sD [] ?_
 clear hF a; intro a hF
 refine tK ?_
 refine cS ?_
 refine cP 1 hF ?_
 refine sP 1 [.agg #[.int .i64 0,.slice none 0 0]] ?_
 refine SeqK.eff (k' := 2) (Does.new (v := .pointer (some ⟨h.size,0,none⟩)) (o := .cells #[.int .i64 0,.slice none 0 0] 67) (by kernel_rfl)) rfl ?_
 rintro _ h1 ⟨rfl,hh⟩
 have g2 : Ext h h1 := push_ext hh
 have m3 : h1[h.size]? = some (.cells #[.int .i64 0,.slice none 0 0] 67) := push_at hh
 clear hh
 have lt4 := blk_lt m3
 have zs5 := e0.size
 have hlo := e0.size
 have sepo := sep
 replace e0 := e0.ext g2
 replace sep := sep.up g2.size
 replace sep := sepo.new hlo (blk_lt m3)
 clear sepo hlo
 refine sP 3 [pV h.size] ?_
 refine sD [(0,pV h.size)] ?_
 clear hF a; intro a hF
 refine tK ?_
 refine cR ?_
 show retK Tryd.prog Tryd.f30 (fun v h' => ∃ b,v = .pointer (some ⟨b,0,none⟩) ∧ GrowA h' b none 0 [] ∧ h.size ≤ b ∧ Ext h h') .ret a h1
 refine ret_ok [.tmp 0] [.pointer (some ⟨h.size,0,none⟩)] (.pointer (some ⟨h.size,0,none⟩)) rfl hF ⟨rfl,trivial⟩ rfl ?_
 exact ⟨_,rfl,⟨none,0,rfl,by simp,m3,Own.nil _ _ _,All32.nil⟩,by omega,e0⟩
noncomputable def b32 : Code := Tryd.f32.body.getD .skip
theorem growroot_sat (h : Heap) (b : Nat) (o : Option Nat) (n : Nat) (ps : List Hs) (g : GrowA h b o n ps) (hz0 : n = 0 → ps = []) (hz1 : 0 < n → 0 < ps.length) (kt : Ktab h) (hn : n ≤ 1099511627776) (hpl0 : ps.length ≤ 1099511627776) : Sat Tryd.prog 32 #[.pointer (some ⟨b,0,none⟩)] h fun v h' => v = hv (growR ps) ∧ Ext h h' := by
 obtain ⟨ad,cap,ho,hob,hm,own_p,h32⟩ := g
 have hb : b < h.size := blk_lt hm
 have hpo : ∀ k,ad.map (·.block) = some k → k < h.size := fun k e => own_p.lt (by rw [blkOf_slice]; exact e)
 have hpl : ps.length ≤ 1099511627776 := hpl0
 have e0 := Ext.refl h
 have h0s := kt.lt
 have sep : Sep h.size h.size [] := Sep.nil _ _
 refine sat_of (args := [.pointer (some ⟨b,0,none⟩)]) (fn := Tryd.f32) (B := b32) (n := 43) (L := [(0,.pointer (some ⟨b,0,none⟩))]) Tryd.func32 rfl (by kernel_rfl) rfl ?_
 intro a hF
 refine cS ?_
 refine cP 0 hF ?_
 refine SeqK.eff (k' := 1) (Does.new (v := .pointer (some ⟨h.size,0,none⟩)) (o := .cells (z32.map bv).toArray 31) (by kernel_rfl)) rfl ?_
 rintro _ h1 ⟨rfl,hh⟩
 have g2 : Ext h h1 := push_ext hh
 have m3 : h1[h.size]? = some (.cells (z32.map bv).toArray 31) := push_at hh
 clear hh
 have lt4 := blk_lt m3
 have zs5 := e0.size
 have hlo := e0.size
 have sepo := sep
 replace e0 := e0.ext g2
 replace kt := kt.ext g2
 replace own_p := own_p.ext g2
 replace hm := Ext.blk g2 hm
 replace sep := sep.up g2.size
 replace sep := sepo.new hlo (blk_lt m3)
 clear sepo hlo
 refine sD [(0,pV b),(2,pV h.size)] ?_
 clear hF a; intro a hF
 refine tK ?_
 refine cS ?_
 refine cS ?_
 refine cP 1 hF ?_
 refine sP 3 [pV b,pV b,pV b] ?_
 refine sC 4 (.int .i64 ((n : Nat) : Int)) (Calm.load (T := 3) (p := ⟨b,0,none⟩) (by kernel_rfl) (Loads.one (k := 1) (by kernel_rfl) ((hcell_blk hm).trans rfl))) ?_
 refine sP 5 [.bool (decide (((n : Nat) : Int) = (0 : Int)))] ?_
 refine sD [(0,pV b),(2,pV h.size),(9,.bool (decide (((n : Nat) : Int) = (0 : Int))))] ?_
 clear hF a; intro a hF
 refine tK ?_
 refine cC 9 (decide (((n : Nat) : Int) = (0 : Int))) hF (fun hc6 => ?_) (fun hc6 => ?_)
 ·skip
  replace hc6 := of_decide_eq_true hc6
  have hps := hz0 (by omega)
  refine cS ?_
  refine cP 2 hF ?_
  refine SeqK.eff (k' := 1) (Does.call (f := 45) (args := #[.slice none 0 0]) (by kernel_rfl) (sha_sat _ [] none 0 (Row.bnil _) (.inl rfl) kt (by decide))) rfl ?_
  rintro _ h7 ⟨rfl,g⟩
  replace e0 := e0.ext g
  replace kt := kt.ext g
  replace own_p := own_p.ext g
  replace hm := Ext.blk g hm
  replace m3 := Ext.blk g m3
  replace sep := sep.up g.size
  clear g
  refine SeqK.eff (k' := 2) (Does.store (b := h.size) (off := 0) (vs := (sha []).map bv) (l := z32.map bv) (storeOp_of (by kernel_rfl) (hlm rfl)) m3 (hfit rfl rfl) (ones_map _)) rfl ?_
  rintro _ h8 ⟨rfl,hh⟩
  have g9 : Grew (some (h.size)) h7 h8 := hput_gr hh
  replace m3 : h8[h.size]? = some (.cells ((sha []).map bv).toArray 31) := hput_at (off := 0) (vs := (sha []).map bv) (l := (z32.map bv)) hh (hsplice rfl rfl) m3
  clear hh
  replace e0 := e0.grew g9 (sep.low 0 rfl)
  replace kt := kt.grew g9 (sep.zero 0 rfl h0s)
  replace own_p := own_p.kept g9 (by rw [blkOf_slice]; right; intro e; have := hpo _ e; omega)
  replace hm := Grew.blk g9 hm (by simp; omega)
  replace sep := sep.up g9.size
  refine sD [(2,pV h.size)] ?_
  clear hF a; intro a hF
  refine tK ?_
  refine cR ?_
  show retK Tryd.prog Tryd.f32 (fun v h' => v = hv (growR ps) ∧ Ext h h') .ret a h8
  refine ret_ok [.cell 2 31] [.agg ((sha []).map bv).toArray] (.agg ((sha []).map bv).toArray) rfl hF ⟨⟨_,rfl,Loads.hash (by kernel_rfl) rfl m3⟩,trivial⟩ rfl ?_
  exact ⟨(by subst hps; rfl),e0⟩
 ·skip
  replace hc6 := of_decide_eq_false hc6
  have hps := hz1 (by omega)
  obtain ⟨aa,rfl,hcap⟩ := own_p.someA hps
  have hp := HR.of own_p h32
  refine cN ?_
  refine tK ?_
  refine cS ?_
  refine cD [0,1,3,7,0,16,48,112,240,496,1023,2047,0,8191] 3 mixed hF ?_
  refine mP 7 [0,1,2] [pV b,pV b,.pointer (some ⟨b,1,none⟩)] ?_
  refine mL 15 8 3 (.slice (some aa) ps.length cap) (Calm.load (T := 26) (p := ⟨b,1,none⟩) (by kernel_rfl) (Loads.one (k := 1) (by kernel_rfl) ((hcell_blk hm).trans rfl))) ?_
  refine mP 127 [4,5,6] [pV b,pV b,.pointer (some ⟨b,1,none⟩)] ?_
  refine mL 255 136 7 (.slice (some aa) ps.length cap) (Calm.load (T := 26) (p := ⟨b,1,none⟩) (by kernel_rfl) (Loads.one (k := 1) (by kernel_rfl) ((hcell_blk hm).trans rfl))) ?_
  refine mP 511 [8] [nV ps.length] ?_
  refine m1 1023 9 (.int .i64 ((ps.length - 1 : Nat) : Int)) (.int .i64 (IntKind.i64.wrap (((ps.length : Nat) : Int) - 1))) (congrArg (Value.int .i64) (w64' (by omega) (by omega) (by omega))) ?_
  refine mF 2047 10 (.pointer (some (Addr.add aa ((ps.length - 1) * 32)))) (Calm.indexA (a := aa) (len := ps.length) (sz := 32) (k := ((ps.length - 1 : Nat) : Int)) (ps.length - 1) ((ps.length - 1) * 32) (by kernel_rfl) rfl (by omega) (by omega)) ?_
  refine mL 4095 2184 11 (.agg ((ps.getD (ps.length - 1) []).map bv).toArray) (Calm.load (T := 31) (p := (Addr.add aa ((ps.length - 1) * 32))) (by kernel_rfl) (HR.loads (k := (ps.length - 1)) (q := (ps.length - 1) * 32) (HR.of own_p h32) (by kernel_rfl) (by omega) (by omega))) ?_
  refine SimK.eff (i := 12) (D' := 8191) (X' := 4096) (by kernel_rfl) (by kernel_rfl) (by kernel_rfl) [3,7,11] (by kernel_rfl) (Does.new (v := .pointer (some ⟨h1.size,0,none⟩)) (o := .cells (z32.map bv).toArray 31) (by kernel_rfl)) ?_
  rintro _ h10 ⟨rfl,hh⟩
  have g11 : Ext h1 h10 := push_ext hh
  have m12 : h10[h1.size]? = some (.cells (z32.map bv).toArray 31) := push_at hh
  clear hh
  have lt13 := blk_lt m12
  have zs14 := e0.size
  have hlo := e0.size
  have sepo := sep
  replace e0 := e0.ext g11
  replace kt := kt.ext g11
  replace own_p := own_p.ext g11
  replace hm := Ext.blk g11 hm
  replace m3 := Ext.blk g11 m3
  replace sep := sep.up g11.size
  replace sep := sepo.new hlo (blk_lt m12)
  clear sepo hlo
  refine ⟨?_,?_⟩
  ·intro j hj
   simp only [List.mem_cons,List.not_mem_nil,or_false] at hj
   rcases hj with rfl | rfl | rfl
   ·exact goodOf (Calm.load (T := 26) (p := ⟨b,1,none⟩) (by kernel_rfl) (Loads.one (k := 1) (by kernel_rfl) ((hcell_blk hm).trans rfl)))
   ·exact goodOf (Calm.load (T := 26) (p := ⟨b,1,none⟩) (by kernel_rfl) (Loads.one (k := 1) (by kernel_rfl) ((hcell_blk hm).trans rfl)))
   ·exact goodOf (Calm.load (T := 31) (p := (Addr.add aa ((ps.length - 1) * 32))) (by kernel_rfl) (HR.loads (k := (ps.length - 1)) (q := (ps.length - 1) * 32) (HR.of own_p h32) (by kernel_rfl) (by omega) (by omega)))
  refine SimK.eff0 (i := 13) (D' := 16383) (X' := 16383) (by kernel_rfl) (by kernel_rfl) (by kernel_rfl) (by kernel_rfl) (Does.store (b := h1.size) (off := 0) (vs := (ps.getD (ps.length - 1) []).map bv) (l := z32.map bv) (storeOp_of (by kernel_rfl) (hlm (hp.2.1.get (k := (ps.length - 1)) (by rw [hp.2.2]; omega)))) m12 (hfit rfl (hp.2.1.get (k := (ps.length - 1)) (by rw [hp.2.2]; omega))) (ones_map _)) ?_
  rintro _ h15 ⟨rfl,hh⟩
  have g16 : Grew (some (h1.size)) h10 h15 := hput_gr hh
  replace m12 : h15[h1.size]? = some (.cells ((ps.getD (ps.length - 1) []).map bv).toArray 31) := hput_at (off := 0) (vs := (ps.getD (ps.length - 1) []).map bv) (l := (z32.map bv)) hh (hsplice rfl (hp.2.1.get (k := (ps.length - 1)) (by rw [hp.2.2]; omega))) m12
  clear hh
  replace e0 := e0.grew g16 (sep.low 0 rfl)
  replace kt := kt.grew g16 (sep.zero 0 rfl h0s)
  replace own_p := own_p.kept g16 (by rw [blkOf_slice]; right; intro e; have := hpo _ e; omega)
  replace hm := Grew.blk g16 hm (by simp; omega)
  replace m3 := Grew.blk g16 m3 ((sep.bp 1 0))
  replace sep := sep.up g16.size
  refine mD [(0,pV b),(2,pV h.size),(3,pV h1.size)] ?_
  clear hF a; intro a hF
  refine tK ?_
  refine cS ?_
  refine cS ?_
  refine cP 4 hF ?_
  refine sP 3 [pV b,pV b,.pointer (some ⟨b,1,none⟩)] ?_
  refine sC 4 (.slice (some aa) ps.length cap) (Calm.load (T := 26) (p := ⟨b,1,none⟩) (by kernel_rfl) (Loads.one (k := 1) (by kernel_rfl) ((hcell_blk hm).trans rfl))) ?_
  refine sP 5 [nV ps.length] ?_
  refine s1 6 (.int .i64 (((ps.length : Nat) : Int) - 2)) (.int .i64 (IntKind.i64.wrap (((ps.length : Nat) : Int) - 2))) (congrArg (Value.int .i64) (w64 (by omega) (by omega))) ?_
  refine sP 7 [.int .i64 (((ps.length : Nat) : Int) - 2)] ?_
  refine sD [(0,pV b),(2,pV h.size),(3,pV h1.size),(4,.int .i64 (((ps.length : Nat) : Int) - 2))] ?_
  clear hF a; intro a hF
  refine tK ?_
  refine cB 0 ?_
  have hstart : ((ps.length : Nat) : Int) - 2 = ((ps.length - 1 : Nat) : Int) - 1 := by omega
  rw [hstart] at hF
  have hbeg : ps.getD (ps.length - 1) [] = foldP (ps.dropLast.drop (ps.length - 1)) (ps.getD (ps.length - 1) []) := by rw [List.drop_of_length_le (by rw [List.length_dropLast]; omega)]; rfl
  rw [hbeg] at m12
  refine C.loop (fun m a h' => ∃ j : Nat,m = j + 1 ∧ (Ext h h') ∧ (Ktab h') ∧ (h'[b]? = some (.cells #[.int .i64 ((n : Nat) : Int),.slice (some aa) ps.length cap] 67)) ∧ (h'[h.size]? = some (.cells (z32.map bv).toArray 31)) ∧ (j ≤ ps.length - 1) ∧ (Own h' (.slice (some aa) ps.length cap) 31 ps.length 32 (hcs ps)) ∧ (Sep h.size h'.size [some (h1.size),some (h.size)]) ∧ (h'[h1.size]? = some (.cells ((foldP (ps.dropLast.drop j) (ps.getD (ps.length - 1) [])).map bv).toArray 31)) ∧ (Fr a 43 [(0,.pointer (some ⟨b,0,none⟩)),(2,.pointer (some ⟨h.size,0,none⟩)),(3,.pointer (some ⟨h1.size,0,none⟩)),(4,.int .i64 (((j : Nat) : Int) - 1))])) (ps.length - 1 + 1) [1,1,1,0,1,0,0] (by kernel_rfl) ⟨(ps.length - 1),rfl,e0,kt,hm,m3,(Nat.le_refl _),own_p,sep,m12,hF⟩ ?_
  clear hF a
  clear e0
  clear kt
  clear hm
  clear m3
  clear own_p
  clear sep
  clear m12
  rintro m a h17 ⟨j,rfl,e0,kt,hm,m3,hj,own_p,sep,m12,hF⟩
  refine cS ?_
  refine cS ?_
  refine cP 5 hF ?_
  refine sP 2 [.int .i64 (((j : Nat) : Int) - 1),.bool (decide ((0 : Int) ≤ (((j : Nat) : Int) - 1)))] ?_
  refine sD [(0,pV b),(2,pV h.size),(3,pV h1.size),(4,.int .i64 (((j : Nat) : Int) - 1)),(30,.bool (decide ((0 : Int) ≤ (((j : Nat) : Int) - 1))))] ?_
  clear hF a; intro a hF
  refine tK ?_
  refine cC 30 (decide ((0 : Int) ≤ (((j : Nat) : Int) - 1))) hF (fun hc18 => ?_) (fun hc18 => ?_)
  ·skip
   replace hc18 := of_decide_eq_true hc18
   obtain ⟨j',rfl⟩ : ∃ x,j = x + 1 := ⟨j - 1,by omega⟩
   have hj2 : (((j' + 1 : Nat) : Int) - 1) = ((j' : Nat) : Int) := by omega
   rw [hj2] at hF
   refine cN ?_
   refine tK ?_
   refine cS ?_
   refine cB 1 ?_
   refine cD [0,1,3,7,0,31,63,0,255,511] 7 mixed hF ?_
   refine mP 7 [0,1,2] [pV b,pV b,.pointer (some ⟨b,1,none⟩)] ?_
   refine mL 15 8 3 (.slice (some aa) ps.length cap) (Calm.load (T := 26) (p := ⟨b,1,none⟩) (by kernel_rfl) (Loads.one (k := 1) (by kernel_rfl) ((hcell_blk hm).trans rfl))) ?_
   refine mP 31 [4] [nV (j')] ?_
   refine mF 63 5 (.pointer (some (Addr.add aa (j' * 32)))) (Calm.indexA (a := aa) (len := ps.length) (sz := 32) (k := ((j' : Nat) : Int)) j' (j' * 32) (by kernel_rfl) rfl (by omega) (by omega)) ?_
   refine mL 127 72 6 (.agg ((ps.getD j' []).map bv).toArray) (Calm.load (T := 31) (p := (Addr.add aa (j' * 32))) (by kernel_rfl) (HR.loads (k := j') (q := j' * 32) (HR.of own_p h32) (by kernel_rfl) (by omega) (by omega))) ?_
   refine mL 255 200 7 (.agg ((foldP (ps.dropLast.drop (j' + 1)) (ps.getD (ps.length - 1) [])).map bv).toArray) (Calm.load (T := 31) (p := ⟨h1.size,0,none⟩) (by kernel_rfl) (Loads.hash (by kernel_rfl) (foldP_len (h32.get (by omega))) m12)) ?_
   refine SimK.eff0 (i := 8) (D' := 511) (X' := 511) (by kernel_rfl) (by kernel_rfl) (by kernel_rfl) (by kernel_rfl) (Does.call (f := 38) (args := #[.agg ((ps.getD j' []).map bv).toArray,.agg ((foldP (ps.dropLast.drop (j' + 1)) (ps.getD (ps.length - 1) [])).map bv).toArray]) (by kernel_rfl) (node_sat _ (ps.getD j' []) (foldP (ps.dropLast.drop (j' + 1)) (ps.getD (ps.length - 1) [])) (hp.2.1.get (k := j') (by rw [hp.2.2]; omega)) (foldP_len (h32.get (by omega))) kt)) ?_
   rintro _ h19 ⟨rfl,g⟩
   replace e0 := e0.ext g
   replace kt := kt.ext g
   replace own_p := own_p.ext g
   replace hm := Ext.blk g hm
   replace m3 := Ext.blk g m3
   replace m12 := Ext.blk g m12
   replace sep := sep.up g.size
   clear g
   refine SimK.eff0 (i := 9) (D' := 1023) (X' := 1023) (by kernel_rfl) (by kernel_rfl) (by kernel_rfl) (by kernel_rfl) (Does.store (b := h1.size) (off := 0) (vs := (nodeH (ps.getD j' []) (foldP (ps.dropLast.drop (j' + 1)) (ps.getD (ps.length - 1) []))).map bv) (l := (foldP (ps.dropLast.drop (j' + 1)) (ps.getD (ps.length - 1) [])).map bv) (storeOp_of (by kernel_rfl) (hlm (node_len _ _))) m12 (hfit (foldP_len (h32.get (by omega))) (node_len _ _)) (ones_map _)) ?_
   rintro _ h20 ⟨rfl,hh⟩
   have g21 : Grew (some (h1.size)) h19 h20 := hput_gr hh
   replace m12 : h20[h1.size]? = some (.cells ((nodeH (ps.getD j' []) (foldP (ps.dropLast.drop (j' + 1)) (ps.getD (ps.length - 1) []))).map bv).toArray 31) := hput_at (off := 0) (vs := (nodeH (ps.getD j' []) (foldP (ps.dropLast.drop (j' + 1)) (ps.getD (ps.length - 1) []))).map bv) (l := ((foldP (ps.dropLast.drop (j' + 1)) (ps.getD (ps.length - 1) [])).map bv)) hh (hsplice (foldP_len (h32.get (by omega))) (node_len _ _)) m12
   clear hh
   replace e0 := e0.grew g21 (sep.low 0 rfl)
   replace kt := kt.grew g21 (sep.zero 0 rfl h0s)
   replace own_p := own_p.kept g21 (by rw [blkOf_slice]; right; intro e; have := hpo _ e; omega)
   replace hm := Grew.blk g21 hm (by simp; omega)
   replace m3 := Grew.blk g21 m3 ((sep.bp 1 0))
   replace sep := sep.up g21.size
   refine mD [(0,pV b),(2,pV h.size),(3,pV h1.size),(4,nV (j'))] ?_
   clear hF a; intro a hF
   show C Tryd.prog (sub b32 [1,1,1,0,1,0,0,1,1]) _ a h20
   refine cP 6 hF ?_
   refine sP 1 [nV (j')] ?_
   refine s1 2 (.int .i64 (((j' : Nat) : Int) - 1)) (.int .i64 (IntKind.i64.wrap (((j' : Nat) : Int) - 1))) (congrArg (Value.int .i64) (w64 (by omega) (by omega))) ?_
   refine sP 3 [.int .i64 (((j' : Nat) : Int) - 1)] ?_
   refine sD [(0,pV b),(2,pV h.size),(3,pV h1.size),(4,.int .i64 (((j' : Nat) : Int) - 1))] ?_
   clear hF a; intro a hF
   rw [foldP_step (by omega)] at m12
   show ∃ m',m' < _ ∧ _
   refine ⟨_,?_,j',rfl,e0,kt,hm,m3,(by omega),own_p,sep,m12,hF⟩
   omega
  ·skip
   replace hc18 := of_decide_eq_false hc18
   obtain rfl : j = 0 := by omega
   rw [growR_eq hps] at m12
   have hgl : (growR ps).length = 32 := by rw [← growR_eq hps]; exact foldP_len (h32.get (by omega))
   refine cX 0 ?_
   show C Tryd.prog (sub b32 [1,1,1,1]) _ a h17
   refine cS ?_
   refine cP 8 hF ?_
   refine sC 1 (.agg ((growR ps).map bv).toArray) (Calm.load (T := 31) (p := ⟨h1.size,0,none⟩) (by kernel_rfl) (Loads.hash (by kernel_rfl) hgl m12)) ?_
   refine SeqK.eff (k' := 2) (Does.store (b := h.size) (off := 0) (vs := (growR ps).map bv) (l := z32.map bv) (storeOp_of (by kernel_rfl) (hlm hgl)) m3 (hfit rfl hgl) (ones_map _)) rfl ?_
   rintro _ h22 ⟨rfl,hh⟩
   have g23 : Grew (some (h.size)) h17 h22 := hput_gr hh
   replace m3 : h22[h.size]? = some (.cells ((growR ps).map bv).toArray 31) := hput_at (off := 0) (vs := (growR ps).map bv) (l := (z32.map bv)) hh (hsplice rfl hgl) m3
   clear hh
   replace e0 := e0.grew g23 (sep.low 1 rfl)
   replace kt := kt.grew g23 (sep.zero 1 rfl h0s)
   replace own_p := own_p.kept g23 (by rw [blkOf_slice]; right; intro e; have := hpo _ e; omega)
   replace hm := Grew.blk g23 hm (by simp; omega)
   replace m12 := Grew.blk g23 m12 ((sep.bp 0 1))
   replace sep := sep.up g23.size
   refine sD [(2,pV h.size)] ?_
   clear hF a; intro a hF
   refine tK ?_
   refine cR ?_
   show retK Tryd.prog Tryd.f32 (fun v h' => v = hv (growR ps) ∧ Ext h h') .ret a h22
   refine ret_ok [.cell 2 31] [.agg ((growR ps).map bv).toArray] (.agg ((growR ps).map bv).toArray) rfl hF ⟨⟨_,rfl,Loads.hash (by kernel_rfl) hgl m3⟩,trivial⟩ rfl ?_
   exact ⟨rfl,e0⟩
end Go.Proofs.YtkjlafiefgbjpaaDoor
