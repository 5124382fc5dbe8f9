/- Walks of package sha: what each function computes, as a law of its calls. No condition but those that each theorem names. -/
import Derived.Test.YtkjlafiefgbjpaaDoorShaB
namespace Go.Proofs.YtkjlafiefgbjpaaDoor
open Go Go.Lane Go.Sha
noncomputable def b40 : Code := Tryd.f40.body.getD .skip
theorem write_sat (h : Heap) (b : Nat) (o : Option Nat) (st : S8) (r bs : List UInt8) (n : Nat) (va : Option Addr) (vc : Nat) (hs : StA h b o st r n) (hr : Row h (.slice va bs.length vc) bs.length 1 (bs.map bv)) (hvb : bs = [] ∨ blkOf (.slice va bs.length vc) ≠ some b) (hb0 : 0 < b) (ho0 : o ≠ some 0) (kt : Ktab h) (h1 : r.length + bs.length ≤ 1099511627776) (h2 : n + bs.length ≤ 1099511627776) : Sat Tryd.prog 40 #[.pointer (some ⟨b,0,none⟩),.slice va bs.length vc] h fun _ h' => ∃ o',StA h' b o' (run st (r ++ bs)) (rem (r ++ bs)) (n + bs.length) ∧ (o' = o ∨ ∃ g,o' = some g ∧ h.size ≤ g) ∧ Gr (fun k => k = b ∨ some k = o) h h' := by
 obtain ⟨ad,cap,ho,hob,hm,own⟩ := hs
 have hb : h[b]? = _ := hm
 have g0 := Gr.refl (fun k => k = b ∨ some k = o) h
 have hobo := hob
 rw [ho] at hob
 refine sat_of (args := [.pointer (some ⟨b,0,none⟩),.slice va bs.length vc]) (fn := Tryd.f40) (B := b40) (n := 50) (L := [(0,.pointer (some ⟨b,0,none⟩)),(1,.slice va bs.length vc)]) Tryd.func40 rfl (by kernel_rfl) rfl ?_
 intro a hF
 refine cS ?_
 refine cP 0 hF ?_
 refine sP 3 [pV b,pV b,.pointer (some ⟨b,9,none⟩)] ?_
 refine sC 4 (.int .u64 ((n : Nat) : Int)) (Calm.load (T := 60) (p := ⟨b,9,none⟩) (by kernel_rfl) (Loads.one (k := 1) (by kernel_rfl) ((hcell_blk hm).trans rfl))) ?_
 refine sP 6 [.slice va bs.length vc,nV bs.length] ?_
 refine s1 7 (.int .u64 ((bs.length : Nat) : Int)) (.int .u64 (IntKind.u64.wrap ((bs.length : Nat) : Int))) (congrArg (Value.int .u64) (u64n (by omega))) ?_
 refine s1 8 (.int .u64 ((n + bs.length : Nat) : Int)) (.int .u64 (IntKind.u64.wrap (((n : Nat) : Int) + ((bs.length : Nat) : Int)))) (congrArg (Value.int .u64) (u64e (by omega) (by omega))) ?_
 refine sP 10 [pV b,.pointer (some ⟨b,9,none⟩)] ?_
 refine SeqK.eff (k' := 11) (Does.store (b := b) (off := 9) (vs := [.int .u64 ((n + bs.length : Nat) : Int)]) (l := [wv st.a,wv st.b,wv st.c,wv st.d,wv st.e,wv st.f,wv st.g,wv st.h,.slice ad r.length cap,.int .u64 ((n : Nat) : Int)]) (by kernel_rfl) hm (of_decide_eq_true (by kernel_rfl)) (List.all_eq_true.1 (by kernel_rfl))) rfl ?_
 rintro _ h1 ⟨rfl,hh⟩
 have g2 : Grew (some (b)) h h1 := hput_gr hh
 replace hm : h1[b]? = some (.cells ([wv st.a,wv st.b,wv st.c,wv st.d,wv st.e,wv st.f,wv st.g,wv st.h,.slice ad r.length cap,.int .u64 ((n + bs.length : Nat) : Int)]).toArray 72) := hput_at (off := 9) (vs := [.int .u64 ((n + bs.length : Nat) : Int)]) (l := ([wv st.a,wv st.b,wv st.c,wv st.d,wv st.e,wv st.f,wv st.g,wv st.h,.slice ad r.length cap,.int .u64 ((n : Nat) : Int)])) hh (by kernel_rfl) hm
 clear hh
 replace g0 := g0.grew g2 (by rintro _ ⟨⟩; exact .inl (.inl rfl))
 replace kt := kt.grew g2 (by simp; omega)
 replace own := own.kept g2 (by rw [blkOf_slice]; right; exact hob)
 replace hr := hr.kept' g2 (hvb.imp (fun e => by rw [e]; rfl) .inr)
 refine sD [(0,pV b),(1,.slice va bs.length vc)] ?_
 clear hF a; intro a hF
 refine tK ?_
 refine cS ?_
 refine cP 1 hF ?_
 refine sP 4 [pV b,pV b,pV b,.pointer (some ⟨b,8,none⟩)] ?_
 refine sC 5 (.slice ad r.length cap) (Calm.load (T := 22) (p := ⟨b,8,none⟩) (by kernel_rfl) (Loads.one (k := 1) (by kernel_rfl) ((hcell_blk hm).trans rfl))) ?_
 refine sP 6 [.slice va bs.length vc] ?_
 refine SeqK.eff (k' := 7) (Does.append2 (t := 22) (E := 5) (sz := 1) (by_ := 1) (n := r.length) (m := bs.length) (v := .slice ad r.length cap) (x := .slice va bs.length vc) (xs := (r.map bv)) (ys := (bs.map bv)) (by kernel_rfl) (by kernel_rfl) own hr (ones_map _) (by unfold maxLen; omega) (by omega)) rfl ?_
 rintro _ h7 ⟨ad3,cap4,rfl,own2,g5,hb6⟩
 clear own
 rw [blkOf_slice,← ho] at g5
 rw [blkOf_slice,← ho] at hb6
 have sz := g0.1
 replace g0 := g0.grew g5 (fun k hk => .inl (.inr hk.symm))
 replace kt := kt.grew g5 (fun hk => by have := kt.lt; exact ho0 hk.symm)
 replace hm := Grew.blk g5 hm hobo.symm
 have hob2 : ad3.map (·.block) ≠ some b := by
  rcases hb6 with e | e
  ·rw [e]; exact hobo
  ·rw [e]; have := blk_lt hb; simp; omega
 replace hb6 : ad3.map (·.block) = o ∨ ∃ g,ad3.map (·.block) = some g ∧ h.size ≤ g := by
  rcases hb6 with e | e
  ·exact .inl e
  ·exact .inr ⟨_,e,sz⟩
 refine sP 9 [pV b,.pointer (some ⟨b,8,none⟩)] ?_
 refine SeqK.eff (k' := 10) (Does.store (b := b) (off := 8) (vs := [.slice ad3 (r.length + bs.length) cap4]) (l := [wv st.a,wv st.b,wv st.c,wv st.d,wv st.e,wv st.f,wv st.g,wv st.h,.slice ad r.length cap,.int .u64 ((n + bs.length : Nat) : Int)]) (by kernel_rfl) hm (of_decide_eq_true (by kernel_rfl)) (List.all_eq_true.1 (by kernel_rfl))) rfl ?_
 rintro _ h8 ⟨rfl,hh⟩
 have g9 : Grew (some (b)) h7 h8 := hput_gr hh
 replace hm : h8[b]? = some (.cells ([wv st.a,wv st.b,wv st.c,wv st.d,wv st.e,wv st.f,wv st.g,wv st.h,.slice ad3 (r.length + bs.length) cap4,.int .u64 ((n + bs.length : Nat) : Int)]).toArray 72) := hput_at (off := 8) (vs := [.slice ad3 (r.length + bs.length) cap4]) (l := ([wv st.a,wv st.b,wv st.c,wv st.d,wv st.e,wv st.f,wv st.g,wv st.h,.slice ad r.length cap,.int .u64 ((n + bs.length : Nat) : Int)])) hh (by kernel_rfl) hm
 clear hh
 replace g0 := g0.grew g9 (by rintro _ ⟨⟩; exact .inl (.inl rfl))
 replace kt := kt.grew g9 (by simp; omega)
 replace own2 := own2.kept g9 (by rw [blkOf_slice]; right; exact hob2)
 refine sD [(0,pV b)] ?_
 clear hF a; intro a hF
 refine tK ?_
 refine cB 0 ?_
 simp only [← List.length_append,← List.map_append] at hm own2
 refine C.loop (fun m a h' => ∃ st' : S8,∃ r' : List UInt8,∃ ad' : Option Addr,∃ cap' : Nat,m = r'.length ∧ (Gr (fun k => k = b ∨ some k = o) h h') ∧ (Ktab h') ∧ (run st' r' = run st (r ++ bs) ∧ rem r' = rem (r ++ bs)) ∧ (h'[b]? = some (.cells #[wv st'.a,wv st'.b,wv st'.c,wv st'.d,wv st'.e,wv st'.f,wv st'.g,wv st'.h,.slice ad' r'.length cap',.int .u64 ((n + bs.length : Nat) : Int)] 72)) ∧ (Own h' (.slice ad' r'.length cap') 5 r'.length 1 (r'.map bv)) ∧ (ad'.map (·.block) ≠ some b ∧ (ad'.map (·.block) = o ∨ ∃ g,ad'.map (·.block) = some g ∧ h.size ≤ g)) ∧ (Fr a 50 [(0,.pointer (some ⟨b,0,none⟩))])) ((r ++ bs).length) [1,1,0,0] (by kernel_rfl) ⟨st,(r ++ bs),ad3,cap4,rfl,g0,kt,⟨rfl,rfl⟩,hm,own2,⟨hob2,hb6⟩,hF⟩ ?_
 clear hF a
 clear g0
 clear kt
 clear hm
 clear own2
 rintro m a h10 ⟨st',r',ad',cap',rfl,g0,kt,hi,hm,own,ho',hF⟩
 refine cS ?_
 refine cS ?_
 refine cP 2 hF ?_
 refine sP 3 [pV b,pV b,.pointer (some ⟨b,8,none⟩)] ?_
 refine sC 4 (.slice ad' r'.length cap') (Calm.load (T := 22) (p := ⟨b,8,none⟩) (by kernel_rfl) (Loads.one (k := 1) (by kernel_rfl) ((hcell_blk hm).trans rfl))) ?_
 refine sP 6 [nV (r'.length),.bool (decide ((64 : Int) ≤ ((r'.length : Nat) : Int)))] ?_
 refine sD [(0,pV b),(28,.bool (decide ((64 : Int) ≤ ((r'.length : Nat) : Int))))] ?_
 clear hF a; intro a hF
 refine tK ?_
 refine cC 28 (decide ((64 : Int) ≤ ((r'.length : Nat) : Int))) hF (fun hc11 => ?_) (fun hc11 => ?_)
 ·skip
  replace hc11 := of_decide_eq_true hc11
  have hl : 64 ≤ r'.length := by omega
  obtain ⟨gb,off,rfl,hcap⟩ := own.some_at (by omega)
  refine cN ?_
  refine tK ?_
  refine cB 1 ?_
  refine cS ?_
  refine cD [0,0,2,6,14,0,32,96,224,480,1022,2047,4095,8191] 3 mixed hF ?_
  refine mP 15 [0,1,2,3] [pV b,pV b,pV b,pV b] ?_
  refine mL 31 16 4 (.agg #[wv st'.a,wv st'.b,wv st'.c,wv st'.d,wv st'.e,wv st'.f,wv st'.g,wv st'.h]) (Calm.load (T := 69) (p := ⟨b,0,none⟩) (by kernel_rfl) (Loads.blk (vs := [wv st'.a,wv st'.b,wv st'.c,wv st'.d,wv st'.e,wv st'.f,wv st'.g,wv st'.h]) (by kernel_rfl) hm rfl)) ?_
  refine mP 255 [5,6,7] [pV b,pV b,.pointer (some ⟨b,8,none⟩)] ?_
  refine mL 511 272 8 (.slice (some ⟨gb,off,none⟩) r'.length cap') (Calm.load (T := 22) (p := ⟨b,8,none⟩) (by kernel_rfl) (Loads.one (k := 1) (by kernel_rfl) ((hcell_blk hm).trans rfl))) ?_
  refine mF 1023 9 (.slice (some ⟨gb,off,none⟩) 64 cap') (fun h => Calm.sliceO (a := (some ⟨gb,off,none⟩)) (len := r'.length) (cap := cap') (sz := 1) (x := (some ⟨gb,off,none⟩)) 0 64 cap' 64 cap' (by kernel_rfl) (.inl ⟨rfl,rfl⟩) (.inr rfl) (.inl ⟨rfl,rfl⟩) (by omega) (by omega) (some_add0 _) (by first | rfl | omega) (by first | rfl | omega) h) ?_
  refine SimK.eff0 (i := 10) (D' := 2047) (X' := 2046) (by kernel_rfl) (by kernel_rfl) (by kernel_rfl) (by kernel_rfl) (Does.call (f := 47) (args := #[.agg #[wv st'.a,wv st'.b,wv st'.c,wv st'.d,wv st'.e,wv st'.f,wv st'.g,wv st'.h],.slice (some ⟨gb,off,none⟩) 64 cap']) (by kernel_rfl) (piece_sat _ st' ⟨gb,off,none⟩ cap' (r'.take 64) (pre64 own hl) kt)) ?_
  rintro _ h12 ⟨rfl,g⟩
  replace g0 := g0.ext g
  replace kt := kt.ext g
  replace own := own.ext g
  replace hm := Ext.blk g hm
  clear g
  refine mP 8191 [11,12] [pV b,pV b] ?_
  refine SimK.eff0 (i := 13) (D' := 16383) (X' := 16383) (by kernel_rfl) (by kernel_rfl) (by kernel_rfl) (by kernel_rfl) (Does.store (b := b) (off := 0) (vs := [wv ((piece st' (r'.take 64)).a),wv ((piece st' (r'.take 64)).b),wv ((piece st' (r'.take 64)).c),wv ((piece st' (r'.take 64)).d),wv ((piece st' (r'.take 64)).e),wv ((piece st' (r'.take 64)).f),wv ((piece st' (r'.take 64)).g),wv ((piece st' (r'.take 64)).h)]) (l := [wv st'.a,wv st'.b,wv st'.c,wv st'.d,wv st'.e,wv st'.f,wv st'.g,wv st'.h,.slice (some ⟨gb,off,none⟩) r'.length cap',.int .u64 ((n + bs.length : Nat) : Int)]) (by kernel_rfl) hm (of_decide_eq_true (by kernel_rfl)) (List.all_eq_true.1 (by kernel_rfl))) ?_
  rintro _ h13 ⟨rfl,hh⟩
  have g14 : Grew (some (b)) h12 h13 := hput_gr hh
  replace hm : h13[b]? = some (.cells ([wv ((piece st' (r'.take 64)).a),wv ((piece st' (r'.take 64)).b),wv ((piece st' (r'.take 64)).c),wv ((piece st' (r'.take 64)).d),wv ((piece st' (r'.take 64)).e),wv ((piece st' (r'.take 64)).f),wv ((piece st' (r'.take 64)).g),wv ((piece st' (r'.take 64)).h),.slice (some ⟨gb,off,none⟩) r'.length cap',.int .u64 ((n + bs.length : Nat) : Int)]).toArray 72) := hput_at (off := 0) (vs := [wv ((piece st' (r'.take 64)).a),wv ((piece st' (r'.take 64)).b),wv ((piece st' (r'.take 64)).c),wv ((piece st' (r'.take 64)).d),wv ((piece st' (r'.take 64)).e),wv ((piece st' (r'.take 64)).f),wv ((piece st' (r'.take 64)).g),wv ((piece st' (r'.take 64)).h)]) (l := ([wv st'.a,wv st'.b,wv st'.c,wv st'.d,wv st'.e,wv st'.f,wv st'.g,wv st'.h,.slice (some ⟨gb,off,none⟩) r'.length cap',.int .u64 ((n + bs.length : Nat) : Int)])) hh (by kernel_rfl) hm
  clear hh
  replace g0 := g0.grew g14 (by rintro _ ⟨⟩; exact .inl (.inl rfl))
  replace kt := kt.grew g14 (by simp; omega)
  replace own := own.kept g14 (by rw [blkOf_slice]; right; exact ho'.1)
  refine mD [(0,pV b)] ?_
  clear hF a; intro a hF
  refine tK ?_
  refine cP 4 hF ?_
  refine sP 4 [pV b,pV b,pV b,.pointer (some ⟨b,8,none⟩)] ?_
  refine sC 5 (.slice (some ⟨gb,off,none⟩) r'.length cap') (Calm.load (T := 22) (p := ⟨b,8,none⟩) (by kernel_rfl) (Loads.one (k := 1) (by kernel_rfl) ((hcell_blk hm).trans rfl))) ?_
  obtain ⟨ad2,had2⟩ : ∃ x,x = if cap' = 64 then (some ⟨gb,off,none⟩ : Option Addr) else (some ⟨gb,off,none⟩ : Option Addr).map (·.add (64 * 1)) := ⟨_,rfl⟩
  have own2 := own.drop 64 hl
  rw [← had2] at own2
  refine sC 6 (.slice ad2 (r'.length - 64) (cap' - 64)) ((fun h => Calm.sliceO (a := (some ⟨gb,off,none⟩)) (len := r'.length) (cap := cap') (sz := 1) (x := ad2) 64 r'.length cap' (r'.length - 64) (cap' - 64) (by kernel_rfl) (.inl ⟨rfl,rfl⟩) (.inl ⟨rfl,rfl⟩) (.inr rfl) (by omega) (by omega) had2 (by first | rfl | omega) (by first | rfl | omega) h) _) ?_
  refine sP 8 [pV b,.pointer (some ⟨b,8,none⟩)] ?_
  refine SeqK.eff (k' := 9) (Does.store (b := b) (off := 8) (vs := [.slice ad2 (r'.length - 64) (cap' - 64)]) (l := [wv ((piece st' (r'.take 64)).a),wv ((piece st' (r'.take 64)).b),wv ((piece st' (r'.take 64)).c),wv ((piece st' (r'.take 64)).d),wv ((piece st' (r'.take 64)).e),wv ((piece st' (r'.take 64)).f),wv ((piece st' (r'.take 64)).g),wv ((piece st' (r'.take 64)).h),.slice (some ⟨gb,off,none⟩) r'.length cap',.int .u64 ((n + bs.length : Nat) : Int)]) (by kernel_rfl) hm (of_decide_eq_true (by kernel_rfl)) (List.all_eq_true.1 (by kernel_rfl))) rfl ?_
  rintro _ h15 ⟨rfl,hh⟩
  have g16 : Grew (some (b)) h13 h15 := hput_gr hh
  replace hm : h15[b]? = some (.cells ([wv ((piece st' (r'.take 64)).a),wv ((piece st' (r'.take 64)).b),wv ((piece st' (r'.take 64)).c),wv ((piece st' (r'.take 64)).d),wv ((piece st' (r'.take 64)).e),wv ((piece st' (r'.take 64)).f),wv ((piece st' (r'.take 64)).g),wv ((piece st' (r'.take 64)).h),.slice ad2 (r'.length - 64) (cap' - 64),.int .u64 ((n + bs.length : Nat) : Int)]).toArray 72) := hput_at (off := 8) (vs := [.slice ad2 (r'.length - 64) (cap' - 64)]) (l := ([wv ((piece st' (r'.take 64)).a),wv ((piece st' (r'.take 64)).b),wv ((piece st' (r'.take 64)).c),wv ((piece st' (r'.take 64)).d),wv ((piece st' (r'.take 64)).e),wv ((piece st' (r'.take 64)).f),wv ((piece st' (r'.take 64)).g),wv ((piece st' (r'.take 64)).h),.slice (some ⟨gb,off,none⟩) r'.length cap',.int .u64 ((n + bs.length : Nat) : Int)])) hh (by kernel_rfl) hm
  clear hh
  replace g0 := g0.grew g16 (by rintro _ ⟨⟩; exact .inl (.inl rfl))
  replace kt := kt.grew g16 (by simp; omega)
  replace own2 := own2.kept g16 (by rw [blkOf_slice,blk_drop had2]; right; exact ho'.1)
  refine sD [(0,pV b)] ?_
  clear hF a; intro a hF
  have e64 : r'.length - 64 = (r'.drop 64).length := by simp
  rw [Nat.mul_one,← List.map_drop] at own2
  rw [e64] at hm own2
  show ∃ m',m' < _ ∧ _
  refine ⟨_,?_,(piece st' (r'.take 64)),(r'.drop 64),ad2,(cap' - 64),rfl,g0,kt,⟨by rw [← hi.1,run_step hl],by rw [← hi.2,rem_step hl]⟩,hm,own2,⟨by rw [blk_drop had2]; exact ho'.1,by rw [blk_drop had2]; exact ho'.2⟩,hF⟩
  omega
 ·skip
  replace hc11 := of_decide_eq_false hc11
  refine cX 0 ?_
  show retK Tryd.prog Tryd.f40 (fun _ h' => ∃ o',StA h' b o' (run st (r ++ bs)) (rem (r ++ bs)) (n + bs.length) ∧ (o' = o ∨ ∃ g,o' = some g ∧ h.size ≤ g) ∧ Gr (fun k => k = b ∨ some k = o) h h') .normal a h10
  refine ret_okN [] [] (.tuple #[]) rfl hF trivial rfl ?_
  have e1 : st' = run st (r ++ bs) := by rw [← hi.1,run_end (by omega)]
  have e2 : r' = rem (r ++ bs) := by rw [← hi.2,rem_end (by omega)]
  exact ⟨_,⟨ad',cap',rfl,ho'.1,e1 ▸ e2 ▸ hm,e2 ▸ own⟩,ho'.2,g0⟩
end Go.Proofs.YtkjlafiefgbjpaaDoor
