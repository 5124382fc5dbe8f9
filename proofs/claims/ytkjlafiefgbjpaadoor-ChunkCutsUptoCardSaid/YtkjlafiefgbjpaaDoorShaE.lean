/- Walks of package sha: what each function computes, as a law of its calls. No condition but those that each theorem names. -/
import Derived.Test.YtkjlafiefgbjpaaDoorShaD
namespace Go.Proofs.YtkjlafiefgbjpaaDoor
open Go Go.Lane Go.Sha
noncomputable def b45 : Code := Tryd.f45.body.getD .skip
theorem sha_sat (h : Heap) (l : List UInt8) (va : Option Addr) (vc : Nat) (hr : Row h (.slice va l.length vc) l.length 1 (l.map bv)) (hlt : l = [] ∨ ∀ k,blkOf (.slice va l.length vc) = some k → k < h.size) (kt : Ktab h) (hn : l.length ≤ 1099511627776) : Sat Tryd.prog 45 #[.slice va l.length vc] h fun v h' => v = hv (sha l) ∧ Ext h h' := by
 have e0 := Ext.refl h
 have h0s := kt.lt
 refine sat_of (args := [.slice va l.length vc]) (fn := Tryd.f45) (B := b45) (n := 10) (L := [(0,.slice va l.length vc)]) Tryd.func45 rfl (by kernel_rfl) rfl ?_
 intro a hF
 refine cS ?_
 refine cP 0 hF ?_
 refine SeqK.eff (k' := 1) (Does.new (v := .pointer (some ⟨h.size,0,none⟩)) (o := .cells #[.int .u8 0,.int .u8 0,.int .u8 0,.int .u8 0,.int .u8 0,.int .u8 0,.int .u8 0,.int .u8 0,.int .u8 0,.int .u8 0,.int .u8 0,.int .u8 0,.int .u8 0,.int .u8 0,.int .u8 0,.int .u8 0,.int .u8 0,.int .u8 0,.int .u8 0,.int .u8 0,.int .u8 0,.int .u8 0,.int .u8 0,.int .u8 0,.int .u8 0,.int .u8 0,.int .u8 0,.int .u8 0,.int .u8 0,.int .u8 0,.int .u8 0,.int .u8 0] 31) (by kernel_rfl)) rfl ?_
 rintro _ h1 ⟨rfl,hh⟩
 have g2 : Ext h h1 := push_ext hh
 have m3 : h1[h.size]? = some (.cells #[.int .u8 0,.int .u8 0,.int .u8 0,.int .u8 0,.int .u8 0,.int .u8 0,.int .u8 0,.int .u8 0,.int .u8 0,.int .u8 0,.int .u8 0,.int .u8 0,.int .u8 0,.int .u8 0,.int .u8 0,.int .u8 0,.int .u8 0,.int .u8 0,.int .u8 0,.int .u8 0,.int .u8 0,.int .u8 0,.int .u8 0,.int .u8 0,.int .u8 0,.int .u8 0,.int .u8 0,.int .u8 0,.int .u8 0,.int .u8 0,.int .u8 0,.int .u8 0] 31) := push_at hh
 clear hh
 have lt4 := blk_lt m3
 have zs5 := e0.size
 replace e0 := e0.ext g2
 replace kt := kt.ext g2
 replace hr := hr.ext g2
 refine sD [(0,.slice va l.length vc),(2,pV h.size)] ?_
 clear hF a; intro a hF
 refine tK ?_
 refine cS ?_
 refine cP 1 hF ?_
 refine SeqK.eff (k' := 1) (Does.call (f := 39) (args := #[]) (by kernel_rfl) (new_sat _)) rfl ?_
 rintro _ h6 ⟨b,rfl,hs,hbl,g⟩
 replace e0 := e0.ext g
 replace kt := kt.ext g
 replace hr := hr.ext g
 replace m3 := Ext.blk g m3
 clear g
 refine sP 2 [pV b] ?_
 refine sD [(0,.slice va l.length vc),(2,pV h.size),(3,pV b)] ?_
 clear hF a; intro a hF
 refine tK ?_
 refine cS ?_
 refine cP 2 hF ?_
 refine sP 2 [pV b,.slice va l.length vc] ?_
 have hz1 := e0.size
 refine SeqK.eff (k' := 3) (Does.call (f := 40) (args := #[.pointer (some ⟨b,0,none⟩),.slice va l.length vc]) (by kernel_rfl) (write_sat _ b none H0 [] l 0 va vc hs hr (hlt.imp id fun hlt e => by have := hlt _ e; omega) (by omega) (by simp) kt (by simpa using hn) (by omega))) rfl ?_
 rintro _ h7 ⟨o',hs',ho',g⟩
 simp only [List.nil_append,Nat.zero_add] at hs'
 have hF' : ∀ k,(k = b ∨ some k = none) → _ ≤ k := fun k hk => hk.elim (fun e => e ▸ hbl) (fun e => by cases e)
 replace kt := kt.gr g (by simp; omega)
 replace m3 := g.blk m3 (by simp; omega)
 replace e0 := Gr.toExt e0 g (fun k hk => by have := hF' k hk; omega)
 clear hs hr hF'
 refine sD [(2,pV h.size),(3,pV b)] ?_
 clear hF a; intro a hF
 refine tK ?_
 refine cS ?_
 refine cP 3 hF ?_
 refine sP 1 [pV b] ?_
 have hrl := rem_lt l.length l (Nat.le_refl _)
 refine SeqK.eff (k' := 2) (Does.call (f := 41) (args := #[.pointer (some ⟨b,0,none⟩)]) (by kernel_rfl) ((sum_sat _ b o' _ _ _ hs' kt (by omega) (by omega)).mono (R' := fun v h' => v = hv (sha l) ∧ Ext h7 h') fun v h' e => ⟨e.1.trans (by rw [sha_rem]),e.2⟩)) rfl ?_
 rintro _ h8 ⟨rfl,g⟩
 replace e0 := e0.ext g
 replace kt := kt.ext g
 replace m3 := Ext.blk g m3
 clear g
 refine SeqK.eff (k' := 3) (Does.store (b := h.size) (off := 0) (vs := (sha l).map bv) (l := [.int .u8 0,.int .u8 0,.int .u8 0,.int .u8 0,.int .u8 0,.int .u8 0,.int .u8 0,.int .u8 0,.int .u8 0,.int .u8 0,.int .u8 0,.int .u8 0,.int .u8 0,.int .u8 0,.int .u8 0,.int .u8 0,.int .u8 0,.int .u8 0,.int .u8 0,.int .u8 0,.int .u8 0,.int .u8 0,.int .u8 0,.int .u8 0,.int .u8 0,.int .u8 0,.int .u8 0,.int .u8 0,.int .u8 0,.int .u8 0,.int .u8 0,.int .u8 0]) (by kernel_rfl) m3 (of_decide_eq_true (by kernel_rfl)) (ones_map _)) rfl ?_
 rintro _ h9 ⟨rfl,hh⟩
 have g10 : Grew (some (h.size)) h8 h9 := hput_gr hh
 replace m3 : h9[h.size]? = some (.cells ((sha l).map bv).toArray 31) := hput_at (off := 0) (vs := (sha l).map bv) (l := ([.int .u8 0,.int .u8 0,.int .u8 0,.int .u8 0,.int .u8 0,.int .u8 0,.int .u8 0,.int .u8 0,.int .u8 0,.int .u8 0,.int .u8 0,.int .u8 0,.int .u8 0,.int .u8 0,.int .u8 0,.int .u8 0,.int .u8 0,.int .u8 0,.int .u8 0,.int .u8 0,.int .u8 0,.int .u8 0,.int .u8 0,.int .u8 0,.int .u8 0,.int .u8 0,.int .u8 0,.int .u8 0,.int .u8 0,.int .u8 0,.int .u8 0,.int .u8 0])) hh (by kernel_rfl) m3
 clear hh
 replace e0 := e0.grew g10 (by rintro _ ⟨⟩; omega)
 replace kt := kt.grew g10 (by simp; omega)
 refine sD [(2,pV h.size)] ?_
 clear hF a; intro a hF
 refine tK ?_
 refine cR ?_
 refine ret_ok [.cell 2 31] [.agg (((sha l).map bv).toArray)] (.agg (((sha l).map bv).toArray)) rfl hF ⟨⟨_,rfl,Loads.all (vs := (sha l).map bv) (by kernel_rfl) m3⟩,trivial⟩ rfl ?_
 exact ⟨rfl,e0⟩
end Go.Proofs.YtkjlafiefgbjpaaDoor
