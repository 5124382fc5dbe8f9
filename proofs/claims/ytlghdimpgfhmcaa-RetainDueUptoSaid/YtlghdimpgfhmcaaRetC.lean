/- Lock, Hold, Delete, and a record with copies of its own: what it comes to. Conditions: those that each theorem names. -/
import Derived.Test.YtlghdimpgfhmcaaRetB
namespace Go.Proofs.Ytlghdimpgfhmcaa
open Go Go.Lane Go.Sha
noncomputable def b11 : Code := Try.f11.body.getD .skip
theorem copied_sat (h : Heap) (x : RB) (e : Int) (ho go : Bool) (L : List Pl) (va : Option Addr) (vc : Nat) (hr : Row h (.slice va L.length vc) L.length 4 (prow L)) (hL : L.length ≤ 1099511627776) : Sat Try.prog 11 #[.agg (rc x e ho go (.slice va L.length vc)).toArray] h fun v h' => ∃ c,v = .agg (rc x e ho go c).toArray ∧ PNew h h' 49 c L := by
 have e0 := Ext.refl h
 have sep : Sep h.size h.size [] := Sep.nil _ _
 refine sat_of (args := [.agg (rc x e ho go (.slice va L.length vc)).toArray]) (fn := Try.f11) (B := b11) (n := 9) (L := [(0,.agg (rc x e ho go (.slice va L.length vc)).toArray)]) Try.func11 rfl (by kernel_rfl) rfl ?_
 intro a hF
 refine cS ?_
 refine cP 0 hF ?_
 refine SeqK.eff (k' := 1) (Does.new (v := .pointer (some ⟨h.size,0,none⟩)) (o := .cells (rc x e ho go (.slice va L.length vc)).toArray 26) (by kernel_rfl)) rfl ?_
 rintro _ h1 ⟨rfl,hh⟩
 have g2 : Ext h h1 := push_ext hh
 have m3 : h1[h.size]? = some (.cells (rc x e ho go (.slice va L.length vc)).toArray 26) := push_at hh
 clear hh
 have lt4 := blk_lt m3
 have zs5 := e0.size
 have hlo := e0.size
 have sepo := sep
 replace e0 := e0.ext g2
 replace sep := sep.up g2.size
 replace sep := sepo.new hlo (blk_lt m3)
 clear sepo hlo
 refine SeqK.eff (k' := 2) (Does.new (v := .pointer (some ⟨h1.size,0,none⟩)) (o := .cells (rc rb0 (0 : Int) false false (.slice none 0 0)).toArray 26) (by kernel_rfl)) rfl ?_
 rintro _ h6 ⟨rfl,hh⟩
 have g7 : Ext h1 h6 := push_ext hh
 have m8 : h6[h1.size]? = some (.cells (rc rb0 (0 : Int) false false (.slice none 0 0)).toArray 26) := push_at hh
 clear hh
 have lt9 := blk_lt m8
 have zs10 := e0.size
 have hlo := e0.size
 have sepo := sep
 replace e0 := e0.ext g7
 replace m3 := Ext.blk g7 m3
 replace sep := sep.up g7.size
 replace sep := sepo.new hlo (blk_lt m8)
 clear sepo hlo
 refine sD [(1,pV h.size),(2,pV h1.size)] ?_
 clear hF a; intro a hF
 refine tK ?_
 refine cS ?_
 refine cP 1 hF ?_
 refine SeqK.eff (k' := 1) (Does.new (v := .slice (some ⟨h6.size,0,none⟩) 0 0) (o := .cells #[] 49) (by kernel_rfl)) rfl ?_
 rintro _ h11 ⟨rfl,hh⟩
 have g12 : Ext h6 h11 := push_ext hh
 have m13 : h11[h6.size]? = some (.cells #[] 49) := push_at hh
 clear hh
 have lt14 := blk_lt m13
 have zs15 := e0.size
 have hlo := e0.size
 have sepo := sep
 replace e0 := e0.ext g12
 replace m3 := Ext.blk g12 m3
 replace m8 := Ext.blk g12 m8
 replace sep := sep.up g12.size
 replace sep := sepo.new hlo (blk_lt m13)
 clear sepo hlo
 have own_c : Own h11 (.slice (some ⟨h6.size,0,none⟩) 0 0) 49 ([] : List Pl).length 4 (prow []) := Own.empty 4 m13
 replace sep : Sep h.size h11.size [(some ⟨h6.size,0,none⟩ : Option Addr).map (·.block),some (h1.size),some (h.size)] := sep
 clear m13 lt14 zs15
 refine sP 2 [.pointer (some ⟨h.size,38,none⟩)] ?_
 refine sC 3 (.slice va L.length vc) (Calm.load (T := 24) (p := ⟨h.size,38,none⟩) (by kernel_rfl) (Loads.one (k := 1) (by kernel_rfl) ((hcell_blk m3).trans (rfl)))) ?_
 refine SeqK.eff (k' := 4) (Does.append2 (t := 24) (E := 49) (sz := 4) (by_ := 32) (n := 0) (m := L.length) (v := .slice (some ⟨h6.size,0,none⟩) 0 0) (x := .slice va L.length vc) (xs := (prow ([]))) (ys := (prow L)) (by kernel_rfl) (by kernel_rfl) own_c (hr.ext e0) (prow_one _) (by unfold maxLen; simp; omega) (by simp; omega)) rfl ?_
 rintro _ h18 ⟨ad16,cap17,rfl,ownx,g,hb⟩
 rw [blkOf_slice] at g hb
 have hlo := e0.size
 have sepo := sep
 replace e0 := e0.grew g (sep.low 0 rfl)
 replace m3 := Grew.blk g m3 ((sep.bp 2 0))
 replace m8 := Grew.blk g m8 ((sep.bp 1 0))
 replace sep := sep.up g.size
 replace sep : Sep h.size h18.size [ad16.map (·.block),some (h1.size),some (h.size)] := sepo.set g.size hlo 0 (y := ad16.map (fun (x : Addr) => x.block)) rfl (hb.imp id fun e => .inr ⟨_,e,Nat.le_refl _⟩) (fun k e => ownx.lt (by rw [blkOf_slice]; exact e))
 replace own_c : Own h18 (.slice ad16 L.length cap17) 49 L.length 4 (prow L) := Own.appG ownx (by first | rfl | exact List.flatMap_append.symm | simp [prow]) (by first | rfl | (simp; done) | (simp; omega))
 clear ownx g hb hlo sepo
 refine sP 5 [.pointer (some ⟨h.size,38,none⟩)] ?_
 refine SeqK.eff (k' := 6) (Does.store (b := h.size) (off := 38) (vs := [.slice ad16 (0 + L.length) cap17]) (l := rc x e ho go (.slice va L.length vc)) (by kernel_rfl) m3 (of_decide_eq_true (by kernel_rfl)) (List.all_eq_true.1 (by kernel_rfl))) rfl ?_
 rintro _ h19 ⟨rfl,hh⟩
 have g20 : Grew (some (h.size)) h18 h19 := hput_gr hh
 replace m3 : h19[h.size]? = some (.cells (rc x e ho go (.slice ad16 (0 + L.length) cap17)).toArray 26) := hput_at (off := 38) (vs := [.slice ad16 (0 + L.length) cap17]) (l := (rc x e ho go (.slice va L.length vc))) hh (by kernel_rfl) m3
 clear hh
 replace e0 := e0.grew g20 (sep.low 2 rfl)
 replace own_c := own_c.kept g20 (by rw [blkOf_slice]; exact (sep.ap 0 2))
 replace m8 := Grew.blk g20 m8 ((sep.bp 1 2))
 replace sep := sep.up g20.size
 rw [show (0 + L.length : Nat) = L.length by simp] at m3
 refine sD [(1,pV h.size),(2,pV h1.size)] ?_
 clear hF a; intro a hF
 refine tK ?_
 refine cS ?_
 refine cP 2 hF ?_
 refine sC 1 (.agg (rc x e ho go (.slice ad16 L.length cap17)).toArray) (Calm.load (T := 26) (p := ⟨h.size,0,none⟩) (by kernel_rfl) (Loads.blk (vs := rc x e ho go (.slice ad16 L.length cap17)) (by kernel_rfl) m3 rfl)) ?_
 refine SeqK.eff (k' := 2) (Does.store (b := h1.size) (off := 0) (vs := rc x e ho go (.slice ad16 L.length cap17)) (l := rc rb0 (0 : Int) false false (.slice none 0 0)) (by kernel_rfl) m8 (of_decide_eq_true (by kernel_rfl)) (List.all_eq_true.1 (by kernel_rfl))) rfl ?_
 rintro _ h21 ⟨rfl,hh⟩
 have g22 : Grew (some (h1.size)) h19 h21 := hput_gr hh
 replace m8 : h21[h1.size]? = some (.cells (rc x e ho go (.slice ad16 L.length cap17)).toArray 26) := hput_at (off := 0) (vs := rc x e ho go (.slice ad16 L.length cap17)) (l := (rc rb0 (0 : Int) false false (.slice none 0 0))) hh (by kernel_rfl) m8
 clear hh
 replace e0 := e0.grew g22 (sep.low 1 rfl)
 replace own_c := own_c.kept g22 (by rw [blkOf_slice]; exact (sep.ap 0 1))
 replace m3 := Grew.blk g22 m3 ((sep.bp 2 1))
 replace sep := sep.up g22.size
 refine sD [(2,pV h1.size)] ?_
 clear hF a; intro a hF
 refine tK ?_
 refine cR ?_
 show retK Try.prog Try.f11 (fun v h' => ∃ c,v = .agg (rc x e ho go c).toArray ∧ PNew h h' 49 c L) .ret a h21
 refine ret_ok [.cell 2 26] [.agg (rc x e ho go (.slice ad16 L.length cap17)).toArray] (.agg (rc x e ho go (.slice ad16 L.length cap17)).toArray) rfl hF ⟨⟨_,rfl,Loads.blk (vs := rc x e ho go (.slice ad16 L.length cap17)) (by kernel_rfl) m8 rfl⟩,trivial⟩ rfl ?_
 exact ⟨_,rfl,⟨_,_,rfl,own_c,sep.low 0 rfl,e0⟩⟩
noncomputable def b25 : Code := Try.f25.body.getD .skip
theorem rcopied_sat (h : Heap) (x : RB) (e : Int) (ho go : Bool) (L : List Pl) (va : Option Addr) (vc : Nat) (hr : Row h (.slice va L.length vc) L.length 4 (prow L)) (hL : L.length ≤ 1099511627776) : Sat Try.prog 25 #[.agg (rc x e ho go (.slice va L.length vc)).toArray] h fun v h' => ∃ c,v = .agg (rc x e ho go c).toArray ∧ PNew h h' 49 c L := by
 have e0 := Ext.refl h
 have sep : Sep h.size h.size [] := Sep.nil _ _
 refine sat_of (args := [.agg (rc x e ho go (.slice va L.length vc)).toArray]) (fn := Try.f25) (B := b25) (n := 9) (L := [(0,.agg (rc x e ho go (.slice va L.length vc)).toArray)]) Try.func25 rfl (by kernel_rfl) rfl ?_
 intro a hF
 refine cS ?_
 refine cP 0 hF ?_
 refine SeqK.eff (k' := 1) (Does.new (v := .pointer (some ⟨h.size,0,none⟩)) (o := .cells (rc x e ho go (.slice va L.length vc)).toArray 26) (by kernel_rfl)) rfl ?_
 rintro _ h1 ⟨rfl,hh⟩
 have g2 : Ext h h1 := push_ext hh
 have m3 : h1[h.size]? = some (.cells (rc x e ho go (.slice va L.length vc)).toArray 26) := push_at hh
 clear hh
 have lt4 := blk_lt m3
 have zs5 := e0.size
 have hlo := e0.size
 have sepo := sep
 replace e0 := e0.ext g2
 replace sep := sep.up g2.size
 replace sep := sepo.new hlo (blk_lt m3)
 clear sepo hlo
 refine SeqK.eff (k' := 2) (Does.new (v := .pointer (some ⟨h1.size,0,none⟩)) (o := .cells (rc rb0 (0 : Int) false false (.slice none 0 0)).toArray 26) (by kernel_rfl)) rfl ?_
 rintro _ h6 ⟨rfl,hh⟩
 have g7 : Ext h1 h6 := push_ext hh
 have m8 : h6[h1.size]? = some (.cells (rc rb0 (0 : Int) false false (.slice none 0 0)).toArray 26) := push_at hh
 clear hh
 have lt9 := blk_lt m8
 have zs10 := e0.size
 have hlo := e0.size
 have sepo := sep
 replace e0 := e0.ext g7
 replace m3 := Ext.blk g7 m3
 replace sep := sep.up g7.size
 replace sep := sepo.new hlo (blk_lt m8)
 clear sepo hlo
 refine sD [(1,pV h.size),(2,pV h1.size)] ?_
 clear hF a; intro a hF
 refine tK ?_
 refine cS ?_
 refine cP 1 hF ?_
 refine SeqK.eff (k' := 1) (Does.new (v := .slice (some ⟨h6.size,0,none⟩) 0 0) (o := .cells #[] 49) (by kernel_rfl)) rfl ?_
 rintro _ h11 ⟨rfl,hh⟩
 have g12 : Ext h6 h11 := push_ext hh
 have m13 : h11[h6.size]? = some (.cells #[] 49) := push_at hh
 clear hh
 have lt14 := blk_lt m13
 have zs15 := e0.size
 have hlo := e0.size
 have sepo := sep
 replace e0 := e0.ext g12
 replace m3 := Ext.blk g12 m3
 replace m8 := Ext.blk g12 m8
 replace sep := sep.up g12.size
 replace sep := sepo.new hlo (blk_lt m13)
 clear sepo hlo
 have own_c : Own h11 (.slice (some ⟨h6.size,0,none⟩) 0 0) 49 ([] : List Pl).length 4 (prow []) := Own.empty 4 m13
 replace sep : Sep h.size h11.size [(some ⟨h6.size,0,none⟩ : Option Addr).map (·.block),some (h1.size),some (h.size)] := sep
 clear m13 lt14 zs15
 refine sP 2 [.pointer (some ⟨h.size,38,none⟩)] ?_
 refine sC 3 (.slice va L.length vc) (Calm.load (T := 24) (p := ⟨h.size,38,none⟩) (by kernel_rfl) (Loads.one (k := 1) (by kernel_rfl) ((hcell_blk m3).trans (rfl)))) ?_
 refine SeqK.eff (k' := 4) (Does.append2 (t := 24) (E := 49) (sz := 4) (by_ := 32) (n := 0) (m := L.length) (v := .slice (some ⟨h6.size,0,none⟩) 0 0) (x := .slice va L.length vc) (xs := (prow ([]))) (ys := (prow L)) (by kernel_rfl) (by kernel_rfl) own_c (hr.ext e0) (prow_one _) (by unfold maxLen; simp; omega) (by simp; omega)) rfl ?_
 rintro _ h18 ⟨ad16,cap17,rfl,ownx,g,hb⟩
 rw [blkOf_slice] at g hb
 have hlo := e0.size
 have sepo := sep
 replace e0 := e0.grew g (sep.low 0 rfl)
 replace m3 := Grew.blk g m3 ((sep.bp 2 0))
 replace m8 := Grew.blk g m8 ((sep.bp 1 0))
 replace sep := sep.up g.size
 replace sep : Sep h.size h18.size [ad16.map (·.block),some (h1.size),some (h.size)] := sepo.set g.size hlo 0 (y := ad16.map (fun (x : Addr) => x.block)) rfl (hb.imp id fun e => .inr ⟨_,e,Nat.le_refl _⟩) (fun k e => ownx.lt (by rw [blkOf_slice]; exact e))
 replace own_c : Own h18 (.slice ad16 L.length cap17) 49 L.length 4 (prow L) := Own.appG ownx (by first | rfl | exact List.flatMap_append.symm | simp [prow]) (by first | rfl | (simp; done) | (simp; omega))
 clear ownx g hb hlo sepo
 refine sP 5 [.pointer (some ⟨h.size,38,none⟩)] ?_
 refine SeqK.eff (k' := 6) (Does.store (b := h.size) (off := 38) (vs := [.slice ad16 (0 + L.length) cap17]) (l := rc x e ho go (.slice va L.length vc)) (by kernel_rfl) m3 (of_decide_eq_true (by kernel_rfl)) (List.all_eq_true.1 (by kernel_rfl))) rfl ?_
 rintro _ h19 ⟨rfl,hh⟩
 have g20 : Grew (some (h.size)) h18 h19 := hput_gr hh
 replace m3 : h19[h.size]? = some (.cells (rc x e ho go (.slice ad16 (0 + L.length) cap17)).toArray 26) := hput_at (off := 38) (vs := [.slice ad16 (0 + L.length) cap17]) (l := (rc x e ho go (.slice va L.length vc))) hh (by kernel_rfl) m3
 clear hh
 replace e0 := e0.grew g20 (sep.low 2 rfl)
 replace own_c := own_c.kept g20 (by rw [blkOf_slice]; exact (sep.ap 0 2))
 replace m8 := Grew.blk g20 m8 ((sep.bp 1 2))
 replace sep := sep.up g20.size
 rw [show (0 + L.length : Nat) = L.length by simp] at m3
 refine sD [(1,pV h.size),(2,pV h1.size)] ?_
 clear hF a; intro a hF
 refine tK ?_
 refine cS ?_
 refine cP 2 hF ?_
 refine sC 1 (.agg (rc x e ho go (.slice ad16 L.length cap17)).toArray) (Calm.load (T := 26) (p := ⟨h.size,0,none⟩) (by kernel_rfl) (Loads.blk (vs := rc x e ho go (.slice ad16 L.length cap17)) (by kernel_rfl) m3 rfl)) ?_
 refine SeqK.eff (k' := 2) (Does.store (b := h1.size) (off := 0) (vs := rc x e ho go (.slice ad16 L.length cap17)) (l := rc rb0 (0 : Int) false false (.slice none 0 0)) (by kernel_rfl) m8 (of_decide_eq_true (by kernel_rfl)) (List.all_eq_true.1 (by kernel_rfl))) rfl ?_
 rintro _ h21 ⟨rfl,hh⟩
 have g22 : Grew (some (h1.size)) h19 h21 := hput_gr hh
 replace m8 : h21[h1.size]? = some (.cells (rc x e ho go (.slice ad16 L.length cap17)).toArray 26) := hput_at (off := 0) (vs := rc x e ho go (.slice ad16 L.length cap17)) (l := (rc rb0 (0 : Int) false false (.slice none 0 0))) hh (by kernel_rfl) m8
 clear hh
 replace e0 := e0.grew g22 (sep.low 1 rfl)
 replace own_c := own_c.kept g22 (by rw [blkOf_slice]; exact (sep.ap 0 1))
 replace m3 := Grew.blk g22 m3 ((sep.bp 2 1))
 replace sep := sep.up g22.size
 refine sD [(2,pV h1.size)] ?_
 clear hF a; intro a hF
 refine tK ?_
 refine cR ?_
 show retK Try.prog Try.f25 (fun v h' => ∃ c,v = .agg (rc x e ho go c).toArray ∧ PNew h h' 49 c L) .ret a h21
 refine ret_ok [.cell 2 26] [.agg (rc x e ho go (.slice ad16 L.length cap17)).toArray] (.agg (rc x e ho go (.slice ad16 L.length cap17)).toArray) rfl hF ⟨⟨_,rfl,Loads.blk (vs := rc x e ho go (.slice ad16 L.length cap17)) (by kernel_rfl) m8 rfl⟩,trivial⟩ rfl ?_
 exact ⟨_,rfl,⟨_,_,rfl,own_c,sep.low 0 rfl,e0⟩⟩
noncomputable def b12 : Code := Try.f12.body.getD .skip
theorem lock_arg (h : Heap) (x : RB) (e : Int) (ho go : Bool) (L : List Pl) (va : Option Addr) (vc : Nat) (u : Int) (hu : u < 0 ∨ 1099511627776 < u) : Sat Try.prog 12 #[.agg (rc x e ho go (.slice va L.length vc)).toArray,.int .i64 u] h fun v h' => v = .tuple #[.agg (rc rb0 (0 : Int) false false (.slice none 0 0)).toArray,.int .i64 1] ∧ Ext h h' := by
 have e0 := Ext.refl h
 have sep : Sep h.size h.size [] := Sep.nil _ _
 refine sat_of (args := [.agg (rc x e ho go (.slice va L.length vc)).toArray,.int .i64 u]) (fn := Try.f12) (B := b12) (n := 21) (L := [(0,.agg (rc x e ho go (.slice va L.length vc)).toArray),(1,.int .i64 u)]) Try.func12 rfl (by kernel_rfl) rfl ?_
 intro a hF
 refine cS ?_
 refine cP 0 hF ?_
 refine SeqK.eff (k' := 1) (Does.new (v := .pointer (some ⟨h.size,0,none⟩)) (o := .cells (rc x e ho go (.slice va L.length vc)).toArray 26) (by kernel_rfl)) rfl ?_
 rintro _ h1 ⟨rfl,hh⟩
 have g2 : Ext h h1 := push_ext hh
 have m3 : h1[h.size]? = some (.cells (rc x e ho go (.slice va L.length vc)).toArray 26) := push_at hh
 clear hh
 have lt4 := blk_lt m3
 have zs5 := e0.size
 have hlo := e0.size
 have sepo := sep
 replace e0 := e0.ext g2
 replace sep := sep.up g2.size
 replace sep := sepo.new hlo (blk_lt m3)
 clear sepo hlo
 refine SeqK.eff (k' := 2) (Does.new (v := .pointer (some ⟨h1.size,0,none⟩)) (o := .cells #[.int .i64 u] 3) (by kernel_rfl)) rfl ?_
 rintro _ h6 ⟨rfl,hh⟩
 have g7 : Ext h1 h6 := push_ext hh
 have m8 : h6[h1.size]? = some (.cells #[.int .i64 u] 3) := push_at hh
 clear hh
 have lt9 := blk_lt m8
 have zs10 := e0.size
 have hlo := e0.size
 have sepo := sep
 replace e0 := e0.ext g7
 replace m3 := Ext.blk g7 m3
 replace sep := sep.up g7.size
 replace sep := sepo.new hlo (blk_lt m8)
 clear sepo hlo
 refine SeqK.eff (k' := 3) (Does.new (v := .pointer (some ⟨h6.size,0,none⟩)) (o := .cells (rc rb0 (0 : Int) false false (.slice none 0 0)).toArray 26) (by kernel_rfl)) rfl ?_
 rintro _ h11 ⟨rfl,hh⟩
 have g12 : Ext h6 h11 := push_ext hh
 have m13 : h11[h6.size]? = some (.cells (rc rb0 (0 : Int) false false (.slice none 0 0)).toArray 26) := push_at hh
 clear hh
 have lt14 := blk_lt m13
 have zs15 := e0.size
 have hlo := e0.size
 have sepo := sep
 replace e0 := e0.ext g12
 replace m3 := Ext.blk g12 m3
 replace m8 := Ext.blk g12 m8
 replace sep := sep.up g12.size
 replace sep := sepo.new hlo (blk_lt m13)
 clear sepo hlo
 refine sP 4 [.int .i64 0] ?_
 refine sD [(2,pV h.size),(3,pV h1.size),(4,pV h6.size)] ?_
 clear hF a; intro a hF
 refine tK ?_
 refine cS ?_
 refine cB 0 ?_
 refine cS ?_
 rcases hu with hu | hu
 ·skip
  refine cP 1 hF ?_
  refine sC 1 (.int .i64 u) (Calm.load (T := 3) (p := ⟨h1.size,0,none⟩) (by kernel_rfl) (Loads.one (k := 1) (by kernel_rfl) ((hcell_blk m8).trans rfl))) ?_
  refine s1 2 (.bool true) (.bool (decide (u < (0 : Int)))) (congrArg Value.bool (decide_eq_true (by omega))) ?_
  refine sP 7 [.bool true,undef,undef,.bool true,.bool true] ?_
  refine sD [(2,pV h.size),(3,pV h1.size),(4,pV h6.size),(6,.bool true)] ?_
  clear hF a; intro a hF
  refine tK ?_
  refine cT 6 hF ?_
  refine cS ?_
  refine cP 2 hF ?_
  refine sP 1 [.agg (rc rb0 (0 : Int) false false (.slice none 0 0)).toArray] ?_
  refine SeqK.eff (k' := 2) (Does.store (b := h6.size) (off := 0) (vs := rc rb0 (0 : Int) false false (.slice none 0 0)) (l := rc rb0 (0 : Int) false false (.slice none 0 0)) (by kernel_rfl) m13 (of_decide_eq_true (by kernel_rfl)) (List.all_eq_true.1 (by kernel_rfl))) rfl ?_
  rintro _ h16 ⟨rfl,hh⟩
  have g17 : Grew (some (h6.size)) h11 h16 := hput_gr hh
  replace m13 : h16[h6.size]? = some (.cells (rc rb0 (0 : Int) false false (.slice none 0 0)).toArray 26) := hput_at (off := 0) (vs := rc rb0 (0 : Int) false false (.slice none 0 0)) (l := (rc rb0 (0 : Int) false false (.slice none 0 0))) hh (by kernel_rfl) m13
  clear hh
  replace e0 := e0.grew g17 (sep.low 0 rfl)
  replace m3 := Grew.blk g17 m3 ((sep.bp 2 0))
  replace m8 := Grew.blk g17 m8 ((sep.bp 1 0))
  replace sep := sep.up g17.size
  refine sP 3 [.int .i64 1] ?_
  refine sD [(4,pV h6.size),(5,.int .i64 1)] ?_
  clear hF a; intro a hF
  refine tK ?_
  refine cR ?_
  show retK Try.prog Try.f12 (fun v h' => v = .tuple #[.agg (rc rb0 (0 : Int) false false (.slice none 0 0)).toArray,.int .i64 1] ∧ Ext h h') .ret a h16
  refine ret_ok [.cell 4 26,.tmp 5] [.agg (rc rb0 (0 : Int) false false (.slice none 0 0)).toArray,.int .i64 1] (.tuple #[.agg (rc rb0 (0 : Int) false false (.slice none 0 0)).toArray,.int .i64 1]) rfl hF ⟨⟨_,rfl,Loads.blk (vs := rc rb0 (0 : Int) false false (.slice none 0 0)) (by kernel_rfl) m13 rfl⟩,rfl,trivial⟩ rfl ?_
  exact ⟨rfl,e0⟩
 ·skip
  refine cP 1 hF ?_
  refine sC 1 (.int .i64 u) (Calm.load (T := 3) (p := ⟨h1.size,0,none⟩) (by kernel_rfl) (Loads.one (k := 1) (by kernel_rfl) ((hcell_blk m8).trans rfl))) ?_
  refine s1 2 (.bool false) (.bool (decide (u < (0 : Int)))) (congrArg Value.bool (decide_eq_false (by omega))) ?_
  refine sP 3 [.bool false] ?_
  refine sC 4 (.int .i64 u) (Calm.load (T := 3) (p := ⟨h1.size,0,none⟩) (by kernel_rfl) (Loads.one (k := 1) (by kernel_rfl) ((hcell_blk m8).trans rfl))) ?_
  refine s1 5 (.bool true) (.bool (decide ((1099511627776 : Int) < u))) (congrArg Value.bool (decide_eq_true (by omega))) ?_
  refine sP 7 [.bool true,.bool true] ?_
  refine sD [(2,pV h.size),(3,pV h1.size),(4,pV h6.size),(6,.bool true)] ?_
  clear hF a; intro a hF
  refine tK ?_
  refine cT 6 hF ?_
  refine cS ?_
  refine cP 2 hF ?_
  refine sP 1 [.agg (rc rb0 (0 : Int) false false (.slice none 0 0)).toArray] ?_
  refine SeqK.eff (k' := 2) (Does.store (b := h6.size) (off := 0) (vs := rc rb0 (0 : Int) false false (.slice none 0 0)) (l := rc rb0 (0 : Int) false false (.slice none 0 0)) (by kernel_rfl) m13 (of_decide_eq_true (by kernel_rfl)) (List.all_eq_true.1 (by kernel_rfl))) rfl ?_
  rintro _ h18 ⟨rfl,hh⟩
  have g19 : Grew (some (h6.size)) h11 h18 := hput_gr hh
  replace m13 : h18[h6.size]? = some (.cells (rc rb0 (0 : Int) false false (.slice none 0 0)).toArray 26) := hput_at (off := 0) (vs := rc rb0 (0 : Int) false false (.slice none 0 0)) (l := (rc rb0 (0 : Int) false false (.slice none 0 0))) hh (by kernel_rfl) m13
  clear hh
  replace e0 := e0.grew g19 (sep.low 0 rfl)
  replace m3 := Grew.blk g19 m3 ((sep.bp 2 0))
  replace m8 := Grew.blk g19 m8 ((sep.bp 1 0))
  replace sep := sep.up g19.size
  refine sP 3 [.int .i64 1] ?_
  refine sD [(4,pV h6.size),(5,.int .i64 1)] ?_
  clear hF a; intro a hF
  refine tK ?_
  refine cR ?_
  show retK Try.prog Try.f12 (fun v h' => v = .tuple #[.agg (rc rb0 (0 : Int) false false (.slice none 0 0)).toArray,.int .i64 1] ∧ Ext h h') .ret a h18
  refine ret_ok [.cell 4 26,.tmp 5] [.agg (rc rb0 (0 : Int) false false (.slice none 0 0)).toArray,.int .i64 1] (.tuple #[.agg (rc rb0 (0 : Int) false false (.slice none 0 0)).toArray,.int .i64 1]) rfl hF ⟨⟨_,rfl,Loads.blk (vs := rc rb0 (0 : Int) false false (.slice none 0 0)) (by kernel_rfl) m13 rfl⟩,rfl,trivial⟩ rfl ?_
  exact ⟨rfl,e0⟩
theorem lock_gone (h : Heap) (x : RB) (e : Int) (ho : Bool) (L : List Pl) (va : Option Addr) (vc : Nat) (u : Int) (hu0 : 0 ≤ u) (hu : u ≤ 1099511627776) : Sat Try.prog 12 #[.agg (rc x e ho true (.slice va L.length vc)).toArray,.int .i64 u] h fun v h' => v = .tuple #[.agg (rc rb0 (0 : Int) false false (.slice none 0 0)).toArray,.int .i64 213] ∧ Ext h h' := by
 have e0 := Ext.refl h
 have sep : Sep h.size h.size [] := Sep.nil _ _
 refine sat_of (args := [.agg (rc x e ho true (.slice va L.length vc)).toArray,.int .i64 u]) (fn := Try.f12) (B := b12) (n := 21) (L := [(0,.agg (rc x e ho true (.slice va L.length vc)).toArray),(1,.int .i64 u)]) Try.func12 rfl (by kernel_rfl) rfl ?_
 intro a hF
 refine cS ?_
 refine cP 0 hF ?_
 refine SeqK.eff (k' := 1) (Does.new (v := .pointer (some ⟨h.size,0,none⟩)) (o := .cells (rc x e ho true (.slice va L.length vc)).toArray 26) (by kernel_rfl)) rfl ?_
 rintro _ h1 ⟨rfl,hh⟩
 have g2 : Ext h h1 := push_ext hh
 have m3 : h1[h.size]? = some (.cells (rc x e ho true (.slice va L.length vc)).toArray 26) := push_at hh
 clear hh
 have lt4 := blk_lt m3
 have zs5 := e0.size
 have hlo := e0.size
 have sepo := sep
 replace e0 := e0.ext g2
 replace sep := sep.up g2.size
 replace sep := sepo.new hlo (blk_lt m3)
 clear sepo hlo
 refine SeqK.eff (k' := 2) (Does.new (v := .pointer (some ⟨h1.size,0,none⟩)) (o := .cells #[.int .i64 u] 3) (by kernel_rfl)) rfl ?_
 rintro _ h6 ⟨rfl,hh⟩
 have g7 : Ext h1 h6 := push_ext hh
 have m8 : h6[h1.size]? = some (.cells #[.int .i64 u] 3) := push_at hh
 clear hh
 have lt9 := blk_lt m8
 have zs10 := e0.size
 have hlo := e0.size
 have sepo := sep
 replace e0 := e0.ext g7
 replace m3 := Ext.blk g7 m3
 replace sep := sep.up g7.size
 replace sep := sepo.new hlo (blk_lt m8)
 clear sepo hlo
 refine SeqK.eff (k' := 3) (Does.new (v := .pointer (some ⟨h6.size,0,none⟩)) (o := .cells (rc rb0 (0 : Int) false false (.slice none 0 0)).toArray 26) (by kernel_rfl)) rfl ?_
 rintro _ h11 ⟨rfl,hh⟩
 have g12 : Ext h6 h11 := push_ext hh
 have m13 : h11[h6.size]? = some (.cells (rc rb0 (0 : Int) false false (.slice none 0 0)).toArray 26) := push_at hh
 clear hh
 have lt14 := blk_lt m13
 have zs15 := e0.size
 have hlo := e0.size
 have sepo := sep
 replace e0 := e0.ext g12
 replace m3 := Ext.blk g12 m3
 replace m8 := Ext.blk g12 m8
 replace sep := sep.up g12.size
 replace sep := sepo.new hlo (blk_lt m13)
 clear sepo hlo
 refine sP 4 [.int .i64 0] ?_
 refine sD [(2,pV h.size),(3,pV h1.size),(4,pV h6.size)] ?_
 clear hF a; intro a hF
 refine tK ?_
 refine cS ?_
 refine cB 0 ?_
 refine cS ?_
 refine cP 1 hF ?_
 refine sC 1 (.int .i64 u) (Calm.load (T := 3) (p := ⟨h1.size,0,none⟩) (by kernel_rfl) (Loads.one (k := 1) (by kernel_rfl) ((hcell_blk m8).trans rfl))) ?_
 refine s1 2 (.bool false) (.bool (decide (u < (0 : Int)))) (congrArg Value.bool (decide_eq_false (by omega))) ?_
 refine sP 3 [.bool false] ?_
 refine sC 4 (.int .i64 u) (Calm.load (T := 3) (p := ⟨h1.size,0,none⟩) (by kernel_rfl) (Loads.one (k := 1) (by kernel_rfl) ((hcell_blk m8).trans rfl))) ?_
 refine s1 5 (.bool false) (.bool (decide ((1099511627776 : Int) < u))) (congrArg Value.bool (decide_eq_false (by omega))) ?_
 refine sP 7 [.bool false,.bool false] ?_
 refine sD [(2,pV h.size),(3,pV h1.size),(4,pV h6.size),(6,.bool false)] ?_
 clear hF a; intro a hF
 refine tK ?_
 refine cF 6 hF ?_
 refine cS ?_
 refine cP 3 hF ?_
 refine sP 1 [.pointer (some ⟨h.size,37,none⟩)] ?_
 refine sC 2 (.bool true) (Calm.load (T := 4) (p := ⟨h.size,37,none⟩) (by kernel_rfl) (Loads.one (k := 1) (by kernel_rfl) ((hcell_blk m3).trans (rfl)))) ?_
 refine sP 3 [.bool true] ?_
 refine sD [(2,pV h.size),(3,pV h1.size),(4,pV h6.size),(14,.bool true)] ?_
 clear hF a; intro a hF
 refine tK ?_
 refine cT 14 hF ?_
 refine cS ?_
 refine cP 4 hF ?_
 refine sP 1 [.agg (rc rb0 (0 : Int) false false (.slice none 0 0)).toArray] ?_
 refine SeqK.eff (k' := 2) (Does.store (b := h6.size) (off := 0) (vs := rc rb0 (0 : Int) false false (.slice none 0 0)) (l := rc rb0 (0 : Int) false false (.slice none 0 0)) (by kernel_rfl) m13 (of_decide_eq_true (by kernel_rfl)) (List.all_eq_true.1 (by kernel_rfl))) rfl ?_
 rintro _ h16 ⟨rfl,hh⟩
 have g17 : Grew (some (h6.size)) h11 h16 := hput_gr hh
 replace m13 : h16[h6.size]? = some (.cells (rc rb0 (0 : Int) false false (.slice none 0 0)).toArray 26) := hput_at (off := 0) (vs := rc rb0 (0 : Int) false false (.slice none 0 0)) (l := (rc rb0 (0 : Int) false false (.slice none 0 0))) hh (by kernel_rfl) m13
 clear hh
 replace e0 := e0.grew g17 (sep.low 0 rfl)
 replace m3 := Grew.blk g17 m3 ((sep.bp 2 0))
 replace m8 := Grew.blk g17 m8 ((sep.bp 1 0))
 replace sep := sep.up g17.size
 refine sP 3 [.int .i64 213] ?_
 refine sD [(4,pV h6.size),(5,.int .i64 213)] ?_
 clear hF a; intro a hF
 refine tK ?_
 refine cR ?_
 show retK Try.prog Try.f12 (fun v h' => v = .tuple #[.agg (rc rb0 (0 : Int) false false (.slice none 0 0)).toArray,.int .i64 213] ∧ Ext h h') .ret a h16
 refine ret_ok [.cell 4 26,.tmp 5] [.agg (rc rb0 (0 : Int) false false (.slice none 0 0)).toArray,.int .i64 213] (.tuple #[.agg (rc rb0 (0 : Int) false false (.slice none 0 0)).toArray,.int .i64 213]) rfl hF ⟨⟨_,rfl,Loads.blk (vs := rc rb0 (0 : Int) false false (.slice none 0 0)) (by kernel_rfl) m13 rfl⟩,rfl,trivial⟩ rfl ?_
 exact ⟨rfl,e0⟩
theorem lock_ok (h : Heap) (x : RB) (e : Int) (ho : Bool) (L : List Pl) (va : Option Addr) (vc : Nat) (hr : Row h (.slice va L.length vc) L.length 4 (prow L)) (hL : L.length ≤ 1099511627776) (u : Int) (hu0 : 0 ≤ u) (hu : u ≤ 1099511627776) : Sat Try.prog 12 #[.agg (rc x e ho false (.slice va L.length vc)).toArray,.int .i64 u] h fun v h' => ∃ c,v = .tuple #[.agg (rc x (max e u) ho false c).toArray,.int .i64 0] ∧ PNew h h' 49 c L := by
 have e0 := Ext.refl h
 have sep : Sep h.size h.size [] := Sep.nil _ _
 refine sat_of (args := [.agg (rc x e ho false (.slice va L.length vc)).toArray,.int .i64 u]) (fn := Try.f12) (B := b12) (n := 21) (L := [(0,.agg (rc x e ho false (.slice va L.length vc)).toArray),(1,.int .i64 u)]) Try.func12 rfl (by kernel_rfl) rfl ?_
 intro a hF
 refine cS ?_
 refine cP 0 hF ?_
 refine SeqK.eff (k' := 1) (Does.new (v := .pointer (some ⟨h.size,0,none⟩)) (o := .cells (rc x e ho false (.slice va L.length vc)).toArray 26) (by kernel_rfl)) rfl ?_
 rintro _ h1 ⟨rfl,hh⟩
 have g2 : Ext h h1 := push_ext hh
 have m3 : h1[h.size]? = some (.cells (rc x e ho false (.slice va L.length vc)).toArray 26) := push_at hh
 clear hh
 have lt4 := blk_lt m3
 have zs5 := e0.size
 have hlo := e0.size
 have sepo := sep
 replace e0 := e0.ext g2
 replace sep := sep.up g2.size
 replace sep := sepo.new hlo (blk_lt m3)
 clear sepo hlo
 refine SeqK.eff (k' := 2) (Does.new (v := .pointer (some ⟨h1.size,0,none⟩)) (o := .cells #[.int .i64 u] 3) (by kernel_rfl)) rfl ?_
 rintro _ h6 ⟨rfl,hh⟩
 have g7 : Ext h1 h6 := push_ext hh
 have m8 : h6[h1.size]? = some (.cells #[.int .i64 u] 3) := push_at hh
 clear hh
 have lt9 := blk_lt m8
 have zs10 := e0.size
 have hlo := e0.size
 have sepo := sep
 replace e0 := e0.ext g7
 replace m3 := Ext.blk g7 m3
 replace sep := sep.up g7.size
 replace sep := sepo.new hlo (blk_lt m8)
 clear sepo hlo
 refine SeqK.eff (k' := 3) (Does.new (v := .pointer (some ⟨h6.size,0,none⟩)) (o := .cells (rc rb0 (0 : Int) false false (.slice none 0 0)).toArray 26) (by kernel_rfl)) rfl ?_
 rintro _ h11 ⟨rfl,hh⟩
 have g12 : Ext h6 h11 := push_ext hh
 have m13 : h11[h6.size]? = some (.cells (rc rb0 (0 : Int) false false (.slice none 0 0)).toArray 26) := push_at hh
 clear hh
 have lt14 := blk_lt m13
 have zs15 := e0.size
 have hlo := e0.size
 have sepo := sep
 replace e0 := e0.ext g12
 replace m3 := Ext.blk g12 m3
 replace m8 := Ext.blk g12 m8
 replace sep := sep.up g12.size
 replace sep := sepo.new hlo (blk_lt m13)
 clear sepo hlo
 refine sP 4 [.int .i64 0] ?_
 refine sD [(2,pV h.size),(3,pV h1.size),(4,pV h6.size)] ?_
 clear hF a; intro a hF
 refine tK ?_
 refine cS ?_
 refine cB 0 ?_
 refine cS ?_
 refine cP 1 hF ?_
 refine sC 1 (.int .i64 u) (Calm.load (T := 3) (p := ⟨h1.size,0,none⟩) (by kernel_rfl) (Loads.one (k := 1) (by kernel_rfl) ((hcell_blk m8).trans rfl))) ?_
 refine s1 2 (.bool false) (.bool (decide (u < (0 : Int)))) (congrArg Value.bool (decide_eq_false (by omega))) ?_
 refine sP 3 [.bool false] ?_
 refine sC 4 (.int .i64 u) (Calm.load (T := 3) (p := ⟨h1.size,0,none⟩) (by kernel_rfl) (Loads.one (k := 1) (by kernel_rfl) ((hcell_blk m8).trans rfl))) ?_
 refine s1 5 (.bool false) (.bool (decide ((1099511627776 : Int) < u))) (congrArg Value.bool (decide_eq_false (by omega))) ?_
 refine sP 7 [.bool false,.bool false] ?_
 refine sD [(2,pV h.size),(3,pV h1.size),(4,pV h6.size),(6,.bool false)] ?_
 clear hF a; intro a hF
 refine tK ?_
 refine cF 6 hF ?_
 refine cS ?_
 refine cP 3 hF ?_
 refine sP 1 [.pointer (some ⟨h.size,37,none⟩)] ?_
 refine sC 2 (.bool false) (Calm.load (T := 4) (p := ⟨h.size,37,none⟩) (by kernel_rfl) (Loads.one (k := 1) (by kernel_rfl) ((hcell_blk m3).trans (rfl)))) ?_
 refine sP 3 [.bool false] ?_
 refine sD [(2,pV h.size),(3,pV h1.size),(4,pV h6.size),(14,.bool false)] ?_
 clear hF a; intro a hF
 refine tK ?_
 refine cF 14 hF ?_
 refine cN ?_
 show C Try.prog (sub b12 [1,1]) _ a h11
 refine cS ?_
 refine cP 5 hF ?_
 refine sC 1 (.agg (rc x e ho false (.slice va L.length vc)).toArray) (Calm.load (T := 26) (p := ⟨h.size,0,none⟩) (by kernel_rfl) (Loads.blk (vs := rc x e ho false (.slice va L.length vc)) (by kernel_rfl) m3 rfl)) ?_
 refine sP 2 [.func (.func 24) #[] #[pV h1.size]] ?_
 refine SeqK.eff (k' := 3) (Does.call (f := 23) (args := #[.agg (rc x e ho false (.slice va L.length vc)).toArray,.func (.func 24) #[] #[.pointer (some ⟨h1.size,0,none⟩)]]) (by kernel_rfl) (turned_lock _ x e ho false L va vc (hr.ext e0) hL _ u m8)) rfl ?_
 rintro _ h18 ⟨_,rfl,ad16,cap17,rfl,ownx,hge,g⟩
 have hlo := e0.size
 have sepo := sep
 replace e0 := e0.ext g
 replace m3 := Ext.blk g m3
 replace m8 := Ext.blk g m8
 replace m13 := Ext.blk g m13
 replace sep := sep.up g.size
 replace sep := sepo.cons (x := ad16.map (fun (x : Addr) => x.block)) g.size hlo (fun k e => ⟨hge k e,ownx.lt (by rw [blkOf_slice]; exact e)⟩)
 have own_c : Own h18 (.slice ad16 L.length cap17) 49 L.length 4 (prow L) := ownx; clear ownx sepo hlo hge g
 refine SeqK.eff (k' := 4) (Does.store (b := h6.size) (off := 0) (vs := rc x (max e u) ho false (.slice ad16 L.length cap17)) (l := rc rb0 (0 : Int) false false (.slice none 0 0)) (by kernel_rfl) m13 (of_decide_eq_true (by kernel_rfl)) (List.all_eq_true.1 (by kernel_rfl))) rfl ?_
 rintro _ h19 ⟨rfl,hh⟩
 have g20 : Grew (some (h6.size)) h18 h19 := hput_gr hh
 replace m13 : h19[h6.size]? = some (.cells (rc x (max e u) ho false (.slice ad16 L.length cap17)).toArray 26) := hput_at (off := 0) (vs := rc x (max e u) ho false (.slice ad16 L.length cap17)) (l := (rc rb0 (0 : Int) false false (.slice none 0 0))) hh (by kernel_rfl) m13
 clear hh
 replace e0 := e0.grew g20 (sep.low 1 rfl)
 replace own_c := own_c.kept g20 (by rw [blkOf_slice]; exact (sep.ap 0 1))
 replace m3 := Grew.blk g20 m3 ((sep.bp 3 1))
 replace m8 := Grew.blk g20 m8 ((sep.bp 2 1))
 replace sep := sep.up g20.size
 refine sP 5 [.int .i64 0] ?_
 refine sD [(4,pV h6.size),(5,.int .i64 0)] ?_
 clear hF a; intro a hF
 refine tK ?_
 refine cR ?_
 show retK Try.prog Try.f12 (fun v h' => ∃ c,v = .tuple #[.agg (rc x (max e u) ho false c).toArray,.int .i64 0] ∧ PNew h h' 49 c L) .ret a h19
 refine ret_ok [.cell 4 26,.tmp 5] [.agg (rc x (max e u) ho false (.slice ad16 L.length cap17)).toArray,.int .i64 0] (.tuple #[.agg (rc x (max e u) ho false (.slice ad16 L.length cap17)).toArray,.int .i64 0]) rfl hF ⟨⟨_,rfl,Loads.blk (vs := rc x (max e u) ho false (.slice ad16 L.length cap17)) (by kernel_rfl) m13 rfl⟩,rfl,trivial⟩ rfl ?_
 exact ⟨_,rfl,⟨_,_,rfl,own_c,sep.low 0 rfl,e0⟩⟩
noncomputable def b16 : Code := Try.f16.body.getD .skip
theorem hold_gone (h : Heap) (x : RB) (e : Int) (ho : Bool) (L : List Pl) (va : Option Addr) (vc : Nat) (on : Bool) : Sat Try.prog 16 #[.agg (rc x e ho true (.slice va L.length vc)).toArray,.bool on] h fun v h' => v = .tuple #[.agg (rc rb0 (0 : Int) false false (.slice none 0 0)).toArray,.int .i64 213] ∧ Ext h h' := by
 have e0 := Ext.refl h
 have sep : Sep h.size h.size [] := Sep.nil _ _
 refine sat_of (args := [.agg (rc x e ho true (.slice va L.length vc)).toArray,.bool on]) (fn := Try.f16) (B := b16) (n := 12) (L := [(0,.agg (rc x e ho true (.slice va L.length vc)).toArray),(1,.bool on)]) Try.func16 rfl (by kernel_rfl) rfl ?_
 intro a hF
 refine cS ?_
 refine cP 0 hF ?_
 refine SeqK.eff (k' := 1) (Does.new (v := .pointer (some ⟨h.size,0,none⟩)) (o := .cells (rc x e ho true (.slice va L.length vc)).toArray 26) (by kernel_rfl)) rfl ?_
 rintro _ h1 ⟨rfl,hh⟩
 have g2 : Ext h h1 := push_ext hh
 have m3 : h1[h.size]? = some (.cells (rc x e ho true (.slice va L.length vc)).toArray 26) := push_at hh
 clear hh
 have lt4 := blk_lt m3
 have zs5 := e0.size
 have hlo := e0.size
 have sepo := sep
 replace e0 := e0.ext g2
 replace sep := sep.up g2.size
 replace sep := sepo.new hlo (blk_lt m3)
 clear sepo hlo
 refine SeqK.eff (k' := 2) (Does.new (v := .pointer (some ⟨h1.size,0,none⟩)) (o := .cells #[.bool on] 4) (by kernel_rfl)) rfl ?_
 rintro _ h6 ⟨rfl,hh⟩
 have g7 : Ext h1 h6 := push_ext hh
 have m8 : h6[h1.size]? = some (.cells #[.bool on] 4) := push_at hh
 clear hh
 have lt9 := blk_lt m8
 have zs10 := e0.size
 have hlo := e0.size
 have sepo := sep
 replace e0 := e0.ext g7
 replace m3 := Ext.blk g7 m3
 replace sep := sep.up g7.size
 replace sep := sepo.new hlo (blk_lt m8)
 clear sepo hlo
 refine SeqK.eff (k' := 3) (Does.new (v := .pointer (some ⟨h6.size,0,none⟩)) (o := .cells (rc rb0 (0 : Int) false false (.slice none 0 0)).toArray 26) (by kernel_rfl)) rfl ?_
 rintro _ h11 ⟨rfl,hh⟩
 have g12 : Ext h6 h11 := push_ext hh
 have m13 : h11[h6.size]? = some (.cells (rc rb0 (0 : Int) false false (.slice none 0 0)).toArray 26) := push_at hh
 clear hh
 have lt14 := blk_lt m13
 have zs15 := e0.size
 have hlo := e0.size
 have sepo := sep
 replace e0 := e0.ext g12
 replace m3 := Ext.blk g12 m3
 replace m8 := Ext.blk g12 m8
 replace sep := sep.up g12.size
 replace sep := sepo.new hlo (blk_lt m13)
 clear sepo hlo
 refine sP 4 [.int .i64 0] ?_
 refine sD [(2,pV h.size),(3,pV h1.size),(4,pV h6.size)] ?_
 clear hF a; intro a hF
 refine tK ?_
 refine cS ?_
 refine cS ?_
 refine cP 1 hF ?_
 refine sP 1 [.pointer (some ⟨h.size,37,none⟩)] ?_
 refine sC 2 (.bool true) (Calm.load (T := 4) (p := ⟨h.size,37,none⟩) (by kernel_rfl) (Loads.one (k := 1) (by kernel_rfl) ((hcell_blk m3).trans (rfl)))) ?_
 refine sD [(2,pV h.size),(3,pV h1.size),(4,pV h6.size),(7,.bool true)] ?_
 clear hF a; intro a hF
 refine tK ?_
 refine cT 7 hF ?_
 refine cS ?_
 refine cP 2 hF ?_
 refine sP 1 [.agg (rc rb0 (0 : Int) false false (.slice none 0 0)).toArray] ?_
 refine SeqK.eff (k' := 2) (Does.store (b := h6.size) (off := 0) (vs := rc rb0 (0 : Int) false false (.slice none 0 0)) (l := rc rb0 (0 : Int) false false (.slice none 0 0)) (by kernel_rfl) m13 (of_decide_eq_true (by kernel_rfl)) (List.all_eq_true.1 (by kernel_rfl))) rfl ?_
 rintro _ h16 ⟨rfl,hh⟩
 have g17 : Grew (some (h6.size)) h11 h16 := hput_gr hh
 replace m13 : h16[h6.size]? = some (.cells (rc rb0 (0 : Int) false false (.slice none 0 0)).toArray 26) := hput_at (off := 0) (vs := rc rb0 (0 : Int) false false (.slice none 0 0)) (l := (rc rb0 (0 : Int) false false (.slice none 0 0))) hh (by kernel_rfl) m13
 clear hh
 replace e0 := e0.grew g17 (sep.low 0 rfl)
 replace m3 := Grew.blk g17 m3 ((sep.bp 2 0))
 replace m8 := Grew.blk g17 m8 ((sep.bp 1 0))
 replace sep := sep.up g17.size
 refine sP 3 [.int .i64 213] ?_
 refine sD [(4,pV h6.size),(5,.int .i64 213)] ?_
 clear hF a; intro a hF
 refine tK ?_
 refine cR ?_
 show retK Try.prog Try.f16 (fun v h' => v = .tuple #[.agg (rc rb0 (0 : Int) false false (.slice none 0 0)).toArray,.int .i64 213] ∧ Ext h h') .ret a h16
 refine ret_ok [.cell 4 26,.tmp 5] [.agg (rc rb0 (0 : Int) false false (.slice none 0 0)).toArray,.int .i64 213] (.tuple #[.agg (rc rb0 (0 : Int) false false (.slice none 0 0)).toArray,.int .i64 213]) rfl hF ⟨⟨_,rfl,Loads.blk (vs := rc rb0 (0 : Int) false false (.slice none 0 0)) (by kernel_rfl) m13 rfl⟩,rfl,trivial⟩ rfl ?_
 exact ⟨rfl,e0⟩
theorem hold_ok (h : Heap) (x : RB) (e : Int) (ho : Bool) (L : List Pl) (va : Option Addr) (vc : Nat) (hr : Row h (.slice va L.length vc) L.length 4 (prow L)) (hL : L.length ≤ 1099511627776) (on : Bool) : Sat Try.prog 16 #[.agg (rc x e ho false (.slice va L.length vc)).toArray,.bool on] h fun v h' => ∃ c,v = .tuple #[.agg (rc x e on false c).toArray,.int .i64 0] ∧ PNew h h' 49 c L := by
 have e0 := Ext.refl h
 have sep : Sep h.size h.size [] := Sep.nil _ _
 refine sat_of (args := [.agg (rc x e ho false (.slice va L.length vc)).toArray,.bool on]) (fn := Try.f16) (B := b16) (n := 12) (L := [(0,.agg (rc x e ho false (.slice va L.length vc)).toArray),(1,.bool on)]) Try.func16 rfl (by kernel_rfl) rfl ?_
 intro a hF
 refine cS ?_
 refine cP 0 hF ?_
 refine SeqK.eff (k' := 1) (Does.new (v := .pointer (some ⟨h.size,0,none⟩)) (o := .cells (rc x e ho false (.slice va L.length vc)).toArray 26) (by kernel_rfl)) rfl ?_
 rintro _ h1 ⟨rfl,hh⟩
 have g2 : Ext h h1 := push_ext hh
 have m3 : h1[h.size]? = some (.cells (rc x e ho false (.slice va L.length vc)).toArray 26) := push_at hh
 clear hh
 have lt4 := blk_lt m3
 have zs5 := e0.size
 have hlo := e0.size
 have sepo := sep
 replace e0 := e0.ext g2
 replace sep := sep.up g2.size
 replace sep := sepo.new hlo (blk_lt m3)
 clear sepo hlo
 refine SeqK.eff (k' := 2) (Does.new (v := .pointer (some ⟨h1.size,0,none⟩)) (o := .cells #[.bool on] 4) (by kernel_rfl)) rfl ?_
 rintro _ h6 ⟨rfl,hh⟩
 have g7 : Ext h1 h6 := push_ext hh
 have m8 : h6[h1.size]? = some (.cells #[.bool on] 4) := push_at hh
 clear hh
 have lt9 := blk_lt m8
 have zs10 := e0.size
 have hlo := e0.size
 have sepo := sep
 replace e0 := e0.ext g7
 replace m3 := Ext.blk g7 m3
 replace sep := sep.up g7.size
 replace sep := sepo.new hlo (blk_lt m8)
 clear sepo hlo
 refine SeqK.eff (k' := 3) (Does.new (v := .pointer (some ⟨h6.size,0,none⟩)) (o := .cells (rc rb0 (0 : Int) false false (.slice none 0 0)).toArray 26) (by kernel_rfl)) rfl ?_
 rintro _ h11 ⟨rfl,hh⟩
 have g12 : Ext h6 h11 := push_ext hh
 have m13 : h11[h6.size]? = some (.cells (rc rb0 (0 : Int) false false (.slice none 0 0)).toArray 26) := push_at hh
 clear hh
 have lt14 := blk_lt m13
 have zs15 := e0.size
 have hlo := e0.size
 have sepo := sep
 replace e0 := e0.ext g12
 replace m3 := Ext.blk g12 m3
 replace m8 := Ext.blk g12 m8
 replace sep := sep.up g12.size
 replace sep := sepo.new hlo (blk_lt m13)
 clear sepo hlo
 refine sP 4 [.int .i64 0] ?_
 refine sD [(2,pV h.size),(3,pV h1.size),(4,pV h6.size)] ?_
 clear hF a; intro a hF
 refine tK ?_
 refine cS ?_
 refine cS ?_
 refine cP 1 hF ?_
 refine sP 1 [.pointer (some ⟨h.size,37,none⟩)] ?_
 refine sC 2 (.bool false) (Calm.load (T := 4) (p := ⟨h.size,37,none⟩) (by kernel_rfl) (Loads.one (k := 1) (by kernel_rfl) ((hcell_blk m3).trans (rfl)))) ?_
 refine sD [(2,pV h.size),(3,pV h1.size),(4,pV h6.size),(7,.bool false)] ?_
 clear hF a; intro a hF
 refine tK ?_
 refine cF 7 hF ?_
 refine cN ?_
 refine tK ?_
 refine cS ?_
 refine cP 3 hF ?_
 refine sC 1 (.agg (rc x e ho false (.slice va L.length vc)).toArray) (Calm.load (T := 26) (p := ⟨h.size,0,none⟩) (by kernel_rfl) (Loads.blk (vs := rc x e ho false (.slice va L.length vc)) (by kernel_rfl) m3 rfl)) ?_
 refine sP 2 [.func (.func 26) #[] #[pV h1.size]] ?_
 refine SeqK.eff (k' := 3) (Does.call (f := 23) (args := #[.agg (rc x e ho false (.slice va L.length vc)).toArray,.func (.func 26) #[] #[.pointer (some ⟨h1.size,0,none⟩)]]) (by kernel_rfl) (turned_hold _ x e ho false L va vc (hr.ext e0) hL _ on m8)) rfl ?_
 rintro _ h18 ⟨_,rfl,ad16,cap17,rfl,ownx,hge,g⟩
 have hlo := e0.size
 have sepo := sep
 replace e0 := e0.ext g
 replace m3 := Ext.blk g m3
 replace m8 := Ext.blk g m8
 replace m13 := Ext.blk g m13
 replace sep := sep.up g.size
 replace sep := sepo.cons (x := ad16.map (fun (x : Addr) => x.block)) g.size hlo (fun k e => ⟨hge k e,ownx.lt (by rw [blkOf_slice]; exact e)⟩)
 have own_c : Own h18 (.slice ad16 L.length cap17) 49 L.length 4 (prow L) := ownx; clear ownx sepo hlo hge g
 refine SeqK.eff (k' := 4) (Does.store (b := h6.size) (off := 0) (vs := rc x e on false (.slice ad16 L.length cap17)) (l := rc rb0 (0 : Int) false false (.slice none 0 0)) (by kernel_rfl) m13 (of_decide_eq_true (by kernel_rfl)) (List.all_eq_true.1 (by kernel_rfl))) rfl ?_
 rintro _ h19 ⟨rfl,hh⟩
 have g20 : Grew (some (h6.size)) h18 h19 := hput_gr hh
 replace m13 : h19[h6.size]? = some (.cells (rc x e on false (.slice ad16 L.length cap17)).toArray 26) := hput_at (off := 0) (vs := rc x e on false (.slice ad16 L.length cap17)) (l := (rc rb0 (0 : Int) false false (.slice none 0 0))) hh (by kernel_rfl) m13
 clear hh
 replace e0 := e0.grew g20 (sep.low 1 rfl)
 replace own_c := own_c.kept g20 (by rw [blkOf_slice]; exact (sep.ap 0 1))
 replace m3 := Grew.blk g20 m3 ((sep.bp 3 1))
 replace m8 := Grew.blk g20 m8 ((sep.bp 2 1))
 replace sep := sep.up g20.size
 refine sP 5 [.int .i64 0] ?_
 refine sD [(4,pV h6.size),(5,.int .i64 0)] ?_
 clear hF a; intro a hF
 refine tK ?_
 refine cR ?_
 show retK Try.prog Try.f16 (fun v h' => ∃ c,v = .tuple #[.agg (rc x e on false c).toArray,.int .i64 0] ∧ PNew h h' 49 c L) .ret a h19
 refine ret_ok [.cell 4 26,.tmp 5] [.agg (rc x e on false (.slice ad16 L.length cap17)).toArray,.int .i64 0] (.tuple #[.agg (rc x e on false (.slice ad16 L.length cap17)).toArray,.int .i64 0]) rfl hF ⟨⟨_,rfl,Loads.blk (vs := rc x e on false (.slice ad16 L.length cap17)) (by kernel_rfl) m13 rfl⟩,rfl,trivial⟩ rfl ?_
 exact ⟨_,rfl,⟨_,_,rfl,own_c,sep.low 0 rfl,e0⟩⟩
noncomputable def b18 : Code := Try.f18.body.getD .skip
theorem del_gone (h : Heap) (x : RB) (e : Int) (ho : Bool) (L : List Pl) (va : Option Addr) (vc : Nat) (u : Int) : Sat Try.prog 18 #[.agg (rc x e ho true (.slice va L.length vc)).toArray,.int .i64 u] h fun v h' => v = .tuple #[.agg (rc rb0 (0 : Int) false false (.slice none 0 0)).toArray,.int .i64 213] ∧ Ext h h' := by
 have e0 := Ext.refl h
 have sep : Sep h.size h.size [] := Sep.nil _ _
 refine sat_of (args := [.agg (rc x e ho true (.slice va L.length vc)).toArray,.int .i64 u]) (fn := Try.f18) (B := b18) (n := 22) (L := [(0,.agg (rc x e ho true (.slice va L.length vc)).toArray),(1,.int .i64 u)]) Try.func18 rfl (by kernel_rfl) rfl ?_
 intro a hF
 refine cS ?_
 refine cP 0 hF ?_
 refine SeqK.eff (k' := 1) (Does.new (v := .pointer (some ⟨h.size,0,none⟩)) (o := .cells (rc x e ho true (.slice va L.length vc)).toArray 26) (by kernel_rfl)) rfl ?_
 rintro _ h1 ⟨rfl,hh⟩
 have g2 : Ext h h1 := push_ext hh
 have m3 : h1[h.size]? = some (.cells (rc x e ho true (.slice va L.length vc)).toArray 26) := push_at hh
 clear hh
 have lt4 := blk_lt m3
 have zs5 := e0.size
 have hlo := e0.size
 have sepo := sep
 replace e0 := e0.ext g2
 replace sep := sep.up g2.size
 replace sep := sepo.new hlo (blk_lt m3)
 clear sepo hlo
 refine SeqK.eff (k' := 2) (Does.new (v := .pointer (some ⟨h1.size,0,none⟩)) (o := .cells (rc rb0 (0 : Int) false false (.slice none 0 0)).toArray 26) (by kernel_rfl)) rfl ?_
 rintro _ h6 ⟨rfl,hh⟩
 have g7 : Ext h1 h6 := push_ext hh
 have m8 : h6[h1.size]? = some (.cells (rc rb0 (0 : Int) false false (.slice none 0 0)).toArray 26) := push_at hh
 clear hh
 have lt9 := blk_lt m8
 have zs10 := e0.size
 have hlo := e0.size
 have sepo := sep
 replace e0 := e0.ext g7
 replace m3 := Ext.blk g7 m3
 replace sep := sep.up g7.size
 replace sep := sepo.new hlo (blk_lt m8)
 clear sepo hlo
 refine sP 3 [.int .i64 0] ?_
 refine sD [(1,.int .i64 u),(2,pV h.size),(4,pV h1.size)] ?_
 clear hF a; intro a hF
 refine tK ?_
 refine cS ?_
 refine cB 0 ?_
 refine cS ?_
 refine cP 1 hF ?_
 refine sP 1 [.pointer (some ⟨h.size,37,none⟩)] ?_
 refine sC 2 (.bool true) (Calm.load (T := 4) (p := ⟨h.size,37,none⟩) (by kernel_rfl) (Loads.one (k := 1) (by kernel_rfl) ((hcell_blk m3).trans (rfl)))) ?_
 refine sP 3 [.bool true] ?_
 refine sD [(1,.int .i64 u),(2,pV h.size),(4,pV h1.size),(6,.bool true)] ?_
 clear hF a; intro a hF
 refine tK ?_
 refine cT 6 hF ?_
 refine cS ?_
 refine cP 2 hF ?_
 refine sP 1 [.agg (rc rb0 (0 : Int) false false (.slice none 0 0)).toArray] ?_
 refine SeqK.eff (k' := 2) (Does.store (b := h1.size) (off := 0) (vs := rc rb0 (0 : Int) false false (.slice none 0 0)) (l := rc rb0 (0 : Int) false false (.slice none 0 0)) (by kernel_rfl) m8 (of_decide_eq_true (by kernel_rfl)) (List.all_eq_true.1 (by kernel_rfl))) rfl ?_
 rintro _ h11 ⟨rfl,hh⟩
 have g12 : Grew (some (h1.size)) h6 h11 := hput_gr hh
 replace m8 : h11[h1.size]? = some (.cells (rc rb0 (0 : Int) false false (.slice none 0 0)).toArray 26) := hput_at (off := 0) (vs := rc rb0 (0 : Int) false false (.slice none 0 0)) (l := (rc rb0 (0 : Int) false false (.slice none 0 0))) hh (by kernel_rfl) m8
 clear hh
 replace e0 := e0.grew g12 (sep.low 0 rfl)
 replace m3 := Grew.blk g12 m3 ((sep.bp 1 0))
 replace sep := sep.up g12.size
 refine sP 3 [.int .i64 213] ?_
 refine sD [(4,pV h1.size),(5,.int .i64 213)] ?_
 clear hF a; intro a hF
 refine tK ?_
 refine cR ?_
 show retK Try.prog Try.f18 (fun v h' => v = .tuple #[.agg (rc rb0 (0 : Int) false false (.slice none 0 0)).toArray,.int .i64 213] ∧ Ext h h') .ret a h11
 refine ret_ok [.cell 4 26,.tmp 5] [.agg (rc rb0 (0 : Int) false false (.slice none 0 0)).toArray,.int .i64 213] (.tuple #[.agg (rc rb0 (0 : Int) false false (.slice none 0 0)).toArray,.int .i64 213]) rfl hF ⟨⟨_,rfl,Loads.blk (vs := rc rb0 (0 : Int) false false (.slice none 0 0)) (by kernel_rfl) m8 rfl⟩,rfl,trivial⟩ rfl ?_
 exact ⟨rfl,e0⟩
theorem del_held (h : Heap) (x : RB) (e : Int)  (L : List Pl) (va : Option Addr) (vc : Nat) (u : Int) : Sat Try.prog 18 #[.agg (rc x e true false (.slice va L.length vc)).toArray,.int .i64 u] h fun v h' => v = .tuple #[.agg (rc rb0 (0 : Int) false false (.slice none 0 0)).toArray,.int .i64 214] ∧ Ext h h' := by
 have e0 := Ext.refl h
 have sep : Sep h.size h.size [] := Sep.nil _ _
 refine sat_of (args := [.agg (rc x e true false (.slice va L.length vc)).toArray,.int .i64 u]) (fn := Try.f18) (B := b18) (n := 22) (L := [(0,.agg (rc x e true false (.slice va L.length vc)).toArray),(1,.int .i64 u)]) Try.func18 rfl (by kernel_rfl) rfl ?_
 intro a hF
 refine cS ?_
 refine cP 0 hF ?_
 refine SeqK.eff (k' := 1) (Does.new (v := .pointer (some ⟨h.size,0,none⟩)) (o := .cells (rc x e true false (.slice va L.length vc)).toArray 26) (by kernel_rfl)) rfl ?_
 rintro _ h1 ⟨rfl,hh⟩
 have g2 : Ext h h1 := push_ext hh
 have m3 : h1[h.size]? = some (.cells (rc x e true false (.slice va L.length vc)).toArray 26) := push_at hh
 clear hh
 have lt4 := blk_lt m3
 have zs5 := e0.size
 have hlo := e0.size
 have sepo := sep
 replace e0 := e0.ext g2
 replace sep := sep.up g2.size
 replace sep := sepo.new hlo (blk_lt m3)
 clear sepo hlo
 refine SeqK.eff (k' := 2) (Does.new (v := .pointer (some ⟨h1.size,0,none⟩)) (o := .cells (rc rb0 (0 : Int) false false (.slice none 0 0)).toArray 26) (by kernel_rfl)) rfl ?_
 rintro _ h6 ⟨rfl,hh⟩
 have g7 : Ext h1 h6 := push_ext hh
 have m8 : h6[h1.size]? = some (.cells (rc rb0 (0 : Int) false false (.slice none 0 0)).toArray 26) := push_at hh
 clear hh
 have lt9 := blk_lt m8
 have zs10 := e0.size
 have hlo := e0.size
 have sepo := sep
 replace e0 := e0.ext g7
 replace m3 := Ext.blk g7 m3
 replace sep := sep.up g7.size
 replace sep := sepo.new hlo (blk_lt m8)
 clear sepo hlo
 refine sP 3 [.int .i64 0] ?_
 refine sD [(1,.int .i64 u),(2,pV h.size),(4,pV h1.size)] ?_
 clear hF a; intro a hF
 refine tK ?_
 refine cS ?_
 refine cB 0 ?_
 refine cS ?_
 refine cP 1 hF ?_
 refine sP 1 [.pointer (some ⟨h.size,37,none⟩)] ?_
 refine sC 2 (.bool false) (Calm.load (T := 4) (p := ⟨h.size,37,none⟩) (by kernel_rfl) (Loads.one (k := 1) (by kernel_rfl) ((hcell_blk m3).trans (rfl)))) ?_
 refine sP 3 [.bool false] ?_
 refine sD [(1,.int .i64 u),(2,pV h.size),(4,pV h1.size),(6,.bool false)] ?_
 clear hF a; intro a hF
 refine tK ?_
 refine cF 6 hF ?_
 refine cS ?_
 refine cP 3 hF ?_
 refine sP 1 [.pointer (some ⟨h.size,36,none⟩)] ?_
 refine sC 2 (.bool true) (Calm.load (T := 4) (p := ⟨h.size,36,none⟩) (by kernel_rfl) (Loads.one (k := 1) (by kernel_rfl) ((hcell_blk m3).trans (rfl)))) ?_
 refine sP 9 [.bool true,undef,undef,undef,undef,.bool true,.bool true] ?_
 refine sD [(2,pV h.size),(4,pV h1.size),(10,.bool true)] ?_
 clear hF a; intro a hF
 refine tK ?_
 refine cT 10 hF ?_
 refine cS ?_
 refine cP 4 hF ?_
 refine sP 1 [.agg (rc rb0 (0 : Int) false false (.slice none 0 0)).toArray] ?_
 refine SeqK.eff (k' := 2) (Does.store (b := h1.size) (off := 0) (vs := rc rb0 (0 : Int) false false (.slice none 0 0)) (l := rc rb0 (0 : Int) false false (.slice none 0 0)) (by kernel_rfl) m8 (of_decide_eq_true (by kernel_rfl)) (List.all_eq_true.1 (by kernel_rfl))) rfl ?_
 rintro _ h11 ⟨rfl,hh⟩
 have g12 : Grew (some (h1.size)) h6 h11 := hput_gr hh
 replace m8 : h11[h1.size]? = some (.cells (rc rb0 (0 : Int) false false (.slice none 0 0)).toArray 26) := hput_at (off := 0) (vs := rc rb0 (0 : Int) false false (.slice none 0 0)) (l := (rc rb0 (0 : Int) false false (.slice none 0 0))) hh (by kernel_rfl) m8
 clear hh
 replace e0 := e0.grew g12 (sep.low 0 rfl)
 replace m3 := Grew.blk g12 m3 ((sep.bp 1 0))
 replace sep := sep.up g12.size
 refine sP 3 [.int .i64 214] ?_
 refine sD [(4,pV h1.size),(5,.int .i64 214)] ?_
 clear hF a; intro a hF
 refine tK ?_
 refine cR ?_
 show retK Try.prog Try.f18 (fun v h' => v = .tuple #[.agg (rc rb0 (0 : Int) false false (.slice none 0 0)).toArray,.int .i64 214] ∧ Ext h h') .ret a h11
 refine ret_ok [.cell 4 26,.tmp 5] [.agg (rc rb0 (0 : Int) false false (.slice none 0 0)).toArray,.int .i64 214] (.tuple #[.agg (rc rb0 (0 : Int) false false (.slice none 0 0)).toArray,.int .i64 214]) rfl hF ⟨⟨_,rfl,Loads.blk (vs := rc rb0 (0 : Int) false false (.slice none 0 0)) (by kernel_rfl) m8 rfl⟩,rfl,trivial⟩ rfl ?_
 exact ⟨rfl,e0⟩
theorem del_soon (h : Heap) (x : RB) (e : Int)  (L : List Pl) (va : Option Addr) (vc : Nat) (u : Int) (hu : u < e) : Sat Try.prog 18 #[.agg (rc x e false false (.slice va L.length vc)).toArray,.int .i64 u] h fun v h' => v = .tuple #[.agg (rc rb0 (0 : Int) false false (.slice none 0 0)).toArray,.int .i64 214] ∧ Ext h h' := by
 have e0 := Ext.refl h
 have sep : Sep h.size h.size [] := Sep.nil _ _
 refine sat_of (args := [.agg (rc x e false false (.slice va L.length vc)).toArray,.int .i64 u]) (fn := Try.f18) (B := b18) (n := 22) (L := [(0,.agg (rc x e false false (.slice va L.length vc)).toArray),(1,.int .i64 u)]) Try.func18 rfl (by kernel_rfl) rfl ?_
 intro a hF
 refine cS ?_
 refine cP 0 hF ?_
 refine SeqK.eff (k' := 1) (Does.new (v := .pointer (some ⟨h.size,0,none⟩)) (o := .cells (rc x e false false (.slice va L.length vc)).toArray 26) (by kernel_rfl)) rfl ?_
 rintro _ h1 ⟨rfl,hh⟩
 have g2 : Ext h h1 := push_ext hh
 have m3 : h1[h.size]? = some (.cells (rc x e false false (.slice va L.length vc)).toArray 26) := push_at hh
 clear hh
 have lt4 := blk_lt m3
 have zs5 := e0.size
 have hlo := e0.size
 have sepo := sep
 replace e0 := e0.ext g2
 replace sep := sep.up g2.size
 replace sep := sepo.new hlo (blk_lt m3)
 clear sepo hlo
 refine SeqK.eff (k' := 2) (Does.new (v := .pointer (some ⟨h1.size,0,none⟩)) (o := .cells (rc rb0 (0 : Int) false false (.slice none 0 0)).toArray 26) (by kernel_rfl)) rfl ?_
 rintro _ h6 ⟨rfl,hh⟩
 have g7 : Ext h1 h6 := push_ext hh
 have m8 : h6[h1.size]? = some (.cells (rc rb0 (0 : Int) false false (.slice none 0 0)).toArray 26) := push_at hh
 clear hh
 have lt9 := blk_lt m8
 have zs10 := e0.size
 have hlo := e0.size
 have sepo := sep
 replace e0 := e0.ext g7
 replace m3 := Ext.blk g7 m3
 replace sep := sep.up g7.size
 replace sep := sepo.new hlo (blk_lt m8)
 clear sepo hlo
 refine sP 3 [.int .i64 0] ?_
 refine sD [(1,.int .i64 u),(2,pV h.size),(4,pV h1.size)] ?_
 clear hF a; intro a hF
 refine tK ?_
 refine cS ?_
 refine cB 0 ?_
 refine cS ?_
 refine cP 1 hF ?_
 refine sP 1 [.pointer (some ⟨h.size,37,none⟩)] ?_
 refine sC 2 (.bool false) (Calm.load (T := 4) (p := ⟨h.size,37,none⟩) (by kernel_rfl) (Loads.one (k := 1) (by kernel_rfl) ((hcell_blk m3).trans (rfl)))) ?_
 refine sP 3 [.bool false] ?_
 refine sD [(1,.int .i64 u),(2,pV h.size),(4,pV h1.size),(6,.bool false)] ?_
 clear hF a; intro a hF
 refine tK ?_
 refine cF 6 hF ?_
 refine cS ?_
 refine cP 3 hF ?_
 refine sP 1 [.pointer (some ⟨h.size,36,none⟩)] ?_
 refine sC 2 (.bool false) (Calm.load (T := 4) (p := ⟨h.size,36,none⟩) (by kernel_rfl) (Loads.one (k := 1) (by kernel_rfl) ((hcell_blk m3).trans (rfl)))) ?_
 refine sP 4 [.bool false,.pointer (some ⟨h.size,35,none⟩)] ?_
 refine sC 5 (.int .i64 e) (Calm.load (T := 3) (p := ⟨h.size,35,none⟩) (by kernel_rfl) (Loads.one (k := 1) (by kernel_rfl) ((hcell_blk m3).trans (rfl)))) ?_
 refine sP 6 [.int .i64 u] ?_
 refine s1 7 (.bool true) (.bool (decide (u < e))) (congrArg Value.bool (decide_eq_true (by omega))) ?_
 refine sP 9 [.bool true,.bool true] ?_
 refine sD [(2,pV h.size),(4,pV h1.size),(10,.bool true)] ?_
 clear hF a; intro a hF
 refine tK ?_
 refine cT 10 hF ?_
 refine cS ?_
 refine cP 4 hF ?_
 refine sP 1 [.agg (rc rb0 (0 : Int) false false (.slice none 0 0)).toArray] ?_
 refine SeqK.eff (k' := 2) (Does.store (b := h1.size) (off := 0) (vs := rc rb0 (0 : Int) false false (.slice none 0 0)) (l := rc rb0 (0 : Int) false false (.slice none 0 0)) (by kernel_rfl) m8 (of_decide_eq_true (by kernel_rfl)) (List.all_eq_true.1 (by kernel_rfl))) rfl ?_
 rintro _ h11 ⟨rfl,hh⟩
 have g12 : Grew (some (h1.size)) h6 h11 := hput_gr hh
 replace m8 : h11[h1.size]? = some (.cells (rc rb0 (0 : Int) false false (.slice none 0 0)).toArray 26) := hput_at (off := 0) (vs := rc rb0 (0 : Int) false false (.slice none 0 0)) (l := (rc rb0 (0 : Int) false false (.slice none 0 0))) hh (by kernel_rfl) m8
 clear hh
 replace e0 := e0.grew g12 (sep.low 0 rfl)
 replace m3 := Grew.blk g12 m3 ((sep.bp 1 0))
 replace sep := sep.up g12.size
 refine sP 3 [.int .i64 214] ?_
 refine sD [(4,pV h1.size),(5,.int .i64 214)] ?_
 clear hF a; intro a hF
 refine tK ?_
 refine cR ?_
 show retK Try.prog Try.f18 (fun v h' => v = .tuple #[.agg (rc rb0 (0 : Int) false false (.slice none 0 0)).toArray,.int .i64 214] ∧ Ext h h') .ret a h11
 refine ret_ok [.cell 4 26,.tmp 5] [.agg (rc rb0 (0 : Int) false false (.slice none 0 0)).toArray,.int .i64 214] (.tuple #[.agg (rc rb0 (0 : Int) false false (.slice none 0 0)).toArray,.int .i64 214]) rfl hF ⟨⟨_,rfl,Loads.blk (vs := rc rb0 (0 : Int) false false (.slice none 0 0)) (by kernel_rfl) m8 rfl⟩,rfl,trivial⟩ rfl ?_
 exact ⟨rfl,e0⟩
theorem del_ok (h : Heap) (x : RB) (e : Int)  (L : List Pl) (va : Option Addr) (vc : Nat) (hr : Row h (.slice va L.length vc) L.length 4 (prow L)) (hL : L.length ≤ 1099511627776) (u : Int) (hu : e ≤ u) : Sat Try.prog 18 #[.agg (rc x e false false (.slice va L.length vc)).toArray,.int .i64 u] h fun v h' => v = .tuple #[.agg (rc x e false true (.slice none 0 0)).toArray,.int .i64 0] ∧ Ext h h' := by
 have e0 := Ext.refl h
 have sep : Sep h.size h.size [] := Sep.nil _ _
 refine sat_of (args := [.agg (rc x e false false (.slice va L.length vc)).toArray,.int .i64 u]) (fn := Try.f18) (B := b18) (n := 22) (L := [(0,.agg (rc x e false false (.slice va L.length vc)).toArray),(1,.int .i64 u)]) Try.func18 rfl (by kernel_rfl) rfl ?_
 intro a hF
 refine cS ?_
 refine cP 0 hF ?_
 refine SeqK.eff (k' := 1) (Does.new (v := .pointer (some ⟨h.size,0,none⟩)) (o := .cells (rc x e false false (.slice va L.length vc)).toArray 26) (by kernel_rfl)) rfl ?_
 rintro _ h1 ⟨rfl,hh⟩
 have g2 : Ext h h1 := push_ext hh
 have m3 : h1[h.size]? = some (.cells (rc x e false false (.slice va L.length vc)).toArray 26) := push_at hh
 clear hh
 have lt4 := blk_lt m3
 have zs5 := e0.size
 have hlo := e0.size
 have sepo := sep
 replace e0 := e0.ext g2
 replace sep := sep.up g2.size
 replace sep := sepo.new hlo (blk_lt m3)
 clear sepo hlo
 refine SeqK.eff (k' := 2) (Does.new (v := .pointer (some ⟨h1.size,0,none⟩)) (o := .cells (rc rb0 (0 : Int) false false (.slice none 0 0)).toArray 26) (by kernel_rfl)) rfl ?_
 rintro _ h6 ⟨rfl,hh⟩
 have g7 : Ext h1 h6 := push_ext hh
 have m8 : h6[h1.size]? = some (.cells (rc rb0 (0 : Int) false false (.slice none 0 0)).toArray 26) := push_at hh
 clear hh
 have lt9 := blk_lt m8
 have zs10 := e0.size
 have hlo := e0.size
 have sepo := sep
 replace e0 := e0.ext g7
 replace m3 := Ext.blk g7 m3
 replace sep := sep.up g7.size
 replace sep := sepo.new hlo (blk_lt m8)
 clear sepo hlo
 refine sP 3 [.int .i64 0] ?_
 refine sD [(1,.int .i64 u),(2,pV h.size),(4,pV h1.size)] ?_
 clear hF a; intro a hF
 refine tK ?_
 refine cS ?_
 refine cB 0 ?_
 refine cS ?_
 refine cP 1 hF ?_
 refine sP 1 [.pointer (some ⟨h.size,37,none⟩)] ?_
 refine sC 2 (.bool false) (Calm.load (T := 4) (p := ⟨h.size,37,none⟩) (by kernel_rfl) (Loads.one (k := 1) (by kernel_rfl) ((hcell_blk m3).trans (rfl)))) ?_
 refine sP 3 [.bool false] ?_
 refine sD [(1,.int .i64 u),(2,pV h.size),(4,pV h1.size),(6,.bool false)] ?_
 clear hF a; intro a hF
 refine tK ?_
 refine cF 6 hF ?_
 refine cS ?_
 refine cP 3 hF ?_
 refine sP 1 [.pointer (some ⟨h.size,36,none⟩)] ?_
 refine sC 2 (.bool false) (Calm.load (T := 4) (p := ⟨h.size,36,none⟩) (by kernel_rfl) (Loads.one (k := 1) (by kernel_rfl) ((hcell_blk m3).trans (rfl)))) ?_
 refine sP 4 [.bool false,.pointer (some ⟨h.size,35,none⟩)] ?_
 refine sC 5 (.int .i64 e) (Calm.load (T := 3) (p := ⟨h.size,35,none⟩) (by kernel_rfl) (Loads.one (k := 1) (by kernel_rfl) ((hcell_blk m3).trans (rfl)))) ?_
 refine sP 6 [.int .i64 u] ?_
 refine s1 7 (.bool false) (.bool (decide (u < e))) (congrArg Value.bool (decide_eq_false (by omega))) ?_
 refine sP 9 [.bool false,.bool false] ?_
 refine sD [(2,pV h.size),(4,pV h1.size),(10,.bool false)] ?_
 clear hF a; intro a hF
 refine tK ?_
 refine cF 10 hF ?_
 refine cN ?_
 show C Try.prog (sub b18 [1,1]) _ a h6
 refine cS ?_
 refine cP 5 hF ?_
 refine sC 1 (.agg (rc x e false false (.slice va L.length vc)).toArray) (Calm.load (T := 26) (p := ⟨h.size,0,none⟩) (by kernel_rfl) (Loads.blk (vs := rc x e false false (.slice va L.length vc)) (by kernel_rfl) m3 rfl)) ?_
 refine SeqK.eff (k' := 2) (Does.call (f := 23) (args := #[.agg (rc x e false false (.slice va L.length vc)).toArray,.func (.func 27) #[] #[]]) (by kernel_rfl) (turned_del _ x e false false L va vc (hr.ext e0) hL)) rfl ?_
 rintro _ h11 ⟨rfl,g⟩
 replace e0 := e0.ext g
 replace m3 := Ext.blk g m3
 replace m8 := Ext.blk g m8
 replace sep := sep.up g.size
 clear g
 refine SeqK.eff (k' := 3) (Does.store (b := h1.size) (off := 0) (vs := rc x e false true (.slice none 0 0)) (l := rc rb0 (0 : Int) false false (.slice none 0 0)) (by kernel_rfl) m8 (of_decide_eq_true (by kernel_rfl)) (List.all_eq_true.1 (by kernel_rfl))) rfl ?_
 rintro _ h12 ⟨rfl,hh⟩
 have g13 : Grew (some (h1.size)) h11 h12 := hput_gr hh
 replace m8 : h12[h1.size]? = some (.cells (rc x e false true (.slice none 0 0)).toArray 26) := hput_at (off := 0) (vs := rc x e false true (.slice none 0 0)) (l := (rc rb0 (0 : Int) false false (.slice none 0 0))) hh (by kernel_rfl) m8
 clear hh
 replace e0 := e0.grew g13 (sep.low 0 rfl)
 replace m3 := Grew.blk g13 m3 ((sep.bp 1 0))
 replace sep := sep.up g13.size
 refine sP 4 [.int .i64 0] ?_
 refine sD [(4,pV h1.size),(5,.int .i64 0)] ?_
 clear hF a; intro a hF
 refine tK ?_
 refine cR ?_
 show retK Try.prog Try.f18 (fun v h' => v = .tuple #[.agg (rc x e false true (.slice none 0 0)).toArray,.int .i64 0] ∧ Ext h h') .ret a h12
 refine ret_ok [.cell 4 26,.tmp 5] [.agg (rc x e false true (.slice none 0 0)).toArray,.int .i64 0] (.tuple #[.agg (rc x e false true (.slice none 0 0)).toArray,.int .i64 0]) rfl hF ⟨⟨_,rfl,Loads.blk (vs := rc x e false true (.slice none 0 0)) (by kernel_rfl) m8 rfl⟩,rfl,trivial⟩ rfl ?_
 exact ⟨rfl,e0⟩
end Go.Proofs.Ytlghdimpgfhmcaa
