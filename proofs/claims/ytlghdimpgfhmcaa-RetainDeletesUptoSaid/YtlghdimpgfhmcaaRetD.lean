/- the document's Lock, Hold, Delete: what it comes to. Conditions: those that each theorem names. -/
import Derived.Test.YtlghdimpgfhmcaaRetC
namespace Go.Proofs.Ytlghdimpgfhmcaa
open Go Go.Lane Go.Sha
noncomputable def b13 : Code := Try.f13.body.getD .skip
theorem rlock_arg (h : Heap) (x : RB) (e : Int) (ho go : Bool) (L : List Pl) (va : Option Addr) (vc : Nat) (u : Int) (hu : u < 0 ∨ 1099511627776 < u) : Sat Try.prog 13 #[.agg (rc x e ho go (.slice va L.length vc)).toArray,.int .i64 u] h fun v h' => v = .tuple #[.agg (rc rb0 (0 : Int) false false (.slice none 0 0)).toArray,.int .i64 1] ∧ Ext h h' := by
 have e0 := Ext.refl h
 have sep : Sep h.size h.size [] := Sep.nil _ _
 refine sat_of (args := [.agg (rc x e ho go (.slice va L.length vc)).toArray,.int .i64 u]) (fn := Try.f13) (B := b13) (n := 25) (L := [(0,.agg (rc x e ho go (.slice va L.length vc)).toArray),(1,.int .i64 u)]) Try.func13 rfl (by kernel_rfl) rfl ?_
 intro a hF
 refine cS ?_
 refine cP 0 hF ?_
 refine SeqK.eff (k' := 1) (Does.new (v := .pointer (some ⟨h.size,0,none⟩)) (o := .cells (rc x e ho go (.slice va L.length vc)).toArray 26) (by kernel_rfl)) rfl ?_
 rintro _ h1 ⟨rfl,hh⟩
 have g2 : Ext h h1 := push_ext hh
 have m3 : h1[h.size]? = some (.cells (rc x e ho go (.slice va L.length vc)).toArray 26) := push_at hh
 clear hh
 have lt4 := blk_lt m3
 have zs5 := e0.size
 have hlo := e0.size
 have sepo := sep
 replace e0 := e0.ext g2
 replace sep := sep.up g2.size
 replace sep := sepo.new hlo (blk_lt m3)
 clear sepo hlo
 refine SeqK.eff (k' := 2) (Does.new (v := .pointer (some ⟨h1.size,0,none⟩)) (o := .cells (rc rb0 (0 : Int) false false (.slice none 0 0)).toArray 26) (by kernel_rfl)) rfl ?_
 rintro _ h6 ⟨rfl,hh⟩
 have g7 : Ext h1 h6 := push_ext hh
 have m8 : h6[h1.size]? = some (.cells (rc rb0 (0 : Int) false false (.slice none 0 0)).toArray 26) := push_at hh
 clear hh
 have lt9 := blk_lt m8
 have zs10 := e0.size
 have hlo := e0.size
 have sepo := sep
 replace e0 := e0.ext g7
 replace m3 := Ext.blk g7 m3
 replace sep := sep.up g7.size
 replace sep := sepo.new hlo (blk_lt m8)
 clear sepo hlo
 refine sP 3 [.int .i64 0] ?_
 refine sD [(1,.int .i64 u),(2,pV h.size),(4,pV h1.size)] ?_
 clear hF a; intro a hF
 refine tK ?_
 refine cS ?_
 refine cS ?_
 rcases hu with hu | hu
 ·skip
  refine cP 1 hF ?_
  refine sP 1 [.int .i64 u] ?_
  refine s1 2 (.bool true) (.bool (decide (u < (0 : Int)))) (congrArg Value.bool (decide_eq_true (by omega))) ?_
  refine sP 6 [.bool true,undef,undef,.bool true] ?_
  refine sD [(1,.int .i64 u),(2,pV h.size),(4,pV h1.size),(11,.bool true)] ?_
  clear hF a; intro a hF
  refine tK ?_
  refine cT 11 hF ?_
  refine cS ?_
  refine cP 2 hF ?_
  refine sP 1 [.agg (rc rb0 (0 : Int) false false (.slice none 0 0)).toArray] ?_
  refine SeqK.eff (k' := 2) (Does.store (b := h1.size) (off := 0) (vs := rc rb0 (0 : Int) false false (.slice none 0 0)) (l := rc rb0 (0 : Int) false false (.slice none 0 0)) (by kernel_rfl) m8 (of_decide_eq_true (by kernel_rfl)) (List.all_eq_true.1 (by kernel_rfl))) rfl ?_
  rintro _ h11 ⟨rfl,hh⟩
  have g12 : Grew (some (h1.size)) h6 h11 := hput_gr hh
  replace m8 : h11[h1.size]? = some (.cells (rc rb0 (0 : Int) false false (.slice none 0 0)).toArray 26) := hput_at (off := 0) (vs := rc rb0 (0 : Int) false false (.slice none 0 0)) (l := (rc rb0 (0 : Int) false false (.slice none 0 0))) hh (by kernel_rfl) m8
  clear hh
  replace e0 := e0.grew g12 (sep.low 0 rfl)
  replace m3 := Grew.blk g12 m3 ((sep.bp 1 0))
  replace sep := sep.up g12.size
  refine sP 3 [.int .i64 1] ?_
  refine sD [(4,pV h1.size),(5,.int .i64 1)] ?_
  clear hF a; intro a hF
  refine tK ?_
  refine cR ?_
  show retK Try.prog Try.f13 (fun v h' => v = .tuple #[.agg (rc rb0 (0 : Int) false false (.slice none 0 0)).toArray,.int .i64 1] ∧ Ext h h') .ret a h11
  refine ret_ok [.cell 4 26,.tmp 5] [.agg (rc rb0 (0 : Int) false false (.slice none 0 0)).toArray,.int .i64 1] (.tuple #[.agg (rc rb0 (0 : Int) false false (.slice none 0 0)).toArray,.int .i64 1]) rfl hF ⟨⟨_,rfl,Loads.blk (vs := rc rb0 (0 : Int) false false (.slice none 0 0)) (by kernel_rfl) m8 rfl⟩,rfl,trivial⟩ rfl ?_
  exact ⟨rfl,e0⟩
 ·skip
  refine cP 1 hF ?_
  refine sP 1 [.int .i64 u] ?_
  refine s1 2 (.bool false) (.bool (decide (u < (0 : Int)))) (congrArg Value.bool (decide_eq_false (by omega))) ?_
  refine sP 4 [.bool false,.int .i64 u] ?_
  refine s1 5 (.bool true) (.bool (decide ((1099511627776 : Int) < u))) (congrArg Value.bool (decide_eq_true (by omega))) ?_
  refine sP 6 [.bool true] ?_
  refine sD [(1,.int .i64 u),(2,pV h.size),(4,pV h1.size),(11,.bool true)] ?_
  clear hF a; intro a hF
  refine tK ?_
  refine cT 11 hF ?_
  refine cS ?_
  refine cP 2 hF ?_
  refine sP 1 [.agg (rc rb0 (0 : Int) false false (.slice none 0 0)).toArray] ?_
  refine SeqK.eff (k' := 2) (Does.store (b := h1.size) (off := 0) (vs := rc rb0 (0 : Int) false false (.slice none 0 0)) (l := rc rb0 (0 : Int) false false (.slice none 0 0)) (by kernel_rfl) m8 (of_decide_eq_true (by kernel_rfl)) (List.all_eq_true.1 (by kernel_rfl))) rfl ?_
  rintro _ h13 ⟨rfl,hh⟩
  have g14 : Grew (some (h1.size)) h6 h13 := hput_gr hh
  replace m8 : h13[h1.size]? = some (.cells (rc rb0 (0 : Int) false false (.slice none 0 0)).toArray 26) := hput_at (off := 0) (vs := rc rb0 (0 : Int) false false (.slice none 0 0)) (l := (rc rb0 (0 : Int) false false (.slice none 0 0))) hh (by kernel_rfl) m8
  clear hh
  replace e0 := e0.grew g14 (sep.low 0 rfl)
  replace m3 := Grew.blk g14 m3 ((sep.bp 1 0))
  replace sep := sep.up g14.size
  refine sP 3 [.int .i64 1] ?_
  refine sD [(4,pV h1.size),(5,.int .i64 1)] ?_
  clear hF a; intro a hF
  refine tK ?_
  refine cR ?_
  show retK Try.prog Try.f13 (fun v h' => v = .tuple #[.agg (rc rb0 (0 : Int) false false (.slice none 0 0)).toArray,.int .i64 1] ∧ Ext h h') .ret a h13
  refine ret_ok [.cell 4 26,.tmp 5] [.agg (rc rb0 (0 : Int) false false (.slice none 0 0)).toArray,.int .i64 1] (.tuple #[.agg (rc rb0 (0 : Int) false false (.slice none 0 0)).toArray,.int .i64 1]) rfl hF ⟨⟨_,rfl,Loads.blk (vs := rc rb0 (0 : Int) false false (.slice none 0 0)) (by kernel_rfl) m8 rfl⟩,rfl,trivial⟩ rfl ?_
  exact ⟨rfl,e0⟩
theorem rlock_gone (h : Heap) (x : RB) (e : Int) (ho : Bool) (L : List Pl) (va : Option Addr) (vc : Nat) (u : Int) (hu0 : 0 ≤ u) (hu : u ≤ 1099511627776) : Sat Try.prog 13 #[.agg (rc x e ho true (.slice va L.length vc)).toArray,.int .i64 u] h fun v h' => v = .tuple #[.agg (rc rb0 (0 : Int) false false (.slice none 0 0)).toArray,.int .i64 213] ∧ Ext h h' := by
 have e0 := Ext.refl h
 have sep : Sep h.size h.size [] := Sep.nil _ _
 refine sat_of (args := [.agg (rc x e ho true (.slice va L.length vc)).toArray,.int .i64 u]) (fn := Try.f13) (B := b13) (n := 25) (L := [(0,.agg (rc x e ho true (.slice va L.length vc)).toArray),(1,.int .i64 u)]) Try.func13 rfl (by kernel_rfl) rfl ?_
 intro a hF
 refine cS ?_
 refine cP 0 hF ?_
 refine SeqK.eff (k' := 1) (Does.new (v := .pointer (some ⟨h.size,0,none⟩)) (o := .cells (rc x e ho true (.slice va L.length vc)).toArray 26) (by kernel_rfl)) rfl ?_
 rintro _ h1 ⟨rfl,hh⟩
 have g2 : Ext h h1 := push_ext hh
 have m3 : h1[h.size]? = some (.cells (rc x e ho true (.slice va L.length vc)).toArray 26) := push_at hh
 clear hh
 have lt4 := blk_lt m3
 have zs5 := e0.size
 have hlo := e0.size
 have sepo := sep
 replace e0 := e0.ext g2
 replace sep := sep.up g2.size
 replace sep := sepo.new hlo (blk_lt m3)
 clear sepo hlo
 refine SeqK.eff (k' := 2) (Does.new (v := .pointer (some ⟨h1.size,0,none⟩)) (o := .cells (rc rb0 (0 : Int) false false (.slice none 0 0)).toArray 26) (by kernel_rfl)) rfl ?_
 rintro _ h6 ⟨rfl,hh⟩
 have g7 : Ext h1 h6 := push_ext hh
 have m8 : h6[h1.size]? = some (.cells (rc rb0 (0 : Int) false false (.slice none 0 0)).toArray 26) := push_at hh
 clear hh
 have lt9 := blk_lt m8
 have zs10 := e0.size
 have hlo := e0.size
 have sepo := sep
 replace e0 := e0.ext g7
 replace m3 := Ext.blk g7 m3
 replace sep := sep.up g7.size
 replace sep := sepo.new hlo (blk_lt m8)
 clear sepo hlo
 refine sP 3 [.int .i64 0] ?_
 refine sD [(1,.int .i64 u),(2,pV h.size),(4,pV h1.size)] ?_
 clear hF a; intro a hF
 refine tK ?_
 refine cS ?_
 refine cS ?_
 refine cP 1 hF ?_
 refine sP 1 [.int .i64 u] ?_
 refine s1 2 (.bool false) (.bool (decide (u < (0 : Int)))) (congrArg Value.bool (decide_eq_false (by omega))) ?_
 refine sP 4 [.bool false,.int .i64 u] ?_
 refine s1 5 (.bool false) (.bool (decide ((1099511627776 : Int) < u))) (congrArg Value.bool (decide_eq_false (by omega))) ?_
 refine sP 6 [.bool false] ?_
 refine sD [(1,.int .i64 u),(2,pV h.size),(4,pV h1.size),(11,.bool false)] ?_
 clear hF a; intro a hF
 refine tK ?_
 refine cF 11 hF ?_
 refine cN ?_
 refine tK ?_
 refine cS ?_
 refine cS ?_
 refine cP 3 hF ?_
 refine sP 1 [.pointer (some ⟨h.size,37,none⟩)] ?_
 refine sC 2 (.bool true) (Calm.load (T := 4) (p := ⟨h.size,37,none⟩) (by kernel_rfl) (Loads.one (k := 1) (by kernel_rfl) ((hcell_blk m3).trans (rfl)))) ?_
 refine sD [(1,.int .i64 u),(2,pV h.size),(4,pV h1.size),(14,.bool true)] ?_
 clear hF a; intro a hF
 refine tK ?_
 refine cT 14 hF ?_
 refine cS ?_
 refine cP 4 hF ?_
 refine sP 1 [.agg (rc rb0 (0 : Int) false false (.slice none 0 0)).toArray] ?_
 refine SeqK.eff (k' := 2) (Does.store (b := h1.size) (off := 0) (vs := rc rb0 (0 : Int) false false (.slice none 0 0)) (l := rc rb0 (0 : Int) false false (.slice none 0 0)) (by kernel_rfl) m8 (of_decide_eq_true (by kernel_rfl)) (List.all_eq_true.1 (by kernel_rfl))) rfl ?_
 rintro _ h11 ⟨rfl,hh⟩
 have g12 : Grew (some (h1.size)) h6 h11 := hput_gr hh
 replace m8 : h11[h1.size]? = some (.cells (rc rb0 (0 : Int) false false (.slice none 0 0)).toArray 26) := hput_at (off := 0) (vs := rc rb0 (0 : Int) false false (.slice none 0 0)) (l := (rc rb0 (0 : Int) false false (.slice none 0 0))) hh (by kernel_rfl) m8
 clear hh
 replace e0 := e0.grew g12 (sep.low 0 rfl)
 replace m3 := Grew.blk g12 m3 ((sep.bp 1 0))
 replace sep := sep.up g12.size
 refine sP 3 [.int .i64 213] ?_
 refine sD [(4,pV h1.size),(5,.int .i64 213)] ?_
 clear hF a; intro a hF
 refine tK ?_
 refine cR ?_
 show retK Try.prog Try.f13 (fun v h' => v = .tuple #[.agg (rc rb0 (0 : Int) false false (.slice none 0 0)).toArray,.int .i64 213] ∧ Ext h h') .ret a h11
 refine ret_ok [.cell 4 26,.tmp 5] [.agg (rc rb0 (0 : Int) false false (.slice none 0 0)).toArray,.int .i64 213] (.tuple #[.agg (rc rb0 (0 : Int) false false (.slice none 0 0)).toArray,.int .i64 213]) rfl hF ⟨⟨_,rfl,Loads.blk (vs := rc rb0 (0 : Int) false false (.slice none 0 0)) (by kernel_rfl) m8 rfl⟩,rfl,trivial⟩ rfl ?_
 exact ⟨rfl,e0⟩
theorem rlock_ok (h : Heap) (x : RB) (e : Int) (ho : Bool) (L : List Pl) (va : Option Addr) (vc : Nat) (hr : Row h (.slice va L.length vc) L.length 4 (prow L)) (hL : L.length ≤ 1099511627776) (u : Int) (hu0 : 0 ≤ u) (hu : u ≤ 1099511627776) : Sat Try.prog 13 #[.agg (rc x e ho false (.slice va L.length vc)).toArray,.int .i64 u] h fun v h' => ∃ c,v = .tuple #[.agg (rc x (max e u) ho false c).toArray,.int .i64 0] ∧ PNew h h' 49 c L := by
 have e0 := Ext.refl h
 have sep : Sep h.size h.size [] := Sep.nil _ _
 refine sat_of (args := [.agg (rc x e ho false (.slice va L.length vc)).toArray,.int .i64 u]) (fn := Try.f13) (B := b13) (n := 25) (L := [(0,.agg (rc x e ho false (.slice va L.length vc)).toArray),(1,.int .i64 u)]) Try.func13 rfl (by kernel_rfl) rfl ?_
 intro a hF
 refine cS ?_
 refine cP 0 hF ?_
 refine SeqK.eff (k' := 1) (Does.new (v := .pointer (some ⟨h.size,0,none⟩)) (o := .cells (rc x e ho false (.slice va L.length vc)).toArray 26) (by kernel_rfl)) rfl ?_
 rintro _ h1 ⟨rfl,hh⟩
 have g2 : Ext h h1 := push_ext hh
 have m3 : h1[h.size]? = some (.cells (rc x e ho false (.slice va L.length vc)).toArray 26) := push_at hh
 clear hh
 have lt4 := blk_lt m3
 have zs5 := e0.size
 have hlo := e0.size
 have sepo := sep
 replace e0 := e0.ext g2
 replace sep := sep.up g2.size
 replace sep := sepo.new hlo (blk_lt m3)
 clear sepo hlo
 refine SeqK.eff (k' := 2) (Does.new (v := .pointer (some ⟨h1.size,0,none⟩)) (o := .cells (rc rb0 (0 : Int) false false (.slice none 0 0)).toArray 26) (by kernel_rfl)) rfl ?_
 rintro _ h6 ⟨rfl,hh⟩
 have g7 : Ext h1 h6 := push_ext hh
 have m8 : h6[h1.size]? = some (.cells (rc rb0 (0 : Int) false false (.slice none 0 0)).toArray 26) := push_at hh
 clear hh
 have lt9 := blk_lt m8
 have zs10 := e0.size
 have hlo := e0.size
 have sepo := sep
 replace e0 := e0.ext g7
 replace m3 := Ext.blk g7 m3
 replace sep := sep.up g7.size
 replace sep := sepo.new hlo (blk_lt m8)
 clear sepo hlo
 refine sP 3 [.int .i64 0] ?_
 refine sD [(1,.int .i64 u),(2,pV h.size),(4,pV h1.size)] ?_
 clear hF a; intro a hF
 refine tK ?_
 refine cS ?_
 refine cS ?_
 refine cP 1 hF ?_
 refine sP 1 [.int .i64 u] ?_
 refine s1 2 (.bool false) (.bool (decide (u < (0 : Int)))) (congrArg Value.bool (decide_eq_false (by omega))) ?_
 refine sP 4 [.bool false,.int .i64 u] ?_
 refine s1 5 (.bool false) (.bool (decide ((1099511627776 : Int) < u))) (congrArg Value.bool (decide_eq_false (by omega))) ?_
 refine sP 6 [.bool false] ?_
 refine sD [(1,.int .i64 u),(2,pV h.size),(4,pV h1.size),(11,.bool false)] ?_
 clear hF a; intro a hF
 refine tK ?_
 refine cF 11 hF ?_
 refine cN ?_
 refine tK ?_
 refine cS ?_
 refine cS ?_
 refine cP 3 hF ?_
 refine sP 1 [.pointer (some ⟨h.size,37,none⟩)] ?_
 refine sC 2 (.bool false) (Calm.load (T := 4) (p := ⟨h.size,37,none⟩) (by kernel_rfl) (Loads.one (k := 1) (by kernel_rfl) ((hcell_blk m3).trans (rfl)))) ?_
 refine sD [(1,.int .i64 u),(2,pV h.size),(4,pV h1.size),(14,.bool false)] ?_
 clear hF a; intro a hF
 refine tK ?_
 refine cF 14 hF ?_
 refine cN ?_
 refine tK ?_
 refine cS ?_
 refine cP 5 hF ?_
 refine sC 1 (.agg (rc x e ho false (.slice va L.length vc)).toArray) (Calm.load (T := 26) (p := ⟨h.size,0,none⟩) (by kernel_rfl) (Loads.blk (vs := rc x e ho false (.slice va L.length vc)) (by kernel_rfl) m3 rfl)) ?_
 refine SeqK.eff (k' := 2) (Does.call (f := 25) (args := #[.agg (rc x e ho false (.slice va L.length vc)).toArray]) (by kernel_rfl) (rcopied_sat _ x e ho false L va vc (hr.ext e0) hL)) rfl ?_
 rintro _ h13 ⟨_,rfl,ad11,cap12,rfl,ownx,hge,g⟩
 have hlo := e0.size
 have sepo := sep
 replace e0 := e0.ext g
 replace m3 := Ext.blk g m3
 replace m8 := Ext.blk g m8
 replace sep := sep.up g.size
 replace sep := sepo.cons (x := ad11.map (fun (x : Addr) => x.block)) g.size hlo (fun k e => ⟨hge k e,ownx.lt (by rw [blkOf_slice]; exact e)⟩)
 have own_c : Own h13 (.slice ad11 L.length cap12) 49 L.length 4 (prow L) := ownx; clear ownx sepo hlo hge g
 refine SeqK.eff (k' := 3) (Does.store (b := h.size) (off := 0) (vs := rc x e ho false (.slice ad11 L.length cap12)) (l := rc x e ho false (.slice va L.length vc)) (by kernel_rfl) m3 (of_decide_eq_true (by kernel_rfl)) (List.all_eq_true.1 (by kernel_rfl))) rfl ?_
 rintro _ h14 ⟨rfl,hh⟩
 have g15 : Grew (some (h.size)) h13 h14 := hput_gr hh
 replace m3 : h14[h.size]? = some (.cells (rc x e ho false (.slice ad11 L.length cap12)).toArray 26) := hput_at (off := 0) (vs := rc x e ho false (.slice ad11 L.length cap12)) (l := (rc x e ho false (.slice va L.length vc))) hh (by kernel_rfl) m3
 clear hh
 replace e0 := e0.grew g15 (sep.low 2 rfl)
 replace own_c := own_c.kept g15 (by rw [blkOf_slice]; exact (sep.ap 0 2))
 replace m8 := Grew.blk g15 m8 ((sep.bp 1 2))
 replace sep := sep.up g15.size
 refine sD [(1,.int .i64 u),(2,pV h.size),(4,pV h1.size)] ?_
 clear hF a; intro a hF
 refine tK ?_
 refine cS ?_
 refine cS ?_
 refine cP 6 hF ?_
 refine sP 2 [.int .i64 u,.pointer (some ⟨h.size,35,none⟩)] ?_
 refine sC 3 (.int .i64 e) (Calm.load (T := 3) (p := ⟨h.size,35,none⟩) (by kernel_rfl) (Loads.one (k := 1) (by kernel_rfl) ((hcell_blk m3).trans (rfl)))) ?_
 refine sP 4 [.bool (decide (e < u))] ?_
 refine sD [(1,.int .i64 u),(2,pV h.size),(4,pV h1.size),(21,.bool (decide (e < u)))] ?_
 clear hF a; intro a hF
 refine tK ?_
 refine cC 21 (decide (e < u)) hF (fun hc16 => ?_) (fun hc16 => ?_)
 ·skip
  replace hc16 := of_decide_eq_true hc16
  refine cP 7 hF ?_
  refine sP 2 [.int .i64 u,.pointer (some ⟨h.size,35,none⟩)] ?_
  refine SeqK.eff (k' := 3) (Does.store (b := h.size) (off := 35) (vs := [.int .i64 u]) (l := rc x e ho false (.slice ad11 L.length cap12)) (by kernel_rfl) m3 (of_decide_eq_true (by kernel_rfl)) (List.all_eq_true.1 (by kernel_rfl))) rfl ?_
  rintro _ h17 ⟨rfl,hh⟩
  have g18 : Grew (some (h.size)) h14 h17 := hput_gr hh
  replace m3 : h17[h.size]? = some (.cells (rc x u ho false (.slice ad11 L.length cap12)).toArray 26) := hput_at (off := 35) (vs := [.int .i64 u]) (l := (rc x e ho false (.slice ad11 L.length cap12))) hh (by kernel_rfl) m3
  clear hh
  replace e0 := e0.grew g18 (sep.low 2 rfl)
  replace own_c := own_c.kept g18 (by rw [blkOf_slice]; exact (sep.ap 0 2))
  replace m8 := Grew.blk g18 m8 ((sep.bp 1 2))
  replace sep := sep.up g18.size
  refine sD [(2,pV h.size),(4,pV h1.size)] ?_
  clear hF a; intro a hF
  refine tK ?_
  refine cS ?_
  refine cP 8 hF ?_
  refine sC 1 (.agg (rc x u ho false (.slice ad11 L.length cap12)).toArray) (Calm.load (T := 26) (p := ⟨h.size,0,none⟩) (by kernel_rfl) (Loads.blk (vs := rc x u ho false (.slice ad11 L.length cap12)) (by kernel_rfl) m3 rfl)) ?_
  refine SeqK.eff (k' := 2) (Does.store (b := h1.size) (off := 0) (vs := rc x u ho false (.slice ad11 L.length cap12)) (l := rc rb0 (0 : Int) false false (.slice none 0 0)) (by kernel_rfl) m8 (of_decide_eq_true (by kernel_rfl)) (List.all_eq_true.1 (by kernel_rfl))) rfl ?_
  rintro _ h19 ⟨rfl,hh⟩
  have g20 : Grew (some (h1.size)) h17 h19 := hput_gr hh
  replace m8 : h19[h1.size]? = some (.cells (rc x u ho false (.slice ad11 L.length cap12)).toArray 26) := hput_at (off := 0) (vs := rc x u ho false (.slice ad11 L.length cap12)) (l := (rc rb0 (0 : Int) false false (.slice none 0 0))) hh (by kernel_rfl) m8
  clear hh
  replace e0 := e0.grew g20 (sep.low 1 rfl)
  replace own_c := own_c.kept g20 (by rw [blkOf_slice]; exact (sep.ap 0 1))
  replace m3 := Grew.blk g20 m3 ((sep.bp 2 1))
  replace sep := sep.up g20.size
  refine sP 3 [.int .i64 0] ?_
  refine sD [(4,pV h1.size),(5,.int .i64 0)] ?_
  clear hF a; intro a hF
  refine tK ?_
  refine cR ?_
  show retK Try.prog Try.f13 (fun v h' => ∃ c,v = .tuple #[.agg (rc x (max e u) ho false c).toArray,.int .i64 0] ∧ PNew h h' 49 c L) .ret a h19
  refine ret_ok [.cell 4 26,.tmp 5] [.agg (rc x u ho false (.slice ad11 L.length cap12)).toArray,.int .i64 0] (.tuple #[.agg (rc x u ho false (.slice ad11 L.length cap12)).toArray,.int .i64 0]) rfl hF ⟨⟨_,rfl,Loads.blk (vs := rc x u ho false (.slice ad11 L.length cap12)) (by kernel_rfl) m8 rfl⟩,rfl,trivial⟩ rfl ?_
  exact ⟨_,by rw [Int.max_eq_right (by omega)],⟨_,_,rfl,own_c,sep.low 0 rfl,e0⟩⟩
 ·skip
  replace hc16 := of_decide_eq_false hc16
  refine cN ?_
  refine tK ?_
  refine cS ?_
  refine cP 8 hF ?_
  refine sC 1 (.agg (rc x e ho false (.slice ad11 L.length cap12)).toArray) (Calm.load (T := 26) (p := ⟨h.size,0,none⟩) (by kernel_rfl) (Loads.blk (vs := rc x e ho false (.slice ad11 L.length cap12)) (by kernel_rfl) m3 rfl)) ?_
  refine SeqK.eff (k' := 2) (Does.store (b := h1.size) (off := 0) (vs := rc x e ho false (.slice ad11 L.length cap12)) (l := rc rb0 (0 : Int) false false (.slice none 0 0)) (by kernel_rfl) m8 (of_decide_eq_true (by kernel_rfl)) (List.all_eq_true.1 (by kernel_rfl))) rfl ?_
  rintro _ h21 ⟨rfl,hh⟩
  have g22 : Grew (some (h1.size)) h14 h21 := hput_gr hh
  replace m8 : h21[h1.size]? = some (.cells (rc x e ho false (.slice ad11 L.length cap12)).toArray 26) := hput_at (off := 0) (vs := rc x e ho false (.slice ad11 L.length cap12)) (l := (rc rb0 (0 : Int) false false (.slice none 0 0))) hh (by kernel_rfl) m8
  clear hh
  replace e0 := e0.grew g22 (sep.low 1 rfl)
  replace own_c := own_c.kept g22 (by rw [blkOf_slice]; exact (sep.ap 0 1))
  replace m3 := Grew.blk g22 m3 ((sep.bp 2 1))
  replace sep := sep.up g22.size
  refine sP 3 [.int .i64 0] ?_
  refine sD [(4,pV h1.size),(5,.int .i64 0)] ?_
  clear hF a; intro a hF
  refine tK ?_
  refine cR ?_
  show retK Try.prog Try.f13 (fun v h' => ∃ c,v = .tuple #[.agg (rc x (max e u) ho false c).toArray,.int .i64 0] ∧ PNew h h' 49 c L) .ret a h21
  refine ret_ok [.cell 4 26,.tmp 5] [.agg (rc x e ho false (.slice ad11 L.length cap12)).toArray,.int .i64 0] (.tuple #[.agg (rc x e ho false (.slice ad11 L.length cap12)).toArray,.int .i64 0]) rfl hF ⟨⟨_,rfl,Loads.blk (vs := rc x e ho false (.slice ad11 L.length cap12)) (by kernel_rfl) m8 rfl⟩,rfl,trivial⟩ rfl ?_
  exact ⟨_,by rw [Int.max_eq_left (by omega)],⟨_,_,rfl,own_c,sep.low 0 rfl,e0⟩⟩
noncomputable def b17 : Code := Try.f17.body.getD .skip
theorem rhold_gone (h : Heap) (x : RB) (e : Int) (ho : Bool) (L : List Pl) (va : Option Addr) (vc : Nat) (on : Bool) : Sat Try.prog 17 #[.agg (rc x e ho true (.slice va L.length vc)).toArray,.bool on] h fun v h' => v = .tuple #[.agg (rc rb0 (0 : Int) false false (.slice none 0 0)).toArray,.int .i64 213] ∧ Ext h h' := by
 have e0 := Ext.refl h
 have sep : Sep h.size h.size [] := Sep.nil _ _
 refine sat_of (args := [.agg (rc x e ho true (.slice va L.length vc)).toArray,.bool on]) (fn := Try.f17) (B := b17) (n := 14) (L := [(0,.agg (rc x e ho true (.slice va L.length vc)).toArray),(1,.bool on)]) Try.func17 rfl (by kernel_rfl) rfl ?_
 intro a hF
 refine cS ?_
 refine cP 0 hF ?_
 refine SeqK.eff (k' := 1) (Does.new (v := .pointer (some ⟨h.size,0,none⟩)) (o := .cells (rc x e ho true (.slice va L.length vc)).toArray 26) (by kernel_rfl)) rfl ?_
 rintro _ h1 ⟨rfl,hh⟩
 have g2 : Ext h h1 := push_ext hh
 have m3 : h1[h.size]? = some (.cells (rc x e ho true (.slice va L.length vc)).toArray 26) := push_at hh
 clear hh
 have lt4 := blk_lt m3
 have zs5 := e0.size
 have hlo := e0.size
 have sepo := sep
 replace e0 := e0.ext g2
 replace sep := sep.up g2.size
 replace sep := sepo.new hlo (blk_lt m3)
 clear sepo hlo
 refine SeqK.eff (k' := 2) (Does.new (v := .pointer (some ⟨h1.size,0,none⟩)) (o := .cells (rc rb0 (0 : Int) false false (.slice none 0 0)).toArray 26) (by kernel_rfl)) rfl ?_
 rintro _ h6 ⟨rfl,hh⟩
 have g7 : Ext h1 h6 := push_ext hh
 have m8 : h6[h1.size]? = some (.cells (rc rb0 (0 : Int) false false (.slice none 0 0)).toArray 26) := push_at hh
 clear hh
 have lt9 := blk_lt m8
 have zs10 := e0.size
 have hlo := e0.size
 have sepo := sep
 replace e0 := e0.ext g7
 replace m3 := Ext.blk g7 m3
 replace sep := sep.up g7.size
 replace sep := sepo.new hlo (blk_lt m8)
 clear sepo hlo
 refine sP 3 [.int .i64 0] ?_
 refine sD [(1,.bool on),(2,pV h.size),(4,pV h1.size)] ?_
 clear hF a; intro a hF
 refine tK ?_
 refine cS ?_
 refine cS ?_
 refine cP 1 hF ?_
 refine sP 1 [.pointer (some ⟨h.size,37,none⟩)] ?_
 refine sC 2 (.bool true) (Calm.load (T := 4) (p := ⟨h.size,37,none⟩) (by kernel_rfl) (Loads.one (k := 1) (by kernel_rfl) ((hcell_blk m3).trans (rfl)))) ?_
 refine sD [(1,.bool on),(2,pV h.size),(4,pV h1.size),(7,.bool true)] ?_
 clear hF a; intro a hF
 refine tK ?_
 refine cT 7 hF ?_
 refine cS ?_
 refine cP 2 hF ?_
 refine sP 1 [.agg (rc rb0 (0 : Int) false false (.slice none 0 0)).toArray] ?_
 refine SeqK.eff (k' := 2) (Does.store (b := h1.size) (off := 0) (vs := rc rb0 (0 : Int) false false (.slice none 0 0)) (l := rc rb0 (0 : Int) false false (.slice none 0 0)) (by kernel_rfl) m8 (of_decide_eq_true (by kernel_rfl)) (List.all_eq_true.1 (by kernel_rfl))) rfl ?_
 rintro _ h11 ⟨rfl,hh⟩
 have g12 : Grew (some (h1.size)) h6 h11 := hput_gr hh
 replace m8 : h11[h1.size]? = some (.cells (rc rb0 (0 : Int) false false (.slice none 0 0)).toArray 26) := hput_at (off := 0) (vs := rc rb0 (0 : Int) false false (.slice none 0 0)) (l := (rc rb0 (0 : Int) false false (.slice none 0 0))) hh (by kernel_rfl) m8
 clear hh
 replace e0 := e0.grew g12 (sep.low 0 rfl)
 replace m3 := Grew.blk g12 m3 ((sep.bp 1 0))
 replace sep := sep.up g12.size
 refine sP 3 [.int .i64 213] ?_
 refine sD [(4,pV h1.size),(5,.int .i64 213)] ?_
 clear hF a; intro a hF
 refine tK ?_
 refine cR ?_
 show retK Try.prog Try.f17 (fun v h' => v = .tuple #[.agg (rc rb0 (0 : Int) false false (.slice none 0 0)).toArray,.int .i64 213] ∧ Ext h h') .ret a h11
 refine ret_ok [.cell 4 26,.tmp 5] [.agg (rc rb0 (0 : Int) false false (.slice none 0 0)).toArray,.int .i64 213] (.tuple #[.agg (rc rb0 (0 : Int) false false (.slice none 0 0)).toArray,.int .i64 213]) rfl hF ⟨⟨_,rfl,Loads.blk (vs := rc rb0 (0 : Int) false false (.slice none 0 0)) (by kernel_rfl) m8 rfl⟩,rfl,trivial⟩ rfl ?_
 exact ⟨rfl,e0⟩
theorem rhold_ok (h : Heap) (x : RB) (e : Int) (ho : Bool) (L : List Pl) (va : Option Addr) (vc : Nat) (hr : Row h (.slice va L.length vc) L.length 4 (prow L)) (hL : L.length ≤ 1099511627776) (on : Bool) : Sat Try.prog 17 #[.agg (rc x e ho false (.slice va L.length vc)).toArray,.bool on] h fun v h' => ∃ c,v = .tuple #[.agg (rc x e on false c).toArray,.int .i64 0] ∧ PNew h h' 49 c L := by
 have e0 := Ext.refl h
 have sep : Sep h.size h.size [] := Sep.nil _ _
 refine sat_of (args := [.agg (rc x e ho false (.slice va L.length vc)).toArray,.bool on]) (fn := Try.f17) (B := b17) (n := 14) (L := [(0,.agg (rc x e ho false (.slice va L.length vc)).toArray),(1,.bool on)]) Try.func17 rfl (by kernel_rfl) rfl ?_
 intro a hF
 refine cS ?_
 refine cP 0 hF ?_
 refine SeqK.eff (k' := 1) (Does.new (v := .pointer (some ⟨h.size,0,none⟩)) (o := .cells (rc x e ho false (.slice va L.length vc)).toArray 26) (by kernel_rfl)) rfl ?_
 rintro _ h1 ⟨rfl,hh⟩
 have g2 : Ext h h1 := push_ext hh
 have m3 : h1[h.size]? = some (.cells (rc x e ho false (.slice va L.length vc)).toArray 26) := push_at hh
 clear hh
 have lt4 := blk_lt m3
 have zs5 := e0.size
 have hlo := e0.size
 have sepo := sep
 replace e0 := e0.ext g2
 replace sep := sep.up g2.size
 replace sep := sepo.new hlo (blk_lt m3)
 clear sepo hlo
 refine SeqK.eff (k' := 2) (Does.new (v := .pointer (some ⟨h1.size,0,none⟩)) (o := .cells (rc rb0 (0 : Int) false false (.slice none 0 0)).toArray 26) (by kernel_rfl)) rfl ?_
 rintro _ h6 ⟨rfl,hh⟩
 have g7 : Ext h1 h6 := push_ext hh
 have m8 : h6[h1.size]? = some (.cells (rc rb0 (0 : Int) false false (.slice none 0 0)).toArray 26) := push_at hh
 clear hh
 have lt9 := blk_lt m8
 have zs10 := e0.size
 have hlo := e0.size
 have sepo := sep
 replace e0 := e0.ext g7
 replace m3 := Ext.blk g7 m3
 replace sep := sep.up g7.size
 replace sep := sepo.new hlo (blk_lt m8)
 clear sepo hlo
 refine sP 3 [.int .i64 0] ?_
 refine sD [(1,.bool on),(2,pV h.size),(4,pV h1.size)] ?_
 clear hF a; intro a hF
 refine tK ?_
 refine cS ?_
 refine cS ?_
 refine cP 1 hF ?_
 refine sP 1 [.pointer (some ⟨h.size,37,none⟩)] ?_
 refine sC 2 (.bool false) (Calm.load (T := 4) (p := ⟨h.size,37,none⟩) (by kernel_rfl) (Loads.one (k := 1) (by kernel_rfl) ((hcell_blk m3).trans (rfl)))) ?_
 refine sD [(1,.bool on),(2,pV h.size),(4,pV h1.size),(7,.bool false)] ?_
 clear hF a; intro a hF
 refine tK ?_
 refine cF 7 hF ?_
 refine cN ?_
 refine tK ?_
 refine cS ?_
 refine cP 3 hF ?_
 refine sC 1 (.agg (rc x e ho false (.slice va L.length vc)).toArray) (Calm.load (T := 26) (p := ⟨h.size,0,none⟩) (by kernel_rfl) (Loads.blk (vs := rc x e ho false (.slice va L.length vc)) (by kernel_rfl) m3 rfl)) ?_
 refine SeqK.eff (k' := 2) (Does.call (f := 25) (args := #[.agg (rc x e ho false (.slice va L.length vc)).toArray]) (by kernel_rfl) (rcopied_sat _ x e ho false L va vc (hr.ext e0) hL)) rfl ?_
 rintro _ h13 ⟨_,rfl,ad11,cap12,rfl,ownx,hge,g⟩
 have hlo := e0.size
 have sepo := sep
 replace e0 := e0.ext g
 replace m3 := Ext.blk g m3
 replace m8 := Ext.blk g m8
 replace sep := sep.up g.size
 replace sep := sepo.cons (x := ad11.map (fun (x : Addr) => x.block)) g.size hlo (fun k e => ⟨hge k e,ownx.lt (by rw [blkOf_slice]; exact e)⟩)
 have own_c : Own h13 (.slice ad11 L.length cap12) 49 L.length 4 (prow L) := ownx; clear ownx sepo hlo hge g
 refine SeqK.eff (k' := 3) (Does.store (b := h.size) (off := 0) (vs := rc x e ho false (.slice ad11 L.length cap12)) (l := rc x e ho false (.slice va L.length vc)) (by kernel_rfl) m3 (of_decide_eq_true (by kernel_rfl)) (List.all_eq_true.1 (by kernel_rfl))) rfl ?_
 rintro _ h14 ⟨rfl,hh⟩
 have g15 : Grew (some (h.size)) h13 h14 := hput_gr hh
 replace m3 : h14[h.size]? = some (.cells (rc x e ho false (.slice ad11 L.length cap12)).toArray 26) := hput_at (off := 0) (vs := rc x e ho false (.slice ad11 L.length cap12)) (l := (rc x e ho false (.slice va L.length vc))) hh (by kernel_rfl) m3
 clear hh
 replace e0 := e0.grew g15 (sep.low 2 rfl)
 replace own_c := own_c.kept g15 (by rw [blkOf_slice]; exact (sep.ap 0 2))
 replace m8 := Grew.blk g15 m8 ((sep.bp 1 2))
 replace sep := sep.up g15.size
 refine sD [(1,.bool on),(2,pV h.size),(4,pV h1.size)] ?_
 clear hF a; intro a hF
 refine tK ?_
 refine cS ?_
 refine cP 4 hF ?_
 refine sP 2 [.bool on,.pointer (some ⟨h.size,36,none⟩)] ?_
 refine SeqK.eff (k' := 3) (Does.store (b := h.size) (off := 36) (vs := [.bool on]) (l := rc x e ho false (.slice ad11 L.length cap12)) (by kernel_rfl) m3 (of_decide_eq_true (by kernel_rfl)) (List.all_eq_true.1 (by kernel_rfl))) rfl ?_
 rintro _ h16 ⟨rfl,hh⟩
 have g17 : Grew (some (h.size)) h14 h16 := hput_gr hh
 replace m3 : h16[h.size]? = some (.cells (rc x e on false (.slice ad11 L.length cap12)).toArray 26) := hput_at (off := 36) (vs := [.bool on]) (l := (rc x e ho false (.slice ad11 L.length cap12))) hh (by kernel_rfl) m3
 clear hh
 replace e0 := e0.grew g17 (sep.low 2 rfl)
 replace own_c := own_c.kept g17 (by rw [blkOf_slice]; exact (sep.ap 0 2))
 replace m8 := Grew.blk g17 m8 ((sep.bp 1 2))
 replace sep := sep.up g17.size
 refine sD [(2,pV h.size),(4,pV h1.size)] ?_
 clear hF a; intro a hF
 refine tK ?_
 refine cS ?_
 refine cP 5 hF ?_
 refine sC 1 (.agg (rc x e on false (.slice ad11 L.length cap12)).toArray) (Calm.load (T := 26) (p := ⟨h.size,0,none⟩) (by kernel_rfl) (Loads.blk (vs := rc x e on false (.slice ad11 L.length cap12)) (by kernel_rfl) m3 rfl)) ?_
 refine SeqK.eff (k' := 2) (Does.store (b := h1.size) (off := 0) (vs := rc x e on false (.slice ad11 L.length cap12)) (l := rc rb0 (0 : Int) false false (.slice none 0 0)) (by kernel_rfl) m8 (of_decide_eq_true (by kernel_rfl)) (List.all_eq_true.1 (by kernel_rfl))) rfl ?_
 rintro _ h18 ⟨rfl,hh⟩
 have g19 : Grew (some (h1.size)) h16 h18 := hput_gr hh
 replace m8 : h18[h1.size]? = some (.cells (rc x e on false (.slice ad11 L.length cap12)).toArray 26) := hput_at (off := 0) (vs := rc x e on false (.slice ad11 L.length cap12)) (l := (rc rb0 (0 : Int) false false (.slice none 0 0))) hh (by kernel_rfl) m8
 clear hh
 replace e0 := e0.grew g19 (sep.low 1 rfl)
 replace own_c := own_c.kept g19 (by rw [blkOf_slice]; exact (sep.ap 0 1))
 replace m3 := Grew.blk g19 m3 ((sep.bp 2 1))
 replace sep := sep.up g19.size
 refine sP 3 [.int .i64 0] ?_
 refine sD [(4,pV h1.size),(5,.int .i64 0)] ?_
 clear hF a; intro a hF
 refine tK ?_
 refine cR ?_
 show retK Try.prog Try.f17 (fun v h' => ∃ c,v = .tuple #[.agg (rc x e on false c).toArray,.int .i64 0] ∧ PNew h h' 49 c L) .ret a h18
 refine ret_ok [.cell 4 26,.tmp 5] [.agg (rc x e on false (.slice ad11 L.length cap12)).toArray,.int .i64 0] (.tuple #[.agg (rc x e on false (.slice ad11 L.length cap12)).toArray,.int .i64 0]) rfl hF ⟨⟨_,rfl,Loads.blk (vs := rc x e on false (.slice ad11 L.length cap12)) (by kernel_rfl) m8 rfl⟩,rfl,trivial⟩ rfl ?_
 exact ⟨_,rfl,⟨_,_,rfl,own_c,sep.low 0 rfl,e0⟩⟩
noncomputable def b19 : Code := Try.f19.body.getD .skip
theorem rdel_gone (h : Heap) (x : RB) (e : Int) (ho : Bool) (L : List Pl) (va : Option Addr) (vc : Nat) (u : Int) : Sat Try.prog 19 #[.agg (rc x e ho true (.slice va L.length vc)).toArray,.int .i64 u] h fun v h' => v = .tuple #[.agg (rc rb0 (0 : Int) false false (.slice none 0 0)).toArray,.int .i64 213] ∧ Ext h h' := by
 have e0 := Ext.refl h
 have sep : Sep h.size h.size [] := Sep.nil _ _
 refine sat_of (args := [.agg (rc x e ho true (.slice va L.length vc)).toArray,.int .i64 u]) (fn := Try.f19) (B := b19) (n := 21) (L := [(0,.agg (rc x e ho true (.slice va L.length vc)).toArray),(1,.int .i64 u)]) Try.func19 rfl (by kernel_rfl) rfl ?_
 intro a hF
 refine cS ?_
 refine cP 0 hF ?_
 refine SeqK.eff (k' := 1) (Does.new (v := .pointer (some ⟨h.size,0,none⟩)) (o := .cells (rc x e ho true (.slice va L.length vc)).toArray 26) (by kernel_rfl)) rfl ?_
 rintro _ h1 ⟨rfl,hh⟩
 have g2 : Ext h h1 := push_ext hh
 have m3 : h1[h.size]? = some (.cells (rc x e ho true (.slice va L.length vc)).toArray 26) := push_at hh
 clear hh
 have lt4 := blk_lt m3
 have zs5 := e0.size
 have hlo := e0.size
 have sepo := sep
 replace e0 := e0.ext g2
 replace sep := sep.up g2.size
 replace sep := sepo.new hlo (blk_lt m3)
 clear sepo hlo
 refine SeqK.eff (k' := 2) (Does.new (v := .pointer (some ⟨h1.size,0,none⟩)) (o := .cells (rc rb0 (0 : Int) false false (.slice none 0 0)).toArray 26) (by kernel_rfl)) rfl ?_
 rintro _ h6 ⟨rfl,hh⟩
 have g7 : Ext h1 h6 := push_ext hh
 have m8 : h6[h1.size]? = some (.cells (rc rb0 (0 : Int) false false (.slice none 0 0)).toArray 26) := push_at hh
 clear hh
 have lt9 := blk_lt m8
 have zs10 := e0.size
 have hlo := e0.size
 have sepo := sep
 replace e0 := e0.ext g7
 replace m3 := Ext.blk g7 m3
 replace sep := sep.up g7.size
 replace sep := sepo.new hlo (blk_lt m8)
 clear sepo hlo
 refine sP 3 [.int .i64 0] ?_
 refine sD [(1,.int .i64 u),(2,pV h.size),(4,pV h1.size)] ?_
 clear hF a; intro a hF
 refine tK ?_
 refine cS ?_
 refine cS ?_
 refine cP 1 hF ?_
 refine sP 1 [.pointer (some ⟨h.size,37,none⟩)] ?_
 refine sC 2 (.bool true) (Calm.load (T := 4) (p := ⟨h.size,37,none⟩) (by kernel_rfl) (Loads.one (k := 1) (by kernel_rfl) ((hcell_blk m3).trans (rfl)))) ?_
 refine sD [(1,.int .i64 u),(2,pV h.size),(4,pV h1.size),(7,.bool true)] ?_
 clear hF a; intro a hF
 refine tK ?_
 refine cT 7 hF ?_
 refine cS ?_
 refine cP 2 hF ?_
 refine sP 1 [.agg (rc rb0 (0 : Int) false false (.slice none 0 0)).toArray] ?_
 refine SeqK.eff (k' := 2) (Does.store (b := h1.size) (off := 0) (vs := rc rb0 (0 : Int) false false (.slice none 0 0)) (l := rc rb0 (0 : Int) false false (.slice none 0 0)) (by kernel_rfl) m8 (of_decide_eq_true (by kernel_rfl)) (List.all_eq_true.1 (by kernel_rfl))) rfl ?_
 rintro _ h11 ⟨rfl,hh⟩
 have g12 : Grew (some (h1.size)) h6 h11 := hput_gr hh
 replace m8 : h11[h1.size]? = some (.cells (rc rb0 (0 : Int) false false (.slice none 0 0)).toArray 26) := hput_at (off := 0) (vs := rc rb0 (0 : Int) false false (.slice none 0 0)) (l := (rc rb0 (0 : Int) false false (.slice none 0 0))) hh (by kernel_rfl) m8
 clear hh
 replace e0 := e0.grew g12 (sep.low 0 rfl)
 replace m3 := Grew.blk g12 m3 ((sep.bp 1 0))
 replace sep := sep.up g12.size
 refine sP 3 [.int .i64 213] ?_
 refine sD [(4,pV h1.size),(5,.int .i64 213)] ?_
 clear hF a; intro a hF
 refine tK ?_
 refine cR ?_
 show retK Try.prog Try.f19 (fun v h' => v = .tuple #[.agg (rc rb0 (0 : Int) false false (.slice none 0 0)).toArray,.int .i64 213] ∧ Ext h h') .ret a h11
 refine ret_ok [.cell 4 26,.tmp 5] [.agg (rc rb0 (0 : Int) false false (.slice none 0 0)).toArray,.int .i64 213] (.tuple #[.agg (rc rb0 (0 : Int) false false (.slice none 0 0)).toArray,.int .i64 213]) rfl hF ⟨⟨_,rfl,Loads.blk (vs := rc rb0 (0 : Int) false false (.slice none 0 0)) (by kernel_rfl) m8 rfl⟩,rfl,trivial⟩ rfl ?_
 exact ⟨rfl,e0⟩
theorem rdel_held (h : Heap) (x : RB) (e : Int)  (L : List Pl) (va : Option Addr) (vc : Nat) (u : Int) : Sat Try.prog 19 #[.agg (rc x e true false (.slice va L.length vc)).toArray,.int .i64 u] h fun v h' => v = .tuple #[.agg (rc rb0 (0 : Int) false false (.slice none 0 0)).toArray,.int .i64 214] ∧ Ext h h' := by
 have e0 := Ext.refl h
 have sep : Sep h.size h.size [] := Sep.nil _ _
 refine sat_of (args := [.agg (rc x e true false (.slice va L.length vc)).toArray,.int .i64 u]) (fn := Try.f19) (B := b19) (n := 21) (L := [(0,.agg (rc x e true false (.slice va L.length vc)).toArray),(1,.int .i64 u)]) Try.func19 rfl (by kernel_rfl) rfl ?_
 intro a hF
 refine cS ?_
 refine cP 0 hF ?_
 refine SeqK.eff (k' := 1) (Does.new (v := .pointer (some ⟨h.size,0,none⟩)) (o := .cells (rc x e true false (.slice va L.length vc)).toArray 26) (by kernel_rfl)) rfl ?_
 rintro _ h1 ⟨rfl,hh⟩
 have g2 : Ext h h1 := push_ext hh
 have m3 : h1[h.size]? = some (.cells (rc x e true false (.slice va L.length vc)).toArray 26) := push_at hh
 clear hh
 have lt4 := blk_lt m3
 have zs5 := e0.size
 have hlo := e0.size
 have sepo := sep
 replace e0 := e0.ext g2
 replace sep := sep.up g2.size
 replace sep := sepo.new hlo (blk_lt m3)
 clear sepo hlo
 refine SeqK.eff (k' := 2) (Does.new (v := .pointer (some ⟨h1.size,0,none⟩)) (o := .cells (rc rb0 (0 : Int) false false (.slice none 0 0)).toArray 26) (by kernel_rfl)) rfl ?_
 rintro _ h6 ⟨rfl,hh⟩
 have g7 : Ext h1 h6 := push_ext hh
 have m8 : h6[h1.size]? = some (.cells (rc rb0 (0 : Int) false false (.slice none 0 0)).toArray 26) := push_at hh
 clear hh
 have lt9 := blk_lt m8
 have zs10 := e0.size
 have hlo := e0.size
 have sepo := sep
 replace e0 := e0.ext g7
 replace m3 := Ext.blk g7 m3
 replace sep := sep.up g7.size
 replace sep := sepo.new hlo (blk_lt m8)
 clear sepo hlo
 refine sP 3 [.int .i64 0] ?_
 refine sD [(1,.int .i64 u),(2,pV h.size),(4,pV h1.size)] ?_
 clear hF a; intro a hF
 refine tK ?_
 refine cS ?_
 refine cS ?_
 refine cP 1 hF ?_
 refine sP 1 [.pointer (some ⟨h.size,37,none⟩)] ?_
 refine sC 2 (.bool false) (Calm.load (T := 4) (p := ⟨h.size,37,none⟩) (by kernel_rfl) (Loads.one (k := 1) (by kernel_rfl) ((hcell_blk m3).trans (rfl)))) ?_
 refine sD [(1,.int .i64 u),(2,pV h.size),(4,pV h1.size),(7,.bool false)] ?_
 clear hF a; intro a hF
 refine tK ?_
 refine cF 7 hF ?_
 refine cN ?_
 refine tK ?_
 refine cS ?_
 refine cS ?_
 refine cP 3 hF ?_
 refine sP 1 [.pointer (some ⟨h.size,36,none⟩)] ?_
 refine sC 2 (.bool true) (Calm.load (T := 4) (p := ⟨h.size,36,none⟩) (by kernel_rfl) (Loads.one (k := 1) (by kernel_rfl) ((hcell_blk m3).trans (rfl)))) ?_
 refine sP 8 [.bool true,undef,undef,undef,undef,.bool true] ?_
 refine sD [(2,pV h.size),(4,pV h1.size),(16,.bool true)] ?_
 clear hF a; intro a hF
 refine tK ?_
 refine cT 16 hF ?_
 refine cS ?_
 refine cP 4 hF ?_
 refine sP 1 [.agg (rc rb0 (0 : Int) false false (.slice none 0 0)).toArray] ?_
 refine SeqK.eff (k' := 2) (Does.store (b := h1.size) (off := 0) (vs := rc rb0 (0 : Int) false false (.slice none 0 0)) (l := rc rb0 (0 : Int) false false (.slice none 0 0)) (by kernel_rfl) m8 (of_decide_eq_true (by kernel_rfl)) (List.all_eq_true.1 (by kernel_rfl))) rfl ?_
 rintro _ h11 ⟨rfl,hh⟩
 have g12 : Grew (some (h1.size)) h6 h11 := hput_gr hh
 replace m8 : h11[h1.size]? = some (.cells (rc rb0 (0 : Int) false false (.slice none 0 0)).toArray 26) := hput_at (off := 0) (vs := rc rb0 (0 : Int) false false (.slice none 0 0)) (l := (rc rb0 (0 : Int) false false (.slice none 0 0))) hh (by kernel_rfl) m8
 clear hh
 replace e0 := e0.grew g12 (sep.low 0 rfl)
 replace m3 := Grew.blk g12 m3 ((sep.bp 1 0))
 replace sep := sep.up g12.size
 refine sP 3 [.int .i64 214] ?_
 refine sD [(4,pV h1.size),(5,.int .i64 214)] ?_
 clear hF a; intro a hF
 refine tK ?_
 refine cR ?_
 show retK Try.prog Try.f19 (fun v h' => v = .tuple #[.agg (rc rb0 (0 : Int) false false (.slice none 0 0)).toArray,.int .i64 214] ∧ Ext h h') .ret a h11
 refine ret_ok [.cell 4 26,.tmp 5] [.agg (rc rb0 (0 : Int) false false (.slice none 0 0)).toArray,.int .i64 214] (.tuple #[.agg (rc rb0 (0 : Int) false false (.slice none 0 0)).toArray,.int .i64 214]) rfl hF ⟨⟨_,rfl,Loads.blk (vs := rc rb0 (0 : Int) false false (.slice none 0 0)) (by kernel_rfl) m8 rfl⟩,rfl,trivial⟩ rfl ?_
 exact ⟨rfl,e0⟩
theorem rdel_soon (h : Heap) (x : RB) (e : Int)  (L : List Pl) (va : Option Addr) (vc : Nat) (u : Int) (hu : u < e) : Sat Try.prog 19 #[.agg (rc x e false false (.slice va L.length vc)).toArray,.int .i64 u] h fun v h' => v = .tuple #[.agg (rc rb0 (0 : Int) false false (.slice none 0 0)).toArray,.int .i64 214] ∧ Ext h h' := by
 have e0 := Ext.refl h
 have sep : Sep h.size h.size [] := Sep.nil _ _
 refine sat_of (args := [.agg (rc x e false false (.slice va L.length vc)).toArray,.int .i64 u]) (fn := Try.f19) (B := b19) (n := 21) (L := [(0,.agg (rc x e false false (.slice va L.length vc)).toArray),(1,.int .i64 u)]) Try.func19 rfl (by kernel_rfl) rfl ?_
 intro a hF
 refine cS ?_
 refine cP 0 hF ?_
 refine SeqK.eff (k' := 1) (Does.new (v := .pointer (some ⟨h.size,0,none⟩)) (o := .cells (rc x e false false (.slice va L.length vc)).toArray 26) (by kernel_rfl)) rfl ?_
 rintro _ h1 ⟨rfl,hh⟩
 have g2 : Ext h h1 := push_ext hh
 have m3 : h1[h.size]? = some (.cells (rc x e false false (.slice va L.length vc)).toArray 26) := push_at hh
 clear hh
 have lt4 := blk_lt m3
 have zs5 := e0.size
 have hlo := e0.size
 have sepo := sep
 replace e0 := e0.ext g2
 replace sep := sep.up g2.size
 replace sep := sepo.new hlo (blk_lt m3)
 clear sepo hlo
 refine SeqK.eff (k' := 2) (Does.new (v := .pointer (some ⟨h1.size,0,none⟩)) (o := .cells (rc rb0 (0 : Int) false false (.slice none 0 0)).toArray 26) (by kernel_rfl)) rfl ?_
 rintro _ h6 ⟨rfl,hh⟩
 have g7 : Ext h1 h6 := push_ext hh
 have m8 : h6[h1.size]? = some (.cells (rc rb0 (0 : Int) false false (.slice none 0 0)).toArray 26) := push_at hh
 clear hh
 have lt9 := blk_lt m8
 have zs10 := e0.size
 have hlo := e0.size
 have sepo := sep
 replace e0 := e0.ext g7
 replace m3 := Ext.blk g7 m3
 replace sep := sep.up g7.size
 replace sep := sepo.new hlo (blk_lt m8)
 clear sepo hlo
 refine sP 3 [.int .i64 0] ?_
 refine sD [(1,.int .i64 u),(2,pV h.size),(4,pV h1.size)] ?_
 clear hF a; intro a hF
 refine tK ?_
 refine cS ?_
 refine cS ?_
 refine cP 1 hF ?_
 refine sP 1 [.pointer (some ⟨h.size,37,none⟩)] ?_
 refine sC 2 (.bool false) (Calm.load (T := 4) (p := ⟨h.size,37,none⟩) (by kernel_rfl) (Loads.one (k := 1) (by kernel_rfl) ((hcell_blk m3).trans (rfl)))) ?_
 refine sD [(1,.int .i64 u),(2,pV h.size),(4,pV h1.size),(7,.bool false)] ?_
 clear hF a; intro a hF
 refine tK ?_
 refine cF 7 hF ?_
 refine cN ?_
 refine tK ?_
 refine cS ?_
 refine cS ?_
 refine cP 3 hF ?_
 refine sP 1 [.pointer (some ⟨h.size,36,none⟩)] ?_
 refine sC 2 (.bool false) (Calm.load (T := 4) (p := ⟨h.size,36,none⟩) (by kernel_rfl) (Loads.one (k := 1) (by kernel_rfl) ((hcell_blk m3).trans (rfl)))) ?_
 refine sP 4 [.bool false,.pointer (some ⟨h.size,35,none⟩)] ?_
 refine sC 5 (.int .i64 e) (Calm.load (T := 3) (p := ⟨h.size,35,none⟩) (by kernel_rfl) (Loads.one (k := 1) (by kernel_rfl) ((hcell_blk m3).trans (rfl)))) ?_
 refine sP 6 [.int .i64 u] ?_
 refine s1 7 (.bool true) (.bool (decide (u < e))) (congrArg Value.bool (decide_eq_true (by omega))) ?_
 refine sP 8 [.bool true] ?_
 refine sD [(2,pV h.size),(4,pV h1.size),(16,.bool true)] ?_
 clear hF a; intro a hF
 refine tK ?_
 refine cT 16 hF ?_
 refine cS ?_
 refine cP 4 hF ?_
 refine sP 1 [.agg (rc rb0 (0 : Int) false false (.slice none 0 0)).toArray] ?_
 refine SeqK.eff (k' := 2) (Does.store (b := h1.size) (off := 0) (vs := rc rb0 (0 : Int) false false (.slice none 0 0)) (l := rc rb0 (0 : Int) false false (.slice none 0 0)) (by kernel_rfl) m8 (of_decide_eq_true (by kernel_rfl)) (List.all_eq_true.1 (by kernel_rfl))) rfl ?_
 rintro _ h11 ⟨rfl,hh⟩
 have g12 : Grew (some (h1.size)) h6 h11 := hput_gr hh
 replace m8 : h11[h1.size]? = some (.cells (rc rb0 (0 : Int) false false (.slice none 0 0)).toArray 26) := hput_at (off := 0) (vs := rc rb0 (0 : Int) false false (.slice none 0 0)) (l := (rc rb0 (0 : Int) false false (.slice none 0 0))) hh (by kernel_rfl) m8
 clear hh
 replace e0 := e0.grew g12 (sep.low 0 rfl)
 replace m3 := Grew.blk g12 m3 ((sep.bp 1 0))
 replace sep := sep.up g12.size
 refine sP 3 [.int .i64 214] ?_
 refine sD [(4,pV h1.size),(5,.int .i64 214)] ?_
 clear hF a; intro a hF
 refine tK ?_
 refine cR ?_
 show retK Try.prog Try.f19 (fun v h' => v = .tuple #[.agg (rc rb0 (0 : Int) false false (.slice none 0 0)).toArray,.int .i64 214] ∧ Ext h h') .ret a h11
 refine ret_ok [.cell 4 26,.tmp 5] [.agg (rc rb0 (0 : Int) false false (.slice none 0 0)).toArray,.int .i64 214] (.tuple #[.agg (rc rb0 (0 : Int) false false (.slice none 0 0)).toArray,.int .i64 214]) rfl hF ⟨⟨_,rfl,Loads.blk (vs := rc rb0 (0 : Int) false false (.slice none 0 0)) (by kernel_rfl) m8 rfl⟩,rfl,trivial⟩ rfl ?_
 exact ⟨rfl,e0⟩
theorem rdel_ok (h : Heap) (x : RB) (e : Int)  (L : List Pl) (va : Option Addr) (vc : Nat) (u : Int) (hu : e ≤ u) : Sat Try.prog 19 #[.agg (rc x e false false (.slice va L.length vc)).toArray,.int .i64 u] h fun v h' => v = .tuple #[.agg (rc x e false true (.slice none 0 0)).toArray,.int .i64 0] ∧ Ext h h' := by
 have e0 := Ext.refl h
 have sep : Sep h.size h.size [] := Sep.nil _ _
 refine sat_of (args := [.agg (rc x e false false (.slice va L.length vc)).toArray,.int .i64 u]) (fn := Try.f19) (B := b19) (n := 21) (L := [(0,.agg (rc x e false false (.slice va L.length vc)).toArray),(1,.int .i64 u)]) Try.func19 rfl (by kernel_rfl) rfl ?_
 intro a hF
 refine cS ?_
 refine cP 0 hF ?_
 refine SeqK.eff (k' := 1) (Does.new (v := .pointer (some ⟨h.size,0,none⟩)) (o := .cells (rc x e false false (.slice va L.length vc)).toArray 26) (by kernel_rfl)) rfl ?_
 rintro _ h1 ⟨rfl,hh⟩
 have g2 : Ext h h1 := push_ext hh
 have m3 : h1[h.size]? = some (.cells (rc x e false false (.slice va L.length vc)).toArray 26) := push_at hh
 clear hh
 have lt4 := blk_lt m3
 have zs5 := e0.size
 have hlo := e0.size
 have sepo := sep
 replace e0 := e0.ext g2
 replace sep := sep.up g2.size
 replace sep := sepo.new hlo (blk_lt m3)
 clear sepo hlo
 refine SeqK.eff (k' := 2) (Does.new (v := .pointer (some ⟨h1.size,0,none⟩)) (o := .cells (rc rb0 (0 : Int) false false (.slice none 0 0)).toArray 26) (by kernel_rfl)) rfl ?_
 rintro _ h6 ⟨rfl,hh⟩
 have g7 : Ext h1 h6 := push_ext hh
 have m8 : h6[h1.size]? = some (.cells (rc rb0 (0 : Int) false false (.slice none 0 0)).toArray 26) := push_at hh
 clear hh
 have lt9 := blk_lt m8
 have zs10 := e0.size
 have hlo := e0.size
 have sepo := sep
 replace e0 := e0.ext g7
 replace m3 := Ext.blk g7 m3
 replace sep := sep.up g7.size
 replace sep := sepo.new hlo (blk_lt m8)
 clear sepo hlo
 refine sP 3 [.int .i64 0] ?_
 refine sD [(1,.int .i64 u),(2,pV h.size),(4,pV h1.size)] ?_
 clear hF a; intro a hF
 refine tK ?_
 refine cS ?_
 refine cS ?_
 refine cP 1 hF ?_
 refine sP 1 [.pointer (some ⟨h.size,37,none⟩)] ?_
 refine sC 2 (.bool false) (Calm.load (T := 4) (p := ⟨h.size,37,none⟩) (by kernel_rfl) (Loads.one (k := 1) (by kernel_rfl) ((hcell_blk m3).trans (rfl)))) ?_
 refine sD [(1,.int .i64 u),(2,pV h.size),(4,pV h1.size),(7,.bool false)] ?_
 clear hF a; intro a hF
 refine tK ?_
 refine cF 7 hF ?_
 refine cN ?_
 refine tK ?_
 refine cS ?_
 refine cS ?_
 refine cP 3 hF ?_
 refine sP 1 [.pointer (some ⟨h.size,36,none⟩)] ?_
 refine sC 2 (.bool false) (Calm.load (T := 4) (p := ⟨h.size,36,none⟩) (by kernel_rfl) (Loads.one (k := 1) (by kernel_rfl) ((hcell_blk m3).trans (rfl)))) ?_
 refine sP 4 [.bool false,.pointer (some ⟨h.size,35,none⟩)] ?_
 refine sC 5 (.int .i64 e) (Calm.load (T := 3) (p := ⟨h.size,35,none⟩) (by kernel_rfl) (Loads.one (k := 1) (by kernel_rfl) ((hcell_blk m3).trans (rfl)))) ?_
 refine sP 6 [.int .i64 u] ?_
 refine s1 7 (.bool false) (.bool (decide (u < e))) (congrArg Value.bool (decide_eq_false (by omega))) ?_
 refine sP 8 [.bool false] ?_
 refine sD [(2,pV h.size),(4,pV h1.size),(16,.bool false)] ?_
 clear hF a; intro a hF
 refine tK ?_
 refine cF 16 hF ?_
 refine cN ?_
 refine tK ?_
 refine cS ?_
 refine cP 5 hF ?_
 refine sP 1 [.pointer (some ⟨h.size,37,none⟩)] ?_
 refine SeqK.eff (k' := 2) (Does.store (b := h.size) (off := 37) (vs := [.bool true]) (l := rc x e false false (.slice va L.length vc)) (by kernel_rfl) m3 (of_decide_eq_true (by kernel_rfl)) (List.all_eq_true.1 (by kernel_rfl))) rfl ?_
 rintro _ h11 ⟨rfl,hh⟩
 have g12 : Grew (some (h.size)) h6 h11 := hput_gr hh
 replace m3 : h11[h.size]? = some (.cells (rc x e false true (.slice va L.length vc)).toArray 26) := hput_at (off := 37) (vs := [.bool true]) (l := (rc x e false false (.slice va L.length vc))) hh (by kernel_rfl) m3
 clear hh
 replace e0 := e0.grew g12 (sep.low 1 rfl)
 replace m8 := Grew.blk g12 m8 ((sep.bp 0 1))
 replace sep := sep.up g12.size
 refine sD [(2,pV h.size),(4,pV h1.size)] ?_
 clear hF a; intro a hF
 refine tK ?_
 refine cS ?_
 refine cP 6 hF ?_
 refine sP 1 [.pointer (some ⟨h.size,38,none⟩)] ?_
 refine SeqK.eff (k' := 2) (Does.store (b := h.size) (off := 38) (vs := [.slice none 0 0]) (l := rc x e false true (.slice va L.length vc)) (by kernel_rfl) m3 (of_decide_eq_true (by kernel_rfl)) (List.all_eq_true.1 (by kernel_rfl))) rfl ?_
 rintro _ h13 ⟨rfl,hh⟩
 have g14 : Grew (some (h.size)) h11 h13 := hput_gr hh
 replace m3 : h13[h.size]? = some (.cells (rc x e false true (.slice none 0 0)).toArray 26) := hput_at (off := 38) (vs := [.slice none 0 0]) (l := (rc x e false true (.slice va L.length vc))) hh (by kernel_rfl) m3
 clear hh
 replace e0 := e0.grew g14 (sep.low 1 rfl)
 replace m8 := Grew.blk g14 m8 ((sep.bp 0 1))
 replace sep := sep.up g14.size
 refine sD [(2,pV h.size),(4,pV h1.size)] ?_
 clear hF a; intro a hF
 refine tK ?_
 refine cS ?_
 refine cP 7 hF ?_
 refine sC 1 (.agg (rc x e false true (.slice none 0 0)).toArray) (Calm.load (T := 26) (p := ⟨h.size,0,none⟩) (by kernel_rfl) (Loads.blk (vs := rc x e false true (.slice none 0 0)) (by kernel_rfl) m3 rfl)) ?_
 refine SeqK.eff (k' := 2) (Does.store (b := h1.size) (off := 0) (vs := rc x e false true (.slice none 0 0)) (l := rc rb0 (0 : Int) false false (.slice none 0 0)) (by kernel_rfl) m8 (of_decide_eq_true (by kernel_rfl)) (List.all_eq_true.1 (by kernel_rfl))) rfl ?_
 rintro _ h15 ⟨rfl,hh⟩
 have g16 : Grew (some (h1.size)) h13 h15 := hput_gr hh
 replace m8 : h15[h1.size]? = some (.cells (rc x e false true (.slice none 0 0)).toArray 26) := hput_at (off := 0) (vs := rc x e false true (.slice none 0 0)) (l := (rc rb0 (0 : Int) false false (.slice none 0 0))) hh (by kernel_rfl) m8
 clear hh
 replace e0 := e0.grew g16 (sep.low 0 rfl)
 replace m3 := Grew.blk g16 m3 ((sep.bp 1 0))
 replace sep := sep.up g16.size
 refine sP 3 [.int .i64 0] ?_
 refine sD [(4,pV h1.size),(5,.int .i64 0)] ?_
 clear hF a; intro a hF
 refine tK ?_
 refine cR ?_
 show retK Try.prog Try.f19 (fun v h' => v = .tuple #[.agg (rc x e false true (.slice none 0 0)).toArray,.int .i64 0] ∧ Ext h h') .ret a h15
 refine ret_ok [.cell 4 26,.tmp 5] [.agg (rc x e false true (.slice none 0 0)).toArray,.int .i64 0] (.tuple #[.agg (rc x e false true (.slice none 0 0)).toArray,.int .i64 0]) rfl hF ⟨⟨_,rfl,Loads.blk (vs := rc x e false true (.slice none 0 0)) (by kernel_rfl) m8 rfl⟩,rfl,trivial⟩ rfl ?_
 exact ⟨rfl,e0⟩
end Go.Proofs.Ytlghdimpgfhmcaa
