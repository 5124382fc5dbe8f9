/- the law of locks in whatever order: what it comes to. Conditions: those that each theorem names. -/
import Derived.Test.YtlghdimpgfhmcaaRetH
namespace Go.Proofs.Ytlghdimpgfhmcaa
open Go Go.Lane Go.Sha
noncomputable def b9 : Code := Try.f9.body.getD .skip
theorem order_gone (h : Heap) (x : RB) (e : Int) (ho : Bool) (L : List Pl) (va : Option Addr) (vc : Nat) (O : List Int) (wa : Option Addr) (wc : Nat) : Sat Try.prog 9 #[.agg (rc x e ho true (.slice va L.length vc)).toArray,.slice wa O.length wc] h fun v h' => v = .bool true ∧ Ext h h' := by
 have e0 := Ext.refl h
 have sep : Sep h.size h.size [] := Sep.nil _ _
 refine sat_of (args := [.agg (rc x e ho true (.slice va L.length vc)).toArray,.slice wa O.length wc]) (fn := Try.f9) (B := b9) (n := 78) (L := [(0,.agg (rc x e ho true (.slice va L.length vc)).toArray),(1,.slice wa O.length wc)]) Try.func9 rfl (by kernel_rfl) rfl ?_
 intro a hF
 refine cS ?_
 refine cP 0 hF ?_
 refine SeqK.eff (k' := 1) (Does.new (v := .pointer (some ⟨h.size,0,none⟩)) (o := .cells (rc x e ho true (.slice va L.length vc)).toArray 26) (by kernel_rfl)) rfl ?_
 rintro _ h1 ⟨rfl,hh⟩
 have g2 : Ext h h1 := push_ext hh
 have m3 : h1[h.size]? = some (.cells (rc x e ho true (.slice va L.length vc)).toArray 26) := push_at hh
 clear hh
 have lt4 := blk_lt m3
 have zs5 := e0.size
 have hlo := e0.size
 have sepo := sep
 replace e0 := e0.ext g2
 replace sep := sep.up g2.size
 replace sep := sepo.new hlo (blk_lt m3)
 clear sepo hlo
 refine sP 2 [.bool false] ?_
 refine sD [(1,.slice wa O.length wc),(2,pV h.size)] ?_
 clear hF a; intro a hF
 refine tK ?_
 refine cS ?_
 refine cP 1 hF ?_
 refine SeqK.eff (k' := 1) (Does.call (f := 10) (args := #[]) (by kernel_rfl) (shown_sat _)) rfl ?_
 rintro _ h6 ⟨rfl,g⟩
 replace e0 := e0.ext g
 replace m3 := Ext.blk g m3
 replace sep := sep.up g.size
 clear g
 refine sP 2 [.bool true] ?_
 refine sD [(1,.slice wa O.length wc),(2,pV h.size),(5,.bool true)] ?_
 clear hF a; intro a hF
 refine tK ?_
 refine cS ?_
 refine cS ?_
 refine cP 2 hF ?_
 refine sP 2 [.bool true,.bool false] ?_
 refine sD [(1,.slice wa O.length wc),(2,pV h.size),(5,.bool true),(16,.bool false)] ?_
 clear hF a; intro a hF
 refine tK ?_
 refine cF 16 hF ?_
 refine cN ?_
 refine tK ?_
 refine cS ?_
 refine cS ?_
 refine cP 4 hF ?_
 refine sP 1 [.pointer (some ⟨h.size,37,none⟩)] ?_
 refine sC 2 (.bool true) (Calm.load (T := 4) (p := ⟨h.size,37,none⟩) (by kernel_rfl) (Loads.one (k := 1) (by kernel_rfl) ((hcell_blk m3).trans (rfl)))) ?_
 refine sD [(1,.slice wa O.length wc),(2,pV h.size),(5,.bool true),(18,.bool true)] ?_
 clear hF a; intro a hF
 refine tK ?_
 refine cT 18 hF ?_
 refine cS ?_
 refine cP 5 hF ?_
 refine sP 2 [.bool true,.bool true] ?_
 refine sD [(4,.bool true)] ?_
 clear hF a; intro a hF
 refine tK ?_
 refine cR ?_
 show retK Try.prog Try.f9 (fun v h' => v = .bool true ∧ Ext h h') .ret a h6
 refine ret_ok [.tmp 4] [.bool true] (.bool true) rfl hF ⟨rfl,trivial⟩ rfl ?_
 exact ⟨rfl,e0⟩
set_option maxHeartbeats 1000000 in
theorem order_ok (h : Heap) (x : RB) (e : Int) (ho : Bool) (L : List Pl) (va : Option Addr) (vc : Nat) (hr : Row h (.slice va L.length vc) L.length 4 (prow L)) (hL : L.length ≤ 1099511627776) (O : List Int) (wa : Option Addr) (wc : Nat) (hro : Row h (.slice wa O.length wc) O.length 1 (irow O)) (hO : O.length ≤ 1099511627776) : Sat Try.prog 9 #[.agg (rc x e ho false (.slice va L.length vc)).toArray,.slice wa O.length wc] h fun v h' => v = .bool true ∧ Ext h h' := by
 have e0 := Ext.refl h
 have sep : Sep h.size h.size [] := Sep.nil _ _
 refine sat_of (args := [.agg (rc x e ho false (.slice va L.length vc)).toArray,.slice wa O.length wc]) (fn := Try.f9) (B := b9) (n := 78) (L := [(0,.agg (rc x e ho false (.slice va L.length vc)).toArray),(1,.slice wa O.length wc)]) Try.func9 rfl (by kernel_rfl) rfl ?_
 intro a hF
 refine cS ?_
 refine cP 0 hF ?_
 refine SeqK.eff (k' := 1) (Does.new (v := .pointer (some ⟨h.size,0,none⟩)) (o := .cells (rc x e ho false (.slice va L.length vc)).toArray 26) (by kernel_rfl)) rfl ?_
 rintro _ h1 ⟨rfl,hh⟩
 have g2 : Ext h h1 := push_ext hh
 have m3 : h1[h.size]? = some (.cells (rc x e ho false (.slice va L.length vc)).toArray 26) := push_at hh
 clear hh
 have lt4 := blk_lt m3
 have zs5 := e0.size
 have hlo := e0.size
 have sepo := sep
 replace e0 := e0.ext g2
 replace sep := sep.up g2.size
 replace sep := sepo.new hlo (blk_lt m3)
 clear sepo hlo
 refine sP 2 [.bool false] ?_
 refine sD [(1,.slice wa O.length wc),(2,pV h.size)] ?_
 clear hF a; intro a hF
 refine tK ?_
 refine cS ?_
 refine cP 1 hF ?_
 refine SeqK.eff (k' := 1) (Does.call (f := 10) (args := #[]) (by kernel_rfl) (shown_sat _)) rfl ?_
 rintro _ h6 ⟨rfl,g⟩
 replace e0 := e0.ext g
 replace m3 := Ext.blk g m3
 replace sep := sep.up g.size
 clear g
 refine sP 2 [.bool true] ?_
 refine sD [(1,.slice wa O.length wc),(2,pV h.size),(5,.bool true)] ?_
 clear hF a; intro a hF
 refine tK ?_
 refine cS ?_
 refine cS ?_
 refine cP 2 hF ?_
 refine sP 2 [.bool true,.bool false] ?_
 refine sD [(1,.slice wa O.length wc),(2,pV h.size),(5,.bool true),(16,.bool false)] ?_
 clear hF a; intro a hF
 refine tK ?_
 refine cF 16 hF ?_
 refine cN ?_
 refine tK ?_
 refine cS ?_
 refine cS ?_
 refine cP 4 hF ?_
 refine sP 1 [.pointer (some ⟨h.size,37,none⟩)] ?_
 refine sC 2 (.bool false) (Calm.load (T := 4) (p := ⟨h.size,37,none⟩) (by kernel_rfl) (Loads.one (k := 1) (by kernel_rfl) ((hcell_blk m3).trans (rfl)))) ?_
 refine sD [(1,.slice wa O.length wc),(2,pV h.size),(5,.bool true),(18,.bool false)] ?_
 clear hF a; intro a hF
 refine tK ?_
 refine cF 18 hF ?_
 refine cN ?_
 refine tK ?_
 refine cS ?_
 refine cP 6 hF ?_
 refine sC 1 (.agg (rc x e ho false (.slice va L.length vc)).toArray) (Calm.load (T := 26) (p := ⟨h.size,0,none⟩) (by kernel_rfl) (Loads.blk (vs := rc x e ho false (.slice va L.length vc)) (by kernel_rfl) m3 rfl)) ?_
 refine SeqK.eff (k' := 2) (Does.call (f := 11) (args := #[.agg (rc x e ho false (.slice va L.length vc)).toArray]) (by kernel_rfl) (copied_sat _ x e ho false L va vc (hr.ext e0) hL)) rfl ?_
 rintro _ h9 ⟨_,rfl,ad7,cap8,rfl,ownx,hge,g⟩
 have hlo := e0.size
 have sepo := sep
 replace e0 := e0.ext g
 replace m3 := Ext.blk g m3
 replace sep := sep.up g.size
 replace sep := sepo.cons (x := ad7.map (fun (x : Addr) => x.block)) g.size hlo (fun k e => ⟨hge k e,ownx.lt (by rw [blkOf_slice]; exact e)⟩)
 have own_a : Own h9 (.slice ad7 L.length cap8) 49 L.length 4 (prow L) := ownx; clear ownx sepo hlo hge g
 refine SeqK.eff (k' := 3) (Does.new (v := .pointer (some ⟨h9.size,0,none⟩)) (o := .cells (rc rb0 (0 : Int) false false (.slice none 0 0)).toArray 26) (by kernel_rfl)) rfl ?_
 rintro _ h10 ⟨rfl,hh⟩
 have g11 : Ext h9 h10 := push_ext hh
 have m12 : h10[h9.size]? = some (.cells (rc rb0 (0 : Int) false false (.slice none 0 0)).toArray 26) := push_at hh
 clear hh
 have lt13 := blk_lt m12
 have zs14 := e0.size
 have hlo := e0.size
 have sepo := sep
 replace e0 := e0.ext g11
 replace own_a := own_a.ext g11
 replace m3 := Ext.blk g11 m3
 replace sep := sep.up g11.size
 replace sep := sepo.new hlo (blk_lt m12)
 clear sepo hlo
 refine SeqK.eff (k' := 4) (Does.store (b := h9.size) (off := 0) (vs := rc x e ho false (.slice ad7 L.length cap8)) (l := rc rb0 (0 : Int) false false (.slice none 0 0)) (by kernel_rfl) m12 (of_decide_eq_true (by kernel_rfl)) (List.all_eq_true.1 (by kernel_rfl))) rfl ?_
 rintro _ h15 ⟨rfl,hh⟩
 have g16 : Grew (some (h9.size)) h10 h15 := hput_gr hh
 replace m12 : h15[h9.size]? = some (.cells (rc x e ho false (.slice ad7 L.length cap8)).toArray 26) := hput_at (off := 0) (vs := rc x e ho false (.slice ad7 L.length cap8)) (l := (rc rb0 (0 : Int) false false (.slice none 0 0))) hh (by kernel_rfl) m12
 clear hh
 replace e0 := e0.grew g16 (sep.low 0 rfl)
 replace own_a := own_a.kept g16 (by rw [blkOf_slice]; exact (sep.ap 1 0))
 replace m3 := Grew.blk g16 m3 ((sep.bp 2 0))
 replace sep := sep.up g16.size
 refine sD [(1,.slice wa O.length wc),(2,pV h.size),(5,.bool true),(6,pV h9.size)] ?_
 clear hF a; intro a hF
 refine tK ?_
 refine cS ?_
 refine cP 7 hF ?_
 refine sC 1 (.agg (rc x e ho false (.slice va L.length vc)).toArray) (Calm.load (T := 26) (p := ⟨h.size,0,none⟩) (by kernel_rfl) (Loads.blk (vs := rc x e ho false (.slice va L.length vc)) (by kernel_rfl) m3 rfl)) ?_
 refine SeqK.eff (k' := 2) (Does.call (f := 11) (args := #[.agg (rc x e ho false (.slice va L.length vc)).toArray]) (by kernel_rfl) (copied_sat _ x e ho false L va vc (hr.ext e0) hL)) rfl ?_
 rintro _ h19 ⟨_,rfl,ad17,cap18,rfl,ownx,hge,g⟩
 have hlo := e0.size
 have sepo := sep
 replace e0 := e0.ext g
 replace own_a := own_a.ext g
 replace m3 := Ext.blk g m3
 replace m12 := Ext.blk g m12
 replace sep := sep.up g.size
 replace sep := sepo.cons (x := ad17.map (fun (x : Addr) => x.block)) g.size hlo (fun k e => ⟨hge k e,ownx.lt (by rw [blkOf_slice]; exact e)⟩)
 have own_b : Own h19 (.slice ad17 L.length cap18) 49 L.length 4 (prow L) := ownx; clear ownx sepo hlo hge g
 refine SeqK.eff (k' := 3) (Does.new (v := .pointer (some ⟨h19.size,0,none⟩)) (o := .cells (rc rb0 (0 : Int) false false (.slice none 0 0)).toArray 26) (by kernel_rfl)) rfl ?_
 rintro _ h20 ⟨rfl,hh⟩
 have g21 : Ext h19 h20 := push_ext hh
 have m22 : h20[h19.size]? = some (.cells (rc rb0 (0 : Int) false false (.slice none 0 0)).toArray 26) := push_at hh
 clear hh
 have lt23 := blk_lt m22
 have zs24 := e0.size
 have hlo := e0.size
 have sepo := sep
 replace e0 := e0.ext g21
 replace own_a := own_a.ext g21
 replace own_b := own_b.ext g21
 replace m3 := Ext.blk g21 m3
 replace m12 := Ext.blk g21 m12
 replace sep := sep.up g21.size
 replace sep := sepo.new hlo (blk_lt m22)
 clear sepo hlo
 refine SeqK.eff (k' := 4) (Does.store (b := h19.size) (off := 0) (vs := rc x e ho false (.slice ad17 L.length cap18)) (l := rc rb0 (0 : Int) false false (.slice none 0 0)) (by kernel_rfl) m22 (of_decide_eq_true (by kernel_rfl)) (List.all_eq_true.1 (by kernel_rfl))) rfl ?_
 rintro _ h25 ⟨rfl,hh⟩
 have g26 : Grew (some (h19.size)) h20 h25 := hput_gr hh
 replace m22 : h25[h19.size]? = some (.cells (rc x e ho false (.slice ad17 L.length cap18)).toArray 26) := hput_at (off := 0) (vs := rc x e ho false (.slice ad17 L.length cap18)) (l := (rc rb0 (0 : Int) false false (.slice none 0 0))) hh (by kernel_rfl) m22
 clear hh
 replace e0 := e0.grew g26 (sep.low 0 rfl)
 replace own_a := own_a.kept g26 (by rw [blkOf_slice]; exact (sep.ap 3 0))
 replace own_b := own_b.kept g26 (by rw [blkOf_slice]; exact (sep.ap 1 0))
 replace m3 := Grew.blk g26 m3 ((sep.bp 4 0))
 replace m12 := Grew.blk g26 m12 ((sep.bp 2 0))
 replace sep := sep.up g26.size
 refine sD [(1,.slice wa O.length wc),(2,pV h.size),(5,.bool true),(6,pV h9.size),(7,pV h19.size)] ?_
 clear hF a; intro a hF
 refine tK ?_
 refine cS ?_
 refine cP 8 hF ?_
 refine sP 1 [.pointer (some ⟨h.size,35,none⟩)] ?_
 refine sC 2 (.int .i64 e) (Calm.load (T := 3) (p := ⟨h.size,35,none⟩) (by kernel_rfl) (Loads.one (k := 1) (by kernel_rfl) ((hcell_blk m3).trans (rfl)))) ?_
 refine sP 3 [.int .i64 e] ?_
 refine sD [(1,.slice wa O.length wc),(5,.bool true),(6,pV h9.size),(7,pV h19.size),(8,.int .i64 e)] ?_
 clear hF a; intro a hF
 refine tK ?_
 refine cS ?_
 refine cS ?_
 refine cP 9 hF ?_
 refine sP 1 [.int .i64 0] ?_
 refine sD [(1,.slice wa O.length wc),(5,.bool true),(6,pV h9.size),(7,pV h19.size),(8,.int .i64 e),(9,.int .i64 0)] ?_
 clear hF a; intro a hF
 refine tK ?_
 refine cB 0 ?_
 have fsep : Sep h.size h25.size [ad17.map (·.block),ad7.map (·.block),some h19.size,some h9.size] := sep.pick [1,3,0,2] rfl (by decide)
 clear m3
 refine C.loop (fun m a h' => ∃ i : Nat,∃ ea : Int,∃ eb : Int,∃ ad1 : Option Addr,∃ cap1 : Nat,∃ ad2 : Option Addr,∃ cap2 : Nat,m = O.length - i ∧ (Ext h h') ∧ (i ≤ O.length) ∧ (ea = mx e (O.take i)) ∧ (eb = mx e (O.reverse.take i)) ∧ (h'[h9.size]? = some (.cells (rc x ea ho false (.slice ad1 L.length cap1)).toArray 26)) ∧ (h'[h19.size]? = some (.cells (rc x eb ho false (.slice ad2 L.length cap2)).toArray 26)) ∧ (Own h' (.slice ad1 L.length cap1) 49 L.length 4 (prow L)) ∧ (Own h' (.slice ad2 L.length cap2) 49 L.length 4 (prow L)) ∧ (Sep h.size h'.size [ad2.map (·.block),ad1.map (·.block),some h19.size,some h9.size]) ∧ (Fr a 78 [(1,.slice wa O.length wc),(5,.bool true),(6,.pointer (some ⟨h9.size,0,none⟩)),(7,.pointer (some ⟨h19.size,0,none⟩)),(8,.int .i64 ea),(9,.int .i64 ((i : Nat) : Int))])) (O.length - 0) [1,1,1,1,1,1,1,0,1,0,0] (by kernel_rfl) ⟨0,e,e,ad7,cap8,ad17,cap18,rfl,e0,(by omega),rfl,rfl,m12,m22,own_a,own_b,fsep,hF⟩ ?_
 clear hF a
 clear e0
 clear m12
 clear m22
 clear own_a
 clear own_b
 clear fsep
 rintro m a h27 ⟨i,ea,eb,ad1,cap1,ad2,cap2,rfl,e0,hi,hea,heb,m12,m22,own_a,own_b,sep,hF⟩
 refine cS ?_
 refine cS ?_
 refine cP 10 hF ?_
 refine sP 4 [nV i,.slice wa O.length wc,nV O.length,.bool (decide (((i : Nat) : Int) < ((O.length : Nat) : Int)))] ?_
 refine sD [(1,.slice wa O.length wc),(5,.bool true),(6,pV h9.size),(7,pV h19.size),(8,.int .i64 ea),(9,nV i),(29,.bool (decide (((i : Nat) : Int) < ((O.length : Nat) : Int))))] ?_
 clear hF a; intro a hF
 refine tK ?_
 refine cC 29 (decide (((i : Nat) : Int) < ((O.length : Nat) : Int))) hF (fun hc28 => ?_) (fun hc28 => ?_)
 ·skip
  replace hc28 := of_decide_eq_true hc28
  have hia : i < O.length := by omega
  obtain ⟨ac,rfl,hcap_ac⟩ := hro.someA (by omega)
  refine cN ?_
  refine tK ?_
  refine cS ?_
  refine cB 1 ?_
  refine cS ?_
  rcases (show (O.getD i 0 < 0 ∨ 1099511627776 < O.getD i 0) ∨ (0 ≤ O.getD i 0 ∧ O.getD i 0 ≤ 1099511627776) by omega) with hu | hu
  ·skip
   have hea2 := mx_no hia hea hu
   refine C.mono (K := fun e a hJ => ∃ (bk29 : Nat),e = .normal ∧ (Ext h hJ) ∧ (Own hJ (.slice ad1 L.length cap1) 49 L.length 4 (prow L)) ∧ (Own hJ (.slice ad2 L.length cap2) 49 L.length 4 (prow L)) ∧ (hJ[h9.size]? = some (.cells (rc x ea ho false (.slice ad1 L.length cap1)).toArray 26)) ∧ (hJ[h19.size]? = some (.cells (rc x eb ho false (.slice ad2 L.length cap2)).toArray 26)) ∧ (hJ[bk29]? = some (.cells (rc rb0 (0 : Int) false false (.slice none 0 0)).toArray 26)) ∧ (Sep h.size hJ.size [some bk29,ad2.map (·.block),ad1.map (·.block),some h19.size,some h9.size]) ∧ Fr a 78 [(1,.slice (some ac) O.length wc),(5,.bool true),(6,.pointer (some ⟨h9.size,0,none⟩)),(7,.pointer (some ⟨h19.size,0,none⟩)),(8,.int .i64 ea),(9,.int .i64 ((i : Nat) : Int)),(10,.pointer (some ⟨bk29,0,none⟩)),(11,.int .i64 1)]) ?_ ?_
   ·skip
    refine cD [0,0,0,6,14,31,63,127,127,0,767,2047] 12 mixed hF ?_
    refine mL 1 1 0 (.agg (rc x ea ho false (.slice ad1 L.length cap1)).toArray) (Calm.load (T := 26) (p := ⟨h9.size,0,none⟩) (by kernel_rfl) (Loads.blk (vs := rc x ea ho false (.slice ad1 L.length cap1)) (by kernel_rfl) m12 rfl)) ?_
    refine mP 7 [1,2] [.slice (some ac) O.length wc,nV i] ?_
    refine mF 15 3 (.pointer (some (Addr.add ac i))) (Calm.indexA (a := ac) (len := O.length) (sz := 1) (k := ((i : Nat) : Int)) i i (by kernel_rfl) rfl (by omega) (by omega)) ?_
    refine mL 31 17 4 (.int .i64 (O.getD i 0)) (Calm.load (T := 3) (p := (Addr.add ac i)) (by kernel_rfl) (Loads.one (k := 1) (by kernel_rfl) (Row.cell1 (hro.ext e0) (by omega)))) ?_
    refine SimK.effs (is := [5,9]) (by kernel_rfl) (by simp) ?_
    intro q hq
    simp only [List.mem_cons,List.not_mem_nil,or_false] at hq
    rcases hq with rfl | rfl
    ·skip
     refine SimK.effAt (i := 5) (D' := 63) (X' := 63) (by kernel_rfl) (by kernel_rfl) [] (by kernel_rfl) (Does.call (f := 12) (args := #[.agg (rc x ea ho false (.slice ad1 L.length cap1)).toArray,.int .i64 (O.getD i 0)]) (by kernel_rfl) (lock_arg _ x ea ho false L ad1 cap1 (O.getD i 0) hu)) ?_
     rintro _ h31 ⟨rfl,g⟩
     refine ⟨fun j hj => by simp at hj,?_⟩
     replace e0 := e0.ext g
     replace own_a := own_a.ext g
     replace own_b := own_b.ext g
     replace m12 := Ext.blk g m12
     replace m22 := Ext.blk g m22
     replace sep := sep.up g.size
     clear g
     refine mP 511 [6,7,8] [.tuple #[.agg (rc rb0 (0 : Int) false false (.slice none 0 0)).toArray,.int .i64 1],.agg (rc rb0 (0 : Int) false false (.slice none 0 0)).toArray,.int .i64 1] ?_
     refine SimK.eff0 (i := 9) (D' := 1023) (X' := 575) (by kernel_rfl) (by kernel_rfl) (by kernel_rfl) (by kernel_rfl) (Does.new (v := .pointer (some ⟨h31.size,0,none⟩)) (o := .cells (rc rb0 (0 : Int) false false (.slice none 0 0)).toArray 26) (by kernel_rfl)) ?_
     rintro _ h32 ⟨rfl,hh⟩
     have g33 : Ext h31 h32 := push_ext hh
     have m34 : h32[h31.size]? = some (.cells (rc rb0 (0 : Int) false false (.slice none 0 0)).toArray 26) := push_at hh
     clear hh
     have lt35 := blk_lt m34
     have zs36 := e0.size
     have hlo := e0.size
     have sepo := sep
     replace e0 := e0.ext g33
     replace own_a := own_a.ext g33
     replace own_b := own_b.ext g33
     replace m12 := Ext.blk g33 m12
     replace m22 := Ext.blk g33 m22
     replace sep := sep.up g33.size
     replace sep := sepo.new hlo (blk_lt m34)
     clear sepo hlo
     refine SimK.eff0 (i := 10) (D' := 2047) (X' := 1791) (by kernel_rfl) (by kernel_rfl) (by kernel_rfl) (by kernel_rfl) (Does.store (b := h31.size) (off := 0) (vs := rc rb0 (0 : Int) false false (.slice none 0 0)) (l := rc rb0 (0 : Int) false false (.slice none 0 0)) (by kernel_rfl) m34 (of_decide_eq_true (by kernel_rfl)) (List.all_eq_true.1 (by kernel_rfl))) ?_
     rintro _ h37 ⟨rfl,hh⟩
     have g38 : Grew (some (h31.size)) h32 h37 := hput_gr hh
     replace m34 : h37[h31.size]? = some (.cells (rc rb0 (0 : Int) false false (.slice none 0 0)).toArray 26) := hput_at (off := 0) (vs := rc rb0 (0 : Int) false false (.slice none 0 0)) (l := (rc rb0 (0 : Int) false false (.slice none 0 0))) hh (by kernel_rfl) m34
     clear hh
     replace e0 := e0.grew g38 (sep.low 0 rfl)
     replace own_a := own_a.kept g38 (by rw [blkOf_slice]; exact (sep.ap 2 0))
     replace own_b := own_b.kept g38 (by rw [blkOf_slice]; exact (sep.ap 1 0))
     replace m12 := Grew.blk g38 m12 ((sep.bp 4 0))
     replace m22 := Grew.blk g38 m22 ((sep.bp 3 0))
     replace sep := sep.up g38.size
     refine mP 4095 [11] [.int .i64 1] ?_
     refine mD [(1,.slice (some ac) O.length wc),(5,.bool true),(6,pV h9.size),(7,pV h19.size),(8,.int .i64 ea),(9,nV i),(10,pV h31.size),(11,.int .i64 1)] ?_
     clear hF a; intro a hF
     have sepj := sep.pick (l' := [some h31.size,ad2.map (·.block),ad1.map (·.block),some h19.size,some h9.size]) [0,1,2,3,4] rfl (by decide)
     exact ⟨h31.size,rfl,e0,own_a,own_b,m12,m22,m34,sepj,hF⟩
    ·skip
     refine SimK.effAt (i := 9) (D' := 543) (X' := 512) (by kernel_rfl) (by kernel_rfl) [0,4] (by kernel_rfl) (Does.new (v := .pointer (some ⟨h27.size,0,none⟩)) (o := .cells (rc rb0 (0 : Int) false false (.slice none 0 0)).toArray 26) (by kernel_rfl)) ?_
     rintro _ h39 ⟨rfl,hh⟩
     have g40 : Ext h27 h39 := push_ext hh
     have m41 : h39[h27.size]? = some (.cells (rc rb0 (0 : Int) false false (.slice none 0 0)).toArray 26) := push_at hh
     clear hh
     have lt42 := blk_lt m41
     have zs43 := e0.size
     have hlo := e0.size
     have sepo := sep
     replace e0 := e0.ext g40
     replace own_a := own_a.ext g40
     replace own_b := own_b.ext g40
     replace m12 := Ext.blk g40 m12
     replace m22 := Ext.blk g40 m22
     replace sep := sep.up g40.size
     replace sep := sepo.new hlo (blk_lt m41)
     clear sepo hlo
     refine ⟨?_,?_⟩
     ·intro j hj
      simp only [List.mem_cons,List.not_mem_nil,or_false] at hj
      rcases hj with rfl | rfl
      ·exact goodOf (Calm.load (T := 26) (p := ⟨h9.size,0,none⟩) (by kernel_rfl) (Loads.blk (vs := rc x ea ho false (.slice ad1 L.length cap1)) (by kernel_rfl) m12 rfl))
      ·exact goodOf (Calm.load (T := 3) (p := (Addr.add ac i)) (by kernel_rfl) (Loads.one (k := 1) (by kernel_rfl) (Row.cell1 (hro.ext e0) (by omega))))
     refine SimK.eff0 (i := 5) (D' := 575) (X' := 575) (by kernel_rfl) (by kernel_rfl) (by kernel_rfl) (by kernel_rfl) (Does.call (f := 12) (args := #[.agg (rc x ea ho false (.slice ad1 L.length cap1)).toArray,.int .i64 (O.getD i 0)]) (by kernel_rfl) (lock_arg _ x ea ho false L ad1 cap1 (O.getD i 0) hu)) ?_
     rintro _ h44 ⟨rfl,g⟩
     replace e0 := e0.ext g
     replace own_a := own_a.ext g
     replace own_b := own_b.ext g
     replace m12 := Ext.blk g m12
     replace m22 := Ext.blk g m22
     replace m41 := Ext.blk g m41
     replace sep := sep.up g.size
     clear g
     refine mP 1023 [6,7,8] [.tuple #[.agg (rc rb0 (0 : Int) false false (.slice none 0 0)).toArray,.int .i64 1],.agg (rc rb0 (0 : Int) false false (.slice none 0 0)).toArray,.int .i64 1] ?_
     refine SimK.eff0 (i := 10) (D' := 2047) (X' := 1791) (by kernel_rfl) (by kernel_rfl) (by kernel_rfl) (by kernel_rfl) (Does.store (b := h27.size) (off := 0) (vs := rc rb0 (0 : Int) false false (.slice none 0 0)) (l := rc rb0 (0 : Int) false false (.slice none 0 0)) (by kernel_rfl) m41 (of_decide_eq_true (by kernel_rfl)) (List.all_eq_true.1 (by kernel_rfl))) ?_
     rintro _ h45 ⟨rfl,hh⟩
     have g46 : Grew (some (h27.size)) h44 h45 := hput_gr hh
     replace m41 : h45[h27.size]? = some (.cells (rc rb0 (0 : Int) false false (.slice none 0 0)).toArray 26) := hput_at (off := 0) (vs := rc rb0 (0 : Int) false false (.slice none 0 0)) (l := (rc rb0 (0 : Int) false false (.slice none 0 0))) hh (by kernel_rfl) m41
     clear hh
     replace e0 := e0.grew g46 (sep.low 0 rfl)
     replace own_a := own_a.kept g46 (by rw [blkOf_slice]; exact (sep.ap 2 0))
     replace own_b := own_b.kept g46 (by rw [blkOf_slice]; exact (sep.ap 1 0))
     replace m12 := Grew.blk g46 m12 ((sep.bp 4 0))
     replace m22 := Grew.blk g46 m22 ((sep.bp 3 0))
     replace sep := sep.up g46.size
     refine mP 4095 [11] [.int .i64 1] ?_
     refine mD [(1,.slice (some ac) O.length wc),(5,.bool true),(6,pV h9.size),(7,pV h19.size),(8,.int .i64 ea),(9,nV i),(10,pV h27.size),(11,.int .i64 1)] ?_
     clear hF a; intro a hF
     have sepj := sep.pick (l' := [some h27.size,ad2.map (·.block),ad1.map (·.block),some h19.size,some h9.size]) [0,1,2,3,4] rfl (by decide)
     exact ⟨h27.size,rfl,e0,own_a,own_b,m12,m22,m41,sepj,hF⟩
   ·skip
    clear hF a e0 own_a own_b m12 m22 sep
    rintro e a h47 ⟨bk29,rfl,e0,own_a,own_b,m12,m22,mk30,sep,hF⟩
    refine tK ?_
    refine cS ?_
    refine cS ?_
    refine cP 13 hF ?_
    refine sP 2 [.int .i64 1,.bool false] ?_
    refine sD [(1,.slice (some ac) O.length wc),(5,.bool true),(6,pV h9.size),(7,pV h19.size),(8,.int .i64 ea),(9,nV i),(10,pV bk29),(42,.bool false)] ?_
    clear hF a; intro a hF
    refine tK ?_
    refine cF 42 hF ?_
    refine cN ?_
    refine tK ?_
    refine cS ?_
    rcases (show (O.getD (O.length - 1 - i) 0 < 0 ∨ 1099511627776 < O.getD (O.length - 1 - i) 0) ∨ (0 ≤ O.getD (O.length - 1 - i) 0 ∧ O.getD (O.length - 1 - i) 0 ≤ 1099511627776) by omega) with hu | hu
    ·skip
     have heb2 := mx_no (l := O.reverse) (by rw [List.length_reverse]; exact hia) heb (by rw [rev_getD hia]; exact hu)
     refine C.mono (K := fun e a hJ => ∃ (bk48 : Nat),e = .normal ∧ (Ext h hJ) ∧ (Own hJ (.slice ad1 L.length cap1) 49 L.length 4 (prow L)) ∧ (Own hJ (.slice ad2 L.length cap2) 49 L.length 4 (prow L)) ∧ (hJ[h9.size]? = some (.cells (rc x ea ho false (.slice ad1 L.length cap1)).toArray 26)) ∧ (hJ[h19.size]? = some (.cells (rc x eb ho false (.slice ad2 L.length cap2)).toArray 26)) ∧ (hJ[bk29]? = some (.cells (rc rb0 (0 : Int) false false (.slice none 0 0)).toArray 26)) ∧ (hJ[bk48]? = some (.cells (rc rb0 (0 : Int) false false (.slice none 0 0)).toArray 26)) ∧ (Sep h.size hJ.size [some bk48,some bk29,ad2.map (·.block),ad1.map (·.block),some h19.size,some h9.size]) ∧ Fr a 78 [(1,.slice (some ac) O.length wc),(5,.bool true),(6,.pointer (some ⟨h9.size,0,none⟩)),(7,.pointer (some ⟨h19.size,0,none⟩)),(8,.int .i64 ea),(9,.int .i64 ((i : Nat) : Int)),(12,.pointer (some ⟨bk48,0,none⟩)),(13,.int .i64 1)]) ?_ ?_
     ·skip
      refine cD [0,0,0,4,12,0,60,126,254,511,1023,2047,2047,0,12287,32767] 16 mixed hF ?_
      refine mL 1 1 0 (.agg (rc x eb ho false (.slice ad2 L.length cap2)).toArray) (Calm.load (T := 26) (p := ⟨h19.size,0,none⟩) (by kernel_rfl) (Loads.blk (vs := rc x eb ho false (.slice ad2 L.length cap2)) (by kernel_rfl) m22 rfl)) ?_
      refine mP 15 [1,2,3] [.slice (some ac) O.length wc,.slice (some ac) O.length wc,nV O.length] ?_
      refine m1 31 4 (.int .i64 ((O.length - 1 : Nat) : Int)) (.int .i64 (IntKind.i64.wrap (((O.length : Nat) : Int) - 1))) (congrArg (Value.int .i64) (w64' (by omega) (by omega) (by omega))) ?_
      refine mP 63 [5] [nV i] ?_
      refine m1 127 6 (.int .i64 (((O.length - 1) - i : Nat) : Int)) (.int .i64 (IntKind.i64.wrap (((O.length - 1 : Nat) : Int) - ((i : Nat) : Int)))) (congrArg (Value.int .i64) (w64' (by omega) (by omega) (by omega))) ?_
      refine mF 255 7 (.pointer (some (Addr.add ac ((O.length - 1) - i)))) (Calm.indexA (a := ac) (len := O.length) (sz := 1) (k := (((O.length - 1) - i : Nat) : Int)) ((O.length - 1) - i) ((O.length - 1) - i) (by kernel_rfl) rfl (by omega) (by omega)) ?_
      refine mL 511 257 8 (.int .i64 (O.getD ((O.length - 1) - i) 0)) (Calm.load (T := 3) (p := (Addr.add ac ((O.length - 1) - i))) (by kernel_rfl) (Loads.one (k := 1) (by kernel_rfl) (Row.cell1 (hro.ext e0) (by omega)))) ?_
      refine SimK.effs (is := [9,13]) (by kernel_rfl) (by simp) ?_
      intro q hq
      simp only [List.mem_cons,List.not_mem_nil,or_false] at hq
      rcases hq with rfl | rfl
      ·skip
       refine SimK.effAt (i := 9) (D' := 1023) (X' := 1023) (by kernel_rfl) (by kernel_rfl) [] (by kernel_rfl) (Does.call (f := 12) (args := #[.agg (rc x eb ho false (.slice ad2 L.length cap2)).toArray,.int .i64 (O.getD ((O.length - 1) - i) 0)]) (by kernel_rfl) (lock_arg _ x eb ho false L ad2 cap2 (O.getD ((O.length - 1) - i) 0) hu)) ?_
       rintro _ h50 ⟨rfl,g⟩
       refine ⟨fun j hj => by simp at hj,?_⟩
       replace e0 := e0.ext g
       replace own_a := own_a.ext g
       replace own_b := own_b.ext g
       replace m12 := Ext.blk g m12
       replace m22 := Ext.blk g m22
       replace mk30 := Ext.blk g mk30
       replace sep := sep.up g.size
       clear g
       refine mP 8191 [10,11,12] [.tuple #[.agg (rc rb0 (0 : Int) false false (.slice none 0 0)).toArray,.int .i64 1],.agg (rc rb0 (0 : Int) false false (.slice none 0 0)).toArray,.int .i64 1] ?_
       refine SimK.eff0 (i := 13) (D' := 16383) (X' := 9215) (by kernel_rfl) (by kernel_rfl) (by kernel_rfl) (by kernel_rfl) (Does.new (v := .pointer (some ⟨h50.size,0,none⟩)) (o := .cells (rc rb0 (0 : Int) false false (.slice none 0 0)).toArray 26) (by kernel_rfl)) ?_
       rintro _ h51 ⟨rfl,hh⟩
       have g52 : Ext h50 h51 := push_ext hh
       have m53 : h51[h50.size]? = some (.cells (rc rb0 (0 : Int) false false (.slice none 0 0)).toArray 26) := push_at hh
       clear hh
       have lt54 := blk_lt m53
       have zs55 := e0.size
       have hlo := e0.size
       have sepo := sep
       replace e0 := e0.ext g52
       replace own_a := own_a.ext g52
       replace own_b := own_b.ext g52
       replace m12 := Ext.blk g52 m12
       replace m22 := Ext.blk g52 m22
       replace mk30 := Ext.blk g52 mk30
       replace sep := sep.up g52.size
       replace sep := sepo.new hlo (blk_lt m53)
       clear sepo hlo
       refine SimK.eff0 (i := 14) (D' := 32767) (X' := 28671) (by kernel_rfl) (by kernel_rfl) (by kernel_rfl) (by kernel_rfl) (Does.store (b := h50.size) (off := 0) (vs := rc rb0 (0 : Int) false false (.slice none 0 0)) (l := rc rb0 (0 : Int) false false (.slice none 0 0)) (by kernel_rfl) m53 (of_decide_eq_true (by kernel_rfl)) (List.all_eq_true.1 (by kernel_rfl))) ?_
       rintro _ h56 ⟨rfl,hh⟩
       have g57 : Grew (some (h50.size)) h51 h56 := hput_gr hh
       replace m53 : h56[h50.size]? = some (.cells (rc rb0 (0 : Int) false false (.slice none 0 0)).toArray 26) := hput_at (off := 0) (vs := rc rb0 (0 : Int) false false (.slice none 0 0)) (l := (rc rb0 (0 : Int) false false (.slice none 0 0))) hh (by kernel_rfl) m53
       clear hh
       replace e0 := e0.grew g57 (sep.low 0 rfl)
       replace own_a := own_a.kept g57 (by rw [blkOf_slice]; exact (sep.ap 3 0))
       replace own_b := own_b.kept g57 (by rw [blkOf_slice]; exact (sep.ap 2 0))
       replace m12 := Grew.blk g57 m12 ((sep.bp 5 0))
       replace m22 := Grew.blk g57 m22 ((sep.bp 4 0))
       replace mk30 := Grew.blk g57 mk30 ((sep.bp 1 0))
       replace sep := sep.up g57.size
       refine mP 65535 [15] [.int .i64 1] ?_
       refine mD [(1,.slice (some ac) O.length wc),(5,.bool true),(6,pV h9.size),(7,pV h19.size),(8,.int .i64 ea),(9,nV i),(12,pV h50.size),(13,.int .i64 1)] ?_
       clear hF a; intro a hF
       have sepj := sep.pick (l' := [some h50.size,some bk29,ad2.map (·.block),ad1.map (·.block),some h19.size,some h9.size]) [0,1,2,3,4,5] rfl (by decide)
       exact ⟨h50.size,rfl,e0,own_a,own_b,m12,m22,mk30,m53,sepj,hF⟩
      ·skip
       refine SimK.effAt (i := 13) (D' := 8703) (X' := 8192) (by kernel_rfl) (by kernel_rfl) [0,8] (by kernel_rfl) (Does.new (v := .pointer (some ⟨h47.size,0,none⟩)) (o := .cells (rc rb0 (0 : Int) false false (.slice none 0 0)).toArray 26) (by kernel_rfl)) ?_
       rintro _ h58 ⟨rfl,hh⟩
       have g59 : Ext h47 h58 := push_ext hh
       have m60 : h58[h47.size]? = some (.cells (rc rb0 (0 : Int) false false (.slice none 0 0)).toArray 26) := push_at hh
       clear hh
       have lt61 := blk_lt m60
       have zs62 := e0.size
       have hlo := e0.size
       have sepo := sep
       replace e0 := e0.ext g59
       replace own_a := own_a.ext g59
       replace own_b := own_b.ext g59
       replace m12 := Ext.blk g59 m12
       replace m22 := Ext.blk g59 m22
       replace mk30 := Ext.blk g59 mk30
       replace sep := sep.up g59.size
       replace sep := sepo.new hlo (blk_lt m60)
       clear sepo hlo
       refine ⟨?_,?_⟩
       ·intro j hj
        simp only [List.mem_cons,List.not_mem_nil,or_false] at hj
        rcases hj with rfl | rfl
        ·exact goodOf (Calm.load (T := 26) (p := ⟨h19.size,0,none⟩) (by kernel_rfl) (Loads.blk (vs := rc x eb ho false (.slice ad2 L.length cap2)) (by kernel_rfl) m22 rfl))
        ·exact goodOf (Calm.load (T := 3) (p := (Addr.add ac ((O.length - 1) - i))) (by kernel_rfl) (Loads.one (k := 1) (by kernel_rfl) (Row.cell1 (hro.ext e0) (by omega))))
       refine SimK.eff0 (i := 9) (D' := 9215) (X' := 9215) (by kernel_rfl) (by kernel_rfl) (by kernel_rfl) (by kernel_rfl) (Does.call (f := 12) (args := #[.agg (rc x eb ho false (.slice ad2 L.length cap2)).toArray,.int .i64 (O.getD ((O.length - 1) - i) 0)]) (by kernel_rfl) (lock_arg _ x eb ho false L ad2 cap2 (O.getD ((O.length - 1) - i) 0) hu)) ?_
       rintro _ h63 ⟨rfl,g⟩
       replace e0 := e0.ext g
       replace own_a := own_a.ext g
       replace own_b := own_b.ext g
       replace m12 := Ext.blk g m12
       replace m22 := Ext.blk g m22
       replace mk30 := Ext.blk g mk30
       replace m60 := Ext.blk g m60
       replace sep := sep.up g.size
       clear g
       refine mP 16383 [10,11,12] [.tuple #[.agg (rc rb0 (0 : Int) false false (.slice none 0 0)).toArray,.int .i64 1],.agg (rc rb0 (0 : Int) false false (.slice none 0 0)).toArray,.int .i64 1] ?_
       refine SimK.eff0 (i := 14) (D' := 32767) (X' := 28671) (by kernel_rfl) (by kernel_rfl) (by kernel_rfl) (by kernel_rfl) (Does.store (b := h47.size) (off := 0) (vs := rc rb0 (0 : Int) false false (.slice none 0 0)) (l := rc rb0 (0 : Int) false false (.slice none 0 0)) (by kernel_rfl) m60 (of_decide_eq_true (by kernel_rfl)) (List.all_eq_true.1 (by kernel_rfl))) ?_
       rintro _ h64 ⟨rfl,hh⟩
       have g65 : Grew (some (h47.size)) h63 h64 := hput_gr hh
       replace m60 : h64[h47.size]? = some (.cells (rc rb0 (0 : Int) false false (.slice none 0 0)).toArray 26) := hput_at (off := 0) (vs := rc rb0 (0 : Int) false false (.slice none 0 0)) (l := (rc rb0 (0 : Int) false false (.slice none 0 0))) hh (by kernel_rfl) m60
       clear hh
       replace e0 := e0.grew g65 (sep.low 0 rfl)
       replace own_a := own_a.kept g65 (by rw [blkOf_slice]; exact (sep.ap 3 0))
       replace own_b := own_b.kept g65 (by rw [blkOf_slice]; exact (sep.ap 2 0))
       replace m12 := Grew.blk g65 m12 ((sep.bp 5 0))
       replace m22 := Grew.blk g65 m22 ((sep.bp 4 0))
       replace mk30 := Grew.blk g65 mk30 ((sep.bp 1 0))
       replace sep := sep.up g65.size
       refine mP 65535 [15] [.int .i64 1] ?_
       refine mD [(1,.slice (some ac) O.length wc),(5,.bool true),(6,pV h9.size),(7,pV h19.size),(8,.int .i64 ea),(9,nV i),(12,pV h47.size),(13,.int .i64 1)] ?_
       clear hF a; intro a hF
       have sepj := sep.pick (l' := [some h47.size,some bk29,ad2.map (·.block),ad1.map (·.block),some h19.size,some h9.size]) [0,1,2,3,4,5] rfl (by decide)
       exact ⟨h47.size,rfl,e0,own_a,own_b,m12,m22,mk30,m60,sepj,hF⟩
     ·skip
      clear hF a e0 own_a own_b m12 m22 mk30 sep
      rintro e a h66 ⟨bk48,rfl,e0,own_a,own_b,m12,m22,mk30,mk49,sep,hF⟩
      refine tK ?_
      refine cS ?_
      refine cP 17 hF ?_
      refine sP 2 [.int .i64 1,.bool false] ?_
      refine sD [(1,.slice (some ac) O.length wc),(5,.bool true),(6,pV h9.size),(7,pV h19.size),(8,.int .i64 ea),(9,nV i),(12,pV bk48),(64,.bool false)] ?_
      clear hF a; intro a hF
      refine tK ?_
      refine cF 64 hF ?_
      refine cN ?_
      show C Try.prog (sub b9 [1,1,1,1,1,1,1,0,1,0,0,1,1]) _ a h66
      refine cP 11 hF ?_
      refine sP 1 [nV i] ?_
      refine s1 2 (.int .i64 ((i + 1 : Nat) : Int)) (.int .i64 (IntKind.i64.wrap (((i : Nat) : Int) + 1))) (congrArg (Value.int .i64) (w64' (by omega) (by omega) (by omega))) ?_
      refine sP 3 [nV (i + 1)] ?_
      refine sD [(1,.slice (some ac) O.length wc),(5,.bool true),(6,pV h9.size),(7,pV h19.size),(8,.int .i64 ea),(9,nV (i + 1))] ?_
      clear hF a; intro a hF
      have fsep : Sep h.size h66.size [ad2.map (·.block),ad1.map (·.block),some h19.size,some h9.size] := sep.pick [2,3,4,5] rfl (by decide)
      have fa := own_a; have fb := own_b
      show ∃ m',m' < _ ∧ _
      refine ⟨_,?_,(i + 1),ea,eb,ad1,cap1,ad2,cap2,rfl,e0,(by omega),hea2,heb2,m12,m22,fa,fb,fsep,hF⟩
      omega
    ·skip
     have heb2 := mx_ok (l := O.reverse) (by rw [List.length_reverse]; exact hia) heb (by rw [rev_getD hia]; exact hu.1) (by rw [rev_getD hia]; exact hu.2)
     rw [rev_getD hia] at heb2
     refine C.mono (K := fun e a hJ => ∃ (bk67 : Nat),∃ (ad67 : Option Addr) (cap68 : Nat),e = .normal ∧ (Ext h hJ) ∧ (Own hJ (.slice ad1 L.length cap1) 49 L.length 4 (prow L)) ∧ (Own hJ (.slice ad2 L.length cap2) 49 L.length 4 (prow L)) ∧ (Own hJ (.slice ad67 L.length cap68) 49 L.length 4 (prow L)) ∧ (hJ[h9.size]? = some (.cells (rc x ea ho false (.slice ad1 L.length cap1)).toArray 26)) ∧ (hJ[h19.size]? = some (.cells (rc x eb ho false (.slice ad2 L.length cap2)).toArray 26)) ∧ (hJ[bk29]? = some (.cells (rc rb0 (0 : Int) false false (.slice none 0 0)).toArray 26)) ∧ (hJ[bk67]? = some (.cells (rc x (max eb (O.getD ((O.length - 1) - i) 0)) ho false (.slice ad67 L.length cap68)).toArray 26)) ∧ (Sep h.size hJ.size [some bk67,ad67.map (·.block),some bk29,ad2.map (·.block),ad1.map (·.block),some h19.size,some h9.size]) ∧ Fr a 78 [(1,.slice (some ac) O.length wc),(5,.bool true),(6,.pointer (some ⟨h9.size,0,none⟩)),(7,.pointer (some ⟨h19.size,0,none⟩)),(8,.int .i64 ea),(9,.int .i64 ((i : Nat) : Int)),(12,.pointer (some ⟨bk67,0,none⟩)),(13,.int .i64 0)]) ?_ ?_
     ·skip
      refine cD [0,0,0,4,12,0,60,126,254,511,1023,2047,2047,0,12287,32767] 16 mixed hF ?_
      refine mL 1 1 0 (.agg (rc x eb ho false (.slice ad2 L.length cap2)).toArray) (Calm.load (T := 26) (p := ⟨h19.size,0,none⟩) (by kernel_rfl) (Loads.blk (vs := rc x eb ho false (.slice ad2 L.length cap2)) (by kernel_rfl) m22 rfl)) ?_
      refine mP 15 [1,2,3] [.slice (some ac) O.length wc,.slice (some ac) O.length wc,nV O.length] ?_
      refine m1 31 4 (.int .i64 ((O.length - 1 : Nat) : Int)) (.int .i64 (IntKind.i64.wrap (((O.length : Nat) : Int) - 1))) (congrArg (Value.int .i64) (w64' (by omega) (by omega) (by omega))) ?_
      refine mP 63 [5] [nV i] ?_
      refine m1 127 6 (.int .i64 (((O.length - 1) - i : Nat) : Int)) (.int .i64 (IntKind.i64.wrap (((O.length - 1 : Nat) : Int) - ((i : Nat) : Int)))) (congrArg (Value.int .i64) (w64' (by omega) (by omega) (by omega))) ?_
      refine mF 255 7 (.pointer (some (Addr.add ac ((O.length - 1) - i)))) (Calm.indexA (a := ac) (len := O.length) (sz := 1) (k := (((O.length - 1) - i : Nat) : Int)) ((O.length - 1) - i) ((O.length - 1) - i) (by kernel_rfl) rfl (by omega) (by omega)) ?_
      refine mL 511 257 8 (.int .i64 (O.getD ((O.length - 1) - i) 0)) (Calm.load (T := 3) (p := (Addr.add ac ((O.length - 1) - i))) (by kernel_rfl) (Loads.one (k := 1) (by kernel_rfl) (Row.cell1 (hro.ext e0) (by omega)))) ?_
      refine SimK.effs (is := [9,13]) (by kernel_rfl) (by simp) ?_
      intro q hq
      simp only [List.mem_cons,List.not_mem_nil,or_false] at hq
      rcases hq with rfl | rfl
      ·skip
       refine SimK.effAt (i := 9) (D' := 1023) (X' := 1023) (by kernel_rfl) (by kernel_rfl) [] (by kernel_rfl) (Does.call (f := 12) (args := #[.agg (rc x eb ho false (.slice ad2 L.length cap2)).toArray,.int .i64 (O.getD ((O.length - 1) - i) 0)]) (by kernel_rfl) (lock_ok _ x eb ho L ad2 cap2 own_b.row hL (O.getD ((O.length - 1) - i) 0) hu.1 hu.2)) ?_
       rintro _ h71 ⟨_,rfl,ad69,cap70,rfl,ownx,hge,g⟩
       refine ⟨fun j hj => by simp at hj,?_⟩
       have hlo := e0.size
       have sepo := sep
       replace e0 := e0.ext g
       replace own_a := own_a.ext g
       replace own_b := own_b.ext g
       replace m12 := Ext.blk g m12
       replace m22 := Ext.blk g m22
       replace mk30 := Ext.blk g mk30
       replace sep := sep.up g.size
       replace sep := sepo.cons (x := ad69.map (fun (x : Addr) => x.block)) g.size hlo (fun k e => ⟨hge k e,ownx.lt (by rw [blkOf_slice]; exact e)⟩)
       have own_n60 : Own h71 (.slice ad69 L.length cap70) 49 L.length 4 (prow L) := ownx; clear ownx sepo hlo hge g
       refine mP 8191 [10,11,12] [.tuple #[.agg (rc x (max eb (O.getD ((O.length - 1) - i) 0)) ho false (.slice ad69 L.length cap70)).toArray,.int .i64 0],.agg (rc x (max eb (O.getD ((O.length - 1) - i) 0)) ho false (.slice ad69 L.length cap70)).toArray,.int .i64 0] ?_
       refine SimK.eff0 (i := 13) (D' := 16383) (X' := 9215) (by kernel_rfl) (by kernel_rfl) (by kernel_rfl) (by kernel_rfl) (Does.new (v := .pointer (some ⟨h71.size,0,none⟩)) (o := .cells (rc rb0 (0 : Int) false false (.slice none 0 0)).toArray 26) (by kernel_rfl)) ?_
       rintro _ h72 ⟨rfl,hh⟩
       have g73 : Ext h71 h72 := push_ext hh
       have m74 : h72[h71.size]? = some (.cells (rc rb0 (0 : Int) false false (.slice none 0 0)).toArray 26) := push_at hh
       clear hh
       have lt75 := blk_lt m74
       have zs76 := e0.size
       have hlo := e0.size
       have sepo := sep
       replace e0 := e0.ext g73
       replace own_a := own_a.ext g73
       replace own_b := own_b.ext g73
       replace own_n60 := own_n60.ext g73
       replace m12 := Ext.blk g73 m12
       replace m22 := Ext.blk g73 m22
       replace mk30 := Ext.blk g73 mk30
       replace sep := sep.up g73.size
       replace sep := sepo.new hlo (blk_lt m74)
       clear sepo hlo
       refine SimK.eff0 (i := 14) (D' := 32767) (X' := 28671) (by kernel_rfl) (by kernel_rfl) (by kernel_rfl) (by kernel_rfl) (Does.store (b := h71.size) (off := 0) (vs := rc x (max eb (O.getD ((O.length - 1) - i) 0)) ho false (.slice ad69 L.length cap70)) (l := rc rb0 (0 : Int) false false (.slice none 0 0)) (by kernel_rfl) m74 (of_decide_eq_true (by kernel_rfl)) (List.all_eq_true.1 (by kernel_rfl))) ?_
       rintro _ h77 ⟨rfl,hh⟩
       have g78 : Grew (some (h71.size)) h72 h77 := hput_gr hh
       replace m74 : h77[h71.size]? = some (.cells (rc x (max eb (O.getD ((O.length - 1) - i) 0)) ho false (.slice ad69 L.length cap70)).toArray 26) := hput_at (off := 0) (vs := rc x (max eb (O.getD ((O.length - 1) - i) 0)) ho false (.slice ad69 L.length cap70)) (l := (rc rb0 (0 : Int) false false (.slice none 0 0))) hh (by kernel_rfl) m74
       clear hh
       replace e0 := e0.grew g78 (sep.low 0 rfl)
       replace own_a := own_a.kept g78 (by rw [blkOf_slice]; exact (sep.ap 4 0))
       replace own_b := own_b.kept g78 (by rw [blkOf_slice]; exact (sep.ap 3 0))
       replace own_n60 := own_n60.kept g78 (by rw [blkOf_slice]; exact (sep.ap 1 0))
       replace m12 := Grew.blk g78 m12 ((sep.bp 6 0))
       replace m22 := Grew.blk g78 m22 ((sep.bp 5 0))
       replace mk30 := Grew.blk g78 mk30 ((sep.bp 2 0))
       replace sep := sep.up g78.size
       refine mP 65535 [15] [.int .i64 0] ?_
       refine mD [(1,.slice (some ac) O.length wc),(5,.bool true),(6,pV h9.size),(7,pV h19.size),(8,.int .i64 ea),(9,nV i),(12,pV h71.size),(13,.int .i64 0)] ?_
       clear hF a; intro a hF
       have sepj := sep.pick (l' := [some h71.size,ad69.map (·.block),some bk29,ad2.map (·.block),ad1.map (·.block),some h19.size,some h9.size]) [0,1,2,3,4,5,6] rfl (by decide)
       exact ⟨h71.size,ad69,cap70,rfl,e0,own_a,own_b,own_n60,m12,m22,mk30,m74,sepj,hF⟩
      ·skip
       refine SimK.effAt (i := 13) (D' := 8703) (X' := 8192) (by kernel_rfl) (by kernel_rfl) [0,8] (by kernel_rfl) (Does.new (v := .pointer (some ⟨h47.size,0,none⟩)) (o := .cells (rc rb0 (0 : Int) false false (.slice none 0 0)).toArray 26) (by kernel_rfl)) ?_
       rintro _ h79 ⟨rfl,hh⟩
       have g80 : Ext h47 h79 := push_ext hh
       have m81 : h79[h47.size]? = some (.cells (rc rb0 (0 : Int) false false (.slice none 0 0)).toArray 26) := push_at hh
       clear hh
       have lt82 := blk_lt m81
       have zs83 := e0.size
       have hlo := e0.size
       have sepo := sep
       replace e0 := e0.ext g80
       replace own_a := own_a.ext g80
       replace own_b := own_b.ext g80
       replace m12 := Ext.blk g80 m12
       replace m22 := Ext.blk g80 m22
       replace mk30 := Ext.blk g80 mk30
       replace sep := sep.up g80.size
       replace sep := sepo.new hlo (blk_lt m81)
       clear sepo hlo
       refine ⟨?_,?_⟩
       ·intro j hj
        simp only [List.mem_cons,List.not_mem_nil,or_false] at hj
        rcases hj with rfl | rfl
        ·exact goodOf (Calm.load (T := 26) (p := ⟨h19.size,0,none⟩) (by kernel_rfl) (Loads.blk (vs := rc x eb ho false (.slice ad2 L.length cap2)) (by kernel_rfl) m22 rfl))
        ·exact goodOf (Calm.load (T := 3) (p := (Addr.add ac ((O.length - 1) - i))) (by kernel_rfl) (Loads.one (k := 1) (by kernel_rfl) (Row.cell1 (hro.ext e0) (by omega))))
       refine SimK.eff0 (i := 9) (D' := 9215) (X' := 9215) (by kernel_rfl) (by kernel_rfl) (by kernel_rfl) (by kernel_rfl) (Does.call (f := 12) (args := #[.agg (rc x eb ho false (.slice ad2 L.length cap2)).toArray,.int .i64 (O.getD ((O.length - 1) - i) 0)]) (by kernel_rfl) (lock_ok _ x eb ho L ad2 cap2 own_b.row hL (O.getD ((O.length - 1) - i) 0) hu.1 hu.2)) ?_
       rintro _ h86 ⟨_,rfl,ad84,cap85,rfl,ownx,hge,g⟩
       have hlo := e0.size
       have sepo := sep
       replace e0 := e0.ext g
       replace own_a := own_a.ext g
       replace own_b := own_b.ext g
       replace m12 := Ext.blk g m12
       replace m22 := Ext.blk g m22
       replace mk30 := Ext.blk g mk30
       replace m81 := Ext.blk g m81
       replace sep := sep.up g.size
       replace sep := sepo.cons (x := ad84.map (fun (x : Addr) => x.block)) g.size hlo (fun k e => ⟨hge k e,ownx.lt (by rw [blkOf_slice]; exact e)⟩)
       have own_n60 : Own h86 (.slice ad84 L.length cap85) 49 L.length 4 (prow L) := ownx; clear ownx sepo hlo hge g
       refine mP 16383 [10,11,12] [.tuple #[.agg (rc x (max eb (O.getD ((O.length - 1) - i) 0)) ho false (.slice ad84 L.length cap85)).toArray,.int .i64 0],.agg (rc x (max eb (O.getD ((O.length - 1) - i) 0)) ho false (.slice ad84 L.length cap85)).toArray,.int .i64 0] ?_
       refine SimK.eff0 (i := 14) (D' := 32767) (X' := 28671) (by kernel_rfl) (by kernel_rfl) (by kernel_rfl) (by kernel_rfl) (Does.store (b := h47.size) (off := 0) (vs := rc x (max eb (O.getD ((O.length - 1) - i) 0)) ho false (.slice ad84 L.length cap85)) (l := rc rb0 (0 : Int) false false (.slice none 0 0)) (by kernel_rfl) m81 (of_decide_eq_true (by kernel_rfl)) (List.all_eq_true.1 (by kernel_rfl))) ?_
       rintro _ h87 ⟨rfl,hh⟩
       have g88 : Grew (some (h47.size)) h86 h87 := hput_gr hh
       replace m81 : h87[h47.size]? = some (.cells (rc x (max eb (O.getD ((O.length - 1) - i) 0)) ho false (.slice ad84 L.length cap85)).toArray 26) := hput_at (off := 0) (vs := rc x (max eb (O.getD ((O.length - 1) - i) 0)) ho false (.slice ad84 L.length cap85)) (l := (rc rb0 (0 : Int) false false (.slice none 0 0))) hh (by kernel_rfl) m81
       clear hh
       replace e0 := e0.grew g88 (sep.low 1 rfl)
       replace own_a := own_a.kept g88 (by rw [blkOf_slice]; exact (sep.ap 4 1))
       replace own_b := own_b.kept g88 (by rw [blkOf_slice]; exact (sep.ap 3 1))
       replace own_n60 := own_n60.kept g88 (by rw [blkOf_slice]; exact (sep.ap 0 1))
       replace m12 := Grew.blk g88 m12 ((sep.bp 6 1))
       replace m22 := Grew.blk g88 m22 ((sep.bp 5 1))
       replace mk30 := Grew.blk g88 mk30 ((sep.bp 2 1))
       replace sep := sep.up g88.size
       refine mP 65535 [15] [.int .i64 0] ?_
       refine mD [(1,.slice (some ac) O.length wc),(5,.bool true),(6,pV h9.size),(7,pV h19.size),(8,.int .i64 ea),(9,nV i),(12,pV h47.size),(13,.int .i64 0)] ?_
       clear hF a; intro a hF
       have sepj := sep.pick (l' := [some h47.size,ad84.map (·.block),some bk29,ad2.map (·.block),ad1.map (·.block),some h19.size,some h9.size]) [1,0,2,3,4,5,6] rfl (by decide)
       exact ⟨h47.size,ad84,cap85,rfl,e0,own_a,own_b,own_n60,m12,m22,mk30,m81,sepj,hF⟩
     ·skip
      clear hF a e0 own_a own_b m12 m22 mk30 sep
      rintro e a h89 ⟨bk67,ad67,cap68,rfl,e0,own_a,own_b,own_n60,m12,m22,mk30,mk68,sep,hF⟩
      refine tK ?_
      refine cS ?_
      refine cP 17 hF ?_
      refine sP 2 [.int .i64 0,.bool true] ?_
      refine sD [(1,.slice (some ac) O.length wc),(5,.bool true),(6,pV h9.size),(7,pV h19.size),(8,.int .i64 ea),(9,nV i),(12,pV bk67),(64,.bool true)] ?_
      clear hF a; intro a hF
      refine tK ?_
      refine cT 64 hF ?_
      refine cP 18 hF ?_
      refine sC 1 (.agg (rc x (max eb (O.getD ((O.length - 1) - i) 0)) ho false (.slice ad67 L.length cap68)).toArray) (Calm.load (T := 26) (p := ⟨bk67,0,none⟩) (by kernel_rfl) (Loads.blk (vs := rc x (max eb (O.getD ((O.length - 1) - i) 0)) ho false (.slice ad67 L.length cap68)) (by kernel_rfl) mk68 rfl)) ?_
      refine SeqK.eff (k' := 2) (Does.store (b := h19.size) (off := 0) (vs := rc x (max eb (O.getD ((O.length - 1) - i) 0)) ho false (.slice ad67 L.length cap68)) (l := rc x eb ho false (.slice ad2 L.length cap2)) (by kernel_rfl) m22 (of_decide_eq_true (by kernel_rfl)) (List.all_eq_true.1 (by kernel_rfl))) rfl ?_
      rintro _ h90 ⟨rfl,hh⟩
      have g91 : Grew (some (h19.size)) h89 h90 := hput_gr hh
      replace m22 : h90[h19.size]? = some (.cells (rc x (max eb (O.getD ((O.length - 1) - i) 0)) ho false (.slice ad67 L.length cap68)).toArray 26) := hput_at (off := 0) (vs := rc x (max eb (O.getD ((O.length - 1) - i) 0)) ho false (.slice ad67 L.length cap68)) (l := (rc x eb ho false (.slice ad2 L.length cap2))) hh (by kernel_rfl) m22
      clear hh
      replace e0 := e0.grew g91 (sep.low 5 rfl)
      replace own_a := own_a.kept g91 (by rw [blkOf_slice]; exact (sep.ap 4 5))
      replace own_b := own_b.kept g91 (by rw [blkOf_slice]; exact (sep.ap 3 5))
      replace own_n60 := own_n60.kept g91 (by rw [blkOf_slice]; exact (sep.ap 1 5))
      replace m12 := Grew.blk g91 m12 ((sep.bp 6 5))
      replace mk30 := Grew.blk g91 mk30 ((sep.bp 2 5))
      replace mk68 := Grew.blk g91 mk68 ((sep.bp 0 5))
      replace sep := sep.up g91.size
      refine sD [(1,.slice (some ac) O.length wc),(5,.bool true),(6,pV h9.size),(7,pV h19.size),(8,.int .i64 ea),(9,nV i)] ?_
      clear hF a; intro a hF
      show C Try.prog (sub b9 [1,1,1,1,1,1,1,0,1,0,0,1,1]) _ a h90
      refine cP 11 hF ?_
      refine sP 1 [nV i] ?_
      refine s1 2 (.int .i64 ((i + 1 : Nat) : Int)) (.int .i64 (IntKind.i64.wrap (((i : Nat) : Int) + 1))) (congrArg (Value.int .i64) (w64' (by omega) (by omega) (by omega))) ?_
      refine sP 3 [nV (i + 1)] ?_
      refine sD [(1,.slice (some ac) O.length wc),(5,.bool true),(6,pV h9.size),(7,pV h19.size),(8,.int .i64 ea),(9,nV (i + 1))] ?_
      clear hF a; intro a hF
      have fsep : Sep h.size h90.size [ad67.map (·.block),ad1.map (·.block),some h19.size,some h9.size] := sep.pick [1,4,5,6] rfl (by decide)
      have fa := own_a; have fb := own_n60
      show ∃ m',m' < _ ∧ _
      refine ⟨_,?_,(i + 1),ea,(max eb (O.getD ((O.length - 1) - i) 0)),ad1,cap1,ad67,cap68,rfl,e0,(by omega),hea2,heb2,m12,m22,fa,fb,fsep,hF⟩
      omega
  ·skip
   have hea2 := mx_ok hia hea hu.1 hu.2
   refine C.mono (K := fun e a hJ => ∃ (bk92 : Nat),∃ (ad92 : Option Addr) (cap93 : Nat),e = .normal ∧ (Ext h hJ) ∧ (Own hJ (.slice ad1 L.length cap1) 49 L.length 4 (prow L)) ∧ (Own hJ (.slice ad2 L.length cap2) 49 L.length 4 (prow L)) ∧ (Own hJ (.slice ad92 L.length cap93) 49 L.length 4 (prow L)) ∧ (hJ[h9.size]? = some (.cells (rc x ea ho false (.slice ad1 L.length cap1)).toArray 26)) ∧ (hJ[h19.size]? = some (.cells (rc x eb ho false (.slice ad2 L.length cap2)).toArray 26)) ∧ (hJ[bk92]? = some (.cells (rc x (max ea (O.getD i 0)) ho false (.slice ad92 L.length cap93)).toArray 26)) ∧ (Sep h.size hJ.size [some bk92,ad92.map (·.block),ad2.map (·.block),ad1.map (·.block),some h19.size,some h9.size]) ∧ Fr a 78 [(1,.slice (some ac) O.length wc),(5,.bool true),(6,.pointer (some ⟨h9.size,0,none⟩)),(7,.pointer (some ⟨h19.size,0,none⟩)),(8,.int .i64 ea),(9,.int .i64 ((i : Nat) : Int)),(10,.pointer (some ⟨bk92,0,none⟩)),(11,.int .i64 0)]) ?_ ?_
   ·skip
    refine cD [0,0,0,6,14,31,63,127,127,0,767,2047] 12 mixed hF ?_
    refine mL 1 1 0 (.agg (rc x ea ho false (.slice ad1 L.length cap1)).toArray) (Calm.load (T := 26) (p := ⟨h9.size,0,none⟩) (by kernel_rfl) (Loads.blk (vs := rc x ea ho false (.slice ad1 L.length cap1)) (by kernel_rfl) m12 rfl)) ?_
    refine mP 7 [1,2] [.slice (some ac) O.length wc,nV i] ?_
    refine mF 15 3 (.pointer (some (Addr.add ac i))) (Calm.indexA (a := ac) (len := O.length) (sz := 1) (k := ((i : Nat) : Int)) i i (by kernel_rfl) rfl (by omega) (by omega)) ?_
    refine mL 31 17 4 (.int .i64 (O.getD i 0)) (Calm.load (T := 3) (p := (Addr.add ac i)) (by kernel_rfl) (Loads.one (k := 1) (by kernel_rfl) (Row.cell1 (hro.ext e0) (by omega)))) ?_
    refine SimK.effs (is := [5,9]) (by kernel_rfl) (by simp) ?_
    intro q hq
    simp only [List.mem_cons,List.not_mem_nil,or_false] at hq
    rcases hq with rfl | rfl
    ·skip
     refine SimK.effAt (i := 5) (D' := 63) (X' := 63) (by kernel_rfl) (by kernel_rfl) [] (by kernel_rfl) (Does.call (f := 12) (args := #[.agg (rc x ea ho false (.slice ad1 L.length cap1)).toArray,.int .i64 (O.getD i 0)]) (by kernel_rfl) (lock_ok _ x ea ho L ad1 cap1 own_a.row hL (O.getD i 0) hu.1 hu.2)) ?_
     rintro _ h96 ⟨_,rfl,ad94,cap95,rfl,ownx,hge,g⟩
     refine ⟨fun j hj => by simp at hj,?_⟩
     have hlo := e0.size
     have sepo := sep
     replace e0 := e0.ext g
     replace own_a := own_a.ext g
     replace own_b := own_b.ext g
     replace m12 := Ext.blk g m12
     replace m22 := Ext.blk g m22
     replace sep := sep.up g.size
     replace sep := sepo.cons (x := ad94.map (fun (x : Addr) => x.block)) g.size hlo (fun k e => ⟨hge k e,ownx.lt (by rw [blkOf_slice]; exact e)⟩)
     have own_n38 : Own h96 (.slice ad94 L.length cap95) 49 L.length 4 (prow L) := ownx; clear ownx sepo hlo hge g
     refine mP 511 [6,7,8] [.tuple #[.agg (rc x (max ea (O.getD i 0)) ho false (.slice ad94 L.length cap95)).toArray,.int .i64 0],.agg (rc x (max ea (O.getD i 0)) ho false (.slice ad94 L.length cap95)).toArray,.int .i64 0] ?_
     refine SimK.eff0 (i := 9) (D' := 1023) (X' := 575) (by kernel_rfl) (by kernel_rfl) (by kernel_rfl) (by kernel_rfl) (Does.new (v := .pointer (some ⟨h96.size,0,none⟩)) (o := .cells (rc rb0 (0 : Int) false false (.slice none 0 0)).toArray 26) (by kernel_rfl)) ?_
     rintro _ h97 ⟨rfl,hh⟩
     have g98 : Ext h96 h97 := push_ext hh
     have m99 : h97[h96.size]? = some (.cells (rc rb0 (0 : Int) false false (.slice none 0 0)).toArray 26) := push_at hh
     clear hh
     have lt100 := blk_lt m99
     have zs101 := e0.size
     have hlo := e0.size
     have sepo := sep
     replace e0 := e0.ext g98
     replace own_a := own_a.ext g98
     replace own_b := own_b.ext g98
     replace own_n38 := own_n38.ext g98
     replace m12 := Ext.blk g98 m12
     replace m22 := Ext.blk g98 m22
     replace sep := sep.up g98.size
     replace sep := sepo.new hlo (blk_lt m99)
     clear sepo hlo
     refine SimK.eff0 (i := 10) (D' := 2047) (X' := 1791) (by kernel_rfl) (by kernel_rfl) (by kernel_rfl) (by kernel_rfl) (Does.store (b := h96.size) (off := 0) (vs := rc x (max ea (O.getD i 0)) ho false (.slice ad94 L.length cap95)) (l := rc rb0 (0 : Int) false false (.slice none 0 0)) (by kernel_rfl) m99 (of_decide_eq_true (by kernel_rfl)) (List.all_eq_true.1 (by kernel_rfl))) ?_
     rintro _ h102 ⟨rfl,hh⟩
     have g103 : Grew (some (h96.size)) h97 h102 := hput_gr hh
     replace m99 : h102[h96.size]? = some (.cells (rc x (max ea (O.getD i 0)) ho false (.slice ad94 L.length cap95)).toArray 26) := hput_at (off := 0) (vs := rc x (max ea (O.getD i 0)) ho false (.slice ad94 L.length cap95)) (l := (rc rb0 (0 : Int) false false (.slice none 0 0))) hh (by kernel_rfl) m99
     clear hh
     replace e0 := e0.grew g103 (sep.low 0 rfl)
     replace own_a := own_a.kept g103 (by rw [blkOf_slice]; exact (sep.ap 3 0))
     replace own_b := own_b.kept g103 (by rw [blkOf_slice]; exact (sep.ap 2 0))
     replace own_n38 := own_n38.kept g103 (by rw [blkOf_slice]; exact (sep.ap 1 0))
     replace m12 := Grew.blk g103 m12 ((sep.bp 5 0))
     replace m22 := Grew.blk g103 m22 ((sep.bp 4 0))
     replace sep := sep.up g103.size
     refine mP 4095 [11] [.int .i64 0] ?_
     refine mD [(1,.slice (some ac) O.length wc),(5,.bool true),(6,pV h9.size),(7,pV h19.size),(8,.int .i64 ea),(9,nV i),(10,pV h96.size),(11,.int .i64 0)] ?_
     clear hF a; intro a hF
     have sepj := sep.pick (l' := [some h96.size,ad94.map (·.block),ad2.map (·.block),ad1.map (·.block),some h19.size,some h9.size]) [0,1,2,3,4,5] rfl (by decide)
     exact ⟨h96.size,ad94,cap95,rfl,e0,own_a,own_b,own_n38,m12,m22,m99,sepj,hF⟩
    ·skip
     refine SimK.effAt (i := 9) (D' := 543) (X' := 512) (by kernel_rfl) (by kernel_rfl) [0,4] (by kernel_rfl) (Does.new (v := .pointer (some ⟨h27.size,0,none⟩)) (o := .cells (rc rb0 (0 : Int) false false (.slice none 0 0)).toArray 26) (by kernel_rfl)) ?_
     rintro _ h104 ⟨rfl,hh⟩
     have g105 : Ext h27 h104 := push_ext hh
     have m106 : h104[h27.size]? = some (.cells (rc rb0 (0 : Int) false false (.slice none 0 0)).toArray 26) := push_at hh
     clear hh
     have lt107 := blk_lt m106
     have zs108 := e0.size
     have hlo := e0.size
     have sepo := sep
     replace e0 := e0.ext g105
     replace own_a := own_a.ext g105
     replace own_b := own_b.ext g105
     replace m12 := Ext.blk g105 m12
     replace m22 := Ext.blk g105 m22
     replace sep := sep.up g105.size
     replace sep := sepo.new hlo (blk_lt m106)
     clear sepo hlo
     refine ⟨?_,?_⟩
     ·intro j hj
      simp only [List.mem_cons,List.not_mem_nil,or_false] at hj
      rcases hj with rfl | rfl
      ·exact goodOf (Calm.load (T := 26) (p := ⟨h9.size,0,none⟩) (by kernel_rfl) (Loads.blk (vs := rc x ea ho false (.slice ad1 L.length cap1)) (by kernel_rfl) m12 rfl))
      ·exact goodOf (Calm.load (T := 3) (p := (Addr.add ac i)) (by kernel_rfl) (Loads.one (k := 1) (by kernel_rfl) (Row.cell1 (hro.ext e0) (by omega))))
     refine SimK.eff0 (i := 5) (D' := 575) (X' := 575) (by kernel_rfl) (by kernel_rfl) (by kernel_rfl) (by kernel_rfl) (Does.call (f := 12) (args := #[.agg (rc x ea ho false (.slice ad1 L.length cap1)).toArray,.int .i64 (O.getD i 0)]) (by kernel_rfl) (lock_ok _ x ea ho L ad1 cap1 own_a.row hL (O.getD i 0) hu.1 hu.2)) ?_
     rintro _ h111 ⟨_,rfl,ad109,cap110,rfl,ownx,hge,g⟩
     have hlo := e0.size
     have sepo := sep
     replace e0 := e0.ext g
     replace own_a := own_a.ext g
     replace own_b := own_b.ext g
     replace m12 := Ext.blk g m12
     replace m22 := Ext.blk g m22
     replace m106 := Ext.blk g m106
     replace sep := sep.up g.size
     replace sep := sepo.cons (x := ad109.map (fun (x : Addr) => x.block)) g.size hlo (fun k e => ⟨hge k e,ownx.lt (by rw [blkOf_slice]; exact e)⟩)
     have own_n38 : Own h111 (.slice ad109 L.length cap110) 49 L.length 4 (prow L) := ownx; clear ownx sepo hlo hge g
     refine mP 1023 [6,7,8] [.tuple #[.agg (rc x (max ea (O.getD i 0)) ho false (.slice ad109 L.length cap110)).toArray,.int .i64 0],.agg (rc x (max ea (O.getD i 0)) ho false (.slice ad109 L.length cap110)).toArray,.int .i64 0] ?_
     refine SimK.eff0 (i := 10) (D' := 2047) (X' := 1791) (by kernel_rfl) (by kernel_rfl) (by kernel_rfl) (by kernel_rfl) (Does.store (b := h27.size) (off := 0) (vs := rc x (max ea (O.getD i 0)) ho false (.slice ad109 L.length cap110)) (l := rc rb0 (0 : Int) false false (.slice none 0 0)) (by kernel_rfl) m106 (of_decide_eq_true (by kernel_rfl)) (List.all_eq_true.1 (by kernel_rfl))) ?_
     rintro _ h112 ⟨rfl,hh⟩
     have g113 : Grew (some (h27.size)) h111 h112 := hput_gr hh
     replace m106 : h112[h27.size]? = some (.cells (rc x (max ea (O.getD i 0)) ho false (.slice ad109 L.length cap110)).toArray 26) := hput_at (off := 0) (vs := rc x (max ea (O.getD i 0)) ho false (.slice ad109 L.length cap110)) (l := (rc rb0 (0 : Int) false false (.slice none 0 0))) hh (by kernel_rfl) m106
     clear hh
     replace e0 := e0.grew g113 (sep.low 1 rfl)
     replace own_a := own_a.kept g113 (by rw [blkOf_slice]; exact (sep.ap 3 1))
     replace own_b := own_b.kept g113 (by rw [blkOf_slice]; exact (sep.ap 2 1))
     replace own_n38 := own_n38.kept g113 (by rw [blkOf_slice]; exact (sep.ap 0 1))
     replace m12 := Grew.blk g113 m12 ((sep.bp 5 1))
     replace m22 := Grew.blk g113 m22 ((sep.bp 4 1))
     replace sep := sep.up g113.size
     refine mP 4095 [11] [.int .i64 0] ?_
     refine mD [(1,.slice (some ac) O.length wc),(5,.bool true),(6,pV h9.size),(7,pV h19.size),(8,.int .i64 ea),(9,nV i),(10,pV h27.size),(11,.int .i64 0)] ?_
     clear hF a; intro a hF
     have sepj := sep.pick (l' := [some h27.size,ad109.map (·.block),ad2.map (·.block),ad1.map (·.block),some h19.size,some h9.size]) [1,0,2,3,4,5] rfl (by decide)
     exact ⟨h27.size,ad109,cap110,rfl,e0,own_a,own_b,own_n38,m12,m22,m106,sepj,hF⟩
   ·skip
    clear hF a e0 own_a own_b m12 m22 sep
    rintro e a h114 ⟨bk92,ad92,cap93,rfl,e0,own_a,own_b,own_n38,m12,m22,mk93,sep,hF⟩
    refine tK ?_
    refine cS ?_
    refine cS ?_
    refine cP 13 hF ?_
    refine sP 2 [.int .i64 0,.bool true] ?_
    refine sD [(1,.slice (some ac) O.length wc),(5,.bool true),(6,pV h9.size),(7,pV h19.size),(8,.int .i64 ea),(9,nV i),(10,pV bk92),(42,.bool true)] ?_
    clear hF a; intro a hF
    refine tK ?_
    refine cT 42 hF ?_
    refine cS ?_
    refine cP 14 hF ?_
    refine sC 1 (.agg (rc x (max ea (O.getD i 0)) ho false (.slice ad92 L.length cap93)).toArray) (Calm.load (T := 26) (p := ⟨bk92,0,none⟩) (by kernel_rfl) (Loads.blk (vs := rc x (max ea (O.getD i 0)) ho false (.slice ad92 L.length cap93)) (by kernel_rfl) mk93 rfl)) ?_
    refine SeqK.eff (k' := 2) (Does.store (b := h9.size) (off := 0) (vs := rc x (max ea (O.getD i 0)) ho false (.slice ad92 L.length cap93)) (l := rc x ea ho false (.slice ad1 L.length cap1)) (by kernel_rfl) m12 (of_decide_eq_true (by kernel_rfl)) (List.all_eq_true.1 (by kernel_rfl))) rfl ?_
    rintro _ h115 ⟨rfl,hh⟩
    have g116 : Grew (some (h9.size)) h114 h115 := hput_gr hh
    replace m12 : h115[h9.size]? = some (.cells (rc x (max ea (O.getD i 0)) ho false (.slice ad92 L.length cap93)).toArray 26) := hput_at (off := 0) (vs := rc x (max ea (O.getD i 0)) ho false (.slice ad92 L.length cap93)) (l := (rc x ea ho false (.slice ad1 L.length cap1))) hh (by kernel_rfl) m12
    clear hh
    replace e0 := e0.grew g116 (sep.low 5 rfl)
    replace own_a := own_a.kept g116 (by rw [blkOf_slice]; exact (sep.ap 3 5))
    replace own_b := own_b.kept g116 (by rw [blkOf_slice]; exact (sep.ap 2 5))
    replace own_n38 := own_n38.kept g116 (by rw [blkOf_slice]; exact (sep.ap 1 5))
    replace m22 := Grew.blk g116 m22 ((sep.bp 4 5))
    replace mk93 := Grew.blk g116 mk93 ((sep.bp 0 5))
    replace sep := sep.up g116.size
    refine sD [(1,.slice (some ac) O.length wc),(5,.bool true),(6,pV h9.size),(7,pV h19.size),(8,.int .i64 ea),(9,nV i)] ?_
    clear hF a; intro a hF
    refine tK ?_
    refine cP 15 hF ?_
    refine sP 3 [.int .i64 ea,.slice (some ac) O.length wc,nV i] ?_
    refine sC 4 (.pointer (some (Addr.add ac i))) ((Calm.indexA (a := ac) (len := O.length) (sz := 1) (k := ((i : Nat) : Int)) i i (by kernel_rfl) rfl (by omega) (by omega)) _) ?_
    refine sC 5 (.int .i64 (O.getD i 0)) (Calm.load (T := 3) (p := (Addr.add ac i)) (by kernel_rfl) (Loads.one (k := 1) (by kernel_rfl) (Row.cell1 (hro.ext e0) (by omega)))) ?_
    refine s1 6 (.int .i64 (max ea (O.getD i 0))) (.int .i64 (if (O.getD i 0) > ea then (O.getD i 0) else ea)) (congrArg (Value.int .i64) (by rw [Int.max_def]; split <;> split <;> omega)) ?_
    refine sP 7 [.int .i64 (max ea (O.getD i 0))] ?_
    refine sD [(1,.slice (some ac) O.length wc),(5,.bool true),(6,pV h9.size),(7,pV h19.size),(8,.int .i64 (max ea (O.getD i 0))),(9,nV i)] ?_
    clear hF a; intro a hF
    refine tK ?_
    refine cS ?_
    rcases (show (O.getD (O.length - 1 - i) 0 < 0 ∨ 1099511627776 < O.getD (O.length - 1 - i) 0) ∨ (0 ≤ O.getD (O.length - 1 - i) 0 ∧ O.getD (O.length - 1 - i) 0 ≤ 1099511627776) by omega) with hu | hu
    ·skip
     have heb2 := mx_no (l := O.reverse) (by rw [List.length_reverse]; exact hia) heb (by rw [rev_getD hia]; exact hu)
     refine C.mono (K := fun e a hJ => ∃ (bk117 : Nat),e = .normal ∧ (Ext h hJ) ∧ (Own hJ (.slice ad1 L.length cap1) 49 L.length 4 (prow L)) ∧ (Own hJ (.slice ad2 L.length cap2) 49 L.length 4 (prow L)) ∧ (Own hJ (.slice ad92 L.length cap93) 49 L.length 4 (prow L)) ∧ (hJ[h9.size]? = some (.cells (rc x (max ea (O.getD i 0)) ho false (.slice ad92 L.length cap93)).toArray 26)) ∧ (hJ[h19.size]? = some (.cells (rc x eb ho false (.slice ad2 L.length cap2)).toArray 26)) ∧ (hJ[bk92]? = some (.cells (rc x (max ea (O.getD i 0)) ho false (.slice ad92 L.length cap93)).toArray 26)) ∧ (hJ[bk117]? = some (.cells (rc rb0 (0 : Int) false false (.slice none 0 0)).toArray 26)) ∧ (Sep h.size hJ.size [some bk117,some bk92,ad92.map (·.block),ad2.map (·.block),ad1.map (·.block),some h19.size,some h9.size]) ∧ Fr a 78 [(1,.slice (some ac) O.length wc),(5,.bool true),(6,.pointer (some ⟨h9.size,0,none⟩)),(7,.pointer (some ⟨h19.size,0,none⟩)),(8,.int .i64 (max ea (O.getD i 0))),(9,.int .i64 ((i : Nat) : Int)),(12,.pointer (some ⟨bk117,0,none⟩)),(13,.int .i64 1)]) ?_ ?_
     ·skip
      refine cD [0,0,0,4,12,0,60,126,254,511,1023,2047,2047,0,12287,32767] 16 mixed hF ?_
      refine mL 1 1 0 (.agg (rc x eb ho false (.slice ad2 L.length cap2)).toArray) (Calm.load (T := 26) (p := ⟨h19.size,0,none⟩) (by kernel_rfl) (Loads.blk (vs := rc x eb ho false (.slice ad2 L.length cap2)) (by kernel_rfl) m22 rfl)) ?_
      refine mP 15 [1,2,3] [.slice (some ac) O.length wc,.slice (some ac) O.length wc,nV O.length] ?_
      refine m1 31 4 (.int .i64 ((O.length - 1 : Nat) : Int)) (.int .i64 (IntKind.i64.wrap (((O.length : Nat) : Int) - 1))) (congrArg (Value.int .i64) (w64' (by omega) (by omega) (by omega))) ?_
      refine mP 63 [5] [nV i] ?_
      refine m1 127 6 (.int .i64 (((O.length - 1) - i : Nat) : Int)) (.int .i64 (IntKind.i64.wrap (((O.length - 1 : Nat) : Int) - ((i : Nat) : Int)))) (congrArg (Value.int .i64) (w64' (by omega) (by omega) (by omega))) ?_
      refine mF 255 7 (.pointer (some (Addr.add ac ((O.length - 1) - i)))) (Calm.indexA (a := ac) (len := O.length) (sz := 1) (k := (((O.length - 1) - i : Nat) : Int)) ((O.length - 1) - i) ((O.length - 1) - i) (by kernel_rfl) rfl (by omega) (by omega)) ?_
      refine mL 511 257 8 (.int .i64 (O.getD ((O.length - 1) - i) 0)) (Calm.load (T := 3) (p := (Addr.add ac ((O.length - 1) - i))) (by kernel_rfl) (Loads.one (k := 1) (by kernel_rfl) (Row.cell1 (hro.ext e0) (by omega)))) ?_
      refine SimK.effs (is := [9,13]) (by kernel_rfl) (by simp) ?_
      intro q hq
      simp only [List.mem_cons,List.not_mem_nil,or_false] at hq
      rcases hq with rfl | rfl
      ·skip
       refine SimK.effAt (i := 9) (D' := 1023) (X' := 1023) (by kernel_rfl) (by kernel_rfl) [] (by kernel_rfl) (Does.call (f := 12) (args := #[.agg (rc x eb ho false (.slice ad2 L.length cap2)).toArray,.int .i64 (O.getD ((O.length - 1) - i) 0)]) (by kernel_rfl) (lock_arg _ x eb ho false L ad2 cap2 (O.getD ((O.length - 1) - i) 0) hu)) ?_
       rintro _ h119 ⟨rfl,g⟩
       refine ⟨fun j hj => by simp at hj,?_⟩
       replace e0 := e0.ext g
       replace own_a := own_a.ext g
       replace own_b := own_b.ext g
       replace own_n38 := own_n38.ext g
       replace m12 := Ext.blk g m12
       replace m22 := Ext.blk g m22
       replace mk93 := Ext.blk g mk93
       replace sep := sep.up g.size
       clear g
       refine mP 8191 [10,11,12] [.tuple #[.agg (rc rb0 (0 : Int) false false (.slice none 0 0)).toArray,.int .i64 1],.agg (rc rb0 (0 : Int) false false (.slice none 0 0)).toArray,.int .i64 1] ?_
       refine SimK.eff0 (i := 13) (D' := 16383) (X' := 9215) (by kernel_rfl) (by kernel_rfl) (by kernel_rfl) (by kernel_rfl) (Does.new (v := .pointer (some ⟨h119.size,0,none⟩)) (o := .cells (rc rb0 (0 : Int) false false (.slice none 0 0)).toArray 26) (by kernel_rfl)) ?_
       rintro _ h120 ⟨rfl,hh⟩
       have g121 : Ext h119 h120 := push_ext hh
       have m122 : h120[h119.size]? = some (.cells (rc rb0 (0 : Int) false false (.slice none 0 0)).toArray 26) := push_at hh
       clear hh
       have lt123 := blk_lt m122
       have zs124 := e0.size
       have hlo := e0.size
       have sepo := sep
       replace e0 := e0.ext g121
       replace own_a := own_a.ext g121
       replace own_b := own_b.ext g121
       replace own_n38 := own_n38.ext g121
       replace m12 := Ext.blk g121 m12
       replace m22 := Ext.blk g121 m22
       replace mk93 := Ext.blk g121 mk93
       replace sep := sep.up g121.size
       replace sep := sepo.new hlo (blk_lt m122)
       clear sepo hlo
       refine SimK.eff0 (i := 14) (D' := 32767) (X' := 28671) (by kernel_rfl) (by kernel_rfl) (by kernel_rfl) (by kernel_rfl) (Does.store (b := h119.size) (off := 0) (vs := rc rb0 (0 : Int) false false (.slice none 0 0)) (l := rc rb0 (0 : Int) false false (.slice none 0 0)) (by kernel_rfl) m122 (of_decide_eq_true (by kernel_rfl)) (List.all_eq_true.1 (by kernel_rfl))) ?_
       rintro _ h125 ⟨rfl,hh⟩
       have g126 : Grew (some (h119.size)) h120 h125 := hput_gr hh
       replace m122 : h125[h119.size]? = some (.cells (rc rb0 (0 : Int) false false (.slice none 0 0)).toArray 26) := hput_at (off := 0) (vs := rc rb0 (0 : Int) false false (.slice none 0 0)) (l := (rc rb0 (0 : Int) false false (.slice none 0 0))) hh (by kernel_rfl) m122
       clear hh
       replace e0 := e0.grew g126 (sep.low 0 rfl)
       replace own_a := own_a.kept g126 (by rw [blkOf_slice]; exact (sep.ap 4 0))
       replace own_b := own_b.kept g126 (by rw [blkOf_slice]; exact (sep.ap 3 0))
       replace own_n38 := own_n38.kept g126 (by rw [blkOf_slice]; exact (sep.ap 2 0))
       replace m12 := Grew.blk g126 m12 ((sep.bp 6 0))
       replace m22 := Grew.blk g126 m22 ((sep.bp 5 0))
       replace mk93 := Grew.blk g126 mk93 ((sep.bp 1 0))
       replace sep := sep.up g126.size
       refine mP 65535 [15] [.int .i64 1] ?_
       refine mD [(1,.slice (some ac) O.length wc),(5,.bool true),(6,pV h9.size),(7,pV h19.size),(8,.int .i64 (max ea (O.getD i 0))),(9,nV i),(12,pV h119.size),(13,.int .i64 1)] ?_
       clear hF a; intro a hF
       have sepj := sep.pick (l' := [some h119.size,some bk92,ad92.map (·.block),ad2.map (·.block),ad1.map (·.block),some h19.size,some h9.size]) [0,1,2,3,4,5,6] rfl (by decide)
       exact ⟨h119.size,rfl,e0,own_a,own_b,own_n38,m12,m22,mk93,m122,sepj,hF⟩
      ·skip
       refine SimK.effAt (i := 13) (D' := 8703) (X' := 8192) (by kernel_rfl) (by kernel_rfl) [0,8] (by kernel_rfl) (Does.new (v := .pointer (some ⟨h115.size,0,none⟩)) (o := .cells (rc rb0 (0 : Int) false false (.slice none 0 0)).toArray 26) (by kernel_rfl)) ?_
       rintro _ h127 ⟨rfl,hh⟩
       have g128 : Ext h115 h127 := push_ext hh
       have m129 : h127[h115.size]? = some (.cells (rc rb0 (0 : Int) false false (.slice none 0 0)).toArray 26) := push_at hh
       clear hh
       have lt130 := blk_lt m129
       have zs131 := e0.size
       have hlo := e0.size
       have sepo := sep
       replace e0 := e0.ext g128
       replace own_a := own_a.ext g128
       replace own_b := own_b.ext g128
       replace own_n38 := own_n38.ext g128
       replace m12 := Ext.blk g128 m12
       replace m22 := Ext.blk g128 m22
       replace mk93 := Ext.blk g128 mk93
       replace sep := sep.up g128.size
       replace sep := sepo.new hlo (blk_lt m129)
       clear sepo hlo
       refine ⟨?_,?_⟩
       ·intro j hj
        simp only [List.mem_cons,List.not_mem_nil,or_false] at hj
        rcases hj with rfl | rfl
        ·exact goodOf (Calm.load (T := 26) (p := ⟨h19.size,0,none⟩) (by kernel_rfl) (Loads.blk (vs := rc x eb ho false (.slice ad2 L.length cap2)) (by kernel_rfl) m22 rfl))
        ·exact goodOf (Calm.load (T := 3) (p := (Addr.add ac ((O.length - 1) - i))) (by kernel_rfl) (Loads.one (k := 1) (by kernel_rfl) (Row.cell1 (hro.ext e0) (by omega))))
       refine SimK.eff0 (i := 9) (D' := 9215) (X' := 9215) (by kernel_rfl) (by kernel_rfl) (by kernel_rfl) (by kernel_rfl) (Does.call (f := 12) (args := #[.agg (rc x eb ho false (.slice ad2 L.length cap2)).toArray,.int .i64 (O.getD ((O.length - 1) - i) 0)]) (by kernel_rfl) (lock_arg _ x eb ho false L ad2 cap2 (O.getD ((O.length - 1) - i) 0) hu)) ?_
       rintro _ h132 ⟨rfl,g⟩
       replace e0 := e0.ext g
       replace own_a := own_a.ext g
       replace own_b := own_b.ext g
       replace own_n38 := own_n38.ext g
       replace m12 := Ext.blk g m12
       replace m22 := Ext.blk g m22
       replace mk93 := Ext.blk g mk93
       replace m129 := Ext.blk g m129
       replace sep := sep.up g.size
       clear g
       refine mP 16383 [10,11,12] [.tuple #[.agg (rc rb0 (0 : Int) false false (.slice none 0 0)).toArray,.int .i64 1],.agg (rc rb0 (0 : Int) false false (.slice none 0 0)).toArray,.int .i64 1] ?_
       refine SimK.eff0 (i := 14) (D' := 32767) (X' := 28671) (by kernel_rfl) (by kernel_rfl) (by kernel_rfl) (by kernel_rfl) (Does.store (b := h115.size) (off := 0) (vs := rc rb0 (0 : Int) false false (.slice none 0 0)) (l := rc rb0 (0 : Int) false false (.slice none 0 0)) (by kernel_rfl) m129 (of_decide_eq_true (by kernel_rfl)) (List.all_eq_true.1 (by kernel_rfl))) ?_
       rintro _ h133 ⟨rfl,hh⟩
       have g134 : Grew (some (h115.size)) h132 h133 := hput_gr hh
       replace m129 : h133[h115.size]? = some (.cells (rc rb0 (0 : Int) false false (.slice none 0 0)).toArray 26) := hput_at (off := 0) (vs := rc rb0 (0 : Int) false false (.slice none 0 0)) (l := (rc rb0 (0 : Int) false false (.slice none 0 0))) hh (by kernel_rfl) m129
       clear hh
       replace e0 := e0.grew g134 (sep.low 0 rfl)
       replace own_a := own_a.kept g134 (by rw [blkOf_slice]; exact (sep.ap 4 0))
       replace own_b := own_b.kept g134 (by rw [blkOf_slice]; exact (sep.ap 3 0))
       replace own_n38 := own_n38.kept g134 (by rw [blkOf_slice]; exact (sep.ap 2 0))
       replace m12 := Grew.blk g134 m12 ((sep.bp 6 0))
       replace m22 := Grew.blk g134 m22 ((sep.bp 5 0))
       replace mk93 := Grew.blk g134 mk93 ((sep.bp 1 0))
       replace sep := sep.up g134.size
       refine mP 65535 [15] [.int .i64 1] ?_
       refine mD [(1,.slice (some ac) O.length wc),(5,.bool true),(6,pV h9.size),(7,pV h19.size),(8,.int .i64 (max ea (O.getD i 0))),(9,nV i),(12,pV h115.size),(13,.int .i64 1)] ?_
       clear hF a; intro a hF
       have sepj := sep.pick (l' := [some h115.size,some bk92,ad92.map (·.block),ad2.map (·.block),ad1.map (·.block),some h19.size,some h9.size]) [0,1,2,3,4,5,6] rfl (by decide)
       exact ⟨h115.size,rfl,e0,own_a,own_b,own_n38,m12,m22,mk93,m129,sepj,hF⟩
     ·skip
      clear hF a e0 own_a own_b own_n38 m12 m22 mk93 sep
      rintro e a h135 ⟨bk117,rfl,e0,own_a,own_b,own_n38,m12,m22,mk93,mk118,sep,hF⟩
      refine tK ?_
      refine cS ?_
      refine cP 17 hF ?_
      refine sP 2 [.int .i64 1,.bool false] ?_
      refine sD [(1,.slice (some ac) O.length wc),(5,.bool true),(6,pV h9.size),(7,pV h19.size),(8,.int .i64 (max ea (O.getD i 0))),(9,nV i),(12,pV bk117),(64,.bool false)] ?_
      clear hF a; intro a hF
      refine tK ?_
      refine cF 64 hF ?_
      refine cN ?_
      show C Try.prog (sub b9 [1,1,1,1,1,1,1,0,1,0,0,1,1]) _ a h135
      refine cP 11 hF ?_
      refine sP 1 [nV i] ?_
      refine s1 2 (.int .i64 ((i + 1 : Nat) : Int)) (.int .i64 (IntKind.i64.wrap (((i : Nat) : Int) + 1))) (congrArg (Value.int .i64) (w64' (by omega) (by omega) (by omega))) ?_
      refine sP 3 [nV (i + 1)] ?_
      refine sD [(1,.slice (some ac) O.length wc),(5,.bool true),(6,pV h9.size),(7,pV h19.size),(8,.int .i64 (max ea (O.getD i 0))),(9,nV (i + 1))] ?_
      clear hF a; intro a hF
      have fsep : Sep h.size h135.size [ad2.map (·.block),ad92.map (·.block),some h19.size,some h9.size] := sep.pick [3,2,5,6] rfl (by decide)
      have fa := own_n38; have fb := own_b
      show ∃ m',m' < _ ∧ _
      refine ⟨_,?_,(i + 1),(max ea (O.getD i 0)),eb,ad92,cap93,ad2,cap2,rfl,e0,(by omega),hea2,heb2,m12,m22,fa,fb,fsep,hF⟩
      omega
    ·skip
     have heb2 := mx_ok (l := O.reverse) (by rw [List.length_reverse]; exact hia) heb (by rw [rev_getD hia]; exact hu.1) (by rw [rev_getD hia]; exact hu.2)
     rw [rev_getD hia] at heb2
     refine C.mono (K := fun e a hJ => ∃ (bk136 : Nat),∃ (ad136 : Option Addr) (cap137 : Nat),e = .normal ∧ (Ext h hJ) ∧ (Own hJ (.slice ad1 L.length cap1) 49 L.length 4 (prow L)) ∧ (Own hJ (.slice ad2 L.length cap2) 49 L.length 4 (prow L)) ∧ (Own hJ (.slice ad92 L.length cap93) 49 L.length 4 (prow L)) ∧ (Own hJ (.slice ad136 L.length cap137) 49 L.length 4 (prow L)) ∧ (hJ[h9.size]? = some (.cells (rc x (max ea (O.getD i 0)) ho false (.slice ad92 L.length cap93)).toArray 26)) ∧ (hJ[h19.size]? = some (.cells (rc x eb ho false (.slice ad2 L.length cap2)).toArray 26)) ∧ (hJ[bk92]? = some (.cells (rc x (max ea (O.getD i 0)) ho false (.slice ad92 L.length cap93)).toArray 26)) ∧ (hJ[bk136]? = some (.cells (rc x (max eb (O.getD ((O.length - 1) - i) 0)) ho false (.slice ad136 L.length cap137)).toArray 26)) ∧ (Sep h.size hJ.size [some bk136,ad136.map (·.block),some bk92,ad92.map (·.block),ad2.map (·.block),ad1.map (·.block),some h19.size,some h9.size]) ∧ Fr a 78 [(1,.slice (some ac) O.length wc),(5,.bool true),(6,.pointer (some ⟨h9.size,0,none⟩)),(7,.pointer (some ⟨h19.size,0,none⟩)),(8,.int .i64 (max ea (O.getD i 0))),(9,.int .i64 ((i : Nat) : Int)),(12,.pointer (some ⟨bk136,0,none⟩)),(13,.int .i64 0)]) ?_ ?_
     ·skip
      refine cD [0,0,0,4,12,0,60,126,254,511,1023,2047,2047,0,12287,32767] 16 mixed hF ?_
      refine mL 1 1 0 (.agg (rc x eb ho false (.slice ad2 L.length cap2)).toArray) (Calm.load (T := 26) (p := ⟨h19.size,0,none⟩) (by kernel_rfl) (Loads.blk (vs := rc x eb ho false (.slice ad2 L.length cap2)) (by kernel_rfl) m22 rfl)) ?_
      refine mP 15 [1,2,3] [.slice (some ac) O.length wc,.slice (some ac) O.length wc,nV O.length] ?_
      refine m1 31 4 (.int .i64 ((O.length - 1 : Nat) : Int)) (.int .i64 (IntKind.i64.wrap (((O.length : Nat) : Int) - 1))) (congrArg (Value.int .i64) (w64' (by omega) (by omega) (by omega))) ?_
      refine mP 63 [5] [nV i] ?_
      refine m1 127 6 (.int .i64 (((O.length - 1) - i : Nat) : Int)) (.int .i64 (IntKind.i64.wrap (((O.length - 1 : Nat) : Int) - ((i : Nat) : Int)))) (congrArg (Value.int .i64) (w64' (by omega) (by omega) (by omega))) ?_
      refine mF 255 7 (.pointer (some (Addr.add ac ((O.length - 1) - i)))) (Calm.indexA (a := ac) (len := O.length) (sz := 1) (k := (((O.length - 1) - i : Nat) : Int)) ((O.length - 1) - i) ((O.length - 1) - i) (by kernel_rfl) rfl (by omega) (by omega)) ?_
      refine mL 511 257 8 (.int .i64 (O.getD ((O.length - 1) - i) 0)) (Calm.load (T := 3) (p := (Addr.add ac ((O.length - 1) - i))) (by kernel_rfl) (Loads.one (k := 1) (by kernel_rfl) (Row.cell1 (hro.ext e0) (by omega)))) ?_
      refine SimK.effs (is := [9,13]) (by kernel_rfl) (by simp) ?_
      intro q hq
      simp only [List.mem_cons,List.not_mem_nil,or_false] at hq
      rcases hq with rfl | rfl
      ·skip
       refine SimK.effAt (i := 9) (D' := 1023) (X' := 1023) (by kernel_rfl) (by kernel_rfl) [] (by kernel_rfl) (Does.call (f := 12) (args := #[.agg (rc x eb ho false (.slice ad2 L.length cap2)).toArray,.int .i64 (O.getD ((O.length - 1) - i) 0)]) (by kernel_rfl) (lock_ok _ x eb ho L ad2 cap2 own_b.row hL (O.getD ((O.length - 1) - i) 0) hu.1 hu.2)) ?_
       rintro _ h140 ⟨_,rfl,ad138,cap139,rfl,ownx,hge,g⟩
       refine ⟨fun j hj => by simp at hj,?_⟩
       have hlo := e0.size
       have sepo := sep
       replace e0 := e0.ext g
       replace own_a := own_a.ext g
       replace own_b := own_b.ext g
       replace own_n38 := own_n38.ext g
       replace m12 := Ext.blk g m12
       replace m22 := Ext.blk g m22
       replace mk93 := Ext.blk g mk93
       replace sep := sep.up g.size
       replace sep := sepo.cons (x := ad138.map (fun (x : Addr) => x.block)) g.size hlo (fun k e => ⟨hge k e,ownx.lt (by rw [blkOf_slice]; exact e)⟩)
       have own_n60 : Own h140 (.slice ad138 L.length cap139) 49 L.length 4 (prow L) := ownx; clear ownx sepo hlo hge g
       refine mP 8191 [10,11,12] [.tuple #[.agg (rc x (max eb (O.getD ((O.length - 1) - i) 0)) ho false (.slice ad138 L.length cap139)).toArray,.int .i64 0],.agg (rc x (max eb (O.getD ((O.length - 1) - i) 0)) ho false (.slice ad138 L.length cap139)).toArray,.int .i64 0] ?_
       refine SimK.eff0 (i := 13) (D' := 16383) (X' := 9215) (by kernel_rfl) (by kernel_rfl) (by kernel_rfl) (by kernel_rfl) (Does.new (v := .pointer (some ⟨h140.size,0,none⟩)) (o := .cells (rc rb0 (0 : Int) false false (.slice none 0 0)).toArray 26) (by kernel_rfl)) ?_
       rintro _ h141 ⟨rfl,hh⟩
       have g142 : Ext h140 h141 := push_ext hh
       have m143 : h141[h140.size]? = some (.cells (rc rb0 (0 : Int) false false (.slice none 0 0)).toArray 26) := push_at hh
       clear hh
       have lt144 := blk_lt m143
       have zs145 := e0.size
       have hlo := e0.size
       have sepo := sep
       replace e0 := e0.ext g142
       replace own_a := own_a.ext g142
       replace own_b := own_b.ext g142
       replace own_n38 := own_n38.ext g142
       replace own_n60 := own_n60.ext g142
       replace m12 := Ext.blk g142 m12
       replace m22 := Ext.blk g142 m22
       replace mk93 := Ext.blk g142 mk93
       replace sep := sep.up g142.size
       replace sep := sepo.new hlo (blk_lt m143)
       clear sepo hlo
       refine SimK.eff0 (i := 14) (D' := 32767) (X' := 28671) (by kernel_rfl) (by kernel_rfl) (by kernel_rfl) (by kernel_rfl) (Does.store (b := h140.size) (off := 0) (vs := rc x (max eb (O.getD ((O.length - 1) - i) 0)) ho false (.slice ad138 L.length cap139)) (l := rc rb0 (0 : Int) false false (.slice none 0 0)) (by kernel_rfl) m143 (of_decide_eq_true (by kernel_rfl)) (List.all_eq_true.1 (by kernel_rfl))) ?_
       rintro _ h146 ⟨rfl,hh⟩
       have g147 : Grew (some (h140.size)) h141 h146 := hput_gr hh
       replace m143 : h146[h140.size]? = some (.cells (rc x (max eb (O.getD ((O.length - 1) - i) 0)) ho false (.slice ad138 L.length cap139)).toArray 26) := hput_at (off := 0) (vs := rc x (max eb (O.getD ((O.length - 1) - i) 0)) ho false (.slice ad138 L.length cap139)) (l := (rc rb0 (0 : Int) false false (.slice none 0 0))) hh (by kernel_rfl) m143
       clear hh
       replace e0 := e0.grew g147 (sep.low 0 rfl)
       replace own_a := own_a.kept g147 (by rw [blkOf_slice]; exact (sep.ap 5 0))
       replace own_b := own_b.kept g147 (by rw [blkOf_slice]; exact (sep.ap 4 0))
       replace own_n38 := own_n38.kept g147 (by rw [blkOf_slice]; exact (sep.ap 3 0))
       replace own_n60 := own_n60.kept g147 (by rw [blkOf_slice]; exact (sep.ap 1 0))
       replace m12 := Grew.blk g147 m12 ((sep.bp 7 0))
       replace m22 := Grew.blk g147 m22 ((sep.bp 6 0))
       replace mk93 := Grew.blk g147 mk93 ((sep.bp 2 0))
       replace sep := sep.up g147.size
       refine mP 65535 [15] [.int .i64 0] ?_
       refine mD [(1,.slice (some ac) O.length wc),(5,.bool true),(6,pV h9.size),(7,pV h19.size),(8,.int .i64 (max ea (O.getD i 0))),(9,nV i),(12,pV h140.size),(13,.int .i64 0)] ?_
       clear hF a; intro a hF
       have sepj := sep.pick (l' := [some h140.size,ad138.map (·.block),some bk92,ad92.map (·.block),ad2.map (·.block),ad1.map (·.block),some h19.size,some h9.size]) [0,1,2,3,4,5,6,7] rfl (by decide)
       exact ⟨h140.size,ad138,cap139,rfl,e0,own_a,own_b,own_n38,own_n60,m12,m22,mk93,m143,sepj,hF⟩
      ·skip
       refine SimK.effAt (i := 13) (D' := 8703) (X' := 8192) (by kernel_rfl) (by kernel_rfl) [0,8] (by kernel_rfl) (Does.new (v := .pointer (some ⟨h115.size,0,none⟩)) (o := .cells (rc rb0 (0 : Int) false false (.slice none 0 0)).toArray 26) (by kernel_rfl)) ?_
       rintro _ h148 ⟨rfl,hh⟩
       have g149 : Ext h115 h148 := push_ext hh
       have m150 : h148[h115.size]? = some (.cells (rc rb0 (0 : Int) false false (.slice none 0 0)).toArray 26) := push_at hh
       clear hh
       have lt151 := blk_lt m150
       have zs152 := e0.size
       have hlo := e0.size
       have sepo := sep
       replace e0 := e0.ext g149
       replace own_a := own_a.ext g149
       replace own_b := own_b.ext g149
       replace own_n38 := own_n38.ext g149
       replace m12 := Ext.blk g149 m12
       replace m22 := Ext.blk g149 m22
       replace mk93 := Ext.blk g149 mk93
       replace sep := sep.up g149.size
       replace sep := sepo.new hlo (blk_lt m150)
       clear sepo hlo
       refine ⟨?_,?_⟩
       ·intro j hj
        simp only [List.mem_cons,List.not_mem_nil,or_false] at hj
        rcases hj with rfl | rfl
        ·exact goodOf (Calm.load (T := 26) (p := ⟨h19.size,0,none⟩) (by kernel_rfl) (Loads.blk (vs := rc x eb ho false (.slice ad2 L.length cap2)) (by kernel_rfl) m22 rfl))
        ·exact goodOf (Calm.load (T := 3) (p := (Addr.add ac ((O.length - 1) - i))) (by kernel_rfl) (Loads.one (k := 1) (by kernel_rfl) (Row.cell1 (hro.ext e0) (by omega))))
       refine SimK.eff0 (i := 9) (D' := 9215) (X' := 9215) (by kernel_rfl) (by kernel_rfl) (by kernel_rfl) (by kernel_rfl) (Does.call (f := 12) (args := #[.agg (rc x eb ho false (.slice ad2 L.length cap2)).toArray,.int .i64 (O.getD ((O.length - 1) - i) 0)]) (by kernel_rfl) (lock_ok _ x eb ho L ad2 cap2 own_b.row hL (O.getD ((O.length - 1) - i) 0) hu.1 hu.2)) ?_
       rintro _ h155 ⟨_,rfl,ad153,cap154,rfl,ownx,hge,g⟩
       have hlo := e0.size
       have sepo := sep
       replace e0 := e0.ext g
       replace own_a := own_a.ext g
       replace own_b := own_b.ext g
       replace own_n38 := own_n38.ext g
       replace m12 := Ext.blk g m12
       replace m22 := Ext.blk g m22
       replace mk93 := Ext.blk g mk93
       replace m150 := Ext.blk g m150
       replace sep := sep.up g.size
       replace sep := sepo.cons (x := ad153.map (fun (x : Addr) => x.block)) g.size hlo (fun k e => ⟨hge k e,ownx.lt (by rw [blkOf_slice]; exact e)⟩)
       have own_n60 : Own h155 (.slice ad153 L.length cap154) 49 L.length 4 (prow L) := ownx; clear ownx sepo hlo hge g
       refine mP 16383 [10,11,12] [.tuple #[.agg (rc x (max eb (O.getD ((O.length - 1) - i) 0)) ho false (.slice ad153 L.length cap154)).toArray,.int .i64 0],.agg (rc x (max eb (O.getD ((O.length - 1) - i) 0)) ho false (.slice ad153 L.length cap154)).toArray,.int .i64 0] ?_
       refine SimK.eff0 (i := 14) (D' := 32767) (X' := 28671) (by kernel_rfl) (by kernel_rfl) (by kernel_rfl) (by kernel_rfl) (Does.store (b := h115.size) (off := 0) (vs := rc x (max eb (O.getD ((O.length - 1) - i) 0)) ho false (.slice ad153 L.length cap154)) (l := rc rb0 (0 : Int) false false (.slice none 0 0)) (by kernel_rfl) m150 (of_decide_eq_true (by kernel_rfl)) (List.all_eq_true.1 (by kernel_rfl))) ?_
       rintro _ h156 ⟨rfl,hh⟩
       have g157 : Grew (some (h115.size)) h155 h156 := hput_gr hh
       replace m150 : h156[h115.size]? = some (.cells (rc x (max eb (O.getD ((O.length - 1) - i) 0)) ho false (.slice ad153 L.length cap154)).toArray 26) := hput_at (off := 0) (vs := rc x (max eb (O.getD ((O.length - 1) - i) 0)) ho false (.slice ad153 L.length cap154)) (l := (rc rb0 (0 : Int) false false (.slice none 0 0))) hh (by kernel_rfl) m150
       clear hh
       replace e0 := e0.grew g157 (sep.low 1 rfl)
       replace own_a := own_a.kept g157 (by rw [blkOf_slice]; exact (sep.ap 5 1))
       replace own_b := own_b.kept g157 (by rw [blkOf_slice]; exact (sep.ap 4 1))
       replace own_n38 := own_n38.kept g157 (by rw [blkOf_slice]; exact (sep.ap 3 1))
       replace own_n60 := own_n60.kept g157 (by rw [blkOf_slice]; exact (sep.ap 0 1))
       replace m12 := Grew.blk g157 m12 ((sep.bp 7 1))
       replace m22 := Grew.blk g157 m22 ((sep.bp 6 1))
       replace mk93 := Grew.blk g157 mk93 ((sep.bp 2 1))
       replace sep := sep.up g157.size
       refine mP 65535 [15] [.int .i64 0] ?_
       refine mD [(1,.slice (some ac) O.length wc),(5,.bool true),(6,pV h9.size),(7,pV h19.size),(8,.int .i64 (max ea (O.getD i 0))),(9,nV i),(12,pV h115.size),(13,.int .i64 0)] ?_
       clear hF a; intro a hF
       have sepj := sep.pick (l' := [some h115.size,ad153.map (·.block),some bk92,ad92.map (·.block),ad2.map (·.block),ad1.map (·.block),some h19.size,some h9.size]) [1,0,2,3,4,5,6,7] rfl (by decide)
       exact ⟨h115.size,ad153,cap154,rfl,e0,own_a,own_b,own_n38,own_n60,m12,m22,mk93,m150,sepj,hF⟩
     ·skip
      clear hF a e0 own_a own_b own_n38 m12 m22 mk93 sep
      rintro e a h158 ⟨bk136,ad136,cap137,rfl,e0,own_a,own_b,own_n38,own_n60,m12,m22,mk93,mk137,sep,hF⟩
      refine tK ?_
      refine cS ?_
      refine cP 17 hF ?_
      refine sP 2 [.int .i64 0,.bool true] ?_
      refine sD [(1,.slice (some ac) O.length wc),(5,.bool true),(6,pV h9.size),(7,pV h19.size),(8,.int .i64 (max ea (O.getD i 0))),(9,nV i),(12,pV bk136),(64,.bool true)] ?_
      clear hF a; intro a hF
      refine tK ?_
      refine cT 64 hF ?_
      refine cP 18 hF ?_
      refine sC 1 (.agg (rc x (max eb (O.getD ((O.length - 1) - i) 0)) ho false (.slice ad136 L.length cap137)).toArray) (Calm.load (T := 26) (p := ⟨bk136,0,none⟩) (by kernel_rfl) (Loads.blk (vs := rc x (max eb (O.getD ((O.length - 1) - i) 0)) ho false (.slice ad136 L.length cap137)) (by kernel_rfl) mk137 rfl)) ?_
      refine SeqK.eff (k' := 2) (Does.store (b := h19.size) (off := 0) (vs := rc x (max eb (O.getD ((O.length - 1) - i) 0)) ho false (.slice ad136 L.length cap137)) (l := rc x eb ho false (.slice ad2 L.length cap2)) (by kernel_rfl) m22 (of_decide_eq_true (by kernel_rfl)) (List.all_eq_true.1 (by kernel_rfl))) rfl ?_
      rintro _ h159 ⟨rfl,hh⟩
      have g160 : Grew (some (h19.size)) h158 h159 := hput_gr hh
      replace m22 : h159[h19.size]? = some (.cells (rc x (max eb (O.getD ((O.length - 1) - i) 0)) ho false (.slice ad136 L.length cap137)).toArray 26) := hput_at (off := 0) (vs := rc x (max eb (O.getD ((O.length - 1) - i) 0)) ho false (.slice ad136 L.length cap137)) (l := (rc x eb ho false (.slice ad2 L.length cap2))) hh (by kernel_rfl) m22
      clear hh
      replace e0 := e0.grew g160 (sep.low 6 rfl)
      replace own_a := own_a.kept g160 (by rw [blkOf_slice]; exact (sep.ap 5 6))
      replace own_b := own_b.kept g160 (by rw [blkOf_slice]; exact (sep.ap 4 6))
      replace own_n38 := own_n38.kept g160 (by rw [blkOf_slice]; exact (sep.ap 3 6))
      replace own_n60 := own_n60.kept g160 (by rw [blkOf_slice]; exact (sep.ap 1 6))
      replace m12 := Grew.blk g160 m12 ((sep.bp 7 6))
      replace mk93 := Grew.blk g160 mk93 ((sep.bp 2 6))
      replace mk137 := Grew.blk g160 mk137 ((sep.bp 0 6))
      replace sep := sep.up g160.size
      refine sD [(1,.slice (some ac) O.length wc),(5,.bool true),(6,pV h9.size),(7,pV h19.size),(8,.int .i64 (max ea (O.getD i 0))),(9,nV i)] ?_
      clear hF a; intro a hF
      show C Try.prog (sub b9 [1,1,1,1,1,1,1,0,1,0,0,1,1]) _ a h159
      refine cP 11 hF ?_
      refine sP 1 [nV i] ?_
      refine s1 2 (.int .i64 ((i + 1 : Nat) : Int)) (.int .i64 (IntKind.i64.wrap (((i : Nat) : Int) + 1))) (congrArg (Value.int .i64) (w64' (by omega) (by omega) (by omega))) ?_
      refine sP 3 [nV (i + 1)] ?_
      refine sD [(1,.slice (some ac) O.length wc),(5,.bool true),(6,pV h9.size),(7,pV h19.size),(8,.int .i64 (max ea (O.getD i 0))),(9,nV (i + 1))] ?_
      clear hF a; intro a hF
      have fsep : Sep h.size h159.size [ad136.map (·.block),ad92.map (·.block),some h19.size,some h9.size] := sep.pick [1,3,6,7] rfl (by decide)
      have fa := own_n38; have fb := own_n60
      show ∃ m',m' < _ ∧ _
      refine ⟨_,?_,(i + 1),(max ea (O.getD i 0)),(max eb (O.getD ((O.length - 1) - i) 0)),ad92,cap93,ad136,cap137,rfl,e0,(by omega),hea2,heb2,m12,m22,fa,fb,fsep,hF⟩
      omega
 ·skip
  replace hc28 := of_decide_eq_false hc28
  have hab : eb = ea := by rw [heb,hea,List.take_of_length_le (by rw [List.length_reverse]; omega),List.take_of_length_le (by omega)]; exact mx_rev O e
  rw [hab] at m22
  refine cX 0 ?_
  show C Try.prog (sub b9 [1,1,1,1,1,1,1,1]) _ a h27
  refine cS ?_
  refine cP 19 hF ?_
  refine sP 2 [.bool true,.bool true] ?_
  refine sC 3 (.agg (rc x ea ho false (.slice ad1 L.length cap1)).toArray) (Calm.load (T := 26) (p := ⟨h9.size,0,none⟩) (by kernel_rfl) (Loads.blk (vs := rc x ea ho false (.slice ad1 L.length cap1)) (by kernel_rfl) m12 rfl)) ?_
  refine sC 4 (.agg (rc x ea ho false (.slice ad2 L.length cap2)).toArray) (Calm.load (T := 26) (p := ⟨h19.size,0,none⟩) (by kernel_rfl) (Loads.blk (vs := rc x ea ho false (.slice ad2 L.length cap2)) (by kernel_rfl) m22 rfl)) ?_
  refine SeqK.eff (k' := 5) (Does.call (f := 14) (args := #[.agg (rc x ea ho false (.slice ad1 L.length cap1)).toArray,.agg (rc x ea ho false (.slice ad2 L.length cap2)).toArray]) (by kernel_rfl) (same_sat _ x ea ho false L ad1 cap1 (own_a.row) hL ad2 cap2 (own_b.row))) rfl ?_
  rintro _ h161 ⟨rfl,g⟩
  replace e0 := e0.ext g
  replace own_a := own_a.ext g
  replace own_b := own_b.ext g
  replace m12 := Ext.blk g m12
  replace m22 := Ext.blk g m22
  replace sep := sep.up g.size
  clear g
  refine sP 8 [.bool true,.bool true,.pointer (some ⟨h9.size,35,none⟩)] ?_
  refine sC 9 (.int .i64 ea) (Calm.load (T := 3) (p := ⟨h9.size,35,none⟩) (by kernel_rfl) (Loads.one (k := 1) (by kernel_rfl) ((hcell_blk m12).trans (rfl)))) ?_
  refine sP 10 [.int .i64 ea] ?_
  refine s1 11 (.bool true) (.bool (ea == ea)) (congrArg Value.bool (beq_iff_eq.2 (by omega))) ?_
  refine sP 13 [.bool true,.bool true] ?_
  refine sD [(4,.bool true)] ?_
  clear hF a; intro a hF
  refine tK ?_
  refine cR ?_
  show retK Try.prog Try.f9 (fun v h' => v = .bool true ∧ Ext h h') .ret a h161
  refine ret_ok [.tmp 4] [.bool true] (.bool true) rfl hF ⟨rfl,trivial⟩ rfl ?_
  exact ⟨rfl,e0⟩
theorem order_sat (h : Heap) (x : RB) (e : Int) (ho go : Bool) (L : List Pl) (va : Option Addr) (vc : Nat) (hr : Row h (.slice va L.length vc) L.length 4 (prow L)) (hL : L.length ≤ 1099511627776) (O : List Int) (wa : Option Addr) (wc : Nat) (hro : Row h (.slice wa O.length wc) O.length 1 (irow O)) (hO : O.length ≤ 1099511627776) : Sat Try.prog 9 #[.agg (rc x e ho go (.slice va L.length vc)).toArray,.slice wa O.length wc] h (fun v h' => v = .bool true ∧ Ext h h') := by
 cases go with
 | true => exact order_gone h x e ho L va vc O wa wc
 | false => exact order_ok h x e ho L va vc hr hL O wa wc hro hO
end Go.Proofs.Ytlghdimpgfhmcaa
