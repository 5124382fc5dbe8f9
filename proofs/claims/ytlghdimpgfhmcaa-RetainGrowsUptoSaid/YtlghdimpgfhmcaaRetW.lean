/- the law of whatever is done to a record: what it comes to. Conditions: those that each theorem names. -/
import Derived.Test.YtlghdimpgfhmcaaRetH
namespace Go.Proofs.Ytlghdimpgfhmcaa
open Go Go.Lane Go.Sha
noncomputable def b22 : Code := Try.f22.body.getD .skip
theorem kind_sat (h : Heap) (n : Int) (h0 : -9223372036854775808 ≤ n) (h1 : n ≤ 9223372036854775807) : Sat Try.prog 22 #[.int .i64 n] h fun v h' => v = .int .i64 (kindZ n) ∧ h' = h := by
 refine sat_of (args := [.int .i64 n]) (fn := Try.f22) (B := b22) (n := 10) (L := [(0,.int .i64 n)]) Try.func22 rfl (by kernel_rfl) rfl ?_
 intro a hF
 refine cS ?_
 refine cP 0 hF ?_
 refine sP 1 [.int .i64 0] ?_
 refine sD [(0,.int .i64 n)] ?_
 clear hF a; intro a hF
 refine tK ?_
 refine cS ?_
 refine cS ?_
 refine cP 1 hF ?_
 refine sP 2 [.int .i64 n,.bool (decide (n < (0 : Int)))] ?_
 refine sD [(0,.int .i64 n),(4,.bool (decide (n < (0 : Int))))] ?_
 clear hF a; intro a hF
 refine tK ?_
 refine cC 4 (decide (n < (0 : Int))) hF (fun hc1 => ?_) (fun hc1 => ?_)
 ·skip
  replace hc1 := of_decide_eq_true hc1
  refine cP 2 hF ?_
  refine sP 1 [.int .i64 n] ?_
  refine s1 2 (.int .i64 (n + 1)) (.int .i64 (IntKind.i64.wrap (n + 1))) (congrArg (Value.int .i64) (w64 (by omega) (by omega))) ?_
  refine s1 3 (.int .i64 (-(n + 1))) (.int .i64 (IntKind.i64.wrap (0 - (n + 1)))) (congrArg (Value.int .i64) (w64' (by omega) (by omega) (by omega))) ?_
  refine sP 4 [.int .i64 (-(n + 1))] ?_
  refine sD [(0,.int .i64 (-(n + 1)))] ?_
  clear hF a; intro a hF
  refine tK ?_
  refine cS ?_
  refine cP 3 hF ?_
  refine sP 3 [.int .i64 (-(n + 1)),.int .i64 (Int.tmod (-(n + 1)) 3),.int .i64 (Int.tmod (-(n + 1)) 3)] ?_
  refine sD [(2,.int .i64 (Int.tmod (-(n + 1)) 3))] ?_
  clear hF a; intro a hF
  refine tK ?_
  refine cR ?_
  show retK Try.prog Try.f22 (fun v h' => v = .int .i64 (kindZ n) ∧ h' = h) .ret a h
  refine ret_ok [.tmp 2] [.int .i64 (Int.tmod (-(n + 1)) 3)] (.int .i64 (Int.tmod (-(n + 1)) 3)) rfl hF ⟨rfl,trivial⟩ rfl ?_
  exact ⟨congrArg (Value.int .i64) (by unfold kindZ; first | rw [if_pos (by assumption)] | rw [if_neg (by assumption)]),rfl⟩
 ·skip
  replace hc1 := of_decide_eq_false hc1
  refine cN ?_
  refine tK ?_
  refine cS ?_
  refine cP 3 hF ?_
  refine sP 3 [.int .i64 n,.int .i64 (Int.tmod n 3),.int .i64 (Int.tmod n 3)] ?_
  refine sD [(2,.int .i64 (Int.tmod n 3))] ?_
  clear hF a; intro a hF
  refine tK ?_
  refine cR ?_
  show retK Try.prog Try.f22 (fun v h' => v = .int .i64 (kindZ n) ∧ h' = h) .ret a h
  refine ret_ok [.tmp 2] [.int .i64 (Int.tmod n 3)] (.int .i64 (Int.tmod n 3)) rfl hF ⟨rfl,trivial⟩ rfl ?_
  exact ⟨congrArg (Value.int .i64) (by unfold kindZ; first | rw [if_pos (by assumption)] | rw [if_neg (by assumption)]),rfl⟩
theorem lock_lo (h : Heap) (x : RB) (e : Int) (ho : Bool) (L : List Pl) (va : Option Addr) (vc : Nat) (hr : Row h (.slice va L.length vc) L.length 4 (prow L)) (hL : L.length ≤ 1099511627776) (u : Int) (hu0 : 0 ≤ u) (hu : u ≤ 1099511627776) (hle : u ≤ e) : Sat Try.prog 12 #[.agg (rc x e ho false (.slice va L.length vc)).toArray,.int .i64 u] h fun v h' => ∃ c,v = .tuple #[.agg (rc x e ho false c).toArray,.int .i64 0] ∧ PNew h h' 49 c L := by
 have := lock_ok h x e ho L va vc hr hL u hu0 hu
 rwa [Int.max_eq_left hle] at this
theorem lock_hi (h : Heap) (x : RB) (e : Int) (ho : Bool) (L : List Pl) (va : Option Addr) (vc : Nat) (hr : Row h (.slice va L.length vc) L.length 4 (prow L)) (hL : L.length ≤ 1099511627776) (u : Int) (hu0 : 0 ≤ u) (hu : u ≤ 1099511627776) (hle : e < u) : Sat Try.prog 12 #[.agg (rc x e ho false (.slice va L.length vc)).toArray,.int .i64 u] h fun v h' => ∃ c,v = .tuple #[.agg (rc x u ho false c).toArray,.int .i64 0] ∧ PNew h h' 49 c L := by
 have := lock_ok h x e ho L va vc hr hL u hu0 hu
 rwa [Int.max_eq_right (Int.le_of_lt hle)] at this
noncomputable def b7 : Code := Try.f7.body.getD .skip
set_option maxHeartbeats 4000000 in
theorem grows_sat (h : Heap) (x : RB) (e : Int) (ho go : Bool) (L : List Pl) (va : Option Addr) (vc : Nat) (hr : Row h (.slice va L.length vc) L.length 4 (prow L)) (hL : L.length ≤ 1099511627776) (O : List Op2) (wa : Option Addr) (wc : Nat) (hro : Row h (.slice wa O.length wc) O.length 2 (orow O)) (hO : O.length ≤ 1099511627776) (hob : ∀ i,i < O.length → -9223372036854775808 ≤ (O.getD i op0).kd ∧ (O.getD i op0).kd ≤ 9223372036854775807) : Sat Try.prog 7 #[.agg (rc x e ho go (.slice va L.length vc)).toArray,.slice wa O.length wc] h fun v h' => v = .bool true ∧ Ext h h' := by
 have e0 := Ext.refl h
 have sep : Sep h.size h.size [] := Sep.nil _ _
 refine sat_of (args := [.agg (rc x e ho go (.slice va L.length vc)).toArray,.slice wa O.length wc]) (fn := Try.f7) (B := b7) (n := 237) (L := [(0,.agg (rc x e ho go (.slice va L.length vc)).toArray),(1,.slice wa O.length wc)]) Try.func7 rfl (by kernel_rfl) rfl ?_
 intro a hF
 refine cS ?_
 refine cP 0 hF ?_
 refine SeqK.eff (k' := 1) (Does.new (v := .pointer (some ⟨h.size,0,none⟩)) (o := .cells (rc x e ho go (.slice va L.length vc)).toArray 26) (by kernel_rfl)) rfl ?_
 rintro _ h1 ⟨rfl,hh⟩
 have g2 : Ext h h1 := push_ext hh
 have m3 : h1[h.size]? = some (.cells (rc x e ho go (.slice va L.length vc)).toArray 26) := push_at hh
 clear hh
 have lt4 := blk_lt m3
 have zs5 := e0.size
 have hlo := e0.size
 have sepo := sep
 replace e0 := e0.ext g2
 replace sep := sep.up g2.size
 replace sep := sepo.new hlo (blk_lt m3)
 clear sepo hlo
 refine sP 2 [.bool false] ?_
 refine sD [(1,.slice wa O.length wc),(2,pV h.size)] ?_
 clear hF a; intro a hF
 refine tK ?_
 refine cS ?_
 refine cP 1 hF ?_
 refine SeqK.eff (k' := 1) (Does.call (f := 10) (args := #[]) (by kernel_rfl) (shown_sat _)) rfl ?_
 rintro _ h6 ⟨rfl,g⟩
 replace e0 := e0.ext g
 replace m3 := Ext.blk g m3
 replace sep := sep.up g.size
 clear g
 refine sP 2 [.bool true] ?_
 refine sD [(1,.slice wa O.length wc),(2,pV h.size),(5,.bool true)] ?_
 clear hF a; intro a hF
 refine tK ?_
 refine cS ?_
 refine cS ?_
 refine cP 2 hF ?_
 refine sP 2 [.bool true,.bool false] ?_
 refine sD [(1,.slice wa O.length wc),(2,pV h.size),(5,.bool true),(13,.bool false)] ?_
 clear hF a; intro a hF
 refine tK ?_
 refine cF 13 hF ?_
 refine cN ?_
 refine tK ?_
 refine cS ?_
 refine cS ?_
 refine cP 4 hF ?_
 refine sP 1 [.int .i64 0] ?_
 refine sD [(1,.slice wa O.length wc),(2,pV h.size),(5,.bool true),(6,.int .i64 0)] ?_
 clear hF a; intro a hF
 refine tK ?_
 refine cB 0 ?_
 have fsep : Sep h.size h6.size [some h.size] := sep.pick [0] rfl (by decide)
 refine C.loop (fun m a h' => ∃ i : Nat,∃ ex : Int,∃ hx : Bool,∃ gx : Bool,∃ P : List Pl,∃ rd : Option Addr,∃ rcp : Nat,m = O.length - i ∧ (Ext h h') ∧ (i ≤ O.length) ∧ (h'[h.size]? = some (.cells (rc x ex hx gx (.slice rd P.length rcp)).toArray 26)) ∧ (Row h' (.slice rd P.length rcp) P.length 4 (prow P)) ∧ (P.length ≤ 1099511627776) ∧ (Sep h.size h'.size [some h.size]) ∧ (Fr a 237 [(1,.slice wa O.length wc),(2,.pointer (some ⟨h.size,0,none⟩)),(5,.bool true),(6,.int .i64 ((i : Nat) : Int))])) (O.length - 0) [1,1,1,0,1,0,0] (by kernel_rfl) ⟨0,e,ho,go,L,va,vc,rfl,e0,(by omega),m3,(hr.ext e0),hL,fsep,hF⟩ ?_
 clear hF a
 clear e0
 clear m3
 clear hL
 clear fsep
 rintro m a h7 ⟨i,ex,hx,gx,P,rd,rcp,rfl,e0,hi,m3,hrow,hP,sep,hF⟩
 refine cS ?_
 refine cS ?_
 refine cP 5 hF ?_
 refine sP 4 [nV i,.slice wa O.length wc,nV O.length,.bool (decide (((i : Nat) : Int) < ((O.length : Nat) : Int)))] ?_
 refine sD [(1,.slice wa O.length wc),(2,pV h.size),(5,.bool true),(6,nV i),(17,.bool (decide (((i : Nat) : Int) < ((O.length : Nat) : Int))))] ?_
 clear hF a; intro a hF
 refine tK ?_
 refine cC 17 (decide (((i : Nat) : Int) < ((O.length : Nat) : Int))) hF (fun hc8 => ?_) (fun hc8 => ?_)
 ·skip
  replace hc8 := of_decide_eq_true hc8
  have hia : i < O.length := by omega
  obtain ⟨ac,rfl,hcap_ac⟩ := hro.someA (by omega)
  obtain ⟨kd,u,hku⟩ : ∃ kd u,O.getD i op0 = ⟨kd,u⟩ := ⟨_,_,rfl⟩
  have hkb := hob i hia; rw [hku] at hkb; simp only at hkb
  have hop := hro.op hia hku
  have e1 := Ext.refl h7
  refine cN ?_
  refine tK ?_
  refine cS ?_
  refine cB 1 ?_
  refine cS ?_
  rcases grow_cases kd u ex hx gx with ⟨hk,hu,rfl⟩ | ⟨hk,hu,rfl⟩ | ⟨hk,hu,rfl⟩ | ⟨hk,hu,rfl⟩ | ⟨hk,hu,rfl⟩ | ⟨hk,rfl⟩ | ⟨hk,rfl⟩ | ⟨hk,rfl⟩ | ⟨hk,rfl,rfl⟩ | ⟨hk,hu,rfl,rfl⟩ | ⟨hk,hu,rfl,rfl⟩
  ·skip
   have hk0 : kindZ kd = 0 := by omega
   refine cP 7 hF ?_
   refine sC 1 (.agg (rc x ex hx true (.slice rd P.length rcp)).toArray) (Calm.load (T := 26) (p := ⟨h.size,0,none⟩) (by kernel_rfl) (Loads.blk (vs := rc x ex hx true (.slice rd P.length rcp)) (by kernel_rfl) m3 rfl)) ?_
   refine SeqK.eff (k' := 2) (Does.call (f := 11) (args := #[.agg (rc x ex hx true (.slice rd P.length rcp)).toArray]) (by kernel_rfl) (copied_sat _ x ex hx true P rd rcp (hrow.ext e1) hP)) rfl ?_
   rintro _ h11 ⟨_,rfl,ad9,cap10,rfl,ownx,hge,g⟩
   have hlo := e0.size
   have sepo := sep
   replace e0 := e0.ext g
   replace e1 := e1.ext g
   replace m3 := Ext.blk g m3
   replace sep := sep.up g.size
   replace sep := sepo.cons (x := ad9.map (fun (x : Addr) => x.block)) g.size hlo (fun k e => ⟨hge k e,ownx.lt (by rw [blkOf_slice]; exact e)⟩)
   have own_w : Own h11 (.slice ad9 P.length cap10) 49 P.length 4 (prow P) := ownx; clear ownx sepo hlo hge g
   refine SeqK.eff (k' := 3) (Does.new (v := .pointer (some ⟨h11.size,0,none⟩)) (o := .cells (rc rb0 (0 : Int) false false (.slice none 0 0)).toArray 26) (by kernel_rfl)) rfl ?_
   rintro _ h12 ⟨rfl,hh⟩
   have g13 : Ext h11 h12 := push_ext hh
   have m14 : h12[h11.size]? = some (.cells (rc rb0 (0 : Int) false false (.slice none 0 0)).toArray 26) := push_at hh
   clear hh
   have lt15 := blk_lt m14
   have zs16 := e0.size
   have zs17 := e1.size
   have hlo := e0.size
   have sepo := sep
   replace e0 := e0.ext g13
   replace e1 := e1.ext g13
   replace own_w := own_w.ext g13
   replace m3 := Ext.blk g13 m3
   replace sep := sep.up g13.size
   replace sep := sepo.new hlo (blk_lt m14)
   clear sepo hlo
   refine SeqK.eff (k' := 4) (Does.store (b := h11.size) (off := 0) (vs := rc x ex hx true (.slice ad9 P.length cap10)) (l := rc rb0 (0 : Int) false false (.slice none 0 0)) (by kernel_rfl) m14 (of_decide_eq_true (by kernel_rfl)) (List.all_eq_true.1 (by kernel_rfl))) rfl ?_
   rintro _ h18 ⟨rfl,hh⟩
   have g19 : Grew (some (h11.size)) h12 h18 := hput_gr hh
   replace m14 : h18[h11.size]? = some (.cells (rc x ex hx true (.slice ad9 P.length cap10)).toArray 26) := hput_at (off := 0) (vs := rc x ex hx true (.slice ad9 P.length cap10)) (l := (rc rb0 (0 : Int) false false (.slice none 0 0))) hh (by kernel_rfl) m14
   clear hh
   replace e0 := e0.grew g19 (sep.low 0 rfl)
   replace e1 := e1.grew g19 (by rintro _ ⟨⟩; omega)
   replace own_w := own_w.kept g19 (by rw [blkOf_slice]; exact (sep.ap 1 0))
   replace m3 := Grew.blk g19 m3 ((sep.bp 2 0))
   replace sep := sep.up g19.size
   refine sD [(1,.slice (some ac) O.length wc),(2,pV h.size),(5,.bool true),(6,nV i),(7,pV h11.size)] ?_
   clear hF a; intro a hF
   refine tK ?_
   refine cS ?_
   refine cP 8 hF ?_
   refine sP 1 [.int .i64 0] ?_
   refine sD [(1,.slice (some ac) O.length wc),(2,pV h.size),(5,.bool true),(6,nV i),(7,pV h11.size)] ?_
   clear hF a; intro a hF
   refine tK ?_
   refine cS ?_
   refine cP 9 hF ?_
   refine sP 1 [.agg (rc rb0 (0 : Int) false false (.slice none 0 0)).toArray] ?_
   refine SeqK.eff (k' := 2) (Does.new (v := .pointer (some ⟨h18.size,0,none⟩)) (o := .cells (rc rb0 (0 : Int) false false (.slice none 0 0)).toArray 26) (by kernel_rfl)) rfl ?_
   rintro _ h20 ⟨rfl,hh⟩
   have g21 : Ext h18 h20 := push_ext hh
   have m22 : h20[h18.size]? = some (.cells (rc rb0 (0 : Int) false false (.slice none 0 0)).toArray 26) := push_at hh
   clear hh
   have lt23 := blk_lt m22
   have zs24 := e0.size
   have zs25 := e1.size
   have hlo := e0.size
   have sepo := sep
   replace e0 := e0.ext g21
   replace e1 := e1.ext g21
   replace own_w := own_w.ext g21
   replace m3 := Ext.blk g21 m3
   replace m14 := Ext.blk g21 m14
   replace sep := sep.up g21.size
   replace sep := sepo.new hlo (blk_lt m22)
   clear sepo hlo
   refine SeqK.eff (k' := 3) (Does.store (b := h18.size) (off := 0) (vs := rc rb0 (0 : Int) false false (.slice none 0 0)) (l := rc rb0 (0 : Int) false false (.slice none 0 0)) (by kernel_rfl) m22 (of_decide_eq_true (by kernel_rfl)) (List.all_eq_true.1 (by kernel_rfl))) rfl ?_
   rintro _ h26 ⟨rfl,hh⟩
   have g27 : Grew (some (h18.size)) h20 h26 := hput_gr hh
   replace m22 : h26[h18.size]? = some (.cells (rc rb0 (0 : Int) false false (.slice none 0 0)).toArray 26) := hput_at (off := 0) (vs := rc rb0 (0 : Int) false false (.slice none 0 0)) (l := (rc rb0 (0 : Int) false false (.slice none 0 0))) hh (by kernel_rfl) m22
   clear hh
   replace e0 := e0.grew g27 (sep.low 0 rfl)
   replace e1 := e1.grew g27 (by rintro _ ⟨⟩; omega)
   replace own_w := own_w.kept g27 (by rw [blkOf_slice]; exact (sep.ap 2 0))
   replace m3 := Grew.blk g27 m3 ((sep.bp 3 0))
   replace m14 := Grew.blk g27 m14 ((sep.bp 1 0))
   replace sep := sep.up g27.size
   refine sD [(1,.slice (some ac) O.length wc),(2,pV h.size),(5,.bool true),(6,nV i),(7,pV h11.size),(9,pV h18.size)] ?_
   clear hF a; intro a hF
   refine tK ?_
   refine cS ?_
   refine cS ?_
   refine cP 10 hF ?_
   refine sP 2 [.slice (some ac) O.length wc,nV i] ?_
   refine sC 3 (.pointer (some (Addr.add ac (i * 2)))) ((Calm.indexA (a := ac) (len := O.length) (sz := 2) (k := ((i : Nat) : Int)) i (i * 2) (by kernel_rfl) rfl (by omega) (by omega)) _) ?_
   refine sP 4 [.pointer (some (Addr.add ac (i * 2)))] ?_
   refine sC 5 (.int .i64 kd) (Calm.load (T := 3) (p := (Addr.add ac (i * 2))) (by kernel_rfl) (Loads.one (k := 1) (by kernel_rfl) (e0.cell hop.1))) ?_
   refine sC 6 (.int .i64 (kindZ kd)) (Does.call (f := 22) (args := #[.int .i64 kd]) (by kernel_rfl) (kind_sat _ kd hkb.1 hkb.2)) ?_
   refine sD [(1,.slice (some ac) O.length wc),(2,pV h.size),(5,.bool true),(6,nV i),(7,pV h11.size),(9,pV h18.size),(28,.int .i64 (kindZ kd))] ?_
   clear hF a; intro a hF
   refine tK ?_
   refine cB 2 ?_
   refine cS ?_
   refine cP 15 hF ?_
   refine s1 1 (.bool true) (.bool ((kindZ kd) == (0 : Int))) (congrArg Value.bool (beq_iff_eq.2 (by omega))) ?_
   refine sP 2 [.bool true] ?_
   refine sD [(1,.slice (some ac) O.length wc),(2,pV h.size),(5,.bool true),(6,nV i),(7,pV h11.size),(9,pV h18.size),(28,.int .i64 (kindZ kd)),(83,.bool true)] ?_
   clear hF a; intro a hF
   refine tK ?_
   refine cT 83 hF ?_
   refine cS ?_
   refine cD [0,0,0,6,14,30,63,127,255,255,511,2047] 16 mixed hF ?_
   refine mL 1 1 0 (.agg (rc x ex hx true (.slice rd P.length rcp)).toArray) (Calm.load (T := 26) (p := ⟨h.size,0,none⟩) (by kernel_rfl) (Loads.blk (vs := rc x ex hx true (.slice rd P.length rcp)) (by kernel_rfl) m3 rfl)) ?_
   refine mP 7 [1,2] [.slice (some ac) O.length wc,nV i] ?_
   refine mF 15 3 (.pointer (some (Addr.add ac (i * 2)))) (Calm.indexA (a := ac) (len := O.length) (sz := 2) (k := ((i : Nat) : Int)) i (i * 2) (by kernel_rfl) rfl (by omega) (by omega)) ?_
   refine m1 31 4 (.pointer (some (Addr.add ac (i * 2 + 1)))) (.pointer (some ((Addr.add ac (i * 2)).add 1))) (by rw [add_add]) ?_
   refine mL 63 33 5 (.int .i64 u) (Calm.load (T := 3) (p := (Addr.add ac (i * 2 + 1))) (by kernel_rfl) (Loads.one (k := 1) (by kernel_rfl) (e0.cell hop.2))) ?_
   refine SimK.eff0 (i := 6) (D' := 127) (X' := 127) (by kernel_rfl) (by kernel_rfl) (by kernel_rfl) (by kernel_rfl) (Does.call (f := 12) (args := #[.agg (rc x ex hx true (.slice rd P.length rcp)).toArray,.int .i64 u]) (by kernel_rfl) (lock_arg _ x ex hx true P rd rcp u hu)) ?_
   rintro _ h28 ⟨rfl,g⟩
   replace e0 := e0.ext g
   replace e1 := e1.ext g
   replace own_w := own_w.ext g
   replace m3 := Ext.blk g m3
   replace m14 := Ext.blk g m14
   replace m22 := Ext.blk g m22
   replace sep := sep.up g.size
   clear g
   refine mP 1023 [7,8,9] [.tuple #[.agg (rc rb0 (0 : Int) false false (.slice none 0 0)).toArray,.int .i64 1],.agg (rc rb0 (0 : Int) false false (.slice none 0 0)).toArray,.int .i64 1] ?_
   refine SimK.eff0 (i := 10) (D' := 2047) (X' := 1535) (by kernel_rfl) (by kernel_rfl) (by kernel_rfl) (by kernel_rfl) (Does.store (b := h18.size) (off := 0) (vs := rc rb0 (0 : Int) false false (.slice none 0 0)) (l := rc rb0 (0 : Int) false false (.slice none 0 0)) (by kernel_rfl) m22 (of_decide_eq_true (by kernel_rfl)) (List.all_eq_true.1 (by kernel_rfl))) ?_
   rintro _ h29 ⟨rfl,hh⟩
   have g30 : Grew (some (h18.size)) h28 h29 := hput_gr hh
   replace m22 : h29[h18.size]? = some (.cells (rc rb0 (0 : Int) false false (.slice none 0 0)).toArray 26) := hput_at (off := 0) (vs := rc rb0 (0 : Int) false false (.slice none 0 0)) (l := (rc rb0 (0 : Int) false false (.slice none 0 0))) hh (by kernel_rfl) m22
   clear hh
   replace e0 := e0.grew g30 (sep.low 0 rfl)
   replace e1 := e1.grew g30 (by rintro _ ⟨⟩; omega)
   replace own_w := own_w.kept g30 (by rw [blkOf_slice]; exact (sep.ap 2 0))
   replace m3 := Grew.blk g30 m3 ((sep.bp 3 0))
   replace m14 := Grew.blk g30 m14 ((sep.bp 1 0))
   replace sep := sep.up g30.size
   refine mP 4095 [11] [.int .i64 1] ?_
   refine mD [(1,.slice (some ac) O.length wc),(2,pV h.size),(5,.bool true),(6,nV i),(7,pV h11.size),(8,.int .i64 1),(9,pV h18.size)] ?_
   clear hF a; intro a hF
   refine tK ?_
   refine cS ?_
   refine cD [0,1,3,7,15,7,39,127,255,511,1023,511,511,6655,14847,31231,65535,131071,262143,524287,1048575,524287,2621439,8388607,16777215,33554431,67108863,33554431,33554431,436207615,973078527,2046820351,4294967295,8589934591,17179869183,34359738367,68719476735,137438953471,68719476735,343597383679,1099511627775,2199023255551,4398046511103,8796093022207,17592186044415,35184372088831,70368744177663] 17 mixed hF ?_
   refine mP 140737488355327 [0,1,2,3,4,5,6,7,8,9,10,11,12,13,14,15,16,17,18,19,20,21,22,23,24,25,26,27,28,29,30,31,32,33,34,35,36,37,38,39,40,41,42,43,44,45,46] [.int .i64 1,.bool false,.bool false,undef,undef,undef,undef,undef,undef,undef,undef,undef,undef,undef,undef,undef,undef,undef,undef,undef,undef,undef,undef,undef,undef,undef,undef,undef,undef,undef,undef,undef,undef,undef,undef,undef,undef,undef,undef,undef,undef,undef,undef,undef,undef,undef,.bool false] ?_
   refine mD [(1,.slice (some ac) O.length wc),(2,pV h.size),(5,.bool true),(6,nV i),(7,pV h11.size),(8,.int .i64 1),(9,pV h18.size),(141,.bool false)] ?_
   clear hF a; intro a hF
   refine tK ?_
   refine cF 141 hF ?_
   refine cN ?_
   show C Try.prog (sub b7 [1,1,1,0,1,0,0,1,0,0,1,1,1,1]) _ a h29
   refine cS ?_
   refine cP 23 hF ?_
   refine sP 2 [.int .i64 1,.bool false] ?_
   refine sD [(1,.slice (some ac) O.length wc),(2,pV h.size),(5,.bool true),(6,nV i),(7,pV h11.size),(8,.int .i64 1),(9,pV h18.size),(182,.bool false)] ?_
   clear hF a; intro a hF
   refine tK ?_
   refine cF 182 hF ?_
   refine cS ?_
   refine cP 27 hF ?_
   refine sC 1 (.agg (rc x ex hx true (.slice rd P.length rcp)).toArray) (Calm.load (T := 26) (p := ⟨h.size,0,none⟩) (by kernel_rfl) (Loads.blk (vs := rc x ex hx true (.slice rd P.length rcp)) (by kernel_rfl) m3 rfl)) ?_
   refine sC 2 (.agg (rc x ex hx true (.slice ad9 P.length cap10)).toArray) (Calm.load (T := 26) (p := ⟨h11.size,0,none⟩) (by kernel_rfl) (Loads.blk (vs := rc x ex hx true (.slice ad9 P.length cap10)) (by kernel_rfl) m14 rfl)) ?_
   refine SeqK.eff (k' := 3) (Does.call (f := 14) (args := #[.agg (rc x ex hx true (.slice rd P.length rcp)).toArray,.agg (rc x ex hx true (.slice ad9 P.length cap10)).toArray]) (by kernel_rfl) (same_sat _ x ex hx true P rd rcp (hrow.ext e1) hP ad9 cap10 own_w.row)) rfl ?_
   rintro _ h31 ⟨rfl,g⟩
   replace e0 := e0.ext g
   replace e1 := e1.ext g
   replace own_w := own_w.ext g
   replace m3 := Ext.blk g m3
   replace m14 := Ext.blk g m14
   replace m22 := Ext.blk g m22
   replace sep := sep.up g.size
   clear g
   refine sP 5 [.bool false,.bool false] ?_
   refine sC 6 (.agg (rc rb0 (0 : Int) false false (.slice none 0 0)).toArray) (Calm.load (T := 26) (p := ⟨h18.size,0,none⟩) (by kernel_rfl) (Loads.blk (vs := rc rb0 (0 : Int) false false (.slice none 0 0)) (by kernel_rfl) m22 rfl)) ?_
   refine sP 7 [.agg (rc rb0 (0 : Int) false false (.slice none 0 0)).toArray] ?_
   refine SeqK.eff (k' := 8) (Does.call (f := 14) (args := #[.agg (rc rb0 (0 : Int) false false (.slice none 0 0)).toArray,.agg (rc rb0 (0 : Int) false false (.slice none 0 0)).toArray]) (by kernel_rfl) (same_sat _ rb0 0 false false [] none 0 (Row.nil _ 4) (by decide) none 0 (Row.nil _ 4))) rfl ?_
   rintro _ h32 ⟨rfl,g⟩
   replace e0 := e0.ext g
   replace e1 := e1.ext g
   replace own_w := own_w.ext g
   replace m3 := Ext.blk g m3
   replace m14 := Ext.blk g m14
   replace m22 := Ext.blk g m22
   replace sep := sep.up g.size
   clear g
   refine sP 12 [.bool false,.bool false,.bool false,.pointer (some ⟨h11.size,37,none⟩)] ?_
   refine sC 13 (.bool true) (Calm.load (T := 4) (p := ⟨h11.size,37,none⟩) (by kernel_rfl) (Loads.one (k := 1) (by kernel_rfl) ((hcell_blk m14).trans (rfl)))) ?_
   refine sP 22 [.bool true,.int .i64 1,.bool true,.bool true,.bool true,.int .i64 1,.bool false,.bool false,.bool false] ?_
   refine sD [(1,.slice (some ac) O.length wc),(2,pV h.size),(5,.bool true),(6,nV i),(235,.bool false)] ?_
   clear hF a; intro a hF
   refine tK ?_
   refine cF 235 hF ?_
   refine cN ?_
   show C Try.prog (sub b7 [1,1,1,0,1,0,0,1,1]) _ a h32
   refine cP 6 hF ?_
   refine sP 1 [nV i] ?_
   refine s1 2 (.int .i64 ((i + 1 : Nat) : Int)) (.int .i64 (IntKind.i64.wrap (((i : Nat) : Int) + 1))) (congrArg (Value.int .i64) (w64' (by omega) (by omega) (by omega))) ?_
   refine sP 3 [nV (i + 1)] ?_
   refine sD [(1,.slice (some ac) O.length wc),(2,pV h.size),(5,.bool true),(6,nV (i + 1))] ?_
   clear hF a; intro a hF
   have fsep : Sep h.size h32.size [some h.size] := sep.pick [3] rfl (by decide)
   have fr := hrow.ext e1; have fP := hP
   show ∃ m',m' < _ ∧ _
   refine ⟨_,?_,(i + 1),ex,hx,true,P,rd,rcp,rfl,e0,(by omega),m3,fr,fP,fsep,hF⟩
   omega
  ·skip
   have hk0 : kindZ kd = 0 := by omega
   refine cP 7 hF ?_
   refine sC 1 (.agg (rc x ex hx false (.slice rd P.length rcp)).toArray) (Calm.load (T := 26) (p := ⟨h.size,0,none⟩) (by kernel_rfl) (Loads.blk (vs := rc x ex hx false (.slice rd P.length rcp)) (by kernel_rfl) m3 rfl)) ?_
   refine SeqK.eff (k' := 2) (Does.call (f := 11) (args := #[.agg (rc x ex hx false (.slice rd P.length rcp)).toArray]) (by kernel_rfl) (copied_sat _ x ex hx false P rd rcp (hrow.ext e1) hP)) rfl ?_
   rintro _ h35 ⟨_,rfl,ad33,cap34,rfl,ownx,hge,g⟩
   have hlo := e0.size
   have sepo := sep
   replace e0 := e0.ext g
   replace e1 := e1.ext g
   replace m3 := Ext.blk g m3
   replace sep := sep.up g.size
   replace sep := sepo.cons (x := ad33.map (fun (x : Addr) => x.block)) g.size hlo (fun k e => ⟨hge k e,ownx.lt (by rw [blkOf_slice]; exact e)⟩)
   have own_w : Own h35 (.slice ad33 P.length cap34) 49 P.length 4 (prow P) := ownx; clear ownx sepo hlo hge g
   refine SeqK.eff (k' := 3) (Does.new (v := .pointer (some ⟨h35.size,0,none⟩)) (o := .cells (rc rb0 (0 : Int) false false (.slice none 0 0)).toArray 26) (by kernel_rfl)) rfl ?_
   rintro _ h36 ⟨rfl,hh⟩
   have g37 : Ext h35 h36 := push_ext hh
   have m38 : h36[h35.size]? = some (.cells (rc rb0 (0 : Int) false false (.slice none 0 0)).toArray 26) := push_at hh
   clear hh
   have lt39 := blk_lt m38
   have zs40 := e0.size
   have zs41 := e1.size
   have hlo := e0.size
   have sepo := sep
   replace e0 := e0.ext g37
   replace e1 := e1.ext g37
   replace own_w := own_w.ext g37
   replace m3 := Ext.blk g37 m3
   replace sep := sep.up g37.size
   replace sep := sepo.new hlo (blk_lt m38)
   clear sepo hlo
   refine SeqK.eff (k' := 4) (Does.store (b := h35.size) (off := 0) (vs := rc x ex hx false (.slice ad33 P.length cap34)) (l := rc rb0 (0 : Int) false false (.slice none 0 0)) (by kernel_rfl) m38 (of_decide_eq_true (by kernel_rfl)) (List.all_eq_true.1 (by kernel_rfl))) rfl ?_
   rintro _ h42 ⟨rfl,hh⟩
   have g43 : Grew (some (h35.size)) h36 h42 := hput_gr hh
   replace m38 : h42[h35.size]? = some (.cells (rc x ex hx false (.slice ad33 P.length cap34)).toArray 26) := hput_at (off := 0) (vs := rc x ex hx false (.slice ad33 P.length cap34)) (l := (rc rb0 (0 : Int) false false (.slice none 0 0))) hh (by kernel_rfl) m38
   clear hh
   replace e0 := e0.grew g43 (sep.low 0 rfl)
   replace e1 := e1.grew g43 (by rintro _ ⟨⟩; omega)
   replace own_w := own_w.kept g43 (by rw [blkOf_slice]; exact (sep.ap 1 0))
   replace m3 := Grew.blk g43 m3 ((sep.bp 2 0))
   replace sep := sep.up g43.size
   refine sD [(1,.slice (some ac) O.length wc),(2,pV h.size),(5,.bool true),(6,nV i),(7,pV h35.size)] ?_
   clear hF a; intro a hF
   refine tK ?_
   refine cS ?_
   refine cP 8 hF ?_
   refine sP 1 [.int .i64 0] ?_
   refine sD [(1,.slice (some ac) O.length wc),(2,pV h.size),(5,.bool true),(6,nV i),(7,pV h35.size)] ?_
   clear hF a; intro a hF
   refine tK ?_
   refine cS ?_
   refine cP 9 hF ?_
   refine sP 1 [.agg (rc rb0 (0 : Int) false false (.slice none 0 0)).toArray] ?_
   refine SeqK.eff (k' := 2) (Does.new (v := .pointer (some ⟨h42.size,0,none⟩)) (o := .cells (rc rb0 (0 : Int) false false (.slice none 0 0)).toArray 26) (by kernel_rfl)) rfl ?_
   rintro _ h44 ⟨rfl,hh⟩
   have g45 : Ext h42 h44 := push_ext hh
   have m46 : h44[h42.size]? = some (.cells (rc rb0 (0 : Int) false false (.slice none 0 0)).toArray 26) := push_at hh
   clear hh
   have lt47 := blk_lt m46
   have zs48 := e0.size
   have zs49 := e1.size
   have hlo := e0.size
   have sepo := sep
   replace e0 := e0.ext g45
   replace e1 := e1.ext g45
   replace own_w := own_w.ext g45
   replace m3 := Ext.blk g45 m3
   replace m38 := Ext.blk g45 m38
   replace sep := sep.up g45.size
   replace sep := sepo.new hlo (blk_lt m46)
   clear sepo hlo
   refine SeqK.eff (k' := 3) (Does.store (b := h42.size) (off := 0) (vs := rc rb0 (0 : Int) false false (.slice none 0 0)) (l := rc rb0 (0 : Int) false false (.slice none 0 0)) (by kernel_rfl) m46 (of_decide_eq_true (by kernel_rfl)) (List.all_eq_true.1 (by kernel_rfl))) rfl ?_
   rintro _ h50 ⟨rfl,hh⟩
   have g51 : Grew (some (h42.size)) h44 h50 := hput_gr hh
   replace m46 : h50[h42.size]? = some (.cells (rc rb0 (0 : Int) false false (.slice none 0 0)).toArray 26) := hput_at (off := 0) (vs := rc rb0 (0 : Int) false false (.slice none 0 0)) (l := (rc rb0 (0 : Int) false false (.slice none 0 0))) hh (by kernel_rfl) m46
   clear hh
   replace e0 := e0.grew g51 (sep.low 0 rfl)
   replace e1 := e1.grew g51 (by rintro _ ⟨⟩; omega)
   replace own_w := own_w.kept g51 (by rw [blkOf_slice]; exact (sep.ap 2 0))
   replace m3 := Grew.blk g51 m3 ((sep.bp 3 0))
   replace m38 := Grew.blk g51 m38 ((sep.bp 1 0))
   replace sep := sep.up g51.size
   refine sD [(1,.slice (some ac) O.length wc),(2,pV h.size),(5,.bool true),(6,nV i),(7,pV h35.size),(9,pV h42.size)] ?_
   clear hF a; intro a hF
   refine tK ?_
   refine cS ?_
   refine cS ?_
   refine cP 10 hF ?_
   refine sP 2 [.slice (some ac) O.length wc,nV i] ?_
   refine sC 3 (.pointer (some (Addr.add ac (i * 2)))) ((Calm.indexA (a := ac) (len := O.length) (sz := 2) (k := ((i : Nat) : Int)) i (i * 2) (by kernel_rfl) rfl (by omega) (by omega)) _) ?_
   refine sP 4 [.pointer (some (Addr.add ac (i * 2)))] ?_
   refine sC 5 (.int .i64 kd) (Calm.load (T := 3) (p := (Addr.add ac (i * 2))) (by kernel_rfl) (Loads.one (k := 1) (by kernel_rfl) (e0.cell hop.1))) ?_
   refine sC 6 (.int .i64 (kindZ kd)) (Does.call (f := 22) (args := #[.int .i64 kd]) (by kernel_rfl) (kind_sat _ kd hkb.1 hkb.2)) ?_
   refine sD [(1,.slice (some ac) O.length wc),(2,pV h.size),(5,.bool true),(6,nV i),(7,pV h35.size),(9,pV h42.size),(28,.int .i64 (kindZ kd))] ?_
   clear hF a; intro a hF
   refine tK ?_
   refine cB 2 ?_
   refine cS ?_
   refine cP 15 hF ?_
   refine s1 1 (.bool true) (.bool ((kindZ kd) == (0 : Int))) (congrArg Value.bool (beq_iff_eq.2 (by omega))) ?_
   refine sP 2 [.bool true] ?_
   refine sD [(1,.slice (some ac) O.length wc),(2,pV h.size),(5,.bool true),(6,nV i),(7,pV h35.size),(9,pV h42.size),(28,.int .i64 (kindZ kd)),(83,.bool true)] ?_
   clear hF a; intro a hF
   refine tK ?_
   refine cT 83 hF ?_
   refine cS ?_
   refine cD [0,0,0,6,14,30,63,127,255,255,511,2047] 16 mixed hF ?_
   refine mL 1 1 0 (.agg (rc x ex hx false (.slice rd P.length rcp)).toArray) (Calm.load (T := 26) (p := ⟨h.size,0,none⟩) (by kernel_rfl) (Loads.blk (vs := rc x ex hx false (.slice rd P.length rcp)) (by kernel_rfl) m3 rfl)) ?_
   refine mP 7 [1,2] [.slice (some ac) O.length wc,nV i] ?_
   refine mF 15 3 (.pointer (some (Addr.add ac (i * 2)))) (Calm.indexA (a := ac) (len := O.length) (sz := 2) (k := ((i : Nat) : Int)) i (i * 2) (by kernel_rfl) rfl (by omega) (by omega)) ?_
   refine m1 31 4 (.pointer (some (Addr.add ac (i * 2 + 1)))) (.pointer (some ((Addr.add ac (i * 2)).add 1))) (by rw [add_add]) ?_
   refine mL 63 33 5 (.int .i64 u) (Calm.load (T := 3) (p := (Addr.add ac (i * 2 + 1))) (by kernel_rfl) (Loads.one (k := 1) (by kernel_rfl) (e0.cell hop.2))) ?_
   refine SimK.eff0 (i := 6) (D' := 127) (X' := 127) (by kernel_rfl) (by kernel_rfl) (by kernel_rfl) (by kernel_rfl) (Does.call (f := 12) (args := #[.agg (rc x ex hx false (.slice rd P.length rcp)).toArray,.int .i64 u]) (by kernel_rfl) (lock_arg _ x ex hx false P rd rcp u hu)) ?_
   rintro _ h52 ⟨rfl,g⟩
   replace e0 := e0.ext g
   replace e1 := e1.ext g
   replace own_w := own_w.ext g
   replace m3 := Ext.blk g m3
   replace m38 := Ext.blk g m38
   replace m46 := Ext.blk g m46
   replace sep := sep.up g.size
   clear g
   refine mP 1023 [7,8,9] [.tuple #[.agg (rc rb0 (0 : Int) false false (.slice none 0 0)).toArray,.int .i64 1],.agg (rc rb0 (0 : Int) false false (.slice none 0 0)).toArray,.int .i64 1] ?_
   refine SimK.eff0 (i := 10) (D' := 2047) (X' := 1535) (by kernel_rfl) (by kernel_rfl) (by kernel_rfl) (by kernel_rfl) (Does.store (b := h42.size) (off := 0) (vs := rc rb0 (0 : Int) false false (.slice none 0 0)) (l := rc rb0 (0 : Int) false false (.slice none 0 0)) (by kernel_rfl) m46 (of_decide_eq_true (by kernel_rfl)) (List.all_eq_true.1 (by kernel_rfl))) ?_
   rintro _ h53 ⟨rfl,hh⟩
   have g54 : Grew (some (h42.size)) h52 h53 := hput_gr hh
   replace m46 : h53[h42.size]? = some (.cells (rc rb0 (0 : Int) false false (.slice none 0 0)).toArray 26) := hput_at (off := 0) (vs := rc rb0 (0 : Int) false false (.slice none 0 0)) (l := (rc rb0 (0 : Int) false false (.slice none 0 0))) hh (by kernel_rfl) m46
   clear hh
   replace e0 := e0.grew g54 (sep.low 0 rfl)
   replace e1 := e1.grew g54 (by rintro _ ⟨⟩; omega)
   replace own_w := own_w.kept g54 (by rw [blkOf_slice]; exact (sep.ap 2 0))
   replace m3 := Grew.blk g54 m3 ((sep.bp 3 0))
   replace m38 := Grew.blk g54 m38 ((sep.bp 1 0))
   replace sep := sep.up g54.size
   refine mP 4095 [11] [.int .i64 1] ?_
   refine mD [(1,.slice (some ac) O.length wc),(2,pV h.size),(5,.bool true),(6,nV i),(7,pV h35.size),(8,.int .i64 1),(9,pV h42.size)] ?_
   clear hF a; intro a hF
   refine tK ?_
   refine cS ?_
   refine cD [0,1,3,7,15,7,39,127,255,511,1023,511,511,6655,14847,31231,65535,131071,262143,524287,1048575,524287,2621439,8388607,16777215,33554431,67108863,33554431,33554431,436207615,973078527,2046820351,4294967295,8589934591,17179869183,34359738367,68719476735,137438953471,68719476735,343597383679,1099511627775,2199023255551,4398046511103,8796093022207,17592186044415,35184372088831,70368744177663] 17 mixed hF ?_
   refine mP 140737488355327 [0,1,2,3,4,5,6,7,8,9,10,11,12,13,14,15,16,17,18,19,20,21,22,23,24,25,26,27,28,29,30,31,32,33,34,35,36,37,38,39,40,41,42,43,44,45,46] [.int .i64 1,.bool false,.bool false,undef,undef,undef,undef,undef,undef,undef,undef,undef,undef,undef,undef,undef,undef,undef,undef,undef,undef,undef,undef,undef,undef,undef,undef,undef,undef,undef,undef,undef,undef,undef,undef,undef,undef,undef,undef,undef,undef,undef,undef,undef,undef,undef,.bool false] ?_
   refine mD [(1,.slice (some ac) O.length wc),(2,pV h.size),(5,.bool true),(6,nV i),(7,pV h35.size),(8,.int .i64 1),(9,pV h42.size),(141,.bool false)] ?_
   clear hF a; intro a hF
   refine tK ?_
   refine cF 141 hF ?_
   refine cN ?_
   show C Try.prog (sub b7 [1,1,1,0,1,0,0,1,0,0,1,1,1,1]) _ a h53
   refine cS ?_
   refine cP 23 hF ?_
   refine sP 2 [.int .i64 1,.bool false] ?_
   refine sD [(1,.slice (some ac) O.length wc),(2,pV h.size),(5,.bool true),(6,nV i),(7,pV h35.size),(8,.int .i64 1),(9,pV h42.size),(182,.bool false)] ?_
   clear hF a; intro a hF
   refine tK ?_
   refine cF 182 hF ?_
   refine cS ?_
   refine cP 27 hF ?_
   refine sC 1 (.agg (rc x ex hx false (.slice rd P.length rcp)).toArray) (Calm.load (T := 26) (p := ⟨h.size,0,none⟩) (by kernel_rfl) (Loads.blk (vs := rc x ex hx false (.slice rd P.length rcp)) (by kernel_rfl) m3 rfl)) ?_
   refine sC 2 (.agg (rc x ex hx false (.slice ad33 P.length cap34)).toArray) (Calm.load (T := 26) (p := ⟨h35.size,0,none⟩) (by kernel_rfl) (Loads.blk (vs := rc x ex hx false (.slice ad33 P.length cap34)) (by kernel_rfl) m38 rfl)) ?_
   refine SeqK.eff (k' := 3) (Does.call (f := 14) (args := #[.agg (rc x ex hx false (.slice rd P.length rcp)).toArray,.agg (rc x ex hx false (.slice ad33 P.length cap34)).toArray]) (by kernel_rfl) (same_sat _ x ex hx false P rd rcp (hrow.ext e1) hP ad33 cap34 own_w.row)) rfl ?_
   rintro _ h55 ⟨rfl,g⟩
   replace e0 := e0.ext g
   replace e1 := e1.ext g
   replace own_w := own_w.ext g
   replace m3 := Ext.blk g m3
   replace m38 := Ext.blk g m38
   replace m46 := Ext.blk g m46
   replace sep := sep.up g.size
   clear g
   refine sP 5 [.bool false,.bool false] ?_
   refine sC 6 (.agg (rc rb0 (0 : Int) false false (.slice none 0 0)).toArray) (Calm.load (T := 26) (p := ⟨h42.size,0,none⟩) (by kernel_rfl) (Loads.blk (vs := rc rb0 (0 : Int) false false (.slice none 0 0)) (by kernel_rfl) m46 rfl)) ?_
   refine sP 7 [.agg (rc rb0 (0 : Int) false false (.slice none 0 0)).toArray] ?_
   refine SeqK.eff (k' := 8) (Does.call (f := 14) (args := #[.agg (rc rb0 (0 : Int) false false (.slice none 0 0)).toArray,.agg (rc rb0 (0 : Int) false false (.slice none 0 0)).toArray]) (by kernel_rfl) (same_sat _ rb0 0 false false [] none 0 (Row.nil _ 4) (by decide) none 0 (Row.nil _ 4))) rfl ?_
   rintro _ h56 ⟨rfl,g⟩
   replace e0 := e0.ext g
   replace e1 := e1.ext g
   replace own_w := own_w.ext g
   replace m3 := Ext.blk g m3
   replace m38 := Ext.blk g m38
   replace m46 := Ext.blk g m46
   replace sep := sep.up g.size
   clear g
   refine sP 12 [.bool false,.bool false,.bool false,.pointer (some ⟨h35.size,37,none⟩)] ?_
   refine sC 13 (.bool false) (Calm.load (T := 4) (p := ⟨h35.size,37,none⟩) (by kernel_rfl) (Loads.one (k := 1) (by kernel_rfl) ((hcell_blk m38).trans (rfl)))) ?_
   refine sP 22 [.bool false,undef,undef,.bool false,.bool false,undef,undef,.bool false,.bool false] ?_
   refine sD [(1,.slice (some ac) O.length wc),(2,pV h.size),(5,.bool true),(6,nV i),(235,.bool false)] ?_
   clear hF a; intro a hF
   refine tK ?_
   refine cF 235 hF ?_
   refine cN ?_
   show C Try.prog (sub b7 [1,1,1,0,1,0,0,1,1]) _ a h56
   refine cP 6 hF ?_
   refine sP 1 [nV i] ?_
   refine s1 2 (.int .i64 ((i + 1 : Nat) : Int)) (.int .i64 (IntKind.i64.wrap (((i : Nat) : Int) + 1))) (congrArg (Value.int .i64) (w64' (by omega) (by omega) (by omega))) ?_
   refine sP 3 [nV (i + 1)] ?_
   refine sD [(1,.slice (some ac) O.length wc),(2,pV h.size),(5,.bool true),(6,nV (i + 1))] ?_
   clear hF a; intro a hF
   have fsep : Sep h.size h56.size [some h.size] := sep.pick [3] rfl (by decide)
   have fr := hrow.ext e1; have fP := hP
   show ∃ m',m' < _ ∧ _
   refine ⟨_,?_,(i + 1),ex,hx,false,P,rd,rcp,rfl,e0,(by omega),m3,fr,fP,fsep,hF⟩
   omega
  ·skip
   have hk0 : kindZ kd = 0 := by omega
   refine cP 7 hF ?_
   refine sC 1 (.agg (rc x ex hx true (.slice rd P.length rcp)).toArray) (Calm.load (T := 26) (p := ⟨h.size,0,none⟩) (by kernel_rfl) (Loads.blk (vs := rc x ex hx true (.slice rd P.length rcp)) (by kernel_rfl) m3 rfl)) ?_
   refine SeqK.eff (k' := 2) (Does.call (f := 11) (args := #[.agg (rc x ex hx true (.slice rd P.length rcp)).toArray]) (by kernel_rfl) (copied_sat _ x ex hx true P rd rcp (hrow.ext e1) hP)) rfl ?_
   rintro _ h59 ⟨_,rfl,ad57,cap58,rfl,ownx,hge,g⟩
   have hlo := e0.size
   have sepo := sep
   replace e0 := e0.ext g
   replace e1 := e1.ext g
   replace m3 := Ext.blk g m3
   replace sep := sep.up g.size
   replace sep := sepo.cons (x := ad57.map (fun (x : Addr) => x.block)) g.size hlo (fun k e => ⟨hge k e,ownx.lt (by rw [blkOf_slice]; exact e)⟩)
   have own_w : Own h59 (.slice ad57 P.length cap58) 49 P.length 4 (prow P) := ownx; clear ownx sepo hlo hge g
   refine SeqK.eff (k' := 3) (Does.new (v := .pointer (some ⟨h59.size,0,none⟩)) (o := .cells (rc rb0 (0 : Int) false false (.slice none 0 0)).toArray 26) (by kernel_rfl)) rfl ?_
   rintro _ h60 ⟨rfl,hh⟩
   have g61 : Ext h59 h60 := push_ext hh
   have m62 : h60[h59.size]? = some (.cells (rc rb0 (0 : Int) false false (.slice none 0 0)).toArray 26) := push_at hh
   clear hh
   have lt63 := blk_lt m62
   have zs64 := e0.size
   have zs65 := e1.size
   have hlo := e0.size
   have sepo := sep
   replace e0 := e0.ext g61
   replace e1 := e1.ext g61
   replace own_w := own_w.ext g61
   replace m3 := Ext.blk g61 m3
   replace sep := sep.up g61.size
   replace sep := sepo.new hlo (blk_lt m62)
   clear sepo hlo
   refine SeqK.eff (k' := 4) (Does.store (b := h59.size) (off := 0) (vs := rc x ex hx true (.slice ad57 P.length cap58)) (l := rc rb0 (0 : Int) false false (.slice none 0 0)) (by kernel_rfl) m62 (of_decide_eq_true (by kernel_rfl)) (List.all_eq_true.1 (by kernel_rfl))) rfl ?_
   rintro _ h66 ⟨rfl,hh⟩
   have g67 : Grew (some (h59.size)) h60 h66 := hput_gr hh
   replace m62 : h66[h59.size]? = some (.cells (rc x ex hx true (.slice ad57 P.length cap58)).toArray 26) := hput_at (off := 0) (vs := rc x ex hx true (.slice ad57 P.length cap58)) (l := (rc rb0 (0 : Int) false false (.slice none 0 0))) hh (by kernel_rfl) m62
   clear hh
   replace e0 := e0.grew g67 (sep.low 0 rfl)
   replace e1 := e1.grew g67 (by rintro _ ⟨⟩; omega)
   replace own_w := own_w.kept g67 (by rw [blkOf_slice]; exact (sep.ap 1 0))
   replace m3 := Grew.blk g67 m3 ((sep.bp 2 0))
   replace sep := sep.up g67.size
   refine sD [(1,.slice (some ac) O.length wc),(2,pV h.size),(5,.bool true),(6,nV i),(7,pV h59.size)] ?_
   clear hF a; intro a hF
   refine tK ?_
   refine cS ?_
   refine cP 8 hF ?_
   refine sP 1 [.int .i64 0] ?_
   refine sD [(1,.slice (some ac) O.length wc),(2,pV h.size),(5,.bool true),(6,nV i),(7,pV h59.size)] ?_
   clear hF a; intro a hF
   refine tK ?_
   refine cS ?_
   refine cP 9 hF ?_
   refine sP 1 [.agg (rc rb0 (0 : Int) false false (.slice none 0 0)).toArray] ?_
   refine SeqK.eff (k' := 2) (Does.new (v := .pointer (some ⟨h66.size,0,none⟩)) (o := .cells (rc rb0 (0 : Int) false false (.slice none 0 0)).toArray 26) (by kernel_rfl)) rfl ?_
   rintro _ h68 ⟨rfl,hh⟩
   have g69 : Ext h66 h68 := push_ext hh
   have m70 : h68[h66.size]? = some (.cells (rc rb0 (0 : Int) false false (.slice none 0 0)).toArray 26) := push_at hh
   clear hh
   have lt71 := blk_lt m70
   have zs72 := e0.size
   have zs73 := e1.size
   have hlo := e0.size
   have sepo := sep
   replace e0 := e0.ext g69
   replace e1 := e1.ext g69
   replace own_w := own_w.ext g69
   replace m3 := Ext.blk g69 m3
   replace m62 := Ext.blk g69 m62
   replace sep := sep.up g69.size
   replace sep := sepo.new hlo (blk_lt m70)
   clear sepo hlo
   refine SeqK.eff (k' := 3) (Does.store (b := h66.size) (off := 0) (vs := rc rb0 (0 : Int) false false (.slice none 0 0)) (l := rc rb0 (0 : Int) false false (.slice none 0 0)) (by kernel_rfl) m70 (of_decide_eq_true (by kernel_rfl)) (List.all_eq_true.1 (by kernel_rfl))) rfl ?_
   rintro _ h74 ⟨rfl,hh⟩
   have g75 : Grew (some (h66.size)) h68 h74 := hput_gr hh
   replace m70 : h74[h66.size]? = some (.cells (rc rb0 (0 : Int) false false (.slice none 0 0)).toArray 26) := hput_at (off := 0) (vs := rc rb0 (0 : Int) false false (.slice none 0 0)) (l := (rc rb0 (0 : Int) false false (.slice none 0 0))) hh (by kernel_rfl) m70
   clear hh
   replace e0 := e0.grew g75 (sep.low 0 rfl)
   replace e1 := e1.grew g75 (by rintro _ ⟨⟩; omega)
   replace own_w := own_w.kept g75 (by rw [blkOf_slice]; exact (sep.ap 2 0))
   replace m3 := Grew.blk g75 m3 ((sep.bp 3 0))
   replace m62 := Grew.blk g75 m62 ((sep.bp 1 0))
   replace sep := sep.up g75.size
   refine sD [(1,.slice (some ac) O.length wc),(2,pV h.size),(5,.bool true),(6,nV i),(7,pV h59.size),(9,pV h66.size)] ?_
   clear hF a; intro a hF
   refine tK ?_
   refine cS ?_
   refine cS ?_
   refine cP 10 hF ?_
   refine sP 2 [.slice (some ac) O.length wc,nV i] ?_
   refine sC 3 (.pointer (some (Addr.add ac (i * 2)))) ((Calm.indexA (a := ac) (len := O.length) (sz := 2) (k := ((i : Nat) : Int)) i (i * 2) (by kernel_rfl) rfl (by omega) (by omega)) _) ?_
   refine sP 4 [.pointer (some (Addr.add ac (i * 2)))] ?_
   refine sC 5 (.int .i64 kd) (Calm.load (T := 3) (p := (Addr.add ac (i * 2))) (by kernel_rfl) (Loads.one (k := 1) (by kernel_rfl) (e0.cell hop.1))) ?_
   refine sC 6 (.int .i64 (kindZ kd)) (Does.call (f := 22) (args := #[.int .i64 kd]) (by kernel_rfl) (kind_sat _ kd hkb.1 hkb.2)) ?_
   refine sD [(1,.slice (some ac) O.length wc),(2,pV h.size),(5,.bool true),(6,nV i),(7,pV h59.size),(9,pV h66.size),(28,.int .i64 (kindZ kd))] ?_
   clear hF a; intro a hF
   refine tK ?_
   refine cB 2 ?_
   refine cS ?_
   refine cP 15 hF ?_
   refine s1 1 (.bool true) (.bool ((kindZ kd) == (0 : Int))) (congrArg Value.bool (beq_iff_eq.2 (by omega))) ?_
   refine sP 2 [.bool true] ?_
   refine sD [(1,.slice (some ac) O.length wc),(2,pV h.size),(5,.bool true),(6,nV i),(7,pV h59.size),(9,pV h66.size),(28,.int .i64 (kindZ kd)),(83,.bool true)] ?_
   clear hF a; intro a hF
   refine tK ?_
   refine cT 83 hF ?_
   refine cS ?_
   refine cD [0,0,0,6,14,30,63,127,255,255,511,2047] 16 mixed hF ?_
   refine mL 1 1 0 (.agg (rc x ex hx true (.slice rd P.length rcp)).toArray) (Calm.load (T := 26) (p := ⟨h.size,0,none⟩) (by kernel_rfl) (Loads.blk (vs := rc x ex hx true (.slice rd P.length rcp)) (by kernel_rfl) m3 rfl)) ?_
   refine mP 7 [1,2] [.slice (some ac) O.length wc,nV i] ?_
   refine mF 15 3 (.pointer (some (Addr.add ac (i * 2)))) (Calm.indexA (a := ac) (len := O.length) (sz := 2) (k := ((i : Nat) : Int)) i (i * 2) (by kernel_rfl) rfl (by omega) (by omega)) ?_
   refine m1 31 4 (.pointer (some (Addr.add ac (i * 2 + 1)))) (.pointer (some ((Addr.add ac (i * 2)).add 1))) (by rw [add_add]) ?_
   refine mL 63 33 5 (.int .i64 u) (Calm.load (T := 3) (p := (Addr.add ac (i * 2 + 1))) (by kernel_rfl) (Loads.one (k := 1) (by kernel_rfl) (e0.cell hop.2))) ?_
   refine SimK.eff0 (i := 6) (D' := 127) (X' := 127) (by kernel_rfl) (by kernel_rfl) (by kernel_rfl) (by kernel_rfl) (Does.call (f := 12) (args := #[.agg (rc x ex hx true (.slice rd P.length rcp)).toArray,.int .i64 u]) (by kernel_rfl) (lock_gone _ x ex hx P rd rcp u hu.1 hu.2)) ?_
   rintro _ h76 ⟨rfl,g⟩
   replace e0 := e0.ext g
   replace e1 := e1.ext g
   replace own_w := own_w.ext g
   replace m3 := Ext.blk g m3
   replace m62 := Ext.blk g m62
   replace m70 := Ext.blk g m70
   replace sep := sep.up g.size
   clear g
   refine mP 1023 [7,8,9] [.tuple #[.agg (rc rb0 (0 : Int) false false (.slice none 0 0)).toArray,.int .i64 213],.agg (rc rb0 (0 : Int) false false (.slice none 0 0)).toArray,.int .i64 213] ?_
   refine SimK.eff0 (i := 10) (D' := 2047) (X' := 1535) (by kernel_rfl) (by kernel_rfl) (by kernel_rfl) (by kernel_rfl) (Does.store (b := h66.size) (off := 0) (vs := rc rb0 (0 : Int) false false (.slice none 0 0)) (l := rc rb0 (0 : Int) false false (.slice none 0 0)) (by kernel_rfl) m70 (of_decide_eq_true (by kernel_rfl)) (List.all_eq_true.1 (by kernel_rfl))) ?_
   rintro _ h77 ⟨rfl,hh⟩
   have g78 : Grew (some (h66.size)) h76 h77 := hput_gr hh
   replace m70 : h77[h66.size]? = some (.cells (rc rb0 (0 : Int) false false (.slice none 0 0)).toArray 26) := hput_at (off := 0) (vs := rc rb0 (0 : Int) false false (.slice none 0 0)) (l := (rc rb0 (0 : Int) false false (.slice none 0 0))) hh (by kernel_rfl) m70
   clear hh
   replace e0 := e0.grew g78 (sep.low 0 rfl)
   replace e1 := e1.grew g78 (by rintro _ ⟨⟩; omega)
   replace own_w := own_w.kept g78 (by rw [blkOf_slice]; exact (sep.ap 2 0))
   replace m3 := Grew.blk g78 m3 ((sep.bp 3 0))
   replace m62 := Grew.blk g78 m62 ((sep.bp 1 0))
   replace sep := sep.up g78.size
   refine mP 4095 [11] [.int .i64 213] ?_
   refine mD [(1,.slice (some ac) O.length wc),(2,pV h.size),(5,.bool true),(6,nV i),(7,pV h59.size),(8,.int .i64 213),(9,pV h66.size)] ?_
   clear hF a; intro a hF
   refine tK ?_
   refine cS ?_
   refine cD [0,1,3,7,15,7,39,127,255,511,1023,511,511,6655,14847,31231,65535,131071,262143,524287,1048575,524287,2621439,8388607,16777215,33554431,67108863,33554431,33554431,436207615,973078527,2046820351,4294967295,8589934591,17179869183,34359738367,68719476735,137438953471,68719476735,343597383679,1099511627775,2199023255551,4398046511103,8796093022207,17592186044415,35184372088831,70368744177663] 17 mixed hF ?_
   refine mP 140737488355327 [0,1,2,3,4,5,6,7,8,9,10,11,12,13,14,15,16,17,18,19,20,21,22,23,24,25,26,27,28,29,30,31,32,33,34,35,36,37,38,39,40,41,42,43,44,45,46] [.int .i64 213,.bool false,.bool false,undef,undef,undef,undef,undef,undef,undef,undef,undef,undef,undef,undef,undef,undef,undef,undef,undef,undef,undef,undef,undef,undef,undef,undef,undef,undef,undef,undef,undef,undef,undef,undef,undef,undef,undef,undef,undef,undef,undef,undef,undef,undef,undef,.bool false] ?_
   refine mD [(1,.slice (some ac) O.length wc),(2,pV h.size),(5,.bool true),(6,nV i),(7,pV h59.size),(8,.int .i64 213),(9,pV h66.size),(141,.bool false)] ?_
   clear hF a; intro a hF
   refine tK ?_
   refine cF 141 hF ?_
   refine cN ?_
   show C Try.prog (sub b7 [1,1,1,0,1,0,0,1,0,0,1,1,1,1]) _ a h77
   refine cS ?_
   refine cP 23 hF ?_
   refine sP 2 [.int .i64 213,.bool false] ?_
   refine sD [(1,.slice (some ac) O.length wc),(2,pV h.size),(5,.bool true),(6,nV i),(7,pV h59.size),(8,.int .i64 213),(9,pV h66.size),(182,.bool false)] ?_
   clear hF a; intro a hF
   refine tK ?_
   refine cF 182 hF ?_
   refine cS ?_
   refine cP 27 hF ?_
   refine sC 1 (.agg (rc x ex hx true (.slice rd P.length rcp)).toArray) (Calm.load (T := 26) (p := ⟨h.size,0,none⟩) (by kernel_rfl) (Loads.blk (vs := rc x ex hx true (.slice rd P.length rcp)) (by kernel_rfl) m3 rfl)) ?_
   refine sC 2 (.agg (rc x ex hx true (.slice ad57 P.length cap58)).toArray) (Calm.load (T := 26) (p := ⟨h59.size,0,none⟩) (by kernel_rfl) (Loads.blk (vs := rc x ex hx true (.slice ad57 P.length cap58)) (by kernel_rfl) m62 rfl)) ?_
   refine SeqK.eff (k' := 3) (Does.call (f := 14) (args := #[.agg (rc x ex hx true (.slice rd P.length rcp)).toArray,.agg (rc x ex hx true (.slice ad57 P.length cap58)).toArray]) (by kernel_rfl) (same_sat _ x ex hx true P rd rcp (hrow.ext e1) hP ad57 cap58 own_w.row)) rfl ?_
   rintro _ h79 ⟨rfl,g⟩
   replace e0 := e0.ext g
   replace e1 := e1.ext g
   replace own_w := own_w.ext g
   replace m3 := Ext.blk g m3
   replace m62 := Ext.blk g m62
   replace m70 := Ext.blk g m70
   replace sep := sep.up g.size
   clear g
   refine sP 5 [.bool false,.bool false] ?_
   refine sC 6 (.agg (rc rb0 (0 : Int) false false (.slice none 0 0)).toArray) (Calm.load (T := 26) (p := ⟨h66.size,0,none⟩) (by kernel_rfl) (Loads.blk (vs := rc rb0 (0 : Int) false false (.slice none 0 0)) (by kernel_rfl) m70 rfl)) ?_
   refine sP 7 [.agg (rc rb0 (0 : Int) false false (.slice none 0 0)).toArray] ?_
   refine SeqK.eff (k' := 8) (Does.call (f := 14) (args := #[.agg (rc rb0 (0 : Int) false false (.slice none 0 0)).toArray,.agg (rc rb0 (0 : Int) false false (.slice none 0 0)).toArray]) (by kernel_rfl) (same_sat _ rb0 0 false false [] none 0 (Row.nil _ 4) (by decide) none 0 (Row.nil _ 4))) rfl ?_
   rintro _ h80 ⟨rfl,g⟩
   replace e0 := e0.ext g
   replace e1 := e1.ext g
   replace own_w := own_w.ext g
   replace m3 := Ext.blk g m3
   replace m62 := Ext.blk g m62
   replace m70 := Ext.blk g m70
   replace sep := sep.up g.size
   clear g
   refine sP 12 [.bool false,.bool false,.bool false,.pointer (some ⟨h59.size,37,none⟩)] ?_
   refine sC 13 (.bool true) (Calm.load (T := 4) (p := ⟨h59.size,37,none⟩) (by kernel_rfl) (Loads.one (k := 1) (by kernel_rfl) ((hcell_blk m62).trans (rfl)))) ?_
   refine sP 22 [.bool true,.int .i64 213,.bool false,.bool false,.bool false,undef,undef,.bool false,.bool false] ?_
   refine sD [(1,.slice (some ac) O.length wc),(2,pV h.size),(5,.bool true),(6,nV i),(235,.bool false)] ?_
   clear hF a; intro a hF
   refine tK ?_
   refine cF 235 hF ?_
   refine cN ?_
   show C Try.prog (sub b7 [1,1,1,0,1,0,0,1,1]) _ a h80
   refine cP 6 hF ?_
   refine sP 1 [nV i] ?_
   refine s1 2 (.int .i64 ((i + 1 : Nat) : Int)) (.int .i64 (IntKind.i64.wrap (((i : Nat) : Int) + 1))) (congrArg (Value.int .i64) (w64' (by omega) (by omega) (by omega))) ?_
   refine sP 3 [nV (i + 1)] ?_
   refine sD [(1,.slice (some ac) O.length wc),(2,pV h.size),(5,.bool true),(6,nV (i + 1))] ?_
   clear hF a; intro a hF
   have fsep : Sep h.size h80.size [some h.size] := sep.pick [3] rfl (by decide)
   have fr := hrow.ext e1; have fP := hP
   show ∃ m',m' < _ ∧ _
   refine ⟨_,?_,(i + 1),ex,hx,true,P,rd,rcp,rfl,e0,(by omega),m3,fr,fP,fsep,hF⟩
   omega
  ·skip
   have hk0 : kindZ kd = 0 := by omega
   refine cP 7 hF ?_
   refine sC 1 (.agg (rc x ex hx false (.slice rd P.length rcp)).toArray) (Calm.load (T := 26) (p := ⟨h.size,0,none⟩) (by kernel_rfl) (Loads.blk (vs := rc x ex hx false (.slice rd P.length rcp)) (by kernel_rfl) m3 rfl)) ?_
   refine SeqK.eff (k' := 2) (Does.call (f := 11) (args := #[.agg (rc x ex hx false (.slice rd P.length rcp)).toArray]) (by kernel_rfl) (copied_sat _ x ex hx false P rd rcp (hrow.ext e1) hP)) rfl ?_
   rintro _ h83 ⟨_,rfl,ad81,cap82,rfl,ownx,hge,g⟩
   have hlo := e0.size
   have sepo := sep
   replace e0 := e0.ext g
   replace e1 := e1.ext g
   replace m3 := Ext.blk g m3
   replace sep := sep.up g.size
   replace sep := sepo.cons (x := ad81.map (fun (x : Addr) => x.block)) g.size hlo (fun k e => ⟨hge k e,ownx.lt (by rw [blkOf_slice]; exact e)⟩)
   have own_w : Own h83 (.slice ad81 P.length cap82) 49 P.length 4 (prow P) := ownx; clear ownx sepo hlo hge g
   refine SeqK.eff (k' := 3) (Does.new (v := .pointer (some ⟨h83.size,0,none⟩)) (o := .cells (rc rb0 (0 : Int) false false (.slice none 0 0)).toArray 26) (by kernel_rfl)) rfl ?_
   rintro _ h84 ⟨rfl,hh⟩
   have g85 : Ext h83 h84 := push_ext hh
   have m86 : h84[h83.size]? = some (.cells (rc rb0 (0 : Int) false false (.slice none 0 0)).toArray 26) := push_at hh
   clear hh
   have lt87 := blk_lt m86
   have zs88 := e0.size
   have zs89 := e1.size
   have hlo := e0.size
   have sepo := sep
   replace e0 := e0.ext g85
   replace e1 := e1.ext g85
   replace own_w := own_w.ext g85
   replace m3 := Ext.blk g85 m3
   replace sep := sep.up g85.size
   replace sep := sepo.new hlo (blk_lt m86)
   clear sepo hlo
   refine SeqK.eff (k' := 4) (Does.store (b := h83.size) (off := 0) (vs := rc x ex hx false (.slice ad81 P.length cap82)) (l := rc rb0 (0 : Int) false false (.slice none 0 0)) (by kernel_rfl) m86 (of_decide_eq_true (by kernel_rfl)) (List.all_eq_true.1 (by kernel_rfl))) rfl ?_
   rintro _ h90 ⟨rfl,hh⟩
   have g91 : Grew (some (h83.size)) h84 h90 := hput_gr hh
   replace m86 : h90[h83.size]? = some (.cells (rc x ex hx false (.slice ad81 P.length cap82)).toArray 26) := hput_at (off := 0) (vs := rc x ex hx false (.slice ad81 P.length cap82)) (l := (rc rb0 (0 : Int) false false (.slice none 0 0))) hh (by kernel_rfl) m86
   clear hh
   replace e0 := e0.grew g91 (sep.low 0 rfl)
   replace e1 := e1.grew g91 (by rintro _ ⟨⟩; omega)
   replace own_w := own_w.kept g91 (by rw [blkOf_slice]; exact (sep.ap 1 0))
   replace m3 := Grew.blk g91 m3 ((sep.bp 2 0))
   replace sep := sep.up g91.size
   refine sD [(1,.slice (some ac) O.length wc),(2,pV h.size),(5,.bool true),(6,nV i),(7,pV h83.size)] ?_
   clear hF a; intro a hF
   refine tK ?_
   refine cS ?_
   refine cP 8 hF ?_
   refine sP 1 [.int .i64 0] ?_
   refine sD [(1,.slice (some ac) O.length wc),(2,pV h.size),(5,.bool true),(6,nV i),(7,pV h83.size)] ?_
   clear hF a; intro a hF
   refine tK ?_
   refine cS ?_
   refine cP 9 hF ?_
   refine sP 1 [.agg (rc rb0 (0 : Int) false false (.slice none 0 0)).toArray] ?_
   refine SeqK.eff (k' := 2) (Does.new (v := .pointer (some ⟨h90.size,0,none⟩)) (o := .cells (rc rb0 (0 : Int) false false (.slice none 0 0)).toArray 26) (by kernel_rfl)) rfl ?_
   rintro _ h92 ⟨rfl,hh⟩
   have g93 : Ext h90 h92 := push_ext hh
   have m94 : h92[h90.size]? = some (.cells (rc rb0 (0 : Int) false false (.slice none 0 0)).toArray 26) := push_at hh
   clear hh
   have lt95 := blk_lt m94
   have zs96 := e0.size
   have zs97 := e1.size
   have hlo := e0.size
   have sepo := sep
   replace e0 := e0.ext g93
   replace e1 := e1.ext g93
   replace own_w := own_w.ext g93
   replace m3 := Ext.blk g93 m3
   replace m86 := Ext.blk g93 m86
   replace sep := sep.up g93.size
   replace sep := sepo.new hlo (blk_lt m94)
   clear sepo hlo
   refine SeqK.eff (k' := 3) (Does.store (b := h90.size) (off := 0) (vs := rc rb0 (0 : Int) false false (.slice none 0 0)) (l := rc rb0 (0 : Int) false false (.slice none 0 0)) (by kernel_rfl) m94 (of_decide_eq_true (by kernel_rfl)) (List.all_eq_true.1 (by kernel_rfl))) rfl ?_
   rintro _ h98 ⟨rfl,hh⟩
   have g99 : Grew (some (h90.size)) h92 h98 := hput_gr hh
   replace m94 : h98[h90.size]? = some (.cells (rc rb0 (0 : Int) false false (.slice none 0 0)).toArray 26) := hput_at (off := 0) (vs := rc rb0 (0 : Int) false false (.slice none 0 0)) (l := (rc rb0 (0 : Int) false false (.slice none 0 0))) hh (by kernel_rfl) m94
   clear hh
   replace e0 := e0.grew g99 (sep.low 0 rfl)
   replace e1 := e1.grew g99 (by rintro _ ⟨⟩; omega)
   replace own_w := own_w.kept g99 (by rw [blkOf_slice]; exact (sep.ap 2 0))
   replace m3 := Grew.blk g99 m3 ((sep.bp 3 0))
   replace m86 := Grew.blk g99 m86 ((sep.bp 1 0))
   replace sep := sep.up g99.size
   refine sD [(1,.slice (some ac) O.length wc),(2,pV h.size),(5,.bool true),(6,nV i),(7,pV h83.size),(9,pV h90.size)] ?_
   clear hF a; intro a hF
   refine tK ?_
   refine cS ?_
   refine cS ?_
   refine cP 10 hF ?_
   refine sP 2 [.slice (some ac) O.length wc,nV i] ?_
   refine sC 3 (.pointer (some (Addr.add ac (i * 2)))) ((Calm.indexA (a := ac) (len := O.length) (sz := 2) (k := ((i : Nat) : Int)) i (i * 2) (by kernel_rfl) rfl (by omega) (by omega)) _) ?_
   refine sP 4 [.pointer (some (Addr.add ac (i * 2)))] ?_
   refine sC 5 (.int .i64 kd) (Calm.load (T := 3) (p := (Addr.add ac (i * 2))) (by kernel_rfl) (Loads.one (k := 1) (by kernel_rfl) (e0.cell hop.1))) ?_
   refine sC 6 (.int .i64 (kindZ kd)) (Does.call (f := 22) (args := #[.int .i64 kd]) (by kernel_rfl) (kind_sat _ kd hkb.1 hkb.2)) ?_
   refine sD [(1,.slice (some ac) O.length wc),(2,pV h.size),(5,.bool true),(6,nV i),(7,pV h83.size),(9,pV h90.size),(28,.int .i64 (kindZ kd))] ?_
   clear hF a; intro a hF
   refine tK ?_
   refine cB 2 ?_
   refine cS ?_
   refine cP 15 hF ?_
   refine s1 1 (.bool true) (.bool ((kindZ kd) == (0 : Int))) (congrArg Value.bool (beq_iff_eq.2 (by omega))) ?_
   refine sP 2 [.bool true] ?_
   refine sD [(1,.slice (some ac) O.length wc),(2,pV h.size),(5,.bool true),(6,nV i),(7,pV h83.size),(9,pV h90.size),(28,.int .i64 (kindZ kd)),(83,.bool true)] ?_
   clear hF a; intro a hF
   refine tK ?_
   refine cT 83 hF ?_
   refine cS ?_
   refine cD [0,0,0,6,14,30,63,127,255,255,511,2047] 16 mixed hF ?_
   refine mL 1 1 0 (.agg (rc x ex hx false (.slice rd P.length rcp)).toArray) (Calm.load (T := 26) (p := ⟨h.size,0,none⟩) (by kernel_rfl) (Loads.blk (vs := rc x ex hx false (.slice rd P.length rcp)) (by kernel_rfl) m3 rfl)) ?_
   refine mP 7 [1,2] [.slice (some ac) O.length wc,nV i] ?_
   refine mF 15 3 (.pointer (some (Addr.add ac (i * 2)))) (Calm.indexA (a := ac) (len := O.length) (sz := 2) (k := ((i : Nat) : Int)) i (i * 2) (by kernel_rfl) rfl (by omega) (by omega)) ?_
   refine m1 31 4 (.pointer (some (Addr.add ac (i * 2 + 1)))) (.pointer (some ((Addr.add ac (i * 2)).add 1))) (by rw [add_add]) ?_
   refine mL 63 33 5 (.int .i64 u) (Calm.load (T := 3) (p := (Addr.add ac (i * 2 + 1))) (by kernel_rfl) (Loads.one (k := 1) (by kernel_rfl) (e0.cell hop.2))) ?_
   refine SimK.eff0 (i := 6) (D' := 127) (X' := 127) (by kernel_rfl) (by kernel_rfl) (by kernel_rfl) (by kernel_rfl) (Does.call (f := 12) (args := #[.agg (rc x ex hx false (.slice rd P.length rcp)).toArray,.int .i64 u]) (by kernel_rfl) (lock_lo _ x ex hx P rd rcp (hrow.ext e1) hP u hu.1 hu.2.1 hu.2.2)) ?_
   rintro _ h102 ⟨_,rfl,ad100,cap101,rfl,ownx,hge,g⟩
   have hlo := e0.size
   have sepo := sep
   replace e0 := e0.ext g
   replace e1 := e1.ext g
   replace own_w := own_w.ext g
   replace m3 := Ext.blk g m3
   replace m86 := Ext.blk g m86
   replace m94 := Ext.blk g m94
   replace sep := sep.up g.size
   replace sep := sepo.cons (x := ad100.map (fun (x : Addr) => x.block)) g.size hlo (fun k e => ⟨hge k e,ownx.lt (by rw [blkOf_slice]; exact e)⟩)
   have own_n : Own h102 (.slice ad100 P.length cap101) 49 P.length 4 (prow P) := ownx; clear ownx sepo hlo hge g
   refine mP 1023 [7,8,9] [.tuple #[.agg (rc x ex hx false (.slice ad100 P.length cap101)).toArray,.int .i64 0],.agg (rc x ex hx false (.slice ad100 P.length cap101)).toArray,.int .i64 0] ?_
   refine SimK.eff0 (i := 10) (D' := 2047) (X' := 1535) (by kernel_rfl) (by kernel_rfl) (by kernel_rfl) (by kernel_rfl) (Does.store (b := h90.size) (off := 0) (vs := rc x ex hx false (.slice ad100 P.length cap101)) (l := rc rb0 (0 : Int) false false (.slice none 0 0)) (by kernel_rfl) m94 (of_decide_eq_true (by kernel_rfl)) (List.all_eq_true.1 (by kernel_rfl))) ?_
   rintro _ h103 ⟨rfl,hh⟩
   have g104 : Grew (some (h90.size)) h102 h103 := hput_gr hh
   replace m94 : h103[h90.size]? = some (.cells (rc x ex hx false (.slice ad100 P.length cap101)).toArray 26) := hput_at (off := 0) (vs := rc x ex hx false (.slice ad100 P.length cap101)) (l := (rc rb0 (0 : Int) false false (.slice none 0 0))) hh (by kernel_rfl) m94
   clear hh
   replace e0 := e0.grew g104 (sep.low 1 rfl)
   replace e1 := e1.grew g104 (by rintro _ ⟨⟩; omega)
   replace own_w := own_w.kept g104 (by rw [blkOf_slice]; exact (sep.ap 3 1))
   replace own_n := own_n.kept g104 (by rw [blkOf_slice]; exact (sep.ap 0 1))
   replace m3 := Grew.blk g104 m3 ((sep.bp 4 1))
   replace m86 := Grew.blk g104 m86 ((sep.bp 2 1))
   replace sep := sep.up g104.size
   refine mP 4095 [11] [.int .i64 0] ?_
   refine mD [(1,.slice (some ac) O.length wc),(2,pV h.size),(5,.bool true),(6,nV i),(7,pV h83.size),(8,.int .i64 0),(9,pV h90.size)] ?_
   clear hF a; intro a hF
   refine tK ?_
   refine cS ?_
   refine cD [0,1,3,7,15,7,39,127,255,511,1023,511,511,6655,14847,31231,65535,131071,262143,524287,1048575,524287,2621439,8388607,16777215,33554431,67108863,33554431,33554431,436207615,973078527,2046820351,4294967295,8589934591,17179869183,34359738367,68719476735,137438953471,68719476735,343597383679,1099511627775,2199023255551,4398046511103,8796093022207,17592186044415,35184372088831,70368744177663] 17 mixed hF ?_
   refine mP 15 [0,1,2,3] [.int .i64 0,.bool true,.bool true,.pointer (some ⟨h90.size,35,none⟩)] ?_
   refine mL 31 16 4 (.int .i64 ex) (Calm.load (T := 3) (p := ⟨h90.size,35,none⟩) (by kernel_rfl) (Loads.one (k := 1) (by kernel_rfl) ((hcell_blk m94).trans (rfl)))) ?_
   refine mP 63 [5] [.pointer (some ⟨h83.size,35,none⟩)] ?_
   refine mL 127 80 6 (.int .i64 ex) (Calm.load (T := 3) (p := ⟨h83.size,35,none⟩) (by kernel_rfl) (Loads.one (k := 1) (by kernel_rfl) ((hcell_blk m86).trans (rfl)))) ?_
   refine m1 255 7 (.bool false) (.bool (decide (ex < ex))) (congrArg Value.bool (decide_eq_false (by omega))) ?_
   refine mP 1023 [8,9] [.bool false,.pointer (some ⟨h90.size,35,none⟩)] ?_
   refine mL 2047 1104 10 (.int .i64 ex) (Calm.load (T := 3) (p := ⟨h90.size,35,none⟩) (by kernel_rfl) (Loads.one (k := 1) (by kernel_rfl) ((hcell_blk m94).trans (rfl)))) ?_
   refine mP 8191 [11,12] [.slice (some ac) O.length wc,nV i] ?_
   refine mF 16383 13 (.pointer (some (Addr.add ac (i * 2)))) (Calm.indexA (a := ac) (len := O.length) (sz := 2) (k := ((i : Nat) : Int)) i (i * 2) (by kernel_rfl) rfl (by omega) (by omega)) ?_
   refine m1 32767 14 (.pointer (some (Addr.add ac (i * 2 + 1)))) (.pointer (some ((Addr.add ac (i * 2)).add 1))) (by rw [add_add]) ?_
   refine mL 65535 33872 15 (.int .i64 u) (Calm.load (T := 3) (p := (Addr.add ac (i * 2 + 1))) (by kernel_rfl) (Loads.one (k := 1) (by kernel_rfl) (e0.cell hop.2))) ?_
   refine m1 131071 16 (.bool false) (.bool (decide (ex < u))) (congrArg Value.bool (decide_eq_false (by omega))) ?_
   refine mP 1048575 [17,18,19] [.bool false,.bool false,.pointer (some ⟨h90.size,35,none⟩)] ?_
   refine mL 2097151 1082448 20 (.int .i64 ex) (Calm.load (T := 3) (p := ⟨h90.size,35,none⟩) (by kernel_rfl) (Loads.one (k := 1) (by kernel_rfl) ((hcell_blk m94).trans (rfl)))) ?_
   refine mP 4194303 [21] [.pointer (some ⟨h83.size,35,none⟩)] ?_
   refine mL 8388607 5276752 22 (.int .i64 ex) (Calm.load (T := 3) (p := ⟨h83.size,35,none⟩) (by kernel_rfl) (Loads.one (k := 1) (by kernel_rfl) ((hcell_blk m86).trans (rfl)))) ?_
   refine m1 16777215 23 (.bool false) (.bool (!(ex == ex))) (congrArg (fun b => Value.bool (!b)) (beq_iff_eq.2 (by omega))) ?_
   refine mP 137438953471 [24,25,26,27,28,29,30,31,32,33,34,35,36] [.bool false,undef,undef,undef,undef,undef,undef,undef,undef,.bool false,.bool false,.bool false,.pointer (some ⟨h90.size,36,none⟩)] ?_
   refine mL 274877906943 137444230224 37 (.bool hx) (Calm.load (T := 4) (p := ⟨h90.size,36,none⟩) (by kernel_rfl) (Loads.one (k := 1) (by kernel_rfl) ((hcell_blk m94).trans (rfl)))) ?_
   refine mP 549755813887 [38] [.pointer (some ⟨h83.size,36,none⟩)] ?_
   refine mL 1099511627775 687200044112 39 (.bool hx) (Calm.load (T := 4) (p := ⟨h83.size,36,none⟩) (by kernel_rfl) (Loads.one (k := 1) (by kernel_rfl) ((hcell_blk m86).trans (rfl)))) ?_
   refine m1 2199023255551 40 (.bool false) (.bool (!(hx == hx))) (congrArg Value.bool (by simp)) ?_
   refine mP 17592186044415 [41,42,43] [.bool false,.bool false,.pointer (some ⟨h90.size,37,none⟩)] ?_
   refine mL 35184372088831 18279386088528 44 (.bool false) (Calm.load (T := 4) (p := ⟨h90.size,37,none⟩) (by kernel_rfl) (Loads.one (k := 1) (by kernel_rfl) ((hcell_blk m94).trans (rfl)))) ?_
   refine mP 140737488355327 [45,46] [.bool false,.bool false] ?_
   refine mD [(1,.slice (some ac) O.length wc),(2,pV h.size),(5,.bool true),(6,nV i),(7,pV h83.size),(8,.int .i64 0),(9,pV h90.size),(141,.bool false)] ?_
   clear hF a; intro a hF
   refine tK ?_
   refine cF 141 hF ?_
   refine cN ?_
   show C Try.prog (sub b7 [1,1,1,0,1,0,0,1,0,0,1,1,1,1]) _ a h103
   refine cS ?_
   refine cP 23 hF ?_
   refine sP 2 [.int .i64 0,.bool true] ?_
   refine sD [(1,.slice (some ac) O.length wc),(2,pV h.size),(5,.bool true),(6,nV i),(7,pV h83.size),(8,.int .i64 0),(9,pV h90.size),(182,.bool true)] ?_
   clear hF a; intro a hF
   refine tK ?_
   refine cT 182 hF ?_
   refine cS ?_
   refine cS ?_
   refine cP 24 hF ?_
   refine sP 1 [pV h90.size] ?_
   refine sC 2 (.string x.id) (Calm.load (T := 9) (p := ⟨h90.size,0,none⟩) (by kernel_rfl) (Loads.one (k := 1) (by kernel_rfl) ((hcell_blk m94).trans (rfl)))) ?_
   refine sP 3 [pV h83.size] ?_
   refine sC 4 (.string x.id) (Calm.load (T := 9) (p := ⟨h83.size,0,none⟩) (by kernel_rfl) (Loads.one (k := 1) (by kernel_rfl) ((hcell_blk m86).trans (rfl)))) ?_
   refine s1 5 (.bool false) (.bool (!(x.id.toList == x.id.toList))) (congrArg Value.bool (by simp)) ?_
   refine sP 7 [.bool false,.pointer (some ⟨h90.size,1,none⟩)] ?_
   refine sC 8 (.int .i64 x.len) (Calm.load (T := 3) (p := ⟨h90.size,1,none⟩) (by kernel_rfl) (Loads.one (k := 1) (by kernel_rfl) ((hcell_blk m94).trans (rfl)))) ?_
   refine sP 9 [.pointer (some ⟨h83.size,1,none⟩)] ?_
   refine sC 10 (.int .i64 x.len) (Calm.load (T := 3) (p := ⟨h83.size,1,none⟩) (by kernel_rfl) (Loads.one (k := 1) (by kernel_rfl) ((hcell_blk m86).trans (rfl)))) ?_
   refine s1 11 (.bool false) (.bool (!(x.len == x.len))) (congrArg (fun b => Value.bool (!b)) (beq_iff_eq.2 (by omega))) ?_
   refine sP 14 [.bool false,.bool false,.pointer (some ⟨h90.size,2,none⟩)] ?_
   refine sC 15 (.agg ((hl x).map bv).toArray) (Calm.load (T := 23) (p := ⟨h90.size,2,none⟩) (by kernel_rfl) (Loads.blk (vs := (hl x).map bv) (by kernel_rfl) m94 rfl)) ?_
   refine sP 16 [.pointer (some ⟨h83.size,2,none⟩)] ?_
   refine sC 17 (.agg ((hl x).map bv).toArray) (Calm.load (T := 23) (p := ⟨h83.size,2,none⟩) (by kernel_rfl) (Loads.blk (vs := (hl x).map bv) (by kernel_rfl) m86 rfl)) ?_
   refine sC 18 (.bool false) ((eqHT (q := false) (l := (hl x)) (r := (hl x)) (n := 32) (by kernel_rfl) rfl rfl rfl) _) ?_
   refine sP 21 [.bool false,.bool false,.pointer (some ⟨h90.size,34,none⟩)] ?_
   refine sC 22 (.int .i64 x.idx) (Calm.load (T := 3) (p := ⟨h90.size,34,none⟩) (by kernel_rfl) (Loads.one (k := 1) (by kernel_rfl) ((hcell_blk m94).trans (rfl)))) ?_
   refine sP 23 [.pointer (some ⟨h83.size,34,none⟩)] ?_
   refine sC 24 (.int .i64 x.idx) (Calm.load (T := 3) (p := ⟨h83.size,34,none⟩) (by kernel_rfl) (Loads.one (k := 1) (by kernel_rfl) ((hcell_blk m86).trans (rfl)))) ?_
   refine s1 25 (.bool false) (.bool (!(x.idx == x.idx))) (congrArg (fun b => Value.bool (!b)) (beq_iff_eq.2 (by omega))) ?_
   refine sP 28 [.bool false,.bool false,.pointer (some ⟨h83.size,37,none⟩)] ?_
   refine sC 29 (.bool false) (Calm.load (T := 4) (p := ⟨h83.size,37,none⟩) (by kernel_rfl) (Loads.one (k := 1) (by kernel_rfl) ((hcell_blk m86).trans (rfl)))) ?_
   refine sP 30 [.bool false] ?_
   refine sD [(1,.slice (some ac) O.length wc),(2,pV h.size),(5,.bool true),(6,nV i),(9,pV h90.size),(212,.bool false)] ?_
   clear hF a; intro a hF
   refine tK ?_
   refine cF 212 hF ?_
   refine cN ?_
   refine tK ?_
   refine cP 26 hF ?_
   refine sC 1 (.agg (rc x ex hx false (.slice ad100 P.length cap101)).toArray) (Calm.load (T := 26) (p := ⟨h90.size,0,none⟩) (by kernel_rfl) (Loads.blk (vs := rc x ex hx false (.slice ad100 P.length cap101)) (by kernel_rfl) m94 rfl)) ?_
   refine SeqK.eff (k' := 2) (Does.store (b := h.size) (off := 0) (vs := rc x ex hx false (.slice ad100 P.length cap101)) (l := rc x ex hx false (.slice rd P.length rcp)) (by kernel_rfl) m3 (of_decide_eq_true (by kernel_rfl)) (List.all_eq_true.1 (by kernel_rfl))) rfl ?_
   rintro _ h105 ⟨rfl,hh⟩
   have g106 : Grew (some (h.size)) h103 h105 := hput_gr hh
   replace m3 : h105[h.size]? = some (.cells (rc x ex hx false (.slice ad100 P.length cap101)).toArray 26) := hput_at (off := 0) (vs := rc x ex hx false (.slice ad100 P.length cap101)) (l := (rc x ex hx false (.slice rd P.length rcp))) hh (by kernel_rfl) m3
   clear hh
   replace e0 := e0.grew g106 (sep.low 4 rfl)
   clear e1
   replace own_w := own_w.kept g106 (by rw [blkOf_slice]; exact (sep.ap 3 4))
   replace own_n := own_n.kept g106 (by rw [blkOf_slice]; exact (sep.ap 0 4))
   replace m86 := Grew.blk g106 m86 ((sep.bp 2 4))
   replace m94 := Grew.blk g106 m94 ((sep.bp 1 4))
   replace sep := sep.up g106.size
   refine sD [(1,.slice (some ac) O.length wc),(2,pV h.size),(5,.bool true),(6,nV i)] ?_
   clear hF a; intro a hF
   show C Try.prog (sub b7 [1,1,1,0,1,0,0,1,1]) _ a h105
   refine cP 6 hF ?_
   refine sP 1 [nV i] ?_
   refine s1 2 (.int .i64 ((i + 1 : Nat) : Int)) (.int .i64 (IntKind.i64.wrap (((i : Nat) : Int) + 1))) (congrArg (Value.int .i64) (w64' (by omega) (by omega) (by omega))) ?_
   refine sP 3 [nV (i + 1)] ?_
   refine sD [(1,.slice (some ac) O.length wc),(2,pV h.size),(5,.bool true),(6,nV (i + 1))] ?_
   clear hF a; intro a hF
   have fsep : Sep h.size h105.size [some h.size] := sep.pick [4] rfl (by decide)
   have fr := own_n.row; have fP := hP
   show ∃ m',m' < _ ∧ _
   refine ⟨_,?_,(i + 1),ex,hx,false,P,ad100,cap101,rfl,e0,(by omega),m3,fr,fP,fsep,hF⟩
   omega
  ·skip
   have hk0 : kindZ kd = 0 := by omega
   refine cP 7 hF ?_
   refine sC 1 (.agg (rc x ex hx false (.slice rd P.length rcp)).toArray) (Calm.load (T := 26) (p := ⟨h.size,0,none⟩) (by kernel_rfl) (Loads.blk (vs := rc x ex hx false (.slice rd P.length rcp)) (by kernel_rfl) m3 rfl)) ?_
   refine SeqK.eff (k' := 2) (Does.call (f := 11) (args := #[.agg (rc x ex hx false (.slice rd P.length rcp)).toArray]) (by kernel_rfl) (copied_sat _ x ex hx false P rd rcp (hrow.ext e1) hP)) rfl ?_
   rintro _ h109 ⟨_,rfl,ad107,cap108,rfl,ownx,hge,g⟩
   have hlo := e0.size
   have sepo := sep
   replace e0 := e0.ext g
   replace e1 := e1.ext g
   replace m3 := Ext.blk g m3
   replace sep := sep.up g.size
   replace sep := sepo.cons (x := ad107.map (fun (x : Addr) => x.block)) g.size hlo (fun k e => ⟨hge k e,ownx.lt (by rw [blkOf_slice]; exact e)⟩)
   have own_w : Own h109 (.slice ad107 P.length cap108) 49 P.length 4 (prow P) := ownx; clear ownx sepo hlo hge g
   refine SeqK.eff (k' := 3) (Does.new (v := .pointer (some ⟨h109.size,0,none⟩)) (o := .cells (rc rb0 (0 : Int) false false (.slice none 0 0)).toArray 26) (by kernel_rfl)) rfl ?_
   rintro _ h110 ⟨rfl,hh⟩
   have g111 : Ext h109 h110 := push_ext hh
   have m112 : h110[h109.size]? = some (.cells (rc rb0 (0 : Int) false false (.slice none 0 0)).toArray 26) := push_at hh
   clear hh
   have lt113 := blk_lt m112
   have zs114 := e0.size
   have zs115 := e1.size
   have hlo := e0.size
   have sepo := sep
   replace e0 := e0.ext g111
   replace e1 := e1.ext g111
   replace own_w := own_w.ext g111
   replace m3 := Ext.blk g111 m3
   replace sep := sep.up g111.size
   replace sep := sepo.new hlo (blk_lt m112)
   clear sepo hlo
   refine SeqK.eff (k' := 4) (Does.store (b := h109.size) (off := 0) (vs := rc x ex hx false (.slice ad107 P.length cap108)) (l := rc rb0 (0 : Int) false false (.slice none 0 0)) (by kernel_rfl) m112 (of_decide_eq_true (by kernel_rfl)) (List.all_eq_true.1 (by kernel_rfl))) rfl ?_
   rintro _ h116 ⟨rfl,hh⟩
   have g117 : Grew (some (h109.size)) h110 h116 := hput_gr hh
   replace m112 : h116[h109.size]? = some (.cells (rc x ex hx false (.slice ad107 P.length cap108)).toArray 26) := hput_at (off := 0) (vs := rc x ex hx false (.slice ad107 P.length cap108)) (l := (rc rb0 (0 : Int) false false (.slice none 0 0))) hh (by kernel_rfl) m112
   clear hh
   replace e0 := e0.grew g117 (sep.low 0 rfl)
   replace e1 := e1.grew g117 (by rintro _ ⟨⟩; omega)
   replace own_w := own_w.kept g117 (by rw [blkOf_slice]; exact (sep.ap 1 0))
   replace m3 := Grew.blk g117 m3 ((sep.bp 2 0))
   replace sep := sep.up g117.size
   refine sD [(1,.slice (some ac) O.length wc),(2,pV h.size),(5,.bool true),(6,nV i),(7,pV h109.size)] ?_
   clear hF a; intro a hF
   refine tK ?_
   refine cS ?_
   refine cP 8 hF ?_
   refine sP 1 [.int .i64 0] ?_
   refine sD [(1,.slice (some ac) O.length wc),(2,pV h.size),(5,.bool true),(6,nV i),(7,pV h109.size)] ?_
   clear hF a; intro a hF
   refine tK ?_
   refine cS ?_
   refine cP 9 hF ?_
   refine sP 1 [.agg (rc rb0 (0 : Int) false false (.slice none 0 0)).toArray] ?_
   refine SeqK.eff (k' := 2) (Does.new (v := .pointer (some ⟨h116.size,0,none⟩)) (o := .cells (rc rb0 (0 : Int) false false (.slice none 0 0)).toArray 26) (by kernel_rfl)) rfl ?_
   rintro _ h118 ⟨rfl,hh⟩
   have g119 : Ext h116 h118 := push_ext hh
   have m120 : h118[h116.size]? = some (.cells (rc rb0 (0 : Int) false false (.slice none 0 0)).toArray 26) := push_at hh
   clear hh
   have lt121 := blk_lt m120
   have zs122 := e0.size
   have zs123 := e1.size
   have hlo := e0.size
   have sepo := sep
   replace e0 := e0.ext g119
   replace e1 := e1.ext g119
   replace own_w := own_w.ext g119
   replace m3 := Ext.blk g119 m3
   replace m112 := Ext.blk g119 m112
   replace sep := sep.up g119.size
   replace sep := sepo.new hlo (blk_lt m120)
   clear sepo hlo
   refine SeqK.eff (k' := 3) (Does.store (b := h116.size) (off := 0) (vs := rc rb0 (0 : Int) false false (.slice none 0 0)) (l := rc rb0 (0 : Int) false false (.slice none 0 0)) (by kernel_rfl) m120 (of_decide_eq_true (by kernel_rfl)) (List.all_eq_true.1 (by kernel_rfl))) rfl ?_
   rintro _ h124 ⟨rfl,hh⟩
   have g125 : Grew (some (h116.size)) h118 h124 := hput_gr hh
   replace m120 : h124[h116.size]? = some (.cells (rc rb0 (0 : Int) false false (.slice none 0 0)).toArray 26) := hput_at (off := 0) (vs := rc rb0 (0 : Int) false false (.slice none 0 0)) (l := (rc rb0 (0 : Int) false false (.slice none 0 0))) hh (by kernel_rfl) m120
   clear hh
   replace e0 := e0.grew g125 (sep.low 0 rfl)
   replace e1 := e1.grew g125 (by rintro _ ⟨⟩; omega)
   replace own_w := own_w.kept g125 (by rw [blkOf_slice]; exact (sep.ap 2 0))
   replace m3 := Grew.blk g125 m3 ((sep.bp 3 0))
   replace m112 := Grew.blk g125 m112 ((sep.bp 1 0))
   replace sep := sep.up g125.size
   refine sD [(1,.slice (some ac) O.length wc),(2,pV h.size),(5,.bool true),(6,nV i),(7,pV h109.size),(9,pV h116.size)] ?_
   clear hF a; intro a hF
   refine tK ?_
   refine cS ?_
   refine cS ?_
   refine cP 10 hF ?_
   refine sP 2 [.slice (some ac) O.length wc,nV i] ?_
   refine sC 3 (.pointer (some (Addr.add ac (i * 2)))) ((Calm.indexA (a := ac) (len := O.length) (sz := 2) (k := ((i : Nat) : Int)) i (i * 2) (by kernel_rfl) rfl (by omega) (by omega)) _) ?_
   refine sP 4 [.pointer (some (Addr.add ac (i * 2)))] ?_
   refine sC 5 (.int .i64 kd) (Calm.load (T := 3) (p := (Addr.add ac (i * 2))) (by kernel_rfl) (Loads.one (k := 1) (by kernel_rfl) (e0.cell hop.1))) ?_
   refine sC 6 (.int .i64 (kindZ kd)) (Does.call (f := 22) (args := #[.int .i64 kd]) (by kernel_rfl) (kind_sat _ kd hkb.1 hkb.2)) ?_
   refine sD [(1,.slice (some ac) O.length wc),(2,pV h.size),(5,.bool true),(6,nV i),(7,pV h109.size),(9,pV h116.size),(28,.int .i64 (kindZ kd))] ?_
   clear hF a; intro a hF
   refine tK ?_
   refine cB 2 ?_
   refine cS ?_
   refine cP 15 hF ?_
   refine s1 1 (.bool true) (.bool ((kindZ kd) == (0 : Int))) (congrArg Value.bool (beq_iff_eq.2 (by omega))) ?_
   refine sP 2 [.bool true] ?_
   refine sD [(1,.slice (some ac) O.length wc),(2,pV h.size),(5,.bool true),(6,nV i),(7,pV h109.size),(9,pV h116.size),(28,.int .i64 (kindZ kd)),(83,.bool true)] ?_
   clear hF a; intro a hF
   refine tK ?_
   refine cT 83 hF ?_
   refine cS ?_
   refine cD [0,0,0,6,14,30,63,127,255,255,511,2047] 16 mixed hF ?_
   refine mL 1 1 0 (.agg (rc x ex hx false (.slice rd P.length rcp)).toArray) (Calm.load (T := 26) (p := ⟨h.size,0,none⟩) (by kernel_rfl) (Loads.blk (vs := rc x ex hx false (.slice rd P.length rcp)) (by kernel_rfl) m3 rfl)) ?_
   refine mP 7 [1,2] [.slice (some ac) O.length wc,nV i] ?_
   refine mF 15 3 (.pointer (some (Addr.add ac (i * 2)))) (Calm.indexA (a := ac) (len := O.length) (sz := 2) (k := ((i : Nat) : Int)) i (i * 2) (by kernel_rfl) rfl (by omega) (by omega)) ?_
   refine m1 31 4 (.pointer (some (Addr.add ac (i * 2 + 1)))) (.pointer (some ((Addr.add ac (i * 2)).add 1))) (by rw [add_add]) ?_
   refine mL 63 33 5 (.int .i64 u) (Calm.load (T := 3) (p := (Addr.add ac (i * 2 + 1))) (by kernel_rfl) (Loads.one (k := 1) (by kernel_rfl) (e0.cell hop.2))) ?_
   refine SimK.eff0 (i := 6) (D' := 127) (X' := 127) (by kernel_rfl) (by kernel_rfl) (by kernel_rfl) (by kernel_rfl) (Does.call (f := 12) (args := #[.agg (rc x ex hx false (.slice rd P.length rcp)).toArray,.int .i64 u]) (by kernel_rfl) (lock_hi _ x ex hx P rd rcp (hrow.ext e1) hP u hu.1 hu.2.1 hu.2.2)) ?_
   rintro _ h128 ⟨_,rfl,ad126,cap127,rfl,ownx,hge,g⟩
   have hlo := e0.size
   have sepo := sep
   replace e0 := e0.ext g
   replace e1 := e1.ext g
   replace own_w := own_w.ext g
   replace m3 := Ext.blk g m3
   replace m112 := Ext.blk g m112
   replace m120 := Ext.blk g m120
   replace sep := sep.up g.size
   replace sep := sepo.cons (x := ad126.map (fun (x : Addr) => x.block)) g.size hlo (fun k e => ⟨hge k e,ownx.lt (by rw [blkOf_slice]; exact e)⟩)
   have own_n : Own h128 (.slice ad126 P.length cap127) 49 P.length 4 (prow P) := ownx; clear ownx sepo hlo hge g
   refine mP 1023 [7,8,9] [.tuple #[.agg (rc x u hx false (.slice ad126 P.length cap127)).toArray,.int .i64 0],.agg (rc x u hx false (.slice ad126 P.length cap127)).toArray,.int .i64 0] ?_
   refine SimK.eff0 (i := 10) (D' := 2047) (X' := 1535) (by kernel_rfl) (by kernel_rfl) (by kernel_rfl) (by kernel_rfl) (Does.store (b := h116.size) (off := 0) (vs := rc x u hx false (.slice ad126 P.length cap127)) (l := rc rb0 (0 : Int) false false (.slice none 0 0)) (by kernel_rfl) m120 (of_decide_eq_true (by kernel_rfl)) (List.all_eq_true.1 (by kernel_rfl))) ?_
   rintro _ h129 ⟨rfl,hh⟩
   have g130 : Grew (some (h116.size)) h128 h129 := hput_gr hh
   replace m120 : h129[h116.size]? = some (.cells (rc x u hx false (.slice ad126 P.length cap127)).toArray 26) := hput_at (off := 0) (vs := rc x u hx false (.slice ad126 P.length cap127)) (l := (rc rb0 (0 : Int) false false (.slice none 0 0))) hh (by kernel_rfl) m120
   clear hh
   replace e0 := e0.grew g130 (sep.low 1 rfl)
   replace e1 := e1.grew g130 (by rintro _ ⟨⟩; omega)
   replace own_w := own_w.kept g130 (by rw [blkOf_slice]; exact (sep.ap 3 1))
   replace own_n := own_n.kept g130 (by rw [blkOf_slice]; exact (sep.ap 0 1))
   replace m3 := Grew.blk g130 m3 ((sep.bp 4 1))
   replace m112 := Grew.blk g130 m112 ((sep.bp 2 1))
   replace sep := sep.up g130.size
   refine mP 4095 [11] [.int .i64 0] ?_
   refine mD [(1,.slice (some ac) O.length wc),(2,pV h.size),(5,.bool true),(6,nV i),(7,pV h109.size),(8,.int .i64 0),(9,pV h116.size)] ?_
   clear hF a; intro a hF
   refine tK ?_
   refine cS ?_
   refine cD [0,1,3,7,15,7,39,127,255,511,1023,511,511,6655,14847,31231,65535,131071,262143,524287,1048575,524287,2621439,8388607,16777215,33554431,67108863,33554431,33554431,436207615,973078527,2046820351,4294967295,8589934591,17179869183,34359738367,68719476735,137438953471,68719476735,343597383679,1099511627775,2199023255551,4398046511103,8796093022207,17592186044415,35184372088831,70368744177663] 17 mixed hF ?_
   refine mP 15 [0,1,2,3] [.int .i64 0,.bool true,.bool true,.pointer (some ⟨h116.size,35,none⟩)] ?_
   refine mL 31 16 4 (.int .i64 u) (Calm.load (T := 3) (p := ⟨h116.size,35,none⟩) (by kernel_rfl) (Loads.one (k := 1) (by kernel_rfl) ((hcell_blk m120).trans (rfl)))) ?_
   refine mP 63 [5] [.pointer (some ⟨h109.size,35,none⟩)] ?_
   refine mL 127 80 6 (.int .i64 ex) (Calm.load (T := 3) (p := ⟨h109.size,35,none⟩) (by kernel_rfl) (Loads.one (k := 1) (by kernel_rfl) ((hcell_blk m112).trans (rfl)))) ?_
   refine m1 255 7 (.bool false) (.bool (decide (u < ex))) (congrArg Value.bool (decide_eq_false (by omega))) ?_
   refine mP 1023 [8,9] [.bool false,.pointer (some ⟨h116.size,35,none⟩)] ?_
   refine mL 2047 1104 10 (.int .i64 u) (Calm.load (T := 3) (p := ⟨h116.size,35,none⟩) (by kernel_rfl) (Loads.one (k := 1) (by kernel_rfl) ((hcell_blk m120).trans (rfl)))) ?_
   refine mP 8191 [11,12] [.slice (some ac) O.length wc,nV i] ?_
   refine mF 16383 13 (.pointer (some (Addr.add ac (i * 2)))) (Calm.indexA (a := ac) (len := O.length) (sz := 2) (k := ((i : Nat) : Int)) i (i * 2) (by kernel_rfl) rfl (by omega) (by omega)) ?_
   refine m1 32767 14 (.pointer (some (Addr.add ac (i * 2 + 1)))) (.pointer (some ((Addr.add ac (i * 2)).add 1))) (by rw [add_add]) ?_
   refine mL 65535 33872 15 (.int .i64 u) (Calm.load (T := 3) (p := (Addr.add ac (i * 2 + 1))) (by kernel_rfl) (Loads.one (k := 1) (by kernel_rfl) (e0.cell hop.2))) ?_
   refine m1 131071 16 (.bool false) (.bool (decide (u < u))) (congrArg Value.bool (decide_eq_false (by omega))) ?_
   refine mP 1048575 [17,18,19] [.bool false,.bool false,.pointer (some ⟨h116.size,35,none⟩)] ?_
   refine mL 2097151 1082448 20 (.int .i64 u) (Calm.load (T := 3) (p := ⟨h116.size,35,none⟩) (by kernel_rfl) (Loads.one (k := 1) (by kernel_rfl) ((hcell_blk m120).trans (rfl)))) ?_
   refine mP 4194303 [21] [.pointer (some ⟨h109.size,35,none⟩)] ?_
   refine mL 8388607 5276752 22 (.int .i64 ex) (Calm.load (T := 3) (p := ⟨h109.size,35,none⟩) (by kernel_rfl) (Loads.one (k := 1) (by kernel_rfl) ((hcell_blk m112).trans (rfl)))) ?_
   refine m1 16777215 23 (.bool true) (.bool (!(u == ex))) (congrArg (fun b => Value.bool (!b)) (beq_eq_false_iff_ne.2 (by omega))) ?_
   refine mP 67108863 [24,25] [.bool true,.pointer (some ⟨h116.size,35,none⟩)] ?_
   refine mL 134217727 72385616 26 (.int .i64 u) (Calm.load (T := 3) (p := ⟨h116.size,35,none⟩) (by kernel_rfl) (Loads.one (k := 1) (by kernel_rfl) ((hcell_blk m120).trans (rfl)))) ?_
   refine mP 536870911 [27,28] [.slice (some ac) O.length wc,nV i] ?_
   refine mF 1073741823 29 (.pointer (some (Addr.add ac (i * 2)))) (Calm.indexA (a := ac) (len := O.length) (sz := 2) (k := ((i : Nat) : Int)) i (i * 2) (by kernel_rfl) rfl (by omega) (by omega)) ?_
   refine m1 2147483647 30 (.pointer (some (Addr.add ac (i * 2 + 1)))) (.pointer (some ((Addr.add ac (i * 2)).add 1))) (by rw [add_add]) ?_
   refine mL 4294967295 2219869264 31 (.int .i64 u) (Calm.load (T := 3) (p := (Addr.add ac (i * 2 + 1))) (by kernel_rfl) (Loads.one (k := 1) (by kernel_rfl) (e0.cell hop.2))) ?_
   refine m1 8589934591 32 (.bool false) (.bool (!(u == u))) (congrArg (fun b => Value.bool (!b)) (beq_iff_eq.2 (by omega))) ?_
   refine mP 137438953471 [33,34,35,36] [.bool false,.bool false,.bool false,.pointer (some ⟨h116.size,36,none⟩)] ?_
   refine mL 274877906943 139658822736 37 (.bool hx) (Calm.load (T := 4) (p := ⟨h116.size,36,none⟩) (by kernel_rfl) (Loads.one (k := 1) (by kernel_rfl) ((hcell_blk m120).trans (rfl)))) ?_
   refine mP 549755813887 [38] [.pointer (some ⟨h109.size,36,none⟩)] ?_
   refine mL 1099511627775 689414636624 39 (.bool hx) (Calm.load (T := 4) (p := ⟨h109.size,36,none⟩) (by kernel_rfl) (Loads.one (k := 1) (by kernel_rfl) ((hcell_blk m112).trans (rfl)))) ?_
   refine m1 2199023255551 40 (.bool false) (.bool (!(hx == hx))) (congrArg Value.bool (by simp)) ?_
   refine mP 17592186044415 [41,42,43] [.bool false,.bool false,.pointer (some ⟨h116.size,37,none⟩)] ?_
   refine mL 35184372088831 18281600681040 44 (.bool false) (Calm.load (T := 4) (p := ⟨h116.size,37,none⟩) (by kernel_rfl) (Loads.one (k := 1) (by kernel_rfl) ((hcell_blk m120).trans (rfl)))) ?_
   refine mP 140737488355327 [45,46] [.bool false,.bool false] ?_
   refine mD [(1,.slice (some ac) O.length wc),(2,pV h.size),(5,.bool true),(6,nV i),(7,pV h109.size),(8,.int .i64 0),(9,pV h116.size),(141,.bool false)] ?_
   clear hF a; intro a hF
   refine tK ?_
   refine cF 141 hF ?_
   refine cN ?_
   show C Try.prog (sub b7 [1,1,1,0,1,0,0,1,0,0,1,1,1,1]) _ a h129
   refine cS ?_
   refine cP 23 hF ?_
   refine sP 2 [.int .i64 0,.bool true] ?_
   refine sD [(1,.slice (some ac) O.length wc),(2,pV h.size),(5,.bool true),(6,nV i),(7,pV h109.size),(8,.int .i64 0),(9,pV h116.size),(182,.bool true)] ?_
   clear hF a; intro a hF
   refine tK ?_
   refine cT 182 hF ?_
   refine cS ?_
   refine cS ?_
   refine cP 24 hF ?_
   refine sP 1 [pV h116.size] ?_
   refine sC 2 (.string x.id) (Calm.load (T := 9) (p := ⟨h116.size,0,none⟩) (by kernel_rfl) (Loads.one (k := 1) (by kernel_rfl) ((hcell_blk m120).trans (rfl)))) ?_
   refine sP 3 [pV h109.size] ?_
   refine sC 4 (.string x.id) (Calm.load (T := 9) (p := ⟨h109.size,0,none⟩) (by kernel_rfl) (Loads.one (k := 1) (by kernel_rfl) ((hcell_blk m112).trans (rfl)))) ?_
   refine s1 5 (.bool false) (.bool (!(x.id.toList == x.id.toList))) (congrArg Value.bool (by simp)) ?_
   refine sP 7 [.bool false,.pointer (some ⟨h116.size,1,none⟩)] ?_
   refine sC 8 (.int .i64 x.len) (Calm.load (T := 3) (p := ⟨h116.size,1,none⟩) (by kernel_rfl) (Loads.one (k := 1) (by kernel_rfl) ((hcell_blk m120).trans (rfl)))) ?_
   refine sP 9 [.pointer (some ⟨h109.size,1,none⟩)] ?_
   refine sC 10 (.int .i64 x.len) (Calm.load (T := 3) (p := ⟨h109.size,1,none⟩) (by kernel_rfl) (Loads.one (k := 1) (by kernel_rfl) ((hcell_blk m112).trans (rfl)))) ?_
   refine s1 11 (.bool false) (.bool (!(x.len == x.len))) (congrArg (fun b => Value.bool (!b)) (beq_iff_eq.2 (by omega))) ?_
   refine sP 14 [.bool false,.bool false,.pointer (some ⟨h116.size,2,none⟩)] ?_
   refine sC 15 (.agg ((hl x).map bv).toArray) (Calm.load (T := 23) (p := ⟨h116.size,2,none⟩) (by kernel_rfl) (Loads.blk (vs := (hl x).map bv) (by kernel_rfl) m120 rfl)) ?_
   refine sP 16 [.pointer (some ⟨h109.size,2,none⟩)] ?_
   refine sC 17 (.agg ((hl x).map bv).toArray) (Calm.load (T := 23) (p := ⟨h109.size,2,none⟩) (by kernel_rfl) (Loads.blk (vs := (hl x).map bv) (by kernel_rfl) m112 rfl)) ?_
   refine sC 18 (.bool false) ((eqHT (q := false) (l := (hl x)) (r := (hl x)) (n := 32) (by kernel_rfl) rfl rfl rfl) _) ?_
   refine sP 21 [.bool false,.bool false,.pointer (some ⟨h116.size,34,none⟩)] ?_
   refine sC 22 (.int .i64 x.idx) (Calm.load (T := 3) (p := ⟨h116.size,34,none⟩) (by kernel_rfl) (Loads.one (k := 1) (by kernel_rfl) ((hcell_blk m120).trans (rfl)))) ?_
   refine sP 23 [.pointer (some ⟨h109.size,34,none⟩)] ?_
   refine sC 24 (.int .i64 x.idx) (Calm.load (T := 3) (p := ⟨h109.size,34,none⟩) (by kernel_rfl) (Loads.one (k := 1) (by kernel_rfl) ((hcell_blk m112).trans (rfl)))) ?_
   refine s1 25 (.bool false) (.bool (!(x.idx == x.idx))) (congrArg (fun b => Value.bool (!b)) (beq_iff_eq.2 (by omega))) ?_
   refine sP 28 [.bool false,.bool false,.pointer (some ⟨h109.size,37,none⟩)] ?_
   refine sC 29 (.bool false) (Calm.load (T := 4) (p := ⟨h109.size,37,none⟩) (by kernel_rfl) (Loads.one (k := 1) (by kernel_rfl) ((hcell_blk m112).trans (rfl)))) ?_
   refine sP 30 [.bool false] ?_
   refine sD [(1,.slice (some ac) O.length wc),(2,pV h.size),(5,.bool true),(6,nV i),(9,pV h116.size),(212,.bool false)] ?_
   clear hF a; intro a hF
   refine tK ?_
   refine cF 212 hF ?_
   refine cN ?_
   refine tK ?_
   refine cP 26 hF ?_
   refine sC 1 (.agg (rc x u hx false (.slice ad126 P.length cap127)).toArray) (Calm.load (T := 26) (p := ⟨h116.size,0,none⟩) (by kernel_rfl) (Loads.blk (vs := rc x u hx false (.slice ad126 P.length cap127)) (by kernel_rfl) m120 rfl)) ?_
   refine SeqK.eff (k' := 2) (Does.store (b := h.size) (off := 0) (vs := rc x u hx false (.slice ad126 P.length cap127)) (l := rc x ex hx false (.slice rd P.length rcp)) (by kernel_rfl) m3 (of_decide_eq_true (by kernel_rfl)) (List.all_eq_true.1 (by kernel_rfl))) rfl ?_
   rintro _ h131 ⟨rfl,hh⟩
   have g132 : Grew (some (h.size)) h129 h131 := hput_gr hh
   replace m3 : h131[h.size]? = some (.cells (rc x u hx false (.slice ad126 P.length cap127)).toArray 26) := hput_at (off := 0) (vs := rc x u hx false (.slice ad126 P.length cap127)) (l := (rc x ex hx false (.slice rd P.length rcp))) hh (by kernel_rfl) m3
   clear hh
   replace e0 := e0.grew g132 (sep.low 4 rfl)
   clear e1
   replace own_w := own_w.kept g132 (by rw [blkOf_slice]; exact (sep.ap 3 4))
   replace own_n := own_n.kept g132 (by rw [blkOf_slice]; exact (sep.ap 0 4))
   replace m112 := Grew.blk g132 m112 ((sep.bp 2 4))
   replace m120 := Grew.blk g132 m120 ((sep.bp 1 4))
   replace sep := sep.up g132.size
   refine sD [(1,.slice (some ac) O.length wc),(2,pV h.size),(5,.bool true),(6,nV i)] ?_
   clear hF a; intro a hF
   show C Try.prog (sub b7 [1,1,1,0,1,0,0,1,1]) _ a h131
   refine cP 6 hF ?_
   refine sP 1 [nV i] ?_
   refine s1 2 (.int .i64 ((i + 1 : Nat) : Int)) (.int .i64 (IntKind.i64.wrap (((i : Nat) : Int) + 1))) (congrArg (Value.int .i64) (w64' (by omega) (by omega) (by omega))) ?_
   refine sP 3 [nV (i + 1)] ?_
   refine sD [(1,.slice (some ac) O.length wc),(2,pV h.size),(5,.bool true),(6,nV (i + 1))] ?_
   clear hF a; intro a hF
   have fsep : Sep h.size h131.size [some h.size] := sep.pick [4] rfl (by decide)
   have fr := own_n.row; have fP := hP
   show ∃ m',m' < _ ∧ _
   refine ⟨_,?_,(i + 1),u,hx,false,P,ad126,cap127,rfl,e0,(by omega),m3,fr,fP,fsep,hF⟩
   omega
  ·skip
   have hk0 : kindZ kd ≠ 0 := by omega
   have hk1 : kindZ kd = 1 := by omega
   refine cP 7 hF ?_
   refine sC 1 (.agg (rc x ex hx true (.slice rd P.length rcp)).toArray) (Calm.load (T := 26) (p := ⟨h.size,0,none⟩) (by kernel_rfl) (Loads.blk (vs := rc x ex hx true (.slice rd P.length rcp)) (by kernel_rfl) m3 rfl)) ?_
   refine SeqK.eff (k' := 2) (Does.call (f := 11) (args := #[.agg (rc x ex hx true (.slice rd P.length rcp)).toArray]) (by kernel_rfl) (copied_sat _ x ex hx true P rd rcp (hrow.ext e1) hP)) rfl ?_
   rintro _ h135 ⟨_,rfl,ad133,cap134,rfl,ownx,hge,g⟩
   have hlo := e0.size
   have sepo := sep
   replace e0 := e0.ext g
   replace e1 := e1.ext g
   replace m3 := Ext.blk g m3
   replace sep := sep.up g.size
   replace sep := sepo.cons (x := ad133.map (fun (x : Addr) => x.block)) g.size hlo (fun k e => ⟨hge k e,ownx.lt (by rw [blkOf_slice]; exact e)⟩)
   have own_w : Own h135 (.slice ad133 P.length cap134) 49 P.length 4 (prow P) := ownx; clear ownx sepo hlo hge g
   refine SeqK.eff (k' := 3) (Does.new (v := .pointer (some ⟨h135.size,0,none⟩)) (o := .cells (rc rb0 (0 : Int) false false (.slice none 0 0)).toArray 26) (by kernel_rfl)) rfl ?_
   rintro _ h136 ⟨rfl,hh⟩
   have g137 : Ext h135 h136 := push_ext hh
   have m138 : h136[h135.size]? = some (.cells (rc rb0 (0 : Int) false false (.slice none 0 0)).toArray 26) := push_at hh
   clear hh
   have lt139 := blk_lt m138
   have zs140 := e0.size
   have zs141 := e1.size
   have hlo := e0.size
   have sepo := sep
   replace e0 := e0.ext g137
   replace e1 := e1.ext g137
   replace own_w := own_w.ext g137
   replace m3 := Ext.blk g137 m3
   replace sep := sep.up g137.size
   replace sep := sepo.new hlo (blk_lt m138)
   clear sepo hlo
   refine SeqK.eff (k' := 4) (Does.store (b := h135.size) (off := 0) (vs := rc x ex hx true (.slice ad133 P.length cap134)) (l := rc rb0 (0 : Int) false false (.slice none 0 0)) (by kernel_rfl) m138 (of_decide_eq_true (by kernel_rfl)) (List.all_eq_true.1 (by kernel_rfl))) rfl ?_
   rintro _ h142 ⟨rfl,hh⟩
   have g143 : Grew (some (h135.size)) h136 h142 := hput_gr hh
   replace m138 : h142[h135.size]? = some (.cells (rc x ex hx true (.slice ad133 P.length cap134)).toArray 26) := hput_at (off := 0) (vs := rc x ex hx true (.slice ad133 P.length cap134)) (l := (rc rb0 (0 : Int) false false (.slice none 0 0))) hh (by kernel_rfl) m138
   clear hh
   replace e0 := e0.grew g143 (sep.low 0 rfl)
   replace e1 := e1.grew g143 (by rintro _ ⟨⟩; omega)
   replace own_w := own_w.kept g143 (by rw [blkOf_slice]; exact (sep.ap 1 0))
   replace m3 := Grew.blk g143 m3 ((sep.bp 2 0))
   replace sep := sep.up g143.size
   refine sD [(1,.slice (some ac) O.length wc),(2,pV h.size),(5,.bool true),(6,nV i),(7,pV h135.size)] ?_
   clear hF a; intro a hF
   refine tK ?_
   refine cS ?_
   refine cP 8 hF ?_
   refine sP 1 [.int .i64 0] ?_
   refine sD [(1,.slice (some ac) O.length wc),(2,pV h.size),(5,.bool true),(6,nV i),(7,pV h135.size)] ?_
   clear hF a; intro a hF
   refine tK ?_
   refine cS ?_
   refine cP 9 hF ?_
   refine sP 1 [.agg (rc rb0 (0 : Int) false false (.slice none 0 0)).toArray] ?_
   refine SeqK.eff (k' := 2) (Does.new (v := .pointer (some ⟨h142.size,0,none⟩)) (o := .cells (rc rb0 (0 : Int) false false (.slice none 0 0)).toArray 26) (by kernel_rfl)) rfl ?_
   rintro _ h144 ⟨rfl,hh⟩
   have g145 : Ext h142 h144 := push_ext hh
   have m146 : h144[h142.size]? = some (.cells (rc rb0 (0 : Int) false false (.slice none 0 0)).toArray 26) := push_at hh
   clear hh
   have lt147 := blk_lt m146
   have zs148 := e0.size
   have zs149 := e1.size
   have hlo := e0.size
   have sepo := sep
   replace e0 := e0.ext g145
   replace e1 := e1.ext g145
   replace own_w := own_w.ext g145
   replace m3 := Ext.blk g145 m3
   replace m138 := Ext.blk g145 m138
   replace sep := sep.up g145.size
   replace sep := sepo.new hlo (blk_lt m146)
   clear sepo hlo
   refine SeqK.eff (k' := 3) (Does.store (b := h142.size) (off := 0) (vs := rc rb0 (0 : Int) false false (.slice none 0 0)) (l := rc rb0 (0 : Int) false false (.slice none 0 0)) (by kernel_rfl) m146 (of_decide_eq_true (by kernel_rfl)) (List.all_eq_true.1 (by kernel_rfl))) rfl ?_
   rintro _ h150 ⟨rfl,hh⟩
   have g151 : Grew (some (h142.size)) h144 h150 := hput_gr hh
   replace m146 : h150[h142.size]? = some (.cells (rc rb0 (0 : Int) false false (.slice none 0 0)).toArray 26) := hput_at (off := 0) (vs := rc rb0 (0 : Int) false false (.slice none 0 0)) (l := (rc rb0 (0 : Int) false false (.slice none 0 0))) hh (by kernel_rfl) m146
   clear hh
   replace e0 := e0.grew g151 (sep.low 0 rfl)
   replace e1 := e1.grew g151 (by rintro _ ⟨⟩; omega)
   replace own_w := own_w.kept g151 (by rw [blkOf_slice]; exact (sep.ap 2 0))
   replace m3 := Grew.blk g151 m3 ((sep.bp 3 0))
   replace m138 := Grew.blk g151 m138 ((sep.bp 1 0))
   replace sep := sep.up g151.size
   refine sD [(1,.slice (some ac) O.length wc),(2,pV h.size),(5,.bool true),(6,nV i),(7,pV h135.size),(9,pV h142.size)] ?_
   clear hF a; intro a hF
   refine tK ?_
   refine cS ?_
   refine cS ?_
   refine cP 10 hF ?_
   refine sP 2 [.slice (some ac) O.length wc,nV i] ?_
   refine sC 3 (.pointer (some (Addr.add ac (i * 2)))) ((Calm.indexA (a := ac) (len := O.length) (sz := 2) (k := ((i : Nat) : Int)) i (i * 2) (by kernel_rfl) rfl (by omega) (by omega)) _) ?_
   refine sP 4 [.pointer (some (Addr.add ac (i * 2)))] ?_
   refine sC 5 (.int .i64 kd) (Calm.load (T := 3) (p := (Addr.add ac (i * 2))) (by kernel_rfl) (Loads.one (k := 1) (by kernel_rfl) (e0.cell hop.1))) ?_
   refine sC 6 (.int .i64 (kindZ kd)) (Does.call (f := 22) (args := #[.int .i64 kd]) (by kernel_rfl) (kind_sat _ kd hkb.1 hkb.2)) ?_
   refine sD [(1,.slice (some ac) O.length wc),(2,pV h.size),(5,.bool true),(6,nV i),(7,pV h135.size),(9,pV h142.size),(28,.int .i64 (kindZ kd))] ?_
   clear hF a; intro a hF
   refine tK ?_
   refine cB 2 ?_
   refine cS ?_
   refine cP 15 hF ?_
   refine s1 1 (.bool false) (.bool ((kindZ kd) == (0 : Int))) (congrArg Value.bool (beq_eq_false_iff_ne.2 (by omega))) ?_
   refine sP 2 [.bool false] ?_
   refine sD [(1,.slice (some ac) O.length wc),(2,pV h.size),(5,.bool true),(6,nV i),(7,pV h135.size),(9,pV h142.size),(28,.int .i64 (kindZ kd)),(83,.bool false)] ?_
   clear hF a; intro a hF
   refine tK ?_
   refine cF 83 hF ?_
   refine cS ?_
   refine cP 19 hF ?_
   refine s1 1 (.bool true) (.bool ((kindZ kd) == (1 : Int))) (congrArg Value.bool (beq_iff_eq.2 (by omega))) ?_
   refine sP 2 [.bool true] ?_
   refine sD [(1,.slice (some ac) O.length wc),(2,pV h.size),(5,.bool true),(6,nV i),(7,pV h135.size),(9,pV h142.size),(142,.bool true)] ?_
   clear hF a; intro a hF
   refine tK ?_
   refine cT 142 hF ?_
   refine cS ?_
   refine cD [0,0,0,6,14,30,62,126,255,511,1023,1023,2047,8191] 20 mixed hF ?_
   refine mL 1 1 0 (.agg (rc x ex hx true (.slice rd P.length rcp)).toArray) (Calm.load (T := 26) (p := ⟨h.size,0,none⟩) (by kernel_rfl) (Loads.blk (vs := rc x ex hx true (.slice rd P.length rcp)) (by kernel_rfl) m3 rfl)) ?_
   refine mP 7 [1,2] [.slice (some ac) O.length wc,nV i] ?_
   refine mF 15 3 (.pointer (some (Addr.add ac (i * 2)))) (Calm.indexA (a := ac) (len := O.length) (sz := 2) (k := ((i : Nat) : Int)) i (i * 2) (by kernel_rfl) rfl (by omega) (by omega)) ?_
   refine m1 31 4 (.pointer (some (Addr.add ac (i * 2 + 1)))) (.pointer (some ((Addr.add ac (i * 2)).add 1))) (by rw [add_add]) ?_
   refine mL 63 33 5 (.int .i64 u) (Calm.load (T := 3) (p := (Addr.add ac (i * 2 + 1))) (by kernel_rfl) (Loads.one (k := 1) (by kernel_rfl) (e0.cell hop.2))) ?_
   refine mP 255 [6,7] [.int .i64 (Int.tmod u 2),.bool (!decide ((Int.tmod u 2) = (0 : Int)))] ?_
   refine SimK.eff0 (i := 8) (D' := 511) (X' := 511) (by kernel_rfl) (by kernel_rfl) (by kernel_rfl) (by kernel_rfl) (Does.call (f := 16) (args := #[.agg (rc x ex hx true (.slice rd P.length rcp)).toArray,.bool (!decide ((Int.tmod u 2) = (0 : Int)))]) (by kernel_rfl) (hold_gone _ x ex hx P rd rcp (!decide ((Int.tmod u 2) = (0 : Int))))) ?_
   rintro _ h152 ⟨rfl,g⟩
   replace e0 := e0.ext g
   replace e1 := e1.ext g
   replace own_w := own_w.ext g
   replace m3 := Ext.blk g m3
   replace m138 := Ext.blk g m138
   replace m146 := Ext.blk g m146
   replace sep := sep.up g.size
   clear g
   refine mP 4095 [9,10,11] [.tuple #[.agg (rc rb0 (0 : Int) false false (.slice none 0 0)).toArray,.int .i64 213],.agg (rc rb0 (0 : Int) false false (.slice none 0 0)).toArray,.int .i64 213] ?_
   refine SimK.eff0 (i := 12) (D' := 8191) (X' := 6143) (by kernel_rfl) (by kernel_rfl) (by kernel_rfl) (by kernel_rfl) (Does.store (b := h142.size) (off := 0) (vs := rc rb0 (0 : Int) false false (.slice none 0 0)) (l := rc rb0 (0 : Int) false false (.slice none 0 0)) (by kernel_rfl) m146 (of_decide_eq_true (by kernel_rfl)) (List.all_eq_true.1 (by kernel_rfl))) ?_
   rintro _ h153 ⟨rfl,hh⟩
   have g154 : Grew (some (h142.size)) h152 h153 := hput_gr hh
   replace m146 : h153[h142.size]? = some (.cells (rc rb0 (0 : Int) false false (.slice none 0 0)).toArray 26) := hput_at (off := 0) (vs := rc rb0 (0 : Int) false false (.slice none 0 0)) (l := (rc rb0 (0 : Int) false false (.slice none 0 0))) hh (by kernel_rfl) m146
   clear hh
   replace e0 := e0.grew g154 (sep.low 0 rfl)
   replace e1 := e1.grew g154 (by rintro _ ⟨⟩; omega)
   replace own_w := own_w.kept g154 (by rw [blkOf_slice]; exact (sep.ap 2 0))
   replace m3 := Grew.blk g154 m3 ((sep.bp 3 0))
   replace m138 := Grew.blk g154 m138 ((sep.bp 1 0))
   replace sep := sep.up g154.size
   refine mP 16383 [13] [.int .i64 213] ?_
   refine mD [(1,.slice (some ac) O.length wc),(2,pV h.size),(5,.bool true),(6,nV i),(7,pV h135.size),(8,.int .i64 213),(9,pV h142.size)] ?_
   clear hF a; intro a hF
   refine tK ?_
   refine cS ?_
   refine cD [0,1,3,7,15,7,7,103,231,487,999,2023,4095,8191,16383,32767,16383,81919,262143,524287,1048575,2097151,4194303,8388607,16777215] 21 mixed hF ?_
   refine mP 33554431 [0,1,2,3,4,5,6,7,8,9,10,11,12,13,14,15,16,17,18,19,20,21,22,23,24] [.int .i64 213,.bool false,.bool false,undef,undef,undef,undef,undef,undef,undef,undef,undef,undef,undef,undef,undef,undef,undef,undef,undef,undef,undef,undef,undef,.bool false] ?_
   refine mD [(1,.slice (some ac) O.length wc),(2,pV h.size),(5,.bool true),(6,nV i),(7,pV h135.size),(8,.int .i64 213),(9,pV h142.size),(180,.bool false)] ?_
   clear hF a; intro a hF
   refine tK ?_
   refine cF 180 hF ?_
   refine cN ?_
   show C Try.prog (sub b7 [1,1,1,0,1,0,0,1,0,0,1,1,1,1]) _ a h153
   refine cS ?_
   refine cP 23 hF ?_
   refine sP 2 [.int .i64 213,.bool false] ?_
   refine sD [(1,.slice (some ac) O.length wc),(2,pV h.size),(5,.bool true),(6,nV i),(7,pV h135.size),(8,.int .i64 213),(9,pV h142.size),(182,.bool false)] ?_
   clear hF a; intro a hF
   refine tK ?_
   refine cF 182 hF ?_
   refine cS ?_
   refine cP 27 hF ?_
   refine sC 1 (.agg (rc x ex hx true (.slice rd P.length rcp)).toArray) (Calm.load (T := 26) (p := ⟨h.size,0,none⟩) (by kernel_rfl) (Loads.blk (vs := rc x ex hx true (.slice rd P.length rcp)) (by kernel_rfl) m3 rfl)) ?_
   refine sC 2 (.agg (rc x ex hx true (.slice ad133 P.length cap134)).toArray) (Calm.load (T := 26) (p := ⟨h135.size,0,none⟩) (by kernel_rfl) (Loads.blk (vs := rc x ex hx true (.slice ad133 P.length cap134)) (by kernel_rfl) m138 rfl)) ?_
   refine SeqK.eff (k' := 3) (Does.call (f := 14) (args := #[.agg (rc x ex hx true (.slice rd P.length rcp)).toArray,.agg (rc x ex hx true (.slice ad133 P.length cap134)).toArray]) (by kernel_rfl) (same_sat _ x ex hx true P rd rcp (hrow.ext e1) hP ad133 cap134 own_w.row)) rfl ?_
   rintro _ h155 ⟨rfl,g⟩
   replace e0 := e0.ext g
   replace e1 := e1.ext g
   replace own_w := own_w.ext g
   replace m3 := Ext.blk g m3
   replace m138 := Ext.blk g m138
   replace m146 := Ext.blk g m146
   replace sep := sep.up g.size
   clear g
   refine sP 5 [.bool false,.bool false] ?_
   refine sC 6 (.agg (rc rb0 (0 : Int) false false (.slice none 0 0)).toArray) (Calm.load (T := 26) (p := ⟨h142.size,0,none⟩) (by kernel_rfl) (Loads.blk (vs := rc rb0 (0 : Int) false false (.slice none 0 0)) (by kernel_rfl) m146 rfl)) ?_
   refine sP 7 [.agg (rc rb0 (0 : Int) false false (.slice none 0 0)).toArray] ?_
   refine SeqK.eff (k' := 8) (Does.call (f := 14) (args := #[.agg (rc rb0 (0 : Int) false false (.slice none 0 0)).toArray,.agg (rc rb0 (0 : Int) false false (.slice none 0 0)).toArray]) (by kernel_rfl) (same_sat _ rb0 0 false false [] none 0 (Row.nil _ 4) (by decide) none 0 (Row.nil _ 4))) rfl ?_
   rintro _ h156 ⟨rfl,g⟩
   replace e0 := e0.ext g
   replace e1 := e1.ext g
   replace own_w := own_w.ext g
   replace m3 := Ext.blk g m3
   replace m138 := Ext.blk g m138
   replace m146 := Ext.blk g m146
   replace sep := sep.up g.size
   clear g
   refine sP 12 [.bool false,.bool false,.bool false,.pointer (some ⟨h135.size,37,none⟩)] ?_
   refine sC 13 (.bool true) (Calm.load (T := 4) (p := ⟨h135.size,37,none⟩) (by kernel_rfl) (Loads.one (k := 1) (by kernel_rfl) ((hcell_blk m138).trans (rfl)))) ?_
   refine sP 22 [.bool true,.int .i64 213,.bool false,.bool false,.bool false,undef,undef,.bool false,.bool false] ?_
   refine sD [(1,.slice (some ac) O.length wc),(2,pV h.size),(5,.bool true),(6,nV i),(235,.bool false)] ?_
   clear hF a; intro a hF
   refine tK ?_
   refine cF 235 hF ?_
   refine cN ?_
   show C Try.prog (sub b7 [1,1,1,0,1,0,0,1,1]) _ a h156
   refine cP 6 hF ?_
   refine sP 1 [nV i] ?_
   refine s1 2 (.int .i64 ((i + 1 : Nat) : Int)) (.int .i64 (IntKind.i64.wrap (((i : Nat) : Int) + 1))) (congrArg (Value.int .i64) (w64' (by omega) (by omega) (by omega))) ?_
   refine sP 3 [nV (i + 1)] ?_
   refine sD [(1,.slice (some ac) O.length wc),(2,pV h.size),(5,.bool true),(6,nV (i + 1))] ?_
   clear hF a; intro a hF
   have fsep : Sep h.size h156.size [some h.size] := sep.pick [3] rfl (by decide)
   have fr := hrow.ext e1; have fP := hP
   show ∃ m',m' < _ ∧ _
   refine ⟨_,?_,(i + 1),ex,hx,true,P,rd,rcp,rfl,e0,(by omega),m3,fr,fP,fsep,hF⟩
   omega
  ·skip
   have hk0 : kindZ kd ≠ 0 := by omega
   have hk1 : kindZ kd = 1 := by omega
   refine cP 7 hF ?_
   refine sC 1 (.agg (rc x ex hx false (.slice rd P.length rcp)).toArray) (Calm.load (T := 26) (p := ⟨h.size,0,none⟩) (by kernel_rfl) (Loads.blk (vs := rc x ex hx false (.slice rd P.length rcp)) (by kernel_rfl) m3 rfl)) ?_
   refine SeqK.eff (k' := 2) (Does.call (f := 11) (args := #[.agg (rc x ex hx false (.slice rd P.length rcp)).toArray]) (by kernel_rfl) (copied_sat _ x ex hx false P rd rcp (hrow.ext e1) hP)) rfl ?_
   rintro _ h159 ⟨_,rfl,ad157,cap158,rfl,ownx,hge,g⟩
   have hlo := e0.size
   have sepo := sep
   replace e0 := e0.ext g
   replace e1 := e1.ext g
   replace m3 := Ext.blk g m3
   replace sep := sep.up g.size
   replace sep := sepo.cons (x := ad157.map (fun (x : Addr) => x.block)) g.size hlo (fun k e => ⟨hge k e,ownx.lt (by rw [blkOf_slice]; exact e)⟩)
   have own_w : Own h159 (.slice ad157 P.length cap158) 49 P.length 4 (prow P) := ownx; clear ownx sepo hlo hge g
   refine SeqK.eff (k' := 3) (Does.new (v := .pointer (some ⟨h159.size,0,none⟩)) (o := .cells (rc rb0 (0 : Int) false false (.slice none 0 0)).toArray 26) (by kernel_rfl)) rfl ?_
   rintro _ h160 ⟨rfl,hh⟩
   have g161 : Ext h159 h160 := push_ext hh
   have m162 : h160[h159.size]? = some (.cells (rc rb0 (0 : Int) false false (.slice none 0 0)).toArray 26) := push_at hh
   clear hh
   have lt163 := blk_lt m162
   have zs164 := e0.size
   have zs165 := e1.size
   have hlo := e0.size
   have sepo := sep
   replace e0 := e0.ext g161
   replace e1 := e1.ext g161
   replace own_w := own_w.ext g161
   replace m3 := Ext.blk g161 m3
   replace sep := sep.up g161.size
   replace sep := sepo.new hlo (blk_lt m162)
   clear sepo hlo
   refine SeqK.eff (k' := 4) (Does.store (b := h159.size) (off := 0) (vs := rc x ex hx false (.slice ad157 P.length cap158)) (l := rc rb0 (0 : Int) false false (.slice none 0 0)) (by kernel_rfl) m162 (of_decide_eq_true (by kernel_rfl)) (List.all_eq_true.1 (by kernel_rfl))) rfl ?_
   rintro _ h166 ⟨rfl,hh⟩
   have g167 : Grew (some (h159.size)) h160 h166 := hput_gr hh
   replace m162 : h166[h159.size]? = some (.cells (rc x ex hx false (.slice ad157 P.length cap158)).toArray 26) := hput_at (off := 0) (vs := rc x ex hx false (.slice ad157 P.length cap158)) (l := (rc rb0 (0 : Int) false false (.slice none 0 0))) hh (by kernel_rfl) m162
   clear hh
   replace e0 := e0.grew g167 (sep.low 0 rfl)
   replace e1 := e1.grew g167 (by rintro _ ⟨⟩; omega)
   replace own_w := own_w.kept g167 (by rw [blkOf_slice]; exact (sep.ap 1 0))
   replace m3 := Grew.blk g167 m3 ((sep.bp 2 0))
   replace sep := sep.up g167.size
   refine sD [(1,.slice (some ac) O.length wc),(2,pV h.size),(5,.bool true),(6,nV i),(7,pV h159.size)] ?_
   clear hF a; intro a hF
   refine tK ?_
   refine cS ?_
   refine cP 8 hF ?_
   refine sP 1 [.int .i64 0] ?_
   refine sD [(1,.slice (some ac) O.length wc),(2,pV h.size),(5,.bool true),(6,nV i),(7,pV h159.size)] ?_
   clear hF a; intro a hF
   refine tK ?_
   refine cS ?_
   refine cP 9 hF ?_
   refine sP 1 [.agg (rc rb0 (0 : Int) false false (.slice none 0 0)).toArray] ?_
   refine SeqK.eff (k' := 2) (Does.new (v := .pointer (some ⟨h166.size,0,none⟩)) (o := .cells (rc rb0 (0 : Int) false false (.slice none 0 0)).toArray 26) (by kernel_rfl)) rfl ?_
   rintro _ h168 ⟨rfl,hh⟩
   have g169 : Ext h166 h168 := push_ext hh
   have m170 : h168[h166.size]? = some (.cells (rc rb0 (0 : Int) false false (.slice none 0 0)).toArray 26) := push_at hh
   clear hh
   have lt171 := blk_lt m170
   have zs172 := e0.size
   have zs173 := e1.size
   have hlo := e0.size
   have sepo := sep
   replace e0 := e0.ext g169
   replace e1 := e1.ext g169
   replace own_w := own_w.ext g169
   replace m3 := Ext.blk g169 m3
   replace m162 := Ext.blk g169 m162
   replace sep := sep.up g169.size
   replace sep := sepo.new hlo (blk_lt m170)
   clear sepo hlo
   refine SeqK.eff (k' := 3) (Does.store (b := h166.size) (off := 0) (vs := rc rb0 (0 : Int) false false (.slice none 0 0)) (l := rc rb0 (0 : Int) false false (.slice none 0 0)) (by kernel_rfl) m170 (of_decide_eq_true (by kernel_rfl)) (List.all_eq_true.1 (by kernel_rfl))) rfl ?_
   rintro _ h174 ⟨rfl,hh⟩
   have g175 : Grew (some (h166.size)) h168 h174 := hput_gr hh
   replace m170 : h174[h166.size]? = some (.cells (rc rb0 (0 : Int) false false (.slice none 0 0)).toArray 26) := hput_at (off := 0) (vs := rc rb0 (0 : Int) false false (.slice none 0 0)) (l := (rc rb0 (0 : Int) false false (.slice none 0 0))) hh (by kernel_rfl) m170
   clear hh
   replace e0 := e0.grew g175 (sep.low 0 rfl)
   replace e1 := e1.grew g175 (by rintro _ ⟨⟩; omega)
   replace own_w := own_w.kept g175 (by rw [blkOf_slice]; exact (sep.ap 2 0))
   replace m3 := Grew.blk g175 m3 ((sep.bp 3 0))
   replace m162 := Grew.blk g175 m162 ((sep.bp 1 0))
   replace sep := sep.up g175.size
   refine sD [(1,.slice (some ac) O.length wc),(2,pV h.size),(5,.bool true),(6,nV i),(7,pV h159.size),(9,pV h166.size)] ?_
   clear hF a; intro a hF
   refine tK ?_
   refine cS ?_
   refine cS ?_
   refine cP 10 hF ?_
   refine sP 2 [.slice (some ac) O.length wc,nV i] ?_
   refine sC 3 (.pointer (some (Addr.add ac (i * 2)))) ((Calm.indexA (a := ac) (len := O.length) (sz := 2) (k := ((i : Nat) : Int)) i (i * 2) (by kernel_rfl) rfl (by omega) (by omega)) _) ?_
   refine sP 4 [.pointer (some (Addr.add ac (i * 2)))] ?_
   refine sC 5 (.int .i64 kd) (Calm.load (T := 3) (p := (Addr.add ac (i * 2))) (by kernel_rfl) (Loads.one (k := 1) (by kernel_rfl) (e0.cell hop.1))) ?_
   refine sC 6 (.int .i64 (kindZ kd)) (Does.call (f := 22) (args := #[.int .i64 kd]) (by kernel_rfl) (kind_sat _ kd hkb.1 hkb.2)) ?_
   refine sD [(1,.slice (some ac) O.length wc),(2,pV h.size),(5,.bool true),(6,nV i),(7,pV h159.size),(9,pV h166.size),(28,.int .i64 (kindZ kd))] ?_
   clear hF a; intro a hF
   refine tK ?_
   refine cB 2 ?_
   refine cS ?_
   refine cP 15 hF ?_
   refine s1 1 (.bool false) (.bool ((kindZ kd) == (0 : Int))) (congrArg Value.bool (beq_eq_false_iff_ne.2 (by omega))) ?_
   refine sP 2 [.bool false] ?_
   refine sD [(1,.slice (some ac) O.length wc),(2,pV h.size),(5,.bool true),(6,nV i),(7,pV h159.size),(9,pV h166.size),(28,.int .i64 (kindZ kd)),(83,.bool false)] ?_
   clear hF a; intro a hF
   refine tK ?_
   refine cF 83 hF ?_
   refine cS ?_
   refine cP 19 hF ?_
   refine s1 1 (.bool true) (.bool ((kindZ kd) == (1 : Int))) (congrArg Value.bool (beq_iff_eq.2 (by omega))) ?_
   refine sP 2 [.bool true] ?_
   refine sD [(1,.slice (some ac) O.length wc),(2,pV h.size),(5,.bool true),(6,nV i),(7,pV h159.size),(9,pV h166.size),(142,.bool true)] ?_
   clear hF a; intro a hF
   refine tK ?_
   refine cT 142 hF ?_
   refine cS ?_
   refine cD [0,0,0,6,14,30,62,126,255,511,1023,1023,2047,8191] 20 mixed hF ?_
   refine mL 1 1 0 (.agg (rc x ex hx false (.slice rd P.length rcp)).toArray) (Calm.load (T := 26) (p := ⟨h.size,0,none⟩) (by kernel_rfl) (Loads.blk (vs := rc x ex hx false (.slice rd P.length rcp)) (by kernel_rfl) m3 rfl)) ?_
   refine mP 7 [1,2] [.slice (some ac) O.length wc,nV i] ?_
   refine mF 15 3 (.pointer (some (Addr.add ac (i * 2)))) (Calm.indexA (a := ac) (len := O.length) (sz := 2) (k := ((i : Nat) : Int)) i (i * 2) (by kernel_rfl) rfl (by omega) (by omega)) ?_
   refine m1 31 4 (.pointer (some (Addr.add ac (i * 2 + 1)))) (.pointer (some ((Addr.add ac (i * 2)).add 1))) (by rw [add_add]) ?_
   refine mL 63 33 5 (.int .i64 u) (Calm.load (T := 3) (p := (Addr.add ac (i * 2 + 1))) (by kernel_rfl) (Loads.one (k := 1) (by kernel_rfl) (e0.cell hop.2))) ?_
   refine mP 255 [6,7] [.int .i64 (Int.tmod u 2),.bool (!decide ((Int.tmod u 2) = (0 : Int)))] ?_
   refine SimK.eff0 (i := 8) (D' := 511) (X' := 511) (by kernel_rfl) (by kernel_rfl) (by kernel_rfl) (by kernel_rfl) (Does.call (f := 16) (args := #[.agg (rc x ex hx false (.slice rd P.length rcp)).toArray,.bool (!decide ((Int.tmod u 2) = (0 : Int)))]) (by kernel_rfl) (hold_ok _ x ex hx P rd rcp (hrow.ext e1) hP (!decide ((Int.tmod u 2) = (0 : Int))))) ?_
   rintro _ h178 ⟨_,rfl,ad176,cap177,rfl,ownx,hge,g⟩
   have hlo := e0.size
   have sepo := sep
   replace e0 := e0.ext g
   replace e1 := e1.ext g
   replace own_w := own_w.ext g
   replace m3 := Ext.blk g m3
   replace m162 := Ext.blk g m162
   replace m170 := Ext.blk g m170
   replace sep := sep.up g.size
   replace sep := sepo.cons (x := ad176.map (fun (x : Addr) => x.block)) g.size hlo (fun k e => ⟨hge k e,ownx.lt (by rw [blkOf_slice]; exact e)⟩)
   have own_n : Own h178 (.slice ad176 P.length cap177) 49 P.length 4 (prow P) := ownx; clear ownx sepo hlo hge g
   refine mP 4095 [9,10,11] [.tuple #[.agg (rc x ex (!decide ((Int.tmod u 2) = (0 : Int))) false (.slice ad176 P.length cap177)).toArray,.int .i64 0],.agg (rc x ex (!decide ((Int.tmod u 2) = (0 : Int))) false (.slice ad176 P.length cap177)).toArray,.int .i64 0] ?_
   refine SimK.eff0 (i := 12) (D' := 8191) (X' := 6143) (by kernel_rfl) (by kernel_rfl) (by kernel_rfl) (by kernel_rfl) (Does.store (b := h166.size) (off := 0) (vs := rc x ex (!decide ((Int.tmod u 2) = (0 : Int))) false (.slice ad176 P.length cap177)) (l := rc rb0 (0 : Int) false false (.slice none 0 0)) (by kernel_rfl) m170 (of_decide_eq_true (by kernel_rfl)) (List.all_eq_true.1 (by kernel_rfl))) ?_
   rintro _ h179 ⟨rfl,hh⟩
   have g180 : Grew (some (h166.size)) h178 h179 := hput_gr hh
   replace m170 : h179[h166.size]? = some (.cells (rc x ex (!decide ((Int.tmod u 2) = (0 : Int))) false (.slice ad176 P.length cap177)).toArray 26) := hput_at (off := 0) (vs := rc x ex (!decide ((Int.tmod u 2) = (0 : Int))) false (.slice ad176 P.length cap177)) (l := (rc rb0 (0 : Int) false false (.slice none 0 0))) hh (by kernel_rfl) m170
   clear hh
   replace e0 := e0.grew g180 (sep.low 1 rfl)
   replace e1 := e1.grew g180 (by rintro _ ⟨⟩; omega)
   replace own_w := own_w.kept g180 (by rw [blkOf_slice]; exact (sep.ap 3 1))
   replace own_n := own_n.kept g180 (by rw [blkOf_slice]; exact (sep.ap 0 1))
   replace m3 := Grew.blk g180 m3 ((sep.bp 4 1))
   replace m162 := Grew.blk g180 m162 ((sep.bp 2 1))
   replace sep := sep.up g180.size
   refine mP 16383 [13] [.int .i64 0] ?_
   refine mD [(1,.slice (some ac) O.length wc),(2,pV h.size),(5,.bool true),(6,nV i),(7,pV h159.size),(8,.int .i64 0),(9,pV h166.size)] ?_
   clear hF a; intro a hF
   refine tK ?_
   refine cS ?_
   refine cD [0,1,3,7,15,7,7,103,231,487,999,2023,4095,8191,16383,32767,16383,81919,262143,524287,1048575,2097151,4194303,8388607,16777215] 21 mixed hF ?_
   refine mP 15 [0,1,2,3] [.int .i64 0,.bool true,.bool true,.pointer (some ⟨h166.size,36,none⟩)] ?_
   refine mL 31 16 4 (.bool (!decide ((Int.tmod u 2) = (0 : Int)))) (Calm.load (T := 4) (p := ⟨h166.size,36,none⟩) (by kernel_rfl) (Loads.one (k := 1) (by kernel_rfl) ((hcell_blk m170).trans (rfl)))) ?_
   refine mP 127 [5,6] [.slice (some ac) O.length wc,nV i] ?_
   refine mF 255 7 (.pointer (some (Addr.add ac (i * 2)))) (Calm.indexA (a := ac) (len := O.length) (sz := 2) (k := ((i : Nat) : Int)) i (i * 2) (by kernel_rfl) rfl (by omega) (by omega)) ?_
   refine m1 511 8 (.pointer (some (Addr.add ac (i * 2 + 1)))) (.pointer (some ((Addr.add ac (i * 2)).add 1))) (by rw [add_add]) ?_
   refine mL 1023 528 9 (.int .i64 u) (Calm.load (T := 3) (p := (Addr.add ac (i * 2 + 1))) (by kernel_rfl) (Loads.one (k := 1) (by kernel_rfl) (e0.cell hop.2))) ?_
   refine mP 4095 [10,11] [.int .i64 (Int.tmod u 2),.bool (!decide ((Int.tmod u 2) = (0 : Int)))] ?_
   refine m1 8191 12 (.bool false) (.bool (!((!decide ((Int.tmod u 2) = (0 : Int))) == (!decide ((Int.tmod u 2) = (0 : Int)))))) (congrArg Value.bool (by simp)) ?_
   refine mP 32767 [13,14] [.bool false,.pointer (some ⟨h166.size,35,none⟩)] ?_
   refine mL 65535 33296 15 (.int .i64 ex) (Calm.load (T := 3) (p := ⟨h166.size,35,none⟩) (by kernel_rfl) (Loads.one (k := 1) (by kernel_rfl) ((hcell_blk m170).trans (rfl)))) ?_
   refine mP 131071 [16] [.pointer (some ⟨h159.size,35,none⟩)] ?_
   refine mL 262143 164368 17 (.int .i64 ex) (Calm.load (T := 3) (p := ⟨h159.size,35,none⟩) (by kernel_rfl) (Loads.one (k := 1) (by kernel_rfl) ((hcell_blk m162).trans (rfl)))) ?_
   refine m1 524287 18 (.bool false) (.bool (!(ex == ex))) (congrArg (fun b => Value.bool (!b)) (beq_iff_eq.2 (by omega))) ?_
   refine mP 4194303 [19,20,21] [.bool false,.bool false,.pointer (some ⟨h166.size,37,none⟩)] ?_
   refine mL 8388607 4358672 22 (.bool false) (Calm.load (T := 4) (p := ⟨h166.size,37,none⟩) (by kernel_rfl) (Loads.one (k := 1) (by kernel_rfl) ((hcell_blk m170).trans (rfl)))) ?_
   refine mP 33554431 [23,24] [.bool false,.bool false] ?_
   refine mD [(1,.slice (some ac) O.length wc),(2,pV h.size),(5,.bool true),(6,nV i),(7,pV h159.size),(8,.int .i64 0),(9,pV h166.size),(180,.bool false)] ?_
   clear hF a; intro a hF
   refine tK ?_
   refine cF 180 hF ?_
   refine cN ?_
   show C Try.prog (sub b7 [1,1,1,0,1,0,0,1,0,0,1,1,1,1]) _ a h179
   refine cS ?_
   refine cP 23 hF ?_
   refine sP 2 [.int .i64 0,.bool true] ?_
   refine sD [(1,.slice (some ac) O.length wc),(2,pV h.size),(5,.bool true),(6,nV i),(7,pV h159.size),(8,.int .i64 0),(9,pV h166.size),(182,.bool true)] ?_
   clear hF a; intro a hF
   refine tK ?_
   refine cT 182 hF ?_
   refine cS ?_
   refine cS ?_
   refine cP 24 hF ?_
   refine sP 1 [pV h166.size] ?_
   refine sC 2 (.string x.id) (Calm.load (T := 9) (p := ⟨h166.size,0,none⟩) (by kernel_rfl) (Loads.one (k := 1) (by kernel_rfl) ((hcell_blk m170).trans (rfl)))) ?_
   refine sP 3 [pV h159.size] ?_
   refine sC 4 (.string x.id) (Calm.load (T := 9) (p := ⟨h159.size,0,none⟩) (by kernel_rfl) (Loads.one (k := 1) (by kernel_rfl) ((hcell_blk m162).trans (rfl)))) ?_
   refine s1 5 (.bool false) (.bool (!(x.id.toList == x.id.toList))) (congrArg Value.bool (by simp)) ?_
   refine sP 7 [.bool false,.pointer (some ⟨h166.size,1,none⟩)] ?_
   refine sC 8 (.int .i64 x.len) (Calm.load (T := 3) (p := ⟨h166.size,1,none⟩) (by kernel_rfl) (Loads.one (k := 1) (by kernel_rfl) ((hcell_blk m170).trans (rfl)))) ?_
   refine sP 9 [.pointer (some ⟨h159.size,1,none⟩)] ?_
   refine sC 10 (.int .i64 x.len) (Calm.load (T := 3) (p := ⟨h159.size,1,none⟩) (by kernel_rfl) (Loads.one (k := 1) (by kernel_rfl) ((hcell_blk m162).trans (rfl)))) ?_
   refine s1 11 (.bool false) (.bool (!(x.len == x.len))) (congrArg (fun b => Value.bool (!b)) (beq_iff_eq.2 (by omega))) ?_
   refine sP 14 [.bool false,.bool false,.pointer (some ⟨h166.size,2,none⟩)] ?_
   refine sC 15 (.agg ((hl x).map bv).toArray) (Calm.load (T := 23) (p := ⟨h166.size,2,none⟩) (by kernel_rfl) (Loads.blk (vs := (hl x).map bv) (by kernel_rfl) m170 rfl)) ?_
   refine sP 16 [.pointer (some ⟨h159.size,2,none⟩)] ?_
   refine sC 17 (.agg ((hl x).map bv).toArray) (Calm.load (T := 23) (p := ⟨h159.size,2,none⟩) (by kernel_rfl) (Loads.blk (vs := (hl x).map bv) (by kernel_rfl) m162 rfl)) ?_
   refine sC 18 (.bool false) ((eqHT (q := false) (l := (hl x)) (r := (hl x)) (n := 32) (by kernel_rfl) rfl rfl rfl) _) ?_
   refine sP 21 [.bool false,.bool false,.pointer (some ⟨h166.size,34,none⟩)] ?_
   refine sC 22 (.int .i64 x.idx) (Calm.load (T := 3) (p := ⟨h166.size,34,none⟩) (by kernel_rfl) (Loads.one (k := 1) (by kernel_rfl) ((hcell_blk m170).trans (rfl)))) ?_
   refine sP 23 [.pointer (some ⟨h159.size,34,none⟩)] ?_
   refine sC 24 (.int .i64 x.idx) (Calm.load (T := 3) (p := ⟨h159.size,34,none⟩) (by kernel_rfl) (Loads.one (k := 1) (by kernel_rfl) ((hcell_blk m162).trans (rfl)))) ?_
   refine s1 25 (.bool false) (.bool (!(x.idx == x.idx))) (congrArg (fun b => Value.bool (!b)) (beq_iff_eq.2 (by omega))) ?_
   refine sP 28 [.bool false,.bool false,.pointer (some ⟨h159.size,37,none⟩)] ?_
   refine sC 29 (.bool false) (Calm.load (T := 4) (p := ⟨h159.size,37,none⟩) (by kernel_rfl) (Loads.one (k := 1) (by kernel_rfl) ((hcell_blk m162).trans (rfl)))) ?_
   refine sP 30 [.bool false] ?_
   refine sD [(1,.slice (some ac) O.length wc),(2,pV h.size),(5,.bool true),(6,nV i),(9,pV h166.size),(212,.bool false)] ?_
   clear hF a; intro a hF
   refine tK ?_
   refine cF 212 hF ?_
   refine cN ?_
   refine tK ?_
   refine cP 26 hF ?_
   refine sC 1 (.agg (rc x ex (!decide ((Int.tmod u 2) = (0 : Int))) false (.slice ad176 P.length cap177)).toArray) (Calm.load (T := 26) (p := ⟨h166.size,0,none⟩) (by kernel_rfl) (Loads.blk (vs := rc x ex (!decide ((Int.tmod u 2) = (0 : Int))) false (.slice ad176 P.length cap177)) (by kernel_rfl) m170 rfl)) ?_
   refine SeqK.eff (k' := 2) (Does.store (b := h.size) (off := 0) (vs := rc x ex (!decide ((Int.tmod u 2) = (0 : Int))) false (.slice ad176 P.length cap177)) (l := rc x ex hx false (.slice rd P.length rcp)) (by kernel_rfl) m3 (of_decide_eq_true (by kernel_rfl)) (List.all_eq_true.1 (by kernel_rfl))) rfl ?_
   rintro _ h181 ⟨rfl,hh⟩
   have g182 : Grew (some (h.size)) h179 h181 := hput_gr hh
   replace m3 : h181[h.size]? = some (.cells (rc x ex (!decide ((Int.tmod u 2) = (0 : Int))) false (.slice ad176 P.length cap177)).toArray 26) := hput_at (off := 0) (vs := rc x ex (!decide ((Int.tmod u 2) = (0 : Int))) false (.slice ad176 P.length cap177)) (l := (rc x ex hx false (.slice rd P.length rcp))) hh (by kernel_rfl) m3
   clear hh
   replace e0 := e0.grew g182 (sep.low 4 rfl)
   clear e1
   replace own_w := own_w.kept g182 (by rw [blkOf_slice]; exact (sep.ap 3 4))
   replace own_n := own_n.kept g182 (by rw [blkOf_slice]; exact (sep.ap 0 4))
   replace m162 := Grew.blk g182 m162 ((sep.bp 2 4))
   replace m170 := Grew.blk g182 m170 ((sep.bp 1 4))
   replace sep := sep.up g182.size
   refine sD [(1,.slice (some ac) O.length wc),(2,pV h.size),(5,.bool true),(6,nV i)] ?_
   clear hF a; intro a hF
   show C Try.prog (sub b7 [1,1,1,0,1,0,0,1,1]) _ a h181
   refine cP 6 hF ?_
   refine sP 1 [nV i] ?_
   refine s1 2 (.int .i64 ((i + 1 : Nat) : Int)) (.int .i64 (IntKind.i64.wrap (((i : Nat) : Int) + 1))) (congrArg (Value.int .i64) (w64' (by omega) (by omega) (by omega))) ?_
   refine sP 3 [nV (i + 1)] ?_
   refine sD [(1,.slice (some ac) O.length wc),(2,pV h.size),(5,.bool true),(6,nV (i + 1))] ?_
   clear hF a; intro a hF
   have fsep : Sep h.size h181.size [some h.size] := sep.pick [4] rfl (by decide)
   have fr := own_n.row; have fP := hP
   show ∃ m',m' < _ ∧ _
   refine ⟨_,?_,(i + 1),ex,(!decide ((Int.tmod u 2) = (0 : Int))),false,P,ad176,cap177,rfl,e0,(by omega),m3,fr,fP,fsep,hF⟩
   omega
  ·skip
   have hk0 : kindZ kd ≠ 0 := by omega
   have hk1 : kindZ kd ≠ 1 := by omega
   refine cP 7 hF ?_
   refine sC 1 (.agg (rc x ex hx true (.slice rd P.length rcp)).toArray) (Calm.load (T := 26) (p := ⟨h.size,0,none⟩) (by kernel_rfl) (Loads.blk (vs := rc x ex hx true (.slice rd P.length rcp)) (by kernel_rfl) m3 rfl)) ?_
   refine SeqK.eff (k' := 2) (Does.call (f := 11) (args := #[.agg (rc x ex hx true (.slice rd P.length rcp)).toArray]) (by kernel_rfl) (copied_sat _ x ex hx true P rd rcp (hrow.ext e1) hP)) rfl ?_
   rintro _ h185 ⟨_,rfl,ad183,cap184,rfl,ownx,hge,g⟩
   have hlo := e0.size
   have sepo := sep
   replace e0 := e0.ext g
   replace e1 := e1.ext g
   replace m3 := Ext.blk g m3
   replace sep := sep.up g.size
   replace sep := sepo.cons (x := ad183.map (fun (x : Addr) => x.block)) g.size hlo (fun k e => ⟨hge k e,ownx.lt (by rw [blkOf_slice]; exact e)⟩)
   have own_w : Own h185 (.slice ad183 P.length cap184) 49 P.length 4 (prow P) := ownx; clear ownx sepo hlo hge g
   refine SeqK.eff (k' := 3) (Does.new (v := .pointer (some ⟨h185.size,0,none⟩)) (o := .cells (rc rb0 (0 : Int) false false (.slice none 0 0)).toArray 26) (by kernel_rfl)) rfl ?_
   rintro _ h186 ⟨rfl,hh⟩
   have g187 : Ext h185 h186 := push_ext hh
   have m188 : h186[h185.size]? = some (.cells (rc rb0 (0 : Int) false false (.slice none 0 0)).toArray 26) := push_at hh
   clear hh
   have lt189 := blk_lt m188
   have zs190 := e0.size
   have zs191 := e1.size
   have hlo := e0.size
   have sepo := sep
   replace e0 := e0.ext g187
   replace e1 := e1.ext g187
   replace own_w := own_w.ext g187
   replace m3 := Ext.blk g187 m3
   replace sep := sep.up g187.size
   replace sep := sepo.new hlo (blk_lt m188)
   clear sepo hlo
   refine SeqK.eff (k' := 4) (Does.store (b := h185.size) (off := 0) (vs := rc x ex hx true (.slice ad183 P.length cap184)) (l := rc rb0 (0 : Int) false false (.slice none 0 0)) (by kernel_rfl) m188 (of_decide_eq_true (by kernel_rfl)) (List.all_eq_true.1 (by kernel_rfl))) rfl ?_
   rintro _ h192 ⟨rfl,hh⟩
   have g193 : Grew (some (h185.size)) h186 h192 := hput_gr hh
   replace m188 : h192[h185.size]? = some (.cells (rc x ex hx true (.slice ad183 P.length cap184)).toArray 26) := hput_at (off := 0) (vs := rc x ex hx true (.slice ad183 P.length cap184)) (l := (rc rb0 (0 : Int) false false (.slice none 0 0))) hh (by kernel_rfl) m188
   clear hh
   replace e0 := e0.grew g193 (sep.low 0 rfl)
   replace e1 := e1.grew g193 (by rintro _ ⟨⟩; omega)
   replace own_w := own_w.kept g193 (by rw [blkOf_slice]; exact (sep.ap 1 0))
   replace m3 := Grew.blk g193 m3 ((sep.bp 2 0))
   replace sep := sep.up g193.size
   refine sD [(1,.slice (some ac) O.length wc),(2,pV h.size),(5,.bool true),(6,nV i),(7,pV h185.size)] ?_
   clear hF a; intro a hF
   refine tK ?_
   refine cS ?_
   refine cP 8 hF ?_
   refine sP 1 [.int .i64 0] ?_
   refine sD [(1,.slice (some ac) O.length wc),(2,pV h.size),(5,.bool true),(6,nV i),(7,pV h185.size)] ?_
   clear hF a; intro a hF
   refine tK ?_
   refine cS ?_
   refine cP 9 hF ?_
   refine sP 1 [.agg (rc rb0 (0 : Int) false false (.slice none 0 0)).toArray] ?_
   refine SeqK.eff (k' := 2) (Does.new (v := .pointer (some ⟨h192.size,0,none⟩)) (o := .cells (rc rb0 (0 : Int) false false (.slice none 0 0)).toArray 26) (by kernel_rfl)) rfl ?_
   rintro _ h194 ⟨rfl,hh⟩
   have g195 : Ext h192 h194 := push_ext hh
   have m196 : h194[h192.size]? = some (.cells (rc rb0 (0 : Int) false false (.slice none 0 0)).toArray 26) := push_at hh
   clear hh
   have lt197 := blk_lt m196
   have zs198 := e0.size
   have zs199 := e1.size
   have hlo := e0.size
   have sepo := sep
   replace e0 := e0.ext g195
   replace e1 := e1.ext g195
   replace own_w := own_w.ext g195
   replace m3 := Ext.blk g195 m3
   replace m188 := Ext.blk g195 m188
   replace sep := sep.up g195.size
   replace sep := sepo.new hlo (blk_lt m196)
   clear sepo hlo
   refine SeqK.eff (k' := 3) (Does.store (b := h192.size) (off := 0) (vs := rc rb0 (0 : Int) false false (.slice none 0 0)) (l := rc rb0 (0 : Int) false false (.slice none 0 0)) (by kernel_rfl) m196 (of_decide_eq_true (by kernel_rfl)) (List.all_eq_true.1 (by kernel_rfl))) rfl ?_
   rintro _ h200 ⟨rfl,hh⟩
   have g201 : Grew (some (h192.size)) h194 h200 := hput_gr hh
   replace m196 : h200[h192.size]? = some (.cells (rc rb0 (0 : Int) false false (.slice none 0 0)).toArray 26) := hput_at (off := 0) (vs := rc rb0 (0 : Int) false false (.slice none 0 0)) (l := (rc rb0 (0 : Int) false false (.slice none 0 0))) hh (by kernel_rfl) m196
   clear hh
   replace e0 := e0.grew g201 (sep.low 0 rfl)
   replace e1 := e1.grew g201 (by rintro _ ⟨⟩; omega)
   replace own_w := own_w.kept g201 (by rw [blkOf_slice]; exact (sep.ap 2 0))
   replace m3 := Grew.blk g201 m3 ((sep.bp 3 0))
   replace m188 := Grew.blk g201 m188 ((sep.bp 1 0))
   replace sep := sep.up g201.size
   refine sD [(1,.slice (some ac) O.length wc),(2,pV h.size),(5,.bool true),(6,nV i),(7,pV h185.size),(9,pV h192.size)] ?_
   clear hF a; intro a hF
   refine tK ?_
   refine cS ?_
   refine cS ?_
   refine cP 10 hF ?_
   refine sP 2 [.slice (some ac) O.length wc,nV i] ?_
   refine sC 3 (.pointer (some (Addr.add ac (i * 2)))) ((Calm.indexA (a := ac) (len := O.length) (sz := 2) (k := ((i : Nat) : Int)) i (i * 2) (by kernel_rfl) rfl (by omega) (by omega)) _) ?_
   refine sP 4 [.pointer (some (Addr.add ac (i * 2)))] ?_
   refine sC 5 (.int .i64 kd) (Calm.load (T := 3) (p := (Addr.add ac (i * 2))) (by kernel_rfl) (Loads.one (k := 1) (by kernel_rfl) (e0.cell hop.1))) ?_
   refine sC 6 (.int .i64 (kindZ kd)) (Does.call (f := 22) (args := #[.int .i64 kd]) (by kernel_rfl) (kind_sat _ kd hkb.1 hkb.2)) ?_
   refine sD [(1,.slice (some ac) O.length wc),(2,pV h.size),(5,.bool true),(6,nV i),(7,pV h185.size),(9,pV h192.size),(28,.int .i64 (kindZ kd))] ?_
   clear hF a; intro a hF
   refine tK ?_
   refine cB 2 ?_
   refine cS ?_
   refine cP 15 hF ?_
   refine s1 1 (.bool false) (.bool ((kindZ kd) == (0 : Int))) (congrArg Value.bool (beq_eq_false_iff_ne.2 (by omega))) ?_
   refine sP 2 [.bool false] ?_
   refine sD [(1,.slice (some ac) O.length wc),(2,pV h.size),(5,.bool true),(6,nV i),(7,pV h185.size),(9,pV h192.size),(28,.int .i64 (kindZ kd)),(83,.bool false)] ?_
   clear hF a; intro a hF
   refine tK ?_
   refine cF 83 hF ?_
   refine cS ?_
   refine cP 19 hF ?_
   refine s1 1 (.bool false) (.bool ((kindZ kd) == (1 : Int))) (congrArg Value.bool (beq_eq_false_iff_ne.2 (by omega))) ?_
   refine sP 2 [.bool false] ?_
   refine sD [(1,.slice (some ac) O.length wc),(2,pV h.size),(5,.bool true),(6,nV i),(7,pV h185.size),(9,pV h192.size),(142,.bool false)] ?_
   clear hF a; intro a hF
   refine tK ?_
   refine cF 142 hF ?_
   refine cS ?_
   refine cD [0,0,0,6,14,30,63,127,255,255,511,2047] 11 mixed hF ?_
   refine mL 1 1 0 (.agg (rc x ex hx true (.slice rd P.length rcp)).toArray) (Calm.load (T := 26) (p := ⟨h.size,0,none⟩) (by kernel_rfl) (Loads.blk (vs := rc x ex hx true (.slice rd P.length rcp)) (by kernel_rfl) m3 rfl)) ?_
   refine mP 7 [1,2] [.slice (some ac) O.length wc,nV i] ?_
   refine mF 15 3 (.pointer (some (Addr.add ac (i * 2)))) (Calm.indexA (a := ac) (len := O.length) (sz := 2) (k := ((i : Nat) : Int)) i (i * 2) (by kernel_rfl) rfl (by omega) (by omega)) ?_
   refine m1 31 4 (.pointer (some (Addr.add ac (i * 2 + 1)))) (.pointer (some ((Addr.add ac (i * 2)).add 1))) (by rw [add_add]) ?_
   refine mL 63 33 5 (.int .i64 u) (Calm.load (T := 3) (p := (Addr.add ac (i * 2 + 1))) (by kernel_rfl) (Loads.one (k := 1) (by kernel_rfl) (e0.cell hop.2))) ?_
   refine SimK.eff0 (i := 6) (D' := 127) (X' := 127) (by kernel_rfl) (by kernel_rfl) (by kernel_rfl) (by kernel_rfl) (Does.call (f := 18) (args := #[.agg (rc x ex hx true (.slice rd P.length rcp)).toArray,.int .i64 u]) (by kernel_rfl) (del_gone _ x ex hx P rd rcp u)) ?_
   rintro _ h202 ⟨rfl,g⟩
   replace e0 := e0.ext g
   replace e1 := e1.ext g
   replace own_w := own_w.ext g
   replace m3 := Ext.blk g m3
   replace m188 := Ext.blk g m188
   replace m196 := Ext.blk g m196
   replace sep := sep.up g.size
   clear g
   refine mP 1023 [7,8,9] [.tuple #[.agg (rc rb0 (0 : Int) false false (.slice none 0 0)).toArray,.int .i64 213],.agg (rc rb0 (0 : Int) false false (.slice none 0 0)).toArray,.int .i64 213] ?_
   refine SimK.eff0 (i := 10) (D' := 2047) (X' := 1535) (by kernel_rfl) (by kernel_rfl) (by kernel_rfl) (by kernel_rfl) (Does.store (b := h192.size) (off := 0) (vs := rc rb0 (0 : Int) false false (.slice none 0 0)) (l := rc rb0 (0 : Int) false false (.slice none 0 0)) (by kernel_rfl) m196 (of_decide_eq_true (by kernel_rfl)) (List.all_eq_true.1 (by kernel_rfl))) ?_
   rintro _ h203 ⟨rfl,hh⟩
   have g204 : Grew (some (h192.size)) h202 h203 := hput_gr hh
   replace m196 : h203[h192.size]? = some (.cells (rc rb0 (0 : Int) false false (.slice none 0 0)).toArray 26) := hput_at (off := 0) (vs := rc rb0 (0 : Int) false false (.slice none 0 0)) (l := (rc rb0 (0 : Int) false false (.slice none 0 0))) hh (by kernel_rfl) m196
   clear hh
   replace e0 := e0.grew g204 (sep.low 0 rfl)
   replace e1 := e1.grew g204 (by rintro _ ⟨⟩; omega)
   replace own_w := own_w.kept g204 (by rw [blkOf_slice]; exact (sep.ap 2 0))
   replace m3 := Grew.blk g204 m3 ((sep.bp 3 0))
   replace m188 := Grew.blk g204 m188 ((sep.bp 1 0))
   replace sep := sep.up g204.size
   refine mP 4095 [11] [.int .i64 213] ?_
   refine mD [(1,.slice (some ac) O.length wc),(2,pV h.size),(5,.bool true),(6,nV i),(7,pV h185.size),(8,.int .i64 213),(9,pV h192.size)] ?_
   clear hF a; intro a hF
   refine tK ?_
   refine cS ?_
   refine cD [0,1,3,7,15,31,63,127,255,511,1023,511,511,6655,14847,31231,65535,131071,262143] 12 mixed hF ?_
   refine mP 1 [0] [.pointer (some ⟨h185.size,37,none⟩)] ?_
   refine mL 3 2 1 (.bool true) (Calm.load (T := 4) (p := ⟨h185.size,37,none⟩) (by kernel_rfl) (Loads.one (k := 1) (by kernel_rfl) ((hcell_blk m188).trans (rfl)))) ?_
   refine mP 524287 [2,3,4,5,6,7,8,9,10,11,12,13,14,15,16,17,18] [.bool false,.bool false,undef,undef,undef,.bool false,.bool false,undef,undef,undef,undef,undef,undef,undef,undef,.bool false,.bool false] ?_
   refine mD [(1,.slice (some ac) O.length wc),(2,pV h.size),(5,.bool true),(6,nV i),(7,pV h185.size),(8,.int .i64 213),(9,pV h192.size),(10,.bool false)] ?_
   clear hF a; intro a hF
   refine tK ?_
   refine cS ?_
   refine cP 13 hF ?_
   refine sP 26 [.bool false,.int .i64 213,.bool false,.bool false,.bool false,.int .i64 213,.bool false,.bool false,undef,undef,undef,undef,undef,undef,undef,undef,undef,undef,undef,undef,undef,undef,undef,undef,.bool false,.bool false] ?_
   refine sD [(1,.slice (some ac) O.length wc),(2,pV h.size),(5,.bool true),(6,nV i),(7,pV h185.size),(8,.int .i64 213),(9,pV h192.size),(82,.bool false)] ?_
   clear hF a; intro a hF
   refine tK ?_
   refine cF 82 hF ?_
   refine cN ?_
   show C Try.prog (sub b7 [1,1,1,0,1,0,0,1,0,0,1,1,1,1]) _ a h203
   refine cS ?_
   refine cP 23 hF ?_
   refine sP 2 [.int .i64 213,.bool false] ?_
   refine sD [(1,.slice (some ac) O.length wc),(2,pV h.size),(5,.bool true),(6,nV i),(7,pV h185.size),(8,.int .i64 213),(9,pV h192.size),(182,.bool false)] ?_
   clear hF a; intro a hF
   refine tK ?_
   refine cF 182 hF ?_
   refine cS ?_
   refine cP 27 hF ?_
   refine sC 1 (.agg (rc x ex hx true (.slice rd P.length rcp)).toArray) (Calm.load (T := 26) (p := ⟨h.size,0,none⟩) (by kernel_rfl) (Loads.blk (vs := rc x ex hx true (.slice rd P.length rcp)) (by kernel_rfl) m3 rfl)) ?_
   refine sC 2 (.agg (rc x ex hx true (.slice ad183 P.length cap184)).toArray) (Calm.load (T := 26) (p := ⟨h185.size,0,none⟩) (by kernel_rfl) (Loads.blk (vs := rc x ex hx true (.slice ad183 P.length cap184)) (by kernel_rfl) m188 rfl)) ?_
   refine SeqK.eff (k' := 3) (Does.call (f := 14) (args := #[.agg (rc x ex hx true (.slice rd P.length rcp)).toArray,.agg (rc x ex hx true (.slice ad183 P.length cap184)).toArray]) (by kernel_rfl) (same_sat _ x ex hx true P rd rcp (hrow.ext e1) hP ad183 cap184 own_w.row)) rfl ?_
   rintro _ h205 ⟨rfl,g⟩
   replace e0 := e0.ext g
   replace e1 := e1.ext g
   replace own_w := own_w.ext g
   replace m3 := Ext.blk g m3
   replace m188 := Ext.blk g m188
   replace m196 := Ext.blk g m196
   replace sep := sep.up g.size
   clear g
   refine sP 5 [.bool false,.bool false] ?_
   refine sC 6 (.agg (rc rb0 (0 : Int) false false (.slice none 0 0)).toArray) (Calm.load (T := 26) (p := ⟨h192.size,0,none⟩) (by kernel_rfl) (Loads.blk (vs := rc rb0 (0 : Int) false false (.slice none 0 0)) (by kernel_rfl) m196 rfl)) ?_
   refine sP 7 [.agg (rc rb0 (0 : Int) false false (.slice none 0 0)).toArray] ?_
   refine SeqK.eff (k' := 8) (Does.call (f := 14) (args := #[.agg (rc rb0 (0 : Int) false false (.slice none 0 0)).toArray,.agg (rc rb0 (0 : Int) false false (.slice none 0 0)).toArray]) (by kernel_rfl) (same_sat _ rb0 0 false false [] none 0 (Row.nil _ 4) (by decide) none 0 (Row.nil _ 4))) rfl ?_
   rintro _ h206 ⟨rfl,g⟩
   replace e0 := e0.ext g
   replace e1 := e1.ext g
   replace own_w := own_w.ext g
   replace m3 := Ext.blk g m3
   replace m188 := Ext.blk g m188
   replace m196 := Ext.blk g m196
   replace sep := sep.up g.size
   clear g
   refine sP 12 [.bool false,.bool false,.bool false,.pointer (some ⟨h185.size,37,none⟩)] ?_
   refine sC 13 (.bool true) (Calm.load (T := 4) (p := ⟨h185.size,37,none⟩) (by kernel_rfl) (Loads.one (k := 1) (by kernel_rfl) ((hcell_blk m188).trans (rfl)))) ?_
   refine sP 22 [.bool true,.int .i64 213,.bool false,.bool false,.bool false,undef,undef,.bool false,.bool false] ?_
   refine sD [(1,.slice (some ac) O.length wc),(2,pV h.size),(5,.bool true),(6,nV i),(235,.bool false)] ?_
   clear hF a; intro a hF
   refine tK ?_
   refine cF 235 hF ?_
   refine cN ?_
   show C Try.prog (sub b7 [1,1,1,0,1,0,0,1,1]) _ a h206
   refine cP 6 hF ?_
   refine sP 1 [nV i] ?_
   refine s1 2 (.int .i64 ((i + 1 : Nat) : Int)) (.int .i64 (IntKind.i64.wrap (((i : Nat) : Int) + 1))) (congrArg (Value.int .i64) (w64' (by omega) (by omega) (by omega))) ?_
   refine sP 3 [nV (i + 1)] ?_
   refine sD [(1,.slice (some ac) O.length wc),(2,pV h.size),(5,.bool true),(6,nV (i + 1))] ?_
   clear hF a; intro a hF
   have fsep : Sep h.size h206.size [some h.size] := sep.pick [3] rfl (by decide)
   have fr := hrow.ext e1; have fP := hP
   show ∃ m',m' < _ ∧ _
   refine ⟨_,?_,(i + 1),ex,hx,true,P,rd,rcp,rfl,e0,(by omega),m3,fr,fP,fsep,hF⟩
   omega
  ·skip
   have hk0 : kindZ kd ≠ 0 := by omega
   have hk1 : kindZ kd ≠ 1 := by omega
   refine cP 7 hF ?_
   refine sC 1 (.agg (rc x ex true false (.slice rd P.length rcp)).toArray) (Calm.load (T := 26) (p := ⟨h.size,0,none⟩) (by kernel_rfl) (Loads.blk (vs := rc x ex true false (.slice rd P.length rcp)) (by kernel_rfl) m3 rfl)) ?_
   refine SeqK.eff (k' := 2) (Does.call (f := 11) (args := #[.agg (rc x ex true false (.slice rd P.length rcp)).toArray]) (by kernel_rfl) (copied_sat _ x ex true false P rd rcp (hrow.ext e1) hP)) rfl ?_
   rintro _ h209 ⟨_,rfl,ad207,cap208,rfl,ownx,hge,g⟩
   have hlo := e0.size
   have sepo := sep
   replace e0 := e0.ext g
   replace e1 := e1.ext g
   replace m3 := Ext.blk g m3
   replace sep := sep.up g.size
   replace sep := sepo.cons (x := ad207.map (fun (x : Addr) => x.block)) g.size hlo (fun k e => ⟨hge k e,ownx.lt (by rw [blkOf_slice]; exact e)⟩)
   have own_w : Own h209 (.slice ad207 P.length cap208) 49 P.length 4 (prow P) := ownx; clear ownx sepo hlo hge g
   refine SeqK.eff (k' := 3) (Does.new (v := .pointer (some ⟨h209.size,0,none⟩)) (o := .cells (rc rb0 (0 : Int) false false (.slice none 0 0)).toArray 26) (by kernel_rfl)) rfl ?_
   rintro _ h210 ⟨rfl,hh⟩
   have g211 : Ext h209 h210 := push_ext hh
   have m212 : h210[h209.size]? = some (.cells (rc rb0 (0 : Int) false false (.slice none 0 0)).toArray 26) := push_at hh
   clear hh
   have lt213 := blk_lt m212
   have zs214 := e0.size
   have zs215 := e1.size
   have hlo := e0.size
   have sepo := sep
   replace e0 := e0.ext g211
   replace e1 := e1.ext g211
   replace own_w := own_w.ext g211
   replace m3 := Ext.blk g211 m3
   replace sep := sep.up g211.size
   replace sep := sepo.new hlo (blk_lt m212)
   clear sepo hlo
   refine SeqK.eff (k' := 4) (Does.store (b := h209.size) (off := 0) (vs := rc x ex true false (.slice ad207 P.length cap208)) (l := rc rb0 (0 : Int) false false (.slice none 0 0)) (by kernel_rfl) m212 (of_decide_eq_true (by kernel_rfl)) (List.all_eq_true.1 (by kernel_rfl))) rfl ?_
   rintro _ h216 ⟨rfl,hh⟩
   have g217 : Grew (some (h209.size)) h210 h216 := hput_gr hh
   replace m212 : h216[h209.size]? = some (.cells (rc x ex true false (.slice ad207 P.length cap208)).toArray 26) := hput_at (off := 0) (vs := rc x ex true false (.slice ad207 P.length cap208)) (l := (rc rb0 (0 : Int) false false (.slice none 0 0))) hh (by kernel_rfl) m212
   clear hh
   replace e0 := e0.grew g217 (sep.low 0 rfl)
   replace e1 := e1.grew g217 (by rintro _ ⟨⟩; omega)
   replace own_w := own_w.kept g217 (by rw [blkOf_slice]; exact (sep.ap 1 0))
   replace m3 := Grew.blk g217 m3 ((sep.bp 2 0))
   replace sep := sep.up g217.size
   refine sD [(1,.slice (some ac) O.length wc),(2,pV h.size),(5,.bool true),(6,nV i),(7,pV h209.size)] ?_
   clear hF a; intro a hF
   refine tK ?_
   refine cS ?_
   refine cP 8 hF ?_
   refine sP 1 [.int .i64 0] ?_
   refine sD [(1,.slice (some ac) O.length wc),(2,pV h.size),(5,.bool true),(6,nV i),(7,pV h209.size)] ?_
   clear hF a; intro a hF
   refine tK ?_
   refine cS ?_
   refine cP 9 hF ?_
   refine sP 1 [.agg (rc rb0 (0 : Int) false false (.slice none 0 0)).toArray] ?_
   refine SeqK.eff (k' := 2) (Does.new (v := .pointer (some ⟨h216.size,0,none⟩)) (o := .cells (rc rb0 (0 : Int) false false (.slice none 0 0)).toArray 26) (by kernel_rfl)) rfl ?_
   rintro _ h218 ⟨rfl,hh⟩
   have g219 : Ext h216 h218 := push_ext hh
   have m220 : h218[h216.size]? = some (.cells (rc rb0 (0 : Int) false false (.slice none 0 0)).toArray 26) := push_at hh
   clear hh
   have lt221 := blk_lt m220
   have zs222 := e0.size
   have zs223 := e1.size
   have hlo := e0.size
   have sepo := sep
   replace e0 := e0.ext g219
   replace e1 := e1.ext g219
   replace own_w := own_w.ext g219
   replace m3 := Ext.blk g219 m3
   replace m212 := Ext.blk g219 m212
   replace sep := sep.up g219.size
   replace sep := sepo.new hlo (blk_lt m220)
   clear sepo hlo
   refine SeqK.eff (k' := 3) (Does.store (b := h216.size) (off := 0) (vs := rc rb0 (0 : Int) false false (.slice none 0 0)) (l := rc rb0 (0 : Int) false false (.slice none 0 0)) (by kernel_rfl) m220 (of_decide_eq_true (by kernel_rfl)) (List.all_eq_true.1 (by kernel_rfl))) rfl ?_
   rintro _ h224 ⟨rfl,hh⟩
   have g225 : Grew (some (h216.size)) h218 h224 := hput_gr hh
   replace m220 : h224[h216.size]? = some (.cells (rc rb0 (0 : Int) false false (.slice none 0 0)).toArray 26) := hput_at (off := 0) (vs := rc rb0 (0 : Int) false false (.slice none 0 0)) (l := (rc rb0 (0 : Int) false false (.slice none 0 0))) hh (by kernel_rfl) m220
   clear hh
   replace e0 := e0.grew g225 (sep.low 0 rfl)
   replace e1 := e1.grew g225 (by rintro _ ⟨⟩; omega)
   replace own_w := own_w.kept g225 (by rw [blkOf_slice]; exact (sep.ap 2 0))
   replace m3 := Grew.blk g225 m3 ((sep.bp 3 0))
   replace m212 := Grew.blk g225 m212 ((sep.bp 1 0))
   replace sep := sep.up g225.size
   refine sD [(1,.slice (some ac) O.length wc),(2,pV h.size),(5,.bool true),(6,nV i),(7,pV h209.size),(9,pV h216.size)] ?_
   clear hF a; intro a hF
   refine tK ?_
   refine cS ?_
   refine cS ?_
   refine cP 10 hF ?_
   refine sP 2 [.slice (some ac) O.length wc,nV i] ?_
   refine sC 3 (.pointer (some (Addr.add ac (i * 2)))) ((Calm.indexA (a := ac) (len := O.length) (sz := 2) (k := ((i : Nat) : Int)) i (i * 2) (by kernel_rfl) rfl (by omega) (by omega)) _) ?_
   refine sP 4 [.pointer (some (Addr.add ac (i * 2)))] ?_
   refine sC 5 (.int .i64 kd) (Calm.load (T := 3) (p := (Addr.add ac (i * 2))) (by kernel_rfl) (Loads.one (k := 1) (by kernel_rfl) (e0.cell hop.1))) ?_
   refine sC 6 (.int .i64 (kindZ kd)) (Does.call (f := 22) (args := #[.int .i64 kd]) (by kernel_rfl) (kind_sat _ kd hkb.1 hkb.2)) ?_
   refine sD [(1,.slice (some ac) O.length wc),(2,pV h.size),(5,.bool true),(6,nV i),(7,pV h209.size),(9,pV h216.size),(28,.int .i64 (kindZ kd))] ?_
   clear hF a; intro a hF
   refine tK ?_
   refine cB 2 ?_
   refine cS ?_
   refine cP 15 hF ?_
   refine s1 1 (.bool false) (.bool ((kindZ kd) == (0 : Int))) (congrArg Value.bool (beq_eq_false_iff_ne.2 (by omega))) ?_
   refine sP 2 [.bool false] ?_
   refine sD [(1,.slice (some ac) O.length wc),(2,pV h.size),(5,.bool true),(6,nV i),(7,pV h209.size),(9,pV h216.size),(28,.int .i64 (kindZ kd)),(83,.bool false)] ?_
   clear hF a; intro a hF
   refine tK ?_
   refine cF 83 hF ?_
   refine cS ?_
   refine cP 19 hF ?_
   refine s1 1 (.bool false) (.bool ((kindZ kd) == (1 : Int))) (congrArg Value.bool (beq_eq_false_iff_ne.2 (by omega))) ?_
   refine sP 2 [.bool false] ?_
   refine sD [(1,.slice (some ac) O.length wc),(2,pV h.size),(5,.bool true),(6,nV i),(7,pV h209.size),(9,pV h216.size),(142,.bool false)] ?_
   clear hF a; intro a hF
   refine tK ?_
   refine cF 142 hF ?_
   refine cS ?_
   refine cD [0,0,0,6,14,30,63,127,255,255,511,2047] 11 mixed hF ?_
   refine mL 1 1 0 (.agg (rc x ex true false (.slice rd P.length rcp)).toArray) (Calm.load (T := 26) (p := ⟨h.size,0,none⟩) (by kernel_rfl) (Loads.blk (vs := rc x ex true false (.slice rd P.length rcp)) (by kernel_rfl) m3 rfl)) ?_
   refine mP 7 [1,2] [.slice (some ac) O.length wc,nV i] ?_
   refine mF 15 3 (.pointer (some (Addr.add ac (i * 2)))) (Calm.indexA (a := ac) (len := O.length) (sz := 2) (k := ((i : Nat) : Int)) i (i * 2) (by kernel_rfl) rfl (by omega) (by omega)) ?_
   refine m1 31 4 (.pointer (some (Addr.add ac (i * 2 + 1)))) (.pointer (some ((Addr.add ac (i * 2)).add 1))) (by rw [add_add]) ?_
   refine mL 63 33 5 (.int .i64 u) (Calm.load (T := 3) (p := (Addr.add ac (i * 2 + 1))) (by kernel_rfl) (Loads.one (k := 1) (by kernel_rfl) (e0.cell hop.2))) ?_
   refine SimK.eff0 (i := 6) (D' := 127) (X' := 127) (by kernel_rfl) (by kernel_rfl) (by kernel_rfl) (by kernel_rfl) (Does.call (f := 18) (args := #[.agg (rc x ex true false (.slice rd P.length rcp)).toArray,.int .i64 u]) (by kernel_rfl) (del_held _ x ex P rd rcp u)) ?_
   rintro _ h226 ⟨rfl,g⟩
   replace e0 := e0.ext g
   replace e1 := e1.ext g
   replace own_w := own_w.ext g
   replace m3 := Ext.blk g m3
   replace m212 := Ext.blk g m212
   replace m220 := Ext.blk g m220
   replace sep := sep.up g.size
   clear g
   refine mP 1023 [7,8,9] [.tuple #[.agg (rc rb0 (0 : Int) false false (.slice none 0 0)).toArray,.int .i64 214],.agg (rc rb0 (0 : Int) false false (.slice none 0 0)).toArray,.int .i64 214] ?_
   refine SimK.eff0 (i := 10) (D' := 2047) (X' := 1535) (by kernel_rfl) (by kernel_rfl) (by kernel_rfl) (by kernel_rfl) (Does.store (b := h216.size) (off := 0) (vs := rc rb0 (0 : Int) false false (.slice none 0 0)) (l := rc rb0 (0 : Int) false false (.slice none 0 0)) (by kernel_rfl) m220 (of_decide_eq_true (by kernel_rfl)) (List.all_eq_true.1 (by kernel_rfl))) ?_
   rintro _ h227 ⟨rfl,hh⟩
   have g228 : Grew (some (h216.size)) h226 h227 := hput_gr hh
   replace m220 : h227[h216.size]? = some (.cells (rc rb0 (0 : Int) false false (.slice none 0 0)).toArray 26) := hput_at (off := 0) (vs := rc rb0 (0 : Int) false false (.slice none 0 0)) (l := (rc rb0 (0 : Int) false false (.slice none 0 0))) hh (by kernel_rfl) m220
   clear hh
   replace e0 := e0.grew g228 (sep.low 0 rfl)
   replace e1 := e1.grew g228 (by rintro _ ⟨⟩; omega)
   replace own_w := own_w.kept g228 (by rw [blkOf_slice]; exact (sep.ap 2 0))
   replace m3 := Grew.blk g228 m3 ((sep.bp 3 0))
   replace m212 := Grew.blk g228 m212 ((sep.bp 1 0))
   replace sep := sep.up g228.size
   refine mP 4095 [11] [.int .i64 214] ?_
   refine mD [(1,.slice (some ac) O.length wc),(2,pV h.size),(5,.bool true),(6,nV i),(7,pV h209.size),(8,.int .i64 214),(9,pV h216.size)] ?_
   clear hF a; intro a hF
   refine tK ?_
   refine cS ?_
   refine cD [0,1,3,7,15,31,63,127,255,511,1023,511,511,6655,14847,31231,65535,131071,262143] 12 mixed hF ?_
   refine mP 1 [0] [.pointer (some ⟨h209.size,37,none⟩)] ?_
   refine mL 3 2 1 (.bool false) (Calm.load (T := 4) (p := ⟨h209.size,37,none⟩) (by kernel_rfl) (Loads.one (k := 1) (by kernel_rfl) ((hcell_blk m212).trans (rfl)))) ?_
   refine mP 31 [2,3,4] [.bool true,.bool true,.pointer (some ⟨h209.size,36,none⟩)] ?_
   refine mL 63 34 5 (.bool true) (Calm.load (T := 4) (p := ⟨h209.size,36,none⟩) (by kernel_rfl) (Loads.one (k := 1) (by kernel_rfl) ((hcell_blk m212).trans (rfl)))) ?_
   refine mP 524287 [6,7,8,9,10,11,12,13,14,15,16,17,18] [.bool false,.bool false,.bool false,undef,undef,undef,undef,undef,undef,undef,undef,.bool false,.bool false] ?_
   refine mD [(1,.slice (some ac) O.length wc),(2,pV h.size),(5,.bool true),(6,nV i),(7,pV h209.size),(8,.int .i64 214),(9,pV h216.size),(10,.bool false)] ?_
   clear hF a; intro a hF
   refine tK ?_
   refine cS ?_
   refine cP 13 hF ?_
   refine sP 26 [.bool false,.int .i64 214,.bool false,.bool false,.bool false,.int .i64 214,.bool false,.bool false,undef,undef,undef,undef,undef,undef,undef,undef,undef,undef,undef,undef,undef,undef,undef,undef,.bool false,.bool false] ?_
   refine sD [(1,.slice (some ac) O.length wc),(2,pV h.size),(5,.bool true),(6,nV i),(7,pV h209.size),(8,.int .i64 214),(9,pV h216.size),(82,.bool false)] ?_
   clear hF a; intro a hF
   refine tK ?_
   refine cF 82 hF ?_
   refine cN ?_
   show C Try.prog (sub b7 [1,1,1,0,1,0,0,1,0,0,1,1,1,1]) _ a h227
   refine cS ?_
   refine cP 23 hF ?_
   refine sP 2 [.int .i64 214,.bool false] ?_
   refine sD [(1,.slice (some ac) O.length wc),(2,pV h.size),(5,.bool true),(6,nV i),(7,pV h209.size),(8,.int .i64 214),(9,pV h216.size),(182,.bool false)] ?_
   clear hF a; intro a hF
   refine tK ?_
   refine cF 182 hF ?_
   refine cS ?_
   refine cP 27 hF ?_
   refine sC 1 (.agg (rc x ex true false (.slice rd P.length rcp)).toArray) (Calm.load (T := 26) (p := ⟨h.size,0,none⟩) (by kernel_rfl) (Loads.blk (vs := rc x ex true false (.slice rd P.length rcp)) (by kernel_rfl) m3 rfl)) ?_
   refine sC 2 (.agg (rc x ex true false (.slice ad207 P.length cap208)).toArray) (Calm.load (T := 26) (p := ⟨h209.size,0,none⟩) (by kernel_rfl) (Loads.blk (vs := rc x ex true false (.slice ad207 P.length cap208)) (by kernel_rfl) m212 rfl)) ?_
   refine SeqK.eff (k' := 3) (Does.call (f := 14) (args := #[.agg (rc x ex true false (.slice rd P.length rcp)).toArray,.agg (rc x ex true false (.slice ad207 P.length cap208)).toArray]) (by kernel_rfl) (same_sat _ x ex true false P rd rcp (hrow.ext e1) hP ad207 cap208 own_w.row)) rfl ?_
   rintro _ h229 ⟨rfl,g⟩
   replace e0 := e0.ext g
   replace e1 := e1.ext g
   replace own_w := own_w.ext g
   replace m3 := Ext.blk g m3
   replace m212 := Ext.blk g m212
   replace m220 := Ext.blk g m220
   replace sep := sep.up g.size
   clear g
   refine sP 5 [.bool false,.bool false] ?_
   refine sC 6 (.agg (rc rb0 (0 : Int) false false (.slice none 0 0)).toArray) (Calm.load (T := 26) (p := ⟨h216.size,0,none⟩) (by kernel_rfl) (Loads.blk (vs := rc rb0 (0 : Int) false false (.slice none 0 0)) (by kernel_rfl) m220 rfl)) ?_
   refine sP 7 [.agg (rc rb0 (0 : Int) false false (.slice none 0 0)).toArray] ?_
   refine SeqK.eff (k' := 8) (Does.call (f := 14) (args := #[.agg (rc rb0 (0 : Int) false false (.slice none 0 0)).toArray,.agg (rc rb0 (0 : Int) false false (.slice none 0 0)).toArray]) (by kernel_rfl) (same_sat _ rb0 0 false false [] none 0 (Row.nil _ 4) (by decide) none 0 (Row.nil _ 4))) rfl ?_
   rintro _ h230 ⟨rfl,g⟩
   replace e0 := e0.ext g
   replace e1 := e1.ext g
   replace own_w := own_w.ext g
   replace m3 := Ext.blk g m3
   replace m212 := Ext.blk g m212
   replace m220 := Ext.blk g m220
   replace sep := sep.up g.size
   clear g
   refine sP 12 [.bool false,.bool false,.bool false,.pointer (some ⟨h209.size,37,none⟩)] ?_
   refine sC 13 (.bool false) (Calm.load (T := 4) (p := ⟨h209.size,37,none⟩) (by kernel_rfl) (Loads.one (k := 1) (by kernel_rfl) ((hcell_blk m212).trans (rfl)))) ?_
   refine sP 22 [.bool false,undef,undef,.bool false,.bool false,undef,undef,.bool false,.bool false] ?_
   refine sD [(1,.slice (some ac) O.length wc),(2,pV h.size),(5,.bool true),(6,nV i),(235,.bool false)] ?_
   clear hF a; intro a hF
   refine tK ?_
   refine cF 235 hF ?_
   refine cN ?_
   show C Try.prog (sub b7 [1,1,1,0,1,0,0,1,1]) _ a h230
   refine cP 6 hF ?_
   refine sP 1 [nV i] ?_
   refine s1 2 (.int .i64 ((i + 1 : Nat) : Int)) (.int .i64 (IntKind.i64.wrap (((i : Nat) : Int) + 1))) (congrArg (Value.int .i64) (w64' (by omega) (by omega) (by omega))) ?_
   refine sP 3 [nV (i + 1)] ?_
   refine sD [(1,.slice (some ac) O.length wc),(2,pV h.size),(5,.bool true),(6,nV (i + 1))] ?_
   clear hF a; intro a hF
   have fsep : Sep h.size h230.size [some h.size] := sep.pick [3] rfl (by decide)
   have fr := hrow.ext e1; have fP := hP
   show ∃ m',m' < _ ∧ _
   refine ⟨_,?_,(i + 1),ex,true,false,P,rd,rcp,rfl,e0,(by omega),m3,fr,fP,fsep,hF⟩
   omega
  ·skip
   have hk0 : kindZ kd ≠ 0 := by omega
   have hk1 : kindZ kd ≠ 1 := by omega
   refine cP 7 hF ?_
   refine sC 1 (.agg (rc x ex false false (.slice rd P.length rcp)).toArray) (Calm.load (T := 26) (p := ⟨h.size,0,none⟩) (by kernel_rfl) (Loads.blk (vs := rc x ex false false (.slice rd P.length rcp)) (by kernel_rfl) m3 rfl)) ?_
   refine SeqK.eff (k' := 2) (Does.call (f := 11) (args := #[.agg (rc x ex false false (.slice rd P.length rcp)).toArray]) (by kernel_rfl) (copied_sat _ x ex false false P rd rcp (hrow.ext e1) hP)) rfl ?_
   rintro _ h233 ⟨_,rfl,ad231,cap232,rfl,ownx,hge,g⟩
   have hlo := e0.size
   have sepo := sep
   replace e0 := e0.ext g
   replace e1 := e1.ext g
   replace m3 := Ext.blk g m3
   replace sep := sep.up g.size
   replace sep := sepo.cons (x := ad231.map (fun (x : Addr) => x.block)) g.size hlo (fun k e => ⟨hge k e,ownx.lt (by rw [blkOf_slice]; exact e)⟩)
   have own_w : Own h233 (.slice ad231 P.length cap232) 49 P.length 4 (prow P) := ownx; clear ownx sepo hlo hge g
   refine SeqK.eff (k' := 3) (Does.new (v := .pointer (some ⟨h233.size,0,none⟩)) (o := .cells (rc rb0 (0 : Int) false false (.slice none 0 0)).toArray 26) (by kernel_rfl)) rfl ?_
   rintro _ h234 ⟨rfl,hh⟩
   have g235 : Ext h233 h234 := push_ext hh
   have m236 : h234[h233.size]? = some (.cells (rc rb0 (0 : Int) false false (.slice none 0 0)).toArray 26) := push_at hh
   clear hh
   have lt237 := blk_lt m236
   have zs238 := e0.size
   have zs239 := e1.size
   have hlo := e0.size
   have sepo := sep
   replace e0 := e0.ext g235
   replace e1 := e1.ext g235
   replace own_w := own_w.ext g235
   replace m3 := Ext.blk g235 m3
   replace sep := sep.up g235.size
   replace sep := sepo.new hlo (blk_lt m236)
   clear sepo hlo
   refine SeqK.eff (k' := 4) (Does.store (b := h233.size) (off := 0) (vs := rc x ex false false (.slice ad231 P.length cap232)) (l := rc rb0 (0 : Int) false false (.slice none 0 0)) (by kernel_rfl) m236 (of_decide_eq_true (by kernel_rfl)) (List.all_eq_true.1 (by kernel_rfl))) rfl ?_
   rintro _ h240 ⟨rfl,hh⟩
   have g241 : Grew (some (h233.size)) h234 h240 := hput_gr hh
   replace m236 : h240[h233.size]? = some (.cells (rc x ex false false (.slice ad231 P.length cap232)).toArray 26) := hput_at (off := 0) (vs := rc x ex false false (.slice ad231 P.length cap232)) (l := (rc rb0 (0 : Int) false false (.slice none 0 0))) hh (by kernel_rfl) m236
   clear hh
   replace e0 := e0.grew g241 (sep.low 0 rfl)
   replace e1 := e1.grew g241 (by rintro _ ⟨⟩; omega)
   replace own_w := own_w.kept g241 (by rw [blkOf_slice]; exact (sep.ap 1 0))
   replace m3 := Grew.blk g241 m3 ((sep.bp 2 0))
   replace sep := sep.up g241.size
   refine sD [(1,.slice (some ac) O.length wc),(2,pV h.size),(5,.bool true),(6,nV i),(7,pV h233.size)] ?_
   clear hF a; intro a hF
   refine tK ?_
   refine cS ?_
   refine cP 8 hF ?_
   refine sP 1 [.int .i64 0] ?_
   refine sD [(1,.slice (some ac) O.length wc),(2,pV h.size),(5,.bool true),(6,nV i),(7,pV h233.size)] ?_
   clear hF a; intro a hF
   refine tK ?_
   refine cS ?_
   refine cP 9 hF ?_
   refine sP 1 [.agg (rc rb0 (0 : Int) false false (.slice none 0 0)).toArray] ?_
   refine SeqK.eff (k' := 2) (Does.new (v := .pointer (some ⟨h240.size,0,none⟩)) (o := .cells (rc rb0 (0 : Int) false false (.slice none 0 0)).toArray 26) (by kernel_rfl)) rfl ?_
   rintro _ h242 ⟨rfl,hh⟩
   have g243 : Ext h240 h242 := push_ext hh
   have m244 : h242[h240.size]? = some (.cells (rc rb0 (0 : Int) false false (.slice none 0 0)).toArray 26) := push_at hh
   clear hh
   have lt245 := blk_lt m244
   have zs246 := e0.size
   have zs247 := e1.size
   have hlo := e0.size
   have sepo := sep
   replace e0 := e0.ext g243
   replace e1 := e1.ext g243
   replace own_w := own_w.ext g243
   replace m3 := Ext.blk g243 m3
   replace m236 := Ext.blk g243 m236
   replace sep := sep.up g243.size
   replace sep := sepo.new hlo (blk_lt m244)
   clear sepo hlo
   refine SeqK.eff (k' := 3) (Does.store (b := h240.size) (off := 0) (vs := rc rb0 (0 : Int) false false (.slice none 0 0)) (l := rc rb0 (0 : Int) false false (.slice none 0 0)) (by kernel_rfl) m244 (of_decide_eq_true (by kernel_rfl)) (List.all_eq_true.1 (by kernel_rfl))) rfl ?_
   rintro _ h248 ⟨rfl,hh⟩
   have g249 : Grew (some (h240.size)) h242 h248 := hput_gr hh
   replace m244 : h248[h240.size]? = some (.cells (rc rb0 (0 : Int) false false (.slice none 0 0)).toArray 26) := hput_at (off := 0) (vs := rc rb0 (0 : Int) false false (.slice none 0 0)) (l := (rc rb0 (0 : Int) false false (.slice none 0 0))) hh (by kernel_rfl) m244
   clear hh
   replace e0 := e0.grew g249 (sep.low 0 rfl)
   replace e1 := e1.grew g249 (by rintro _ ⟨⟩; omega)
   replace own_w := own_w.kept g249 (by rw [blkOf_slice]; exact (sep.ap 2 0))
   replace m3 := Grew.blk g249 m3 ((sep.bp 3 0))
   replace m236 := Grew.blk g249 m236 ((sep.bp 1 0))
   replace sep := sep.up g249.size
   refine sD [(1,.slice (some ac) O.length wc),(2,pV h.size),(5,.bool true),(6,nV i),(7,pV h233.size),(9,pV h240.size)] ?_
   clear hF a; intro a hF
   refine tK ?_
   refine cS ?_
   refine cS ?_
   refine cP 10 hF ?_
   refine sP 2 [.slice (some ac) O.length wc,nV i] ?_
   refine sC 3 (.pointer (some (Addr.add ac (i * 2)))) ((Calm.indexA (a := ac) (len := O.length) (sz := 2) (k := ((i : Nat) : Int)) i (i * 2) (by kernel_rfl) rfl (by omega) (by omega)) _) ?_
   refine sP 4 [.pointer (some (Addr.add ac (i * 2)))] ?_
   refine sC 5 (.int .i64 kd) (Calm.load (T := 3) (p := (Addr.add ac (i * 2))) (by kernel_rfl) (Loads.one (k := 1) (by kernel_rfl) (e0.cell hop.1))) ?_
   refine sC 6 (.int .i64 (kindZ kd)) (Does.call (f := 22) (args := #[.int .i64 kd]) (by kernel_rfl) (kind_sat _ kd hkb.1 hkb.2)) ?_
   refine sD [(1,.slice (some ac) O.length wc),(2,pV h.size),(5,.bool true),(6,nV i),(7,pV h233.size),(9,pV h240.size),(28,.int .i64 (kindZ kd))] ?_
   clear hF a; intro a hF
   refine tK ?_
   refine cB 2 ?_
   refine cS ?_
   refine cP 15 hF ?_
   refine s1 1 (.bool false) (.bool ((kindZ kd) == (0 : Int))) (congrArg Value.bool (beq_eq_false_iff_ne.2 (by omega))) ?_
   refine sP 2 [.bool false] ?_
   refine sD [(1,.slice (some ac) O.length wc),(2,pV h.size),(5,.bool true),(6,nV i),(7,pV h233.size),(9,pV h240.size),(28,.int .i64 (kindZ kd)),(83,.bool false)] ?_
   clear hF a; intro a hF
   refine tK ?_
   refine cF 83 hF ?_
   refine cS ?_
   refine cP 19 hF ?_
   refine s1 1 (.bool false) (.bool ((kindZ kd) == (1 : Int))) (congrArg Value.bool (beq_eq_false_iff_ne.2 (by omega))) ?_
   refine sP 2 [.bool false] ?_
   refine sD [(1,.slice (some ac) O.length wc),(2,pV h.size),(5,.bool true),(6,nV i),(7,pV h233.size),(9,pV h240.size),(142,.bool false)] ?_
   clear hF a; intro a hF
   refine tK ?_
   refine cF 142 hF ?_
   refine cS ?_
   refine cD [0,0,0,6,14,30,63,127,255,255,511,2047] 11 mixed hF ?_
   refine mL 1 1 0 (.agg (rc x ex false false (.slice rd P.length rcp)).toArray) (Calm.load (T := 26) (p := ⟨h.size,0,none⟩) (by kernel_rfl) (Loads.blk (vs := rc x ex false false (.slice rd P.length rcp)) (by kernel_rfl) m3 rfl)) ?_
   refine mP 7 [1,2] [.slice (some ac) O.length wc,nV i] ?_
   refine mF 15 3 (.pointer (some (Addr.add ac (i * 2)))) (Calm.indexA (a := ac) (len := O.length) (sz := 2) (k := ((i : Nat) : Int)) i (i * 2) (by kernel_rfl) rfl (by omega) (by omega)) ?_
   refine m1 31 4 (.pointer (some (Addr.add ac (i * 2 + 1)))) (.pointer (some ((Addr.add ac (i * 2)).add 1))) (by rw [add_add]) ?_
   refine mL 63 33 5 (.int .i64 u) (Calm.load (T := 3) (p := (Addr.add ac (i * 2 + 1))) (by kernel_rfl) (Loads.one (k := 1) (by kernel_rfl) (e0.cell hop.2))) ?_
   refine SimK.eff0 (i := 6) (D' := 127) (X' := 127) (by kernel_rfl) (by kernel_rfl) (by kernel_rfl) (by kernel_rfl) (Does.call (f := 18) (args := #[.agg (rc x ex false false (.slice rd P.length rcp)).toArray,.int .i64 u]) (by kernel_rfl) (del_soon _ x ex P rd rcp u hu)) ?_
   rintro _ h250 ⟨rfl,g⟩
   replace e0 := e0.ext g
   replace e1 := e1.ext g
   replace own_w := own_w.ext g
   replace m3 := Ext.blk g m3
   replace m236 := Ext.blk g m236
   replace m244 := Ext.blk g m244
   replace sep := sep.up g.size
   clear g
   refine mP 1023 [7,8,9] [.tuple #[.agg (rc rb0 (0 : Int) false false (.slice none 0 0)).toArray,.int .i64 214],.agg (rc rb0 (0 : Int) false false (.slice none 0 0)).toArray,.int .i64 214] ?_
   refine SimK.eff0 (i := 10) (D' := 2047) (X' := 1535) (by kernel_rfl) (by kernel_rfl) (by kernel_rfl) (by kernel_rfl) (Does.store (b := h240.size) (off := 0) (vs := rc rb0 (0 : Int) false false (.slice none 0 0)) (l := rc rb0 (0 : Int) false false (.slice none 0 0)) (by kernel_rfl) m244 (of_decide_eq_true (by kernel_rfl)) (List.all_eq_true.1 (by kernel_rfl))) ?_
   rintro _ h251 ⟨rfl,hh⟩
   have g252 : Grew (some (h240.size)) h250 h251 := hput_gr hh
   replace m244 : h251[h240.size]? = some (.cells (rc rb0 (0 : Int) false false (.slice none 0 0)).toArray 26) := hput_at (off := 0) (vs := rc rb0 (0 : Int) false false (.slice none 0 0)) (l := (rc rb0 (0 : Int) false false (.slice none 0 0))) hh (by kernel_rfl) m244
   clear hh
   replace e0 := e0.grew g252 (sep.low 0 rfl)
   replace e1 := e1.grew g252 (by rintro _ ⟨⟩; omega)
   replace own_w := own_w.kept g252 (by rw [blkOf_slice]; exact (sep.ap 2 0))
   replace m3 := Grew.blk g252 m3 ((sep.bp 3 0))
   replace m236 := Grew.blk g252 m236 ((sep.bp 1 0))
   replace sep := sep.up g252.size
   refine mP 4095 [11] [.int .i64 214] ?_
   refine mD [(1,.slice (some ac) O.length wc),(2,pV h.size),(5,.bool true),(6,nV i),(7,pV h233.size),(8,.int .i64 214),(9,pV h240.size)] ?_
   clear hF a; intro a hF
   refine tK ?_
   refine cS ?_
   refine cD [0,1,3,7,15,31,63,127,255,511,1023,511,511,6655,14847,31231,65535,131071,262143] 12 mixed hF ?_
   refine mP 1 [0] [.pointer (some ⟨h233.size,37,none⟩)] ?_
   refine mL 3 2 1 (.bool false) (Calm.load (T := 4) (p := ⟨h233.size,37,none⟩) (by kernel_rfl) (Loads.one (k := 1) (by kernel_rfl) ((hcell_blk m236).trans (rfl)))) ?_
   refine mP 31 [2,3,4] [.bool true,.bool true,.pointer (some ⟨h233.size,36,none⟩)] ?_
   refine mL 63 34 5 (.bool false) (Calm.load (T := 4) (p := ⟨h233.size,36,none⟩) (by kernel_rfl) (Loads.one (k := 1) (by kernel_rfl) ((hcell_blk m236).trans (rfl)))) ?_
   refine mP 1023 [6,7,8,9] [.bool true,.bool true,.bool true,.pointer (some ⟨h233.size,35,none⟩)] ?_
   refine mL 2047 1058 10 (.int .i64 ex) (Calm.load (T := 3) (p := ⟨h233.size,35,none⟩) (by kernel_rfl) (Loads.one (k := 1) (by kernel_rfl) ((hcell_blk m236).trans (rfl)))) ?_
   refine mP 8191 [11,12] [.slice (some ac) O.length wc,nV i] ?_
   refine mF 16383 13 (.pointer (some (Addr.add ac (i * 2)))) (Calm.indexA (a := ac) (len := O.length) (sz := 2) (k := ((i : Nat) : Int)) i (i * 2) (by kernel_rfl) rfl (by omega) (by omega)) ?_
   refine m1 32767 14 (.pointer (some (Addr.add ac (i * 2 + 1)))) (.pointer (some ((Addr.add ac (i * 2)).add 1))) (by rw [add_add]) ?_
   refine mL 65535 33826 15 (.int .i64 u) (Calm.load (T := 3) (p := (Addr.add ac (i * 2 + 1))) (by kernel_rfl) (Loads.one (k := 1) (by kernel_rfl) (e0.cell hop.2))) ?_
   refine m1 131071 16 (.bool false) (.bool (decide (ex ≤ u))) (congrArg Value.bool (decide_eq_false (by omega))) ?_
   refine mP 524287 [17,18] [.bool false,.bool false] ?_
   refine mD [(1,.slice (some ac) O.length wc),(2,pV h.size),(5,.bool true),(6,nV i),(7,pV h233.size),(8,.int .i64 214),(9,pV h240.size),(10,.bool false)] ?_
   clear hF a; intro a hF
   refine tK ?_
   refine cS ?_
   refine cP 13 hF ?_
   refine sP 26 [.bool false,.int .i64 214,.bool false,.bool false,.bool false,.int .i64 214,.bool false,.bool false,undef,undef,undef,undef,undef,undef,undef,undef,undef,undef,undef,undef,undef,undef,undef,undef,.bool false,.bool false] ?_
   refine sD [(1,.slice (some ac) O.length wc),(2,pV h.size),(5,.bool true),(6,nV i),(7,pV h233.size),(8,.int .i64 214),(9,pV h240.size),(82,.bool false)] ?_
   clear hF a; intro a hF
   refine tK ?_
   refine cF 82 hF ?_
   refine cN ?_
   show C Try.prog (sub b7 [1,1,1,0,1,0,0,1,0,0,1,1,1,1]) _ a h251
   refine cS ?_
   refine cP 23 hF ?_
   refine sP 2 [.int .i64 214,.bool false] ?_
   refine sD [(1,.slice (some ac) O.length wc),(2,pV h.size),(5,.bool true),(6,nV i),(7,pV h233.size),(8,.int .i64 214),(9,pV h240.size),(182,.bool false)] ?_
   clear hF a; intro a hF
   refine tK ?_
   refine cF 182 hF ?_
   refine cS ?_
   refine cP 27 hF ?_
   refine sC 1 (.agg (rc x ex false false (.slice rd P.length rcp)).toArray) (Calm.load (T := 26) (p := ⟨h.size,0,none⟩) (by kernel_rfl) (Loads.blk (vs := rc x ex false false (.slice rd P.length rcp)) (by kernel_rfl) m3 rfl)) ?_
   refine sC 2 (.agg (rc x ex false false (.slice ad231 P.length cap232)).toArray) (Calm.load (T := 26) (p := ⟨h233.size,0,none⟩) (by kernel_rfl) (Loads.blk (vs := rc x ex false false (.slice ad231 P.length cap232)) (by kernel_rfl) m236 rfl)) ?_
   refine SeqK.eff (k' := 3) (Does.call (f := 14) (args := #[.agg (rc x ex false false (.slice rd P.length rcp)).toArray,.agg (rc x ex false false (.slice ad231 P.length cap232)).toArray]) (by kernel_rfl) (same_sat _ x ex false false P rd rcp (hrow.ext e1) hP ad231 cap232 own_w.row)) rfl ?_
   rintro _ h253 ⟨rfl,g⟩
   replace e0 := e0.ext g
   replace e1 := e1.ext g
   replace own_w := own_w.ext g
   replace m3 := Ext.blk g m3
   replace m236 := Ext.blk g m236
   replace m244 := Ext.blk g m244
   replace sep := sep.up g.size
   clear g
   refine sP 5 [.bool false,.bool false] ?_
   refine sC 6 (.agg (rc rb0 (0 : Int) false false (.slice none 0 0)).toArray) (Calm.load (T := 26) (p := ⟨h240.size,0,none⟩) (by kernel_rfl) (Loads.blk (vs := rc rb0 (0 : Int) false false (.slice none 0 0)) (by kernel_rfl) m244 rfl)) ?_
   refine sP 7 [.agg (rc rb0 (0 : Int) false false (.slice none 0 0)).toArray] ?_
   refine SeqK.eff (k' := 8) (Does.call (f := 14) (args := #[.agg (rc rb0 (0 : Int) false false (.slice none 0 0)).toArray,.agg (rc rb0 (0 : Int) false false (.slice none 0 0)).toArray]) (by kernel_rfl) (same_sat _ rb0 0 false false [] none 0 (Row.nil _ 4) (by decide) none 0 (Row.nil _ 4))) rfl ?_
   rintro _ h254 ⟨rfl,g⟩
   replace e0 := e0.ext g
   replace e1 := e1.ext g
   replace own_w := own_w.ext g
   replace m3 := Ext.blk g m3
   replace m236 := Ext.blk g m236
   replace m244 := Ext.blk g m244
   replace sep := sep.up g.size
   clear g
   refine sP 12 [.bool false,.bool false,.bool false,.pointer (some ⟨h233.size,37,none⟩)] ?_
   refine sC 13 (.bool false) (Calm.load (T := 4) (p := ⟨h233.size,37,none⟩) (by kernel_rfl) (Loads.one (k := 1) (by kernel_rfl) ((hcell_blk m236).trans (rfl)))) ?_
   refine sP 22 [.bool false,undef,undef,.bool false,.bool false,undef,undef,.bool false,.bool false] ?_
   refine sD [(1,.slice (some ac) O.length wc),(2,pV h.size),(5,.bool true),(6,nV i),(235,.bool false)] ?_
   clear hF a; intro a hF
   refine tK ?_
   refine cF 235 hF ?_
   refine cN ?_
   show C Try.prog (sub b7 [1,1,1,0,1,0,0,1,1]) _ a h254
   refine cP 6 hF ?_
   refine sP 1 [nV i] ?_
   refine s1 2 (.int .i64 ((i + 1 : Nat) : Int)) (.int .i64 (IntKind.i64.wrap (((i : Nat) : Int) + 1))) (congrArg (Value.int .i64) (w64' (by omega) (by omega) (by omega))) ?_
   refine sP 3 [nV (i + 1)] ?_
   refine sD [(1,.slice (some ac) O.length wc),(2,pV h.size),(5,.bool true),(6,nV (i + 1))] ?_
   clear hF a; intro a hF
   have fsep : Sep h.size h254.size [some h.size] := sep.pick [3] rfl (by decide)
   have fr := hrow.ext e1; have fP := hP
   show ∃ m',m' < _ ∧ _
   refine ⟨_,?_,(i + 1),ex,false,false,P,rd,rcp,rfl,e0,(by omega),m3,fr,fP,fsep,hF⟩
   omega
  ·skip
   have hk0 : kindZ kd ≠ 0 := by omega
   have hk1 : kindZ kd ≠ 1 := by omega
   refine cP 7 hF ?_
   refine sC 1 (.agg (rc x ex false false (.slice rd P.length rcp)).toArray) (Calm.load (T := 26) (p := ⟨h.size,0,none⟩) (by kernel_rfl) (Loads.blk (vs := rc x ex false false (.slice rd P.length rcp)) (by kernel_rfl) m3 rfl)) ?_
   refine SeqK.eff (k' := 2) (Does.call (f := 11) (args := #[.agg (rc x ex false false (.slice rd P.length rcp)).toArray]) (by kernel_rfl) (copied_sat _ x ex false false P rd rcp (hrow.ext e1) hP)) rfl ?_
   rintro _ h257 ⟨_,rfl,ad255,cap256,rfl,ownx,hge,g⟩
   have hlo := e0.size
   have sepo := sep
   replace e0 := e0.ext g
   replace e1 := e1.ext g
   replace m3 := Ext.blk g m3
   replace sep := sep.up g.size
   replace sep := sepo.cons (x := ad255.map (fun (x : Addr) => x.block)) g.size hlo (fun k e => ⟨hge k e,ownx.lt (by rw [blkOf_slice]; exact e)⟩)
   have own_w : Own h257 (.slice ad255 P.length cap256) 49 P.length 4 (prow P) := ownx; clear ownx sepo hlo hge g
   refine SeqK.eff (k' := 3) (Does.new (v := .pointer (some ⟨h257.size,0,none⟩)) (o := .cells (rc rb0 (0 : Int) false false (.slice none 0 0)).toArray 26) (by kernel_rfl)) rfl ?_
   rintro _ h258 ⟨rfl,hh⟩
   have g259 : Ext h257 h258 := push_ext hh
   have m260 : h258[h257.size]? = some (.cells (rc rb0 (0 : Int) false false (.slice none 0 0)).toArray 26) := push_at hh
   clear hh
   have lt261 := blk_lt m260
   have zs262 := e0.size
   have zs263 := e1.size
   have hlo := e0.size
   have sepo := sep
   replace e0 := e0.ext g259
   replace e1 := e1.ext g259
   replace own_w := own_w.ext g259
   replace m3 := Ext.blk g259 m3
   replace sep := sep.up g259.size
   replace sep := sepo.new hlo (blk_lt m260)
   clear sepo hlo
   refine SeqK.eff (k' := 4) (Does.store (b := h257.size) (off := 0) (vs := rc x ex false false (.slice ad255 P.length cap256)) (l := rc rb0 (0 : Int) false false (.slice none 0 0)) (by kernel_rfl) m260 (of_decide_eq_true (by kernel_rfl)) (List.all_eq_true.1 (by kernel_rfl))) rfl ?_
   rintro _ h264 ⟨rfl,hh⟩
   have g265 : Grew (some (h257.size)) h258 h264 := hput_gr hh
   replace m260 : h264[h257.size]? = some (.cells (rc x ex false false (.slice ad255 P.length cap256)).toArray 26) := hput_at (off := 0) (vs := rc x ex false false (.slice ad255 P.length cap256)) (l := (rc rb0 (0 : Int) false false (.slice none 0 0))) hh (by kernel_rfl) m260
   clear hh
   replace e0 := e0.grew g265 (sep.low 0 rfl)
   replace e1 := e1.grew g265 (by rintro _ ⟨⟩; omega)
   replace own_w := own_w.kept g265 (by rw [blkOf_slice]; exact (sep.ap 1 0))
   replace m3 := Grew.blk g265 m3 ((sep.bp 2 0))
   replace sep := sep.up g265.size
   refine sD [(1,.slice (some ac) O.length wc),(2,pV h.size),(5,.bool true),(6,nV i),(7,pV h257.size)] ?_
   clear hF a; intro a hF
   refine tK ?_
   refine cS ?_
   refine cP 8 hF ?_
   refine sP 1 [.int .i64 0] ?_
   refine sD [(1,.slice (some ac) O.length wc),(2,pV h.size),(5,.bool true),(6,nV i),(7,pV h257.size)] ?_
   clear hF a; intro a hF
   refine tK ?_
   refine cS ?_
   refine cP 9 hF ?_
   refine sP 1 [.agg (rc rb0 (0 : Int) false false (.slice none 0 0)).toArray] ?_
   refine SeqK.eff (k' := 2) (Does.new (v := .pointer (some ⟨h264.size,0,none⟩)) (o := .cells (rc rb0 (0 : Int) false false (.slice none 0 0)).toArray 26) (by kernel_rfl)) rfl ?_
   rintro _ h266 ⟨rfl,hh⟩
   have g267 : Ext h264 h266 := push_ext hh
   have m268 : h266[h264.size]? = some (.cells (rc rb0 (0 : Int) false false (.slice none 0 0)).toArray 26) := push_at hh
   clear hh
   have lt269 := blk_lt m268
   have zs270 := e0.size
   have zs271 := e1.size
   have hlo := e0.size
   have sepo := sep
   replace e0 := e0.ext g267
   replace e1 := e1.ext g267
   replace own_w := own_w.ext g267
   replace m3 := Ext.blk g267 m3
   replace m260 := Ext.blk g267 m260
   replace sep := sep.up g267.size
   replace sep := sepo.new hlo (blk_lt m268)
   clear sepo hlo
   refine SeqK.eff (k' := 3) (Does.store (b := h264.size) (off := 0) (vs := rc rb0 (0 : Int) false false (.slice none 0 0)) (l := rc rb0 (0 : Int) false false (.slice none 0 0)) (by kernel_rfl) m268 (of_decide_eq_true (by kernel_rfl)) (List.all_eq_true.1 (by kernel_rfl))) rfl ?_
   rintro _ h272 ⟨rfl,hh⟩
   have g273 : Grew (some (h264.size)) h266 h272 := hput_gr hh
   replace m268 : h272[h264.size]? = some (.cells (rc rb0 (0 : Int) false false (.slice none 0 0)).toArray 26) := hput_at (off := 0) (vs := rc rb0 (0 : Int) false false (.slice none 0 0)) (l := (rc rb0 (0 : Int) false false (.slice none 0 0))) hh (by kernel_rfl) m268
   clear hh
   replace e0 := e0.grew g273 (sep.low 0 rfl)
   replace e1 := e1.grew g273 (by rintro _ ⟨⟩; omega)
   replace own_w := own_w.kept g273 (by rw [blkOf_slice]; exact (sep.ap 2 0))
   replace m3 := Grew.blk g273 m3 ((sep.bp 3 0))
   replace m260 := Grew.blk g273 m260 ((sep.bp 1 0))
   replace sep := sep.up g273.size
   refine sD [(1,.slice (some ac) O.length wc),(2,pV h.size),(5,.bool true),(6,nV i),(7,pV h257.size),(9,pV h264.size)] ?_
   clear hF a; intro a hF
   refine tK ?_
   refine cS ?_
   refine cS ?_
   refine cP 10 hF ?_
   refine sP 2 [.slice (some ac) O.length wc,nV i] ?_
   refine sC 3 (.pointer (some (Addr.add ac (i * 2)))) ((Calm.indexA (a := ac) (len := O.length) (sz := 2) (k := ((i : Nat) : Int)) i (i * 2) (by kernel_rfl) rfl (by omega) (by omega)) _) ?_
   refine sP 4 [.pointer (some (Addr.add ac (i * 2)))] ?_
   refine sC 5 (.int .i64 kd) (Calm.load (T := 3) (p := (Addr.add ac (i * 2))) (by kernel_rfl) (Loads.one (k := 1) (by kernel_rfl) (e0.cell hop.1))) ?_
   refine sC 6 (.int .i64 (kindZ kd)) (Does.call (f := 22) (args := #[.int .i64 kd]) (by kernel_rfl) (kind_sat _ kd hkb.1 hkb.2)) ?_
   refine sD [(1,.slice (some ac) O.length wc),(2,pV h.size),(5,.bool true),(6,nV i),(7,pV h257.size),(9,pV h264.size),(28,.int .i64 (kindZ kd))] ?_
   clear hF a; intro a hF
   refine tK ?_
   refine cB 2 ?_
   refine cS ?_
   refine cP 15 hF ?_
   refine s1 1 (.bool false) (.bool ((kindZ kd) == (0 : Int))) (congrArg Value.bool (beq_eq_false_iff_ne.2 (by omega))) ?_
   refine sP 2 [.bool false] ?_
   refine sD [(1,.slice (some ac) O.length wc),(2,pV h.size),(5,.bool true),(6,nV i),(7,pV h257.size),(9,pV h264.size),(28,.int .i64 (kindZ kd)),(83,.bool false)] ?_
   clear hF a; intro a hF
   refine tK ?_
   refine cF 83 hF ?_
   refine cS ?_
   refine cP 19 hF ?_
   refine s1 1 (.bool false) (.bool ((kindZ kd) == (1 : Int))) (congrArg Value.bool (beq_eq_false_iff_ne.2 (by omega))) ?_
   refine sP 2 [.bool false] ?_
   refine sD [(1,.slice (some ac) O.length wc),(2,pV h.size),(5,.bool true),(6,nV i),(7,pV h257.size),(9,pV h264.size),(142,.bool false)] ?_
   clear hF a; intro a hF
   refine tK ?_
   refine cF 142 hF ?_
   refine cS ?_
   refine cD [0,0,0,6,14,30,63,127,255,255,511,2047] 11 mixed hF ?_
   refine mL 1 1 0 (.agg (rc x ex false false (.slice rd P.length rcp)).toArray) (Calm.load (T := 26) (p := ⟨h.size,0,none⟩) (by kernel_rfl) (Loads.blk (vs := rc x ex false false (.slice rd P.length rcp)) (by kernel_rfl) m3 rfl)) ?_
   refine mP 7 [1,2] [.slice (some ac) O.length wc,nV i] ?_
   refine mF 15 3 (.pointer (some (Addr.add ac (i * 2)))) (Calm.indexA (a := ac) (len := O.length) (sz := 2) (k := ((i : Nat) : Int)) i (i * 2) (by kernel_rfl) rfl (by omega) (by omega)) ?_
   refine m1 31 4 (.pointer (some (Addr.add ac (i * 2 + 1)))) (.pointer (some ((Addr.add ac (i * 2)).add 1))) (by rw [add_add]) ?_
   refine mL 63 33 5 (.int .i64 u) (Calm.load (T := 3) (p := (Addr.add ac (i * 2 + 1))) (by kernel_rfl) (Loads.one (k := 1) (by kernel_rfl) (e0.cell hop.2))) ?_
   refine SimK.eff0 (i := 6) (D' := 127) (X' := 127) (by kernel_rfl) (by kernel_rfl) (by kernel_rfl) (by kernel_rfl) (Does.call (f := 18) (args := #[.agg (rc x ex false false (.slice rd P.length rcp)).toArray,.int .i64 u]) (by kernel_rfl) (del_ok _ x ex P rd rcp (hrow.ext e1) hP u hu)) ?_
   rintro _ h274 ⟨rfl,g⟩
   replace e0 := e0.ext g
   replace e1 := e1.ext g
   replace own_w := own_w.ext g
   replace m3 := Ext.blk g m3
   replace m260 := Ext.blk g m260
   replace m268 := Ext.blk g m268
   replace sep := sep.up g.size
   clear g
   refine mP 1023 [7,8,9] [.tuple #[.agg (rc x ex false true (.slice none 0 0)).toArray,.int .i64 0],.agg (rc x ex false true (.slice none 0 0)).toArray,.int .i64 0] ?_
   refine SimK.eff0 (i := 10) (D' := 2047) (X' := 1535) (by kernel_rfl) (by kernel_rfl) (by kernel_rfl) (by kernel_rfl) (Does.store (b := h264.size) (off := 0) (vs := rc x ex false true (.slice none 0 0)) (l := rc rb0 (0 : Int) false false (.slice none 0 0)) (by kernel_rfl) m268 (of_decide_eq_true (by kernel_rfl)) (List.all_eq_true.1 (by kernel_rfl))) ?_
   rintro _ h275 ⟨rfl,hh⟩
   have g276 : Grew (some (h264.size)) h274 h275 := hput_gr hh
   replace m268 : h275[h264.size]? = some (.cells (rc x ex false true (.slice none 0 0)).toArray 26) := hput_at (off := 0) (vs := rc x ex false true (.slice none 0 0)) (l := (rc rb0 (0 : Int) false false (.slice none 0 0))) hh (by kernel_rfl) m268
   clear hh
   replace e0 := e0.grew g276 (sep.low 0 rfl)
   replace e1 := e1.grew g276 (by rintro _ ⟨⟩; omega)
   replace own_w := own_w.kept g276 (by rw [blkOf_slice]; exact (sep.ap 2 0))
   replace m3 := Grew.blk g276 m3 ((sep.bp 3 0))
   replace m260 := Grew.blk g276 m260 ((sep.bp 1 0))
   replace sep := sep.up g276.size
   refine mP 4095 [11] [.int .i64 0] ?_
   refine mD [(1,.slice (some ac) O.length wc),(2,pV h.size),(5,.bool true),(6,nV i),(7,pV h257.size),(8,.int .i64 0),(9,pV h264.size)] ?_
   clear hF a; intro a hF
   refine tK ?_
   refine cS ?_
   refine cD [0,1,3,7,15,31,63,127,255,511,1023,511,511,6655,14847,31231,65535,131071,262143] 12 mixed hF ?_
   refine mP 1 [0] [.pointer (some ⟨h257.size,37,none⟩)] ?_
   refine mL 3 2 1 (.bool false) (Calm.load (T := 4) (p := ⟨h257.size,37,none⟩) (by kernel_rfl) (Loads.one (k := 1) (by kernel_rfl) ((hcell_blk m260).trans (rfl)))) ?_
   refine mP 31 [2,3,4] [.bool true,.bool true,.pointer (some ⟨h257.size,36,none⟩)] ?_
   refine mL 63 34 5 (.bool false) (Calm.load (T := 4) (p := ⟨h257.size,36,none⟩) (by kernel_rfl) (Loads.one (k := 1) (by kernel_rfl) ((hcell_blk m260).trans (rfl)))) ?_
   refine mP 1023 [6,7,8,9] [.bool true,.bool true,.bool true,.pointer (some ⟨h257.size,35,none⟩)] ?_
   refine mL 2047 1058 10 (.int .i64 ex) (Calm.load (T := 3) (p := ⟨h257.size,35,none⟩) (by kernel_rfl) (Loads.one (k := 1) (by kernel_rfl) ((hcell_blk m260).trans (rfl)))) ?_
   refine mP 8191 [11,12] [.slice (some ac) O.length wc,nV i] ?_
   refine mF 16383 13 (.pointer (some (Addr.add ac (i * 2)))) (Calm.indexA (a := ac) (len := O.length) (sz := 2) (k := ((i : Nat) : Int)) i (i * 2) (by kernel_rfl) rfl (by omega) (by omega)) ?_
   refine m1 32767 14 (.pointer (some (Addr.add ac (i * 2 + 1)))) (.pointer (some ((Addr.add ac (i * 2)).add 1))) (by rw [add_add]) ?_
   refine mL 65535 33826 15 (.int .i64 u) (Calm.load (T := 3) (p := (Addr.add ac (i * 2 + 1))) (by kernel_rfl) (Loads.one (k := 1) (by kernel_rfl) (e0.cell hop.2))) ?_
   refine m1 131071 16 (.bool true) (.bool (decide (ex ≤ u))) (congrArg Value.bool (decide_eq_true (by omega))) ?_
   refine mP 524287 [17,18] [.bool true,.bool true] ?_
   refine mD [(1,.slice (some ac) O.length wc),(2,pV h.size),(5,.bool true),(6,nV i),(7,pV h257.size),(8,.int .i64 0),(9,pV h264.size),(10,.bool true)] ?_
   clear hF a; intro a hF
   refine tK ?_
   refine cS ?_
   refine cP 13 hF ?_
   refine sP 9 [.bool true,.int .i64 0,.bool true,.bool false,.bool false,.int .i64 0,.bool true,.bool true,.pointer (some ⟨h264.size,37,none⟩)] ?_
   refine sC 10 (.bool true) (Calm.load (T := 4) (p := ⟨h264.size,37,none⟩) (by kernel_rfl) (Loads.one (k := 1) (by kernel_rfl) ((hcell_blk m268).trans (rfl)))) ?_
   refine sP 13 [.bool false,.bool false,.pointer (some ⟨h264.size,35,none⟩)] ?_
   refine sC 14 (.int .i64 ex) (Calm.load (T := 3) (p := ⟨h264.size,35,none⟩) (by kernel_rfl) (Loads.one (k := 1) (by kernel_rfl) ((hcell_blk m268).trans (rfl)))) ?_
   refine sP 15 [.pointer (some ⟨h257.size,35,none⟩)] ?_
   refine sC 16 (.int .i64 ex) (Calm.load (T := 3) (p := ⟨h257.size,35,none⟩) (by kernel_rfl) (Loads.one (k := 1) (by kernel_rfl) ((hcell_blk m260).trans (rfl)))) ?_
   refine s1 17 (.bool false) (.bool (!(ex == ex))) (congrArg (fun b => Value.bool (!b)) (beq_iff_eq.2 (by omega))) ?_
   refine sP 20 [.bool false,.bool false,.pointer (some ⟨h264.size,38,none⟩)] ?_
   refine sC 21 (.slice none 0 0) (Calm.load (T := 24) (p := ⟨h264.size,38,none⟩) (by kernel_rfl) (Loads.one (k := 1) (by kernel_rfl) ((hcell_blk m268).trans (rfl)))) ?_
   refine sP 26 [.int .i64 0,.bool false,.bool false,.bool false,.bool false] ?_
   refine sD [(1,.slice (some ac) O.length wc),(2,pV h.size),(5,.bool true),(6,nV i),(7,pV h257.size),(8,.int .i64 0),(9,pV h264.size),(82,.bool false)] ?_
   clear hF a; intro a hF
   refine tK ?_
   refine cF 82 hF ?_
   refine cN ?_
   show C Try.prog (sub b7 [1,1,1,0,1,0,0,1,0,0,1,1,1,1]) _ a h275
   refine cS ?_
   refine cP 23 hF ?_
   refine sP 2 [.int .i64 0,.bool true] ?_
   refine sD [(1,.slice (some ac) O.length wc),(2,pV h.size),(5,.bool true),(6,nV i),(7,pV h257.size),(8,.int .i64 0),(9,pV h264.size),(182,.bool true)] ?_
   clear hF a; intro a hF
   refine tK ?_
   refine cT 182 hF ?_
   refine cS ?_
   refine cS ?_
   refine cP 24 hF ?_
   refine sP 1 [pV h264.size] ?_
   refine sC 2 (.string x.id) (Calm.load (T := 9) (p := ⟨h264.size,0,none⟩) (by kernel_rfl) (Loads.one (k := 1) (by kernel_rfl) ((hcell_blk m268).trans (rfl)))) ?_
   refine sP 3 [pV h257.size] ?_
   refine sC 4 (.string x.id) (Calm.load (T := 9) (p := ⟨h257.size,0,none⟩) (by kernel_rfl) (Loads.one (k := 1) (by kernel_rfl) ((hcell_blk m260).trans (rfl)))) ?_
   refine s1 5 (.bool false) (.bool (!(x.id.toList == x.id.toList))) (congrArg Value.bool (by simp)) ?_
   refine sP 7 [.bool false,.pointer (some ⟨h264.size,1,none⟩)] ?_
   refine sC 8 (.int .i64 x.len) (Calm.load (T := 3) (p := ⟨h264.size,1,none⟩) (by kernel_rfl) (Loads.one (k := 1) (by kernel_rfl) ((hcell_blk m268).trans (rfl)))) ?_
   refine sP 9 [.pointer (some ⟨h257.size,1,none⟩)] ?_
   refine sC 10 (.int .i64 x.len) (Calm.load (T := 3) (p := ⟨h257.size,1,none⟩) (by kernel_rfl) (Loads.one (k := 1) (by kernel_rfl) ((hcell_blk m260).trans (rfl)))) ?_
   refine s1 11 (.bool false) (.bool (!(x.len == x.len))) (congrArg (fun b => Value.bool (!b)) (beq_iff_eq.2 (by omega))) ?_
   refine sP 14 [.bool false,.bool false,.pointer (some ⟨h264.size,2,none⟩)] ?_
   refine sC 15 (.agg ((hl x).map bv).toArray) (Calm.load (T := 23) (p := ⟨h264.size,2,none⟩) (by kernel_rfl) (Loads.blk (vs := (hl x).map bv) (by kernel_rfl) m268 rfl)) ?_
   refine sP 16 [.pointer (some ⟨h257.size,2,none⟩)] ?_
   refine sC 17 (.agg ((hl x).map bv).toArray) (Calm.load (T := 23) (p := ⟨h257.size,2,none⟩) (by kernel_rfl) (Loads.blk (vs := (hl x).map bv) (by kernel_rfl) m260 rfl)) ?_
   refine sC 18 (.bool false) ((eqHT (q := false) (l := (hl x)) (r := (hl x)) (n := 32) (by kernel_rfl) rfl rfl rfl) _) ?_
   refine sP 21 [.bool false,.bool false,.pointer (some ⟨h264.size,34,none⟩)] ?_
   refine sC 22 (.int .i64 x.idx) (Calm.load (T := 3) (p := ⟨h264.size,34,none⟩) (by kernel_rfl) (Loads.one (k := 1) (by kernel_rfl) ((hcell_blk m268).trans (rfl)))) ?_
   refine sP 23 [.pointer (some ⟨h257.size,34,none⟩)] ?_
   refine sC 24 (.int .i64 x.idx) (Calm.load (T := 3) (p := ⟨h257.size,34,none⟩) (by kernel_rfl) (Loads.one (k := 1) (by kernel_rfl) ((hcell_blk m260).trans (rfl)))) ?_
   refine s1 25 (.bool false) (.bool (!(x.idx == x.idx))) (congrArg (fun b => Value.bool (!b)) (beq_iff_eq.2 (by omega))) ?_
   refine sP 28 [.bool false,.bool false,.pointer (some ⟨h257.size,37,none⟩)] ?_
   refine sC 29 (.bool false) (Calm.load (T := 4) (p := ⟨h257.size,37,none⟩) (by kernel_rfl) (Loads.one (k := 1) (by kernel_rfl) ((hcell_blk m260).trans (rfl)))) ?_
   refine sP 30 [.bool false] ?_
   refine sD [(1,.slice (some ac) O.length wc),(2,pV h.size),(5,.bool true),(6,nV i),(9,pV h264.size),(212,.bool false)] ?_
   clear hF a; intro a hF
   refine tK ?_
   refine cF 212 hF ?_
   refine cN ?_
   refine tK ?_
   refine cP 26 hF ?_
   refine sC 1 (.agg (rc x ex false true (.slice none 0 0)).toArray) (Calm.load (T := 26) (p := ⟨h264.size,0,none⟩) (by kernel_rfl) (Loads.blk (vs := rc x ex false true (.slice none 0 0)) (by kernel_rfl) m268 rfl)) ?_
   refine SeqK.eff (k' := 2) (Does.store (b := h.size) (off := 0) (vs := rc x ex false true (.slice none 0 0)) (l := rc x ex false false (.slice rd P.length rcp)) (by kernel_rfl) m3 (of_decide_eq_true (by kernel_rfl)) (List.all_eq_true.1 (by kernel_rfl))) rfl ?_
   rintro _ h277 ⟨rfl,hh⟩
   have g278 : Grew (some (h.size)) h275 h277 := hput_gr hh
   replace m3 : h277[h.size]? = some (.cells (rc x ex false true (.slice none 0 0)).toArray 26) := hput_at (off := 0) (vs := rc x ex false true (.slice none 0 0)) (l := (rc x ex false false (.slice rd P.length rcp))) hh (by kernel_rfl) m3
   clear hh
   replace e0 := e0.grew g278 (sep.low 3 rfl)
   clear e1
   replace own_w := own_w.kept g278 (by rw [blkOf_slice]; exact (sep.ap 2 3))
   replace m260 := Grew.blk g278 m260 ((sep.bp 1 3))
   replace m268 := Grew.blk g278 m268 ((sep.bp 0 3))
   replace sep := sep.up g278.size
   refine sD [(1,.slice (some ac) O.length wc),(2,pV h.size),(5,.bool true),(6,nV i)] ?_
   clear hF a; intro a hF
   show C Try.prog (sub b7 [1,1,1,0,1,0,0,1,1]) _ a h277
   refine cP 6 hF ?_
   refine sP 1 [nV i] ?_
   refine s1 2 (.int .i64 ((i + 1 : Nat) : Int)) (.int .i64 (IntKind.i64.wrap (((i : Nat) : Int) + 1))) (congrArg (Value.int .i64) (w64' (by omega) (by omega) (by omega))) ?_
   refine sP 3 [nV (i + 1)] ?_
   refine sD [(1,.slice (some ac) O.length wc),(2,pV h.size),(5,.bool true),(6,nV (i + 1))] ?_
   clear hF a; intro a hF
   have fsep : Sep h.size h277.size [some h.size] := sep.pick [3] rfl (by decide)
   have fr := Row.nil h277 4; have fP : ([] : List Pl).length ≤ 1099511627776 := by decide
   show ∃ m',m' < _ ∧ _
   refine ⟨_,?_,(i + 1),ex,false,true,[],none,0,rfl,e0,(by omega),m3,fr,fP,fsep,hF⟩
   omega
 ·skip
  replace hc8 := of_decide_eq_false hc8
  refine cX 0 ?_
  show C Try.prog (sub b7 [1,1,1,1]) _ a h7
  refine cS ?_
  refine cP 29 hF ?_
  refine sP 2 [.bool true,.bool true] ?_
  refine sD [(4,.bool true)] ?_
  clear hF a; intro a hF
  refine tK ?_
  refine cR ?_
  show retK Try.prog Try.f7 (fun v h' => v = .bool true ∧ Ext h h') .ret a h7
  refine ret_ok [.tmp 4] [.bool true] (.bool true) rfl hF ⟨rfl,trivial⟩ rfl ?_
  exact ⟨rfl,e0⟩
end Go.Proofs.Ytlghdimpgfhmcaa
