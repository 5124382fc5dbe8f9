/- the law of what is due of a record alone: what it comes to. Conditions: those that each theorem names. -/
import Derived.Test.YtlghdimpgfhmcaaRetH
namespace Go.Proofs.Ytlghdimpgfhmcaa
open Go Go.Lane Go.Sha
theorem due_no (h : Heap) (b : Nat) (r : Rec) (now : Int) (m : h[b]? = some (.cells (rrow [r]).toArray 26)) (ok : RecOk h r) (hd : dueB now r = false) : Sat Try.prog 20 #[.slice (some ⟨b,0,none⟩) 1 1,.int .i64 now] h fun v h' => ∃ ad cap,v = .slice ad 0 cap ∧ Ext h h' := by
 refine (due_sat h [r] (some ⟨b,0,none⟩) 1 now 19 sorts_small (Row.blk (n := 1) (sz := 39) (l := rrow [r]) m rfl) (by simp) (by simpa using ok) (Nat.le_trans (List.length_filter_le _ _) (by simp))).mono ?_
 rintro v h' ⟨M,ad,cap,hM,hS,rfl,own,hge,g⟩
 have hl : M.length = 0 := by rw [hM.length_eq]; simp [hd]
 exact ⟨ad,cap,by rw [hl],g⟩
theorem due_yes (h : Heap) (b : Nat) (r : Rec) (now : Int) (m : h[b]? = some (.cells (rrow [r]).toArray 26)) (ok : RecOk h r) (hd : dueB now r = true) : Sat Try.prog 20 #[.slice (some ⟨b,0,none⟩) 1 1,.int .i64 now] h fun v h' => ∃ ad cap,v = .slice ad 1 cap ∧ Own h' (.slice ad 1 cap) 9 1 1 [.string r.b.id] ∧ (∀ k,ad.map (fun (x : Addr) => x.block) = some k → h.size ≤ k) ∧ Ext h h' := by
 refine (due_sat h [r] (some ⟨b,0,none⟩) 1 now 19 sorts_small (Row.blk (n := 1) (sz := 39) (l := rrow [r]) m rfl) (by simp) (by simpa using ok) (Nat.le_trans (List.length_filter_le _ _) (by simp))).mono ?_
 rintro v h' ⟨M,ad,cap,hM,hS,rfl,own,hge,g⟩
 have hM2 : M = [r] := List.perm_singleton.1 (by simpa [hd] using hM)
 subst hM2
 exact ⟨ad,cap,rfl,own,hge,g⟩
noncomputable def b8 : Code := Try.f8.body.getD .skip
theorem takes_gone (h : Heap) (x : RB) (e : Int) (ho : Bool) (L : List Pl) (va : Option Addr) (vc : Nat) (hr : Row h (.slice va L.length vc) L.length 4 (prow L)) (hL : L.length ≤ 1099511627776) (u : Int) : Sat Try.prog 8 #[.agg (rc x e ho true (.slice va L.length vc)).toArray,.int .i64 u] h fun v h' => v = .bool true ∧ Ext h h' := by
 have e0 := Ext.refl h
 have sep : Sep h.size h.size [] := Sep.nil _ _
 refine sat_of (args := [.agg (rc x e ho true (.slice va L.length vc)).toArray,.int .i64 u]) (fn := Try.f8) (B := b8) (n := 55) (L := [(0,.agg (rc x e ho true (.slice va L.length vc)).toArray),(1,.int .i64 u)]) Try.func8 rfl (by kernel_rfl) rfl ?_
 intro a hF
 refine cS ?_
 refine cP 0 hF ?_
 refine SeqK.eff (k' := 1) (Does.new (v := .pointer (some ⟨h.size,0,none⟩)) (o := .cells (rc x e ho true (.slice va L.length vc)).toArray 26) (by kernel_rfl)) rfl ?_
 rintro _ h1 ⟨rfl,hh⟩
 have g2 : Ext h h1 := push_ext hh
 have m3 : h1[h.size]? = some (.cells (rc x e ho true (.slice va L.length vc)).toArray 26) := push_at hh
 clear hh
 have lt4 := blk_lt m3
 have zs5 := e0.size
 have hlo := e0.size
 have sepo := sep
 replace e0 := e0.ext g2
 replace sep := sep.up g2.size
 replace sep := sepo.new hlo (blk_lt m3)
 clear sepo hlo
 refine sP 2 [.bool false] ?_
 refine sD [(1,.int .i64 u),(2,pV h.size)] ?_
 clear hF a; intro a hF
 refine tK ?_
 refine cS ?_
 refine cP 1 hF ?_
 refine SeqK.eff (k' := 1) (Does.call (f := 10) (args := #[]) (by kernel_rfl) (shown_sat _)) rfl ?_
 rintro _ h6 ⟨rfl,g⟩
 replace e0 := e0.ext g
 replace m3 := Ext.blk g m3
 replace sep := sep.up g.size
 clear g
 refine sP 2 [.bool true] ?_
 refine sD [(1,.int .i64 u),(2,pV h.size),(5,.bool true)] ?_
 clear hF a; intro a hF
 refine tK ?_
 refine cS ?_
 refine cS ?_
 refine cP 2 hF ?_
 refine sP 2 [.bool true,.bool false] ?_
 refine sD [(1,.int .i64 u),(2,pV h.size),(5,.bool true),(12,.bool false)] ?_
 clear hF a; intro a hF
 refine tK ?_
 refine cF 12 hF ?_
 refine cN ?_
 refine tK ?_
 refine cS ?_
 refine cP 4 hF ?_
 refine sC 1 (.agg (rc x e ho true (.slice va L.length vc)).toArray) (Calm.load (T := 26) (p := ⟨h.size,0,none⟩) (by kernel_rfl) (Loads.blk (vs := rc x e ho true (.slice va L.length vc)) (by kernel_rfl) m3 rfl)) ?_
 refine SeqK.eff (k' := 2) (Does.new (v := .slice (some ⟨h6.size,0,none⟩) 1 1) (o := .cells (rrow [(⟨x,e,ho,true,va,L.length,vc⟩ : Rec)]).toArray 26) (by kernel_rfl)) rfl ?_
 rintro _ h7 ⟨rfl,hh⟩
 have g8 : Ext h6 h7 := push_ext hh
 have m9 : h7[h6.size]? = some (.cells (rrow [(⟨x,e,ho,true,va,L.length,vc⟩ : Rec)]).toArray 26) := push_at hh
 clear hh
 have lt10 := blk_lt m9
 have zs11 := e0.size
 have hlo := e0.size
 have sepo := sep
 replace e0 := e0.ext g8
 replace m3 := Ext.blk g8 m3
 replace sep := sep.up g8.size
 replace sep := sepo.new hlo (blk_lt m9)
 clear sepo hlo
 refine sP 3 [.int .i64 u] ?_
 refine SeqK.eff (k' := 4) (Does.call (f := 20) (args := #[.slice (some ⟨h6.size,0,none⟩) 1 1,.int .i64 u]) (by kernel_rfl) (due_no _ _ (⟨x,e,ho,true,va,L.length,vc⟩ : Rec) u m9 ⟨L,rfl,hr.ext e0,hL⟩ (dueB_no (by simp [delB])))) rfl ?_
 rintro _ h12 ⟨ad9,cap9,rfl,g⟩
 replace e0 := e0.ext g
 replace m3 := Ext.blk g m3
 replace m9 := Ext.blk g m9
 replace sep := sep.up g.size
 clear g
 refine sP 5 [.slice ad9 0 cap9] ?_
 refine sD [(1,.int .i64 u),(2,pV h.size),(5,.bool true),(6,.slice ad9 0 cap9)] ?_
 clear hF a; intro a hF
 refine tK ?_
 refine cS ?_
 refine cP 5 hF ?_
 refine sC 1 (.agg (rc x e ho true (.slice va L.length vc)).toArray) (Calm.load (T := 26) (p := ⟨h.size,0,none⟩) (by kernel_rfl) (Loads.blk (vs := rc x e ho true (.slice va L.length vc)) (by kernel_rfl) m3 rfl)) ?_
 refine sP 2 [.int .i64 u] ?_
 refine SeqK.eff (k' := 3) (Does.call (f := 18) (args := #[.agg (rc x e ho true (.slice va L.length vc)).toArray,.int .i64 u]) (by kernel_rfl) (del_gone _ x e ho L va vc u)) rfl ?_
 rintro _ h13 ⟨rfl,g⟩
 replace e0 := e0.ext g
 replace m3 := Ext.blk g m3
 replace m9 := Ext.blk g m9
 replace sep := sep.up g.size
 clear g
 refine sP 6 [.tuple #[.agg (rc rb0 (0 : Int) false false (.slice none 0 0)).toArray,.int .i64 213],.agg (rc rb0 (0 : Int) false false (.slice none 0 0)).toArray,.int .i64 213] ?_
 refine SeqK.eff (k' := 7) (Does.new (v := .pointer (some ⟨h13.size,0,none⟩)) (o := .cells (rc rb0 (0 : Int) false false (.slice none 0 0)).toArray 26) (by kernel_rfl)) rfl ?_
 rintro _ h14 ⟨rfl,hh⟩
 have g15 : Ext h13 h14 := push_ext hh
 have m16 : h14[h13.size]? = some (.cells (rc rb0 (0 : Int) false false (.slice none 0 0)).toArray 26) := push_at hh
 clear hh
 have lt17 := blk_lt m16
 have zs18 := e0.size
 have hlo := e0.size
 have sepo := sep
 replace e0 := e0.ext g15
 replace m3 := Ext.blk g15 m3
 replace m9 := Ext.blk g15 m9
 replace sep := sep.up g15.size
 replace sep := sepo.new hlo (blk_lt m16)
 clear sepo hlo
 refine SeqK.eff (k' := 8) (Does.store (b := h13.size) (off := 0) (vs := rc rb0 (0 : Int) false false (.slice none 0 0)) (l := rc rb0 (0 : Int) false false (.slice none 0 0)) (by kernel_rfl) m16 (of_decide_eq_true (by kernel_rfl)) (List.all_eq_true.1 (by kernel_rfl))) rfl ?_
 rintro _ h19 ⟨rfl,hh⟩
 have g20 : Grew (some (h13.size)) h14 h19 := hput_gr hh
 replace m16 : h19[h13.size]? = some (.cells (rc rb0 (0 : Int) false false (.slice none 0 0)).toArray 26) := hput_at (off := 0) (vs := rc rb0 (0 : Int) false false (.slice none 0 0)) (l := (rc rb0 (0 : Int) false false (.slice none 0 0))) hh (by kernel_rfl) m16
 clear hh
 replace e0 := e0.grew g20 (sep.low 0 rfl)
 replace m3 := Grew.blk g20 m3 ((sep.bp 2 0))
 replace m9 := Grew.blk g20 m9 ((sep.bp 1 0))
 replace sep := sep.up g20.size
 refine sP 9 [.int .i64 213] ?_
 refine sD [(2,pV h.size),(5,.bool true),(6,.slice ad9 0 cap9),(8,.int .i64 213)] ?_
 clear hF a; intro a hF
 refine tK ?_
 refine cS ?_
 refine cP 6 hF ?_
 refine sP 8 [.int .i64 213,.bool false,.bool false,undef,undef,undef,.bool false,.bool false] ?_
 refine sD [(2,pV h.size),(5,.bool true),(6,.slice ad9 0 cap9),(9,.bool false)] ?_
 clear hF a; intro a hF
 refine tK ?_
 refine cS ?_
 refine cD [0,1,3,7,15,3,63,127,255,511,1023,2047,4095,8191,16383,4095,36863,131071,262143,524287,1048575,2097151,4194303,8388607,16777215,33554431] 7 mixed hF ?_
 refine mP 67108863 [0,1,2,3,4,5,6,7,8,9,10,11,12,13,14,15,16,17,18,19,20,21,22,23,24,25] [.bool true,.bool true,.slice ad9 0 cap9,.int .i64 0,.bool false,.bool false,.bool true,.bool true,.bool true,.bool false,.bool true,.bool true,undef,undef,undef,undef,undef,undef,.bool true,.bool true,.bool true,.slice ad9 0 cap9,.int .i64 0,.bool true,.bool true,.bool true] ?_
 refine mD [(4,.bool true)] ?_
 clear hF a; intro a hF
 refine tK ?_
 refine cR ?_
 show retK Try.prog Try.f8 (fun v h' => v = .bool true ∧ Ext h h') .ret a h19
 refine ret_ok [.tmp 4] [.bool true] (.bool true) rfl hF ⟨rfl,trivial⟩ rfl ?_
 exact ⟨rfl,e0⟩
theorem takes_held (h : Heap) (x : RB) (e : Int)  (L : List Pl) (va : Option Addr) (vc : Nat) (hr : Row h (.slice va L.length vc) L.length 4 (prow L)) (hL : L.length ≤ 1099511627776) (u : Int) : Sat Try.prog 8 #[.agg (rc x e true false (.slice va L.length vc)).toArray,.int .i64 u] h fun v h' => v = .bool true ∧ Ext h h' := by
 have e0 := Ext.refl h
 have sep : Sep h.size h.size [] := Sep.nil _ _
 refine sat_of (args := [.agg (rc x e true false (.slice va L.length vc)).toArray,.int .i64 u]) (fn := Try.f8) (B := b8) (n := 55) (L := [(0,.agg (rc x e true false (.slice va L.length vc)).toArray),(1,.int .i64 u)]) Try.func8 rfl (by kernel_rfl) rfl ?_
 intro a hF
 refine cS ?_
 refine cP 0 hF ?_
 refine SeqK.eff (k' := 1) (Does.new (v := .pointer (some ⟨h.size,0,none⟩)) (o := .cells (rc x e true false (.slice va L.length vc)).toArray 26) (by kernel_rfl)) rfl ?_
 rintro _ h1 ⟨rfl,hh⟩
 have g2 : Ext h h1 := push_ext hh
 have m3 : h1[h.size]? = some (.cells (rc x e true false (.slice va L.length vc)).toArray 26) := push_at hh
 clear hh
 have lt4 := blk_lt m3
 have zs5 := e0.size
 have hlo := e0.size
 have sepo := sep
 replace e0 := e0.ext g2
 replace sep := sep.up g2.size
 replace sep := sepo.new hlo (blk_lt m3)
 clear sepo hlo
 refine sP 2 [.bool false] ?_
 refine sD [(1,.int .i64 u),(2,pV h.size)] ?_
 clear hF a; intro a hF
 refine tK ?_
 refine cS ?_
 refine cP 1 hF ?_
 refine SeqK.eff (k' := 1) (Does.call (f := 10) (args := #[]) (by kernel_rfl) (shown_sat _)) rfl ?_
 rintro _ h6 ⟨rfl,g⟩
 replace e0 := e0.ext g
 replace m3 := Ext.blk g m3
 replace sep := sep.up g.size
 clear g
 refine sP 2 [.bool true] ?_
 refine sD [(1,.int .i64 u),(2,pV h.size),(5,.bool true)] ?_
 clear hF a; intro a hF
 refine tK ?_
 refine cS ?_
 refine cS ?_
 refine cP 2 hF ?_
 refine sP 2 [.bool true,.bool false] ?_
 refine sD [(1,.int .i64 u),(2,pV h.size),(5,.bool true),(12,.bool false)] ?_
 clear hF a; intro a hF
 refine tK ?_
 refine cF 12 hF ?_
 refine cN ?_
 refine tK ?_
 refine cS ?_
 refine cP 4 hF ?_
 refine sC 1 (.agg (rc x e true false (.slice va L.length vc)).toArray) (Calm.load (T := 26) (p := ⟨h.size,0,none⟩) (by kernel_rfl) (Loads.blk (vs := rc x e true false (.slice va L.length vc)) (by kernel_rfl) m3 rfl)) ?_
 refine SeqK.eff (k' := 2) (Does.new (v := .slice (some ⟨h6.size,0,none⟩) 1 1) (o := .cells (rrow [(⟨x,e,true,false,va,L.length,vc⟩ : Rec)]).toArray 26) (by kernel_rfl)) rfl ?_
 rintro _ h7 ⟨rfl,hh⟩
 have g8 : Ext h6 h7 := push_ext hh
 have m9 : h7[h6.size]? = some (.cells (rrow [(⟨x,e,true,false,va,L.length,vc⟩ : Rec)]).toArray 26) := push_at hh
 clear hh
 have lt10 := blk_lt m9
 have zs11 := e0.size
 have hlo := e0.size
 have sepo := sep
 replace e0 := e0.ext g8
 replace m3 := Ext.blk g8 m3
 replace sep := sep.up g8.size
 replace sep := sepo.new hlo (blk_lt m9)
 clear sepo hlo
 refine sP 3 [.int .i64 u] ?_
 refine SeqK.eff (k' := 4) (Does.call (f := 20) (args := #[.slice (some ⟨h6.size,0,none⟩) 1 1,.int .i64 u]) (by kernel_rfl) (due_no _ _ (⟨x,e,true,false,va,L.length,vc⟩ : Rec) u m9 ⟨L,rfl,hr.ext e0,hL⟩ (dueB_no (by simp [delB])))) rfl ?_
 rintro _ h12 ⟨ad9,cap9,rfl,g⟩
 replace e0 := e0.ext g
 replace m3 := Ext.blk g m3
 replace m9 := Ext.blk g m9
 replace sep := sep.up g.size
 clear g
 refine sP 5 [.slice ad9 0 cap9] ?_
 refine sD [(1,.int .i64 u),(2,pV h.size),(5,.bool true),(6,.slice ad9 0 cap9)] ?_
 clear hF a; intro a hF
 refine tK ?_
 refine cS ?_
 refine cP 5 hF ?_
 refine sC 1 (.agg (rc x e true false (.slice va L.length vc)).toArray) (Calm.load (T := 26) (p := ⟨h.size,0,none⟩) (by kernel_rfl) (Loads.blk (vs := rc x e true false (.slice va L.length vc)) (by kernel_rfl) m3 rfl)) ?_
 refine sP 2 [.int .i64 u] ?_
 refine SeqK.eff (k' := 3) (Does.call (f := 18) (args := #[.agg (rc x e true false (.slice va L.length vc)).toArray,.int .i64 u]) (by kernel_rfl) (del_held _ x e L va vc u)) rfl ?_
 rintro _ h13 ⟨rfl,g⟩
 replace e0 := e0.ext g
 replace m3 := Ext.blk g m3
 replace m9 := Ext.blk g m9
 replace sep := sep.up g.size
 clear g
 refine sP 6 [.tuple #[.agg (rc rb0 (0 : Int) false false (.slice none 0 0)).toArray,.int .i64 214],.agg (rc rb0 (0 : Int) false false (.slice none 0 0)).toArray,.int .i64 214] ?_
 refine SeqK.eff (k' := 7) (Does.new (v := .pointer (some ⟨h13.size,0,none⟩)) (o := .cells (rc rb0 (0 : Int) false false (.slice none 0 0)).toArray 26) (by kernel_rfl)) rfl ?_
 rintro _ h14 ⟨rfl,hh⟩
 have g15 : Ext h13 h14 := push_ext hh
 have m16 : h14[h13.size]? = some (.cells (rc rb0 (0 : Int) false false (.slice none 0 0)).toArray 26) := push_at hh
 clear hh
 have lt17 := blk_lt m16
 have zs18 := e0.size
 have hlo := e0.size
 have sepo := sep
 replace e0 := e0.ext g15
 replace m3 := Ext.blk g15 m3
 replace m9 := Ext.blk g15 m9
 replace sep := sep.up g15.size
 replace sep := sepo.new hlo (blk_lt m16)
 clear sepo hlo
 refine SeqK.eff (k' := 8) (Does.store (b := h13.size) (off := 0) (vs := rc rb0 (0 : Int) false false (.slice none 0 0)) (l := rc rb0 (0 : Int) false false (.slice none 0 0)) (by kernel_rfl) m16 (of_decide_eq_true (by kernel_rfl)) (List.all_eq_true.1 (by kernel_rfl))) rfl ?_
 rintro _ h19 ⟨rfl,hh⟩
 have g20 : Grew (some (h13.size)) h14 h19 := hput_gr hh
 replace m16 : h19[h13.size]? = some (.cells (rc rb0 (0 : Int) false false (.slice none 0 0)).toArray 26) := hput_at (off := 0) (vs := rc rb0 (0 : Int) false false (.slice none 0 0)) (l := (rc rb0 (0 : Int) false false (.slice none 0 0))) hh (by kernel_rfl) m16
 clear hh
 replace e0 := e0.grew g20 (sep.low 0 rfl)
 replace m3 := Grew.blk g20 m3 ((sep.bp 2 0))
 replace m9 := Grew.blk g20 m9 ((sep.bp 1 0))
 replace sep := sep.up g20.size
 refine sP 9 [.int .i64 214] ?_
 refine sD [(2,pV h.size),(5,.bool true),(6,.slice ad9 0 cap9),(8,.int .i64 214)] ?_
 clear hF a; intro a hF
 refine tK ?_
 refine cS ?_
 refine cP 6 hF ?_
 refine sP 8 [.int .i64 214,.bool false,.bool false,undef,undef,undef,.bool false,.bool false] ?_
 refine sD [(2,pV h.size),(5,.bool true),(6,.slice ad9 0 cap9),(9,.bool false)] ?_
 clear hF a; intro a hF
 refine tK ?_
 refine cS ?_
 refine cD [0,1,3,7,15,3,63,127,255,511,1023,2047,4095,8191,16383,4095,36863,131071,262143,524287,1048575,2097151,4194303,8388607,16777215,33554431] 7 mixed hF ?_
 refine mP 67108863 [0,1,2,3,4,5,6,7,8,9,10,11,12,13,14,15,16,17,18,19,20,21,22,23,24,25] [.bool true,.bool true,.slice ad9 0 cap9,.int .i64 0,.bool false,.bool false,.bool true,.bool true,.bool true,.bool false,.bool true,.bool true,undef,undef,undef,undef,undef,undef,.bool true,.bool true,.bool true,.slice ad9 0 cap9,.int .i64 0,.bool true,.bool true,.bool true] ?_
 refine mD [(4,.bool true)] ?_
 clear hF a; intro a hF
 refine tK ?_
 refine cR ?_
 show retK Try.prog Try.f8 (fun v h' => v = .bool true ∧ Ext h h') .ret a h19
 refine ret_ok [.tmp 4] [.bool true] (.bool true) rfl hF ⟨rfl,trivial⟩ rfl ?_
 exact ⟨rfl,e0⟩
theorem takes_soon (h : Heap) (x : RB) (e : Int)  (L : List Pl) (va : Option Addr) (vc : Nat) (hr : Row h (.slice va L.length vc) L.length 4 (prow L)) (hL : L.length ≤ 1099511627776) (u : Int) (hu : u < e) : Sat Try.prog 8 #[.agg (rc x e false false (.slice va L.length vc)).toArray,.int .i64 u] h fun v h' => v = .bool true ∧ Ext h h' := by
 have e0 := Ext.refl h
 have sep : Sep h.size h.size [] := Sep.nil _ _
 refine sat_of (args := [.agg (rc x e false false (.slice va L.length vc)).toArray,.int .i64 u]) (fn := Try.f8) (B := b8) (n := 55) (L := [(0,.agg (rc x e false false (.slice va L.length vc)).toArray),(1,.int .i64 u)]) Try.func8 rfl (by kernel_rfl) rfl ?_
 intro a hF
 refine cS ?_
 refine cP 0 hF ?_
 refine SeqK.eff (k' := 1) (Does.new (v := .pointer (some ⟨h.size,0,none⟩)) (o := .cells (rc x e false false (.slice va L.length vc)).toArray 26) (by kernel_rfl)) rfl ?_
 rintro _ h1 ⟨rfl,hh⟩
 have g2 : Ext h h1 := push_ext hh
 have m3 : h1[h.size]? = some (.cells (rc x e false false (.slice va L.length vc)).toArray 26) := push_at hh
 clear hh
 have lt4 := blk_lt m3
 have zs5 := e0.size
 have hlo := e0.size
 have sepo := sep
 replace e0 := e0.ext g2
 replace sep := sep.up g2.size
 replace sep := sepo.new hlo (blk_lt m3)
 clear sepo hlo
 refine sP 2 [.bool false] ?_
 refine sD [(1,.int .i64 u),(2,pV h.size)] ?_
 clear hF a; intro a hF
 refine tK ?_
 refine cS ?_
 refine cP 1 hF ?_
 refine SeqK.eff (k' := 1) (Does.call (f := 10) (args := #[]) (by kernel_rfl) (shown_sat _)) rfl ?_
 rintro _ h6 ⟨rfl,g⟩
 replace e0 := e0.ext g
 replace m3 := Ext.blk g m3
 replace sep := sep.up g.size
 clear g
 refine sP 2 [.bool true] ?_
 refine sD [(1,.int .i64 u),(2,pV h.size),(5,.bool true)] ?_
 clear hF a; intro a hF
 refine tK ?_
 refine cS ?_
 refine cS ?_
 refine cP 2 hF ?_
 refine sP 2 [.bool true,.bool false] ?_
 refine sD [(1,.int .i64 u),(2,pV h.size),(5,.bool true),(12,.bool false)] ?_
 clear hF a; intro a hF
 refine tK ?_
 refine cF 12 hF ?_
 refine cN ?_
 refine tK ?_
 refine cS ?_
 refine cP 4 hF ?_
 refine sC 1 (.agg (rc x e false false (.slice va L.length vc)).toArray) (Calm.load (T := 26) (p := ⟨h.size,0,none⟩) (by kernel_rfl) (Loads.blk (vs := rc x e false false (.slice va L.length vc)) (by kernel_rfl) m3 rfl)) ?_
 refine SeqK.eff (k' := 2) (Does.new (v := .slice (some ⟨h6.size,0,none⟩) 1 1) (o := .cells (rrow [(⟨x,e,false,false,va,L.length,vc⟩ : Rec)]).toArray 26) (by kernel_rfl)) rfl ?_
 rintro _ h7 ⟨rfl,hh⟩
 have g8 : Ext h6 h7 := push_ext hh
 have m9 : h7[h6.size]? = some (.cells (rrow [(⟨x,e,false,false,va,L.length,vc⟩ : Rec)]).toArray 26) := push_at hh
 clear hh
 have lt10 := blk_lt m9
 have zs11 := e0.size
 have hlo := e0.size
 have sepo := sep
 replace e0 := e0.ext g8
 replace m3 := Ext.blk g8 m3
 replace sep := sep.up g8.size
 replace sep := sepo.new hlo (blk_lt m9)
 clear sepo hlo
 refine sP 3 [.int .i64 u] ?_
 refine SeqK.eff (k' := 4) (Does.call (f := 20) (args := #[.slice (some ⟨h6.size,0,none⟩) 1 1,.int .i64 u]) (by kernel_rfl) (due_no _ _ (⟨x,e,false,false,va,L.length,vc⟩ : Rec) u m9 ⟨L,rfl,hr.ext e0,hL⟩ (dueB_no (by simp [delB]; omega)))) rfl ?_
 rintro _ h12 ⟨ad9,cap9,rfl,g⟩
 replace e0 := e0.ext g
 replace m3 := Ext.blk g m3
 replace m9 := Ext.blk g m9
 replace sep := sep.up g.size
 clear g
 refine sP 5 [.slice ad9 0 cap9] ?_
 refine sD [(1,.int .i64 u),(2,pV h.size),(5,.bool true),(6,.slice ad9 0 cap9)] ?_
 clear hF a; intro a hF
 refine tK ?_
 refine cS ?_
 refine cP 5 hF ?_
 refine sC 1 (.agg (rc x e false false (.slice va L.length vc)).toArray) (Calm.load (T := 26) (p := ⟨h.size,0,none⟩) (by kernel_rfl) (Loads.blk (vs := rc x e false false (.slice va L.length vc)) (by kernel_rfl) m3 rfl)) ?_
 refine sP 2 [.int .i64 u] ?_
 refine SeqK.eff (k' := 3) (Does.call (f := 18) (args := #[.agg (rc x e false false (.slice va L.length vc)).toArray,.int .i64 u]) (by kernel_rfl) (del_soon _ x e L va vc u hu)) rfl ?_
 rintro _ h13 ⟨rfl,g⟩
 replace e0 := e0.ext g
 replace m3 := Ext.blk g m3
 replace m9 := Ext.blk g m9
 replace sep := sep.up g.size
 clear g
 refine sP 6 [.tuple #[.agg (rc rb0 (0 : Int) false false (.slice none 0 0)).toArray,.int .i64 214],.agg (rc rb0 (0 : Int) false false (.slice none 0 0)).toArray,.int .i64 214] ?_
 refine SeqK.eff (k' := 7) (Does.new (v := .pointer (some ⟨h13.size,0,none⟩)) (o := .cells (rc rb0 (0 : Int) false false (.slice none 0 0)).toArray 26) (by kernel_rfl)) rfl ?_
 rintro _ h14 ⟨rfl,hh⟩
 have g15 : Ext h13 h14 := push_ext hh
 have m16 : h14[h13.size]? = some (.cells (rc rb0 (0 : Int) false false (.slice none 0 0)).toArray 26) := push_at hh
 clear hh
 have lt17 := blk_lt m16
 have zs18 := e0.size
 have hlo := e0.size
 have sepo := sep
 replace e0 := e0.ext g15
 replace m3 := Ext.blk g15 m3
 replace m9 := Ext.blk g15 m9
 replace sep := sep.up g15.size
 replace sep := sepo.new hlo (blk_lt m16)
 clear sepo hlo
 refine SeqK.eff (k' := 8) (Does.store (b := h13.size) (off := 0) (vs := rc rb0 (0 : Int) false false (.slice none 0 0)) (l := rc rb0 (0 : Int) false false (.slice none 0 0)) (by kernel_rfl) m16 (of_decide_eq_true (by kernel_rfl)) (List.all_eq_true.1 (by kernel_rfl))) rfl ?_
 rintro _ h19 ⟨rfl,hh⟩
 have g20 : Grew (some (h13.size)) h14 h19 := hput_gr hh
 replace m16 : h19[h13.size]? = some (.cells (rc rb0 (0 : Int) false false (.slice none 0 0)).toArray 26) := hput_at (off := 0) (vs := rc rb0 (0 : Int) false false (.slice none 0 0)) (l := (rc rb0 (0 : Int) false false (.slice none 0 0))) hh (by kernel_rfl) m16
 clear hh
 replace e0 := e0.grew g20 (sep.low 0 rfl)
 replace m3 := Grew.blk g20 m3 ((sep.bp 2 0))
 replace m9 := Grew.blk g20 m9 ((sep.bp 1 0))
 replace sep := sep.up g20.size
 refine sP 9 [.int .i64 214] ?_
 refine sD [(2,pV h.size),(5,.bool true),(6,.slice ad9 0 cap9),(8,.int .i64 214)] ?_
 clear hF a; intro a hF
 refine tK ?_
 refine cS ?_
 refine cP 6 hF ?_
 refine sP 8 [.int .i64 214,.bool false,.bool false,undef,undef,undef,.bool false,.bool false] ?_
 refine sD [(2,pV h.size),(5,.bool true),(6,.slice ad9 0 cap9),(9,.bool false)] ?_
 clear hF a; intro a hF
 refine tK ?_
 refine cS ?_
 refine cD [0,1,3,7,15,3,63,127,255,511,1023,2047,4095,8191,16383,4095,36863,131071,262143,524287,1048575,2097151,4194303,8388607,16777215,33554431] 7 mixed hF ?_
 refine mP 67108863 [0,1,2,3,4,5,6,7,8,9,10,11,12,13,14,15,16,17,18,19,20,21,22,23,24,25] [.bool true,.bool true,.slice ad9 0 cap9,.int .i64 0,.bool false,.bool false,.bool true,.bool true,.bool true,.bool false,.bool true,.bool true,undef,undef,undef,undef,undef,undef,.bool true,.bool true,.bool true,.slice ad9 0 cap9,.int .i64 0,.bool true,.bool true,.bool true] ?_
 refine mD [(4,.bool true)] ?_
 clear hF a; intro a hF
 refine tK ?_
 refine cR ?_
 show retK Try.prog Try.f8 (fun v h' => v = .bool true ∧ Ext h h') .ret a h19
 refine ret_ok [.tmp 4] [.bool true] (.bool true) rfl hF ⟨rfl,trivial⟩ rfl ?_
 exact ⟨rfl,e0⟩
theorem takes_early (h : Heap) (x : RB) (e : Int)  (L : List Pl) (va : Option Addr) (vc : Nat) (hr : Row h (.slice va L.length vc) L.length 4 (prow L)) (hL : L.length ≤ 1099511627776) (u : Int) (hu : e ≤ u) (he : e ≤ 0) : Sat Try.prog 8 #[.agg (rc x e false false (.slice va L.length vc)).toArray,.int .i64 u] h fun v h' => v = .bool true ∧ Ext h h' := by
 have e0 := Ext.refl h
 have sep : Sep h.size h.size [] := Sep.nil _ _
 refine sat_of (args := [.agg (rc x e false false (.slice va L.length vc)).toArray,.int .i64 u]) (fn := Try.f8) (B := b8) (n := 55) (L := [(0,.agg (rc x e false false (.slice va L.length vc)).toArray),(1,.int .i64 u)]) Try.func8 rfl (by kernel_rfl) rfl ?_
 intro a hF
 refine cS ?_
 refine cP 0 hF ?_
 refine SeqK.eff (k' := 1) (Does.new (v := .pointer (some ⟨h.size,0,none⟩)) (o := .cells (rc x e false false (.slice va L.length vc)).toArray 26) (by kernel_rfl)) rfl ?_
 rintro _ h1 ⟨rfl,hh⟩
 have g2 : Ext h h1 := push_ext hh
 have m3 : h1[h.size]? = some (.cells (rc x e false false (.slice va L.length vc)).toArray 26) := push_at hh
 clear hh
 have lt4 := blk_lt m3
 have zs5 := e0.size
 have hlo := e0.size
 have sepo := sep
 replace e0 := e0.ext g2
 replace sep := sep.up g2.size
 replace sep := sepo.new hlo (blk_lt m3)
 clear sepo hlo
 refine sP 2 [.bool false] ?_
 refine sD [(1,.int .i64 u),(2,pV h.size)] ?_
 clear hF a; intro a hF
 refine tK ?_
 refine cS ?_
 refine cP 1 hF ?_
 refine SeqK.eff (k' := 1) (Does.call (f := 10) (args := #[]) (by kernel_rfl) (shown_sat _)) rfl ?_
 rintro _ h6 ⟨rfl,g⟩
 replace e0 := e0.ext g
 replace m3 := Ext.blk g m3
 replace sep := sep.up g.size
 clear g
 refine sP 2 [.bool true] ?_
 refine sD [(1,.int .i64 u),(2,pV h.size),(5,.bool true)] ?_
 clear hF a; intro a hF
 refine tK ?_
 refine cS ?_
 refine cS ?_
 refine cP 2 hF ?_
 refine sP 2 [.bool true,.bool false] ?_
 refine sD [(1,.int .i64 u),(2,pV h.size),(5,.bool true),(12,.bool false)] ?_
 clear hF a; intro a hF
 refine tK ?_
 refine cF 12 hF ?_
 refine cN ?_
 refine tK ?_
 refine cS ?_
 refine cP 4 hF ?_
 refine sC 1 (.agg (rc x e false false (.slice va L.length vc)).toArray) (Calm.load (T := 26) (p := ⟨h.size,0,none⟩) (by kernel_rfl) (Loads.blk (vs := rc x e false false (.slice va L.length vc)) (by kernel_rfl) m3 rfl)) ?_
 refine SeqK.eff (k' := 2) (Does.new (v := .slice (some ⟨h6.size,0,none⟩) 1 1) (o := .cells (rrow [(⟨x,e,false,false,va,L.length,vc⟩ : Rec)]).toArray 26) (by kernel_rfl)) rfl ?_
 rintro _ h7 ⟨rfl,hh⟩
 have g8 : Ext h6 h7 := push_ext hh
 have m9 : h7[h6.size]? = some (.cells (rrow [(⟨x,e,false,false,va,L.length,vc⟩ : Rec)]).toArray 26) := push_at hh
 clear hh
 have lt10 := blk_lt m9
 have zs11 := e0.size
 have hlo := e0.size
 have sepo := sep
 replace e0 := e0.ext g8
 replace m3 := Ext.blk g8 m3
 replace sep := sep.up g8.size
 replace sep := sepo.new hlo (blk_lt m9)
 clear sepo hlo
 refine sP 3 [.int .i64 u] ?_
 refine SeqK.eff (k' := 4) (Does.call (f := 20) (args := #[.slice (some ⟨h6.size,0,none⟩) 1 1,.int .i64 u]) (by kernel_rfl) (due_no _ _ (⟨x,e,false,false,va,L.length,vc⟩ : Rec) u m9 ⟨L,rfl,hr.ext e0,hL⟩ (dueB_early (by show ¬ 0 < e; omega)))) rfl ?_
 rintro _ h12 ⟨ad9,cap9,rfl,g⟩
 replace e0 := e0.ext g
 replace m3 := Ext.blk g m3
 replace m9 := Ext.blk g m9
 replace sep := sep.up g.size
 clear g
 refine sP 5 [.slice ad9 0 cap9] ?_
 refine sD [(1,.int .i64 u),(2,pV h.size),(5,.bool true),(6,.slice ad9 0 cap9)] ?_
 clear hF a; intro a hF
 refine tK ?_
 refine cS ?_
 refine cP 5 hF ?_
 refine sC 1 (.agg (rc x e false false (.slice va L.length vc)).toArray) (Calm.load (T := 26) (p := ⟨h.size,0,none⟩) (by kernel_rfl) (Loads.blk (vs := rc x e false false (.slice va L.length vc)) (by kernel_rfl) m3 rfl)) ?_
 refine sP 2 [.int .i64 u] ?_
 refine SeqK.eff (k' := 3) (Does.call (f := 18) (args := #[.agg (rc x e false false (.slice va L.length vc)).toArray,.int .i64 u]) (by kernel_rfl) (del_ok _ x e L va vc (hr.ext e0) hL u hu)) rfl ?_
 rintro _ h13 ⟨rfl,g⟩
 replace e0 := e0.ext g
 replace m3 := Ext.blk g m3
 replace m9 := Ext.blk g m9
 replace sep := sep.up g.size
 clear g
 refine sP 6 [.tuple #[.agg (rc x e false true (.slice none 0 0)).toArray,.int .i64 0],.agg (rc x e false true (.slice none 0 0)).toArray,.int .i64 0] ?_
 refine SeqK.eff (k' := 7) (Does.new (v := .pointer (some ⟨h13.size,0,none⟩)) (o := .cells (rc rb0 (0 : Int) false false (.slice none 0 0)).toArray 26) (by kernel_rfl)) rfl ?_
 rintro _ h14 ⟨rfl,hh⟩
 have g15 : Ext h13 h14 := push_ext hh
 have m16 : h14[h13.size]? = some (.cells (rc rb0 (0 : Int) false false (.slice none 0 0)).toArray 26) := push_at hh
 clear hh
 have lt17 := blk_lt m16
 have zs18 := e0.size
 have hlo := e0.size
 have sepo := sep
 replace e0 := e0.ext g15
 replace m3 := Ext.blk g15 m3
 replace m9 := Ext.blk g15 m9
 replace sep := sep.up g15.size
 replace sep := sepo.new hlo (blk_lt m16)
 clear sepo hlo
 refine SeqK.eff (k' := 8) (Does.store (b := h13.size) (off := 0) (vs := rc x e false true (.slice none 0 0)) (l := rc rb0 (0 : Int) false false (.slice none 0 0)) (by kernel_rfl) m16 (of_decide_eq_true (by kernel_rfl)) (List.all_eq_true.1 (by kernel_rfl))) rfl ?_
 rintro _ h19 ⟨rfl,hh⟩
 have g20 : Grew (some (h13.size)) h14 h19 := hput_gr hh
 replace m16 : h19[h13.size]? = some (.cells (rc x e false true (.slice none 0 0)).toArray 26) := hput_at (off := 0) (vs := rc x e false true (.slice none 0 0)) (l := (rc rb0 (0 : Int) false false (.slice none 0 0))) hh (by kernel_rfl) m16
 clear hh
 replace e0 := e0.grew g20 (sep.low 0 rfl)
 replace m3 := Grew.blk g20 m3 ((sep.bp 2 0))
 replace m9 := Grew.blk g20 m9 ((sep.bp 1 0))
 replace sep := sep.up g20.size
 refine sP 9 [.int .i64 0] ?_
 refine sD [(2,pV h.size),(5,.bool true),(6,.slice ad9 0 cap9),(8,.int .i64 0)] ?_
 clear hF a; intro a hF
 refine tK ?_
 refine cS ?_
 refine cP 6 hF ?_
 refine sP 4 [.int .i64 0,.bool true,.bool true,.pointer (some ⟨h.size,35,none⟩)] ?_
 refine sC 5 (.int .i64 e) (Calm.load (T := 3) (p := ⟨h.size,35,none⟩) (by kernel_rfl) (Loads.one (k := 1) (by kernel_rfl) ((hcell_blk m3).trans (rfl)))) ?_
 refine s1 6 (.bool false) (.bool (decide ((0 : Int) < e))) (congrArg Value.bool (decide_eq_false (by omega))) ?_
 refine sP 8 [.bool false,.bool false] ?_
 refine sD [(2,pV h.size),(5,.bool true),(6,.slice ad9 0 cap9),(9,.bool false)] ?_
 clear hF a; intro a hF
 refine tK ?_
 refine cS ?_
 refine cD [0,1,3,7,15,3,63,127,255,511,1023,2047,4095,8191,16383,4095,36863,131071,262143,524287,1048575,2097151,4194303,8388607,16777215,33554431] 7 mixed hF ?_
 refine mP 67108863 [0,1,2,3,4,5,6,7,8,9,10,11,12,13,14,15,16,17,18,19,20,21,22,23,24,25] [.bool true,.bool true,.slice ad9 0 cap9,.int .i64 0,.bool false,.bool false,.bool true,.bool true,.bool true,.bool false,.bool true,.bool true,undef,undef,undef,undef,undef,undef,.bool true,.bool true,.bool true,.slice ad9 0 cap9,.int .i64 0,.bool true,.bool true,.bool true] ?_
 refine mD [(4,.bool true)] ?_
 clear hF a; intro a hF
 refine tK ?_
 refine cR ?_
 show retK Try.prog Try.f8 (fun v h' => v = .bool true ∧ Ext h h') .ret a h19
 refine ret_ok [.tmp 4] [.bool true] (.bool true) rfl hF ⟨rfl,trivial⟩ rfl ?_
 exact ⟨rfl,e0⟩
theorem takes_ok (h : Heap) (x : RB) (e : Int)  (L : List Pl) (va : Option Addr) (vc : Nat) (hr : Row h (.slice va L.length vc) L.length 4 (prow L)) (hL : L.length ≤ 1099511627776) (u : Int) (hu : e ≤ u) (he : 0 < e) : Sat Try.prog 8 #[.agg (rc x e false false (.slice va L.length vc)).toArray,.int .i64 u] h fun v h' => v = .bool true ∧ Ext h h' := by
 have e0 := Ext.refl h
 have sep : Sep h.size h.size [] := Sep.nil _ _
 refine sat_of (args := [.agg (rc x e false false (.slice va L.length vc)).toArray,.int .i64 u]) (fn := Try.f8) (B := b8) (n := 55) (L := [(0,.agg (rc x e false false (.slice va L.length vc)).toArray),(1,.int .i64 u)]) Try.func8 rfl (by kernel_rfl) rfl ?_
 intro a hF
 refine cS ?_
 refine cP 0 hF ?_
 refine SeqK.eff (k' := 1) (Does.new (v := .pointer (some ⟨h.size,0,none⟩)) (o := .cells (rc x e false false (.slice va L.length vc)).toArray 26) (by kernel_rfl)) rfl ?_
 rintro _ h1 ⟨rfl,hh⟩
 have g2 : Ext h h1 := push_ext hh
 have m3 : h1[h.size]? = some (.cells (rc x e false false (.slice va L.length vc)).toArray 26) := push_at hh
 clear hh
 have lt4 := blk_lt m3
 have zs5 := e0.size
 have hlo := e0.size
 have sepo := sep
 replace e0 := e0.ext g2
 replace sep := sep.up g2.size
 replace sep := sepo.new hlo (blk_lt m3)
 clear sepo hlo
 refine sP 2 [.bool false] ?_
 refine sD [(1,.int .i64 u),(2,pV h.size)] ?_
 clear hF a; intro a hF
 refine tK ?_
 refine cS ?_
 refine cP 1 hF ?_
 refine SeqK.eff (k' := 1) (Does.call (f := 10) (args := #[]) (by kernel_rfl) (shown_sat _)) rfl ?_
 rintro _ h6 ⟨rfl,g⟩
 replace e0 := e0.ext g
 replace m3 := Ext.blk g m3
 replace sep := sep.up g.size
 clear g
 refine sP 2 [.bool true] ?_
 refine sD [(1,.int .i64 u),(2,pV h.size),(5,.bool true)] ?_
 clear hF a; intro a hF
 refine tK ?_
 refine cS ?_
 refine cS ?_
 refine cP 2 hF ?_
 refine sP 2 [.bool true,.bool false] ?_
 refine sD [(1,.int .i64 u),(2,pV h.size),(5,.bool true),(12,.bool false)] ?_
 clear hF a; intro a hF
 refine tK ?_
 refine cF 12 hF ?_
 refine cN ?_
 refine tK ?_
 refine cS ?_
 refine cP 4 hF ?_
 refine sC 1 (.agg (rc x e false false (.slice va L.length vc)).toArray) (Calm.load (T := 26) (p := ⟨h.size,0,none⟩) (by kernel_rfl) (Loads.blk (vs := rc x e false false (.slice va L.length vc)) (by kernel_rfl) m3 rfl)) ?_
 refine SeqK.eff (k' := 2) (Does.new (v := .slice (some ⟨h6.size,0,none⟩) 1 1) (o := .cells (rrow [(⟨x,e,false,false,va,L.length,vc⟩ : Rec)]).toArray 26) (by kernel_rfl)) rfl ?_
 rintro _ h7 ⟨rfl,hh⟩
 have g8 : Ext h6 h7 := push_ext hh
 have m9 : h7[h6.size]? = some (.cells (rrow [(⟨x,e,false,false,va,L.length,vc⟩ : Rec)]).toArray 26) := push_at hh
 clear hh
 have lt10 := blk_lt m9
 have zs11 := e0.size
 have hlo := e0.size
 have sepo := sep
 replace e0 := e0.ext g8
 replace m3 := Ext.blk g8 m3
 replace sep := sep.up g8.size
 replace sep := sepo.new hlo (blk_lt m9)
 clear sepo hlo
 refine sP 3 [.int .i64 u] ?_
 refine SeqK.eff (k' := 4) (Does.call (f := 20) (args := #[.slice (some ⟨h6.size,0,none⟩) 1 1,.int .i64 u]) (by kernel_rfl) (due_yes _ _ (⟨x,e,false,false,va,L.length,vc⟩ : Rec) u m9 ⟨L,rfl,hr.ext e0,hL⟩ (dueB_iff.2 ⟨he,rfl,rfl,hu⟩))) rfl ?_
 rintro _ h12 ⟨ad9,cap9,rfl,ownx,hge,g⟩
 have hlo := e0.size
 have sepo := sep
 replace e0 := e0.ext g
 replace m3 := Ext.blk g m3
 replace m9 := Ext.blk g m9
 replace sep := sep.up g.size
 replace sep := sepo.cons (x := ad9.map (fun (x : Addr) => x.block)) g.size hlo (fun k e => ⟨hge k e,ownx.lt (by rw [blkOf_slice]; exact e)⟩)
 have own_s := ownx; clear ownx sepo hlo hge g
 refine sP 5 [.slice ad9 1 cap9] ?_
 refine sD [(1,.int .i64 u),(2,pV h.size),(5,.bool true),(6,.slice ad9 1 cap9)] ?_
 clear hF a; intro a hF
 obtain ⟨ab,rfl,hcap_ab⟩ := own_s.someA (by decide)
 refine tK ?_
 refine cS ?_
 refine cP 5 hF ?_
 refine sC 1 (.agg (rc x e false false (.slice va L.length vc)).toArray) (Calm.load (T := 26) (p := ⟨h.size,0,none⟩) (by kernel_rfl) (Loads.blk (vs := rc x e false false (.slice va L.length vc)) (by kernel_rfl) m3 rfl)) ?_
 refine sP 2 [.int .i64 u] ?_
 refine SeqK.eff (k' := 3) (Does.call (f := 18) (args := #[.agg (rc x e false false (.slice va L.length vc)).toArray,.int .i64 u]) (by kernel_rfl) (del_ok _ x e L va vc (hr.ext e0) hL u hu)) rfl ?_
 rintro _ h13 ⟨rfl,g⟩
 replace e0 := e0.ext g
 replace own_s := own_s.ext g
 replace m3 := Ext.blk g m3
 replace m9 := Ext.blk g m9
 replace sep := sep.up g.size
 clear g
 refine sP 6 [.tuple #[.agg (rc x e false true (.slice none 0 0)).toArray,.int .i64 0],.agg (rc x e false true (.slice none 0 0)).toArray,.int .i64 0] ?_
 refine SeqK.eff (k' := 7) (Does.new (v := .pointer (some ⟨h13.size,0,none⟩)) (o := .cells (rc rb0 (0 : Int) false false (.slice none 0 0)).toArray 26) (by kernel_rfl)) rfl ?_
 rintro _ h14 ⟨rfl,hh⟩
 have g15 : Ext h13 h14 := push_ext hh
 have m16 : h14[h13.size]? = some (.cells (rc rb0 (0 : Int) false false (.slice none 0 0)).toArray 26) := push_at hh
 clear hh
 have lt17 := blk_lt m16
 have zs18 := e0.size
 have hlo := e0.size
 have sepo := sep
 replace e0 := e0.ext g15
 replace own_s := own_s.ext g15
 replace m3 := Ext.blk g15 m3
 replace m9 := Ext.blk g15 m9
 replace sep := sep.up g15.size
 replace sep := sepo.new hlo (blk_lt m16)
 clear sepo hlo
 refine SeqK.eff (k' := 8) (Does.store (b := h13.size) (off := 0) (vs := rc x e false true (.slice none 0 0)) (l := rc rb0 (0 : Int) false false (.slice none 0 0)) (by kernel_rfl) m16 (of_decide_eq_true (by kernel_rfl)) (List.all_eq_true.1 (by kernel_rfl))) rfl ?_
 rintro _ h19 ⟨rfl,hh⟩
 have g20 : Grew (some (h13.size)) h14 h19 := hput_gr hh
 replace m16 : h19[h13.size]? = some (.cells (rc x e false true (.slice none 0 0)).toArray 26) := hput_at (off := 0) (vs := rc x e false true (.slice none 0 0)) (l := (rc rb0 (0 : Int) false false (.slice none 0 0))) hh (by kernel_rfl) m16
 clear hh
 replace e0 := e0.grew g20 (sep.low 0 rfl)
 replace own_s := own_s.kept g20 (by rw [blkOf_slice]; exact (sep.ap 1 0))
 replace m3 := Grew.blk g20 m3 ((sep.bp 3 0))
 replace m9 := Grew.blk g20 m9 ((sep.bp 2 0))
 replace sep := sep.up g20.size
 refine sP 9 [.int .i64 0] ?_
 refine sD [(2,pV h.size),(5,.bool true),(6,.slice (some ab) 1 cap9),(8,.int .i64 0)] ?_
 clear hF a; intro a hF
 refine tK ?_
 refine cS ?_
 refine cP 6 hF ?_
 refine sP 4 [.int .i64 0,.bool true,.bool true,.pointer (some ⟨h.size,35,none⟩)] ?_
 refine sC 5 (.int .i64 e) (Calm.load (T := 3) (p := ⟨h.size,35,none⟩) (by kernel_rfl) (Loads.one (k := 1) (by kernel_rfl) ((hcell_blk m3).trans (rfl)))) ?_
 refine s1 6 (.bool true) (.bool (decide ((0 : Int) < e))) (congrArg Value.bool (decide_eq_true (by omega))) ?_
 refine sP 8 [.bool true,.bool true] ?_
 refine sD [(2,pV h.size),(5,.bool true),(6,.slice (some ab) 1 cap9),(9,.bool true)] ?_
 clear hF a; intro a hF
 refine tK ?_
 refine cS ?_
 refine cD [0,1,3,7,15,3,63,127,255,511,1023,2047,4095,8191,16383,4095,36863,131071,262143,524287,1048575,2097151,4194303,8388607,16777215,33554431] 7 mixed hF ?_
 refine mP 8191 [0,1,2,3,4,5,6,7,8,9,10,11,12] [.bool true,.bool true,.slice (some ab) 1 cap9,.int .i64 1,.bool true,.bool true,.bool true,.bool true,.bool true,.bool true,.bool false,.bool false,.slice (some ab) 1 cap9] ?_
 refine mF 16383 13 (.pointer (some ab)) (Calm.indexA (a := ab) (len := 1) (sz := 1) (k := (0 : Int)) 0 0 (by kernel_rfl) rfl (by omega) (by omega)) ?_
 refine mL 32767 16384 14 (.string x.id) (Calm.load (T := 9) (p := ab) (by kernel_rfl) (Loads.one (k := 1) (by kernel_rfl) (own_s.cell (j := 0) rfl))) ?_
 refine mP 65535 [15] [pV h.size] ?_
 refine mL 131071 81920 16 (.string x.id) (Calm.load (T := 9) (p := ⟨h.size,0,none⟩) (by kernel_rfl) (Loads.one (k := 1) (by kernel_rfl) ((hcell_blk m3).trans (rfl)))) ?_
 refine m1 262143 17 (.bool true) (.bool (x.id.toList == x.id.toList)) (congrArg Value.bool (by simp)) ?_
 refine mP 67108863 [18,19,20,21,22,23,24,25] [.bool true,.bool true,.bool true,.slice (some ab) 1 cap9,.int .i64 1,.bool true,.bool true,.bool true] ?_
 refine mD [(4,.bool true)] ?_
 clear hF a; intro a hF
 refine tK ?_
 refine cR ?_
 show retK Try.prog Try.f8 (fun v h' => v = .bool true ∧ Ext h h') .ret a h19
 refine ret_ok [.tmp 4] [.bool true] (.bool true) rfl hF ⟨rfl,trivial⟩ rfl ?_
 exact ⟨rfl,e0⟩
theorem takes_sat (h : Heap) (x : RB) (e : Int) (ho go : Bool) (L : List Pl) (va : Option Addr) (vc : Nat) (hr : Row h (.slice va L.length vc) L.length 4 (prow L)) (hL : L.length ≤ 1099511627776) (u : Int) : Sat Try.prog 8 #[.agg (rc x e ho go (.slice va L.length vc)).toArray,.int .i64 u] h (fun v h' => v = .bool true ∧ Ext h h') := by
 cases go with
 | true => exact takes_gone h x e ho L va vc hr hL u
 | false =>
  cases ho with
  | true => exact takes_held h x e L va vc hr hL u
  | false =>
   by_cases hu : e ≤ u
   ·by_cases he : 0 < e
    ·exact takes_ok h x e L va vc hr hL u hu he
    ·exact takes_early h x e L va vc hr hL u hu (by omega)
   ·exact takes_soon h x e L va vc hr hL u (by omega)
end Go.Proofs.Ytlghdimpgfhmcaa
