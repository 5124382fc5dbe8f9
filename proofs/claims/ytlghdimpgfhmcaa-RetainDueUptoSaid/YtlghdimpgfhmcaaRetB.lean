/- what is done to a record, and the record that comes of it: what it comes to. Conditions: those that each theorem names. -/
import Derived.Test.YtlghdimpgfhmcaaRetA
namespace Go.Proofs.Ytlghdimpgfhmcaa
open Go Go.Lane Go.Sha
theorem mixed : Try.prog.follows .mixedOrders = true := by kernel_rfl
noncomputable def b24 : Code := Try.f24.body.getD .skip
theorem lockc_sat (h : Heap) (br : Nat) (x : RB) (e : Int) (ho go : Bool) (va : Option Addr) (n vc : Nat) (hm : h[br]? = some (.cells (rc x e ho go (.slice va n vc)).toArray 26)) (bu : Nat) (u : Int) (hu : h[bu]? = some (.cells #[.int .i64 u] 3)) (hne : bu ≠ br) : Sat Try.prog 24 #[.pointer (some ⟨br,0,none⟩),.pointer (some ⟨bu,0,none⟩)] h fun _ h' => h'[br]? = some (.cells (rc x (max e u) ho go (.slice va n vc)).toArray 26) ∧ Grew (some br) h h' := by
 have g0 := Grew.refl (some br) h
 refine sat_of (args := [.pointer (some ⟨br,0,none⟩),.pointer (some ⟨bu,0,none⟩)]) (fn := Try.f24) (B := b24) (n := 12) (L := [(0,.pointer (some ⟨br,0,none⟩)),(1,.pointer (some ⟨bu,0,none⟩))]) Try.func24 rfl (by kernel_rfl) rfl ?_
 intro a hF
 refine cD [0,0,2,6,14,0,62,127,255,511] 0 mixed hF ?_
 refine mP 15 [0,1,2,3] [pV br,pV br,pV br,.pointer (some ⟨br,35,none⟩)] ?_
 refine mL 31 16 4 (.int .i64 e) (Calm.load (T := 3) (p := ⟨br,35,none⟩) (by kernel_rfl) (Loads.one (k := 1) (by kernel_rfl) ((hcell_blk hm).trans (rfl)))) ?_
 refine mL 63 48 5 (.int .i64 u) (Calm.load (T := 3) (p := ⟨bu,0,none⟩) (by kernel_rfl) (Loads.one (k := 1) (by kernel_rfl) ((hcell_blk hu).trans rfl))) ?_
 refine m1 127 6 (.int .i64 (max e u)) (.int .i64 (if u > e then u else e)) (congrArg (Value.int .i64) (by rw [Int.max_def]; split <;> split <;> omega)) ?_
 refine mP 511 [7,8] [pV br,.pointer (some ⟨br,35,none⟩)] ?_
 refine SimK.eff0 (i := 9) (D' := 1023) (X' := 1023) (by kernel_rfl) (by kernel_rfl) (by kernel_rfl) (by kernel_rfl) (Does.store (b := br) (off := 35) (vs := [.int .i64 (max e u)]) (l := rc x e ho go (.slice va n vc)) (by kernel_rfl) hm (of_decide_eq_true (by kernel_rfl)) (List.all_eq_true.1 (by kernel_rfl))) ?_
 rintro _ h1 ⟨rfl,hh⟩
 have g2 : Grew (some (br)) h h1 := hput_gr hh
 replace hm : h1[br]? = some (.cells (rc x (max e u) ho go (.slice va n vc)).toArray 26) := hput_at (off := 35) (vs := [.int .i64 (max e u)]) (l := (rc x e ho go (.slice va n vc))) hh (by kernel_rfl) hm
 clear hh
 replace g0 := g0.trans g2
 replace hu := Grew.blk g2 hu (by simp; omega)
 refine mD [] ?_
 clear hF a; intro a hF
 show retK Try.prog Try.f24 (fun _ h' => h'[br]? = some (.cells (rc x (max e u) ho go (.slice va n vc)).toArray 26) ∧ Grew (some br) h h') .normal a h1
 refine ret_okN [] [] (.tuple #[]) rfl hF trivial rfl ?_
 exact ⟨hm,g0⟩
noncomputable def b26 : Code := Try.f26.body.getD .skip
theorem holdc_sat (h : Heap) (br : Nat) (x : RB) (e : Int) (ho go : Bool) (va : Option Addr) (n vc : Nat) (hm : h[br]? = some (.cells (rc x e ho go (.slice va n vc)).toArray 26)) (bu : Nat) (on : Bool) (hu : h[bu]? = some (.cells #[.bool on] 4)) (hne : bu ≠ br) : Sat Try.prog 26 #[.pointer (some ⟨br,0,none⟩),.pointer (some ⟨bu,0,none⟩)] h fun _ h' => h'[br]? = some (.cells (rc x e on go (.slice va n vc)).toArray 26) ∧ Grew (some br) h h' := by
 have g0 := Grew.refl (some br) h
 refine sat_of (args := [.pointer (some ⟨br,0,none⟩),.pointer (some ⟨bu,0,none⟩)]) (fn := Try.f26) (B := b26) (n := 7) (L := [(0,.pointer (some ⟨br,0,none⟩)),(1,.pointer (some ⟨bu,0,none⟩))]) Try.func26 rfl (by kernel_rfl) rfl ?_
 intro a hF
 refine cP 0 hF ?_
 refine sP 1 [pV br] ?_
 refine sC 2 (.bool on) (Calm.load (T := 4) (p := ⟨bu,0,none⟩) (by kernel_rfl) (Loads.one (k := 1) (by kernel_rfl) ((hcell_blk hu).trans rfl))) ?_
 refine sP 4 [pV br,.pointer (some ⟨br,36,none⟩)] ?_
 refine SeqK.eff (k' := 5) (Does.store (b := br) (off := 36) (vs := [.bool on]) (l := rc x e ho go (.slice va n vc)) (by kernel_rfl) hm (of_decide_eq_true (by kernel_rfl)) (List.all_eq_true.1 (by kernel_rfl))) rfl ?_
 rintro _ h1 ⟨rfl,hh⟩
 have g2 : Grew (some (br)) h h1 := hput_gr hh
 replace hm : h1[br]? = some (.cells (rc x e on go (.slice va n vc)).toArray 26) := hput_at (off := 36) (vs := [.bool on]) (l := (rc x e ho go (.slice va n vc))) hh (by kernel_rfl) hm
 clear hh
 replace g0 := g0.trans g2
 replace hu := Grew.blk g2 hu (by simp; omega)
 refine sD [] ?_
 clear hF a; intro a hF
 show retK Try.prog Try.f26 (fun _ h' => h'[br]? = some (.cells (rc x e on go (.slice va n vc)).toArray 26) ∧ Grew (some br) h h') .normal a h1
 refine ret_okN [] [] (.tuple #[]) rfl hF trivial rfl ?_
 exact ⟨hm,g0⟩
noncomputable def b27 : Code := Try.f27.body.getD .skip
theorem delc_sat (h : Heap) (br : Nat) (x : RB) (e : Int) (ho go : Bool) (va : Option Addr) (n vc : Nat) (hm : h[br]? = some (.cells (rc x e ho go (.slice va n vc)).toArray 26)) : Sat Try.prog 27 #[.pointer (some ⟨br,0,none⟩)] h fun _ h' => h'[br]? = some (.cells (rc x e ho true (.slice none 0 0)).toArray 26) ∧ Grew (some br) h h' := by
 have g0 := Grew.refl (some br) h
 refine sat_of (args := [.pointer (some ⟨br,0,none⟩)]) (fn := Try.f27) (B := b27) (n := 8) (L := [(0,.pointer (some ⟨br,0,none⟩))]) Try.func27 rfl (by kernel_rfl) rfl ?_
 intro a hF
 refine cP 0 hF ?_
 refine sP 4 [pV br,pV br,pV br,.pointer (some ⟨br,37,none⟩)] ?_
 refine SeqK.eff (k' := 5) (Does.store (b := br) (off := 37) (vs := [.bool true]) (l := rc x e ho go (.slice va n vc)) (by kernel_rfl) hm (of_decide_eq_true (by kernel_rfl)) (List.all_eq_true.1 (by kernel_rfl))) rfl ?_
 rintro _ h1 ⟨rfl,hh⟩
 have g2 : Grew (some (br)) h h1 := hput_gr hh
 replace hm : h1[br]? = some (.cells (rc x e ho true (.slice va n vc)).toArray 26) := hput_at (off := 37) (vs := [.bool true]) (l := (rc x e ho go (.slice va n vc))) hh (by kernel_rfl) hm
 clear hh
 replace g0 := g0.trans g2
 refine sP 7 [pV br,.pointer (some ⟨br,38,none⟩)] ?_
 refine SeqK.eff (k' := 8) (Does.store (b := br) (off := 38) (vs := [.slice none 0 0]) (l := rc x e ho true (.slice va n vc)) (by kernel_rfl) hm (of_decide_eq_true (by kernel_rfl)) (List.all_eq_true.1 (by kernel_rfl))) rfl ?_
 rintro _ h3 ⟨rfl,hh⟩
 have g4 : Grew (some (br)) h1 h3 := hput_gr hh
 replace hm : h3[br]? = some (.cells (rc x e ho true (.slice none 0 0)).toArray 26) := hput_at (off := 38) (vs := [.slice none 0 0]) (l := (rc x e ho true (.slice va n vc))) hh (by kernel_rfl) hm
 clear hh
 replace g0 := g0.trans g4
 refine sD [] ?_
 clear hF a; intro a hF
 show retK Try.prog Try.f27 (fun _ h' => h'[br]? = some (.cells (rc x e ho true (.slice none 0 0)).toArray 26) ∧ Grew (some br) h h') .normal a h3
 refine ret_okN [] [] (.tuple #[]) rfl hF trivial rfl ?_
 exact ⟨hm,g0⟩
noncomputable def b23 : Code := Try.f23.body.getD .skip
theorem turned_lock (h : Heap) (x : RB) (e : Int) (ho go : Bool) (L : List Pl) (va : Option Addr) (vc : Nat) (hr : Row h (.slice va L.length vc) L.length 4 (prow L)) (hL : L.length ≤ 1099511627776) (bu : Nat) (u : Int) (hu : h[bu]? = some (.cells #[.int .i64 u] 3)) : Sat Try.prog 23 #[.agg (rc x e ho go (.slice va L.length vc)).toArray,.func (.func 24) #[] #[.pointer (some ⟨bu,0,none⟩)]] h fun v h' => ∃ c,v = .agg (rc x (max e u) ho go c).toArray ∧ PNew h h' 49 c L := by
 have e0 := Ext.refl h
 have sep : Sep h.size h.size [] := Sep.nil _ _
 have hbu := blk_lt hu
 refine sat_of (args := [.agg (rc x e ho go (.slice va L.length vc)).toArray,.func (.func 24) #[] #[.pointer (some ⟨bu,0,none⟩)]]) (fn := Try.f23) (B := b23) (n := 12) (L := [(0,.agg (rc x e ho go (.slice va L.length vc)).toArray),(1,.func (.func 24) #[] #[.pointer (some ⟨bu,0,none⟩)])]) Try.func23 rfl (by kernel_rfl) rfl ?_
 intro a hF
 refine cS ?_
 refine cP 0 hF ?_
 refine SeqK.eff (k' := 1) (Does.new (v := .pointer (some ⟨h.size,0,none⟩)) (o := .cells (rc x e ho go (.slice va L.length vc)).toArray 26) (by kernel_rfl)) rfl ?_
 rintro _ h1 ⟨rfl,hh⟩
 have g2 : Ext h h1 := push_ext hh
 have m3 : h1[h.size]? = some (.cells (rc x e ho go (.slice va L.length vc)).toArray 26) := push_at hh
 clear hh
 have lt4 := blk_lt m3
 have zs5 := e0.size
 have hlo := e0.size
 have sepo := sep
 replace e0 := e0.ext g2
 replace hu := Ext.blk g2 hu
 replace sep := sep.up g2.size
 replace sep := sepo.new hlo (blk_lt m3)
 clear sepo hlo
 refine SeqK.eff (k' := 2) (Does.new (v := .pointer (some ⟨h1.size,0,none⟩)) (o := .cells (rc rb0 (0 : Int) false false (.slice none 0 0)).toArray 26) (by kernel_rfl)) rfl ?_
 rintro _ h6 ⟨rfl,hh⟩
 have g7 : Ext h1 h6 := push_ext hh
 have m8 : h6[h1.size]? = some (.cells (rc rb0 (0 : Int) false false (.slice none 0 0)).toArray 26) := push_at hh
 clear hh
 have lt9 := blk_lt m8
 have zs10 := e0.size
 have hlo := e0.size
 have sepo := sep
 replace e0 := e0.ext g7
 replace hu := Ext.blk g7 hu
 replace m3 := Ext.blk g7 m3
 replace sep := sep.up g7.size
 replace sep := sepo.new hlo (blk_lt m8)
 clear sepo hlo
 refine sD [(1,.func (.func 24) #[] #[pV bu]),(2,pV h.size),(4,pV h1.size)] ?_
 clear hF a; intro a hF
 refine tK ?_
 refine cS ?_
 refine cP 1 hF ?_
 refine sP 1 [.pointer (some ⟨h.size,38,none⟩)] ?_
 refine sC 2 (.slice va L.length vc) (Calm.load (T := 24) (p := ⟨h.size,38,none⟩) (by kernel_rfl) (Loads.one (k := 1) (by kernel_rfl) ((hcell_blk m3).trans (rfl)))) ?_
 refine SeqK.eff (k' := 3) (Does.call (f := 33) (args := #[.slice va L.length vc]) (by kernel_rfl) (clone_sat _ L va vc (hr.ext e0) hL)) rfl ?_
 rintro _ h13 ⟨ad11,cap12,rfl,ownx,hge,g⟩
 have hlo := e0.size
 have sepo := sep
 replace e0 := e0.ext g
 replace hu := Ext.blk g hu
 replace m3 := Ext.blk g m3
 replace m8 := Ext.blk g m8
 replace sep := sep.up g.size
 replace sep := sepo.cons (x := ad11.map (fun (x : Addr) => x.block)) g.size hlo (fun k e => ⟨hge k e,ownx.lt (by rw [blkOf_slice]; exact e)⟩)
 have own_c : Own h13 (.slice ad11 L.length cap12) 49 L.length 4 (prow L) := ownx; clear ownx sepo hlo hge g
 refine sP 4 [.pointer (some ⟨h.size,38,none⟩)] ?_
 refine SeqK.eff (k' := 5) (Does.store (b := h.size) (off := 38) (vs := [.slice ad11 L.length cap12]) (l := rc x e ho go (.slice va L.length vc)) (by kernel_rfl) m3 (of_decide_eq_true (by kernel_rfl)) (List.all_eq_true.1 (by kernel_rfl))) rfl ?_
 rintro _ h14 ⟨rfl,hh⟩
 have g15 : Grew (some (h.size)) h13 h14 := hput_gr hh
 replace m3 : h14[h.size]? = some (.cells (rc x e ho go (.slice ad11 L.length cap12)).toArray 26) := hput_at (off := 38) (vs := [.slice ad11 L.length cap12]) (l := (rc x e ho go (.slice va L.length vc))) hh (by kernel_rfl) m3
 clear hh
 replace e0 := e0.grew g15 (sep.low 2 rfl)
 replace own_c := own_c.kept g15 (by rw [blkOf_slice]; exact (sep.ap 0 2))
 replace hu := Grew.blk g15 hu (fun e => by have := sep.low 2 rfl _ e.symm; omega)
 replace m8 := Grew.blk g15 m8 ((sep.bp 1 2))
 replace sep := sep.up g15.size
 refine sD [(1,.func (.func 24) #[] #[pV bu]),(2,pV h.size),(4,pV h1.size)] ?_
 clear hF a; intro a hF
 refine tK ?_
 refine cS ?_
 refine cP 2 hF ?_
 refine sP 1 [.func (.func 24) #[] #[pV bu]] ?_
 refine SeqK.eff (k' := 2) (Does.call (f := 24) (args := #[.pointer (some ⟨h.size,0,none⟩),.pointer (some ⟨bu,0,none⟩)]) (by kernel_rfl) (lockc_sat _ _ x e ho go _ _ _ m3 bu u hu (by have := hbu; omega))) rfl ?_
 rintro _ h16 ⟨hm2,g⟩
 replace e0 := e0.grew g (sep.low 2 rfl)
 replace own_c := own_c.kept g (by rw [blkOf_slice]; exact (sep.ap 0 2))
 replace hu := Grew.blk g hu (fun e => by have := sep.low 2 rfl _ e.symm; omega)
 replace m8 := Grew.blk g m8 ((sep.bp 1 2))
 replace sep := sep.up g.size
 clear m3; have m3 := hm2; clear hm2 g
 refine sD [(2,pV h.size),(4,pV h1.size)] ?_
 clear hF a; intro a hF
 refine tK ?_
 refine cS ?_
 refine cP 3 hF ?_
 refine sC 1 (.agg (rc x (max e u) ho go (.slice ad11 L.length cap12)).toArray) (Calm.load (T := 26) (p := ⟨h.size,0,none⟩) (by kernel_rfl) (Loads.blk (vs := rc x (max e u) ho go (.slice ad11 L.length cap12)) (by kernel_rfl) m3 rfl)) ?_
 refine SeqK.eff (k' := 2) (Does.store (b := h1.size) (off := 0) (vs := rc x (max e u) ho go (.slice ad11 L.length cap12)) (l := rc rb0 (0 : Int) false false (.slice none 0 0)) (by kernel_rfl) m8 (of_decide_eq_true (by kernel_rfl)) (List.all_eq_true.1 (by kernel_rfl))) rfl ?_
 rintro _ h17 ⟨rfl,hh⟩
 have g18 : Grew (some (h1.size)) h16 h17 := hput_gr hh
 replace m8 : h17[h1.size]? = some (.cells (rc x (max e u) ho go (.slice ad11 L.length cap12)).toArray 26) := hput_at (off := 0) (vs := rc x (max e u) ho go (.slice ad11 L.length cap12)) (l := (rc rb0 (0 : Int) false false (.slice none 0 0))) hh (by kernel_rfl) m8
 clear hh
 replace e0 := e0.grew g18 (sep.low 1 rfl)
 replace own_c := own_c.kept g18 (by rw [blkOf_slice]; exact (sep.ap 0 1))
 replace hu := Grew.blk g18 hu (fun e => by have := sep.low 1 rfl _ e.symm; omega)
 replace m3 := Grew.blk g18 m3 ((sep.bp 2 1))
 replace sep := sep.up g18.size
 refine sD [(4,pV h1.size)] ?_
 clear hF a; intro a hF
 refine tK ?_
 refine cR ?_
 show retK Try.prog Try.f23 (fun v h' => ∃ c,v = .agg (rc x (max e u) ho go c).toArray ∧ PNew h h' 49 c L) .ret a h17
 refine ret_ok [.cell 4 26] [.agg (rc x (max e u) ho go (.slice ad11 L.length cap12)).toArray] (.agg (rc x (max e u) ho go (.slice ad11 L.length cap12)).toArray) rfl hF ⟨⟨_,rfl,Loads.blk (vs := rc x (max e u) ho go (.slice ad11 L.length cap12)) (by kernel_rfl) m8 rfl⟩,trivial⟩ rfl ?_
 exact ⟨_,rfl,⟨_,_,rfl,own_c,sep.low 0 rfl,e0⟩⟩
theorem turned_hold (h : Heap) (x : RB) (e : Int) (ho go : Bool) (L : List Pl) (va : Option Addr) (vc : Nat) (hr : Row h (.slice va L.length vc) L.length 4 (prow L)) (hL : L.length ≤ 1099511627776) (bu : Nat) (on : Bool) (hu : h[bu]? = some (.cells #[.bool on] 4)) : Sat Try.prog 23 #[.agg (rc x e ho go (.slice va L.length vc)).toArray,.func (.func 26) #[] #[.pointer (some ⟨bu,0,none⟩)]] h fun v h' => ∃ c,v = .agg (rc x e on go c).toArray ∧ PNew h h' 49 c L := by
 have e0 := Ext.refl h
 have sep : Sep h.size h.size [] := Sep.nil _ _
 have hbu := blk_lt hu
 refine sat_of (args := [.agg (rc x e ho go (.slice va L.length vc)).toArray,.func (.func 26) #[] #[.pointer (some ⟨bu,0,none⟩)]]) (fn := Try.f23) (B := b23) (n := 12) (L := [(0,.agg (rc x e ho go (.slice va L.length vc)).toArray),(1,.func (.func 26) #[] #[.pointer (some ⟨bu,0,none⟩)])]) Try.func23 rfl (by kernel_rfl) rfl ?_
 intro a hF
 refine cS ?_
 refine cP 0 hF ?_
 refine SeqK.eff (k' := 1) (Does.new (v := .pointer (some ⟨h.size,0,none⟩)) (o := .cells (rc x e ho go (.slice va L.length vc)).toArray 26) (by kernel_rfl)) rfl ?_
 rintro _ h1 ⟨rfl,hh⟩
 have g2 : Ext h h1 := push_ext hh
 have m3 : h1[h.size]? = some (.cells (rc x e ho go (.slice va L.length vc)).toArray 26) := push_at hh
 clear hh
 have lt4 := blk_lt m3
 have zs5 := e0.size
 have hlo := e0.size
 have sepo := sep
 replace e0 := e0.ext g2
 replace hu := Ext.blk g2 hu
 replace sep := sep.up g2.size
 replace sep := sepo.new hlo (blk_lt m3)
 clear sepo hlo
 refine SeqK.eff (k' := 2) (Does.new (v := .pointer (some ⟨h1.size,0,none⟩)) (o := .cells (rc rb0 (0 : Int) false false (.slice none 0 0)).toArray 26) (by kernel_rfl)) rfl ?_
 rintro _ h6 ⟨rfl,hh⟩
 have g7 : Ext h1 h6 := push_ext hh
 have m8 : h6[h1.size]? = some (.cells (rc rb0 (0 : Int) false false (.slice none 0 0)).toArray 26) := push_at hh
 clear hh
 have lt9 := blk_lt m8
 have zs10 := e0.size
 have hlo := e0.size
 have sepo := sep
 replace e0 := e0.ext g7
 replace hu := Ext.blk g7 hu
 replace m3 := Ext.blk g7 m3
 replace sep := sep.up g7.size
 replace sep := sepo.new hlo (blk_lt m8)
 clear sepo hlo
 refine sD [(1,.func (.func 26) #[] #[pV bu]),(2,pV h.size),(4,pV h1.size)] ?_
 clear hF a; intro a hF
 refine tK ?_
 refine cS ?_
 refine cP 1 hF ?_
 refine sP 1 [.pointer (some ⟨h.size,38,none⟩)] ?_
 refine sC 2 (.slice va L.length vc) (Calm.load (T := 24) (p := ⟨h.size,38,none⟩) (by kernel_rfl) (Loads.one (k := 1) (by kernel_rfl) ((hcell_blk m3).trans (rfl)))) ?_
 refine SeqK.eff (k' := 3) (Does.call (f := 33) (args := #[.slice va L.length vc]) (by kernel_rfl) (clone_sat _ L va vc (hr.ext e0) hL)) rfl ?_
 rintro _ h13 ⟨ad11,cap12,rfl,ownx,hge,g⟩
 have hlo := e0.size
 have sepo := sep
 replace e0 := e0.ext g
 replace hu := Ext.blk g hu
 replace m3 := Ext.blk g m3
 replace m8 := Ext.blk g m8
 replace sep := sep.up g.size
 replace sep := sepo.cons (x := ad11.map (fun (x : Addr) => x.block)) g.size hlo (fun k e => ⟨hge k e,ownx.lt (by rw [blkOf_slice]; exact e)⟩)
 have own_c : Own h13 (.slice ad11 L.length cap12) 49 L.length 4 (prow L) := ownx; clear ownx sepo hlo hge g
 refine sP 4 [.pointer (some ⟨h.size,38,none⟩)] ?_
 refine SeqK.eff (k' := 5) (Does.store (b := h.size) (off := 38) (vs := [.slice ad11 L.length cap12]) (l := rc x e ho go (.slice va L.length vc)) (by kernel_rfl) m3 (of_decide_eq_true (by kernel_rfl)) (List.all_eq_true.1 (by kernel_rfl))) rfl ?_
 rintro _ h14 ⟨rfl,hh⟩
 have g15 : Grew (some (h.size)) h13 h14 := hput_gr hh
 replace m3 : h14[h.size]? = some (.cells (rc x e ho go (.slice ad11 L.length cap12)).toArray 26) := hput_at (off := 38) (vs := [.slice ad11 L.length cap12]) (l := (rc x e ho go (.slice va L.length vc))) hh (by kernel_rfl) m3
 clear hh
 replace e0 := e0.grew g15 (sep.low 2 rfl)
 replace own_c := own_c.kept g15 (by rw [blkOf_slice]; exact (sep.ap 0 2))
 replace hu := Grew.blk g15 hu (fun e => by have := sep.low 2 rfl _ e.symm; omega)
 replace m8 := Grew.blk g15 m8 ((sep.bp 1 2))
 replace sep := sep.up g15.size
 refine sD [(1,.func (.func 26) #[] #[pV bu]),(2,pV h.size),(4,pV h1.size)] ?_
 clear hF a; intro a hF
 refine tK ?_
 refine cS ?_
 refine cP 2 hF ?_
 refine sP 1 [.func (.func 26) #[] #[pV bu]] ?_
 refine SeqK.eff (k' := 2) (Does.call (f := 26) (args := #[.pointer (some ⟨h.size,0,none⟩),.pointer (some ⟨bu,0,none⟩)]) (by kernel_rfl) (holdc_sat _ _ x e ho go _ _ _ m3 bu on hu (by have := hbu; omega))) rfl ?_
 rintro _ h16 ⟨hm2,g⟩
 replace e0 := e0.grew g (sep.low 2 rfl)
 replace own_c := own_c.kept g (by rw [blkOf_slice]; exact (sep.ap 0 2))
 replace hu := Grew.blk g hu (fun e => by have := sep.low 2 rfl _ e.symm; omega)
 replace m8 := Grew.blk g m8 ((sep.bp 1 2))
 replace sep := sep.up g.size
 clear m3; have m3 := hm2; clear hm2 g
 refine sD [(2,pV h.size),(4,pV h1.size)] ?_
 clear hF a; intro a hF
 refine tK ?_
 refine cS ?_
 refine cP 3 hF ?_
 refine sC 1 (.agg (rc x e on go (.slice ad11 L.length cap12)).toArray) (Calm.load (T := 26) (p := ⟨h.size,0,none⟩) (by kernel_rfl) (Loads.blk (vs := rc x e on go (.slice ad11 L.length cap12)) (by kernel_rfl) m3 rfl)) ?_
 refine SeqK.eff (k' := 2) (Does.store (b := h1.size) (off := 0) (vs := rc x e on go (.slice ad11 L.length cap12)) (l := rc rb0 (0 : Int) false false (.slice none 0 0)) (by kernel_rfl) m8 (of_decide_eq_true (by kernel_rfl)) (List.all_eq_true.1 (by kernel_rfl))) rfl ?_
 rintro _ h17 ⟨rfl,hh⟩
 have g18 : Grew (some (h1.size)) h16 h17 := hput_gr hh
 replace m8 : h17[h1.size]? = some (.cells (rc x e on go (.slice ad11 L.length cap12)).toArray 26) := hput_at (off := 0) (vs := rc x e on go (.slice ad11 L.length cap12)) (l := (rc rb0 (0 : Int) false false (.slice none 0 0))) hh (by kernel_rfl) m8
 clear hh
 replace e0 := e0.grew g18 (sep.low 1 rfl)
 replace own_c := own_c.kept g18 (by rw [blkOf_slice]; exact (sep.ap 0 1))
 replace hu := Grew.blk g18 hu (fun e => by have := sep.low 1 rfl _ e.symm; omega)
 replace m3 := Grew.blk g18 m3 ((sep.bp 2 1))
 replace sep := sep.up g18.size
 refine sD [(4,pV h1.size)] ?_
 clear hF a; intro a hF
 refine tK ?_
 refine cR ?_
 show retK Try.prog Try.f23 (fun v h' => ∃ c,v = .agg (rc x e on go c).toArray ∧ PNew h h' 49 c L) .ret a h17
 refine ret_ok [.cell 4 26] [.agg (rc x e on go (.slice ad11 L.length cap12)).toArray] (.agg (rc x e on go (.slice ad11 L.length cap12)).toArray) rfl hF ⟨⟨_,rfl,Loads.blk (vs := rc x e on go (.slice ad11 L.length cap12)) (by kernel_rfl) m8 rfl⟩,trivial⟩ rfl ?_
 exact ⟨_,rfl,⟨_,_,rfl,own_c,sep.low 0 rfl,e0⟩⟩
theorem turned_del (h : Heap) (x : RB) (e : Int) (ho go : Bool) (L : List Pl) (va : Option Addr) (vc : Nat) (hr : Row h (.slice va L.length vc) L.length 4 (prow L)) (hL : L.length ≤ 1099511627776) : Sat Try.prog 23 #[.agg (rc x e ho go (.slice va L.length vc)).toArray,.func (.func 27) #[] #[]] h fun v h' => v = .agg (rc x e ho true (.slice none 0 0)).toArray ∧ Ext h h' := by
 have e0 := Ext.refl h
 have sep : Sep h.size h.size [] := Sep.nil _ _
 refine sat_of (args := [.agg (rc x e ho go (.slice va L.length vc)).toArray,.func (.func 27) #[] #[]]) (fn := Try.f23) (B := b23) (n := 12) (L := [(0,.agg (rc x e ho go (.slice va L.length vc)).toArray),(1,.func (.func 27) #[] #[])]) Try.func23 rfl (by kernel_rfl) rfl ?_
 intro a hF
 refine cS ?_
 refine cP 0 hF ?_
 refine SeqK.eff (k' := 1) (Does.new (v := .pointer (some ⟨h.size,0,none⟩)) (o := .cells (rc x e ho go (.slice va L.length vc)).toArray 26) (by kernel_rfl)) rfl ?_
 rintro _ h1 ⟨rfl,hh⟩
 have g2 : Ext h h1 := push_ext hh
 have m3 : h1[h.size]? = some (.cells (rc x e ho go (.slice va L.length vc)).toArray 26) := push_at hh
 clear hh
 have lt4 := blk_lt m3
 have zs5 := e0.size
 have hlo := e0.size
 have sepo := sep
 replace e0 := e0.ext g2
 replace sep := sep.up g2.size
 replace sep := sepo.new hlo (blk_lt m3)
 clear sepo hlo
 refine SeqK.eff (k' := 2) (Does.new (v := .pointer (some ⟨h1.size,0,none⟩)) (o := .cells (rc rb0 (0 : Int) false false (.slice none 0 0)).toArray 26) (by kernel_rfl)) rfl ?_
 rintro _ h6 ⟨rfl,hh⟩
 have g7 : Ext h1 h6 := push_ext hh
 have m8 : h6[h1.size]? = some (.cells (rc rb0 (0 : Int) false false (.slice none 0 0)).toArray 26) := push_at hh
 clear hh
 have lt9 := blk_lt m8
 have zs10 := e0.size
 have hlo := e0.size
 have sepo := sep
 replace e0 := e0.ext g7
 replace m3 := Ext.blk g7 m3
 replace sep := sep.up g7.size
 replace sep := sepo.new hlo (blk_lt m8)
 clear sepo hlo
 refine sD [(1,.func (.func 27) #[] #[]),(2,pV h.size),(4,pV h1.size)] ?_
 clear hF a; intro a hF
 refine tK ?_
 refine cS ?_
 refine cP 1 hF ?_
 refine sP 1 [.pointer (some ⟨h.size,38,none⟩)] ?_
 refine sC 2 (.slice va L.length vc) (Calm.load (T := 24) (p := ⟨h.size,38,none⟩) (by kernel_rfl) (Loads.one (k := 1) (by kernel_rfl) ((hcell_blk m3).trans (rfl)))) ?_
 refine SeqK.eff (k' := 3) (Does.call (f := 33) (args := #[.slice va L.length vc]) (by kernel_rfl) (clone_sat _ L va vc (hr.ext e0) hL)) rfl ?_
 rintro _ h13 ⟨ad11,cap12,rfl,ownx,hge,g⟩
 have hlo := e0.size
 have sepo := sep
 replace e0 := e0.ext g
 replace m3 := Ext.blk g m3
 replace m8 := Ext.blk g m8
 replace sep := sep.up g.size
 replace sep := sepo.cons (x := ad11.map (fun (x : Addr) => x.block)) g.size hlo (fun k e => ⟨hge k e,ownx.lt (by rw [blkOf_slice]; exact e)⟩)
 have own_c : Own h13 (.slice ad11 L.length cap12) 49 L.length 4 (prow L) := ownx; clear ownx sepo hlo hge g
 refine sP 4 [.pointer (some ⟨h.size,38,none⟩)] ?_
 refine SeqK.eff (k' := 5) (Does.store (b := h.size) (off := 38) (vs := [.slice ad11 L.length cap12]) (l := rc x e ho go (.slice va L.length vc)) (by kernel_rfl) m3 (of_decide_eq_true (by kernel_rfl)) (List.all_eq_true.1 (by kernel_rfl))) rfl ?_
 rintro _ h14 ⟨rfl,hh⟩
 have g15 : Grew (some (h.size)) h13 h14 := hput_gr hh
 replace m3 : h14[h.size]? = some (.cells (rc x e ho go (.slice ad11 L.length cap12)).toArray 26) := hput_at (off := 38) (vs := [.slice ad11 L.length cap12]) (l := (rc x e ho go (.slice va L.length vc))) hh (by kernel_rfl) m3
 clear hh
 replace e0 := e0.grew g15 (sep.low 2 rfl)
 replace own_c := own_c.kept g15 (by rw [blkOf_slice]; exact (sep.ap 0 2))
 replace m8 := Grew.blk g15 m8 ((sep.bp 1 2))
 replace sep := sep.up g15.size
 refine sD [(1,.func (.func 27) #[] #[]),(2,pV h.size),(4,pV h1.size)] ?_
 clear hF a; intro a hF
 refine tK ?_
 refine cS ?_
 refine cP 2 hF ?_
 refine sP 1 [.func (.func 27) #[] #[]] ?_
 refine SeqK.eff (k' := 2) (Does.call (f := 27) (args := #[.pointer (some ⟨h.size,0,none⟩)]) (by kernel_rfl) (delc_sat _ _ x e ho go _ _ _ m3)) rfl ?_
 rintro _ h16 ⟨hm2,g⟩
 replace e0 := e0.grew g (sep.low 2 rfl)
 replace own_c := own_c.kept g (by rw [blkOf_slice]; exact (sep.ap 0 2))
 replace m8 := Grew.blk g m8 ((sep.bp 1 2))
 replace sep := sep.up g.size
 clear m3; have m3 := hm2; clear hm2 g
 refine sD [(2,pV h.size),(4,pV h1.size)] ?_
 clear hF a; intro a hF
 refine tK ?_
 refine cS ?_
 refine cP 3 hF ?_
 refine sC 1 (.agg (rc x e ho true (.slice none 0 0)).toArray) (Calm.load (T := 26) (p := ⟨h.size,0,none⟩) (by kernel_rfl) (Loads.blk (vs := rc x e ho true (.slice none 0 0)) (by kernel_rfl) m3 rfl)) ?_
 refine SeqK.eff (k' := 2) (Does.store (b := h1.size) (off := 0) (vs := rc x e ho true (.slice none 0 0)) (l := rc rb0 (0 : Int) false false (.slice none 0 0)) (by kernel_rfl) m8 (of_decide_eq_true (by kernel_rfl)) (List.all_eq_true.1 (by kernel_rfl))) rfl ?_
 rintro _ h17 ⟨rfl,hh⟩
 have g18 : Grew (some (h1.size)) h16 h17 := hput_gr hh
 replace m8 : h17[h1.size]? = some (.cells (rc x e ho true (.slice none 0 0)).toArray 26) := hput_at (off := 0) (vs := rc x e ho true (.slice none 0 0)) (l := (rc rb0 (0 : Int) false false (.slice none 0 0))) hh (by kernel_rfl) m8
 clear hh
 replace e0 := e0.grew g18 (sep.low 1 rfl)
 replace own_c := own_c.kept g18 (by rw [blkOf_slice]; exact (sep.ap 0 1))
 replace m3 := Grew.blk g18 m3 ((sep.bp 2 1))
 replace sep := sep.up g18.size
 refine sD [(4,pV h1.size)] ?_
 clear hF a; intro a hF
 refine tK ?_
 refine cR ?_
 show retK Try.prog Try.f23 (fun v h' => v = .agg (rc x e ho true (.slice none 0 0)).toArray ∧ Ext h h') .ret a h17
 refine ret_ok [.cell 4 26] [.agg (rc x e ho true (.slice none 0 0)).toArray] (.agg (rc x e ho true (.slice none 0 0)).toArray) rfl hF ⟨⟨_,rfl,Loads.blk (vs := rc x e ho true (.slice none 0 0)) (by kernel_rfl) m8 rfl⟩,trivial⟩ rfl ?_
 exact ⟨rfl,e0⟩
end Go.Proofs.Ytlghdimpgfhmcaa
