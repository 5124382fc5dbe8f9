/- The walks and the plain laws, part 5: MdlG, MdlH, MdlI, MdlJ, MdlK, MdlL, MdlM, MdlFr, MdlSee, MdlN, MdlShow. Conditions: those that each theorem names. -/
import Derived.Test.YtegkejcglfgpmaaDoorPb4
section
namespace Go.Proofs.YtegkejcglfgpmaaDoor
open Go Go.Lane Go.Sha
noncomputable def b8 : Code := Tryd.f8.body.getD .skip
theorem ask_r (h : Heap) (mb mp : Nat) (M : Md) (L : List Ent) (ck : Nat) (ea : Option Addr) (ec : Nat) (es : List Value) (md : ModA h mb mp M L ck ea ec es) (kd n : Int) (s : ByteArray) (oa : Option Addr) (on oc : Nat) (ka : Option Addr) (kn kc : Nat) (hsz : s.size ≤ 9223372036854775807) (kt : Ktab h) (hE : M.E.length ≤ 1099511627) (A : An) (hA : askM M kd s = A) : Sat Tryd.prog 17 #[.pointer (some ⟨mb,0,none⟩),.agg #[.int .i64 kd,.string s,.slice oa on oc,.int .i64 n,.slice ka kn kc]] h fun v h' => ∃ qa qc ia ic pa pc,v = anv A (.slice qa A.b.length qc) (.slice ia A.i.length ic) (.slice pa A.p.length pc) ∧ RowE h' (.slice qa A.b.length qc) A.b.length 1 (A.b.map bv) ∧ RowE h' (.slice ia A.i.length ic) A.i.length 1 (A.i.map Value.string) ∧ RowE h' (.slice pa A.p.length pc) A.p.length 32 (hcs A.p) ∧ All32 A.p ∧ Ext h h' := by
 subst hA
 exact (ask_sat h mb mp M L ck ea ec es md kd n s oa on oc ka kn kc hsz kt hE).mono fun v h' ⟨⟨qa,qc,ia,ic,pa,pc,e,r1,r2,r3,r4⟩,g⟩ => ⟨qa,qc,ia,ic,pa,pc,e,r1,r2,r3,r4,g⟩
set_option maxHeartbeats 2000000 in
theorem do_a (h : Heap) (mb mp : Nat) (M : Md) (L : List Ent) (ck : Nat) (ea : Option Addr) (ec : Nat) (es : List Value) (md : ModA h mb mp M L ck ea ec es) (kd n : Int) (s : ByteArray) (l : List UInt8) (oa : Option Addr) (oc : Nat) (ka : Option Addr) (kn kc : Nat) (hr : Row h (.slice oa l.length oc) l.length 1 (l.map bv)) (hsz : s.size ≤ 9223372036854775807) (kt : Ktab h) (hE : M.E.length ≤ 1099511627) : Sat Tryd.prog 8 #[.pointer (some ⟨mb,0,none⟩),.agg #[.int .i64 kd,.string s,.slice oa l.length oc,.int .i64 n,.slice ka kn kc]] h fun v h' => AnsAt h' v (step M kd n s l).2 ∧ Mod h' mb mp (step M kd n s l).1 ∧ MG mb mp h h' := by
 have hm := md.hm
 have hp := md.hp
 have e0 := Ext.refl h
 have h0s := kt.lt
 have sep : Sep h.size h.size [] := Sep.nil _ _
 refine sat_in Tryd.func8 78 fun a hF => ?_
 refine qS hF ?_
 refine tN 0 (pV h.size) (#[.int .i64 kd,.string s,.slice oa l.length oc,.int .i64 n,.slice ka kn kc]) 26 fun h1 g2 m3 => ?_
 have lt4 := blk_lt m3
 have zs5 := e0.size
 have hlo := e0.size
 have sepo := sep
 replace e0 := e0.ext g2
 replace kt := kt.ext g2
 replace sep := sep.up g2.size
 replace sep := sepo.new hlo (blk_lt m3)
 clear sepo hlo
 refine tN 1 (pV h1.size) ((asc (0 : Int) (.slice none 0 0) rb0 (0 : Int) false false (.slice none 0 0) (0 : Int) rb0 (0 : Int) (.slice none 0 0)).toArray) 41 fun h6 g7 m8 => ?_
 have lt9 := blk_lt m8
 have zs10 := e0.size
 have hlo := e0.size
 have sepo := sep
 replace e0 := e0.ext g7
 replace kt := kt.ext g7
 replace m3 := Ext.blk g7 m3
 replace sep := sep.up g7.size
 replace sep := sepo.new hlo (blk_lt m8)
 clear sepo hlo
 refine sT [(3,pV h.size),(4,pV h1.size)] fun a hF => ?_
 refine cS ?_
 refine qS hF ?_
 refine tB 1 3 0 (.int .i64 kd) m3 ?_
 refine sT [(6,.int .i64 kd)] fun a hF => ?_
 refine cB 0 ?_
 refine qP [(8,.bool (decide (kd = (1 : Int))))] hF fun a hF => ?_
 refine cJ 8 hF (fun hc11 => ?_) fun hc11 => ?_
 ·skip
  refine rS hF ?_
  refine tB 2 9 1 (.string s) m3 ?_
  refine tB 4 23 2 (.slice oa l.length oc) m3 ?_
  refine tG 5 (put_sat _ mb mp M L ck ea ec es (md.ext e0) s hsz l oa oc (hr.ext e0) kt hE) ?_
  rintro _ h12 ⟨rfl,hmod,gm⟩
  have gk : MG mb mp h h12 := (MG.ofExt e0).trans gm
  have hbm := blk_lt hm; have hbp := blk_lt hp
  replace m8 := gm.blk m8 (by omega) (by omega)
  replace sep := sep.up gm.1
  refine tW 7 0 ([.int .i64 ((putM M s l).2)]) (asc (0 : Int) (.slice none 0 0) rb0 (0 : Int) false false (.slice none 0 0) (0 : Int) rb0 (0 : Int) (.slice none 0 0)) (asc ((putM M s l).2) (.slice none 0 0) rb0 (0 : Int) false false (.slice none 0 0) (0 : Int) rb0 (0 : Int) (.slice none 0 0)) m8 (fun h13 g14 m8' => ?_)
  replace hmod := hmod.put1 g14 m8 (by decide) (by omega)
  replace gk := gk.ofO g14 (fun x e => by cases e; omega)
  replace sep := sep.up g14.size
  clear m8; have m8 := m8'; clear m8'
  refine sE [] fun a hF => ?_
  refine bK ?_
  refine tK ?_
  refine qS hF ?_
  refine tC 0 (.agg (asc ((putM M s l).2) (.slice none 0 0) rb0 (0 : Int) false false (.slice none 0 0) (0 : Int) rb0 (0 : Int) (.slice none 0 0)).toArray) (Calm.load (T := 41) (p := ⟨h1.size,0,none⟩) (by kernel_rfl) (Loads.blk (vs := asc ((putM M s l).2) (.slice none 0 0) rb0 (0 : Int) false false (.slice none 0 0) (0 : Int) rb0 (0 : Int) (.slice none 0 0)) (by kernel_rfl) m8 rfl)) ?_
  refine tW 1 0 (asc ((putM M s l).2) (.slice none 0 0) rb0 (0 : Int) false false (.slice none 0 0) (0 : Int) rb0 (0 : Int) (.slice none 0 0)) (asc ((putM M s l).2) (.slice none 0 0) rb0 (0 : Int) false false (.slice none 0 0) (0 : Int) rb0 (0 : Int) (.slice none 0 0)) (asc ((putM M s l).2) (.slice none 0 0) rb0 (0 : Int) false false (.slice none 0 0) (0 : Int) rb0 (0 : Int) (.slice none 0 0)) m8 (fun h15 g16 m8' => ?_)
  replace hmod := hmod.put1 g16 m8 (by decide) (by omega)
  replace gk := gk.ofO g16 (fun x e => by cases e; omega)
  replace sep := sep.up g16.size
  clear m8; have m8 := m8'; clear m8'
  refine sT [] fun a hF => ?_
  refine cR ?_
  refine ret_ok [.cell 4 41] [.agg (asc ((putM M s l).2) (.slice none 0 0) rb0 (0 : Int) false false (.slice none 0 0) (0 : Int) rb0 (0 : Int) (.slice none 0 0)).toArray] (.agg (asc ((putM M s l).2) (.slice none 0 0) rb0 (0 : Int) false false (.slice none 0 0) (0 : Int) rb0 (0 : Int) (.slice none 0 0)).toArray) rfl hF ⟨⟨_,rfl,Loads.blk (vs := asc ((putM M s l).2) (.slice none 0 0) rb0 (0 : Int) false false (.slice none 0 0) (0 : Int) rb0 (0 : Int) (.slice none 0 0)) (by kernel_rfl) m8 rfl⟩,trivial⟩ rfl ?_
  rw [step_put hc11]; exact ⟨ansC _ _,hmod,gk⟩
 ·skip
  refine cS ?_
  refine qP [(17,.bool (decide (kd = (4 : Int))))] hF fun a hF => ?_
  refine cJ 17 hF (fun hc17 => ?_) fun hc17 => ?_
  ·skip
   refine cN ?_
   refine tK ?_
   refine cJ 17 hF (fun hx18 => ?_) fun hx18 => absurd hc17 hx18
   refine rS hF ?_
   refine tC 1 (.agg #[.int .i64 kd,.string s,.slice oa l.length oc,.int .i64 n,.slice ka kn kc]) (Calm.load (T := 26) (p := ⟨h.size,0,none⟩) (by kernel_rfl) (Loads.blk (vs := [.int .i64 kd,.string s,.slice oa l.length oc,.int .i64 n,.slice ka kn kc]) (by kernel_rfl) m3 rfl)) ?_
   refine tG 2 (change_sat _ mb mp M L ck ea ec es (md.ext e0) kd n s oa l.length oc ka kn kc hsz) ?_
   rintro _ h19 ⟨rfl,hmod,gm⟩
   have gk : MG mb mp h h19 := (MG.ofExt e0).trans gm
   have hbm := blk_lt hm; have hbp := blk_lt hp
   replace m8 := gm.blk m8 (by omega) (by omega)
   replace sep := sep.up gm.1
   refine tW 4 0 ([.int .i64 ((chg M kd n s).2)]) (asc (0 : Int) (.slice none 0 0) rb0 (0 : Int) false false (.slice none 0 0) (0 : Int) rb0 (0 : Int) (.slice none 0 0)) (asc ((chg M kd n s).2) (.slice none 0 0) rb0 (0 : Int) false false (.slice none 0 0) (0 : Int) rb0 (0 : Int) (.slice none 0 0)) m8 (fun h20 g21 m8' => ?_)
   replace hmod := hmod.put1 g21 m8 (by decide) (by omega)
   replace gk := gk.ofO g21 (fun x e => by cases e; omega)
   replace sep := sep.up g21.size
   clear m8; have m8 := m8'; clear m8'
   refine sE [] fun a hF => ?_
   refine bK ?_
   refine tK ?_
   refine qS hF ?_
   refine tC 0 (.agg (asc ((chg M kd n s).2) (.slice none 0 0) rb0 (0 : Int) false false (.slice none 0 0) (0 : Int) rb0 (0 : Int) (.slice none 0 0)).toArray) (Calm.load (T := 41) (p := ⟨h1.size,0,none⟩) (by kernel_rfl) (Loads.blk (vs := asc ((chg M kd n s).2) (.slice none 0 0) rb0 (0 : Int) false false (.slice none 0 0) (0 : Int) rb0 (0 : Int) (.slice none 0 0)) (by kernel_rfl) m8 rfl)) ?_
   refine tW 1 0 (asc ((chg M kd n s).2) (.slice none 0 0) rb0 (0 : Int) false false (.slice none 0 0) (0 : Int) rb0 (0 : Int) (.slice none 0 0)) (asc ((chg M kd n s).2) (.slice none 0 0) rb0 (0 : Int) false false (.slice none 0 0) (0 : Int) rb0 (0 : Int) (.slice none 0 0)) (asc ((chg M kd n s).2) (.slice none 0 0) rb0 (0 : Int) false false (.slice none 0 0) (0 : Int) rb0 (0 : Int) (.slice none 0 0)) m8 (fun h22 g23 m8' => ?_)
   replace hmod := hmod.put1 g23 m8 (by decide) (by omega)
   replace gk := gk.ofO g23 (fun x e => by cases e; omega)
   replace sep := sep.up g23.size
   clear m8; have m8 := m8'; clear m8'
   refine sT [] fun a hF => ?_
   refine cR ?_
   refine ret_ok [.cell 4 41] [.agg (asc ((chg M kd n s).2) (.slice none 0 0) rb0 (0 : Int) false false (.slice none 0 0) (0 : Int) rb0 (0 : Int) (.slice none 0 0)).toArray] (.agg (asc ((chg M kd n s).2) (.slice none 0 0) rb0 (0 : Int) false false (.slice none 0 0) (0 : Int) rb0 (0 : Int) (.slice none 0 0)).toArray) rfl hF ⟨⟨_,rfl,Loads.blk (vs := asc ((chg M kd n s).2) (.slice none 0 0) rb0 (0 : Int) false false (.slice none 0 0) (0 : Int) rb0 (0 : Int) (.slice none 0 0)) (by kernel_rfl) m8 rfl⟩,trivial⟩ rfl ?_
   rw [step_chg (by omega)]; exact ⟨ansC _ _,hmod,gk⟩
  ·skip
   refine qP [(17,.bool (decide (kd = (5 : Int))))] hF fun a hF => ?_
   refine cJ 17 hF (fun hc24 => ?_) fun hc24 => ?_
   ·skip
    refine cN ?_
    refine tK ?_
    refine cJ 17 hF (fun hx25 => ?_) fun hx25 => absurd hc24 hx25
    refine rS hF ?_
    refine tC 1 (.agg #[.int .i64 kd,.string s,.slice oa l.length oc,.int .i64 n,.slice ka kn kc]) (Calm.load (T := 26) (p := ⟨h.size,0,none⟩) (by kernel_rfl) (Loads.blk (vs := [.int .i64 kd,.string s,.slice oa l.length oc,.int .i64 n,.slice ka kn kc]) (by kernel_rfl) m3 rfl)) ?_
    refine tG 2 (change_sat _ mb mp M L ck ea ec es (md.ext e0) kd n s oa l.length oc ka kn kc hsz) ?_
    rintro _ h26 ⟨rfl,hmod,gm⟩
    have gk : MG mb mp h h26 := (MG.ofExt e0).trans gm
    have hbm := blk_lt hm; have hbp := blk_lt hp
    replace m8 := gm.blk m8 (by omega) (by omega)
    replace sep := sep.up gm.1
    refine tW 4 0 ([.int .i64 ((chg M kd n s).2)]) (asc (0 : Int) (.slice none 0 0) rb0 (0 : Int) false false (.slice none 0 0) (0 : Int) rb0 (0 : Int) (.slice none 0 0)) (asc ((chg M kd n s).2) (.slice none 0 0) rb0 (0 : Int) false false (.slice none 0 0) (0 : Int) rb0 (0 : Int) (.slice none 0 0)) m8 (fun h27 g28 m8' => ?_)
    replace hmod := hmod.put1 g28 m8 (by decide) (by omega)
    replace gk := gk.ofO g28 (fun x e => by cases e; omega)
    replace sep := sep.up g28.size
    clear m8; have m8 := m8'; clear m8'
    refine sE [] fun a hF => ?_
    refine bK ?_
    refine tK ?_
    refine qS hF ?_
    refine tC 0 (.agg (asc ((chg M kd n s).2) (.slice none 0 0) rb0 (0 : Int) false false (.slice none 0 0) (0 : Int) rb0 (0 : Int) (.slice none 0 0)).toArray) (Calm.load (T := 41) (p := ⟨h1.size,0,none⟩) (by kernel_rfl) (Loads.blk (vs := asc ((chg M kd n s).2) (.slice none 0 0) rb0 (0 : Int) false false (.slice none 0 0) (0 : Int) rb0 (0 : Int) (.slice none 0 0)) (by kernel_rfl) m8 rfl)) ?_
    refine tW 1 0 (asc ((chg M kd n s).2) (.slice none 0 0) rb0 (0 : Int) false false (.slice none 0 0) (0 : Int) rb0 (0 : Int) (.slice none 0 0)) (asc ((chg M kd n s).2) (.slice none 0 0) rb0 (0 : Int) false false (.slice none 0 0) (0 : Int) rb0 (0 : Int) (.slice none 0 0)) (asc ((chg M kd n s).2) (.slice none 0 0) rb0 (0 : Int) false false (.slice none 0 0) (0 : Int) rb0 (0 : Int) (.slice none 0 0)) m8 (fun h29 g30 m8' => ?_)
    replace hmod := hmod.put1 g30 m8 (by decide) (by omega)
    replace gk := gk.ofO g30 (fun x e => by cases e; omega)
    replace sep := sep.up g30.size
    clear m8; have m8 := m8'; clear m8'
    refine sT [] fun a hF => ?_
    refine cR ?_
    refine ret_ok [.cell 4 41] [.agg (asc ((chg M kd n s).2) (.slice none 0 0) rb0 (0 : Int) false false (.slice none 0 0) (0 : Int) rb0 (0 : Int) (.slice none 0 0)).toArray] (.agg (asc ((chg M kd n s).2) (.slice none 0 0) rb0 (0 : Int) false false (.slice none 0 0) (0 : Int) rb0 (0 : Int) (.slice none 0 0)).toArray) rfl hF ⟨⟨_,rfl,Loads.blk (vs := asc ((chg M kd n s).2) (.slice none 0 0) rb0 (0 : Int) false false (.slice none 0 0) (0 : Int) rb0 (0 : Int) (.slice none 0 0)) (by kernel_rfl) m8 rfl⟩,trivial⟩ rfl ?_
    rw [step_chg (by omega)]; exact ⟨ansC _ _,hmod,gk⟩
   ·skip
    refine rP [(17,.bool (decide (kd = (6 : Int))))] hF fun a hF => ?_
    refine tK ?_
    refine cJ 17 hF (fun hc31 => ?_) fun hc31 => ?_
    ·skip
     refine rS hF ?_
     refine tC 1 (.agg #[.int .i64 kd,.string s,.slice oa l.length oc,.int .i64 n,.slice ka kn kc]) (Calm.load (T := 26) (p := ⟨h.size,0,none⟩) (by kernel_rfl) (Loads.blk (vs := [.int .i64 kd,.string s,.slice oa l.length oc,.int .i64 n,.slice ka kn kc]) (by kernel_rfl) m3 rfl)) ?_
     refine tG 2 (change_sat _ mb mp M L ck ea ec es (md.ext e0) kd n s oa l.length oc ka kn kc hsz) ?_
     rintro _ h32 ⟨rfl,hmod,gm⟩
     have gk : MG mb mp h h32 := (MG.ofExt e0).trans gm
     have hbm := blk_lt hm; have hbp := blk_lt hp
     replace m8 := gm.blk m8 (by omega) (by omega)
     replace sep := sep.up gm.1
     refine tW 4 0 ([.int .i64 ((chg M kd n s).2)]) (asc (0 : Int) (.slice none 0 0) rb0 (0 : Int) false false (.slice none 0 0) (0 : Int) rb0 (0 : Int) (.slice none 0 0)) (asc ((chg M kd n s).2) (.slice none 0 0) rb0 (0 : Int) false false (.slice none 0 0) (0 : Int) rb0 (0 : Int) (.slice none 0 0)) m8 (fun h33 g34 m8' => ?_)
     replace hmod := hmod.put1 g34 m8 (by decide) (by omega)
     replace gk := gk.ofO g34 (fun x e => by cases e; omega)
     replace sep := sep.up g34.size
     clear m8; have m8 := m8'; clear m8'
     refine sE [] fun a hF => ?_
     refine bK ?_
     refine tK ?_
     refine qS hF ?_
     refine tC 0 (.agg (asc ((chg M kd n s).2) (.slice none 0 0) rb0 (0 : Int) false false (.slice none 0 0) (0 : Int) rb0 (0 : Int) (.slice none 0 0)).toArray) (Calm.load (T := 41) (p := ⟨h1.size,0,none⟩) (by kernel_rfl) (Loads.blk (vs := asc ((chg M kd n s).2) (.slice none 0 0) rb0 (0 : Int) false false (.slice none 0 0) (0 : Int) rb0 (0 : Int) (.slice none 0 0)) (by kernel_rfl) m8 rfl)) ?_
     refine tW 1 0 (asc ((chg M kd n s).2) (.slice none 0 0) rb0 (0 : Int) false false (.slice none 0 0) (0 : Int) rb0 (0 : Int) (.slice none 0 0)) (asc ((chg M kd n s).2) (.slice none 0 0) rb0 (0 : Int) false false (.slice none 0 0) (0 : Int) rb0 (0 : Int) (.slice none 0 0)) (asc ((chg M kd n s).2) (.slice none 0 0) rb0 (0 : Int) false false (.slice none 0 0) (0 : Int) rb0 (0 : Int) (.slice none 0 0)) m8 (fun h35 g36 m8' => ?_)
     replace hmod := hmod.put1 g36 m8 (by decide) (by omega)
     replace gk := gk.ofO g36 (fun x e => by cases e; omega)
     replace sep := sep.up g36.size
     clear m8; have m8 := m8'; clear m8'
     refine sT [] fun a hF => ?_
     refine cR ?_
     refine ret_ok [.cell 4 41] [.agg (asc ((chg M kd n s).2) (.slice none 0 0) rb0 (0 : Int) false false (.slice none 0 0) (0 : Int) rb0 (0 : Int) (.slice none 0 0)).toArray] (.agg (asc ((chg M kd n s).2) (.slice none 0 0) rb0 (0 : Int) false false (.slice none 0 0) (0 : Int) rb0 (0 : Int) (.slice none 0 0)).toArray) rfl hF ⟨⟨_,rfl,Loads.blk (vs := asc ((chg M kd n s).2) (.slice none 0 0) rb0 (0 : Int) false false (.slice none 0 0) (0 : Int) rb0 (0 : Int) (.slice none 0 0)) (by kernel_rfl) m8 rfl⟩,trivial⟩ rfl ?_
     rw [step_chg (by omega)]; exact ⟨ansC _ _,hmod,gk⟩
    ·skip
     refine cS ?_
     refine qP [(25,.bool (decide (kd = (2 : Int))))] hF fun a hF => ?_
     refine cJ 25 hF (fun hc37 => ?_) fun hc37 => ?_
     ·skip
      refine cN ?_
      refine tK ?_
      refine cJ 25 hF (fun hx38 => ?_) fun hx38 => absurd hc37 hx38
      refine qS hF ?_
      refine tC 1 (.agg #[.int .i64 kd,.string s,.slice oa l.length oc,.int .i64 n,.slice ka kn kc]) (Calm.load (T := 26) (p := ⟨h.size,0,none⟩) (by kernel_rfl) (Loads.blk (vs := [.int .i64 kd,.string s,.slice oa l.length oc,.int .i64 n,.slice ka kn kc]) (by kernel_rfl) m3 rfl)) ?_
      obtain ⟨A,hA⟩ : ∃ A,askM M kd s = A := ⟨_,rfl⟩
      refine tG 2 (ask_r _ mb mp M L ck ea ec es (md.ext e0) kd n s oa l.length oc ka kn kc hsz kt hE A hA) ?_
      rintro _ h39 ⟨qa,qc,ia,ic,pa,pc,rfl,r1,r2,r3,r4,g⟩
      replace e0 := e0.ext g
      replace kt := kt.ext g
      replace m3 := Ext.blk g m3
      replace m8 := Ext.blk g m8
      replace sep := sep.up g.size
      clear g
      refine tW 3 0 (asc A.c (.slice qa A.b.length qc) A.sx A.se A.sh A.sg (.slice ia A.i.length ic) A.n A.y A.k (.slice pa A.p.length pc)) (asc (0 : Int) (.slice none 0 0) rb0 (0 : Int) false false (.slice none 0 0) (0 : Int) rb0 (0 : Int) (.slice none 0 0)) (asc A.c (.slice qa A.b.length qc) A.sx A.se A.sh A.sg (.slice ia A.i.length ic) A.n A.y A.k (.slice pa A.p.length pc)) m8 (fun h40 g41 m8' => ?_)
      replace e0 := e0.grew g41 (sep.low 0 rfl)
      replace kt := kt.grew g41 (sep.zero 0 rfl h0s)
      replace r1 := r1.put1 g41 m8 (by decide)
      replace r2 := r2.put1 g41 m8 (by decide)
      replace r3 := r3.put1 g41 m8 (by decide)
      replace m3 := Grew.blk g41 m3 ((sep.bp 1 0))
      replace sep := sep.up g41.size
      clear m8; have m8 := m8'; clear m8'
      refine sT [] fun a hF => ?_
      refine cR (yB (yT ?_))
      refine ret_ok [.cell 4 41] [.agg (asc A.c (.slice qa A.b.length qc) A.sx A.se A.sh A.sg (.slice ia A.i.length ic) A.n A.y A.k (.slice pa A.p.length pc)).toArray] (.agg (asc A.c (.slice qa A.b.length qc) A.sx A.se A.sh A.sg (.slice ia A.i.length ic) A.n A.y A.k (.slice pa A.p.length pc)).toArray) rfl hF ⟨⟨_,rfl,Loads.blk (vs := asc A.c (.slice qa A.b.length qc) A.sx A.se A.sh A.sg (.slice ia A.i.length ic) A.n A.y A.k (.slice pa A.p.length pc)) (by kernel_rfl) m8 rfl⟩,trivial⟩ rfl ?_
      rw [step_ask (by omega),hA]; exact ⟨⟨_,_,_,_,_,_,rfl,r1,r2,r3,r4⟩,⟨_,_,_,_,_,md.ext e0⟩,MG.ofExt e0⟩
     ·skip
      refine qP [(25,.bool (decide (kd = (3 : Int))))] hF fun a hF => ?_
      refine cJ 25 hF (fun hc42 => ?_) fun hc42 => ?_
      ·skip
       refine cN ?_
       refine tK ?_
       refine cJ 25 hF (fun hx43 => ?_) fun hx43 => absurd hc42 hx43
       refine qS hF ?_
       refine tC 1 (.agg #[.int .i64 kd,.string s,.slice oa l.length oc,.int .i64 n,.slice ka kn kc]) (Calm.load (T := 26) (p := ⟨h.size,0,none⟩) (by kernel_rfl) (Loads.blk (vs := [.int .i64 kd,.string s,.slice oa l.length oc,.int .i64 n,.slice ka kn kc]) (by kernel_rfl) m3 rfl)) ?_
       obtain ⟨A,hA⟩ : ∃ A,askM M kd s = A := ⟨_,rfl⟩
       refine tG 2 (ask_r _ mb mp M L ck ea ec es (md.ext e0) kd n s oa l.length oc ka kn kc hsz kt hE A hA) ?_
       rintro _ h44 ⟨qa,qc,ia,ic,pa,pc,rfl,r1,r2,r3,r4,g⟩
       replace e0 := e0.ext g
       replace kt := kt.ext g
       replace m3 := Ext.blk g m3
       replace m8 := Ext.blk g m8
       replace sep := sep.up g.size
       clear g
       refine tW 3 0 (asc A.c (.slice qa A.b.length qc) A.sx A.se A.sh A.sg (.slice ia A.i.length ic) A.n A.y A.k (.slice pa A.p.length pc)) (asc (0 : Int) (.slice none 0 0) rb0 (0 : Int) false false (.slice none 0 0) (0 : Int) rb0 (0 : Int) (.slice none 0 0)) (asc A.c (.slice qa A.b.length qc) A.sx A.se A.sh A.sg (.slice ia A.i.length ic) A.n A.y A.k (.slice pa A.p.length pc)) m8 (fun h45 g46 m8' => ?_)
       replace e0 := e0.grew g46 (sep.low 0 rfl)
       replace kt := kt.grew g46 (sep.zero 0 rfl h0s)
       replace r1 := r1.put1 g46 m8 (by decide)
       replace r2 := r2.put1 g46 m8 (by decide)
       replace r3 := r3.put1 g46 m8 (by decide)
       replace m3 := Grew.blk g46 m3 ((sep.bp 1 0))
       replace sep := sep.up g46.size
       clear m8; have m8 := m8'; clear m8'
       refine sT [] fun a hF => ?_
       refine cR (yB (yT ?_))
       refine ret_ok [.cell 4 41] [.agg (asc A.c (.slice qa A.b.length qc) A.sx A.se A.sh A.sg (.slice ia A.i.length ic) A.n A.y A.k (.slice pa A.p.length pc)).toArray] (.agg (asc A.c (.slice qa A.b.length qc) A.sx A.se A.sh A.sg (.slice ia A.i.length ic) A.n A.y A.k (.slice pa A.p.length pc)).toArray) rfl hF ⟨⟨_,rfl,Loads.blk (vs := asc A.c (.slice qa A.b.length qc) A.sx A.se A.sh A.sg (.slice ia A.i.length ic) A.n A.y A.k (.slice pa A.p.length pc)) (by kernel_rfl) m8 rfl⟩,trivial⟩ rfl ?_
       rw [step_ask (by omega),hA]; exact ⟨⟨_,_,_,_,_,_,rfl,r1,r2,r3,r4⟩,⟨_,_,_,_,_,md.ext e0⟩,MG.ofExt e0⟩
      ·skip
       refine qP [(25,.bool (decide (kd = (16 : Int))))] hF fun a hF => ?_
       refine cJ 25 hF (fun hc47 => ?_) fun hc47 => ?_
       ·skip
        refine cN ?_
        refine tK ?_
        refine cJ 25 hF (fun hx48 => ?_) fun hx48 => absurd hc47 hx48
        refine qS hF ?_
        refine tC 1 (.agg #[.int .i64 kd,.string s,.slice oa l.length oc,.int .i64 n,.slice ka kn kc]) (Calm.load (T := 26) (p := ⟨h.size,0,none⟩) (by kernel_rfl) (Loads.blk (vs := [.int .i64 kd,.string s,.slice oa l.length oc,.int .i64 n,.slice ka kn kc]) (by kernel_rfl) m3 rfl)) ?_
        obtain ⟨A,hA⟩ : ∃ A,askM M kd s = A := ⟨_,rfl⟩
        refine tG 2 (ask_r _ mb mp M L ck ea ec es (md.ext e0) kd n s oa l.length oc ka kn kc hsz kt hE A hA) ?_
        rintro _ h49 ⟨qa,qc,ia,ic,pa,pc,rfl,r1,r2,r3,r4,g⟩
        replace e0 := e0.ext g
        replace kt := kt.ext g
        replace m3 := Ext.blk g m3
        replace m8 := Ext.blk g m8
        replace sep := sep.up g.size
        clear g
        refine tW 3 0 (asc A.c (.slice qa A.b.length qc) A.sx A.se A.sh A.sg (.slice ia A.i.length ic) A.n A.y A.k (.slice pa A.p.length pc)) (asc (0 : Int) (.slice none 0 0) rb0 (0 : Int) false false (.slice none 0 0) (0 : Int) rb0 (0 : Int) (.slice none 0 0)) (asc A.c (.slice qa A.b.length qc) A.sx A.se A.sh A.sg (.slice ia A.i.length ic) A.n A.y A.k (.slice pa A.p.length pc)) m8 (fun h50 g51 m8' => ?_)
        replace e0 := e0.grew g51 (sep.low 0 rfl)
        replace kt := kt.grew g51 (sep.zero 0 rfl h0s)
        replace r1 := r1.put1 g51 m8 (by decide)
        replace r2 := r2.put1 g51 m8 (by decide)
        replace r3 := r3.put1 g51 m8 (by decide)
        replace m3 := Grew.blk g51 m3 ((sep.bp 1 0))
        replace sep := sep.up g51.size
        clear m8; have m8 := m8'; clear m8'
        refine sT [] fun a hF => ?_
        refine cR (yB (yT ?_))
        refine ret_ok [.cell 4 41] [.agg (asc A.c (.slice qa A.b.length qc) A.sx A.se A.sh A.sg (.slice ia A.i.length ic) A.n A.y A.k (.slice pa A.p.length pc)).toArray] (.agg (asc A.c (.slice qa A.b.length qc) A.sx A.se A.sh A.sg (.slice ia A.i.length ic) A.n A.y A.k (.slice pa A.p.length pc)).toArray) rfl hF ⟨⟨_,rfl,Loads.blk (vs := asc A.c (.slice qa A.b.length qc) A.sx A.se A.sh A.sg (.slice ia A.i.length ic) A.n A.y A.k (.slice pa A.p.length pc)) (by kernel_rfl) m8 rfl⟩,trivial⟩ rfl ?_
        rw [step_ask (by omega),hA]; exact ⟨⟨_,_,_,_,_,_,rfl,r1,r2,r3,r4⟩,⟨_,_,_,_,_,md.ext e0⟩,MG.ofExt e0⟩
       ·skip
        refine rP [(25,.bool (decide (kd = (15 : Int))))] hF fun a hF => ?_
        refine tK ?_
        refine cJ 25 hF (fun hc52 => ?_) fun hc52 => ?_
        ·skip
         refine qS hF ?_
         refine tC 1 (.agg #[.int .i64 kd,.string s,.slice oa l.length oc,.int .i64 n,.slice ka kn kc]) (Calm.load (T := 26) (p := ⟨h.size,0,none⟩) (by kernel_rfl) (Loads.blk (vs := [.int .i64 kd,.string s,.slice oa l.length oc,.int .i64 n,.slice ka kn kc]) (by kernel_rfl) m3 rfl)) ?_
         obtain ⟨A,hA⟩ : ∃ A,askM M kd s = A := ⟨_,rfl⟩
         refine tG 2 (ask_r _ mb mp M L ck ea ec es (md.ext e0) kd n s oa l.length oc ka kn kc hsz kt hE A hA) ?_
         rintro _ h53 ⟨qa,qc,ia,ic,pa,pc,rfl,r1,r2,r3,r4,g⟩
         replace e0 := e0.ext g
         replace kt := kt.ext g
         replace m3 := Ext.blk g m3
         replace m8 := Ext.blk g m8
         replace sep := sep.up g.size
         clear g
         refine tW 3 0 (asc A.c (.slice qa A.b.length qc) A.sx A.se A.sh A.sg (.slice ia A.i.length ic) A.n A.y A.k (.slice pa A.p.length pc)) (asc (0 : Int) (.slice none 0 0) rb0 (0 : Int) false false (.slice none 0 0) (0 : Int) rb0 (0 : Int) (.slice none 0 0)) (asc A.c (.slice qa A.b.length qc) A.sx A.se A.sh A.sg (.slice ia A.i.length ic) A.n A.y A.k (.slice pa A.p.length pc)) m8 (fun h54 g55 m8' => ?_)
         replace e0 := e0.grew g55 (sep.low 0 rfl)
         replace kt := kt.grew g55 (sep.zero 0 rfl h0s)
         replace r1 := r1.put1 g55 m8 (by decide)
         replace r2 := r2.put1 g55 m8 (by decide)
         replace r3 := r3.put1 g55 m8 (by decide)
         replace m3 := Grew.blk g55 m3 ((sep.bp 1 0))
         replace sep := sep.up g55.size
         clear m8; have m8 := m8'; clear m8'
         refine sT [] fun a hF => ?_
         refine cR (yB (yT ?_))
         refine ret_ok [.cell 4 41] [.agg (asc A.c (.slice qa A.b.length qc) A.sx A.se A.sh A.sg (.slice ia A.i.length ic) A.n A.y A.k (.slice pa A.p.length pc)).toArray] (.agg (asc A.c (.slice qa A.b.length qc) A.sx A.se A.sh A.sg (.slice ia A.i.length ic) A.n A.y A.k (.slice pa A.p.length pc)).toArray) rfl hF ⟨⟨_,rfl,Loads.blk (vs := asc A.c (.slice qa A.b.length qc) A.sx A.se A.sh A.sg (.slice ia A.i.length ic) A.n A.y A.k (.slice pa A.p.length pc)) (by kernel_rfl) m8 rfl⟩,trivial⟩ rfl ?_
         rw [step_ask (by omega),hA]; exact ⟨⟨_,_,_,_,_,_,rfl,r1,r2,r3,r4⟩,⟨_,_,_,_,_,md.ext e0⟩,MG.ofExt e0⟩
        ·skip
         refine cS ?_
         refine qP [(33,.bool (decide (kd = (7 : Int))))] hF fun a hF => ?_
         refine cJ 33 hF (fun hc56 => ?_) fun hc56 => ?_
         ·skip
          refine cN ?_
          refine tK ?_
          refine cJ 33 hF (fun hx57 => ?_) fun hx57 => absurd hc56 hx57
          refine rS hF ?_
          refine tB 2 3 0 (.int .i64 kd) m3 ?_
          refine t1 3 (.bool false) (.bool (kd == (8 : Int))) (congrArg Value.bool (beq_eq_false_iff_ne.2 (by omega))) ?_
          refine tG 4 (ids_all _ mb mp M L ck ea ec es (md.ext e0) hE) ?_
          rintro _ h60 ⟨ad58,cap59,rfl,ownx,hge,g⟩
          have hlo := e0.size
          have sepo := sep
          replace e0 := e0.ext g
          replace kt := kt.ext g
          replace m3 := Ext.blk g m3
          replace m8 := Ext.blk g m8
          replace sep := sep.up g.size
          replace sep := sepo.cons (x := ad58.map (fun (x : Addr) => x.block)) g.size hlo (fun k e => ⟨hge k e,ownx.lt (by rw [blkOf_slice]; exact e)⟩)
          have own_x : Own h60 (.slice ad58 ((idsM M).length) cap59) 9 ((idsM M).length) 1 ((idsM M).map Value.string) := ownx; clear ownx sepo hlo hge g
          refine tW 6 39 ([.slice ad58 ((idsM M).length) cap59]) (asc (0 : Int) (.slice none 0 0) rb0 (0 : Int) false false (.slice none 0 0) (0 : Int) rb0 (0 : Int) (.slice none 0 0)) (asc (0 : Int) (.slice none 0 0) rb0 (0 : Int) false false (.slice ad58 ((idsM M).length) cap59) (0 : Int) rb0 (0 : Int) (.slice none 0 0)) m8 (fun h61 g62 m8' => ?_)
          replace e0 := e0.grew g62 (sep.low 1 rfl)
          replace kt := kt.grew g62 (sep.zero 1 rfl h0s)
          replace own_x := own_x.kept g62 (by rw [blkOf_slice]; exact (sep.ap 0 1))
          replace m3 := Grew.blk g62 m3 ((sep.bp 2 1))
          replace sep := sep.up g62.size
          clear m8; have m8 := m8'; clear m8'
          refine sE [] fun a hF => ?_
          refine bK ?_
          refine tK ?_
          refine qS hF ?_
          refine tC 0 (.agg (asc (0 : Int) (.slice none 0 0) rb0 (0 : Int) false false (.slice ad58 ((idsM M).length) cap59) (0 : Int) rb0 (0 : Int) (.slice none 0 0)).toArray) (Calm.load (T := 41) (p := ⟨h1.size,0,none⟩) (by kernel_rfl) (Loads.blk (vs := asc (0 : Int) (.slice none 0 0) rb0 (0 : Int) false false (.slice ad58 ((idsM M).length) cap59) (0 : Int) rb0 (0 : Int) (.slice none 0 0)) (by kernel_rfl) m8 rfl)) ?_
          refine tW 1 0 (asc (0 : Int) (.slice none 0 0) rb0 (0 : Int) false false (.slice ad58 ((idsM M).length) cap59) (0 : Int) rb0 (0 : Int) (.slice none 0 0)) (asc (0 : Int) (.slice none 0 0) rb0 (0 : Int) false false (.slice ad58 ((idsM M).length) cap59) (0 : Int) rb0 (0 : Int) (.slice none 0 0)) (asc (0 : Int) (.slice none 0 0) rb0 (0 : Int) false false (.slice ad58 ((idsM M).length) cap59) (0 : Int) rb0 (0 : Int) (.slice none 0 0)) m8 (fun h63 g64 m8' => ?_)
          replace e0 := e0.grew g64 (sep.low 1 rfl)
          replace kt := kt.grew g64 (sep.zero 1 rfl h0s)
          replace own_x := own_x.kept g64 (by rw [blkOf_slice]; exact (sep.ap 0 1))
          replace m3 := Grew.blk g64 m3 ((sep.bp 2 1))
          replace sep := sep.up g64.size
          clear m8; have m8 := m8'; clear m8'
          refine sT [] fun a hF => ?_
          refine cR ?_
          refine ret_ok [.cell 4 41] [.agg (asc (0 : Int) (.slice none 0 0) rb0 (0 : Int) false false (.slice ad58 ((idsM M).length) cap59) (0 : Int) rb0 (0 : Int) (.slice none 0 0)).toArray] (.agg (asc (0 : Int) (.slice none 0 0) rb0 (0 : Int) false false (.slice ad58 ((idsM M).length) cap59) (0 : Int) rb0 (0 : Int) (.slice none 0 0)).toArray) rfl hF ⟨⟨_,rfl,Loads.blk (vs := asc (0 : Int) (.slice none 0 0) rb0 (0 : Int) false false (.slice ad58 ((idsM M).length) cap59) (0 : Int) rb0 (0 : Int) (.slice none 0 0)) (by kernel_rfl) m8 rfl⟩,trivial⟩ rfl ?_
          rw [step_ids hc56]; exact ⟨⟨_,_,_,_,_,_,rfl,RowE.nil _ _,RowE.of own_x (by decide),RowE.nil _ _,All32.nil⟩,⟨_,_,_,_,_,md.ext e0⟩,MG.ofExt e0⟩
         ·skip
          refine rP [(33,.bool (decide (kd = (8 : Int))))] hF fun a hF => ?_
          refine tK ?_
          refine cJ 33 hF (fun hc65 => ?_) fun hc65 => ?_
          ·skip
           refine rS hF ?_
           refine tB 2 3 0 (.int .i64 kd) m3 ?_
           refine t1 3 (.bool true) (.bool (kd == (8 : Int))) (congrArg Value.bool (beq_iff_eq.2 (by omega))) ?_
           refine tG 4 (ids_due _ mb mp M L ck ea ec es (md.ext e0) hE) ?_
           rintro _ h68 ⟨ad66,cap67,rfl,ownx,hge,g⟩
           have hlo := e0.size
           have sepo := sep
           replace e0 := e0.ext g
           replace kt := kt.ext g
           replace m3 := Ext.blk g m3
           replace m8 := Ext.blk g m8
           replace sep := sep.up g.size
           replace sep := sepo.cons (x := ad66.map (fun (x : Addr) => x.block)) g.size hlo (fun k e => ⟨hge k e,ownx.lt (by rw [blkOf_slice]; exact e)⟩)
           have own_x : Own h68 (.slice ad66 ((dueM M).length) cap67) 9 ((dueM M).length) 1 ((dueM M).map Value.string) := ownx; clear ownx sepo hlo hge g
           refine tW 6 39 ([.slice ad66 ((dueM M).length) cap67]) (asc (0 : Int) (.slice none 0 0) rb0 (0 : Int) false false (.slice none 0 0) (0 : Int) rb0 (0 : Int) (.slice none 0 0)) (asc (0 : Int) (.slice none 0 0) rb0 (0 : Int) false false (.slice ad66 ((dueM M).length) cap67) (0 : Int) rb0 (0 : Int) (.slice none 0 0)) m8 (fun h69 g70 m8' => ?_)
           replace e0 := e0.grew g70 (sep.low 1 rfl)
           replace kt := kt.grew g70 (sep.zero 1 rfl h0s)
           replace own_x := own_x.kept g70 (by rw [blkOf_slice]; exact (sep.ap 0 1))
           replace m3 := Grew.blk g70 m3 ((sep.bp 2 1))
           replace sep := sep.up g70.size
           clear m8; have m8 := m8'; clear m8'
           refine sE [] fun a hF => ?_
           refine bK ?_
           refine tK ?_
           refine qS hF ?_
           refine tC 0 (.agg (asc (0 : Int) (.slice none 0 0) rb0 (0 : Int) false false (.slice ad66 ((dueM M).length) cap67) (0 : Int) rb0 (0 : Int) (.slice none 0 0)).toArray) (Calm.load (T := 41) (p := ⟨h1.size,0,none⟩) (by kernel_rfl) (Loads.blk (vs := asc (0 : Int) (.slice none 0 0) rb0 (0 : Int) false false (.slice ad66 ((dueM M).length) cap67) (0 : Int) rb0 (0 : Int) (.slice none 0 0)) (by kernel_rfl) m8 rfl)) ?_
           refine tW 1 0 (asc (0 : Int) (.slice none 0 0) rb0 (0 : Int) false false (.slice ad66 ((dueM M).length) cap67) (0 : Int) rb0 (0 : Int) (.slice none 0 0)) (asc (0 : Int) (.slice none 0 0) rb0 (0 : Int) false false (.slice ad66 ((dueM M).length) cap67) (0 : Int) rb0 (0 : Int) (.slice none 0 0)) (asc (0 : Int) (.slice none 0 0) rb0 (0 : Int) false false (.slice ad66 ((dueM M).length) cap67) (0 : Int) rb0 (0 : Int) (.slice none 0 0)) m8 (fun h71 g72 m8' => ?_)
           replace e0 := e0.grew g72 (sep.low 1 rfl)
           replace kt := kt.grew g72 (sep.zero 1 rfl h0s)
           replace own_x := own_x.kept g72 (by rw [blkOf_slice]; exact (sep.ap 0 1))
           replace m3 := Grew.blk g72 m3 ((sep.bp 2 1))
           replace sep := sep.up g72.size
           clear m8; have m8 := m8'; clear m8'
           refine sT [] fun a hF => ?_
           refine cR ?_
           refine ret_ok [.cell 4 41] [.agg (asc (0 : Int) (.slice none 0 0) rb0 (0 : Int) false false (.slice ad66 ((dueM M).length) cap67) (0 : Int) rb0 (0 : Int) (.slice none 0 0)).toArray] (.agg (asc (0 : Int) (.slice none 0 0) rb0 (0 : Int) false false (.slice ad66 ((dueM M).length) cap67) (0 : Int) rb0 (0 : Int) (.slice none 0 0)).toArray) rfl hF ⟨⟨_,rfl,Loads.blk (vs := asc (0 : Int) (.slice none 0 0) rb0 (0 : Int) false false (.slice ad66 ((dueM M).length) cap67) (0 : Int) rb0 (0 : Int) (.slice none 0 0)) (by kernel_rfl) m8 rfl⟩,trivial⟩ rfl ?_
           rw [step_due hc65]; exact ⟨⟨_,_,_,_,_,_,rfl,RowE.nil _ _,RowE.of own_x (by decide),RowE.nil _ _,All32.nil⟩,⟨_,_,_,_,_,md.ext e0⟩,MG.ofExt e0⟩
          ·skip
           refine qP [(42,.bool (decide (kd = (9 : Int))))] hF fun a hF => ?_
           refine cJ 42 hF (fun hc73 => ?_) fun hc73 => ?_
           ·skip
            refine cD [0,1,3,7,15,0,32,96,255,511,1023] 18 mixed hF ?_
            refine mP 7 [0,1,2] [pV mb,pV mb,.pointer (some ⟨mb,1,none⟩)] ?_
            refine mL 15 8 3 (.slice ea M.E.length ec) (Calm.load (T := 55) (p := ⟨mb,1,none⟩) (by kernel_rfl) (Loads.one (k := 1) (by kernel_rfl) ((hcell_blk (e0.blk hm)).trans rfl))) ?_
            refine mP 63 [4,5] [nV M.E.length,pV mb] ?_
            refine SimK.eff (i := 6) (D' := 127) (X' := 96) (by kernel_rfl) (by kernel_rfl) (by kernel_rfl) [3] (by kernel_rfl) (Does.call (f := 20) (args := #[.pointer (some ⟨mb,0,none⟩)]) (by kernel_rfl) (leaves_sat _ mb mp M L ck ea ec es (md.ext e0) kt hE)) ?_
            rintro _ h76 ⟨ad74,cap75,rfl,ownx,hge,g⟩
            have hlo := e0.size
            have sepo := sep
            replace e0 := e0.ext g
            replace kt := kt.ext g
            replace m3 := Ext.blk g m3
            replace m8 := Ext.blk g m8
            replace sep := sep.up g.size
            replace sep := sepo.cons (x := ad74.map (fun (x : Addr) => x.block)) g.size hlo (fun k e => ⟨hge k e,ownx.lt (by rw [blkOf_slice]; exact e)⟩)
            have own_l : Own h76 (.slice ad74 M.E.length cap75) 33 M.E.length 32 (hcs (ledH M.E)) := ownx; clear ownx sepo hlo hge g
            refine ⟨?_,?_⟩
            ·intro j hj
             simp only [List.mem_cons,List.not_mem_nil,or_false] at hj
             subst hj
             exact goodOf (Calm.load (T := 55) (p := ⟨mb,1,none⟩) (by kernel_rfl) (Loads.one (k := 1) (by kernel_rfl) ((hcell_blk (e0.blk hm)).trans rfl)))
            refine SimK.eff (i := 7) (D' := 255) (X' := 224) (by kernel_rfl) (by kernel_rfl) (by kernel_rfl) [3] (by kernel_rfl) (Does.call (f := 19) (args := #[.slice ad74 M.E.length cap75]) (by kernel_rfl) (rroot_r _ (ledH M.E) _ _ M.E.length (HR.of own_l (ledH_32 _)) (by omega) kt)) ?_
            rintro _ h77 ⟨rfl,g⟩
            replace e0 := e0.ext g
            replace kt := kt.ext g
            replace own_l := own_l.ext g
            replace m3 := Ext.blk g m3
            replace m8 := Ext.blk g m8
            replace sep := sep.up g.size
            refine ⟨?_,?_⟩
            ·intro j hj
             simp only [List.mem_cons,List.not_mem_nil,or_false] at hj
             subst hj
             exact goodOf (Calm.load (T := 55) (p := ⟨mb,1,none⟩) (by kernel_rfl) (Loads.one (k := 1) (by kernel_rfl) ((hcell_blk (e0.blk hm)).trans rfl)))
            clear g
            refine mP 1023 [8,9] [.agg (hdc ((M.E.length : Nat) : Int) (rbh (root (ledH M.E)))).toArray,.pointer (some ⟨h1.size,40,none⟩)] ?_
            refine SimK.eff0 (i := 10) (D' := 2047) (X' := 2047) (by kernel_rfl) (by kernel_rfl) (by kernel_rfl) (by kernel_rfl) (Does.store (b := h1.size) (off := 40) (vs := hdc ((M.E.length : Nat) : Int) (rbh (root (ledH M.E)))) (l := asc (0 : Int) (.slice none 0 0) rb0 (0 : Int) false false (.slice none 0 0) (0 : Int) rb0 (0 : Int) (.slice none 0 0)) (by kernel_rfl) m8 (of_decide_eq_true (by kernel_rfl)) (List.all_eq_true.1 (by kernel_rfl))) ?_
            rintro _ h78 ⟨rfl,hh⟩
            have g79 : Grew (some (h1.size)) h77 h78 := hput_gr hh
            replace m8 : h78[h1.size]? = some (.cells (asc (0 : Int) (.slice none 0 0) rb0 (0 : Int) false false (.slice none 0 0) ((M.E.length : Nat) : Int) (rbh (root (ledH M.E))) (0 : Int) (.slice none 0 0)).toArray 41) := hput_at (off := 40) (vs := hdc ((M.E.length : Nat) : Int) (rbh (root (ledH M.E)))) (l := (asc (0 : Int) (.slice none 0 0) rb0 (0 : Int) false false (.slice none 0 0) (0 : Int) rb0 (0 : Int) (.slice none 0 0))) hh (by kernel_rfl) m8
            clear hh
            replace e0 := e0.grew g79 (sep.low 1 rfl)
            replace kt := kt.grew g79 (sep.zero 1 rfl h0s)
            replace own_l := own_l.kept g79 (by rw [blkOf_slice]; exact (sep.ap 0 1))
            replace m3 := Grew.blk g79 m3 ((sep.bp 2 1))
            replace sep := sep.up g79.size
            refine mE [] fun a hF => ?_
            refine bK ?_
            refine tK ?_
            refine qS hF ?_
            refine tC 0 (.agg (asc (0 : Int) (.slice none 0 0) rb0 (0 : Int) false false (.slice none 0 0) ((M.E.length : Nat) : Int) (rbh (root (ledH M.E))) (0 : Int) (.slice none 0 0)).toArray) (Calm.load (T := 41) (p := ⟨h1.size,0,none⟩) (by kernel_rfl) (Loads.blk (vs := asc (0 : Int) (.slice none 0 0) rb0 (0 : Int) false false (.slice none 0 0) ((M.E.length : Nat) : Int) (rbh (root (ledH M.E))) (0 : Int) (.slice none 0 0)) (by kernel_rfl) m8 rfl)) ?_
            refine tW 1 0 (asc (0 : Int) (.slice none 0 0) rb0 (0 : Int) false false (.slice none 0 0) ((M.E.length : Nat) : Int) (rbh (root (ledH M.E))) (0 : Int) (.slice none 0 0)) (asc (0 : Int) (.slice none 0 0) rb0 (0 : Int) false false (.slice none 0 0) ((M.E.length : Nat) : Int) (rbh (root (ledH M.E))) (0 : Int) (.slice none 0 0)) (asc (0 : Int) (.slice none 0 0) rb0 (0 : Int) false false (.slice none 0 0) ((M.E.length : Nat) : Int) (rbh (root (ledH M.E))) (0 : Int) (.slice none 0 0)) m8 (fun h80 g81 m8' => ?_)
            replace e0 := e0.grew g81 (sep.low 1 rfl)
            replace kt := kt.grew g81 (sep.zero 1 rfl h0s)
            replace own_l := own_l.kept g81 (by rw [blkOf_slice]; exact (sep.ap 0 1))
            replace m3 := Grew.blk g81 m3 ((sep.bp 2 1))
            replace sep := sep.up g81.size
            clear m8; have m8 := m8'; clear m8'
            refine sT [] fun a hF => ?_
            refine cR ?_
            refine ret_ok [.cell 4 41] [.agg (asc (0 : Int) (.slice none 0 0) rb0 (0 : Int) false false (.slice none 0 0) ((M.E.length : Nat) : Int) (rbh (root (ledH M.E))) (0 : Int) (.slice none 0 0)).toArray] (.agg (asc (0 : Int) (.slice none 0 0) rb0 (0 : Int) false false (.slice none 0 0) ((M.E.length : Nat) : Int) (rbh (root (ledH M.E))) (0 : Int) (.slice none 0 0)).toArray) rfl hF ⟨⟨_,rfl,Loads.blk (vs := asc (0 : Int) (.slice none 0 0) rb0 (0 : Int) false false (.slice none 0 0) ((M.E.length : Nat) : Int) (rbh (root (ledH M.E))) (0 : Int) (.slice none 0 0)) (by kernel_rfl) m8 rfl⟩,trivial⟩ rfl ?_
            rw [step_head hc73]; exact ⟨⟨_,_,_,_,_,_,rfl,RowE.nil _ _,RowE.nil _ _,RowE.nil _ _,All32.nil⟩,⟨_,_,_,_,_,md.ext e0⟩,MG.ofExt e0⟩
           ·skip
            refine qP [(54,.bool (decide (kd = (10 : Int))))] hF fun a hF => ?_
            refine cJ 54 hF (fun hc82 => ?_) fun hc82 => ?_
            ·skip
             refine cD [0,1,3,7,0,16,48,0,128,384,896,1920,4080,8191,16383,32767,65535] 20 mixed hF ?_
             refine mP 7 [0,1,2] [pV mb,pV mb,.pointer (some ⟨mb,2,none⟩)] ?_
             refine mL 15 8 3 (.int .i64 M.t) (Calm.load (T := 3) (p := ⟨mb,2,none⟩) (by kernel_rfl) (Loads.one (k := 1) (by kernel_rfl) ((hcell_blk (e0.blk hm)).trans rfl))) ?_
             refine mP 31 [4] [.pointer (some ⟨h.size,3,none⟩)] ?_
             refine mL 63 40 5 (.int .i64 n) (Calm.load (T := 3) (p := ⟨h.size,3,none⟩) (by kernel_rfl) (Loads.one (k := 1) (by kernel_rfl) ((hcell_blk m3).trans rfl))) ?_
             refine m1 127 6 (.int .i64 (max 0 n)) (.int .i64 (if n > (0 : Int) then n else (0 : Int))) (congrArg (Value.int .i64) (by omega)) ?_
             refine mP 1023 [7,8,9] [pV mb,pV mb,.pointer (some ⟨mb,2,none⟩)] ?_
             refine mL 2047 1064 10 (.int .i64 M.t) (Calm.load (T := 3) (p := ⟨mb,2,none⟩) (by kernel_rfl) (Loads.one (k := 1) (by kernel_rfl) ((hcell_blk (e0.blk hm)).trans rfl))) ?_
             refine m1 4095 11 (.int .i64 (1099511627776 - M.t)) (.int .i64 (IntKind.i64.wrap ((1099511627776 : Int) - M.t))) (congrArg (Value.int .i64) (w64 (by have := md.t0; have := md.t1; omega) (by have := md.t0; have := md.t1; omega))) ?_
             refine m1 8191 12 (.int .i64 (min (max 0 n) (1099511627776 - M.t))) (.int .i64 (if (1099511627776 - M.t) < (max 0 n) then (1099511627776 - M.t) else (max 0 n))) (congrArg (Value.int .i64) (by have := md.t0; have := md.t1; omega)) ?_
             refine m1 16383 13 (.int .i64 (M.t + min (max 0 n) (1099511627776 - M.t))) (.int .i64 (IntKind.i64.wrap (M.t + min (max 0 n) (1099511627776 - M.t)))) (congrArg (Value.int .i64) (w64 (by have := md.t0; have := md.t1; omega) (by have := md.t0; have := md.t1; omega))) ?_
             refine mP 65535 [14,15] [pV mb,.pointer (some ⟨mb,2,none⟩)] ?_
             have hmo := e0.blk hm
             refine SimK.eff0 (i := 16) (D' := 131071) (X' := 131071) (by kernel_rfl) (by kernel_rfl) (by kernel_rfl) (by kernel_rfl) (Does.store (b := mb) (off := 2) (vs := [.int .i64 (M.t + min (max 0 n) (1099511627776 - M.t))]) (l := [.map (some mp),.slice ea M.E.length ec,.int .i64 M.t]) (by kernel_rfl) hmo (of_decide_eq_true (by kernel_rfl)) (List.all_eq_true.1 (by kernel_rfl))) ?_
             rintro _ h83 ⟨rfl,hh⟩
             have gt := hput_gr hh
             have hmn : h83[mb]? = some (.cells ([.map (some mp),.slice ea M.E.length ec,.int .i64 (M.t + min (max 0 n) (1099511627776 - M.t))]).toArray 57) := hput_at (off := 2) (vs := [.int .i64 (M.t + min (max 0 n) (1099511627776 - M.t))]) (l := [.map (some mp),.slice ea M.E.length ec,.int .i64 M.t]) hh (by kernel_rfl) hmo
             have ht0 := md.t0; have ht1 := md.t1
             have hmod : Mod h83 mb mp ⟨M.f,M.E,(M.t + min (max 0 n) (1099511627776 - M.t))⟩ := ⟨_,_,_,_,_,(md.ext e0).tick gt hmn (by omega) (by omega)⟩
             have gm := MG.ofB (p := mp) gt
             have gk : MG mb mp h h83 := (MG.ofExt e0).trans gm
             have hbm := blk_lt hm; have hbp := blk_lt hp
             replace m8 := gm.blk m8 (by omega) (by omega)
             replace sep := sep.up gm.1
             refine mE [] fun a hF => ?_
             refine bK ?_
             refine tK ?_
             refine qS hF ?_
             refine tC 0 (.agg (asc (0 : Int) (.slice none 0 0) rb0 (0 : Int) false false (.slice none 0 0) (0 : Int) rb0 (0 : Int) (.slice none 0 0)).toArray) (Calm.load (T := 41) (p := ⟨h1.size,0,none⟩) (by kernel_rfl) (Loads.blk (vs := asc (0 : Int) (.slice none 0 0) rb0 (0 : Int) false false (.slice none 0 0) (0 : Int) rb0 (0 : Int) (.slice none 0 0)) (by kernel_rfl) m8 rfl)) ?_
             refine tW 1 0 (asc (0 : Int) (.slice none 0 0) rb0 (0 : Int) false false (.slice none 0 0) (0 : Int) rb0 (0 : Int) (.slice none 0 0)) (asc (0 : Int) (.slice none 0 0) rb0 (0 : Int) false false (.slice none 0 0) (0 : Int) rb0 (0 : Int) (.slice none 0 0)) (asc (0 : Int) (.slice none 0 0) rb0 (0 : Int) false false (.slice none 0 0) (0 : Int) rb0 (0 : Int) (.slice none 0 0)) m8 (fun h84 g85 m8' => ?_)
             replace hmod := hmod.put1 g85 m8 (by decide) (by omega)
             replace gk := gk.ofO g85 (fun x e => by cases e; omega)
             replace sep := sep.up g85.size
             clear m8; have m8 := m8'; clear m8'
             refine sT [] fun a hF => ?_
             refine cR ?_
             refine ret_ok [.cell 4 41] [.agg (asc (0 : Int) (.slice none 0 0) rb0 (0 : Int) false false (.slice none 0 0) (0 : Int) rb0 (0 : Int) (.slice none 0 0)).toArray] (.agg (asc (0 : Int) (.slice none 0 0) rb0 (0 : Int) false false (.slice none 0 0) (0 : Int) rb0 (0 : Int) (.slice none 0 0)).toArray) rfl hF ⟨⟨_,rfl,Loads.blk (vs := asc (0 : Int) (.slice none 0 0) rb0 (0 : Int) false false (.slice none 0 0) (0 : Int) rb0 (0 : Int) (.slice none 0 0)) (by kernel_rfl) m8 rfl⟩,trivial⟩ rfl ?_
             rw [step_tick hc82]; exact ⟨ansC _ 0,hmod,gk⟩
            ·skip
             refine cS ?_
             refine qP [(72,.bool (decide (kd = (11 : Int))))] hF fun a hF => ?_
             refine cJ 72 hF (fun hc86 => ?_) fun hc86 => ?_
             ·skip
              refine cN ?_
              refine tK ?_
              refine cJ 72 hF (fun hx87 => ?_) fun hx87 => absurd hc86 hx87
              refine cN ?_
              refine bK ?_
              refine tK ?_
              refine qS hF ?_
              refine tC 0 (.agg (asc (0 : Int) (.slice none 0 0) rb0 (0 : Int) false false (.slice none 0 0) (0 : Int) rb0 (0 : Int) (.slice none 0 0)).toArray) (Calm.load (T := 41) (p := ⟨h1.size,0,none⟩) (by kernel_rfl) (Loads.blk (vs := asc (0 : Int) (.slice none 0 0) rb0 (0 : Int) false false (.slice none 0 0) (0 : Int) rb0 (0 : Int) (.slice none 0 0)) (by kernel_rfl) m8 rfl)) ?_
              refine tW 1 0 (asc (0 : Int) (.slice none 0 0) rb0 (0 : Int) false false (.slice none 0 0) (0 : Int) rb0 (0 : Int) (.slice none 0 0)) (asc (0 : Int) (.slice none 0 0) rb0 (0 : Int) false false (.slice none 0 0) (0 : Int) rb0 (0 : Int) (.slice none 0 0)) (asc (0 : Int) (.slice none 0 0) rb0 (0 : Int) false false (.slice none 0 0) (0 : Int) rb0 (0 : Int) (.slice none 0 0)) m8 (fun h88 g89 m8' => ?_)
              replace e0 := e0.grew g89 (sep.low 0 rfl)
              replace kt := kt.grew g89 (sep.zero 0 rfl h0s)
              replace m3 := Grew.blk g89 m3 ((sep.bp 1 0))
              replace sep := sep.up g89.size
              clear m8; have m8 := m8'; clear m8'
              refine sT [] fun a hF => ?_
              refine cR ?_
              refine ret_ok [.cell 4 41] [.agg (asc (0 : Int) (.slice none 0 0) rb0 (0 : Int) false false (.slice none 0 0) (0 : Int) rb0 (0 : Int) (.slice none 0 0)).toArray] (.agg (asc (0 : Int) (.slice none 0 0) rb0 (0 : Int) false false (.slice none 0 0) (0 : Int) rb0 (0 : Int) (.slice none 0 0)).toArray) rfl hF ⟨⟨_,rfl,Loads.blk (vs := asc (0 : Int) (.slice none 0 0) rb0 (0 : Int) false false (.slice none 0 0) (0 : Int) rb0 (0 : Int) (.slice none 0 0)) (by kernel_rfl) m8 rfl⟩,trivial⟩ rfl ?_
              rw [step_still (by omega)]; exact ⟨ansC _ 0,⟨_,_,_,_,_,md.ext e0⟩,MG.ofExt e0⟩
             ·skip
              refine qP [(72,.bool (decide (kd = (12 : Int))))] hF fun a hF => ?_
              refine cJ 72 hF (fun hc90 => ?_) fun hc90 => ?_
              ·skip
               refine cN ?_
               refine tK ?_
               refine cJ 72 hF (fun hx91 => ?_) fun hx91 => absurd hc90 hx91
               refine cN ?_
               refine bK ?_
               refine tK ?_
               refine qS hF ?_
               refine tC 0 (.agg (asc (0 : Int) (.slice none 0 0) rb0 (0 : Int) false false (.slice none 0 0) (0 : Int) rb0 (0 : Int) (.slice none 0 0)).toArray) (Calm.load (T := 41) (p := ⟨h1.size,0,none⟩) (by kernel_rfl) (Loads.blk (vs := asc (0 : Int) (.slice none 0 0) rb0 (0 : Int) false false (.slice none 0 0) (0 : Int) rb0 (0 : Int) (.slice none 0 0)) (by kernel_rfl) m8 rfl)) ?_
               refine tW 1 0 (asc (0 : Int) (.slice none 0 0) rb0 (0 : Int) false false (.slice none 0 0) (0 : Int) rb0 (0 : Int) (.slice none 0 0)) (asc (0 : Int) (.slice none 0 0) rb0 (0 : Int) false false (.slice none 0 0) (0 : Int) rb0 (0 : Int) (.slice none 0 0)) (asc (0 : Int) (.slice none 0 0) rb0 (0 : Int) false false (.slice none 0 0) (0 : Int) rb0 (0 : Int) (.slice none 0 0)) m8 (fun h92 g93 m8' => ?_)
               replace e0 := e0.grew g93 (sep.low 0 rfl)
               replace kt := kt.grew g93 (sep.zero 0 rfl h0s)
               replace m3 := Grew.blk g93 m3 ((sep.bp 1 0))
               replace sep := sep.up g93.size
               clear m8; have m8 := m8'; clear m8'
               refine sT [] fun a hF => ?_
               refine cR ?_
               refine ret_ok [.cell 4 41] [.agg (asc (0 : Int) (.slice none 0 0) rb0 (0 : Int) false false (.slice none 0 0) (0 : Int) rb0 (0 : Int) (.slice none 0 0)).toArray] (.agg (asc (0 : Int) (.slice none 0 0) rb0 (0 : Int) false false (.slice none 0 0) (0 : Int) rb0 (0 : Int) (.slice none 0 0)).toArray) rfl hF ⟨⟨_,rfl,Loads.blk (vs := asc (0 : Int) (.slice none 0 0) rb0 (0 : Int) false false (.slice none 0 0) (0 : Int) rb0 (0 : Int) (.slice none 0 0)) (by kernel_rfl) m8 rfl⟩,trivial⟩ rfl ?_
               rw [step_still (by omega)]; exact ⟨ansC _ 0,⟨_,_,_,_,_,md.ext e0⟩,MG.ofExt e0⟩
              ·skip
               refine qP [(72,.bool (decide (kd = (13 : Int))))] hF fun a hF => ?_
               refine cJ 72 hF (fun hc94 => ?_) fun hc94 => ?_
               ·skip
                refine cN ?_
                refine tK ?_
                refine cJ 72 hF (fun hx95 => ?_) fun hx95 => absurd hc94 hx95
                refine cN ?_
                refine bK ?_
                refine tK ?_
                refine qS hF ?_
                refine tC 0 (.agg (asc (0 : Int) (.slice none 0 0) rb0 (0 : Int) false false (.slice none 0 0) (0 : Int) rb0 (0 : Int) (.slice none 0 0)).toArray) (Calm.load (T := 41) (p := ⟨h1.size,0,none⟩) (by kernel_rfl) (Loads.blk (vs := asc (0 : Int) (.slice none 0 0) rb0 (0 : Int) false false (.slice none 0 0) (0 : Int) rb0 (0 : Int) (.slice none 0 0)) (by kernel_rfl) m8 rfl)) ?_
                refine tW 1 0 (asc (0 : Int) (.slice none 0 0) rb0 (0 : Int) false false (.slice none 0 0) (0 : Int) rb0 (0 : Int) (.slice none 0 0)) (asc (0 : Int) (.slice none 0 0) rb0 (0 : Int) false false (.slice none 0 0) (0 : Int) rb0 (0 : Int) (.slice none 0 0)) (asc (0 : Int) (.slice none 0 0) rb0 (0 : Int) false false (.slice none 0 0) (0 : Int) rb0 (0 : Int) (.slice none 0 0)) m8 (fun h96 g97 m8' => ?_)
                replace e0 := e0.grew g97 (sep.low 0 rfl)
                replace kt := kt.grew g97 (sep.zero 0 rfl h0s)
                replace m3 := Grew.blk g97 m3 ((sep.bp 1 0))
                replace sep := sep.up g97.size
                clear m8; have m8 := m8'; clear m8'
                refine sT [] fun a hF => ?_
                refine cR ?_
                refine ret_ok [.cell 4 41] [.agg (asc (0 : Int) (.slice none 0 0) rb0 (0 : Int) false false (.slice none 0 0) (0 : Int) rb0 (0 : Int) (.slice none 0 0)).toArray] (.agg (asc (0 : Int) (.slice none 0 0) rb0 (0 : Int) false false (.slice none 0 0) (0 : Int) rb0 (0 : Int) (.slice none 0 0)).toArray) rfl hF ⟨⟨_,rfl,Loads.blk (vs := asc (0 : Int) (.slice none 0 0) rb0 (0 : Int) false false (.slice none 0 0) (0 : Int) rb0 (0 : Int) (.slice none 0 0)) (by kernel_rfl) m8 rfl⟩,trivial⟩ rfl ?_
                rw [step_still (by omega)]; exact ⟨ansC _ 0,⟨_,_,_,_,_,md.ext e0⟩,MG.ofExt e0⟩
               ·skip
                refine rP [(72,.bool (decide (kd = (14 : Int))))] hF fun a hF => ?_
                refine tK ?_
                refine cJ 72 hF (fun hc98 => ?_) fun hc98 => ?_
                ·skip
                 refine cN ?_
                 refine bK ?_
                 refine tK ?_
                 refine qS hF ?_
                 refine tC 0 (.agg (asc (0 : Int) (.slice none 0 0) rb0 (0 : Int) false false (.slice none 0 0) (0 : Int) rb0 (0 : Int) (.slice none 0 0)).toArray) (Calm.load (T := 41) (p := ⟨h1.size,0,none⟩) (by kernel_rfl) (Loads.blk (vs := asc (0 : Int) (.slice none 0 0) rb0 (0 : Int) false false (.slice none 0 0) (0 : Int) rb0 (0 : Int) (.slice none 0 0)) (by kernel_rfl) m8 rfl)) ?_
                 refine tW 1 0 (asc (0 : Int) (.slice none 0 0) rb0 (0 : Int) false false (.slice none 0 0) (0 : Int) rb0 (0 : Int) (.slice none 0 0)) (asc (0 : Int) (.slice none 0 0) rb0 (0 : Int) false false (.slice none 0 0) (0 : Int) rb0 (0 : Int) (.slice none 0 0)) (asc (0 : Int) (.slice none 0 0) rb0 (0 : Int) false false (.slice none 0 0) (0 : Int) rb0 (0 : Int) (.slice none 0 0)) m8 (fun h99 g100 m8' => ?_)
                 replace e0 := e0.grew g100 (sep.low 0 rfl)
                 replace kt := kt.grew g100 (sep.zero 0 rfl h0s)
                 replace m3 := Grew.blk g100 m3 ((sep.bp 1 0))
                 replace sep := sep.up g100.size
                 clear m8; have m8 := m8'; clear m8'
                 refine sT [] fun a hF => ?_
                 refine cR ?_
                 refine ret_ok [.cell 4 41] [.agg (asc (0 : Int) (.slice none 0 0) rb0 (0 : Int) false false (.slice none 0 0) (0 : Int) rb0 (0 : Int) (.slice none 0 0)).toArray] (.agg (asc (0 : Int) (.slice none 0 0) rb0 (0 : Int) false false (.slice none 0 0) (0 : Int) rb0 (0 : Int) (.slice none 0 0)).toArray) rfl hF ⟨⟨_,rfl,Loads.blk (vs := asc (0 : Int) (.slice none 0 0) rb0 (0 : Int) false false (.slice none 0 0) (0 : Int) rb0 (0 : Int) (.slice none 0 0)) (by kernel_rfl) m8 rfl⟩,trivial⟩ rfl ?_
                 rw [step_still (by omega)]; exact ⟨ansC _ 0,⟨_,_,_,_,_,md.ext e0⟩,MG.ofExt e0⟩
                ·skip
                 refine rS hF ?_
                 refine tW 1 0 ([.int .i64 1]) (asc (0 : Int) (.slice none 0 0) rb0 (0 : Int) false false (.slice none 0 0) (0 : Int) rb0 (0 : Int) (.slice none 0 0)) (asc (1 : Int) (.slice none 0 0) rb0 (0 : Int) false false (.slice none 0 0) (0 : Int) rb0 (0 : Int) (.slice none 0 0)) m8 (fun h101 g102 m8' => ?_)
                 replace e0 := e0.grew g102 (sep.low 0 rfl)
                 replace kt := kt.grew g102 (sep.zero 0 rfl h0s)
                 replace m3 := Grew.blk g102 m3 ((sep.bp 1 0))
                 replace sep := sep.up g102.size
                 clear m8; have m8 := m8'; clear m8'
                 refine sE [] fun a hF => ?_
                 refine bK ?_
                 refine tK ?_
                 refine qS hF ?_
                 refine tC 0 (.agg (asc (1 : Int) (.slice none 0 0) rb0 (0 : Int) false false (.slice none 0 0) (0 : Int) rb0 (0 : Int) (.slice none 0 0)).toArray) (Calm.load (T := 41) (p := ⟨h1.size,0,none⟩) (by kernel_rfl) (Loads.blk (vs := asc (1 : Int) (.slice none 0 0) rb0 (0 : Int) false false (.slice none 0 0) (0 : Int) rb0 (0 : Int) (.slice none 0 0)) (by kernel_rfl) m8 rfl)) ?_
                 refine tW 1 0 (asc (1 : Int) (.slice none 0 0) rb0 (0 : Int) false false (.slice none 0 0) (0 : Int) rb0 (0 : Int) (.slice none 0 0)) (asc (1 : Int) (.slice none 0 0) rb0 (0 : Int) false false (.slice none 0 0) (0 : Int) rb0 (0 : Int) (.slice none 0 0)) (asc (1 : Int) (.slice none 0 0) rb0 (0 : Int) false false (.slice none 0 0) (0 : Int) rb0 (0 : Int) (.slice none 0 0)) m8 (fun h103 g104 m8' => ?_)
                 replace e0 := e0.grew g104 (sep.low 0 rfl)
                 replace kt := kt.grew g104 (sep.zero 0 rfl h0s)
                 replace m3 := Grew.blk g104 m3 ((sep.bp 1 0))
                 replace sep := sep.up g104.size
                 clear m8; have m8 := m8'; clear m8'
                 refine sT [] fun a hF => ?_
                 refine cR ?_
                 refine ret_ok [.cell 4 41] [.agg (asc (1 : Int) (.slice none 0 0) rb0 (0 : Int) false false (.slice none 0 0) (0 : Int) rb0 (0 : Int) (.slice none 0 0)).toArray] (.agg (asc (1 : Int) (.slice none 0 0) rb0 (0 : Int) false false (.slice none 0 0) (0 : Int) rb0 (0 : Int) (.slice none 0 0)).toArray) rfl hF ⟨⟨_,rfl,Loads.blk (vs := asc (1 : Int) (.slice none 0 0) rb0 (0 : Int) false false (.slice none 0 0) (0 : Int) rb0 (0 : Int) (.slice none 0 0)) (by kernel_rfl) m8 rfl⟩,trivial⟩ rfl ?_
                 rw [step_no (by omega) (by omega) (by omega) (by omega) (by omega) (by omega) (by omega) (by omega)]; exact ⟨ansC _ 1,⟨_,_,_,_,_,md.ext e0⟩,MG.ofExt e0⟩
theorem do_sat (h : Heap) (mb mp : Nat) (M : Md) (m : Mod h mb mp M) (kd n : Int) (s : ByteArray) (l : List UInt8) (oa : Option Addr) (oc : Nat) (ka : Option Addr) (kn kc : Nat) (hr : Row h (.slice oa l.length oc) l.length 1 (l.map bv)) (hsz : s.size ≤ 9223372036854775807) (kt : Ktab h) (hE : M.E.length ≤ 1099511627) : Sat Tryd.prog 8 #[.pointer (some ⟨mb,0,none⟩),.agg #[.int .i64 kd,.string s,.slice oa l.length oc,.int .i64 n,.slice ka kn kc]] h fun v h' => AnsAt h' v (step M kd n s l).2 ∧ Mod h' mb mp (step M kd n s l).1 ∧ MG mb mp h h' := by
 obtain ⟨L,ck,ea,ec,es,md⟩ := m
 exact do_a h mb mp M L ck ea ec es md kd n s l oa oc ka kn kc hr hsz kt hE
end Go.Proofs.YtegkejcglfgpmaaDoor
end
section
namespace Go.Proofs.YtegkejcglfgpmaaDoor
open Go Go.Lane Go.Sha
noncomputable def b7 : Code := Tryd.f7.body.getD .skip
theorem ModA.new {h : Heap} {b p : Nat} (m : h[b]? = some (.cells #[.map (some p),.slice none 0 0,.int .i64 0] 57)) (hp : h[p]? = some (.map #[] 0)) (kp : 1 < p) (kb : 1 < b) : Mod h b p ⟨fun _ => none,[],0⟩ :=
 ⟨[],0,none,0,[],{ hm := m,hp := hp,bo := ⟨by simp,by simp⟩,nd := by simp,ob := by simp,al := by simp,er := RowE.nil _ _,en := ⟨rfl,by simp⟩,ln := rfl,t0 := by decide,t1 := by decide,kb := kb,kp := kp }⟩
theorem new_m (h : Heap) (hk0 : 1 < h.size) : Sat Tryd.prog 7 #[] h fun v h' => ∃ b p,v = .pointer (some ⟨b,0,none⟩) ∧ Mod h' b p ⟨fun _ => none,[],0⟩ ∧ h.size ≤ b ∧ h.size ≤ p ∧ Ext h h' := by
 have e0 := Ext.refl h
 have sep : Sep h.size h.size [] := Sep.nil _ _
 refine sat_in Tryd.func7 4 fun a hF => ?_
 refine qP [] hF fun a hF => ?_
 refine qS hF ?_
 refine tF 0 (Does.new (v := .map (some h.size)) (o := .map #[] 0) (by kernel_rfl)) ?_
 rintro _ h1 ⟨rfl,hh⟩
 have g1 := push_ext hh
 have mp := push_at hh
 clear hh
 replace e0 := e0.ext g1
 replace sep := sep.up g1.size
 clear g1
 refine tN 2 (pV h1.size) (#[.map (some h.size),.slice none 0 0,.int .i64 0]) 57 fun h2 g3 m4 => ?_
 have lt5 := blk_lt m4
 have zs6 := e0.size
 have hlo := e0.size
 have sepo := sep
 replace e0 := e0.ext g3
 replace mp := Ext.blk g3 mp
 replace sep := sep.up g3.size
 replace sep := sepo.new hlo (blk_lt m4)
 clear sepo hlo
 refine sT [(0,pV h1.size)] fun a hF => ?_
 refine cR ?_
 refine rT 0 (pV h1.size) hF ?_
 exact ⟨_,_,rfl,ModA.new m4 mp hk0 (by omega),by omega,Nat.le_refl _,e0⟩
noncomputable def b9 : Code := Tryd.f9.body.getD .skip
set_option maxHeartbeats 1000000 in
theorem clone_a (h : Heap) (mb mp : Nat) (M : Md) (L : List Ent) (ck : Nat) (ea : Option Addr) (ec : Nat) (es : List Value) (md : ModA h mb mp M L ck ea ec es) (hE : M.E.length ≤ 1099511627) : Sat Tryd.prog 9 #[.pointer (some ⟨mb,0,none⟩)] h fun v h' => ∃ c q,v = .pointer (some ⟨c,0,none⟩) ∧ Mod h' c q M ∧ h.size ≤ c ∧ h.size ≤ q ∧ Ext h h' := by
 have hm := md.hm
 have hp := md.hp
 obtain ⟨oaf,hg⟩ := md.choose
 have hLn := md.ln
 have e0 := Ext.refl h
 have sep : Sep h.size h.size [] := Sep.nil _ _
 refine sat_in Tryd.func9 40 fun a hF => ?_
 refine qP [] hF fun a hF => ?_
 refine cS ?_
 refine cD [0,1,3,7,15,31,0,64,192,448,991,0,2048,6144,14336,32767,65535,131071] 1 mixed hF ?_
 refine mP 7 [0,1,2] [pV mb,pV mb,pV mb] ?_
 refine mL 15 8 3 (.map (some mp)) (Calm.load (T := 54) (p := ⟨mb,0,none⟩) (by kernel_rfl) (Loads.one (k := 1) (by kernel_rfl) ((hcell_blk (e0.blk hm)).trans rfl))) ?_
 refine mL 31 24 4 (.int .i64 ((L.length : Nat) : Int)) (Calm.lenMap (by kernel_rfl) (e0.blk hp) rfl) ?_
 refine mP 479 [6,7,8] [pV mb,pV mb,.pointer (some ⟨mb,1,none⟩)] ?_
 refine mL 991 536 9 (.slice ea M.E.length ec) (Calm.load (T := 55) (p := ⟨mb,1,none⟩) (by kernel_rfl) (Loads.one (k := 1) (by kernel_rfl) ((hcell_blk (e0.blk hm)).trans rfl))) ?_
 refine mP 15327 [11,12,13] [pV mb,pV mb,.pointer (some ⟨mb,2,none⟩)] ?_
 refine mL 31711 16920 14 (.int .i64 M.t) (Calm.load (T := 3) (p := ⟨mb,2,none⟩) (by kernel_rfl) (Loads.one (k := 1) (by kernel_rfl) ((hcell_blk (e0.blk hm)).trans rfl))) ?_
 refine SimK.effs (is := [5,10]) (by kernel_rfl) (by simp) ?_
 intro q hq
 simp only [List.mem_cons,List.not_mem_nil,or_false] at hq
 rcases hq with rfl | rfl
 ·skip
  refine SimK.effAt (i := 5) (D' := 31743) (X' := 63) (by kernel_rfl) (by kernel_rfl) [9,14] (by kernel_rfl) (Does.new (v := .map (some h.size)) (o := .map #[] 0) (by kernel_rfl)) ?_
  rintro _ h1 ⟨rfl,hh⟩
  have g := push_ext hh
  have hq := push_at hh
  have hlo := e0.size
  have sepo := sep
  replace e0 := e0.ext g
  replace sep := sep.up g.size
  replace sep := sepo.new hlo (blk_lt hq)
  clear sepo hlo hh g
  refine ⟨?_,?_⟩
  ·intro j hj
   simp only [List.mem_cons,List.not_mem_nil,or_false] at hj
   rcases hj with rfl | rfl
   ·exact goodOf (Calm.load (T := 55) (p := ⟨mb,1,none⟩) (by kernel_rfl) (Loads.one (k := 1) (by kernel_rfl) ((hcell_blk (e0.blk hm)).trans rfl)))
   ·exact goodOf (Calm.load (T := 3) (p := ⟨mb,2,none⟩) (by kernel_rfl) (Loads.one (k := 1) (by kernel_rfl) ((hcell_blk (e0.blk hm)).trans rfl)))
  refine SimK.eff (i := 10) (D' := 32767) (X' := 2047) (by kernel_rfl) (by kernel_rfl) (by kernel_rfl) [14] (by kernel_rfl) (Does.call (f := 21) (args := #[.slice ea M.E.length ec]) (by kernel_rfl) (clonee_sat _ es M.E.length ea ec (md.er.1.ext e0) (by omega) (ents_one md.en))) ?_
  rintro _ h4 ⟨ad2,cap3,rfl,ownx,hge,g⟩
  have hlo := e0.size
  have sepo := sep
  replace e0 := e0.ext g
  replace hq := g.blk hq
  replace sep := sep.up g.size
  replace sep := sepo.cons (x := ad2.map (fun (x : Addr) => x.block)) g.size hlo (fun k e => ⟨hge k e,ownx.lt (by rw [blkOf_slice]; exact e)⟩)
  have own_e : Own h4 (.slice ad2 M.E.length cap3) 23 M.E.length 1 es := ownx; clear ownx sepo hlo hge g
  refine ⟨?_,?_⟩
  ·intro j hj
   simp only [List.mem_cons,List.not_mem_nil,or_false] at hj
   subst hj
   exact goodOf (Calm.load (T := 3) (p := ⟨mb,2,none⟩) (by kernel_rfl) (Loads.one (k := 1) (by kernel_rfl) ((hcell_blk (e0.blk hm)).trans rfl)))
  refine mP 65535 [15] [.agg #[.map (some h.size),.slice ad2 M.E.length cap3,.int .i64 M.t]] ?_
  refine SimK.eff0 (i := 16) (D' := 131071) (X' := 131071) (by kernel_rfl) (by kernel_rfl) (by kernel_rfl) (by kernel_rfl) (Does.new (v := .pointer (some ⟨h4.size,0,none⟩)) (o := .cells #[.map (some h.size),.slice ad2 M.E.length cap3,.int .i64 M.t] 57) (by kernel_rfl)) ?_
  rintro _ h5 ⟨rfl,hh⟩
  have g6 : Ext h4 h5 := push_ext hh
  have m7 : h5[h4.size]? = some (.cells #[.map (some h.size),.slice ad2 M.E.length cap3,.int .i64 M.t] 57) := push_at hh
  clear hh
  have lt8 := blk_lt m7
  have zs9 := e0.size
  have hlo := e0.size
  have sepo := sep
  replace e0 := e0.ext g6
  replace hq := g6.blk hq
  replace own_e := own_e.ext g6
  replace sep := sep.up g6.size
  replace sep := sepo.new hlo (blk_lt m7)
  clear sepo hlo
  refine mP 262143 [17] [pV h4.size] ?_
  refine mE [(3,pV h4.size)] fun a hF => ?_
  refine tK ?_
  refine cS ?_
  refine qS hF ?_
  refine tC 3 (.map (some mp)) (Calm.load (T := 54) (p := ⟨mb,0,none⟩) (by kernel_rfl) (Loads.one (k := 1) (by kernel_rfl) ((hcell_blk (e0.blk hm)).trans rfl))) ?_
  refine tF 4 (Does.range (t := 54) (k := 9) (el := 68) (by kernel_rfl) (by kernel_rfl) (e0.blk hp)) ?_
  rintro _ h10 ⟨rfl,hh⟩
  have g := push_ext hh
  have hit := push_at hh
  have hlo := e0.size
  have sepo := sep
  replace e0 := e0.ext g
  replace hq := g.blk hq
  replace own_e := own_e.ext g
  replace m7 := Ext.blk g m7
  replace sep := sep.up g.size
  replace sep := sepo.new hlo (blk_lt hit)
  clear sepo hlo hh g
  refine sT [(27,pV h5.size)] fun a hF => ?_
  refine cB 0 ?_
  have hq : h10[h.size]? = some (.map (ents ([] : List Ent)) ([] : List Ent).length) := hq
  refine cL (fun m a h' => ∃ D : List Ent,∃ R : List Ent,∃ N : List Ent,m = R.length ∧ (Ext h h') ∧ (h'[h4.size]? = some (.cells #[.map (some h.size),.slice ad2 M.E.length cap3,.int .i64 M.t] 57)) ∧ ((D ++ R).Perm L) ∧ (N.map pr = D.map pr) ∧ (Born N N.length) ∧ (h'[h5.size]? = some (itr mp ck D)) ∧ (h'[h.size]? = some (.map (ents N) N.length)) ∧ (Own h' (.slice ad2 M.E.length cap3) 23 M.E.length 1 es) ∧ (Sep h.size h'.size [some (h5.size),some (h4.size),ad2.map (·.block),some (h.size)]) ∧ (Fr a 40 [(3,.pointer (some ⟨h4.size,0,none⟩)),(27,.pointer (some ⟨h5.size,0,none⟩))])) (L.length) ⟨[],L,[],rfl,e0,m7,(List.Perm.refl _),rfl,Born.nil,hit,hq,own_e,sep,hF.to⟩ ?_
  clear hF a
  clear e0
  clear m7
  clear hit
  clear hq
  clear own_e
  clear sep
  rintro m a h11 ⟨D,R,N,rfl,e0,m7,hP,hN,hB,hit,hq,own_e,sep,hF⟩
  refine cS ?_
  rcases (by cases R <;> simp : R = [] ∨ R ≠ []) with hR | hR
  ·skip
   refine rS hF ?_
   refine tC 0 (.tuple #[.bool false]) (nextNil (by kernel_rfl) hit (e0.blk hp) hP md.bo hR) ?_
   refine sE [(29,.bool false)] fun a hF => ?_
   refine tK ?_
   refine cS ?_
   refine cF 29 hF ?_
   refine cX 0 (xT (xT (xB ?_)))
   refine tK ?_
   refine qP [(2,pV h4.size)] hF fun a hF => ?_
   refine cR ?_
   refine rT 2 (pV h4.size) hF ?_
   subst hR
   rw [List.append_nil] at hP
   exact ⟨_,_,rfl,md.cloned e0 m7 hq hN hP hB own_e (sep.low 1 rfl _ rfl) (sep.low 3 rfl _ rfl),sep.low 1 rfl _ rfl,sep.low 3 rfl _ rfl,e0⟩
  ·skip
   refine rS hF ?_
   refine tF 0 (nextCons (by kernel_rfl) hit (e0.blk hp) hP md.bo hR) ?_
   rintro _ h12 ⟨x,R',hP2,hRl,hxL,rfl,hh⟩
   obtain ⟨hit2,gi⟩ := itr_put hh hit
   replace e0 := e0.grew gi (sep.low 0 rfl)
   replace own_e := own_e.kept gi (by rw [blkOf_slice]; exact (sep.ap 2 0))
   replace hit := hit
   replace hq := gi.blk hq (sep.bp 3 0)
   replace m7 := Grew.blk gi m7 ((sep.bp 1 0))
   replace sep := sep.up gi.size
   clear hit; have hit := hit2; clear hit2 hh gi
   have hh3 := hg x hxL
   have hDl : D.length < L.length := by have := hP2.length_eq; simp at this; omega
   refine sE [(29,.bool true)] fun a hF => ?_
   refine tK ?_
   refine cS ?_
   refine cT 29 hF ?_
   refine cN ?_
   refine tK ?_
   refine cB 1 ?_
   refine qS hF ?_
   refine tC 0 (.tuple #[.string x.1,.agg (obx ((rcG oaf x).b) ((rcG oaf x).e) ((rcG oaf x).ho) ((rcG oaf x).go) (.slice (rcG oaf x).ad ((rcG oaf x).n) ((rcG oaf x).cap)) (.slice (oaf x).ba ((oaf x).o.dt.length) ((oaf x).bc))).toArray]) (entryV (by kernel_rfl) hit (e0.blk hp) hxL md.bo hh3.hv) ?_
   refine tN 3 (pV h12.size) ((obx rb0 (0 : Int) false false (.slice none 0 0) (.slice none 0 0)).toArray) 68 fun h13 g14 m15 => ?_
   have lt16 := blk_lt m15
   have zs17 := e0.size
   have hlo := e0.size
   have sepo := sep
   replace e0 := e0.ext g14
   replace own_e := own_e.ext g14
   replace hit := g14.blk hit
   replace hq := g14.blk hq
   replace m7 := Ext.blk g14 m7
   replace sep := sep.up g14.size
   replace sep := sepo.new hlo (blk_lt m15)
   clear sepo hlo
   refine tW 5 0 (obx ((rcG oaf x).b) ((rcG oaf x).e) ((rcG oaf x).ho) ((rcG oaf x).go) (.slice (rcG oaf x).ad ((rcG oaf x).n) ((rcG oaf x).cap)) (.slice (oaf x).ba ((oaf x).o.dt.length) ((oaf x).bc))) (obx rb0 (0 : Int) false false (.slice none 0 0) (.slice none 0 0)) (obx ((rcG oaf x).b) ((rcG oaf x).e) ((rcG oaf x).ho) ((rcG oaf x).go) (.slice (rcG oaf x).ad ((rcG oaf x).n) ((rcG oaf x).cap)) (.slice (oaf x).ba ((oaf x).o.dt.length) ((oaf x).bc))) m15 (fun h18 g19 m15' => ?_)
   replace e0 := e0.grew g19 (sep.low 0 rfl)
   replace own_e := own_e.kept g19 (by rw [blkOf_slice]; exact (sep.ap 3 0))
   replace hit := g19.blk hit (sep.bp 1 0)
   replace hq := g19.blk hq (sep.bp 4 0)
   replace m7 := Grew.blk g19 m7 ((sep.bp 2 0))
   replace sep := sep.up g19.size
   clear m15; have m15 := m15'; clear m15'
   refine sT [(4,.string x.1),(5,pV h12.size)] fun a hF => ?_
   refine cD [0,1,3,7,0,0,63] 5 mixed hF ?_
   refine mP 7 [0,1,2] [pV h4.size,pV h4.size,pV h4.size] ?_
   refine mL 15 8 3 (.map (some h.size)) (Calm.load (T := 54) (p := ⟨h4.size,0,none⟩) (by kernel_rfl) (Loads.one (k := 1) (by kernel_rfl) ((hcell_blk m7).trans rfl))) ?_
   refine mP 31 [4] [.string x.1] ?_
   refine mL 63 40 5 (.agg (obx ((rcG oaf x).b) ((rcG oaf x).e) ((rcG oaf x).ho) ((rcG oaf x).go) (.slice (rcG oaf x).ad ((rcG oaf x).n) ((rcG oaf x).cap)) (.slice (oaf x).ba ((oaf x).o.dt.length) ((oaf x).bc))).toArray) (Calm.load (T := 68) (p := ⟨h12.size,0,none⟩) (by kernel_rfl) (Loads.blk (vs := obx ((rcG oaf x).b) ((rcG oaf x).e) ((rcG oaf x).ho) ((rcG oaf x).go) (.slice (rcG oaf x).ad ((rcG oaf x).n) ((rcG oaf x).cap)) (.slice (oaf x).ba ((oaf x).o.dt.length) ((oaf x).bc))) (by kernel_rfl) m15 rfl)) ?_
   refine SimK.eff0 (i := 6) (D' := 127) (X' := 127) (by kernel_rfl) (by kernel_rfl) (by kernel_rfl) (by kernel_rfl) (Does.mapNew (t := 54) (k := 9) (el := 68) (v := .agg (obx ((rcG oaf x).b) ((rcG oaf x).e) ((rcG oaf x).ho) ((rcG oaf x).go) (.slice (rcG oaf x).ad ((rcG oaf x).n) ((rcG oaf x).cap)) (.slice (oaf x).ba ((oaf x).o.dt.length) ((oaf x).bc))).toArray) (by kernel_rfl) (by kernel_rfl) (by kernel_rfl) hq (pr_new hN hP2 md.nd)) ?_
   rintro _ h20 ⟨rfl,hh⟩
   have gq := hput_gr hh
   have hq2 := hput_map hh hq
   replace e0 := e0.grew gq (sep.low 4 rfl)
   replace own_e := own_e.kept gq (by rw [blkOf_slice]; exact (sep.ap 3 4))
   replace hit := gq.blk hit (sep.bp 1 4)
   replace hq := hq
   replace m7 := Grew.blk gq m7 ((sep.bp 2 4))
   replace m15 := Grew.blk gq m15 ((sep.bp 0 4))
   replace sep := sep.up gq.size
   rw [show N.length + 1 = (N ++ [(x.1,(.agg (obx ((rcG oaf x).b) ((rcG oaf x).e) ((rcG oaf x).ho) ((rcG oaf x).go) (.slice (rcG oaf x).ad ((rcG oaf x).n) ((rcG oaf x).cap)) (.slice (oaf x).ba ((oaf x).o.dt.length) ((oaf x).bc))).toArray : Value),N.length)]).length by rw [List.length_append]; rfl] at hq2
   clear hq; have hq := hq2; clear hq2 hh gq
   refine mE [] fun a hF => ?_
   refine bK ?_
   clear m15 lt16 zs17
   replace sep := sep.sub (l' := [some (h5.size),some (h4.size),ad2.map (·.block),some (h.size)]) (.cons _ (.cons_cons _ (.cons_cons _ (.cons_cons _ (.cons_cons _ (.slnil))))))
   show ∃ m',m' < _ ∧ _
   refine ⟨_,?_,(D ++ [x]),R',(N ++ [(x.1,_,N.length)]),rfl,e0,m7,hP2,(pr_snoc hN hh3.hv _),(hB.one _ _),hit,hq,own_e,sep,hF.to⟩
   omega
 ·skip
  refine SimK.effAt (i := 10) (D' := 32735) (X' := 2015) (by kernel_rfl) (by kernel_rfl) [14] (by kernel_rfl) (Does.call (f := 21) (args := #[.slice ea M.E.length ec]) (by kernel_rfl) (clonee_sat _ es M.E.length ea ec (md.er.1.ext e0) (by omega) (ents_one md.en))) ?_
  rintro _ h23 ⟨ad21,cap22,rfl,ownx,hge,g⟩
  have hlo := e0.size
  have sepo := sep
  replace e0 := e0.ext g
  replace sep := sep.up g.size
  replace sep := sepo.cons (x := ad21.map (fun (x : Addr) => x.block)) g.size hlo (fun k e => ⟨hge k e,ownx.lt (by rw [blkOf_slice]; exact e)⟩)
  have own_e : Own h23 (.slice ad21 M.E.length cap22) 23 M.E.length 1 es := ownx; clear ownx sepo hlo hge g
  refine ⟨?_,?_⟩
  ·intro j hj
   simp only [List.mem_cons,List.not_mem_nil,or_false] at hj
   subst hj
   exact goodOf (Calm.load (T := 3) (p := ⟨mb,2,none⟩) (by kernel_rfl) (Loads.one (k := 1) (by kernel_rfl) ((hcell_blk (e0.blk hm)).trans rfl)))
  refine SimK.eff (i := 5) (D' := 32767) (X' := 2047) (by kernel_rfl) (by kernel_rfl) (by kernel_rfl) [14] (by kernel_rfl) (Does.new (v := .map (some h23.size)) (o := .map #[] 0) (by kernel_rfl)) ?_
  rintro _ h24 ⟨rfl,hh⟩
  have g := push_ext hh
  have hq := push_at hh
  have hlo := e0.size
  have sepo := sep
  replace e0 := e0.ext g
  replace own_e := own_e.ext g
  replace sep := sep.up g.size
  replace sep := sepo.new hlo (blk_lt hq)
  clear sepo hlo hh g
  refine ⟨?_,?_⟩
  ·intro j hj
   simp only [List.mem_cons,List.not_mem_nil,or_false] at hj
   subst hj
   exact goodOf (Calm.load (T := 3) (p := ⟨mb,2,none⟩) (by kernel_rfl) (Loads.one (k := 1) (by kernel_rfl) ((hcell_blk (e0.blk hm)).trans rfl)))
  refine mP 65535 [15] [.agg #[.map (some h23.size),.slice ad21 M.E.length cap22,.int .i64 M.t]] ?_
  refine SimK.eff0 (i := 16) (D' := 131071) (X' := 131071) (by kernel_rfl) (by kernel_rfl) (by kernel_rfl) (by kernel_rfl) (Does.new (v := .pointer (some ⟨h24.size,0,none⟩)) (o := .cells #[.map (some h23.size),.slice ad21 M.E.length cap22,.int .i64 M.t] 57) (by kernel_rfl)) ?_
  rintro _ h25 ⟨rfl,hh⟩
  have g26 : Ext h24 h25 := push_ext hh
  have m27 : h25[h24.size]? = some (.cells #[.map (some h23.size),.slice ad21 M.E.length cap22,.int .i64 M.t] 57) := push_at hh
  clear hh
  have lt28 := blk_lt m27
  have zs29 := e0.size
  have hlo := e0.size
  have sepo := sep
  replace e0 := e0.ext g26
  replace own_e := own_e.ext g26
  replace hq := g26.blk hq
  replace sep := sep.up g26.size
  replace sep := sepo.new hlo (blk_lt m27)
  clear sepo hlo
  refine mP 262143 [17] [pV h24.size] ?_
  refine mE [(3,pV h24.size)] fun a hF => ?_
  refine tK ?_
  refine cS ?_
  refine qS hF ?_
  refine tC 3 (.map (some mp)) (Calm.load (T := 54) (p := ⟨mb,0,none⟩) (by kernel_rfl) (Loads.one (k := 1) (by kernel_rfl) ((hcell_blk (e0.blk hm)).trans rfl))) ?_
  refine tF 4 (Does.range (t := 54) (k := 9) (el := 68) (by kernel_rfl) (by kernel_rfl) (e0.blk hp)) ?_
  rintro _ h30 ⟨rfl,hh⟩
  have g := push_ext hh
  have hit := push_at hh
  have hlo := e0.size
  have sepo := sep
  replace e0 := e0.ext g
  replace own_e := own_e.ext g
  replace hq := g.blk hq
  replace m27 := Ext.blk g m27
  replace sep := sep.up g.size
  replace sep := sepo.new hlo (blk_lt hit)
  clear sepo hlo hh g
  refine sT [(27,pV h25.size)] fun a hF => ?_
  refine cB 0 ?_
  have hq : h30[h23.size]? = some (.map (ents ([] : List Ent)) ([] : List Ent).length) := hq
  refine cL (fun m a h' => ∃ D : List Ent,∃ R : List Ent,∃ N : List Ent,m = R.length ∧ (Ext h h') ∧ (h'[h24.size]? = some (.cells #[.map (some h23.size),.slice ad21 M.E.length cap22,.int .i64 M.t] 57)) ∧ ((D ++ R).Perm L) ∧ (N.map pr = D.map pr) ∧ (Born N N.length) ∧ (h'[h25.size]? = some (itr mp ck D)) ∧ (h'[h23.size]? = some (.map (ents N) N.length)) ∧ (Own h' (.slice ad21 M.E.length cap22) 23 M.E.length 1 es) ∧ (Sep h.size h'.size [some (h25.size),some (h24.size),some (h23.size),ad21.map (·.block)]) ∧ (Fr a 40 [(3,.pointer (some ⟨h24.size,0,none⟩)),(27,.pointer (some ⟨h25.size,0,none⟩))])) (L.length) ⟨[],L,[],rfl,e0,m27,(List.Perm.refl _),rfl,Born.nil,hit,hq,own_e,sep,hF.to⟩ ?_
  clear hF a
  clear e0
  clear m27
  clear hit
  clear hq
  clear own_e
  clear sep
  rintro m a h31 ⟨D,R,N,rfl,e0,m27,hP,hN,hB,hit,hq,own_e,sep,hF⟩
  refine cS ?_
  rcases (by cases R <;> simp : R = [] ∨ R ≠ []) with hR | hR
  ·skip
   refine rS hF ?_
   refine tC 0 (.tuple #[.bool false]) (nextNil (by kernel_rfl) hit (e0.blk hp) hP md.bo hR) ?_
   refine sE [(29,.bool false)] fun a hF => ?_
   refine tK ?_
   refine cS ?_
   refine cF 29 hF ?_
   refine cX 0 (xT (xT (xB ?_)))
   refine tK ?_
   refine qP [(2,pV h24.size)] hF fun a hF => ?_
   refine cR ?_
   refine rT 2 (pV h24.size) hF ?_
   subst hR
   rw [List.append_nil] at hP
   exact ⟨_,_,rfl,md.cloned e0 m27 hq hN hP hB own_e (sep.low 1 rfl _ rfl) (sep.low 2 rfl _ rfl),sep.low 1 rfl _ rfl,sep.low 2 rfl _ rfl,e0⟩
  ·skip
   refine rS hF ?_
   refine tF 0 (nextCons (by kernel_rfl) hit (e0.blk hp) hP md.bo hR) ?_
   rintro _ h32 ⟨x,R',hP2,hRl,hxL,rfl,hh⟩
   obtain ⟨hit2,gi⟩ := itr_put hh hit
   replace e0 := e0.grew gi (sep.low 0 rfl)
   replace own_e := own_e.kept gi (by rw [blkOf_slice]; exact (sep.ap 3 0))
   replace hit := hit
   replace hq := gi.blk hq (sep.bp 2 0)
   replace m27 := Grew.blk gi m27 ((sep.bp 1 0))
   replace sep := sep.up gi.size
   clear hit; have hit := hit2; clear hit2 hh gi
   have hh3 := hg x hxL
   have hDl : D.length < L.length := by have := hP2.length_eq; simp at this; omega
   refine sE [(29,.bool true)] fun a hF => ?_
   refine tK ?_
   refine cS ?_
   refine cT 29 hF ?_
   refine cN ?_
   refine tK ?_
   refine cB 1 ?_
   refine qS hF ?_
   refine tC 0 (.tuple #[.string x.1,.agg (obx ((rcG oaf x).b) ((rcG oaf x).e) ((rcG oaf x).ho) ((rcG oaf x).go) (.slice (rcG oaf x).ad ((rcG oaf x).n) ((rcG oaf x).cap)) (.slice (oaf x).ba ((oaf x).o.dt.length) ((oaf x).bc))).toArray]) (entryV (by kernel_rfl) hit (e0.blk hp) hxL md.bo hh3.hv) ?_
   refine tN 3 (pV h32.size) ((obx rb0 (0 : Int) false false (.slice none 0 0) (.slice none 0 0)).toArray) 68 fun h33 g34 m35 => ?_
   have lt36 := blk_lt m35
   have zs37 := e0.size
   have hlo := e0.size
   have sepo := sep
   replace e0 := e0.ext g34
   replace own_e := own_e.ext g34
   replace hit := g34.blk hit
   replace hq := g34.blk hq
   replace m27 := Ext.blk g34 m27
   replace sep := sep.up g34.size
   replace sep := sepo.new hlo (blk_lt m35)
   clear sepo hlo
   refine tW 5 0 (obx ((rcG oaf x).b) ((rcG oaf x).e) ((rcG oaf x).ho) ((rcG oaf x).go) (.slice (rcG oaf x).ad ((rcG oaf x).n) ((rcG oaf x).cap)) (.slice (oaf x).ba ((oaf x).o.dt.length) ((oaf x).bc))) (obx rb0 (0 : Int) false false (.slice none 0 0) (.slice none 0 0)) (obx ((rcG oaf x).b) ((rcG oaf x).e) ((rcG oaf x).ho) ((rcG oaf x).go) (.slice (rcG oaf x).ad ((rcG oaf x).n) ((rcG oaf x).cap)) (.slice (oaf x).ba ((oaf x).o.dt.length) ((oaf x).bc))) m35 (fun h38 g39 m35' => ?_)
   replace e0 := e0.grew g39 (sep.low 0 rfl)
   replace own_e := own_e.kept g39 (by rw [blkOf_slice]; exact (sep.ap 4 0))
   replace hit := g39.blk hit (sep.bp 1 0)
   replace hq := g39.blk hq (sep.bp 3 0)
   replace m27 := Grew.blk g39 m27 ((sep.bp 2 0))
   replace sep := sep.up g39.size
   clear m35; have m35 := m35'; clear m35'
   refine sT [(4,.string x.1),(5,pV h32.size)] fun a hF => ?_
   refine cD [0,1,3,7,0,0,63] 5 mixed hF ?_
   refine mP 7 [0,1,2] [pV h24.size,pV h24.size,pV h24.size] ?_
   refine mL 15 8 3 (.map (some h23.size)) (Calm.load (T := 54) (p := ⟨h24.size,0,none⟩) (by kernel_rfl) (Loads.one (k := 1) (by kernel_rfl) ((hcell_blk m27).trans rfl))) ?_
   refine mP 31 [4] [.string x.1] ?_
   refine mL 63 40 5 (.agg (obx ((rcG oaf x).b) ((rcG oaf x).e) ((rcG oaf x).ho) ((rcG oaf x).go) (.slice (rcG oaf x).ad ((rcG oaf x).n) ((rcG oaf x).cap)) (.slice (oaf x).ba ((oaf x).o.dt.length) ((oaf x).bc))).toArray) (Calm.load (T := 68) (p := ⟨h32.size,0,none⟩) (by kernel_rfl) (Loads.blk (vs := obx ((rcG oaf x).b) ((rcG oaf x).e) ((rcG oaf x).ho) ((rcG oaf x).go) (.slice (rcG oaf x).ad ((rcG oaf x).n) ((rcG oaf x).cap)) (.slice (oaf x).ba ((oaf x).o.dt.length) ((oaf x).bc))) (by kernel_rfl) m35 rfl)) ?_
   refine SimK.eff0 (i := 6) (D' := 127) (X' := 127) (by kernel_rfl) (by kernel_rfl) (by kernel_rfl) (by kernel_rfl) (Does.mapNew (t := 54) (k := 9) (el := 68) (v := .agg (obx ((rcG oaf x).b) ((rcG oaf x).e) ((rcG oaf x).ho) ((rcG oaf x).go) (.slice (rcG oaf x).ad ((rcG oaf x).n) ((rcG oaf x).cap)) (.slice (oaf x).ba ((oaf x).o.dt.length) ((oaf x).bc))).toArray) (by kernel_rfl) (by kernel_rfl) (by kernel_rfl) hq (pr_new hN hP2 md.nd)) ?_
   rintro _ h40 ⟨rfl,hh⟩
   have gq := hput_gr hh
   have hq2 := hput_map hh hq
   replace e0 := e0.grew gq (sep.low 3 rfl)
   replace own_e := own_e.kept gq (by rw [blkOf_slice]; exact (sep.ap 4 3))
   replace hit := gq.blk hit (sep.bp 1 3)
   replace hq := hq
   replace m27 := Grew.blk gq m27 ((sep.bp 2 3))
   replace m35 := Grew.blk gq m35 ((sep.bp 0 3))
   replace sep := sep.up gq.size
   rw [show N.length + 1 = (N ++ [(x.1,(.agg (obx ((rcG oaf x).b) ((rcG oaf x).e) ((rcG oaf x).ho) ((rcG oaf x).go) (.slice (rcG oaf x).ad ((rcG oaf x).n) ((rcG oaf x).cap)) (.slice (oaf x).ba ((oaf x).o.dt.length) ((oaf x).bc))).toArray : Value),N.length)]).length by rw [List.length_append]; rfl] at hq2
   clear hq; have hq := hq2; clear hq2 hh gq
   refine mE [] fun a hF => ?_
   refine bK ?_
   clear m35 lt36 zs37
   replace sep := sep.sub (l' := [some (h25.size),some (h24.size),some (h23.size),ad21.map (·.block)]) (.cons _ (.cons_cons _ (.cons_cons _ (.cons_cons _ (.cons_cons _ (.slnil))))))
   show ∃ m',m' < _ ∧ _
   refine ⟨_,?_,(D ++ [x]),R',(N ++ [(x.1,_,N.length)]),rfl,e0,m27,hP2,(pr_snoc hN hh3.hv _),(hB.one _ _),hit,hq,own_e,sep,hF.to⟩
   omega
noncomputable def b12 : Code := Tryd.f12.body.getD .skip
theorem now_a (h : Heap) (mb mp : Nat) (M : Md) (L : List Ent) (ck : Nat) (ea : Option Addr) (ec : Nat) (es : List Value) (md : ModA h mb mp M L ck ea ec es) : Sat Tryd.prog 12 #[.pointer (some ⟨mb,0,none⟩)] h fun v h' => v = .int .i64 M.t ∧ h' = h := by
 refine sat_in Tryd.func12 7 fun a hF => ?_
 refine qP [] hF fun a hF => ?_
 refine qS hF ?_
 refine tC 3 (.int .i64 M.t) (Calm.load (T := 3) (p := ⟨mb,2,none⟩) (by kernel_rfl) (Loads.one (k := 1) (by kernel_rfl) ((hcell_blk md.hm).trans rfl))) ?_
 refine sT [(2,.int .i64 M.t)] fun a hF => ?_
 refine cR ?_
 refine rT 2 (.int .i64 M.t) hF ?_
 exact ⟨rfl,rfl⟩
end Go.Proofs.YtegkejcglfgpmaaDoor
end
section
namespace Go.Proofs.YtegkejcglfgpmaaDoor
open Go Go.Lane Go.Sha
noncomputable def b11 : Code := Tryd.f11.body.getD .skip
set_option maxHeartbeats 1000000 in
theorem same_eq (h : Heap) (mb mp : Nat) (M : Md) (L : List Ent) (ck : Nat) (ea : Option Addr) (ec : Nat) (es : List Value) (md : ModA h mb mp M L ck ea ec es) (nb np : Nat) (N : Md) (L2 : List Ent) (ck2 : Nat) (ea2 : Option Addr) (ec2 : Nat) (es2 : List Value) (md2 : ModA h nb np N L2 ck2 ea2 ec2 es2) (hf : M.f = N.f) (hE : M.E = N.E) (hl : M.E.length ≤ 1099511627) : Sat Tryd.prog 11 #[.pointer (some ⟨mb,0,none⟩),.pointer (some ⟨nb,0,none⟩)] h fun v h' => v = .bool true ∧ Ext h h' := by
 have hm := md.hm
 have hp := md.hp
 have hm2 := md2.hm
 have hp2 := md2.hp
 have hLn := md.ln
 have hLn2 := md2.ln
 have hEl : M.E.length = N.E.length := by rw [hE]
 obtain ⟨oaf,hg⟩ := md.choose
 have e0 := Ext.refl h
 have sep : Sep h.size h.size [] := Sep.nil _ _
 refine sat_in Tryd.func11 94 fun a hF => ?_
 refine qP [] hF fun a hF => ?_
 refine cS ?_
 refine cS ?_
 refine cD [0,1,3,7,15,0,32,96,224,511,1023,2047,4095,8191,16383,32767,65535,4095,135167,397311,921599,1970175,4194303,8388607] 1 mixed hF ?_
 refine mP 7 [0,1,2] [pV mb,pV mb,pV mb] ?_
 refine mL 15 8 3 (.map (some mp)) (Calm.load (T := 54) (p := ⟨mb,0,none⟩) (by kernel_rfl) (Loads.one (k := 1) (by kernel_rfl) ((hcell_blk (e0.blk hm)).trans rfl))) ?_
 refine mL 31 24 4 (.int .i64 ((L.length : Nat) : Int)) (Calm.lenMap (by kernel_rfl) (e0.blk hp) rfl) ?_
 refine mP 255 [5,6,7] [pV nb,pV nb,pV nb] ?_
 refine mL 511 280 8 (.map (some np)) (Calm.load (T := 54) (p := ⟨nb,0,none⟩) (by kernel_rfl) (Loads.one (k := 1) (by kernel_rfl) ((hcell_blk (e0.blk hm2)).trans rfl))) ?_
 refine mL 1023 792 9 (.int .i64 ((L2.length : Nat) : Int)) (Calm.lenMap (by kernel_rfl) (e0.blk hp2) rfl) ?_
 refine m1 2047 10 (.bool false) (.bool (!(((L.length : Nat) : Int) == ((L2.length : Nat) : Int)))) (congrArg (fun b => Value.bool (!b)) (beq_iff_eq.2 (by omega))) ?_
 refine mP 32767 [11,12,13,14] [.bool false,pV mb,pV mb,.pointer (some ⟨mb,1,none⟩)] ?_
 refine mL 65535 33560 15 (.slice ea M.E.length ec) (Calm.load (T := 55) (p := ⟨mb,1,none⟩) (by kernel_rfl) (Loads.one (k := 1) (by kernel_rfl) ((hcell_blk (e0.blk hm)).trans rfl))) ?_
 refine mP 1048575 [16,17,18,19] [nV M.E.length,pV nb,pV nb,.pointer (some ⟨nb,1,none⟩)] ?_
 refine mL 2097151 1082136 20 (.slice ea2 N.E.length ec2) (Calm.load (T := 55) (p := ⟨nb,1,none⟩) (by kernel_rfl) (Loads.one (k := 1) (by kernel_rfl) ((hcell_blk (e0.blk hm2)).trans rfl))) ?_
 refine mP 4194303 [21] [nV N.E.length] ?_
 refine m1 8388607 22 (.bool false) (.bool (!(((M.E.length : Nat) : Int) == ((N.E.length : Nat) : Int)))) (congrArg (fun b => Value.bool (!b)) (beq_iff_eq.2 (by omega))) ?_
 refine mP 16777215 [23] [.bool false] ?_
 refine mE [(34,.bool false)] fun a hF => ?_
 refine tK ?_
 refine cF 34 hF ?_
 refine cN ?_
 refine tK ?_
 refine cS ?_
 refine qS hF ?_
 refine tC 3 (.map (some mp)) (Calm.load (T := 54) (p := ⟨mb,0,none⟩) (by kernel_rfl) (Loads.one (k := 1) (by kernel_rfl) ((hcell_blk (e0.blk hm)).trans rfl))) ?_
 refine tF 4 (Does.range (t := 54) (k := 9) (el := 68) (by kernel_rfl) (by kernel_rfl) (e0.blk hp)) ?_
 rintro _ h1 ⟨rfl,hh⟩
 have g := push_ext hh
 have hit := push_at hh
 have hlo := e0.size
 have sepo := sep
 replace e0 := e0.ext g
 replace sep := sep.up g.size
 replace sep := sepo.new hlo (blk_lt hit)
 clear sepo hlo hh g
 refine sT [(39,pV h.size)] fun a hF => ?_
 refine cB 0 ?_
 refine cL (fun m a h' => ∃ D : List Ent,∃ R : List Ent,m = R.length ∧ (Ext h h') ∧ ((D ++ R).Perm L) ∧ (h'[h.size]? = some (itr mp ck D)) ∧ (Sep h.size h'.size [some (h.size)]) ∧ (Fr a 94 [(0,.pointer (some ⟨mb,0,none⟩)),(1,.pointer (some ⟨nb,0,none⟩)),(39,.pointer (some ⟨h.size,0,none⟩))])) (L.length) ⟨[],L,rfl,e0,(List.Perm.refl _),hit,sep,hF.to⟩ ?_
 clear hF a
 clear e0
 clear hit
 clear sep
 rintro m a h2 ⟨D,R,rfl,e0,hP,hit,sep,hF⟩
 refine cS ?_
 rcases (by cases R <;> simp : R = [] ∨ R ≠ []) with hR | hR
 ·skip
  refine rS hF ?_
  refine tC 0 (.tuple #[.bool false]) (nextNil (by kernel_rfl) hit (e0.blk hp) hP md.bo hR) ?_
  refine sE [(41,.bool false)] fun a hF => ?_
  refine tK ?_
  refine cS ?_
  refine cF 41 hF ?_
  refine cX 0 (xT (xT (xB ?_)))
  refine tK ?_
  refine cS ?_
  refine qS hF ?_
  refine tC 3 (.slice ea M.E.length ec) (Calm.load (T := 55) (p := ⟨mb,1,none⟩) (by kernel_rfl) (Loads.one (k := 1) (by kernel_rfl) ((hcell_blk (e0.blk hm)).trans rfl))) ?_
  refine sT [(75,.slice ea M.E.length ec),(76,nV M.E.length),(77,.int .i64 0)] fun a hF => ?_
  refine cB 2 ?_
  subst hR
  refine cL (fun m a h' => ∃ k : Nat,m = M.E.length - k ∧ (Ext h h') ∧ (k ≤ M.E.length) ∧ (Fr a 94 [(1,.pointer (some ⟨nb,0,none⟩)),(75,.slice ea M.E.length ec),(76,.int .i64 ((M.E.length : Nat) : Int)),(77,.int .i64 ((k : Nat) : Int))])) (M.E.length - 0) ⟨0,rfl,e0,(by omega),hF.to⟩ ?_
  clear hF a
  clear e0
  rintro m a h3 ⟨k,rfl,e0,hk,hF⟩
  refine qP [(78,.bool (decide (((k : Nat) : Int) < ((M.E.length : Nat) : Int))))] hF fun a hF => ?_
  refine cS ?_
  refine cJ 78 hF (fun hc4 => ?_) fun hc4 => ?_
  ·skip
   have hkn : k < M.E.length := by omega
   obtain ⟨e,he⟩ : ∃ e,M.E[k]? = some e := ⟨_,List.getElem?_eq_getElem hkn⟩
   obtain ⟨hel,xa,xc,hes,hrx⟩ := md.en.2 k e he
   obtain ⟨_,xa2,xc2,hes2,hrx2⟩ := md2.en.2 k e (by rw [← hE]; exact he)
   have hFn := hF
   obtain ⟨aa,rfl,hcap_aa⟩ := md.er.1.someA (by omega)
   have hF := hFn; clear hFn
   have hFn := hF
   obtain ⟨aa2,rfl,hcap_aa2⟩ := md2.er.1.someA (by rw [← hE]; omega)
   have hF := hFn; clear hFn
   refine cN ?_
   refine tK ?_
   refine cS ?_
   refine cB 3 ?_
   refine qS hF ?_
   refine tI 1 aa M.E.length 1 k k ?_
   refine tC 2 (.slice xa e.length xc) (Calm.load (T := 23) (p := (Addr.add aa k)) (by kernel_rfl) (Loads.one (k := 1) (by kernel_rfl) ((md.er.1.ext e0).cells _ _ hes))) ?_
   refine sT [(9,nV k),(10,.slice xa e.length xc)] fun a hF => ?_
   refine cS ?_
   refine cD [0,1,0,4,12,28,0,124,252,508,1023] 12 mixed hF ?_
   refine mP 1 [0] [.slice xa e.length xc] ?_
   refine mL 3 2 1 (.string (ByteArray.mk e.toArray)) (Calm.str (l := e) (by kernel_rfl) (hrx.1.ext e0)) ?_
   refine mP 31 [2,3,4] [pV nb,pV nb,.pointer (some ⟨nb,1,none⟩)] ?_
   refine mL 63 34 5 (.slice (some aa2) N.E.length ec2) (Calm.load (T := 55) (p := ⟨nb,1,none⟩) (by kernel_rfl) (Loads.one (k := 1) (by kernel_rfl) ((hcell_blk (e0.blk hm2)).trans rfl))) ?_
   refine mP 127 [6] [nV k] ?_
   refine mF 255 7 (.pointer (some (Addr.add aa2 k))) (Calm.indexA (a := aa2) (len := N.E.length) (sz := 1) (k := ((k : Nat) : Int)) k k (by kernel_rfl) rfl (by omega) (by omega)) ?_
   refine mL 511 290 8 (.slice xa2 e.length xc2) (Calm.load (T := 23) (p := (Addr.add aa2 k)) (by kernel_rfl) (Loads.one (k := 1) (by kernel_rfl) ((md2.er.1.ext e0).cells _ _ hes2))) ?_
   refine mL 1023 802 9 (.string (ByteArray.mk e.toArray)) (Calm.str (l := e) (by kernel_rfl) (hrx2.1.ext e0)) ?_
   refine m1 2047 10 (.bool false) (.bool (!((ByteArray.mk e.toArray).toList == (ByteArray.mk e.toArray).toList))) (congrArg Value.bool (by simp)) ?_
   refine mE [(92,.bool false)] fun a hF => ?_
   refine tK ?_
   refine cF 92 hF ?_
   refine cN ?_
   refine bK ?_
   refine tK ?_
   refine rS hF ?_
   refine tA 0 k 1 ?_
   refine sE [(77,nV (k + 1))] fun a hF => ?_
   show ∃ m',m' < _ ∧ _
   refine ⟨_,?_,(k + 1),rfl,e0,(by omega),hF.to⟩
   omega
  ·skip
   refine cX 2 (xT (xT (xB ?_)))
   refine tK ?_
   refine qP [(4,.bool true)] hF fun a hF => ?_
   refine cR ?_
   refine rT 4 (.bool true) hF ?_
   exact ⟨rfl,e0⟩
 ·skip
  refine rS hF ?_
  refine tF 0 (nextCons (by kernel_rfl) hit (e0.blk hp) hP md.bo hR) ?_
  rintro _ h5 ⟨x,R',hP2,hRl,hxL,rfl,hh⟩
  obtain ⟨hit2,gi⟩ := itr_put hh hit
  replace e0 := e0.grew gi (sep.low 0 rfl)
  replace hit := hit
  replace sep := sep.up gi.size
  clear hit; have hit := hit2; clear hit2 hh gi
  have hh3 := hg x hxL
  have hDl : D.length < L.length := by have := hP2.length_eq; simp at this; omega
  refine sE [(41,.bool true)] fun a hF => ?_
  refine tK ?_
  refine cS ?_
  refine cT 41 hF ?_
  refine cN ?_
  refine tK ?_
  refine cB 1 ?_
  refine qS hF ?_
  refine tC 0 (.tuple #[.string x.1,.agg (obx ((rcG oaf x).b) ((rcG oaf x).e) ((rcG oaf x).ho) ((rcG oaf x).go) (.slice (rcG oaf x).ad ((rcG oaf x).n) ((rcG oaf x).cap)) (.slice (oaf x).ba ((oaf x).o.dt.length) ((oaf x).bc))).toArray]) (entryV (by kernel_rfl) hit (e0.blk hp) hxL md.bo hh3.hv) ?_
  refine tN 3 (pV h5.size) ((obx rb0 (0 : Int) false false (.slice none 0 0) (.slice none 0 0)).toArray) 68 fun h6 g7 m8 => ?_
  have lt9 := blk_lt m8
  have zs10 := e0.size
  have hlo := e0.size
  have sepo := sep
  replace e0 := e0.ext g7
  replace hit := g7.blk hit
  replace sep := sep.up g7.size
  replace sep := sepo.new hlo (blk_lt m8)
  clear sepo hlo
  refine tW 5 0 (obx ((rcG oaf x).b) ((rcG oaf x).e) ((rcG oaf x).ho) ((rcG oaf x).go) (.slice (rcG oaf x).ad ((rcG oaf x).n) ((rcG oaf x).cap)) (.slice (oaf x).ba ((oaf x).o.dt.length) ((oaf x).bc))) (obx rb0 (0 : Int) false false (.slice none 0 0) (.slice none 0 0)) (obx ((rcG oaf x).b) ((rcG oaf x).e) ((rcG oaf x).ho) ((rcG oaf x).go) (.slice (rcG oaf x).ad ((rcG oaf x).n) ((rcG oaf x).cap)) (.slice (oaf x).ba ((oaf x).o.dt.length) ((oaf x).bc))) m8 (fun h11 g12 m8' => ?_)
  replace e0 := e0.grew g12 (sep.low 0 rfl)
  replace hit := g12.blk hit (sep.bp 1 0)
  replace sep := sep.up g12.size
  clear m8; have m8 := m8'; clear m8'
  refine sT [(5,.string x.1),(6,pV h5.size)] fun a hF => ?_
  refine qS hF ?_
  refine tC 3 (.map (some np)) (Calm.load (T := 54) (p := ⟨nb,0,none⟩) (by kernel_rfl) (Loads.one (k := 1) (by kernel_rfl) ((hcell_blk (e0.blk hm2)).trans rfl))) ?_
  obtain ⟨x2,hx2,hs2,ca,cc,ba,bc,hv2,rd2⟩ := md2.at ((congrFun hf _).symm.trans hh3.hf)
  refine tC 5 (.tuple #[.agg (obx ((rcG oaf x).b) ((rcG oaf x).e) ((rcG oaf x).ho) ((rcG oaf x).go) (.slice ca 0 cc) (.slice ba ((oaf x).o.dt.length) bc)).toArray,.bool true]) (lookYes (t := 54) 9 68 (by kernel_rfl) (by kernel_rfl) (by kernel_rfl) (.agg (obx rb0 (0 : Int) false false (.slice none 0 0) (.slice none 0 0)).toArray) (by kernel_rfl) (e0.blk hp2) hx2 hs2 md2.nd hv2) ?_
  refine tN 9 (pV h11.size) ((obx rb0 (0 : Int) false false (.slice none 0 0) (.slice none 0 0)).toArray) 68 fun h13 g14 m15 => ?_
  have lt16 := blk_lt m15
  have zs17 := e0.size
  have hlo := e0.size
  have sepo := sep
  replace e0 := e0.ext g14
  replace hit := g14.blk hit
  replace m8 := Ext.blk g14 m8
  replace sep := sep.up g14.size
  replace sep := sepo.new hlo (blk_lt m15)
  clear sepo hlo
  refine tW 10 0 (obx ((rcG oaf x).b) ((rcG oaf x).e) ((rcG oaf x).ho) ((rcG oaf x).go) (.slice ca 0 cc) (.slice ba ((oaf x).o.dt.length) bc)) (obx rb0 (0 : Int) false false (.slice none 0 0) (.slice none 0 0)) (obx ((rcG oaf x).b) ((rcG oaf x).e) ((rcG oaf x).ho) ((rcG oaf x).go) (.slice ca 0 cc) (.slice ba ((oaf x).o.dt.length) bc)) m15 (fun h18 g19 m15' => ?_)
  replace e0 := e0.grew g19 (sep.low 0 rfl)
  replace hit := g19.blk hit (sep.bp 2 0)
  replace m8 := Grew.blk g19 m8 ((sep.bp 1 0))
  replace sep := sep.up g19.size
  clear m15; have m15 := m15'; clear m15'
  refine sT [(7,pV h11.size),(8,.bool true)] fun a hF => ?_
  refine cS ?_
  refine cD [0,1,3,7,15,7,63,127,255,511,1023,2047,4095,1023,9215,25599,65535,131071] 7 mixed hF ?_
  refine mP 7 [0,1,2] [.bool true,.bool false,.bool false] ?_
  refine mL 15 8 3 (.agg (obx ((rcG oaf x).b) ((rcG oaf x).e) ((rcG oaf x).ho) ((rcG oaf x).go) (.slice (rcG oaf x).ad ((rcG oaf x).n) ((rcG oaf x).cap)) (.slice (oaf x).ba ((oaf x).o.dt.length) ((oaf x).bc))).toArray) (Calm.load (T := 68) (p := ⟨h5.size,0,none⟩) (by kernel_rfl) (Loads.blk (vs := obx ((rcG oaf x).b) ((rcG oaf x).e) ((rcG oaf x).ho) ((rcG oaf x).go) (.slice (rcG oaf x).ad ((rcG oaf x).n) ((rcG oaf x).cap)) (.slice (oaf x).ba ((oaf x).o.dt.length) ((oaf x).bc))) (by kernel_rfl) m8 rfl)) ?_
  refine mL 47 40 5 (.agg (obx ((rcG oaf x).b) ((rcG oaf x).e) ((rcG oaf x).ho) ((rcG oaf x).go) (.slice ca 0 cc) (.slice ba ((oaf x).o.dt.length) bc)).toArray) (Calm.load (T := 68) (p := ⟨h11.size,0,none⟩) (by kernel_rfl) (Loads.blk (vs := obx ((rcG oaf x).b) ((rcG oaf x).e) ((rcG oaf x).ho) ((rcG oaf x).go) (.slice ca 0 cc) (.slice ba ((oaf x).o.dt.length) bc)) (by kernel_rfl) m15 rfl)) ?_
  refine SimK.eff (i := 4) (D' := 63) (X' := 31) (by kernel_rfl) (by kernel_rfl) (by kernel_rfl) [5] (by kernel_rfl) (Does.call (f := 22) (args := #[.agg (obx ((rcG oaf x).b) ((rcG oaf x).e) ((rcG oaf x).ho) ((rcG oaf x).go) (.slice (rcG oaf x).ad ((rcG oaf x).n) ((rcG oaf x).cap)) (.slice (oaf x).ba ((oaf x).o.dt.length) ((oaf x).bc))).toArray]) (by kernel_rfl) (stat_sat _ (rcG oaf x).b (rcG oaf x).e (rcG oaf x).ho (rcG oaf x).go (.slice (rcG oaf x).ad ((rcG oaf x).n) ((rcG oaf x).cap)) (.slice (oaf x).ba ((oaf x).o.dt.length) ((oaf x).bc)))) ?_
  rintro _ h20 ⟨rfl,g⟩
  replace e0 := e0.ext g
  replace hit := g.blk hit
  replace m8 := Ext.blk g m8
  replace m15 := Ext.blk g m15
  replace sep := sep.up g.size
  refine ⟨?_,?_⟩
  ·intro j hj
   simp only [List.mem_cons,List.not_mem_nil,or_false] at hj
   subst hj
   exact goodOf (Calm.load (T := 68) (p := ⟨h11.size,0,none⟩) (by kernel_rfl) (Loads.blk (vs := obx ((rcG oaf x).b) ((rcG oaf x).e) ((rcG oaf x).ho) ((rcG oaf x).go) (.slice ca 0 cc) (.slice ba ((oaf x).o.dt.length) bc)) (by kernel_rfl) m15 rfl))
  clear g
  refine SimK.eff0 (i := 6) (D' := 127) (X' := 127) (by kernel_rfl) (by kernel_rfl) (by kernel_rfl) (by kernel_rfl) (Does.call (f := 22) (args := #[.agg (obx ((rcG oaf x).b) ((rcG oaf x).e) ((rcG oaf x).ho) ((rcG oaf x).go) (.slice ca 0 cc) (.slice ba ((oaf x).o.dt.length) bc)).toArray]) (by kernel_rfl) (stat_sat _ (rcG oaf x).b (rcG oaf x).e (rcG oaf x).ho (rcG oaf x).go (.slice ca 0 cc) (.slice ba ((oaf x).o.dt.length) bc))) ?_
  rintro _ h21 ⟨rfl,g⟩
  replace e0 := e0.ext g
  replace hit := g.blk hit
  replace m8 := Ext.blk g m8
  replace m15 := Ext.blk g m15
  replace sep := sep.up g.size
  clear g
  refine mF 255 7 (.bool false) (Calm.eqR (q := false) (r := true) (by kernel_rfl) fun w => (run_stEq ((rcG oaf x).b) ((rcG oaf x).e) ((rcG oaf x).ho) ((rcG oaf x).go) ((rcG oaf x).b) ((rcG oaf x).e) ((rcG oaf x).ho) ((rcG oaf x).go) w).trans (congrArg (fun b => Result.ok b w) (stEq_self ((rcG oaf x).b) ((rcG oaf x).e) ((rcG oaf x).ho) ((rcG oaf x).go)))) ?_
  refine mP 2047 [8,9,10] [.bool false,.bool false,.pointer (some ⟨h5.size,39,none⟩)] ?_
  refine mL 4095 2088 11 (.slice (oaf x).ba ((oaf x).o.dt.length) ((oaf x).bc)) (Calm.load (T := 23) (p := ⟨h5.size,39,none⟩) (by kernel_rfl) (Loads.one (k := 1) (by kernel_rfl) ((hcell_blk m8).trans (rfl)))) ?_
  refine mL 8191 6184 12 (.string (ByteArray.mk (oaf x).o.dt.toArray)) (Calm.str (l := (oaf x).o.dt) (by kernel_rfl) (hh3.rd.1.ext e0)) ?_
  refine mP 16383 [13] [.pointer (some ⟨h11.size,39,none⟩)] ?_
  refine mL 32767 22568 14 (.slice ba ((oaf x).o.dt.length) bc) (Calm.load (T := 23) (p := ⟨h11.size,39,none⟩) (by kernel_rfl) (Loads.one (k := 1) (by kernel_rfl) ((hcell_blk m15).trans (rfl)))) ?_
  refine mL 65535 55336 15 (.string (ByteArray.mk (oaf x).o.dt.toArray)) (Calm.str (l := (oaf x).o.dt) (by kernel_rfl) (rd2.1.ext e0)) ?_
  refine m1 131071 16 (.bool false) (.bool (!((ByteArray.mk (oaf x).o.dt.toArray).toList == (ByteArray.mk (oaf x).o.dt.toArray).toList))) (congrArg Value.bool (by simp)) ?_
  refine mP 262143 [17] [.bool false] ?_
  refine mE [(71,.bool false)] fun a hF => ?_
  refine tK ?_
  refine cF 71 hF ?_
  refine cN ?_
  refine bK ?_
  clear m8 lt9 zs10
  clear m15 lt16 zs17
  replace sep := sep.sub (l' := [some (h.size)]) (.cons _ (.cons _ (.cons_cons _ (.slnil))))
  show ∃ m',m' < _ ∧ _
  refine ⟨_,?_,(D ++ [x]),R',rfl,e0,hP2,hit,sep,hF.to⟩
  omega
theorem same_ne (h : Heap) (mb mp : Nat) (M : Md) (L : List Ent) (ck : Nat) (ea : Option Addr) (ec : Nat) (es : List Value) (md : ModA h mb mp M L ck ea ec es) (nb np : Nat) (N : Md) (L2 : List Ent) (ck2 : Nat) (ea2 : Option Addr) (ec2 : Nat) (es2 : List Value) (md2 : ModA h nb np N L2 ck2 ea2 ec2 es2) (hne : M.E.length ≠ N.E.length) : Sat Tryd.prog 11 #[.pointer (some ⟨mb,0,none⟩),.pointer (some ⟨nb,0,none⟩)] h fun v h' => v = .bool false ∧ Ext h h' := by
 have hm := md.hm
 have hp := md.hp
 have hm2 := md2.hm
 have hp2 := md2.hp
 have hLn := md.ln
 have hLn2 := md2.ln
 have e0 := Ext.refl h
 have sep : Sep h.size h.size [] := Sep.nil _ _
 refine sat_in Tryd.func11 94 fun a hF => ?_
 refine qP [] hF fun a hF => ?_
 refine cS ?_
 refine cS ?_
 refine cD [0,1,3,7,15,0,32,96,224,511,1023,2047,4095,8191,16383,32767,65535,4095,135167,397311,921599,1970175,4194303,8388607] 1 mixed hF ?_
 refine mP 7 [0,1,2] [pV mb,pV mb,pV mb] ?_
 refine mL 15 8 3 (.map (some mp)) (Calm.load (T := 54) (p := ⟨mb,0,none⟩) (by kernel_rfl) (Loads.one (k := 1) (by kernel_rfl) ((hcell_blk (e0.blk hm)).trans rfl))) ?_
 refine mL 31 24 4 (.int .i64 ((L.length : Nat) : Int)) (Calm.lenMap (by kernel_rfl) (e0.blk hp) rfl) ?_
 refine mP 255 [5,6,7] [pV nb,pV nb,pV nb] ?_
 refine mL 511 280 8 (.map (some np)) (Calm.load (T := 54) (p := ⟨nb,0,none⟩) (by kernel_rfl) (Loads.one (k := 1) (by kernel_rfl) ((hcell_blk (e0.blk hm2)).trans rfl))) ?_
 refine mL 1023 792 9 (.int .i64 ((L2.length : Nat) : Int)) (Calm.lenMap (by kernel_rfl) (e0.blk hp2) rfl) ?_
 refine m1 2047 10 (.bool true) (.bool (!(((L.length : Nat) : Int) == ((L2.length : Nat) : Int)))) (congrArg (fun b => Value.bool (!b)) (beq_eq_false_iff_ne.2 (by omega))) ?_
 refine mP 16777215 [11,12,13,14,15,16,17,18,19,20,21,22,23] [.bool true,undef,undef,undef,undef,undef,undef,undef,undef,undef,undef,undef,.bool true] ?_
 refine mE [(34,.bool true)] fun a hF => ?_
 refine tK ?_
 refine cT 34 hF ?_
 refine qP [(4,.bool false)] hF fun a hF => ?_
 refine cR (yT ?_)
 refine rT 4 (.bool false) hF ?_
 exact ⟨rfl,e0⟩
noncomputable def b10 : Code := Tryd.f10.body.getD .skip
set_option maxHeartbeats 1000000 in
theorem same_v (h : Heap) (A : An) (qa : Option Addr) (qc : Nat) (ia : Option Addr) (ic : Nat) (pa : Option Addr) (pc : Nat) (q1 : RowE h (.slice qa A.b.length qc) A.b.length 1 (A.b.map bv)) (i1 : RowE h (.slice ia A.i.length ic) A.i.length 1 (A.i.map Value.string)) (p1 : RowE h (.slice pa A.p.length pc) A.p.length 32 (hcs A.p)) (qa2 : Option Addr) (qc2 : Nat) (ia2 : Option Addr) (ic2 : Nat) (pa2 : Option Addr) (pc2 : Nat) (q2 : RowE h (.slice qa2 A.b.length qc2) A.b.length 1 (A.b.map bv)) (i2 : RowE h (.slice ia2 A.i.length ic2) A.i.length 1 (A.i.map Value.string)) (p2 : RowE h (.slice pa2 A.p.length pc2) A.p.length 32 (hcs A.p)) (h32 : All32 A.p) (hil : A.i.length ≤ 1099511627776) (hpl : A.p.length ≤ 1099511627776) : Sat Tryd.prog 10 #[.agg (asc A.c (.slice qa A.b.length qc) A.sx A.se A.sh A.sg (.slice ia A.i.length ic) A.n A.y A.k (.slice pa A.p.length pc)).toArray,.agg (asc A.c (.slice qa2 A.b.length qc2) A.sx A.se A.sh A.sg (.slice ia2 A.i.length ic2) A.n A.y A.k (.slice pa2 A.p.length pc2)).toArray] h fun v h' => v = .bool true ∧ Ext h h' := by
 have e0 := Ext.refl h
 have sep : Sep h.size h.size [] := Sep.nil _ _
 refine sat_in Tryd.func10 96 fun a hF => ?_
 refine qS hF ?_
 refine tN 0 (pV h.size) ((asc A.c (.slice qa A.b.length qc) A.sx A.se A.sh A.sg (.slice ia A.i.length ic) A.n A.y A.k (.slice pa A.p.length pc)).toArray) 41 fun h1 g2 m3 => ?_
 have lt4 := blk_lt m3
 have zs5 := e0.size
 have hlo := e0.size
 have sepo := sep
 replace e0 := e0.ext g2
 replace sep := sep.up g2.size
 replace sep := sepo.new hlo (blk_lt m3)
 clear sepo hlo
 refine tN 1 (pV h1.size) ((asc A.c (.slice qa2 A.b.length qc2) A.sx A.se A.sh A.sg (.slice ia2 A.i.length ic2) A.n A.y A.k (.slice pa2 A.p.length pc2)).toArray) 41 fun h6 g7 m8 => ?_
 have lt9 := blk_lt m8
 have zs10 := e0.size
 have hlo := e0.size
 have sepo := sep
 replace e0 := e0.ext g7
 replace m3 := Ext.blk g7 m3
 replace sep := sep.up g7.size
 replace sep := sepo.new hlo (blk_lt m8)
 clear sepo hlo
 refine sT [(2,pV h.size),(3,pV h1.size)] fun a hF => ?_
 refine cS ?_
 refine qS hF ?_
 refine tC 1 (.int .i64 A.c) (Calm.load (T := 31) (p := ⟨h.size,0,none⟩) (by kernel_rfl) (Loads.one (k := 1) (by kernel_rfl) ((hcell_blk m3).trans (rfl)))) ?_
 refine tC 3 (.int .i64 A.c) (Calm.load (T := 31) (p := ⟨h1.size,0,none⟩) (by kernel_rfl) (Loads.one (k := 1) (by kernel_rfl) ((hcell_blk m8).trans (rfl)))) ?_
 refine t1 4 (.bool false) (.bool (!(A.c == A.c))) (congrArg (fun b => Value.bool (!b)) (beq_iff_eq.2 (by omega))) ?_
 refine tC 7 (.slice qa A.b.length qc) (Calm.load (T := 23) (p := ⟨h.size,1,none⟩) (by kernel_rfl) (Loads.one (k := 1) (by kernel_rfl) ((hcell_blk m3).trans (rfl)))) ?_
 refine tC 8 (.string (ByteArray.mk A.b.toArray)) (Calm.str (l := A.b) (by kernel_rfl) (q1.1.ext e0)) ?_
 refine tC 10 (.slice qa2 A.b.length qc2) (Calm.load (T := 23) (p := ⟨h1.size,1,none⟩) (by kernel_rfl) (Loads.one (k := 1) (by kernel_rfl) ((hcell_blk m8).trans (rfl)))) ?_
 refine tC 11 (.string (ByteArray.mk A.b.toArray)) (Calm.str (l := A.b) (by kernel_rfl) (q2.1.ext e0)) ?_
 refine t1 12 (.bool false) (.bool (!((ByteArray.mk A.b.toArray).toList == (ByteArray.mk A.b.toArray).toList))) (congrArg Value.bool (by simp)) ?_
 refine tC 16 (.agg (stc A.sx A.se A.sh A.sg).toArray) (Calm.load (T := 35) (p := ⟨h.size,2,none⟩) (by kernel_rfl) (Loads.blk (vs := stc A.sx A.se A.sh A.sg) (by kernel_rfl) m3 rfl)) ?_
 refine tC 18 (.agg (stc A.sx A.se A.sh A.sg).toArray) (Calm.load (T := 35) (p := ⟨h1.size,2,none⟩) (by kernel_rfl) (Loads.blk (vs := stc A.sx A.se A.sh A.sg) (by kernel_rfl) m8 rfl)) ?_
 refine tC 19 (.bool false) ((Calm.eqR (q := false) (r := true) (by kernel_rfl) fun w => (run_stEq A.sx A.se A.sh A.sg A.sx A.se A.sh A.sg w).trans (congrArg (fun b => Result.ok b w) (stEq_self A.sx A.se A.sh A.sg))) _) ?_
 refine tC 23 (.agg (hdc A.n A.y).toArray) (Calm.load (T := 38) (p := ⟨h.size,40,none⟩) (by kernel_rfl) (Loads.blk (vs := hdc A.n A.y) (by kernel_rfl) m3 rfl)) ?_
 refine tC 25 (.agg (hdc A.n A.y).toArray) (Calm.load (T := 38) (p := ⟨h1.size,40,none⟩) (by kernel_rfl) (Loads.blk (vs := hdc A.n A.y) (by kernel_rfl) m8 rfl)) ?_
 refine tC 26 (.bool false) ((Calm.eqR (q := false) (r := true) (by kernel_rfl) fun w => (run_hdEq A.n A.y A.n A.y w).trans (congrArg (fun b => Result.ok b w) (hdEq_self A.n A.y))) _) ?_
 refine tC 30 (.int .i64 A.k) (Calm.load (T := 3) (p := ⟨h.size,73,none⟩) (by kernel_rfl) (Loads.one (k := 1) (by kernel_rfl) ((hcell_blk m3).trans (rfl)))) ?_
 refine tC 32 (.int .i64 A.k) (Calm.load (T := 3) (p := ⟨h1.size,73,none⟩) (by kernel_rfl) (Loads.one (k := 1) (by kernel_rfl) ((hcell_blk m8).trans (rfl)))) ?_
 refine t1 33 (.bool false) (.bool (!(A.k == A.k))) (congrArg (fun b => Value.bool (!b)) (beq_iff_eq.2 (by omega))) ?_
 refine tC 37 (.slice ia A.i.length ic) (Calm.load (T := 36) (p := ⟨h.size,39,none⟩) (by kernel_rfl) (Loads.one (k := 1) (by kernel_rfl) ((hcell_blk m3).trans (rfl)))) ?_
 refine tC 40 (.slice ia2 A.i.length ic2) (Calm.load (T := 36) (p := ⟨h1.size,39,none⟩) (by kernel_rfl) (Loads.one (k := 1) (by kernel_rfl) ((hcell_blk m8).trans (rfl)))) ?_
 refine t1 42 (.bool false) (.bool (!(((A.i.length : Nat) : Int) == ((A.i.length : Nat) : Int)))) (congrArg (fun b => Value.bool (!b)) (beq_iff_eq.2 (by omega))) ?_
 refine tC 46 (.slice pa A.p.length pc) (Calm.load (T := 39) (p := ⟨h.size,74,none⟩) (by kernel_rfl) (Loads.one (k := 1) (by kernel_rfl) ((hcell_blk m3).trans (rfl)))) ?_
 refine tC 49 (.slice pa2 A.p.length pc2) (Calm.load (T := 39) (p := ⟨h1.size,74,none⟩) (by kernel_rfl) (Loads.one (k := 1) (by kernel_rfl) ((hcell_blk m8).trans (rfl)))) ?_
 refine t1 51 (.bool false) (.bool (!(((A.p.length : Nat) : Int) == ((A.p.length : Nat) : Int)))) (congrArg (fun b => Value.bool (!b)) (beq_iff_eq.2 (by omega))) ?_
 refine sT [(59,.bool false)] fun a hF => ?_
 refine cF 59 hF ?_
 refine cN ?_
 refine tK ?_
 refine cS ?_
 refine qP [(5,.int .i64 0)] hF fun a hF => ?_
 refine cB 0 ?_
 refine cL (fun m a h' => ∃ k : Nat,m = A.i.length - k ∧ (Ext h h') ∧ (h'[h.size]? = some (.cells (asc A.c (.slice qa A.b.length qc) A.sx A.se A.sh A.sg (.slice ia A.i.length ic) A.n A.y A.k (.slice pa A.p.length pc)).toArray 41)) ∧ (h'[h1.size]? = some (.cells (asc A.c (.slice qa2 A.b.length qc2) A.sx A.se A.sh A.sg (.slice ia2 A.i.length ic2) A.n A.y A.k (.slice pa2 A.p.length pc2)).toArray 41)) ∧ (k ≤ A.i.length) ∧ (Fr a 96 [(2,.pointer (some ⟨h.size,0,none⟩)),(3,.pointer (some ⟨h1.size,0,none⟩)),(5,.int .i64 ((k : Nat) : Int))])) (A.i.length - 0) ⟨0,rfl,e0,m3,m8,(by omega),hF.to⟩ ?_
 clear hF a
 clear e0
 clear m3
 clear m8
 rintro m a h11 ⟨k,rfl,e0,m3,m8,hk,hF⟩
 refine cS ?_
 refine qS hF ?_
 refine tC 2 (.slice ia A.i.length ic) (Calm.load (T := 36) (p := ⟨h.size,39,none⟩) (by kernel_rfl) (Loads.one (k := 1) (by kernel_rfl) ((hcell_blk m3).trans (rfl)))) ?_
 refine sT [(64,.bool (decide (((k : Nat) : Int) < ((A.i.length : Nat) : Int))))] fun a hF => ?_
 refine cJ 64 hF (fun hc12 => ?_) fun hc12 => ?_
 ·skip
  have hkn : k < A.i.length := by omega
  have hFn := hF
  obtain ⟨aa,rfl,hcap_aa⟩ := i1.1.someA (by omega)
  have hF := hFn; clear hFn
  have hFn := hF
  obtain ⟨aa2,rfl,hcap_aa2⟩ := i2.1.someA (by omega)
  have hF := hFn; clear hFn
  refine cN ?_
  refine tK ?_
  refine cS ?_
  refine cB 1 ?_
  refine cS ?_
  refine cD [0,1,0,7,15,0,32,0,224,480,1023] 6 mixed hF ?_
  refine mP 1 [0] [.pointer (some ⟨h.size,39,none⟩)] ?_
  refine mL 3 2 1 (.slice (some aa) A.i.length ic) (Calm.load (T := 36) (p := ⟨h.size,39,none⟩) (by kernel_rfl) (Loads.one (k := 1) (by kernel_rfl) ((hcell_blk m3).trans (rfl)))) ?_
  refine mP 7 [2] [nV k] ?_
  refine mF 15 3 (.pointer (some (Addr.add aa k))) (Calm.indexA (a := aa) (len := A.i.length) (sz := 1) (k := ((k : Nat) : Int)) k k (by kernel_rfl) rfl (by omega) (by omega)) ?_
  refine mL 31 18 4 (.string (A.i.getD k ByteArray.empty)) (Calm.load (T := 9) (p := (Addr.add aa k)) (by kernel_rfl) (Loads.one (k := 1) (by kernel_rfl) (Row.str (i1.1.ext e0) hkn))) ?_
  refine mP 63 [5] [.pointer (some ⟨h1.size,39,none⟩)] ?_
  refine mL 127 82 6 (.slice (some aa2) A.i.length ic2) (Calm.load (T := 36) (p := ⟨h1.size,39,none⟩) (by kernel_rfl) (Loads.one (k := 1) (by kernel_rfl) ((hcell_blk m8).trans (rfl)))) ?_
  refine mP 255 [7] [nV k] ?_
  refine mF 511 8 (.pointer (some (Addr.add aa2 k))) (Calm.indexA (a := aa2) (len := A.i.length) (sz := 1) (k := ((k : Nat) : Int)) k k (by kernel_rfl) rfl (by omega) (by omega)) ?_
  refine mL 1023 594 9 (.string (A.i.getD k ByteArray.empty)) (Calm.load (T := 9) (p := (Addr.add aa2 k)) (by kernel_rfl) (Loads.one (k := 1) (by kernel_rfl) (Row.str (i2.1.ext e0) hkn))) ?_
  refine m1 2047 10 (.bool false) (.bool (!((A.i.getD k ByteArray.empty).toList == (A.i.getD k ByteArray.empty).toList))) (congrArg Value.bool (by simp)) ?_
  refine mE [(77,.bool false)] fun a hF => ?_
  refine tK ?_
  refine cF 77 hF ?_
  refine cN ?_
  refine bK ?_
  refine tK ?_
  refine rS hF ?_
  refine tA 1 k 1 ?_
  refine sE [(5,nV (k + 1))] fun a hF => ?_
  show ∃ m',m' < _ ∧ _
  refine ⟨_,?_,(k + 1),rfl,e0,m3,m8,(by omega),hF.to⟩
  omega
 ·skip
  refine cX 0 (xT (xT (xB ?_)))
  refine tK ?_
  refine cS ?_
  refine qP [(6,.int .i64 0)] hF fun a hF => ?_
  refine cB 2 ?_
  refine cL (fun m a h' => ∃ k : Nat,m = A.p.length - k ∧ (Ext h h') ∧ (h'[h.size]? = some (.cells (asc A.c (.slice qa A.b.length qc) A.sx A.se A.sh A.sg (.slice ia A.i.length ic) A.n A.y A.k (.slice pa A.p.length pc)).toArray 41)) ∧ (h'[h1.size]? = some (.cells (asc A.c (.slice qa2 A.b.length qc2) A.sx A.se A.sh A.sg (.slice ia2 A.i.length ic2) A.n A.y A.k (.slice pa2 A.p.length pc2)).toArray 41)) ∧ (k ≤ A.p.length) ∧ (Fr a 96 [(2,.pointer (some ⟨h.size,0,none⟩)),(3,.pointer (some ⟨h1.size,0,none⟩)),(6,.int .i64 ((k : Nat) : Int))])) (A.p.length - 0) ⟨0,rfl,e0,m3,m8,(by omega),hF.to⟩ ?_
  clear hF a
  clear e0
  clear m3
  clear m8
  rintro m a h13 ⟨k,rfl,e0,m3,m8,hk,hF⟩
  refine cS ?_
  refine qS hF ?_
  refine tC 2 (.slice pa A.p.length pc) (Calm.load (T := 39) (p := ⟨h.size,74,none⟩) (by kernel_rfl) (Loads.one (k := 1) (by kernel_rfl) ((hcell_blk m3).trans (rfl)))) ?_
  refine sT [(82,.bool (decide (((k : Nat) : Int) < ((A.p.length : Nat) : Int))))] fun a hF => ?_
  refine cJ 82 hF (fun hc14 => ?_) fun hc14 => ?_
  ·skip
   have hkn : k < A.p.length := by omega
   have hFn := hF
   obtain ⟨aa,rfl,hcap_aa⟩ := p1.1.someA (by omega)
   have hF := hFn; clear hFn
   have hFn := hF
   obtain ⟨aa2,rfl,hcap_aa2⟩ := p2.1.someA (by omega)
   have hF := hFn; clear hFn
   refine cN ?_
   refine tK ?_
   refine cS ?_
   refine cB 3 ?_
   refine cS ?_
   refine cD [0,1,0,7,15,0,32,0,224,480,1023] 11 mixed hF ?_
   refine mP 1 [0] [.pointer (some ⟨h.size,74,none⟩)] ?_
   refine mL 3 2 1 (.slice (some aa) A.p.length pc) (Calm.load (T := 39) (p := ⟨h.size,74,none⟩) (by kernel_rfl) (Loads.one (k := 1) (by kernel_rfl) ((hcell_blk m3).trans (rfl)))) ?_
   refine mP 7 [2] [nV k] ?_
   refine mF 15 3 (.pointer (some (Addr.add aa (k * 32)))) (Calm.indexA (a := aa) (len := A.p.length) (sz := 32) (k := ((k : Nat) : Int)) k (k * 32) (by kernel_rfl) rfl (by omega) (by omega)) ?_
   refine mL 31 18 4 (.agg ((A.p.getD k []).map bv).toArray) (Calm.load (T := 33) (p := (Addr.add aa (k * 32))) (by kernel_rfl) (HR.loads (k := k) (q := k * 32) ((⟨p1.1.ext e0,h32,rfl⟩ : HR _ _ _ _ _)) (by kernel_rfl) (by omega) (by omega))) ?_
   refine mP 63 [5] [.pointer (some ⟨h1.size,74,none⟩)] ?_
   refine mL 127 82 6 (.slice (some aa2) A.p.length pc2) (Calm.load (T := 39) (p := ⟨h1.size,74,none⟩) (by kernel_rfl) (Loads.one (k := 1) (by kernel_rfl) ((hcell_blk m8).trans (rfl)))) ?_
   refine mP 255 [7] [nV k] ?_
   refine mF 511 8 (.pointer (some (Addr.add aa2 (k * 32)))) (Calm.indexA (a := aa2) (len := A.p.length) (sz := 32) (k := ((k : Nat) : Int)) k (k * 32) (by kernel_rfl) rfl (by omega) (by omega)) ?_
   refine mL 1023 594 9 (.agg ((A.p.getD k []).map bv).toArray) (Calm.load (T := 33) (p := (Addr.add aa2 (k * 32))) (by kernel_rfl) (HR.loads (k := k) (q := k * 32) ((⟨p2.1.ext e0,h32,rfl⟩ : HR _ _ _ _ _)) (by kernel_rfl) (by omega) (by omega))) ?_
   refine mF 2047 10 (.bool false) (eqHT (q := false) (l := (A.p.getD k [])) (r := (A.p.getD k [])) (n := 32) (by kernel_rfl) ((⟨p2.1.ext e0,h32,rfl⟩ : HR _ (some aa2) _ _ _).2.1.get (k := k) (by rw [(⟨p2.1.ext e0,h32,rfl⟩ : HR _ (some aa2) _ _ _).2.2]; omega)) ((⟨p2.1.ext e0,h32,rfl⟩ : HR _ (some aa2) _ _ _).2.1.get (k := k) (by rw [(⟨p2.1.ext e0,h32,rfl⟩ : HR _ (some aa2) _ _ _).2.2]; omega)) rfl) ?_
   refine mE [(95,.bool false)] fun a hF => ?_
   refine tK ?_
   refine cF 95 hF ?_
   refine cN ?_
   refine bK ?_
   refine tK ?_
   refine rS hF ?_
   refine tA 1 k 1 ?_
   refine sE [(6,nV (k + 1))] fun a hF => ?_
   show ∃ m',m' < _ ∧ _
   refine ⟨_,?_,(k + 1),rfl,e0,m3,m8,(by omega),hF.to⟩
   omega
  ·skip
   refine cX 2 (xT (xT (xB ?_)))
   refine tK ?_
   refine qP [(4,.bool true)] hF fun a hF => ?_
   refine cR ?_
   refine rT 4 (.bool true) hF ?_
   exact ⟨rfl,e0⟩
theorem same_ans (h : Heap) (v w : Value) (A : An) (a : AnsAt h v A) (b : AnsAt h w A) (hil : A.i.length ≤ 1099511627776) (hpl : A.p.length ≤ 1099511627776) : Sat Tryd.prog 10 #[v,w] h fun v h' => v = .bool true ∧ Ext h h' := by
 obtain ⟨qa,qc,ia,ic,pa,pc,rfl,q1,i1,p1,h32⟩ := a
 obtain ⟨qa2,qc2,ia2,ic2,pa2,pc2,rfl,q2,i2,p2,_⟩ := b
 exact same_v h A qa qc ia ic pa pc q1 i1 p1 qa2 qc2 ia2 ic2 pa2 pc2 q2 i2 p2 h32 hil hpl
end Go.Proofs.YtegkejcglfgpmaaDoor
end
section
namespace Go.Proofs.YtegkejcglfgpmaaDoor
open Go Go.Lane Go.Sha
noncomputable def b41 : Code := Tryd.f41.body.getD .skip
theorem kind_sat (h : Heap) (kd n : Int) (s : ByteArray) (oa : Option Addr) (on oc : Nat) (ka : Option Addr) (kn kc : Nat) : Sat Tryd.prog 41 #[.agg #[.int .i64 kd,.string s,.slice oa on oc,.int .i64 n,.slice ka kn kc]] h fun v h' => v = .tuple #[.bool (kindC kd).1,.bool (kindC kd).2] ∧ Ext h h' := by
 have e0 := Ext.refl h
 have sep : Sep h.size h.size [] := Sep.nil _ _
 refine sat_in Tryd.func41 20 fun a hF => ?_
 refine qS hF ?_
 refine tN 0 (pV h.size) (#[.int .i64 kd,.string s,.slice oa on oc,.int .i64 n,.slice ka kn kc]) 26 fun h1 g2 m3 => ?_
 have lt4 := blk_lt m3
 have zs5 := e0.size
 have hlo := e0.size
 have sepo := sep
 replace e0 := e0.ext g2
 replace sep := sep.up g2.size
 replace sep := sepo.new hlo (blk_lt m3)
 clear sepo hlo
 refine sT [(1,pV h.size)] fun a hF => ?_
 refine cS ?_
 refine qS hF ?_
 refine tB 1 3 0 (.int .i64 kd) m3 ?_
 refine sT [(5,.int .i64 kd)] fun a hF => ?_
 refine cB 0 ?_
 refine cS ?_
 refine qP [(6,.bool (decide (kd = (1 : Int))))] hF fun a hF => ?_
 refine cJ 6 hF (fun hc6 => ?_) fun hc6 => ?_
 ·skip
  refine cN ?_
  refine tK ?_
  refine cJ 6 hF (fun hx7 => ?_) fun hx7 => absurd hc6 hx7
  refine qP [(2,.bool true),(3,.bool true)] hF fun a hF => ?_
  refine cR (yB (yT ?_))
  refine ret_ok [.tmp 2,.tmp 3] [.bool true,.bool true] (.tuple #[.bool true,.bool true]) rfl hF ⟨rfl,rfl,trivial⟩ rfl ?_
  rw [kind_tt (by omega)]; exact ⟨rfl,e0⟩
 ·skip
  refine qP [(6,.bool (decide (kd = (4 : Int))))] hF fun a hF => ?_
  refine cJ 6 hF (fun hc8 => ?_) fun hc8 => ?_
  ·skip
   refine cN ?_
   refine tK ?_
   refine cJ 6 hF (fun hx9 => ?_) fun hx9 => absurd hc8 hx9
   refine qP [(2,.bool true),(3,.bool true)] hF fun a hF => ?_
   refine cR (yB (yT ?_))
   refine ret_ok [.tmp 2,.tmp 3] [.bool true,.bool true] (.tuple #[.bool true,.bool true]) rfl hF ⟨rfl,rfl,trivial⟩ rfl ?_
   rw [kind_tt (by omega)]; exact ⟨rfl,e0⟩
  ·skip
   refine qP [(6,.bool (decide (kd = (5 : Int))))] hF fun a hF => ?_
   refine cJ 6 hF (fun hc10 => ?_) fun hc10 => ?_
   ·skip
    refine cN ?_
    refine tK ?_
    refine cJ 6 hF (fun hx11 => ?_) fun hx11 => absurd hc10 hx11
    refine qP [(2,.bool true),(3,.bool true)] hF fun a hF => ?_
    refine cR (yB (yT ?_))
    refine ret_ok [.tmp 2,.tmp 3] [.bool true,.bool true] (.tuple #[.bool true,.bool true]) rfl hF ⟨rfl,rfl,trivial⟩ rfl ?_
    rw [kind_tt (by omega)]; exact ⟨rfl,e0⟩
   ·skip
    refine rP [(6,.bool (decide (kd = (6 : Int))))] hF fun a hF => ?_
    refine tK ?_
    refine cJ 6 hF (fun hc12 => ?_) fun hc12 => ?_
    ·skip
     refine qP [(2,.bool true),(3,.bool true)] hF fun a hF => ?_
     refine cR (yB (yT ?_))
     refine ret_ok [.tmp 2,.tmp 3] [.bool true,.bool true] (.tuple #[.bool true,.bool true]) rfl hF ⟨rfl,rfl,trivial⟩ rfl ?_
     rw [kind_tt (by omega)]; exact ⟨rfl,e0⟩
    ·skip
     refine cS ?_
     refine qP [(11,.bool (decide (kd = (2 : Int))))] hF fun a hF => ?_
     refine cJ 11 hF (fun hc13 => ?_) fun hc13 => ?_
     ·skip
      refine cN ?_
      refine tK ?_
      refine cJ 11 hF (fun hx14 => ?_) fun hx14 => absurd hc13 hx14
      refine qP [(2,.bool true),(3,.bool false)] hF fun a hF => ?_
      refine cR (yB (yT ?_))
      refine ret_ok [.tmp 2,.tmp 3] [.bool true,.bool false] (.tuple #[.bool true,.bool false]) rfl hF ⟨rfl,rfl,trivial⟩ rfl ?_
      rw [kind_tf (by omega) (by omega)]; exact ⟨rfl,e0⟩
     ·skip
      refine qP [(11,.bool (decide (kd = (3 : Int))))] hF fun a hF => ?_
      refine cJ 11 hF (fun hc15 => ?_) fun hc15 => ?_
      ·skip
       refine cN ?_
       refine tK ?_
       refine cJ 11 hF (fun hx16 => ?_) fun hx16 => absurd hc15 hx16
       refine qP [(2,.bool true),(3,.bool false)] hF fun a hF => ?_
       refine cR (yB (yT ?_))
       refine ret_ok [.tmp 2,.tmp 3] [.bool true,.bool false] (.tuple #[.bool true,.bool false]) rfl hF ⟨rfl,rfl,trivial⟩ rfl ?_
       rw [kind_tf (by omega) (by omega)]; exact ⟨rfl,e0⟩
      ·skip
       refine qP [(11,.bool (decide (kd = (7 : Int))))] hF fun a hF => ?_
       refine cJ 11 hF (fun hc17 => ?_) fun hc17 => ?_
       ·skip
        refine cN ?_
        refine tK ?_
        refine cJ 11 hF (fun hx18 => ?_) fun hx18 => absurd hc17 hx18
        refine qP [(2,.bool true),(3,.bool false)] hF fun a hF => ?_
        refine cR (yB (yT ?_))
        refine ret_ok [.tmp 2,.tmp 3] [.bool true,.bool false] (.tuple #[.bool true,.bool false]) rfl hF ⟨rfl,rfl,trivial⟩ rfl ?_
        rw [kind_tf (by omega) (by omega)]; exact ⟨rfl,e0⟩
       ·skip
        refine qP [(11,.bool (decide (kd = (8 : Int))))] hF fun a hF => ?_
        refine cJ 11 hF (fun hc19 => ?_) fun hc19 => ?_
        ·skip
         refine cN ?_
         refine tK ?_
         refine cJ 11 hF (fun hx20 => ?_) fun hx20 => absurd hc19 hx20
         refine qP [(2,.bool true),(3,.bool false)] hF fun a hF => ?_
         refine cR (yB (yT ?_))
         refine ret_ok [.tmp 2,.tmp 3] [.bool true,.bool false] (.tuple #[.bool true,.bool false]) rfl hF ⟨rfl,rfl,trivial⟩ rfl ?_
         rw [kind_tf (by omega) (by omega)]; exact ⟨rfl,e0⟩
        ·skip
         refine qP [(11,.bool (decide (kd = (9 : Int))))] hF fun a hF => ?_
         refine cJ 11 hF (fun hc21 => ?_) fun hc21 => ?_
         ·skip
          refine cN ?_
          refine tK ?_
          refine cJ 11 hF (fun hx22 => ?_) fun hx22 => absurd hc21 hx22
          refine qP [(2,.bool true),(3,.bool false)] hF fun a hF => ?_
          refine cR (yB (yT ?_))
          refine ret_ok [.tmp 2,.tmp 3] [.bool true,.bool false] (.tuple #[.bool true,.bool false]) rfl hF ⟨rfl,rfl,trivial⟩ rfl ?_
          rw [kind_tf (by omega) (by omega)]; exact ⟨rfl,e0⟩
         ·skip
          refine qP [(11,.bool (decide (kd = (11 : Int))))] hF fun a hF => ?_
          refine cJ 11 hF (fun hc23 => ?_) fun hc23 => ?_
          ·skip
           refine cN ?_
           refine tK ?_
           refine cJ 11 hF (fun hx24 => ?_) fun hx24 => absurd hc23 hx24
           refine qP [(2,.bool true),(3,.bool false)] hF fun a hF => ?_
           refine cR (yB (yT ?_))
           refine ret_ok [.tmp 2,.tmp 3] [.bool true,.bool false] (.tuple #[.bool true,.bool false]) rfl hF ⟨rfl,rfl,trivial⟩ rfl ?_
           rw [kind_tf (by omega) (by omega)]; exact ⟨rfl,e0⟩
          ·skip
           refine qP [(11,.bool (decide (kd = (15 : Int))))] hF fun a hF => ?_
           refine cJ 11 hF (fun hc25 => ?_) fun hc25 => ?_
           ·skip
            refine cN ?_
            refine tK ?_
            refine cJ 11 hF (fun hx26 => ?_) fun hx26 => absurd hc25 hx26
            refine qP [(2,.bool true),(3,.bool false)] hF fun a hF => ?_
            refine cR (yB (yT ?_))
            refine ret_ok [.tmp 2,.tmp 3] [.bool true,.bool false] (.tuple #[.bool true,.bool false]) rfl hF ⟨rfl,rfl,trivial⟩ rfl ?_
            rw [kind_tf (by omega) (by omega)]; exact ⟨rfl,e0⟩
           ·skip
            refine rP [(11,.bool (decide (kd = (16 : Int))))] hF fun a hF => ?_
            refine tK ?_
            refine cJ 11 hF (fun hc27 => ?_) fun hc27 => ?_
            ·skip
             refine qP [(2,.bool true),(3,.bool false)] hF fun a hF => ?_
             refine cR (yB (yT ?_))
             refine ret_ok [.tmp 2,.tmp 3] [.bool true,.bool false] (.tuple #[.bool true,.bool false]) rfl hF ⟨rfl,rfl,trivial⟩ rfl ?_
             rw [kind_tf (by omega) (by omega)]; exact ⟨rfl,e0⟩
            ·skip
             refine cN ?_
             refine bK ?_
             refine tK ?_
             refine qP [(2,.bool false),(3,.bool false)] hF fun a hF => ?_
             refine cR ?_
             refine ret_ok [.tmp 2,.tmp 3] [.bool false,.bool false] (.tuple #[.bool false,.bool false]) rfl hF ⟨rfl,rfl,trivial⟩ rfl ?_
             rw [kind_ff (by omega) (by omega)]; exact ⟨rfl,e0⟩
noncomputable def b69 : Code := Tryd.f69.body.getD .skip
theorem eqS_sat (h : Heap) (l r : List ByteArray) (va : Option Addr) (vc : Nat) (vb : Option Addr) (vd : Nat) (hl1 : RowE h (.slice va l.length vc) l.length 1 (l.map Value.string)) (hr1 : RowE h (.slice vb r.length vd) r.length 1 (r.map Value.string)) (hlb : l.length ≤ 1099511627776) : Sat Tryd.prog 69 #[.slice va l.length vc,.slice vb r.length vd] h fun v h' => v = .bool (decide (l = r)) ∧ h' = h := by
 refine sat_in Tryd.func69 26 fun a hF => ?_
 refine qP [] hF fun a hF => ?_
 refine cS ?_
 refine cS ?_
 rcases Nat.decEq l.length r.length with hle | hle
 ·skip
  refine rS hF ?_
  refine t1 4 (.bool true) (.bool (!(((l.length : Nat) : Int) == ((r.length : Nat) : Int)))) (congrArg (fun b => Value.bool (!b)) (beq_eq_false_iff_ne.2 (by omega))) ?_
  refine sE [(10,.bool true)] fun a hF => ?_
  refine tK ?_
  refine cT 10 hF ?_
  refine qP [(4,.bool false)] hF fun a hF => ?_
  refine cR (yT ?_)
  refine rT 4 (.bool false) hF ?_
  exact ⟨by rw [decide_eq_false (fun e => hle (by rw [e]))],rfl⟩
 ·skip
  refine rS hF ?_
  refine t1 4 (.bool false) (.bool (!(((l.length : Nat) : Int) == ((r.length : Nat) : Int)))) (congrArg (fun b => Value.bool (!b)) (beq_iff_eq.2 (by omega))) ?_
  refine sE [(10,.bool false)] fun a hF => ?_
  refine tK ?_
  refine cF 10 hF ?_
  refine cN ?_
  refine tK ?_
  refine cS ?_
  refine qP [(12,nV l.length),(13,.int .i64 0)] hF fun a hF => ?_
  refine cB 0 ?_
  refine cL (fun m a h' => ∃ k : Nat,m = l.length - k ∧ (h' = h) ∧ (k ≤ l.length) ∧ (l.take k = r.take k) ∧ (Fr a 26 [(0,.slice va l.length vc),(1,.slice vb r.length vd),(12,.int .i64 ((l.length : Nat) : Int)),(13,.int .i64 ((k : Nat) : Int))])) (l.length - 0) ⟨0,rfl,rfl,(by omega),rfl,hF.to⟩ ?_
  clear hF a
  rintro m a h1 ⟨k,rfl,hh,hk,ht,hF⟩
  refine qP [(14,.bool (decide (((k : Nat) : Int) < ((l.length : Nat) : Int))))] hF fun a hF => ?_
  refine cS ?_
  refine cJ 14 hF (fun hc2 => ?_) fun hc2 => ?_
  ·skip
   have hkn : k < l.length := by omega
   have hFn := hF
   obtain ⟨aa,rfl,hcap_aa⟩ := hl1.1.someA (by omega)
   have hF := hFn; clear hFn
   have hFn := hF
   obtain ⟨ab,rfl,hcap_ab⟩ := hr1.1.someA (by omega)
   have hF := hFn; clear hFn
   refine cN ?_
   refine tK ?_
   refine cS ?_
   refine cB 1 ?_
   refine qP [(5,nV k)] hF fun a hF => ?_
   refine cS ?_
   refine cD [0,0,3,7,0,0,48,112,255] 6 mixed hF ?_
   refine mP 3 [0,1] [.slice (some aa) l.length vc,nV k] ?_
   refine mF 7 2 (.pointer (some (Addr.add aa k))) (Calm.indexA (a := aa) (len := l.length) (sz := 1) (k := ((k : Nat) : Int)) k k (by kernel_rfl) rfl (by omega) (by omega)) ?_
   refine mL 15 8 3 (.string (l.getD k ByteArray.empty)) (Calm.load (T := 9) (p := (Addr.add aa k)) (by kernel_rfl) (Loads.one (k := 1) (by kernel_rfl) (hh ▸ Row.str hl1.1 (by omega)))) ?_
   refine mP 63 [4,5] [.slice (some ab) r.length vd,nV k] ?_
   refine mF 127 6 (.pointer (some (Addr.add ab k))) (Calm.indexA (a := ab) (len := r.length) (sz := 1) (k := ((k : Nat) : Int)) k k (by kernel_rfl) rfl (by omega) (by omega)) ?_
   refine mL 255 136 7 (.string (r.getD k ByteArray.empty)) (Calm.load (T := 9) (p := (Addr.add ab k)) (by kernel_rfl) (Loads.one (k := 1) (by kernel_rfl) (hh ▸ Row.str hr1.1 (by omega)))) ?_
   refine m1 511 8 (.bool (!decide ((l.getD k ByteArray.empty) = (r.getD k ByteArray.empty)))) (.bool (!((l.getD k ByteArray.empty).toList == (r.getD k ByteArray.empty).toList))) (congrArg (fun b => Value.bool (!b)) (str_beq _ _)) ?_
   refine mE [(24,.bool (!decide ((l.getD k ByteArray.empty) = (r.getD k ByteArray.empty))))] fun a hF => ?_
   refine tK ?_
   refine cI 24 hF (fun hc3 => ?_) fun hc3 => ?_
   ·skip
    have hno := ne_of_getD hc3
    refine qP [(4,.bool false)] hF fun a hF => ?_
    refine cR (yB (yT (yT (yB (yT ?_)))))
    refine rT 4 (.bool false) hF ?_
    exact ⟨by rw [decide_eq_false hno],hh⟩
   ·skip
    have hee := hc3
    refine cN ?_
    refine bK ?_
    refine tK ?_
    refine rS hF ?_
    refine tA 0 k 1 ?_
    refine sE [(13,nV (k + 1))] fun a hF => ?_
    show ∃ m',m' < _ ∧ _
    refine ⟨_,?_,(k + 1),rfl,hh,(by omega),(take_eqD (d := ByteArray.empty) ht hkn (by omega) hee),hF.to⟩
    omega
  ·skip
   refine cX 0 (xT (xT (xB ?_)))
   refine tK ?_
   refine qP [(4,.bool true)] hF fun a hF => ?_
   refine cR ?_
   refine rT 4 (.bool true) hF ?_
   obtain rfl : k = l.length := by omega
   rw [List.take_length,hle,List.take_length] at ht
   exact ⟨by rw [decide_eq_true ht],hh⟩
noncomputable def b70 : Code := Tryd.f70.body.getD .skip
theorem eqHs_sat (h : Heap) (l r : List (List UInt8)) (va : Option Addr) (vc : Nat) (vb : Option Addr) (vd : Nat) (hl1 : RowE h (.slice va l.length vc) l.length 32 (hcs l)) (hr1 : RowE h (.slice vb r.length vd) r.length 32 (hcs r)) (h32 : All32 l) (h33 : All32 r) (hlb : l.length ≤ 1099511627776) : Sat Tryd.prog 70 #[.slice va l.length vc,.slice vb r.length vd] h fun v h' => v = .bool (decide (l = r)) ∧ h' = h := by
 refine sat_in Tryd.func70 26 fun a hF => ?_
 refine qP [] hF fun a hF => ?_
 refine cS ?_
 refine cS ?_
 rcases Nat.decEq l.length r.length with hle | hle
 ·skip
  refine rS hF ?_
  refine t1 4 (.bool true) (.bool (!(((l.length : Nat) : Int) == ((r.length : Nat) : Int)))) (congrArg (fun b => Value.bool (!b)) (beq_eq_false_iff_ne.2 (by omega))) ?_
  refine sE [(10,.bool true)] fun a hF => ?_
  refine tK ?_
  refine cT 10 hF ?_
  refine qP [(4,.bool false)] hF fun a hF => ?_
  refine cR (yT ?_)
  refine rT 4 (.bool false) hF ?_
  exact ⟨by rw [decide_eq_false (fun e => hle (by rw [e]))],rfl⟩
 ·skip
  refine rS hF ?_
  refine t1 4 (.bool false) (.bool (!(((l.length : Nat) : Int) == ((r.length : Nat) : Int)))) (congrArg (fun b => Value.bool (!b)) (beq_iff_eq.2 (by omega))) ?_
  refine sE [(10,.bool false)] fun a hF => ?_
  refine tK ?_
  refine cF 10 hF ?_
  refine cN ?_
  refine tK ?_
  refine cS ?_
  refine qP [(12,nV l.length),(13,.int .i64 0)] hF fun a hF => ?_
  refine cB 0 ?_
  refine cL (fun m a h' => ∃ k : Nat,m = l.length - k ∧ (h' = h) ∧ (k ≤ l.length) ∧ (l.take k = r.take k) ∧ (Fr a 26 [(0,.slice va l.length vc),(1,.slice vb r.length vd),(12,.int .i64 ((l.length : Nat) : Int)),(13,.int .i64 ((k : Nat) : Int))])) (l.length - 0) ⟨0,rfl,rfl,(by omega),rfl,hF.to⟩ ?_
  clear hF a
  rintro m a h1 ⟨k,rfl,hh,hk,ht,hF⟩
  refine qP [(14,.bool (decide (((k : Nat) : Int) < ((l.length : Nat) : Int))))] hF fun a hF => ?_
  refine cS ?_
  refine cJ 14 hF (fun hc2 => ?_) fun hc2 => ?_
  ·skip
   have hkn : k < l.length := by omega
   have hFn := hF
   obtain ⟨aa,rfl,hcap_aa⟩ := hl1.1.someA (by omega)
   have hF := hFn; clear hFn
   have hFn := hF
   obtain ⟨ab,rfl,hcap_ab⟩ := hr1.1.someA (by omega)
   have hF := hFn; clear hFn
   refine cN ?_
   refine tK ?_
   refine cS ?_
   refine cB 1 ?_
   refine qP [(5,nV k)] hF fun a hF => ?_
   refine cS ?_
   refine cD [0,0,3,7,0,0,48,112,255] 6 mixed hF ?_
   refine mP 3 [0,1] [.slice (some aa) l.length vc,nV k] ?_
   refine mF 7 2 (.pointer (some (Addr.add aa (k * 32)))) (Calm.indexA (a := aa) (len := l.length) (sz := 32) (k := ((k : Nat) : Int)) k (k * 32) (by kernel_rfl) rfl (by omega) (by omega)) ?_
   refine mL 15 8 3 (.agg ((l.getD k []).map bv).toArray) (Calm.load (T := 33) (p := (Addr.add aa (k * 32))) (by kernel_rfl) (HR.loads (k := k) (q := k * 32) ((⟨hh.symm ▸ hl1.1,h32,rfl⟩ : HR _ _ _ _ _)) (by kernel_rfl) (by omega) (by omega))) ?_
   refine mP 63 [4,5] [.slice (some ab) r.length vd,nV k] ?_
   refine mF 127 6 (.pointer (some (Addr.add ab (k * 32)))) (Calm.indexA (a := ab) (len := r.length) (sz := 32) (k := ((k : Nat) : Int)) k (k * 32) (by kernel_rfl) rfl (by omega) (by omega)) ?_
   refine mL 255 136 7 (.agg ((r.getD k []).map bv).toArray) (Calm.load (T := 33) (p := (Addr.add ab (k * 32))) (by kernel_rfl) (HR.loads (k := k) (q := k * 32) ((⟨hh.symm ▸ hr1.1,h33,rfl⟩ : HR _ _ _ _ _)) (by kernel_rfl) (by omega) (by omega))) ?_
   refine mF 511 8 (.bool (!decide ((l.getD k []) = (r.getD k [])))) (eqH0 (l := (l.getD k [])) (r := (r.getD k [])) (n := 32) (by kernel_rfl) ((⟨hl1.1,h32,rfl⟩ : HR _ (some aa) _ _ _).2.1.get (k := k) (by rw [(⟨hl1.1,h32,rfl⟩ : HR _ (some aa) _ _ _).2.2]; omega)) ((⟨hr1.1,h33,rfl⟩ : HR _ (some ab) _ _ _).2.1.get (k := k) (by rw [(⟨hr1.1,h33,rfl⟩ : HR _ (some ab) _ _ _).2.2]; omega))) ?_
   refine mE [(24,.bool (!decide ((l.getD k []) = (r.getD k []))))] fun a hF => ?_
   refine tK ?_
   refine cI 24 hF (fun hc3 => ?_) fun hc3 => ?_
   ·skip
    have hno := ne_of_getD hc3
    refine qP [(4,.bool false)] hF fun a hF => ?_
    refine cR (yB (yT (yT (yB (yT ?_)))))
    refine rT 4 (.bool false) hF ?_
    exact ⟨by rw [decide_eq_false hno],hh⟩
   ·skip
    have hee := hc3
    refine cN ?_
    refine bK ?_
    refine tK ?_
    refine rS hF ?_
    refine tA 0 k 1 ?_
    refine sE [(13,nV (k + 1))] fun a hF => ?_
    show ∃ m',m' < _ ∧ _
    refine ⟨_,?_,(k + 1),rfl,hh,(by omega),(take_eqD (d := []) ht hkn (by omega) hee),hF.to⟩
    omega
  ·skip
   refine cX 0 (xT (xT (xB ?_)))
   refine tK ?_
   refine qP [(4,.bool true)] hF fun a hF => ?_
   refine cR ?_
   refine rT 4 (.bool true) hF ?_
   obtain rfl : k = l.length := by omega
   rw [List.take_length,hle,List.take_length] at ht
   exact ⟨by rw [decide_eq_true ht],hh⟩
noncomputable def b42 : Code := Tryd.f42.body.getD .skip
set_option maxHeartbeats 1000000 in
theorem rule_v (h : Heap) (A B : An) (qa1 : Option Addr) (qc1 : Nat) (ia1 : Option Addr) (ic1 : Nat) (pa1 : Option Addr) (pc1 : Nat) (q1 : RowE h (.slice qa1 A.b.length qc1) A.b.length 1 (A.b.map bv)) (i1 : RowE h (.slice ia1 A.i.length ic1) A.i.length 1 (A.i.map Value.string)) (p1 : RowE h (.slice pa1 A.p.length pc1) A.p.length 32 (hcs A.p)) (qa2 : Option Addr) (qc2 : Nat) (ia2 : Option Addr) (ic2 : Nat) (pa2 : Option Addr) (pc2 : Nat) (q2 : RowE h (.slice qa2 B.b.length qc2) B.b.length 1 (B.b.map bv)) (i2 : RowE h (.slice ia2 B.i.length ic2) B.i.length 1 (B.i.map Value.string)) (p2 : RowE h (.slice pa2 B.p.length pc2) B.p.length 32 (hcs B.p)) (h32 : All32 A.p) (h33 : All32 B.p) (hil1 : A.i.length ≤ 1099511627776) (hpl1 : A.p.length ≤ 1099511627776) : Sat Tryd.prog 42 #[.agg (asc A.c (.slice qa1 A.b.length qc1) A.sx A.se A.sh A.sg (.slice ia1 A.i.length ic1) A.n A.y A.k (.slice pa1 A.p.length pc1)).toArray,.agg (asc B.c (.slice qa2 B.b.length qc2) B.sx B.se B.sh B.sg (.slice ia2 B.i.length ic2) B.n B.y B.k (.slice pa2 B.p.length pc2)).toArray] h fun v h' => v = .int .i64 (ruleA A B) ∧ Ext h h' := by
 have e0 := Ext.refl h
 have sep : Sep h.size h.size [] := Sep.nil _ _
 refine sat_in Tryd.func42 52 fun a hF => ?_
 refine qS hF ?_
 refine tN 0 (pV h.size) ((asc A.c (.slice qa1 A.b.length qc1) A.sx A.se A.sh A.sg (.slice ia1 A.i.length ic1) A.n A.y A.k (.slice pa1 A.p.length pc1)).toArray) 41 fun h1 g2 m3 => ?_
 have lt4 := blk_lt m3
 have zs5 := e0.size
 have hlo := e0.size
 have sepo := sep
 replace e0 := e0.ext g2
 replace sep := sep.up g2.size
 replace sep := sepo.new hlo (blk_lt m3)
 clear sepo hlo
 refine tN 1 (pV h1.size) ((asc B.c (.slice qa2 B.b.length qc2) B.sx B.se B.sh B.sg (.slice ia2 B.i.length ic2) B.n B.y B.k (.slice pa2 B.p.length pc2)).toArray) 41 fun h6 g7 m8 => ?_
 have lt9 := blk_lt m8
 have zs10 := e0.size
 have hlo := e0.size
 have sepo := sep
 replace e0 := e0.ext g7
 replace m3 := Ext.blk g7 m3
 replace sep := sep.up g7.size
 replace sep := sepo.new hlo (blk_lt m8)
 clear sepo hlo
 refine sT [(2,pV h.size),(3,pV h1.size)] fun a hF => ?_
 refine cS ?_
 refine cB 0 ?_
 refine qS hF ?_
 refine tC 1 (.int .i64 A.c) (Calm.load (T := 31) (p := ⟨h.size,0,none⟩) (by kernel_rfl) (Loads.one (k := 1) (by kernel_rfl) ((hcell_blk m3).trans (rfl)))) ?_
 refine tC 3 (.int .i64 B.c) (Calm.load (T := 31) (p := ⟨h1.size,0,none⟩) (by kernel_rfl) (Loads.one (k := 1) (by kernel_rfl) ((hcell_blk m8).trans (rfl)))) ?_
 refine sT [(5,.bool (!decide (A.c = B.c)))] fun a hF => ?_
 refine cI 5 hF (fun hc11 => ?_) fun hc11 => ?_
 ·skip
  have r1n := hc11
  refine qP [(4,.int .i64 1)] hF fun a hF => ?_
  refine cR (yB (yT ?_))
  refine rT 4 (.int .i64 1) hF ?_
  exact ⟨by rw [rule1 r1n],e0⟩
 ·skip
  have r1y := hc11
  refine qS hF ?_
  refine tC 1 (.slice qa1 A.b.length qc1) (Calm.load (T := 23) (p := ⟨h.size,1,none⟩) (by kernel_rfl) (Loads.one (k := 1) (by kernel_rfl) ((hcell_blk m3).trans (rfl)))) ?_
  refine tC 2 (.string (ByteArray.mk A.b.toArray)) (Calm.str (l := A.b) (by kernel_rfl) (q1.1.ext e0)) ?_
  refine tC 4 (.slice qa2 B.b.length qc2) (Calm.load (T := 23) (p := ⟨h1.size,1,none⟩) (by kernel_rfl) (Loads.one (k := 1) (by kernel_rfl) ((hcell_blk m8).trans (rfl)))) ?_
  refine tC 5 (.string (ByteArray.mk B.b.toArray)) (Calm.str (l := B.b) (by kernel_rfl) (q2.1.ext e0)) ?_
  refine t1 6 (.bool (!decide (A.b = B.b))) (.bool (!((ByteArray.mk A.b.toArray).toList == (ByteArray.mk B.b.toArray).toList))) (congrArg (fun b => Value.bool (!b)) (str_beqM _ _)) ?_
  refine sT [(11,.bool (!decide (A.b = B.b)))] fun a hF => ?_
  refine cI 11 hF (fun hc12 => ?_) fun hc12 => ?_
  ·skip
   have r2n := hc12
   refine qP [(4,.int .i64 2)] hF fun a hF => ?_
   refine cR (yB (yT ?_))
   refine rT 4 (.int .i64 2) hF ?_
   exact ⟨by rw [rule2 r1y r2n],e0⟩
  ·skip
   have r2y := hc12
   refine qS hF ?_
   refine tC 1 (.agg (stc A.sx A.se A.sh A.sg).toArray) (Calm.load (T := 35) (p := ⟨h.size,2,none⟩) (by kernel_rfl) (Loads.blk (vs := stc A.sx A.se A.sh A.sg) (by kernel_rfl) m3 rfl)) ?_
   refine tC 3 (.agg (stc B.sx B.se B.sh B.sg).toArray) (Calm.load (T := 35) (p := ⟨h1.size,2,none⟩) (by kernel_rfl) (Loads.blk (vs := stc B.sx B.se B.sh B.sg) (by kernel_rfl) m8 rfl)) ?_
   refine tC 4 (.bool (!(stEq A.sx A.se A.sh A.sg B.sx B.se B.sh B.sg))) ((Calm.eqR (q := false) (by kernel_rfl) (run_stEq A.sx A.se A.sh A.sg B.sx B.se B.sh B.sg)) _) ?_
   refine sT [(19,.bool (!(stEq A.sx A.se A.sh A.sg B.sx B.se B.sh B.sg)))] fun a hF => ?_
   refine cC 19 (!(stEq A.sx A.se A.sh A.sg B.sx B.se B.sh B.sg)) hF (fun hc13 => ?_) (fun hc13 => ?_)
   ·skip
    have r3n := hc13
    refine qP [(4,.int .i64 3)] hF fun a hF => ?_
    refine cR (yB (yT ?_))
    refine rT 4 (.int .i64 3) hF ?_
    exact ⟨by rw [rule3 r1y r2y (by simpa using r3n)],e0⟩
   ·skip
    have r3y := hc13
    refine qS hF ?_
    refine tC 1 (.slice ia1 A.i.length ic1) (Calm.load (T := 36) (p := ⟨h.size,39,none⟩) (by kernel_rfl) (Loads.one (k := 1) (by kernel_rfl) ((hcell_blk m3).trans (rfl)))) ?_
    refine tC 3 (.slice ia2 B.i.length ic2) (Calm.load (T := 36) (p := ⟨h1.size,39,none⟩) (by kernel_rfl) (Loads.one (k := 1) (by kernel_rfl) ((hcell_blk m8).trans (rfl)))) ?_
    refine tC 4 (.bool (decide (A.i = B.i))) (Does.call (f := 69) (args := #[.slice ia1 A.i.length ic1,.slice ia2 B.i.length ic2]) (by kernel_rfl) (eqS_sat _ A.i B.i _ _ _ _ (i1.ext e0) (i2.ext e0) hil1)) ?_
    refine sT [(25,.bool (!decide (A.i = B.i)))] fun a hF => ?_
    refine cI 25 hF (fun hc14 => ?_) fun hc14 => ?_
    ·skip
     have r4n := hc14
     refine qP [(4,.int .i64 4)] hF fun a hF => ?_
     refine cR (yB (yT ?_))
     refine rT 4 (.int .i64 4) hF ?_
     exact ⟨by rw [rule4 r1y r2y (by simpa using r3y) r4n],e0⟩
    ·skip
     have r4y := hc14
     refine qS hF ?_
     refine tC 1 (.agg (hdc A.n A.y).toArray) (Calm.load (T := 38) (p := ⟨h.size,40,none⟩) (by kernel_rfl) (Loads.blk (vs := hdc A.n A.y) (by kernel_rfl) m3 rfl)) ?_
     refine tC 3 (.agg (hdc B.n B.y).toArray) (Calm.load (T := 38) (p := ⟨h1.size,40,none⟩) (by kernel_rfl) (Loads.blk (vs := hdc B.n B.y) (by kernel_rfl) m8 rfl)) ?_
     refine tC 4 (.bool (!(hdEq A.n A.y B.n B.y))) ((Calm.eqR (q := false) (by kernel_rfl) (run_hdEq A.n A.y B.n B.y)) _) ?_
     refine sT [(32,.bool (!(hdEq A.n A.y B.n B.y)))] fun a hF => ?_
     refine cC 32 (!(hdEq A.n A.y B.n B.y)) hF (fun hc15 => ?_) (fun hc15 => ?_)
     ·skip
      have r5n := hc15
      refine qP [(4,.int .i64 5)] hF fun a hF => ?_
      refine cR (yB (yT ?_))
      refine rT 4 (.int .i64 5) hF ?_
      exact ⟨by rw [rule5 r1y r2y (by simpa using r3y) r4y (by simpa using r5n)],e0⟩
     ·skip
      have r5y := hc15
      refine cS ?_
      rcases Int.decEq A.k B.k with hk | hk
      ·skip
       refine rS hF ?_
       refine tC 1 (.int .i64 A.k) (Calm.load (T := 3) (p := ⟨h.size,73,none⟩) (by kernel_rfl) (Loads.one (k := 1) (by kernel_rfl) ((hcell_blk m3).trans (rfl)))) ?_
       refine tC 3 (.int .i64 B.k) (Calm.load (T := 3) (p := ⟨h1.size,73,none⟩) (by kernel_rfl) (Loads.one (k := 1) (by kernel_rfl) ((hcell_blk m8).trans (rfl)))) ?_
       refine t1 4 (.bool true) (.bool (!(A.k == B.k))) (congrArg (fun b => Value.bool (!b)) (beq_eq_false_iff_ne.2 (by omega))) ?_
       refine sE [(38,.bool true)] fun a hF => ?_
       refine tK ?_
       refine cT 38 hF ?_
       refine qP [(4,.int .i64 6)] hF fun a hF => ?_
       refine cR (yB (yT ?_))
       refine rT 4 (.int .i64 6) hF ?_
       exact ⟨by rw [rule6 r1y r2y (by simpa using r3y) r4y (by simpa using r5y) (by first | exact .inl hk | exact .inr r7n)],e0⟩
      ·skip
       refine rS hF ?_
       refine tC 1 (.int .i64 A.k) (Calm.load (T := 3) (p := ⟨h.size,73,none⟩) (by kernel_rfl) (Loads.one (k := 1) (by kernel_rfl) ((hcell_blk m3).trans (rfl)))) ?_
       refine tC 3 (.int .i64 B.k) (Calm.load (T := 3) (p := ⟨h1.size,73,none⟩) (by kernel_rfl) (Loads.one (k := 1) (by kernel_rfl) ((hcell_blk m8).trans (rfl)))) ?_
       refine t1 4 (.bool false) (.bool (!(A.k == B.k))) (congrArg (fun b => Value.bool (!b)) (beq_iff_eq.2 (by omega))) ?_
       refine tC 7 (.slice pa1 A.p.length pc1) (Calm.load (T := 39) (p := ⟨h.size,74,none⟩) (by kernel_rfl) (Loads.one (k := 1) (by kernel_rfl) ((hcell_blk m3).trans (rfl)))) ?_
       refine tC 9 (.slice pa2 B.p.length pc2) (Calm.load (T := 39) (p := ⟨h1.size,74,none⟩) (by kernel_rfl) (Loads.one (k := 1) (by kernel_rfl) ((hcell_blk m8).trans (rfl)))) ?_
       refine tC 10 (.bool (decide (A.p = B.p))) (Does.call (f := 70) (args := #[.slice pa1 A.p.length pc1,.slice pa2 B.p.length pc2]) (by kernel_rfl) (eqHs_sat _ A.p B.p _ _ _ _ (p1.ext e0) (p2.ext e0) h32 h33 hpl1)) ?_
       refine sE [(38,.bool (!decide (A.p = B.p)))] fun a hF => ?_
       refine tK ?_
       refine cI 38 hF (fun hc16 => ?_) fun hc16 => ?_
       ·skip
        have r7n := hc16
        refine qP [(4,.int .i64 6)] hF fun a hF => ?_
        refine cR (yB (yT ?_))
        refine rT 4 (.int .i64 6) hF ?_
        exact ⟨by rw [rule6 r1y r2y (by simpa using r3y) r4y (by simpa using r5y) (by first | exact .inl hk | exact .inr r7n)],e0⟩
       ·skip
        have r7y := hc16
        refine cN ?_
        refine bK ?_
        refine tK ?_
        refine qP [(4,.int .i64 0)] hF fun a hF => ?_
        refine cR ?_
        refine rT 4 (.int .i64 0) hF ?_
        exact ⟨by rw [rule0 r1y r2y (by simpa using r3y) r4y (by simpa using r5y) hk r7y],e0⟩
end Go.Proofs.YtegkejcglfgpmaaDoor
end
section
namespace Go.Proofs.YtegkejcglfgpmaaDoor
open Go Go.Lane Go.Sha
noncomputable def b47 : Code := Tryd.f47.body.getD .skip
theorem do_w (h : Heap) (mb mp : Nat) (M : Md) (m : Mod h mb mp M) (kd n : Int) (s : ByteArray) (l : List UInt8) (oa : Option Addr) (oc : Nat) (ka : Option Addr) (kn kc : Nat) (hr : Row h (.slice oa l.length oc) l.length 1 (l.map bv)) (hsz : s.size ≤ 9223372036854775807) (kt : Ktab h) (hE : M.E.length ≤ 1099511627) (W : An) (hW : (step M kd n s l).2 = W) : Sat Tryd.prog 8 #[.pointer (some ⟨mb,0,none⟩),.agg #[.int .i64 kd,.string s,.slice oa l.length oc,.int .i64 n,.slice ka kn kc]] h fun v h' => ∃ qa qc ia ic pa pc,v = anv W (.slice qa W.b.length qc) (.slice ia W.i.length ic) (.slice pa W.p.length pc) ∧ RowE h' (.slice qa W.b.length qc) W.b.length 1 (W.b.map bv) ∧ RowE h' (.slice ia W.i.length ic) W.i.length 1 (W.i.map Value.string) ∧ RowE h' (.slice pa W.p.length pc) W.p.length 32 (hcs W.p) ∧ All32 W.p ∧ Mod h' mb mp (step M kd n s l).1 ∧ MG mb mp h h' := by
 subst hW
 exact (do_sat h mb mp M m kd n s l oa oc ka kn kc hr hsz kt hE).mono fun v h' ⟨⟨qa,qc,ia,ic,pa,pc,e,r1,r2,r3,r4⟩,g⟩ => ⟨qa,qc,ia,ic,pa,pc,e,r1,r2,r3,r4,g⟩
set_option maxHeartbeats 1000000 in
theorem fits_sat (h : Heap) (jb mb mp : Nat) (M : Md) (m : Mod h mb mp M) (cv : Value) (o1 o2 o4 : Bool) (hj : h[jb]? = some (.cells #[cv,.bool o1,.bool o2,.bool false,.bool o4] 74)) (kd n : Int) (s : ByteArray) (l : List UInt8) (oa : Option Addr) (oc : Nat) (ka : Option Addr) (kn kc : Nat) (hr : RowE h (.slice oa l.length oc) l.length 1 (l.map bv)) (hsz : s.size ≤ 9223372036854775807) (X : An) (xqa : Option Addr) (xqc : Nat) (xia : Option Addr) (xic : Nat) (xpa : Option Addr) (xpc : Nat) (xq : RowE h (.slice xqa X.b.length xqc) X.b.length 1 (X.b.map bv)) (xi : RowE h (.slice xia X.i.length xic) X.i.length 1 (X.i.map Value.string)) (xp : RowE h (.slice xpa X.p.length xpc) X.p.length 32 (hcs X.p)) (x32 : All32 X.p) (k11 : kd ≠ 11) (k15 : kd ≠ 15) (kt : Ktab h) (hE : M.E.length ≤ 1099511627) : Sat Tryd.prog 47 #[.pointer (some ⟨jb,0,none⟩),.pointer (some ⟨mb,0,none⟩),.agg #[.int .i64 kd,.string s,.slice oa l.length oc,.int .i64 n,.slice ka kn kc],.agg (asc X.c (.slice xqa X.b.length xqc) X.sx X.se X.sh X.sg (.slice xia X.i.length xic) X.n X.y X.k (.slice xpa X.p.length xpc)).toArray] h fun v h' => v = .int .i64 (fitF kd n s l X M).2 ∧ Mod h' mb mp (fitF kd n s l X M).1 ∧ MG mb mp h h' := by
 have hbj := blk_lt hj
 obtain ⟨hjm,hjp⟩ := m.ne2 hj (by decide)
 have e0 := Ext.refl h
 have h0s := kt.lt
 have sep : Sep h.size h.size [] := Sep.nil _ _
 refine sat_in Tryd.func47 59 fun a hF => ?_
 refine qS hF ?_
 refine tN 0 (pV h.size) (#[.int .i64 kd,.string s,.slice oa l.length oc,.int .i64 n,.slice ka kn kc]) 26 fun h1 g2 m3 => ?_
 have lt4 := blk_lt m3
 have zs5 := e0.size
 have hlo := e0.size
 have sepo := sep
 replace e0 := e0.ext g2
 replace kt := kt.ext g2
 replace xq := xq.ext g2
 replace xi := xi.ext g2
 replace xp := xp.ext g2
 replace hr := hr.ext g2
 replace hj := Ext.blk g2 hj
 replace sep := sep.up g2.size
 replace sep := sepo.new hlo (blk_lt m3)
 clear sepo hlo
 refine tN 1 (pV h1.size) ((asc X.c (.slice xqa X.b.length xqc) X.sx X.se X.sh X.sg (.slice xia X.i.length xic) X.n X.y X.k (.slice xpa X.p.length xpc)).toArray) 41 fun h6 g7 m8 => ?_
 have lt9 := blk_lt m8
 have zs10 := e0.size
 have hlo := e0.size
 have sepo := sep
 replace e0 := e0.ext g7
 replace kt := kt.ext g7
 replace xq := xq.ext g7
 replace xi := xi.ext g7
 replace xp := xp.ext g7
 replace hr := hr.ext g7
 replace hj := Ext.blk g7 hj
 replace m3 := Ext.blk g7 m3
 replace sep := sep.up g7.size
 replace sep := sepo.new hlo (blk_lt m8)
 clear sepo hlo
 refine sT [(6,pV h.size),(7,pV h1.size)] fun a hF => ?_
 refine qS hF ?_
 refine tC 1 (.agg #[.int .i64 kd,.string s,.slice oa l.length oc,.int .i64 n,.slice ka kn kc]) (Calm.load (T := 26) (p := ⟨h.size,0,none⟩) (by kernel_rfl) (Loads.blk (vs := [.int .i64 kd,.string s,.slice oa l.length oc,.int .i64 n,.slice ka kn kc]) (by kernel_rfl) m3 rfl)) ?_
 obtain ⟨W,hW⟩ : ∃ W,(step M kd n s l).2 = W := ⟨_,rfl⟩
 have mE := m.ext e0; have hwb := step_bnd m kd n s l; rw [hW] at hwb
 refine tG 2 (do_w _ mb mp M mE kd n s l oa oc ka kn kc hr.1 hsz kt hE W hW) ?_
 rintro _ h11 ⟨qa,qc,ia,ic,pa,pc,rfl,r1,r2,r3,r4,hmod,gm⟩
 have gk : MG mb mp h h11 := (MG.ofExt e0).trans gm
 have hbk := m.kb
 replace hj := gm.blk hj (by omega) (by omega)
 replace m3 := gm.blk m3 (by omega) (by omega)
 replace m8 := gm.blk m8 (by omega) (by omega)
 replace xq := xq.mgM gm mE
 replace xi := xi.mgM gm mE
 replace xp := xp.mgM gm mE
 replace sep := sep.up gm.1
 refine tN 3 (pV h11.size) ((asc (0 : Int) (.slice none 0 0) rb0 (0 : Int) false false (.slice none 0 0) (0 : Int) rb0 (0 : Int) (.slice none 0 0)).toArray) 41 fun h12 g13 m14 => ?_
 have lt15 := blk_lt m14
 have zs16 := gk.1
 have hlo := gk.1
 have sepo := sep
 replace xq := xq.ext g13
 replace xi := xi.ext g13
 replace xp := xp.ext g13
 replace r1 := r1.ext g13
 replace r2 := r2.ext g13
 replace r3 := r3.ext g13
 replace hmod := hmod.ext g13
 replace gk := gk.ext g13
 replace hj := Ext.blk g13 hj
 replace m3 := Ext.blk g13 m3
 replace m8 := Ext.blk g13 m8
 replace sep := sep.up g13.size
 replace sep := sepo.new hlo (blk_lt m14)
 clear sepo hlo
 refine tW 4 0 (asc W.c (.slice qa W.b.length qc) W.sx W.se W.sh W.sg (.slice ia W.i.length ic) W.n W.y W.k (.slice pa W.p.length pc)) (asc (0 : Int) (.slice none 0 0) rb0 (0 : Int) false false (.slice none 0 0) (0 : Int) rb0 (0 : Int) (.slice none 0 0)) (asc W.c (.slice qa W.b.length qc) W.sx W.se W.sh W.sg (.slice ia W.i.length ic) W.n W.y W.k (.slice pa W.p.length pc)) m14 (fun h17 g18 m14' => ?_)
 replace xq := xq.put1 g18 m14 (by decide)
 replace xi := xi.put1 g18 m14 (by decide)
 replace xp := xp.put1 g18 m14 (by decide)
 replace r1 := r1.put1 g18 m14 (by decide)
 replace r2 := r2.put1 g18 m14 (by decide)
 replace r3 := r3.put1 g18 m14 (by decide)
 replace hmod := hmod.put1 g18 m14 (by decide) (by omega)
 replace gk := gk.ofO g18 (fun x e => by cases e; omega)
 replace hj := Grew.blk g18 hj (by simp; omega)
 replace m3 := Grew.blk g18 m3 ((sep.bp 2 0))
 replace m8 := Grew.blk g18 m8 ((sep.bp 1 0))
 replace sep := sep.up g18.size
 clear m14; have m14 := m14'; clear m14'
 refine sT [(9,pV h11.size)] fun a hF => ?_
 refine qP [(10,.int .i64 0)] hF fun a hF => ?_
 refine cS ?_
 refine qS hF ?_
 refine tB 1 3 0 (.int .i64 kd) m3 ?_
 refine sT [(15,.int .i64 kd)] fun a hF => ?_
 refine cB 0 ?_
 refine qS hF ?_
 refine t1 0 (.bool false) (.bool (kd == (11 : Int))) (congrArg Value.bool (beq_eq_false_iff_ne.2 (by omega))) ?_
 refine sT [(16,.bool false)] fun a hF => ?_
 refine cF 16 hF ?_
 refine qS hF ?_
 refine t1 0 (.bool false) (.bool (kd == (15 : Int))) (congrArg Value.bool (beq_eq_false_iff_ne.2 (by omega))) ?_
 refine sT [(18,.bool false)] fun a hF => ?_
 refine cF 18 hF ?_
 refine qP [(23,.bool (decide (kd = (2 : Int))))] hF fun a hF => ?_
 refine cJ 23 hF (fun hc19 => ?_) fun hc19 => ?_
 ·skip
  refine qS hF ?_
  refine tB 3 4 3 (.bool false) hj ?_
  refine sT [(39,.bool false)] fun a hF => ?_
  refine cF 39 hF ?_
  refine cN ?_
  refine bK ?_
  refine tK ?_
  refine cS ?_
  refine qP [(52,.bool false)] hF fun a hF => ?_
  refine cF 52 hF ?_
  refine cN ?_
  refine tK ?_
  refine qS hF ?_
  refine tC 0 (.agg (asc W.c (.slice qa W.b.length qc) W.sx W.se W.sh W.sg (.slice ia W.i.length ic) W.n W.y W.k (.slice pa W.p.length pc)).toArray) (Calm.load (T := 41) (p := ⟨h11.size,0,none⟩) (by kernel_rfl) (Loads.blk (vs := asc W.c (.slice qa W.b.length qc) W.sx W.se W.sh W.sg (.slice ia W.i.length ic) W.n W.y W.k (.slice pa W.p.length pc)) (by kernel_rfl) m14 rfl)) ?_
  refine tC 1 (.agg (asc X.c (.slice xqa X.b.length xqc) X.sx X.se X.sh X.sg (.slice xia X.i.length xic) X.n X.y X.k (.slice xpa X.p.length xpc)).toArray) (Calm.load (T := 41) (p := ⟨h1.size,0,none⟩) (by kernel_rfl) (Loads.blk (vs := asc X.c (.slice xqa X.b.length xqc) X.sx X.se X.sh X.sg (.slice xia X.i.length xic) X.n X.y X.k (.slice xpa X.p.length xpc)) (by kernel_rfl) m8 rfl)) ?_
  refine tG 2 (rule_v _ W X _ _ _ _ _ _ r1 r2 r3 _ _ _ _ _ _ xq xi xp r4 x32 (by omega) (by omega)) ?_
  rintro _ h20 ⟨rfl,g⟩
  replace xq := xq.ext g
  replace xi := xi.ext g
  replace xp := xp.ext g
  replace r1 := r1.ext g
  replace r2 := r2.ext g
  replace r3 := r3.ext g
  replace hmod := hmod.ext g
  replace gk := gk.ext g
  replace hj := Ext.blk g hj
  replace m3 := Ext.blk g m3
  replace m8 := Ext.blk g m8
  replace m14 := Ext.blk g m14
  replace sep := sep.up g.size
  clear g
  refine sT [(8,.int .i64 (ruleA W X))] fun a hF => ?_
  refine cR ?_
  refine rT 8 (.int .i64 (ruleA W X)) hF ?_
  exact ⟨by unfold fitF; rw [hW],hmod,gk⟩
 ·skip
  refine cN ?_
  refine bK ?_
  refine tK ?_
  refine cS ?_
  refine qP [(52,.bool false)] hF fun a hF => ?_
  refine cF 52 hF ?_
  refine cN ?_
  refine tK ?_
  refine qS hF ?_
  refine tC 0 (.agg (asc W.c (.slice qa W.b.length qc) W.sx W.se W.sh W.sg (.slice ia W.i.length ic) W.n W.y W.k (.slice pa W.p.length pc)).toArray) (Calm.load (T := 41) (p := ⟨h11.size,0,none⟩) (by kernel_rfl) (Loads.blk (vs := asc W.c (.slice qa W.b.length qc) W.sx W.se W.sh W.sg (.slice ia W.i.length ic) W.n W.y W.k (.slice pa W.p.length pc)) (by kernel_rfl) m14 rfl)) ?_
  refine tC 1 (.agg (asc X.c (.slice xqa X.b.length xqc) X.sx X.se X.sh X.sg (.slice xia X.i.length xic) X.n X.y X.k (.slice xpa X.p.length xpc)).toArray) (Calm.load (T := 41) (p := ⟨h1.size,0,none⟩) (by kernel_rfl) (Loads.blk (vs := asc X.c (.slice xqa X.b.length xqc) X.sx X.se X.sh X.sg (.slice xia X.i.length xic) X.n X.y X.k (.slice xpa X.p.length xpc)) (by kernel_rfl) m8 rfl)) ?_
  refine tG 2 (rule_v _ W X _ _ _ _ _ _ r1 r2 r3 _ _ _ _ _ _ xq xi xp r4 x32 (by omega) (by omega)) ?_
  rintro _ h21 ⟨rfl,g⟩
  replace xq := xq.ext g
  replace xi := xi.ext g
  replace xp := xp.ext g
  replace r1 := r1.ext g
  replace r2 := r2.ext g
  replace r3 := r3.ext g
  replace hmod := hmod.ext g
  replace gk := gk.ext g
  replace hj := Ext.blk g hj
  replace m3 := Ext.blk g m3
  replace m8 := Ext.blk g m8
  replace m14 := Ext.blk g m14
  replace sep := sep.up g.size
  clear g
  refine sT [(8,.int .i64 (ruleA W X))] fun a hF => ?_
  refine cR ?_
  refine rT 8 (.int .i64 (ruleA W X)) hF ?_
  exact ⟨by unfold fitF; rw [hW],hmod,gk⟩
noncomputable def b45 : Code := Tryd.f45.body.getD .skip
set_option maxHeartbeats 1000000 in
theorem hold_sat (h : Heap) (jb : Nat) (bs : List (Nat × Nat)) (Ms : List Md) (o1 o2 o4 : Bool) (ca : Option Addr) (cc : Nat) (ja : JA h jb bs ⟨Ms,o1,o2,false,o4⟩ ca cc) (kd n : Int) (s : ByteArray) (l : List UInt8) (oa : Option Addr) (oc : Nat) (ka : Option Addr) (kn kc : Nat) (hr : RowE h (.slice oa l.length oc) l.length 1 (l.map bv)) (hsz : s.size ≤ 9223372036854775807) (X : An) (xqa : Option Addr) (xqc : Nat) (xia : Option Addr) (xic : Nat) (xpa : Option Addr) (xpc : Nat) (xq : RowE h (.slice xqa X.b.length xqc) X.b.length 1 (X.b.map bv)) (xi : RowE h (.slice xia X.i.length xic) X.i.length 1 (X.i.map Value.string)) (xp : RowE h (.slice xpa X.p.length xpc) X.p.length 32 (hcs X.p)) (x32 : All32 X.p) (k11 : kd ≠ 11) (k15 : kd ≠ 15) (kt : Ktab h) (hE : ∀ M ∈ Ms,M.E.length ≤ 1099511627) (hn : bs.length ≤ 1099511627) : Sat Tryd.prog 45 #[.pointer (some ⟨jb,0,none⟩),.agg #[.int .i64 kd,.string s,.slice oa l.length oc,.int .i64 n,.slice ka kn kc],.agg (asc X.c (.slice xqa X.b.length xqc) X.sx X.se X.sh X.sg (.slice xia X.i.length xic) X.n X.y X.k (.slice xpa X.p.length xpc)).toArray,.func (.func 47) #[.pointer (some ⟨jb,0,none⟩)] #[]] h fun v h' => v = .int .i64 (holdJ ⟨Ms,o1,o2,false,o4⟩ (fitF kd n s l X)).2 ∧ ∃ bs' ca cc,JA h' jb bs' (holdJ ⟨Ms,o1,o2,false,o4⟩ (fitF kd n s l X)).1 ca cc ∧ (∀ x ∈ bs',x ∈ bs) ∧ Gr (JF jb bs) h h' := by
 obtain ⟨hj,row,cs0⟩ := ja
 have hj0 := hj
 have hbj := blk_lt hj
 have hjb := cs0.nej hj (by decide)
 have hnr := cs0.nonrow hj (by decide) (by decide)
 have e0 := Ext.refl h
 have h0s := kt.lt
 have sep : Sep h.size h.size [] := Sep.nil _ _
 refine sat_in Tryd.func45 47 fun a hF => ?_
 refine qS hF ?_
 refine tN 0 (pV h.size) (#[.int .i64 kd,.string s,.slice oa l.length oc,.int .i64 n,.slice ka kn kc]) 26 fun h1 g2 m3 => ?_
 have lt4 := blk_lt m3
 have zs5 := e0.size
 have hlo := e0.size
 have sepo := sep
 replace e0 := e0.ext g2
 replace kt := kt.ext g2
 replace hj := Ext.blk g2 hj
 replace sep := sep.up g2.size
 replace sep := sepo.new hlo (blk_lt m3)
 clear sepo hlo
 refine tN 1 (pV h1.size) ((asc X.c (.slice xqa X.b.length xqc) X.sx X.se X.sh X.sg (.slice xia X.i.length xic) X.n X.y X.k (.slice xpa X.p.length xpc)).toArray) 41 fun h6 g7 m8 => ?_
 have lt9 := blk_lt m8
 have zs10 := e0.size
 have hlo := e0.size
 have sepo := sep
 replace e0 := e0.ext g7
 replace kt := kt.ext g7
 replace hj := Ext.blk g7 hj
 replace m3 := Ext.blk g7 m3
 replace sep := sep.up g7.size
 replace sep := sepo.new hlo (blk_lt m8)
 clear sepo hlo
 refine sT [(5,pV h.size),(6,pV h1.size)] fun a hF => ?_
 refine qP [(9,.slice none 0 0)] hF fun a hF => ?_
 refine qP [(10,.int .i64 0)] hF fun a hF => ?_
 refine cS ?_
 refine qS hF ?_
 refine tB 3 72 0 (.slice ca bs.length cc) hj ?_
 refine sT [(17,.slice ca bs.length cc),(18,nV bs.length),(19,.int .i64 0)] fun a hF => ?_
 refine cB 0 ?_
 have own_f : Own h6 (.slice none 0 0) 29 0 1 ((fitB (fitF kd n s l X) bs Ms 0).map mpt) := Own.nil _ _ _
 have hlo := e0.size
 replace sep := sep.none hlo; clear hlo
 have gj : Gr (JF jb bs) h h6 := (Gr.start _ _).ext e0
 have cs : CA h6 bs Ms := cs0.ext e0
 refine cL (fun m a h' => ∃ k : Nat,∃ ad : Option Addr,∃ cap : Nat,m = bs.length - k ∧ (Ktab h') ∧ (h'[jb]? = some (.cells #[.slice ca bs.length cc,.bool o1,.bool o2,.bool false,.bool o4] 74)) ∧ (h'[h.size]? = some (.cells #[.int .i64 kd,.string s,.slice oa l.length oc,.int .i64 n,.slice ka kn kc] 26)) ∧ (h'[h1.size]? = some (.cells (asc X.c (.slice xqa X.b.length xqc) X.sx X.se X.sh X.sg (.slice xia X.i.length xic) X.n X.y X.k (.slice xpa X.p.length xpc)).toArray 41)) ∧ (k ≤ bs.length) ∧ (Gr (JF jb bs) h h') ∧ (CA h' bs ((Ms.take k).map (fun M => ((fitF kd n s l X) M).1) ++ Ms.drop k)) ∧ (Own h' (.slice ad ((fitB (fitF kd n s l X) bs Ms k).length) cap) 29 ((fitB (fitF kd n s l X) bs Ms k).length) 1 ((fitB (fitF kd n s l X) bs Ms k).map mpt)) ∧ (Sep h.size h'.size [ad.map (·.block),some (h1.size),some (h.size)]) ∧ (Fr a 47 [(0,.pointer (some ⟨jb,0,none⟩)),(3,.func (.func 47) #[.pointer (some ⟨jb,0,none⟩)] #[]),(5,.pointer (some ⟨h.size,0,none⟩)),(6,.pointer (some ⟨h1.size,0,none⟩)),(9,.slice ad ((fitB (fitF kd n s l X) bs Ms k).length) cap),(10,.int .i64 (fstJ (fitF kd n s l X) Ms k)),(17,.slice ca bs.length cc),(18,.int .i64 ((bs.length : Nat) : Int)),(19,.int .i64 ((k : Nat) : Int))])) (bs.length - 0) ⟨0,none,0,rfl,kt,hj,m3,m8,(by omega),gj,cs,own_f,sep,hF.to⟩ ?_
 clear hF a
 clear kt
 clear hj
 clear m3
 clear m8
 clear gj
 clear cs
 clear own_f
 clear sep
 rintro m a h11 ⟨k,ad,cap,rfl,kt,hj,m3,m8,hk,gj,cs,own_f,sep,hF⟩
 refine qP [(20,.bool (decide (((k : Nat) : Int) < ((bs.length : Nat) : Int))))] hF fun a hF => ?_
 refine cS ?_
 refine cJ 20 hF (fun hc12 => ?_) fun hc12 => ?_
 ·skip
  have hkn : k < bs.length := by omega
  obtain ⟨x,hx⟩ : ∃ x,bs[k]? = some x := ⟨_,List.getElem?_eq_getElem hkn⟩
  obtain ⟨M,hM⟩ : ∃ M,Ms[k]? = some M := ⟨_,List.getElem?_eq_getElem (by rw [← cs0.len]; exact hkn)⟩
  have hxm := List.mem_of_getElem? hx
  have m0 := cs0.at_ k x M hx hM
  have mk := cs.at_ k x M hx (cur_at (fun M => ((fitF kd n s l X) M).1) hM)
  have hmk := m0.kb; have hmk1 := m0.k1
  obtain ⟨hjm,hjp⟩ := m0.ne2 hj0 (by decide)
  have hEM := hE M (List.mem_of_getElem? hM)
  have hFn := hF
  obtain ⟨aa,rfl,hcap_aa⟩ := row.1.someA (by omega)
  have hF := hFn; clear hFn
  refine cN ?_
  refine tK ?_
  refine cS ?_
  refine cB 1 ?_
  refine qS hF ?_
  refine tI 1 aa bs.length 1 k k ?_
  refine tC 2 (pV x.1) (Calm.load (T := 29) (p := (Addr.add aa k)) (by kernel_rfl) (Loads.one (k := 1) (by kernel_rfl) ((row.fr gj fun i e => (hnr i e).2).1.cells k (mpt x) (by rw [List.getElem?_map,hx]; rfl)))) ?_
  refine sT [(11,nV k),(12,pV x.1)] fun a hF => ?_
  refine qS hF ?_
  refine tC 2 (.agg #[.int .i64 kd,.string s,.slice oa l.length oc,.int .i64 n,.slice ka kn kc]) (Calm.load (T := 26) (p := ⟨h.size,0,none⟩) (by kernel_rfl) (Loads.blk (vs := [.int .i64 kd,.string s,.slice oa l.length oc,.int .i64 n,.slice ka kn kc]) (by kernel_rfl) m3 rfl)) ?_
  refine tC 3 (.agg (asc X.c (.slice xqa X.b.length xqc) X.sx X.se X.sh X.sg (.slice xia X.i.length xic) X.n X.y X.k (.slice xpa X.p.length xpc)).toArray) (Calm.load (T := 41) (p := ⟨h1.size,0,none⟩) (by kernel_rfl) (Loads.blk (vs := asc X.c (.slice xqa X.b.length xqc) X.sx X.se X.sh X.sg (.slice xia X.i.length xic) X.n X.y X.k (.slice xpa X.p.length xpc)) (by kernel_rfl) m8 rfl)) ?_
  refine tF 4 (Does.call (f := 47) (args := #[.pointer (some ⟨jb,0,none⟩),.pointer (some ⟨x.1,0,none⟩),.agg #[.int .i64 kd,.string s,.slice oa l.length oc,.int .i64 n,.slice ka kn kc],.agg (asc X.c (.slice xqa X.b.length xqc) X.sx X.se X.sh X.sg (.slice xia X.i.length xic) X.n X.y X.k (.slice xpa X.p.length xpc)).toArray]) (by kernel_rfl) (fits_sat _ jb x.1 x.2 M mk _ o1 o2 o4 hj kd n s l oa oc ka kn kc (hr.fr gj fun i e => (hnr i e).1) hsz X xqa xqc xia xic xpa xpc (xq.fr gj fun i e => (hnr i e).1) (xi.fr gj fun i e => (hnr i e).1) (xp.fr gj fun i e => (hnr i e).1) x32 k11 k15 kt hEM)) ?_
  rintro _ h13 ⟨rfl,hmod,gm⟩
  replace cs := cs.set hx (cur_at (fun M => ((fitF kd n s l X) M).1) hM) gm hmod
  rw [cur_set (fun M => ((fitF kd n s l X) M).1) hM] at cs
  replace gj := gj.thenF gm (by rintro i (e | e); exact .inl (.inr ⟨x,hxm,.inl e⟩); exact .inl (.inr ⟨x,hxm,.inr e⟩))
  replace kt := kt.gr gm (by rintro (e | e) <;> omega)
  replace hj := gm.blk hj (by omega) (by omega)
  replace m3 := gm.blk m3 (by omega) (by omega)
  replace m8 := gm.blk m8 (by omega) (by omega)
  replace own_f := Gr.own gm own_f (by rw [blkOf_slice]; intro k e; have := sep.low 0 rfl k e; rintro (e2 | e2) <;> omega)
  replace sep := sep.up gm.1
  refine sT [(13,.int .i64 (((fitF kd n s l X) M).2))] fun a hF => ?_
  refine cS ?_
  refine qP [(30,.bool (decide ((((fitF kd n s l X) M).2) = (0 : Int))))] hF fun a hF => ?_
  refine cJ 30 hF (fun hc14 => ?_) fun hc14 => ?_
  ·skip
   have hfz := fitB_yes (f := (fitF kd n s l X)) hx hM hc14
   have hfl := fitB_le (f := (fitF kd n s l X)) (bs := bs) (Ms := Ms) (i := k)
   refine rS hF ?_
   refine tN 2 (.slice (some ⟨h13.size,0,none⟩) 1 1) (#[pV x.1]) 29 fun h15 g16 m17 => ?_
   have lt18 := blk_lt m17
   have zs19 := gj.1
   have hlo := gj.1
   have sepo := sep
   replace own_f := own_f.ext g16
   replace gj := gj.ext g16
   replace cs := cs.ext g16
   replace kt := kt.ext g16
   replace hj := Ext.blk g16 hj
   replace m3 := Ext.blk g16 m3
   replace m8 := Ext.blk g16 m8
   replace sep := sep.up g16.size
   replace sep := sepo.new hlo (blk_lt m17)
   clear sepo hlo
   refine tF 3 (Does.append2 (t := 72) (E := 29) (sz := 1) (by_ := 8) (n := (fitB (fitF kd n s l X) bs Ms k).length) (m := 1) (v := .slice ad ((fitB (fitF kd n s l X) bs Ms k).length) cap) (x := .slice (some ⟨h13.size,0,none⟩) 1 1) (xs := ((fitB (fitF kd n s l X) bs Ms k).map mpt)) (ys := [mpt x]) (by kernel_rfl) (by kernel_rfl) own_f (Row.blk (n := 1) (sz := 1) (l := [mpt x]) m17 rfl) (List.all_eq_true.1 (by rfl)) (by unfold maxLen; omega) (by omega)) ?_
   rintro _ h22 ⟨ad20,cap21,rfl,ownx,g,hb⟩
   rw [blkOf_slice] at g hb
   have hlo := gj.1
   have sepo := sep
   replace gj := gj.thenO g (fun i e => .inr (by have := sep.low 1 rfl i e; omega))
   replace cs := cs.ownO g own_f (blkOf_slice ..) (by decide) (by decide)
   replace kt := kt.grew g (sep.zero 1 rfl h0s)
   replace hj := Grew.blk g hj (fun e => by have := sep.low 1 rfl _ e.symm; omega)
   replace m3 := Grew.blk g m3 ((sep.bp 3 1))
   replace m8 := Grew.blk g m8 ((sep.bp 2 1))
   replace m17 := Grew.blk g m17 ((sep.bp 0 1))
   replace sep := sep.up g.size
   replace sep : Sep h.size h22.size [some (h13.size),ad20.map (·.block),some (h1.size),some (h.size)] := sepo.set g.size hlo 1 (y := ad20.map (fun (x : Addr) => x.block)) rfl (hb.imp id fun e => .inr ⟨_,e,Nat.le_refl _⟩) (fun k e => ownx.lt (by rw [blkOf_slice]; exact e))
   replace own_f : Own h22 (.slice ad20 ((fitB (fitF kd n s l X) bs Ms k).length + 1) cap21) 29 ((fitB (fitF kd n s l X) bs Ms k).length + 1) 1 ((fitB (fitF kd n s l X) bs Ms k).map mpt ++ [mpt x]) := Own.appG ownx (by first | rfl | simp) (by first | rfl | (simp; done) | (simp; omega))
   clear ownx g hb hlo sepo
   have hfl2 : (fitB (fitF kd n s l X) bs Ms k).length + 1 = (fitB (fitF kd n s l X) bs Ms (k + 1)).length := by rw [hfz,List.length_append]; rfl
   rw [hfl2,show (fitB (fitF kd n s l X) bs Ms k).map mpt ++ [mpt x] = (fitB (fitF kd n s l X) bs Ms (k + 1)).map mpt by rw [hfz,List.map_append]; rfl] at own_f
   refine sE [(9,.slice ad20 (((fitB (fitF kd n s l X) bs Ms k).length) + 1) cap21)] fun a hF => ?_
   have hcan : (((fitB (fitF kd n s l X) bs Ms k).length) + 1 : Nat) = (fitB (fitF kd n s l X) bs Ms (k + 1)).length := by first | exact hfl2 | (simp; done) | (simp; omega)
   rw [hcan] at hF; clear hcan
   refine tK ?_
   refine qP [(36,.bool (decide (((k : Nat) : Int) = (0 : Int))))] hF fun a hF => ?_
   refine cJ 36 hF (fun hc23 => ?_) fun hc23 => ?_
   ·skip
    have hk0 : k = 0 := by omega
    have hfst := fst_zero (f := (fitF kd n s l X)) hk0 hM
    refine rP [(10,.int .i64 (((fitF kd n s l X) M).2))] hF fun a hF => ?_
    rw [← hfst] at hF
    refine bK ?_
    refine tK ?_
    refine rS hF ?_
    refine tA 0 k 1 ?_
    refine sE [(19,nV (k + 1))] fun a hF => ?_
    clear m17 lt18 zs19
    replace sep := sep.sub (l' := [ad20.map (·.block),some (h1.size),some (h.size)]) (.cons _ (.cons_cons _ (.cons_cons _ (.cons_cons _ (.slnil)))))
    show ∃ m',m' < _ ∧ _
    refine ⟨_,?_,(k + 1),ad20,cap21,rfl,kt,hj,m3,m8,(by omega),gj,cs,own_f,sep,hF.to⟩
    omega
   ·skip
    rw [← fst_more (fitF kd n s l X) Ms (k := k) (by omega)] at hF
    refine cN ?_
    refine bK ?_
    refine tK ?_
    refine rS hF ?_
    refine tA 0 k 1 ?_
    refine sE [(19,nV (k + 1))] fun a hF => ?_
    clear m17 lt18 zs19
    replace sep := sep.sub (l' := [ad20.map (·.block),some (h1.size),some (h.size)]) (.cons _ (.cons_cons _ (.cons_cons _ (.cons_cons _ (.slnil)))))
    show ∃ m',m' < _ ∧ _
    refine ⟨_,?_,(k + 1),ad20,cap21,rfl,kt,hj,m3,m8,(by omega),gj,cs,own_f,sep,hF.to⟩
    omega
  ·skip
   have hfz := fitB_no (f := (fitF kd n s l X)) hx hM hc14
   rw [← hfz] at own_f hF
   refine cN ?_
   refine tK ?_
   refine qP [(36,.bool (decide (((k : Nat) : Int) = (0 : Int))))] hF fun a hF => ?_
   refine cJ 36 hF (fun hc24 => ?_) fun hc24 => ?_
   ·skip
    have hk0 : k = 0 := by omega
    have hfst := fst_zero (f := (fitF kd n s l X)) hk0 hM
    refine rP [(10,.int .i64 (((fitF kd n s l X) M).2))] hF fun a hF => ?_
    rw [← hfst] at hF
    refine bK ?_
    refine tK ?_
    refine rS hF ?_
    refine tA 0 k 1 ?_
    refine sE [(19,nV (k + 1))] fun a hF => ?_
    replace sep := sep.sub (l' := [ad.map (·.block),some (h1.size),some (h.size)]) (.cons_cons _ (.cons_cons _ (.cons_cons _ (.slnil))))
    show ∃ m',m' < _ ∧ _
    refine ⟨_,?_,(k + 1),ad,cap,rfl,kt,hj,m3,m8,(by omega),gj,cs,own_f,sep,hF.to⟩
    omega
   ·skip
    rw [← fst_more (fitF kd n s l X) Ms (k := k) (by omega)] at hF
    refine cN ?_
    refine bK ?_
    refine tK ?_
    refine rS hF ?_
    refine tA 0 k 1 ?_
    refine sE [(19,nV (k + 1))] fun a hF => ?_
    replace sep := sep.sub (l' := [ad.map (·.block),some (h1.size),some (h.size)]) (.cons_cons _ (.cons_cons _ (.cons_cons _ (.slnil))))
    show ∃ m',m' < _ ∧ _
    refine ⟨_,?_,(k + 1),ad,cap,rfl,kt,hj,m3,m8,(by omega),gj,cs,own_f,sep,hF.to⟩
    omega
 ·skip
  refine cX 0 (xT (xT (xB ?_)))
  refine tK ?_
  refine cS ?_
  refine qP [(41,.bool (decide ((((fitB (fitF kd n s l X) bs Ms k).length : Nat) : Int) = (0 : Int))))] hF fun a hF => ?_
  refine cJ 41 hF (fun hc25 => ?_) fun hc25 => ?_
  ·skip
   have hke : k = bs.length := by omega
   rw [cur_end _ _ (hke.trans cs0.len)] at cs
   have hfn := fit_nil (f := (fitF kd n s l X)) (bs := bs) (Ms := Ms) cs0.len (by rw [← hke]; omega)
   refine qP [(8,.int .i64 (fstJ (fitF kd n s l X) Ms k))] hF fun a hF => ?_
   refine cR (yT ?_)
   refine rT 8 (.int .i64 (fstJ (fitF kd n s l X) Ms k)) hF ?_
   rw [hold_no (f := (fitF kd n s l X)) hfn]; exact ⟨by rw [fst_end (hke.trans cs0.len)],bs,ca,cc,⟨hj,row.fr gj fun i e => (hnr i e).2,cs⟩,fun x hx => hx,gj⟩
  ·skip
   have hke : k = bs.length := by omega
   rw [cur_end _ _ (hke.trans cs0.len)] at cs
   have hfn := fit_ne (f := (fitF kd n s l X)) (bs := bs) (Ms := Ms) cs0.len (by rw [← hke]; omega)
   refine cN ?_
   refine tK ?_
   refine qS hF ?_
   refine tW 4 0 ([.slice ad ((fitB (fitF kd n s l X) bs Ms k).length) cap]) ([.slice ca bs.length cc,.bool o1,.bool o2,.bool false,.bool o4]) ([.slice ad ((fitB (fitF kd n s l X) bs Ms k).length) cap,.bool o1,.bool o2,.bool false,.bool o4]) hj (fun h26 gz hjz => ?_)
   refine sT [] fun a hF => ?_
   refine qP [(8,.int .i64 0)] hF fun a hF => ?_
   refine cR ?_
   refine rT 8 (.int .i64 0) hF ?_
   have hnj : ∀ i,i = jb → NonRow _ i := fun i e => e ▸ NonRow.cells hj (by decide)
   have hnp : ∀ i,i = jb → NonP _ i := fun i e cs fr e2 => by rw [e,hj] at e2; cases e2
   rw [hold_yes (f := (fitF kd n s l X)) hfn]; exact ⟨rfl,fitB (fitF kd n s l X) bs Ms k,_,_,⟨hjz,(RowP.of own_f).fr gz.toGr hnp,(hke ▸ cs.fit cs0.len).fr gz.toGr hnj fun x hx => by have := hjb x (fitB_sub x hx); exact ⟨fun e => this.1 e.symm,fun e => this.2 e.symm⟩⟩,fitB_sub,gj.thenO gz (fun i e => by cases e; exact .inl (.inl rfl))⟩
end Go.Proofs.YtegkejcglfgpmaaDoor
end
section
namespace Go.Proofs.YtegkejcglfgpmaaDoor
open Go Go.Lane Go.Sha
theorem same_neM (h : Heap) (mb mp nb np : Nat) (M N : Md) (m : Mod h mb mp M) (n : Mod h nb np N) (hne : M.E.length ≠ N.E.length) : Sat Tryd.prog 11 #[.pointer (some ⟨mb,0,none⟩),.pointer (some ⟨nb,0,none⟩)] h fun v h' => v = .bool false ∧ Ext h h' := by
 obtain ⟨L,ck,ea,ec,es,m⟩ := m
 obtain ⟨L2,ck2,ea2,ec2,es2,n⟩ := n
 exact same_ne h mb mp M L ck ea ec es m nb np N L2 ck2 ea2 ec2 es2 n hne
noncomputable def b99 : Code := Tryd.f99.body.getD .skip
theorem index_no (h : Heap) (bs : List (Nat × Nat)) (Ns : List Md) (va : Option Addr) (vc : Nat) (hr : Row h (.slice va bs.length vc) bs.length 1 (bs.map mpt)) (cs : CA h bs Ns) (mb mp : Nat) (M : Md) (m : Mod h mb mp M) (hne : ∀ N ∈ Ns,M.E.length ≠ N.E.length) (hn : bs.length ≤ 1099511627) : Sat Tryd.prog 99 #[.slice va bs.length vc,.func (.func 11) #[.pointer (some ⟨mb,0,none⟩)] #[]] h fun v h' => v = .int .i64 (-1) ∧ Ext h h' := by
 have e0 := Ext.refl h
 have sep : Sep h.size h.size [] := Sep.nil _ _
 refine sat_in Tryd.func99 19 fun a hF => ?_
 refine qP [] hF fun a hF => ?_
 refine cS ?_
 refine qP [(7,nV bs.length),(8,.int .i64 0)] hF fun a hF => ?_
 refine cB 0 ?_
 refine cL (fun m a h' => ∃ k : Nat,m = bs.length - k ∧ (Ext h h') ∧ (k ≤ bs.length) ∧ (Fr a 19 [(0,.slice va bs.length vc),(1,.func (.func 11) #[.pointer (some ⟨mb,0,none⟩)] #[]),(7,.int .i64 ((bs.length : Nat) : Int)),(8,.int .i64 ((k : Nat) : Int))])) (bs.length - 0) ⟨0,rfl,e0,(by omega),hF.to⟩ ?_
 clear hF a
 clear e0
 rintro m a h1 ⟨k,rfl,e0,hk,hF⟩
 refine qP [(9,.bool (decide (((k : Nat) : Int) < ((bs.length : Nat) : Int))))] hF fun a hF => ?_
 refine cS ?_
 refine cJ 9 hF (fun hc2 => ?_) fun hc2 => ?_
 ·skip
  have hkn : k < bs.length := by omega
  obtain ⟨x,hx⟩ : ∃ x,bs[k]? = some x := ⟨_,List.getElem?_eq_getElem hkn⟩
  obtain ⟨N,hN⟩ : ∃ N,Ns[k]? = some N := ⟨_,List.getElem?_eq_getElem (by rw [← cs.len]; exact hkn)⟩
  have hFn := hF
  obtain ⟨aa,rfl,hcap_aa⟩ := hr.someA (by omega)
  have hF := hFn; clear hFn
  refine cN ?_
  refine tK ?_
  refine cS ?_
  refine cB 1 ?_
  refine qP [(5,nV k)] hF fun a hF => ?_
  refine qS hF ?_
  refine tI 3 aa bs.length 1 k k ?_
  refine tC 4 (pV x.1) (Calm.load (T := 29) (p := (Addr.add aa k)) (by kernel_rfl) (Loads.one (k := 1) (by kernel_rfl) ((hr.ext e0).cells k (mpt x) (by rw [List.getElem?_map,hx]; rfl)))) ?_
  refine tF 5 (Does.call (f := 11) (args := #[.pointer (some ⟨mb,0,none⟩),.pointer (some ⟨x.1,0,none⟩)]) (by kernel_rfl) (same_neM _ mb mp x.1 x.2 M N (m.ext e0) ((cs.at_ k x N hx hN).ext e0) (hne N (List.mem_of_getElem? hN)))) ?_
  rintro _ h3 ⟨rfl,g⟩
  replace e0 := e0.ext g
  clear g
  refine sT [(16,.bool false)] fun a hF => ?_
  refine cF 16 hF ?_
  refine cN ?_
  refine bK ?_
  refine tK ?_
  refine rS hF ?_
  refine tA 0 k 1 ?_
  refine sE [(8,nV (k + 1))] fun a hF => ?_
  show ∃ m',m' < _ ∧ _
  refine ⟨_,?_,(k + 1),rfl,e0,(by omega),hF.to⟩
  omega
 ·skip
  refine cX 0 (xT (xT (xB ?_)))
  refine tK ?_
  refine qP [(4,.int .i64 (-1))] hF fun a hF => ?_
  refine cR ?_
  refine rT 4 (.int .i64 (-1)) hF ?_
  exact ⟨rfl,e0⟩
noncomputable def b90 : Code := Tryd.f90.body.getD .skip
theorem contains_no (h : Heap) (bs : List (Nat × Nat)) (Ns : List Md) (va : Option Addr) (vc : Nat) (hr : Row h (.slice va bs.length vc) bs.length 1 (bs.map mpt)) (cs : CA h bs Ns) (mb mp : Nat) (M : Md) (m : Mod h mb mp M) (hne : ∀ N ∈ Ns,M.E.length ≠ N.E.length) (hn : bs.length ≤ 1099511627) : Sat Tryd.prog 90 #[.slice va bs.length vc,.func (.func 11) #[.pointer (some ⟨mb,0,none⟩)] #[]] h fun v h' => v = .bool false ∧ Ext h h' := by
 have e0 := Ext.refl h
 have sep : Sep h.size h.size [] := Sep.nil _ _
 refine sat_in Tryd.func90 9 fun a hF => ?_
 refine qP [] hF fun a hF => ?_
 refine qS hF ?_
 refine tG 2 (index_no _ bs Ns va vc (hr.ext e0) (cs.ext e0) mb mp M (m.ext e0) hne hn) ?_
 rintro _ h1 ⟨rfl,g⟩
 replace e0 := e0.ext g
 replace sep := sep.up g.size
 clear g
 refine sT [(4,.bool false)] fun a hF => ?_
 refine cR ?_
 refine rT 4 (.bool false) hF ?_
 exact ⟨rfl,e0⟩
noncomputable def b71 : Code := Tryd.f71.body.getD .skip
theorem add_new (h : Heap) (bs : List (Nat × Nat)) (Ns : List Md) (va : Option Addr) (vc : Nat) (own : Own h (.slice va bs.length vc) 29 bs.length 1 (bs.map mpt)) (cs : CA h bs Ns) (mb mp : Nat) (M : Md) (m : Mod h mb mp M) (hne : ∀ N ∈ Ns,M.E.length ≠ N.E.length) (hn : bs.length ≤ 1099511627) : Sat Tryd.prog 71 #[.slice va bs.length vc,.pointer (some ⟨mb,0,none⟩)] h fun v h' => ∃ ad cap,v = .slice ad (bs.length + 1) cap ∧ Own h' (.slice ad (bs.length + 1) cap) 29 (bs.length + 1) 1 ((bs ++ [(mb,mp)]).map mpt) ∧ Grew (va.map (fun (x : Addr) => x.block)) h h' ∧ (ad.map (fun (x : Addr) => x.block) = va.map (fun (x : Addr) => x.block) ∨ ∃ k,ad.map (fun (x : Addr) => x.block) = some k ∧ h.size ≤ k) := by
 have e0 := Ext.refl h
 have sep : Sep h.size h.size [] := Sep.nil _ _
 refine sat_in Tryd.func71 14 fun a hF => ?_
 refine qP [] hF fun a hF => ?_
 refine cS ?_
 refine qS hF ?_
 refine tG 3 (contains_no _ bs Ns va vc (own.row.ext e0) (cs.ext e0) mb mp M (m.ext e0) hne hn) ?_
 rintro _ h1 ⟨rfl,g⟩
 replace e0 := e0.ext g
 replace sep := sep.up g.size
 clear g
 refine sT [(8,.bool false)] fun a hF => ?_
 refine cF 8 hF ?_
 refine cN ?_
 refine tK ?_
 refine qS hF ?_
 refine tN 2 (.slice (some ⟨h1.size,0,none⟩) 1 1) (#[pV mb]) 29 fun h2 g3 m4 => ?_
 have lt5 := blk_lt m4
 have zs6 := e0.size
 have hlo := e0.size
 have sepo := sep
 replace e0 := e0.ext g3
 replace sep := sep.up g3.size
 replace sep := sepo.new hlo (blk_lt m4)
 clear sepo hlo
 refine tF 3 (Does.append2 (t := 72) (E := 29) (sz := 1) (by_ := 8) (n := bs.length) (m := 1) (v := .slice va bs.length vc) (x := .slice (some ⟨h1.size,0,none⟩) 1 1) (xs := bs.map mpt) (ys := [mpt (mb,mp)]) (by kernel_rfl) (by kernel_rfl) (own.ext e0) (Row.blk (n := 1) (sz := 1) (l := [mpt (mb,mp)]) m4 rfl) (List.all_eq_true.1 (by rfl)) (by unfold maxLen; omega) (by omega)) ?_
 rintro _ h9 ⟨ad7,cap8,rfl,ownx,gz,hbz⟩
 rw [blkOf_slice] at gz hbz
 have hse := e0.size
 refine sT [(4,.slice ad7 (bs.length + 1) cap8)] fun a hF => ?_
 refine cR ?_
 refine rT 4 (.slice ad7 (bs.length + 1) cap8) hF ?_
 exact ⟨_,_,rfl,by rw [List.map_append]; exact ownx,(e0.but _).trans gz,hbz.imp id fun e => ⟨_,e,hse⟩⟩
noncomputable def b44 : Code := Tryd.f44.body.getD .skip
theorem clone_M (h : Heap) (mb mp : Nat) (M : Md) (m : Mod h mb mp M) (hE : M.E.length ≤ 1099511627) : Sat Tryd.prog 9 #[.pointer (some ⟨mb,0,none⟩)] h fun v h' => ∃ c q,v = .pointer (some ⟨c,0,none⟩) ∧ Mod h' c q M ∧ h.size ≤ c ∧ h.size ≤ q ∧ Ext h h' := by
 obtain ⟨L,ck,ea,ec,es,m⟩ := m
 exact clone_a h mb mp M L ck ea ec es m hE
set_option maxHeartbeats 1000000 in
theorem part_one (h : Heap) (jb : Nat) (x : Nat × Nat) (M : Md) (o1 o2 o3 o4 : Bool) (aa : Addr) (cc : Nat) (ja : JA h jb [x] ⟨[M],o1,o2,o3,o4⟩ (some aa) cc) (kd n : Int) (s : ByteArray) (l : List UInt8) (oa : Option Addr) (oc : Nat) (ka : Option Addr) (kn kc : Nat) (hr : RowE h (.slice oa l.length oc) l.length 1 (l.map bv)) (hsz : s.size ≤ 9223372036854775807) (kt : Ktab h) (hE : M.E.length ≤ 1099511627) (hc : (step M kd n s l).2.c = 0) (hne : (step M kd n s l).1.E.length ≠ M.E.length) : Sat Tryd.prog 44 #[.pointer (some ⟨jb,0,none⟩),.agg #[.int .i64 kd,.string s,.slice oa l.length oc,.int .i64 n,.slice ka kn kc]] h fun _ h' => ∃ y ca cc,JA h' jb [(x.1,x.2),y] ⟨[M,(step M kd n s l).1],o1,o2,o3,false⟩ ca cc ∧ h.size ≤ y.1 ∧ h.size ≤ y.2 ∧ Gr (fun k => k = jb) h h' := by
 obtain ⟨hj,row,cs0⟩ := ja
 have m := cs0.get1
 have hj0 := hj
 have hbj := blk_lt hj
 have gj := Gr.start (fun k => k = jb) h
 have e0 := Ext.refl h
 have sep : Sep h.size h.size [] := Sep.nil _ _
 refine sat_in Tryd.func44 41 fun a hF => ?_
 refine qS hF ?_
 refine tN 0 (pV h.size) (#[.int .i64 kd,.string s,.slice oa l.length oc,.int .i64 n,.slice ka kn kc]) 26 fun h1 g2 m3 => ?_
 have lt4 := blk_lt m3
 have zs5 := e0.size
 have zs6 := gj.1
 have hlo := e0.size
 have sepo := sep
 replace e0 := e0.ext g2
 replace gj := gj.ext g2
 replace hj := Ext.blk g2 hj
 replace sep := sep.up g2.size
 replace sep := sepo.new hlo (blk_lt m3)
 clear sepo hlo
 refine sT [(3,pV h.size)] fun a hF => ?_
 refine qP [(4,.slice none 0 0)] hF fun a hF => ?_
 refine cS ?_
 refine qS hF ?_
 refine tB 3 72 0 (.slice (some aa) 1 cc) hj ?_
 refine sT [(11,.slice (some aa) 1 cc),(12,.int .i64 1),(13,.int .i64 0)] fun a hF => ?_
 refine cB 0 ?_
 refine cU 2 ?_
 refine Cround.step ?_
 refine qP [(14,.bool true)] hF fun a hF => ?_
 refine cS ?_
 refine cT 14 hF ?_
 refine cN ?_
 refine tK ?_
 refine cS ?_
 refine cB 1 ?_
 refine qS hF ?_
 refine tI 0 aa 1 1 0 0 ?_
 refine tC 1 (pV x.1) (Calm.load (T := 29) (p := aa) (by kernel_rfl) (Loads.one (k := 1) (by kernel_rfl) ((row.1.ext e0).cells 0 (mpt x) rfl))) ?_
 refine sT [(6,pV x.1)] fun a hF => ?_
 refine qS hF ?_
 have own_l : Own h1 (.slice none 0 0) 29 0 1 (([] : List (Nat × Nat)).map mpt) := Own.nil _ _ _
 have hlo := e0.size
 replace sep := sep.none hlo; clear hlo
 have mx := m.ext e0
 have hmk := m.kb; have hmk1 := m.k1
 obtain ⟨hjm,hjp⟩ := m.ne2 hj0 (by decide)
 refine tG 2 (add_new _ [] [] none 0 own_l (CA.nil _) x.1 x.2 M mx (by simp) (by decide)) ?_
 rintro _ h9 ⟨ad7,cap8,rfl,ownx,g,hbz⟩
 have hlo := e0.size
 have sepo := sep
 replace e0 := e0.grew g (sep.low 0 rfl)
 replace gj := gj.thenO g (fun i e => .inr (sep.low 0 rfl i e))
 replace mx := mx.ownG g own_l (blkOf_slice ..) (by decide) (by decide)
 replace hj := Grew.blk g hj (fun e => by have := sep.low 0 rfl _ e.symm; omega)
 replace m3 := Grew.blk g m3 ((sep.bp 1 0))
 replace sep := sep.up g.size
 replace sep : Sep h.size h9.size [ad7.map (·.block),some (h.size)] := sepo.set g.size hlo 0 (y := ad7.map (fun (x : Addr) => x.block)) rfl (hbz.imp id .inr) (fun k e => ownx.lt (by rw [blkOf_slice]; exact e))
 clear own_l; have own_l : Own h9 (.slice ad7 1 cap8) 29 1 1 ([(x.1,x.2)].map mpt) := ownx; clear ownx g hbz hlo sepo
 refine sT [(4,.slice ad7 1 cap8)] fun a hF => ?_
 refine qS hF ?_
 refine tG 1 (clone_M _ x.1 x.2 M mx hE) ?_
 rintro _ h10 ⟨c,q,rfl,my,hc1,hq1,g⟩
 have hse := e0.size; replace hc1 := Nat.le_trans hse hc1; replace hq1 := Nat.le_trans hse hq1; clear hse
 replace e0 := e0.ext g
 replace gj := gj.ext g
 replace own_l := own_l.ext g
 replace mx := mx.ext g
 replace hj := Ext.blk g hj
 replace m3 := Ext.blk g m3
 replace sep := sep.up g.size
 clear g
 refine sT [(7,pV c)] fun a hF => ?_
 refine qS hF ?_
 refine tC 1 (.agg #[.int .i64 kd,.string s,.slice oa l.length oc,.int .i64 n,.slice ka kn kc]) (Calm.load (T := 26) (p := ⟨h.size,0,none⟩) (by kernel_rfl) (Loads.blk (vs := [.int .i64 kd,.string s,.slice oa l.length oc,.int .i64 n,.slice ka kn kc]) (by kernel_rfl) m3 rfl)) ?_
 have my_own := my.nown own_l (by decide)
 obtain ⟨W,hW⟩ : ∃ W,(step M kd n s l).2 = W := ⟨_,rfl⟩
 have hWc : W.c = 0 := by rw [← hW]; exact hc
 have hmyk := my.kb
 refine tG 2 (do_w _ c q M my kd n s l oa oc ka kn kc (hr.1.ext e0) hsz (kt.ext e0) hE W hW) ?_
 rintro _ h11 ⟨qa,qc,ia,ic,pa,pc,rfl,_,_,_,_,my2,gm⟩
 replace e0 : Ext h h11 := Gr.toExt e0 gm (by rintro k (e | e) <;> omega)
 replace gj := gj.thenF gm (by rintro k (e | e) <;> exact .inr (by omega))
 replace mx := mx.other my gm (by omega) (by omega)
 clear my; have my := my2; clear my2
 replace hj := gm.blk hj (by omega) (by omega)
 clear m3
 replace own_l := Gr.own gm own_l (by rw [blkOf_slice]; exact my_own)
 replace sep := sep.up gm.1
 refine t1 4 (.bool true) (.bool (W.c == (0 : Int))) (congrArg Value.bool (beq_iff_eq.2 (by omega))) ?_
 refine sT [(26,.bool true)] fun a hF => ?_
 refine cT 26 hF ?_
 refine rS hF ?_
 refine tG 2 (add_new _ [(x.1,x.2)] [M] _ _ own_l (CA.one mx) c q (step M kd n s l).1 my (fun N hN => by rw [List.mem_singleton.1 hN]; exact hne) (by simp)) ?_
 rintro _ h14 ⟨ad12,cap13,rfl,ownx,g,hbz⟩
 have hlo := e0.size
 have sepo := sep
 replace e0 := e0.grew g (sep.low 0 rfl)
 replace gj := gj.thenO g (fun i e => .inr (sep.low 0 rfl i e))
 replace mx := mx.ownG g own_l (blkOf_slice ..) (by decide) (by decide)
 replace my := my.ownG g own_l (blkOf_slice ..) (by decide) (by decide)
 replace hj := Grew.blk g hj (fun e => by have := sep.low 0 rfl _ e.symm; omega)
 replace sep := sep.up g.size
 replace sep : Sep h.size h14.size [ad12.map (·.block),some (h.size)] := sepo.set g.size hlo 0 (y := ad12.map (fun (x : Addr) => x.block)) rfl (hbz.imp id .inr) (fun k e => ownx.lt (by rw [blkOf_slice]; exact e))
 clear own_l; have own_l : Own h14 (.slice ad12 2 cap13) 29 2 1 ([(x.1,x.2),(c,q)].map mpt) := ownx; clear ownx g hbz hlo sepo
 refine sE [(4,.slice ad12 2 cap13)] fun a hF => ?_
 refine bK ?_
 refine tK ?_
 refine rP [(13,.int .i64 1)] hF fun a hF => ?_
 refine tK (Cround.step ?_)
 refine qP [(14,.bool false)] hF fun a hF => ?_
 refine cS ?_
 refine cF 14 hF ?_
 refine cX 0 (xT (xT (xB ?_)))
 refine tK ?_
 refine qS hF ?_
 refine tW 4 0 ([.slice ad12 2 cap13]) ([.slice (some aa) 1 cc,.bool o1,.bool o2,.bool o3,.bool o4]) ([.slice ad12 2 cap13,.bool o1,.bool o2,.bool o3,.bool o4]) hj (fun h15 g16 hj' => ?_)
 clear e0
 replace gj := gj.thenO g16 (fun i e => by cases e; exact .inl rfl)
 replace own_l := own_l.kept g16 (by rw [blkOf_slice]; right; intro e; have := sep.low 0 rfl _ e; omega)
 replace mx := mx.put1 g16 hj (by decide) (by omega)
 replace my := my.put1 g16 hj (by decide) (by omega)
 replace sep := sep.up g16.size
 clear hj; have hj := hj'; clear hj'
 refine sT [] fun a hF => ?_
 refine rS hF ?_
 refine tW 6 4 ([.bool false]) ([.slice ad12 2 cap13,.bool o1,.bool o2,.bool o3,.bool o4]) ([.slice ad12 2 cap13,.bool o1,.bool o2,.bool o3,.bool false]) hj (fun h17 g18 hj' => ?_)
 replace gj := gj.thenO g18 (fun i e => by cases e; exact .inl rfl)
 replace own_l := own_l.kept g18 (by rw [blkOf_slice]; right; intro e; have := sep.low 0 rfl _ e; omega)
 replace mx := mx.put1 g18 hj (by decide) (by omega)
 replace my := my.put1 g18 hj (by decide) (by omega)
 replace sep := sep.up g18.size
 clear hj; have hj := hj'; clear hj'
 refine sE [] fun a hF => ?_
 refine n0 hF ?_
 exact ⟨(c,q),_,_,⟨hj,RowP.of own_l,CA.two mx my (by show x.1 ≠ c; omega) (by show x.2 ≠ q; omega)⟩,hc1,hq1,gj⟩
end Go.Proofs.YtegkejcglfgpmaaDoor
end
section
namespace Go.Proofs.YtegkejcglfgpmaaDoor
open Go Go.Lane Go.Sha
noncomputable def b43 : Code := Tryd.f43.body.getD .skip
theorem event_fuse (h : Heap) (jb : Nat) (bs : List (Nat × Nat)) (Ms : List Md) (ca : Option Addr) (cc : Nat) (o2 : Bool) (o3 : Bool) (o4 : Bool) (ja : JA h jb bs ⟨Ms,false,o2,o3,o4⟩ ca cc) (kd n : Int) (s : ByteArray) (l : List UInt8) (oa : Option Addr) (oc : Nat) (ka : Option Addr) (kn kc : Nat) (X : An) (xb xi xp : Value) (hk : kd = 12) : Sat Tryd.prog 43 #[.pointer (some ⟨jb,0,none⟩),.agg #[.int .i64 kd,.string s,.slice oa l.length oc,.int .i64 n,.slice ka kn kc],.agg (asc X.c (xb) X.sx X.se X.sh X.sg (xi) X.n X.y X.k (xp)).toArray] h fun v h' => v = anv an0 (.slice none 0 0) (.slice none 0 0) (.slice none 0 0) ∧ JA h' jb bs ⟨Ms,false,decide (0 ≤ n),o3,o4⟩ ca cc ∧ Gr (fun k => k = jb) h h' := by
 have hj := ja.hj
 have hj0 := ja.hj
 have hbj := blk_lt hj
 have gj := Gr.start (fun k => k = jb) h
 have e0 := Ext.refl h
 have sep : Sep h.size h.size [] := Sep.nil _ _
 refine sat_in Tryd.func43 79 fun a hF => ?_
 refine qS hF ?_
 refine tN 0 (pV h.size) (#[.int .i64 kd,.string s,.slice oa l.length oc,.int .i64 n,.slice ka kn kc]) 26 fun h1 g2 m3 => ?_
 have lt4 := blk_lt m3
 have zs5 := e0.size
 have zs6 := gj.1
 have hlo := gj.1
 have sepo := sep
 replace e0 := e0.ext g2
 replace gj := gj.ext g2
 replace hj := Ext.blk g2 hj
 replace sep := sep.up g2.size
 replace sep := sepo.new hlo (blk_lt m3)
 clear sepo hlo
 refine tN 1 (pV h1.size) ((asc X.c (xb) X.sx X.se X.sh X.sg (xi) X.n X.y X.k (xp)).toArray) 41 fun h7 g8 m9 => ?_
 have lt10 := blk_lt m9
 have zs11 := e0.size
 have zs12 := gj.1
 have hlo := gj.1
 have sepo := sep
 replace e0 := e0.ext g8
 replace gj := gj.ext g8
 replace hj := Ext.blk g8 hj
 replace m3 := Ext.blk g8 m3
 replace sep := sep.up g8.size
 replace sep := sepo.new hlo (blk_lt m9)
 clear sepo hlo
 refine tN 2 (pV h7.size) ((asc (0 : Int) (.slice none 0 0) rb0 (0 : Int) false false (.slice none 0 0) (0 : Int) rb0 (0 : Int) (.slice none 0 0)).toArray) 41 fun h13 g14 m15 => ?_
 have lt16 := blk_lt m15
 have zs17 := e0.size
 have zs18 := gj.1
 have hlo := gj.1
 have sepo := sep
 replace e0 := e0.ext g14
 replace gj := gj.ext g14
 replace hj := Ext.blk g14 hj
 replace m3 := Ext.blk g14 m3
 replace m9 := Ext.blk g14 m9
 replace sep := sep.up g14.size
 replace sep := sepo.new hlo (blk_lt m15)
 clear sepo hlo
 refine sT [(4,pV h.size),(5,pV h1.size),(6,pV h7.size)] fun a hF => ?_
 refine cS ?_
 refine qS hF ?_
 refine tB 1 3 0 (.int .i64 kd) m3 ?_
 refine sT [(10,.int .i64 kd)] fun a hF => ?_
 refine cB 0 ?_
 refine qS hF ?_
 refine t1 0 (.bool true) (.bool (kd == (12 : Int))) (congrArg Value.bool (beq_iff_eq.2 (by omega))) ?_
 refine sT [(12,.bool true)] fun a hF => ?_
 refine cT 12 hF ?_
 refine qS hF ?_
 refine tB 3 4 1 (.bool false) hj ?_
 refine sT [(18,.bool true)] fun a hF => ?_
 refine cT 18 hF ?_
 refine rS hF ?_
 refine tB 2 3 3 (.int .i64 n) m3 ?_
 refine tW 6 2 ([.bool (decide ((0 : Int) ≤ n))]) ([.slice ca bs.length cc,.bool false,.bool o2,.bool o3,.bool o4]) ([.slice ca bs.length cc,.bool false,.bool (decide ((0 : Int) ≤ n)),.bool o3,.bool o4]) hj (fun h19 g20 hj' => ?_)
 clear e0
 replace gj := gj.thenO g20 (fun i e => by cases e; exact .inl rfl)
 replace m3 := Grew.blk g20 m3 (by simp; omega)
 replace m9 := Grew.blk g20 m9 (by simp; omega)
 replace m15 := Grew.blk g20 m15 (by simp; omega)
 replace sep := sep.up g20.size
 clear hj; have hj := hj'; clear hj'
 refine sE [] fun a hF => ?_
 refine bK ?_
 refine tK ?_
 refine qS hF ?_
 refine tC 0 (.agg (asc (0 : Int) (.slice none 0 0) rb0 (0 : Int) false false (.slice none 0 0) (0 : Int) rb0 (0 : Int) (.slice none 0 0)).toArray) (Calm.load (T := 41) (p := ⟨h7.size,0,none⟩) (by kernel_rfl) (Loads.blk (vs := asc (0 : Int) (.slice none 0 0) rb0 (0 : Int) false false (.slice none 0 0) (0 : Int) rb0 (0 : Int) (.slice none 0 0)) (by kernel_rfl) m15 rfl)) ?_
 refine tW 1 0 (asc (0 : Int) (.slice none 0 0) rb0 (0 : Int) false false (.slice none 0 0) (0 : Int) rb0 (0 : Int) (.slice none 0 0)) (asc (0 : Int) (.slice none 0 0) rb0 (0 : Int) false false (.slice none 0 0) (0 : Int) rb0 (0 : Int) (.slice none 0 0)) (asc (0 : Int) (.slice none 0 0) rb0 (0 : Int) false false (.slice none 0 0) (0 : Int) rb0 (0 : Int) (.slice none 0 0)) m15 (fun h21 g22 m15' => ?_)
 replace gj := gj.thenO g22 (fun i e => .inr (sep.low 0 rfl i e))
 replace hj := Grew.blk g22 hj (by simp; omega)
 replace m3 := Grew.blk g22 m3 ((sep.bp 2 0))
 replace m9 := Grew.blk g22 m9 ((sep.bp 1 0))
 replace sep := sep.up g22.size
 clear m15; have m15 := m15'; clear m15'
 refine sT [] fun a hF => ?_
 refine cR ?_
 refine ret_ok [.cell 6 41] [.agg (asc (0 : Int) (.slice none 0 0) rb0 (0 : Int) false false (.slice none 0 0) (0 : Int) rb0 (0 : Int) (.slice none 0 0)).toArray] (.agg (asc (0 : Int) (.slice none 0 0) rb0 (0 : Int) false false (.slice none 0 0) (0 : Int) rb0 (0 : Int) (.slice none 0 0)).toArray) rfl hF ⟨⟨_,rfl,Loads.blk (vs := asc (0 : Int) (.slice none 0 0) rb0 (0 : Int) false false (.slice none 0 0) (0 : Int) rb0 (0 : Int) (.slice none 0 0)) (by kernel_rfl) m15 rfl⟩,trivial⟩ rfl ?_
 exact ⟨rfl,ja.turn gj hj rfl,gj⟩
theorem event_boot (h : Heap) (jb : Nat) (bs : List (Nat × Nat)) (Ms : List Md) (ca : Option Addr) (cc : Nat) (o1 : Bool) (o2 : Bool) (o3 : Bool) (o4 : Bool) (ja : JA h jb bs ⟨Ms,o1,o2,o3,o4⟩ ca cc) (kd n : Int) (s : ByteArray) (l : List UInt8) (oa : Option Addr) (oc : Nat) (ka : Option Addr) (kn kc : Nat) (X : An) (xb xi xp : Value) (hk : kd = 13) : Sat Tryd.prog 43 #[.pointer (some ⟨jb,0,none⟩),.agg #[.int .i64 kd,.string s,.slice oa l.length oc,.int .i64 n,.slice ka kn kc],.agg (asc X.c (xb) X.sx X.se X.sh X.sg (xi) X.n X.y X.k (xp)).toArray] h fun v h' => v = anv an0 (.slice none 0 0) (.slice none 0 0) (.slice none 0 0) ∧ JA h' jb bs ⟨Ms,false,false,o3,o4⟩ ca cc ∧ Gr (fun k => k = jb) h h' := by
 have hj := ja.hj
 have hj0 := ja.hj
 have hbj := blk_lt hj
 have gj := Gr.start (fun k => k = jb) h
 have e0 := Ext.refl h
 have sep : Sep h.size h.size [] := Sep.nil _ _
 refine sat_in Tryd.func43 79 fun a hF => ?_
 refine qS hF ?_
 refine tN 0 (pV h.size) (#[.int .i64 kd,.string s,.slice oa l.length oc,.int .i64 n,.slice ka kn kc]) 26 fun h1 g2 m3 => ?_
 have lt4 := blk_lt m3
 have zs5 := e0.size
 have zs6 := gj.1
 have hlo := gj.1
 have sepo := sep
 replace e0 := e0.ext g2
 replace gj := gj.ext g2
 replace hj := Ext.blk g2 hj
 replace sep := sep.up g2.size
 replace sep := sepo.new hlo (blk_lt m3)
 clear sepo hlo
 refine tN 1 (pV h1.size) ((asc X.c (xb) X.sx X.se X.sh X.sg (xi) X.n X.y X.k (xp)).toArray) 41 fun h7 g8 m9 => ?_
 have lt10 := blk_lt m9
 have zs11 := e0.size
 have zs12 := gj.1
 have hlo := gj.1
 have sepo := sep
 replace e0 := e0.ext g8
 replace gj := gj.ext g8
 replace hj := Ext.blk g8 hj
 replace m3 := Ext.blk g8 m3
 replace sep := sep.up g8.size
 replace sep := sepo.new hlo (blk_lt m9)
 clear sepo hlo
 refine tN 2 (pV h7.size) ((asc (0 : Int) (.slice none 0 0) rb0 (0 : Int) false false (.slice none 0 0) (0 : Int) rb0 (0 : Int) (.slice none 0 0)).toArray) 41 fun h13 g14 m15 => ?_
 have lt16 := blk_lt m15
 have zs17 := e0.size
 have zs18 := gj.1
 have hlo := gj.1
 have sepo := sep
 replace e0 := e0.ext g14
 replace gj := gj.ext g14
 replace hj := Ext.blk g14 hj
 replace m3 := Ext.blk g14 m3
 replace m9 := Ext.blk g14 m9
 replace sep := sep.up g14.size
 replace sep := sepo.new hlo (blk_lt m15)
 clear sepo hlo
 refine sT [(4,pV h.size),(5,pV h1.size),(6,pV h7.size)] fun a hF => ?_
 refine cS ?_
 refine qS hF ?_
 refine tB 1 3 0 (.int .i64 kd) m3 ?_
 refine sT [(10,.int .i64 kd)] fun a hF => ?_
 refine cB 0 ?_
 refine qS hF ?_
 refine t1 0 (.bool false) (.bool (kd == (12 : Int))) (congrArg Value.bool (beq_eq_false_iff_ne.2 (by omega))) ?_
 refine sT [(12,.bool false)] fun a hF => ?_
 refine cF 12 hF ?_
 refine qS hF ?_
 refine t1 0 (.bool false) (.bool (kd == (10 : Int))) (congrArg Value.bool (beq_eq_false_iff_ne.2 (by omega))) ?_
 refine sT [(25,.bool false)] fun a hF => ?_
 refine cF 25 hF ?_
 refine qS hF ?_
 refine t1 0 (.bool false) (.bool (kd == (14 : Int))) (congrArg Value.bool (beq_eq_false_iff_ne.2 (by omega))) ?_
 refine sT [(40,.bool false)] fun a hF => ?_
 refine cF 40 hF ?_
 refine qS hF ?_
 refine t1 0 (.bool true) (.bool (kd == (13 : Int))) (congrArg Value.bool (beq_iff_eq.2 (by omega))) ?_
 refine sT [(70,.bool true)] fun a hF => ?_
 refine cT 70 hF ?_
 refine rS hF ?_
 refine tW 4 1 ([.bool false]) ([.slice ca bs.length cc,.bool o1,.bool o2,.bool o3,.bool o4]) ([.slice ca bs.length cc,.bool false,.bool o2,.bool o3,.bool o4]) hj (fun h19 g20 hj' => ?_)
 clear e0
 replace gj := gj.thenO g20 (fun i e => by cases e; exact .inl rfl)
 replace m3 := Grew.blk g20 m3 (by simp; omega)
 replace m9 := Grew.blk g20 m9 (by simp; omega)
 replace m15 := Grew.blk g20 m15 (by simp; omega)
 replace sep := sep.up g20.size
 clear hj; have hj := hj'; clear hj'
 refine tW 7 2 ([.bool false]) ([.slice ca bs.length cc,.bool false,.bool o2,.bool o3,.bool o4]) ([.slice ca bs.length cc,.bool false,.bool false,.bool o3,.bool o4]) hj (fun h21 g22 hj' => ?_)
 replace gj := gj.thenO g22 (fun i e => by cases e; exact .inl rfl)
 replace m3 := Grew.blk g22 m3 (by simp; omega)
 replace m9 := Grew.blk g22 m9 (by simp; omega)
 replace m15 := Grew.blk g22 m15 (by simp; omega)
 replace sep := sep.up g22.size
 clear hj; have hj := hj'; clear hj'
 refine sE [] fun a hF => ?_
 refine bK ?_
 refine tK ?_
 refine qS hF ?_
 refine tC 0 (.agg (asc (0 : Int) (.slice none 0 0) rb0 (0 : Int) false false (.slice none 0 0) (0 : Int) rb0 (0 : Int) (.slice none 0 0)).toArray) (Calm.load (T := 41) (p := ⟨h7.size,0,none⟩) (by kernel_rfl) (Loads.blk (vs := asc (0 : Int) (.slice none 0 0) rb0 (0 : Int) false false (.slice none 0 0) (0 : Int) rb0 (0 : Int) (.slice none 0 0)) (by kernel_rfl) m15 rfl)) ?_
 refine tW 1 0 (asc (0 : Int) (.slice none 0 0) rb0 (0 : Int) false false (.slice none 0 0) (0 : Int) rb0 (0 : Int) (.slice none 0 0)) (asc (0 : Int) (.slice none 0 0) rb0 (0 : Int) false false (.slice none 0 0) (0 : Int) rb0 (0 : Int) (.slice none 0 0)) (asc (0 : Int) (.slice none 0 0) rb0 (0 : Int) false false (.slice none 0 0) (0 : Int) rb0 (0 : Int) (.slice none 0 0)) m15 (fun h23 g24 m15' => ?_)
 replace gj := gj.thenO g24 (fun i e => .inr (sep.low 0 rfl i e))
 replace hj := Grew.blk g24 hj (by simp; omega)
 replace m3 := Grew.blk g24 m3 ((sep.bp 2 0))
 replace m9 := Grew.blk g24 m9 ((sep.bp 1 0))
 replace sep := sep.up g24.size
 clear m15; have m15 := m15'; clear m15'
 refine sT [] fun a hF => ?_
 refine cR ?_
 refine ret_ok [.cell 6 41] [.agg (asc (0 : Int) (.slice none 0 0) rb0 (0 : Int) false false (.slice none 0 0) (0 : Int) rb0 (0 : Int) (.slice none 0 0)).toArray] (.agg (asc (0 : Int) (.slice none 0 0) rb0 (0 : Int) false false (.slice none 0 0) (0 : Int) rb0 (0 : Int) (.slice none 0 0)).toArray) rfl hF ⟨⟨_,rfl,Loads.blk (vs := asc (0 : Int) (.slice none 0 0) rb0 (0 : Int) false false (.slice none 0 0) (0 : Int) rb0 (0 : Int) (.slice none 0 0)) (by kernel_rfl) m15 rfl⟩,trivial⟩ rfl ?_
 exact ⟨rfl,ja.turn gj hj rfl,gj⟩
noncomputable def b23 : Code := Tryd.f23.body.getD .skip
theorem kind_at (h : Heap) (kd n : Int) (s : ByteArray) (oa : Option Addr) (on oc : Nat) (ka : Option Addr) (kn kc : Nat) (a b : Bool) (hk : kindC kd = (a,b)) : Sat Tryd.prog 41 #[.agg #[.int .i64 kd,.string s,.slice oa on oc,.int .i64 n,.slice ka kn kc]] h fun v h' => v = .tuple #[.bool a,.bool b] ∧ Ext h h' := by
 have := kind_sat h kd n s oa on oc ka kn kc
 rwa [hk] at this
set_option maxHeartbeats 1000000 in
theorem see_fuse (h : Heap) (jb : Nat) (bs : List (Nat × Nat)) (Ms : List Md) (ca : Option Addr) (cc : Nat) (o2 : Bool) (o3 : Bool) (ja : JA h jb bs ⟨Ms,false,o2,o3,false⟩ ca cc) (kd n : Int) (s : ByteArray) (l : List UInt8) (oa : Option Addr) (oc : Nat) (ka : Option Addr) (kn kc : Nat) (X : An) (xqa : Option Addr) (xqc : Nat) (xia : Option Addr) (xic : Nat) (xpa : Option Addr) (xpc : Nat) (xq : RowE h (.slice xqa X.b.length xqc) X.b.length 1 (X.b.map bv)) (xi : RowE h (.slice xia X.i.length xic) X.i.length 1 (X.i.map Value.string)) (xp : RowE h (.slice xpa X.p.length xpc) X.p.length 32 (hcs X.p)) (x32 : All32 X.p) (hkc : kindC kd = (false,false)) (hk : kd = 12) : Sat Tryd.prog 23 #[.pointer (some ⟨jb,0,none⟩),.agg #[.int .i64 kd,.string s,.slice oa l.length oc,.int .i64 n,.slice ka kn kc],.agg (asc X.c (.slice xqa X.b.length xqc) X.sx X.se X.sh X.sg (.slice xia X.i.length xic) X.n X.y X.k (.slice xpa X.p.length xpc)).toArray] h fun v h' => v = .int .i64 (ruleA an0 X) ∧ ∃ bs' ca cc,JA h' jb bs' ⟨Ms,false,decide (0 ≤ n),o3,false⟩ ca cc ∧ (∀ z ∈ bs',z ∈ bs ∨ (h.size ≤ z.1 ∧ h.size ≤ z.2)) ∧ Gr (JF jb bs) h h' := by
 have hj := ja.hj
 have hj0 := ja.hj
 have hbj := blk_lt hj
 have gj := Gr.start (fun k => k = jb) h
 have e0 := Ext.refl h
 have sep : Sep h.size h.size [] := Sep.nil _ _
 refine sat_in Tryd.func23 77 fun a hF => ?_
 refine qS hF ?_
 refine tN 0 (pV h.size) (#[.int .i64 kd,.string s,.slice oa l.length oc,.int .i64 n,.slice ka kn kc]) 26 fun h1 g2 m3 => ?_
 have lt4 := blk_lt m3
 have zs5 := e0.size
 have zs6 := gj.1
 have hlo := gj.1
 have sepo := sep
 replace e0 := e0.ext g2
 replace gj := gj.ext g2
 replace hj := Ext.blk g2 hj
 replace sep := sep.up g2.size
 replace sep := sepo.new hlo (blk_lt m3)
 clear sepo hlo
 refine tN 1 (pV h1.size) ((asc X.c (.slice xqa X.b.length xqc) X.sx X.se X.sh X.sg (.slice xia X.i.length xic) X.n X.y X.k (.slice xpa X.p.length xpc)).toArray) 41 fun h7 g8 m9 => ?_
 have lt10 := blk_lt m9
 have zs11 := e0.size
 have zs12 := gj.1
 have hlo := gj.1
 have sepo := sep
 replace e0 := e0.ext g8
 replace gj := gj.ext g8
 replace hj := Ext.blk g8 hj
 replace m3 := Ext.blk g8 m3
 replace sep := sep.up g8.size
 replace sep := sepo.new hlo (blk_lt m9)
 clear sepo hlo
 refine sT [(4,pV h.size),(5,pV h1.size)] fun a hF => ?_
 refine qS hF ?_
 refine tC 0 (.agg #[.int .i64 kd,.string s,.slice oa l.length oc,.int .i64 n,.slice ka kn kc]) (Calm.load (T := 26) (p := ⟨h.size,0,none⟩) (by kernel_rfl) (Loads.blk (vs := [.int .i64 kd,.string s,.slice oa l.length oc,.int .i64 n,.slice ka kn kc]) (by kernel_rfl) m3 rfl)) ?_
 refine tG 1 (kind_at _ kd n s oa l.length oc ka kn kc false false hkc) ?_
 rintro _ h13 ⟨rfl,g⟩
 replace e0 := e0.ext g
 replace gj := gj.ext g
 replace hj := Ext.blk g hj
 replace m3 := Ext.blk g m3
 replace m9 := Ext.blk g m9
 replace sep := sep.up g.size
 clear g
 refine sT [(7,.bool false),(8,.bool false)] fun a hF => ?_
 refine qS hF ?_
 refine tN 1 (pV h13.size) ((asc (0 : Int) (.slice none 0 0) rb0 (0 : Int) false false (.slice none 0 0) (0 : Int) rb0 (0 : Int) (.slice none 0 0)).toArray) 41 fun h14 g15 m16 => ?_
 have lt17 := blk_lt m16
 have zs18 := e0.size
 have zs19 := gj.1
 have hlo := gj.1
 have sepo := sep
 replace e0 := e0.ext g15
 replace gj := gj.ext g15
 replace hj := Ext.blk g15 hj
 replace m3 := Ext.blk g15 m3
 replace m9 := Ext.blk g15 m9
 replace sep := sep.up g15.size
 replace sep := sepo.new hlo (blk_lt m16)
 clear sepo hlo
 refine tW 2 0 (asc (2 : Int) (.slice none 0 0) rb0 (0 : Int) false false (.slice none 0 0) (0 : Int) rb0 (0 : Int) (.slice none 0 0)) (asc (0 : Int) (.slice none 0 0) rb0 (0 : Int) false false (.slice none 0 0) (0 : Int) rb0 (0 : Int) (.slice none 0 0)) (asc (2 : Int) (.slice none 0 0) rb0 (0 : Int) false false (.slice none 0 0) (0 : Int) rb0 (0 : Int) (.slice none 0 0)) m16 (fun h20 g21 m16' => ?_)
 replace e0 := e0.grew g21 (sep.low 0 rfl)
 replace gj := gj.thenO g21 (fun i e => .inr (sep.low 0 rfl i e))
 replace hj := Grew.blk g21 hj (by simp; omega)
 replace m3 := Grew.blk g21 m3 ((sep.bp 2 0))
 replace m9 := Grew.blk g21 m9 ((sep.bp 1 0))
 replace sep := sep.up g21.size
 clear m16; have m16 := m16'; clear m16'
 refine sT [(9,pV h13.size)] fun a hF => ?_
 refine cS ?_
 refine cB 0 ?_
 refine qS hF ?_
 refine tB 3 4 4 (.bool false) hj ?_
 refine sT [(16,.bool false)] fun a hF => ?_
 refine cF 16 hF ?_
 refine qP [(21,.bool true)] hF fun a hF => ?_
 refine cT 21 hF ?_
 refine cS ?_
 refine cD [0,0,0,7,0,31,63] 6 mixed hF ?_
 refine mP 1 [0] [pV jb] ?_
 refine mL 3 2 1 (.agg #[.int .i64 kd,.string s,.slice oa l.length oc,.int .i64 n,.slice ka kn kc]) (Calm.load (T := 26) (p := ⟨h.size,0,none⟩) (by kernel_rfl) (Loads.blk (vs := [.int .i64 kd,.string s,.slice oa l.length oc,.int .i64 n,.slice ka kn kc]) (by kernel_rfl) m3 rfl)) ?_
 refine mL 7 6 2 (.agg (asc X.c (.slice xqa X.b.length xqc) X.sx X.se X.sh X.sg (.slice xia X.i.length xic) X.n X.y X.k (.slice xpa X.p.length xpc)).toArray) (Calm.load (T := 41) (p := ⟨h1.size,0,none⟩) (by kernel_rfl) (Loads.blk (vs := asc X.c (.slice xqa X.b.length xqc) X.sx X.se X.sh X.sg (.slice xia X.i.length xic) X.n X.y X.k (.slice xpa X.p.length xpc)) (by kernel_rfl) m9 rfl)) ?_
 refine mL 23 22 4 (.agg (asc X.c (.slice xqa X.b.length xqc) X.sx X.se X.sh X.sg (.slice xia X.i.length xic) X.n X.y X.k (.slice xpa X.p.length xpc)).toArray) (Calm.load (T := 41) (p := ⟨h1.size,0,none⟩) (by kernel_rfl) (Loads.blk (vs := asc X.c (.slice xqa X.b.length xqc) X.sx X.se X.sh X.sg (.slice xia X.i.length xic) X.n X.y X.k (.slice xpa X.p.length xpc)) (by kernel_rfl) m9 rfl)) ?_
 refine SimK.eff (i := 3) (D' := 31) (X' := 15) (by kernel_rfl) (by kernel_rfl) (by kernel_rfl) [4] (by kernel_rfl) (Does.call (f := 43) (args := #[.pointer (some ⟨jb,0,none⟩),.agg #[.int .i64 kd,.string s,.slice oa l.length oc,.int .i64 n,.slice ka kn kc],.agg (asc X.c (.slice xqa X.b.length xqc) X.sx X.se X.sh X.sg (.slice xia X.i.length xic) X.n X.y X.k (.slice xpa X.p.length xpc)).toArray]) (by kernel_rfl) (event_fuse _ jb bs Ms ca cc o2 o3 false (ja.ext e0) kd n s l oa oc ka kn kc X _ _ _ hk)) ?_
 rintro _ h22 ⟨rfl,ja2,gz⟩
 clear hj
 replace gj := gj.trans gz
 replace m3 := gz.blk m3 (by omega)
 replace m9 := gz.blk m9 (by omega)
 replace m16 := gz.blk m16 (by omega)
 replace sep := sep.up gz.1
 replace xq := xq.jf gj hj0 (by decide)
 replace xi := xi.jf gj hj0 (by decide)
 replace xp := xp.jf gj hj0 (by decide)
 refine ⟨?_,?_⟩
 ·intro j hj
  simp only [List.mem_cons,List.not_mem_nil,or_false] at hj
  subst hj
  exact goodOf (Calm.load (T := 41) (p := ⟨h1.size,0,none⟩) (by kernel_rfl) (Loads.blk (vs := asc X.c (.slice xqa X.b.length xqc) X.sx X.se X.sh X.sg (.slice xia X.i.length xic) X.n X.y X.k (.slice xpa X.p.length xpc)) (by kernel_rfl) m9 rfl))
 refine SimK.eff0 (i := 5) (D' := 63) (X' := 63) (by kernel_rfl) (by kernel_rfl) (by kernel_rfl) (by kernel_rfl) (Does.call (f := 42) (args := #[.agg (asc an0.c (.slice none 0 0) an0.sx an0.se an0.sh an0.sg (.slice none 0 0) an0.n an0.y an0.k (.slice none 0 0)).toArray,.agg (asc X.c (.slice xqa X.b.length xqc) X.sx X.se X.sh X.sg (.slice xia X.i.length xic) X.n X.y X.k (.slice xpa X.p.length xpc)).toArray]) (by kernel_rfl) (rule_v _ an0 X none 0 none 0 none 0 (RowE.nil _ _) (RowE.nil _ _) (RowE.nil _ _) _ _ _ _ _ _ xq xi xp All32.nil x32 (by decide) (by decide))) ?_
 rintro _ h23 ⟨rfl,g⟩
 replace gj := gj.ext g
 replace xq := xq.ext g
 replace xi := xi.ext g
 replace xp := xp.ext g
 replace ja2 := ja2.ext g
 replace m3 := Ext.blk g m3
 replace m9 := Ext.blk g m9
 replace m16 := Ext.blk g m16
 replace sep := sep.up g.size
 clear g
 refine mP 127 [6] [.int .i64 (ruleA an0 X)] ?_
 refine mE [(6,.int .i64 (ruleA an0 X))] fun a hF => ?_
 refine tK ?_
 refine cR (yB (yT ?_))
 refine rT 6 (.int .i64 (ruleA an0 X)) hF ?_
 exact ⟨rfl,bs,ca,cc,ja2,fun x hx => .inl hx,gj.toJF bs⟩
set_option maxHeartbeats 1000000 in
theorem see_boot (h : Heap) (jb : Nat) (bs : List (Nat × Nat)) (Ms : List Md) (ca : Option Addr) (cc : Nat) (o1 : Bool) (o2 : Bool) (o3 : Bool) (ja : JA h jb bs ⟨Ms,o1,o2,o3,false⟩ ca cc) (kd n : Int) (s : ByteArray) (l : List UInt8) (oa : Option Addr) (oc : Nat) (ka : Option Addr) (kn kc : Nat) (X : An) (xqa : Option Addr) (xqc : Nat) (xia : Option Addr) (xic : Nat) (xpa : Option Addr) (xpc : Nat) (xq : RowE h (.slice xqa X.b.length xqc) X.b.length 1 (X.b.map bv)) (xi : RowE h (.slice xia X.i.length xic) X.i.length 1 (X.i.map Value.string)) (xp : RowE h (.slice xpa X.p.length xpc) X.p.length 32 (hcs X.p)) (x32 : All32 X.p) (hkc : kindC kd = (false,false)) (hk : kd = 13) : Sat Tryd.prog 23 #[.pointer (some ⟨jb,0,none⟩),.agg #[.int .i64 kd,.string s,.slice oa l.length oc,.int .i64 n,.slice ka kn kc],.agg (asc X.c (.slice xqa X.b.length xqc) X.sx X.se X.sh X.sg (.slice xia X.i.length xic) X.n X.y X.k (.slice xpa X.p.length xpc)).toArray] h fun v h' => v = .int .i64 (ruleA an0 X) ∧ ∃ bs' ca cc,JA h' jb bs' ⟨Ms,false,false,o3,false⟩ ca cc ∧ (∀ z ∈ bs',z ∈ bs ∨ (h.size ≤ z.1 ∧ h.size ≤ z.2)) ∧ Gr (JF jb bs) h h' := by
 have hj := ja.hj
 have hj0 := ja.hj
 have hbj := blk_lt hj
 have gj := Gr.start (fun k => k = jb) h
 have e0 := Ext.refl h
 have sep : Sep h.size h.size [] := Sep.nil _ _
 refine sat_in Tryd.func23 77 fun a hF => ?_
 refine qS hF ?_
 refine tN 0 (pV h.size) (#[.int .i64 kd,.string s,.slice oa l.length oc,.int .i64 n,.slice ka kn kc]) 26 fun h1 g2 m3 => ?_
 have lt4 := blk_lt m3
 have zs5 := e0.size
 have zs6 := gj.1
 have hlo := gj.1
 have sepo := sep
 replace e0 := e0.ext g2
 replace gj := gj.ext g2
 replace hj := Ext.blk g2 hj
 replace sep := sep.up g2.size
 replace sep := sepo.new hlo (blk_lt m3)
 clear sepo hlo
 refine tN 1 (pV h1.size) ((asc X.c (.slice xqa X.b.length xqc) X.sx X.se X.sh X.sg (.slice xia X.i.length xic) X.n X.y X.k (.slice xpa X.p.length xpc)).toArray) 41 fun h7 g8 m9 => ?_
 have lt10 := blk_lt m9
 have zs11 := e0.size
 have zs12 := gj.1
 have hlo := gj.1
 have sepo := sep
 replace e0 := e0.ext g8
 replace gj := gj.ext g8
 replace hj := Ext.blk g8 hj
 replace m3 := Ext.blk g8 m3
 replace sep := sep.up g8.size
 replace sep := sepo.new hlo (blk_lt m9)
 clear sepo hlo
 refine sT [(4,pV h.size),(5,pV h1.size)] fun a hF => ?_
 refine qS hF ?_
 refine tC 0 (.agg #[.int .i64 kd,.string s,.slice oa l.length oc,.int .i64 n,.slice ka kn kc]) (Calm.load (T := 26) (p := ⟨h.size,0,none⟩) (by kernel_rfl) (Loads.blk (vs := [.int .i64 kd,.string s,.slice oa l.length oc,.int .i64 n,.slice ka kn kc]) (by kernel_rfl) m3 rfl)) ?_
 refine tG 1 (kind_at _ kd n s oa l.length oc ka kn kc false false hkc) ?_
 rintro _ h13 ⟨rfl,g⟩
 replace e0 := e0.ext g
 replace gj := gj.ext g
 replace hj := Ext.blk g hj
 replace m3 := Ext.blk g m3
 replace m9 := Ext.blk g m9
 replace sep := sep.up g.size
 clear g
 refine sT [(7,.bool false),(8,.bool false)] fun a hF => ?_
 refine qS hF ?_
 refine tN 1 (pV h13.size) ((asc (0 : Int) (.slice none 0 0) rb0 (0 : Int) false false (.slice none 0 0) (0 : Int) rb0 (0 : Int) (.slice none 0 0)).toArray) 41 fun h14 g15 m16 => ?_
 have lt17 := blk_lt m16
 have zs18 := e0.size
 have zs19 := gj.1
 have hlo := gj.1
 have sepo := sep
 replace e0 := e0.ext g15
 replace gj := gj.ext g15
 replace hj := Ext.blk g15 hj
 replace m3 := Ext.blk g15 m3
 replace m9 := Ext.blk g15 m9
 replace sep := sep.up g15.size
 replace sep := sepo.new hlo (blk_lt m16)
 clear sepo hlo
 refine tW 2 0 (asc (2 : Int) (.slice none 0 0) rb0 (0 : Int) false false (.slice none 0 0) (0 : Int) rb0 (0 : Int) (.slice none 0 0)) (asc (0 : Int) (.slice none 0 0) rb0 (0 : Int) false false (.slice none 0 0) (0 : Int) rb0 (0 : Int) (.slice none 0 0)) (asc (2 : Int) (.slice none 0 0) rb0 (0 : Int) false false (.slice none 0 0) (0 : Int) rb0 (0 : Int) (.slice none 0 0)) m16 (fun h20 g21 m16' => ?_)
 replace e0 := e0.grew g21 (sep.low 0 rfl)
 replace gj := gj.thenO g21 (fun i e => .inr (sep.low 0 rfl i e))
 replace hj := Grew.blk g21 hj (by simp; omega)
 replace m3 := Grew.blk g21 m3 ((sep.bp 2 0))
 replace m9 := Grew.blk g21 m9 ((sep.bp 1 0))
 replace sep := sep.up g21.size
 clear m16; have m16 := m16'; clear m16'
 refine sT [(9,pV h13.size)] fun a hF => ?_
 refine cS ?_
 refine cB 0 ?_
 refine qS hF ?_
 refine tB 3 4 4 (.bool false) hj ?_
 refine sT [(16,.bool false)] fun a hF => ?_
 refine cF 16 hF ?_
 refine qP [(21,.bool true)] hF fun a hF => ?_
 refine cT 21 hF ?_
 refine cS ?_
 refine cD [0,0,0,7,0,31,63] 6 mixed hF ?_
 refine mP 1 [0] [pV jb] ?_
 refine mL 3 2 1 (.agg #[.int .i64 kd,.string s,.slice oa l.length oc,.int .i64 n,.slice ka kn kc]) (Calm.load (T := 26) (p := ⟨h.size,0,none⟩) (by kernel_rfl) (Loads.blk (vs := [.int .i64 kd,.string s,.slice oa l.length oc,.int .i64 n,.slice ka kn kc]) (by kernel_rfl) m3 rfl)) ?_
 refine mL 7 6 2 (.agg (asc X.c (.slice xqa X.b.length xqc) X.sx X.se X.sh X.sg (.slice xia X.i.length xic) X.n X.y X.k (.slice xpa X.p.length xpc)).toArray) (Calm.load (T := 41) (p := ⟨h1.size,0,none⟩) (by kernel_rfl) (Loads.blk (vs := asc X.c (.slice xqa X.b.length xqc) X.sx X.se X.sh X.sg (.slice xia X.i.length xic) X.n X.y X.k (.slice xpa X.p.length xpc)) (by kernel_rfl) m9 rfl)) ?_
 refine mL 23 22 4 (.agg (asc X.c (.slice xqa X.b.length xqc) X.sx X.se X.sh X.sg (.slice xia X.i.length xic) X.n X.y X.k (.slice xpa X.p.length xpc)).toArray) (Calm.load (T := 41) (p := ⟨h1.size,0,none⟩) (by kernel_rfl) (Loads.blk (vs := asc X.c (.slice xqa X.b.length xqc) X.sx X.se X.sh X.sg (.slice xia X.i.length xic) X.n X.y X.k (.slice xpa X.p.length xpc)) (by kernel_rfl) m9 rfl)) ?_
 refine SimK.eff (i := 3) (D' := 31) (X' := 15) (by kernel_rfl) (by kernel_rfl) (by kernel_rfl) [4] (by kernel_rfl) (Does.call (f := 43) (args := #[.pointer (some ⟨jb,0,none⟩),.agg #[.int .i64 kd,.string s,.slice oa l.length oc,.int .i64 n,.slice ka kn kc],.agg (asc X.c (.slice xqa X.b.length xqc) X.sx X.se X.sh X.sg (.slice xia X.i.length xic) X.n X.y X.k (.slice xpa X.p.length xpc)).toArray]) (by kernel_rfl) (event_boot _ jb bs Ms ca cc o1 o2 o3 false (ja.ext e0) kd n s l oa oc ka kn kc X _ _ _ hk)) ?_
 rintro _ h22 ⟨rfl,ja2,gz⟩
 clear hj
 replace gj := gj.trans gz
 replace m3 := gz.blk m3 (by omega)
 replace m9 := gz.blk m9 (by omega)
 replace m16 := gz.blk m16 (by omega)
 replace sep := sep.up gz.1
 replace xq := xq.jf gj hj0 (by decide)
 replace xi := xi.jf gj hj0 (by decide)
 replace xp := xp.jf gj hj0 (by decide)
 refine ⟨?_,?_⟩
 ·intro j hj
  simp only [List.mem_cons,List.not_mem_nil,or_false] at hj
  subst hj
  exact goodOf (Calm.load (T := 41) (p := ⟨h1.size,0,none⟩) (by kernel_rfl) (Loads.blk (vs := asc X.c (.slice xqa X.b.length xqc) X.sx X.se X.sh X.sg (.slice xia X.i.length xic) X.n X.y X.k (.slice xpa X.p.length xpc)) (by kernel_rfl) m9 rfl))
 refine SimK.eff0 (i := 5) (D' := 63) (X' := 63) (by kernel_rfl) (by kernel_rfl) (by kernel_rfl) (by kernel_rfl) (Does.call (f := 42) (args := #[.agg (asc an0.c (.slice none 0 0) an0.sx an0.se an0.sh an0.sg (.slice none 0 0) an0.n an0.y an0.k (.slice none 0 0)).toArray,.agg (asc X.c (.slice xqa X.b.length xqc) X.sx X.se X.sh X.sg (.slice xia X.i.length xic) X.n X.y X.k (.slice xpa X.p.length xpc)).toArray]) (by kernel_rfl) (rule_v _ an0 X none 0 none 0 none 0 (RowE.nil _ _) (RowE.nil _ _) (RowE.nil _ _) _ _ _ _ _ _ xq xi xp All32.nil x32 (by decide) (by decide))) ?_
 rintro _ h23 ⟨rfl,g⟩
 replace gj := gj.ext g
 replace xq := xq.ext g
 replace xi := xi.ext g
 replace xp := xp.ext g
 replace ja2 := ja2.ext g
 replace m3 := Ext.blk g m3
 replace m9 := Ext.blk g m9
 replace m16 := Ext.blk g m16
 replace sep := sep.up g.size
 clear g
 refine mP 127 [6] [.int .i64 (ruleA an0 X)] ?_
 refine mE [(6,.int .i64 (ruleA an0 X))] fun a hF => ?_
 refine tK ?_
 refine cR (yB (yT ?_))
 refine rT 6 (.int .i64 (ruleA an0 X)) hF ?_
 exact ⟨rfl,bs,ca,cc,ja2,fun x hx => .inl hx,gj.toJF bs⟩
set_option maxHeartbeats 1000000 in
theorem see_power_a (h : Heap) (jb : Nat) (x : Nat × Nat) (M : Md) (aa : Addr) (cc : Nat) (ja : JA h jb [x] ⟨[M],false,true,false,false⟩ (some aa) cc) (kd n : Int) (s : ByteArray) (l : List UInt8) (oa : Option Addr) (oc : Nat) (ka : Option Addr) (kn kc : Nat) (hr : RowE h (.slice oa l.length oc) l.length 1 (l.map bv)) (hsz : s.size ≤ 9223372036854775807) (X : An) (xqa : Option Addr) (xqc : Nat) (xia : Option Addr) (xic : Nat) (xpa : Option Addr) (xpc : Nat) (xq : RowE h (.slice xqa X.b.length xqc) X.b.length 1 (X.b.map bv)) (xi : RowE h (.slice xia X.i.length xic) X.i.length 1 (X.i.map Value.string)) (xp : RowE h (.slice xpa X.p.length xpc) X.p.length 32 (hcs X.p)) (x32 : All32 X.p) (hkc : kindC kd = (true,true)) (hX : X.c = 2) (kt : Ktab h) (hk1 : 1 < jb) (hE : M.E.length ≤ 1099511627) (hc : (step M kd n s l).2.c = 0) (hne : (step M kd n s l).1.E.length ≠ M.E.length) : Sat Tryd.prog 23 #[.pointer (some ⟨jb,0,none⟩),.agg #[.int .i64 kd,.string s,.slice oa l.length oc,.int .i64 n,.slice ka kn kc],.agg (asc X.c (.slice xqa X.b.length xqc) X.sx X.se X.sh X.sg (.slice xia X.i.length xic) X.n X.y X.k (.slice xpa X.p.length xpc)).toArray] h fun v h' => v = .int .i64 (ruleA (anC 2) X) ∧ ∃ bs' ca cc,JA h' jb bs' ⟨[M,(step M kd n s l).1],true,true,false,false⟩ ca cc ∧ (∀ z ∈ bs',z ∈ [x] ∨ (h.size ≤ z.1 ∧ h.size ≤ z.2)) ∧ Gr (JF jb [x]) h h' := by
 have hj := ja.hj
 have hj0 := ja.hj
 have hbj := blk_lt hj
 have gj := Gr.start (fun k => k = jb) h
 have e0 := Ext.refl h
 have sep : Sep h.size h.size [] := Sep.nil _ _
 refine sat_in Tryd.func23 77 fun a hF => ?_
 refine qS hF ?_
 refine tN 0 (pV h.size) (#[.int .i64 kd,.string s,.slice oa l.length oc,.int .i64 n,.slice ka kn kc]) 26 fun h1 g2 m3 => ?_
 have lt4 := blk_lt m3
 have zs5 := e0.size
 have zs6 := gj.1
 have hlo := gj.1
 have sepo := sep
 replace e0 := e0.ext g2
 replace gj := gj.ext g2
 replace hj := Ext.blk g2 hj
 replace sep := sep.up g2.size
 replace sep := sepo.new hlo (blk_lt m3)
 clear sepo hlo
 refine tN 1 (pV h1.size) ((asc X.c (.slice xqa X.b.length xqc) X.sx X.se X.sh X.sg (.slice xia X.i.length xic) X.n X.y X.k (.slice xpa X.p.length xpc)).toArray) 41 fun h7 g8 m9 => ?_
 have lt10 := blk_lt m9
 have zs11 := e0.size
 have zs12 := gj.1
 have hlo := gj.1
 have sepo := sep
 replace e0 := e0.ext g8
 replace gj := gj.ext g8
 replace hj := Ext.blk g8 hj
 replace m3 := Ext.blk g8 m3
 replace sep := sep.up g8.size
 replace sep := sepo.new hlo (blk_lt m9)
 clear sepo hlo
 refine sT [(4,pV h.size),(5,pV h1.size)] fun a hF => ?_
 refine qS hF ?_
 refine tC 0 (.agg #[.int .i64 kd,.string s,.slice oa l.length oc,.int .i64 n,.slice ka kn kc]) (Calm.load (T := 26) (p := ⟨h.size,0,none⟩) (by kernel_rfl) (Loads.blk (vs := [.int .i64 kd,.string s,.slice oa l.length oc,.int .i64 n,.slice ka kn kc]) (by kernel_rfl) m3 rfl)) ?_
 refine tG 1 (kind_at _ kd n s oa l.length oc ka kn kc true true hkc) ?_
 rintro _ h13 ⟨rfl,g⟩
 replace e0 := e0.ext g
 replace gj := gj.ext g
 replace hj := Ext.blk g hj
 replace m3 := Ext.blk g m3
 replace m9 := Ext.blk g m9
 replace sep := sep.up g.size
 clear g
 refine sT [(7,.bool true),(8,.bool true)] fun a hF => ?_
 refine qS hF ?_
 refine tN 1 (pV h13.size) ((asc (0 : Int) (.slice none 0 0) rb0 (0 : Int) false false (.slice none 0 0) (0 : Int) rb0 (0 : Int) (.slice none 0 0)).toArray) 41 fun h14 g15 m16 => ?_
 have lt17 := blk_lt m16
 have zs18 := e0.size
 have zs19 := gj.1
 have hlo := gj.1
 have sepo := sep
 replace e0 := e0.ext g15
 replace gj := gj.ext g15
 replace hj := Ext.blk g15 hj
 replace m3 := Ext.blk g15 m3
 replace m9 := Ext.blk g15 m9
 replace sep := sep.up g15.size
 replace sep := sepo.new hlo (blk_lt m16)
 clear sepo hlo
 refine tW 2 0 (asc (2 : Int) (.slice none 0 0) rb0 (0 : Int) false false (.slice none 0 0) (0 : Int) rb0 (0 : Int) (.slice none 0 0)) (asc (0 : Int) (.slice none 0 0) rb0 (0 : Int) false false (.slice none 0 0) (0 : Int) rb0 (0 : Int) (.slice none 0 0)) (asc (2 : Int) (.slice none 0 0) rb0 (0 : Int) false false (.slice none 0 0) (0 : Int) rb0 (0 : Int) (.slice none 0 0)) m16 (fun h20 g21 m16' => ?_)
 replace e0 := e0.grew g21 (sep.low 0 rfl)
 replace gj := gj.thenO g21 (fun i e => .inr (sep.low 0 rfl i e))
 replace hj := Grew.blk g21 hj (by simp; omega)
 replace m3 := Grew.blk g21 m3 ((sep.bp 2 0))
 replace m9 := Grew.blk g21 m9 ((sep.bp 1 0))
 replace sep := sep.up g21.size
 clear m16; have m16 := m16'; clear m16'
 refine sT [(9,pV h13.size)] fun a hF => ?_
 refine cS ?_
 refine cB 0 ?_
 refine qS hF ?_
 refine tB 3 4 4 (.bool false) hj ?_
 refine sT [(16,.bool false)] fun a hF => ?_
 refine cF 16 hF ?_
 refine qP [(21,.bool false)] hF fun a hF => ?_
 refine cF 21 hF ?_
 refine qS hF ?_
 refine tB 3 4 1 (.bool false) hj ?_
 refine sT [(30,.bool false)] fun a hF => ?_
 refine cF 30 hF ?_
 refine qS hF ?_
 refine tC 1 (.int .i64 X.c) (Calm.load (T := 31) (p := ⟨h1.size,0,none⟩) (by kernel_rfl) (Loads.one (k := 1) (by kernel_rfl) ((hcell_blk m9).trans (rfl)))) ?_
 refine t1 2 (.bool true) (.bool (X.c == (2 : Int))) (congrArg Value.bool (beq_iff_eq.2 (by omega))) ?_
 refine tB 7 4 2 (.bool true) hj ?_
 refine sT [(38,.bool true)] fun a hF => ?_
 refine cT 38 hF ?_
 refine qS hF ?_
 refine tW 3 1 ([.bool true]) ([.slice (some aa) 1 cc,.bool false,.bool true,.bool false,.bool false]) ([.slice (some aa) 1 cc,.bool true,.bool true,.bool false,.bool false]) hj (fun h22 g23 hj' => ?_)
 clear e0
 replace gj := gj.thenO g23 (fun i e => by cases e; exact .inl rfl)
 replace m3 := Grew.blk g23 m3 (by simp; omega)
 replace m9 := Grew.blk g23 m9 (by simp; omega)
 replace m16 := Grew.blk g23 m16 (by simp; omega)
 replace sep := sep.up g23.size
 clear hj; have hj := hj'; clear hj'
 refine sT [] fun a hF => ?_
 refine cS ?_
 refine qP [(51,.bool true)] hF fun a hF => ?_
 refine cT 51 hF ?_
 refine rS hF ?_
 refine tC 1 (.agg #[.int .i64 kd,.string s,.slice oa l.length oc,.int .i64 n,.slice ka kn kc]) (Calm.load (T := 26) (p := ⟨h.size,0,none⟩) (by kernel_rfl) (Loads.blk (vs := [.int .i64 kd,.string s,.slice oa l.length oc,.int .i64 n,.slice ka kn kc]) (by kernel_rfl) m3 rfl)) ?_
 have jz : JA h22 jb [x] ⟨[M],true,true,false,false⟩ (some aa) cc := ja.turn gj hj rfl
 have hrz := hr.jf gj hj0 (by decide)
 have ktz := kt.gr gj (by omega)
 refine tG 2 (part_one _ jb x M true true false false aa cc jz kd n s l oa oc ka kn kc hrz hsz ktz hE hc hne) ?_
 rintro _ h24 ⟨y,ca2,cc2,ja2,hy1,hy2,gz⟩
 have hgs := gj.1
 clear hj
 replace gj := gj.trans gz
 replace m3 := gz.blk m3 (by omega)
 replace m9 := gz.blk m9 (by omega)
 replace m16 := gz.blk m16 (by omega)
 replace sep := sep.up gz.1
 replace xq := xq.jf gj hj0 (by decide)
 replace xi := xi.jf gj hj0 (by decide)
 replace xp := xp.jf gj hj0 (by decide)
 refine sE [] fun a hF => ?_
 refine tK ?_
 refine qS hF ?_
 refine tC 0 (.agg (asc (2 : Int) (.slice none 0 0) rb0 (0 : Int) false false (.slice none 0 0) (0 : Int) rb0 (0 : Int) (.slice none 0 0)).toArray) (Calm.load (T := 41) (p := ⟨h13.size,0,none⟩) (by kernel_rfl) (Loads.blk (vs := asc (2 : Int) (.slice none 0 0) rb0 (0 : Int) false false (.slice none 0 0) (0 : Int) rb0 (0 : Int) (.slice none 0 0)) (by kernel_rfl) m16 rfl)) ?_
 refine tC 1 (.agg (asc X.c (.slice xqa X.b.length xqc) X.sx X.se X.sh X.sg (.slice xia X.i.length xic) X.n X.y X.k (.slice xpa X.p.length xpc)).toArray) (Calm.load (T := 41) (p := ⟨h1.size,0,none⟩) (by kernel_rfl) (Loads.blk (vs := asc X.c (.slice xqa X.b.length xqc) X.sx X.se X.sh X.sg (.slice xia X.i.length xic) X.n X.y X.k (.slice xpa X.p.length xpc)) (by kernel_rfl) m9 rfl)) ?_
 refine tG 2 (rule_v _ (anC 2) X none 0 none 0 none 0 (RowE.nil _ _) (RowE.nil _ _) (RowE.nil _ _) _ _ _ _ _ _ xq xi xp All32.nil x32 (by decide) (by decide)) ?_
 rintro _ h25 ⟨rfl,g⟩
 replace gj := gj.ext g
 replace xq := xq.ext g
 replace xi := xi.ext g
 replace xp := xp.ext g
 replace ja2 := ja2.ext g
 replace m3 := Ext.blk g m3
 replace m9 := Ext.blk g m9
 replace m16 := Ext.blk g m16
 replace sep := sep.up g.size
 clear g
 refine sT [(6,.int .i64 (ruleA (anC 2) X))] fun a hF => ?_
 refine cR (yB (yT ?_))
 refine rT 6 (.int .i64 (ruleA (anC 2) X)) hF ?_
 exact ⟨rfl,[(x.1,x.2),y],ca2,cc2,ja2,fun z hz => by rcases List.mem_cons.1 hz with e | e; exact .inl (List.mem_singleton.2 e); exact .inr ⟨by rw [List.mem_singleton.1 e]; omega,by rw [List.mem_singleton.1 e]; omega⟩,gj.toJF [x]⟩
set_option maxHeartbeats 1000000 in
theorem see_holdC (h : Heap) (jb : Nat) (bs : List (Nat × Nat)) (Ms : List Md) (ca : Option Addr) (cc : Nat)  (ja : JA h jb bs ⟨Ms,false,false,false,false⟩ ca cc) (kd n : Int) (s : ByteArray) (l : List UInt8) (oa : Option Addr) (oc : Nat) (ka : Option Addr) (kn kc : Nat) (hr : RowE h (.slice oa l.length oc) l.length 1 (l.map bv)) (hsz : s.size ≤ 9223372036854775807) (X : An) (xqa : Option Addr) (xqc : Nat) (xia : Option Addr) (xic : Nat) (xpa : Option Addr) (xpc : Nat) (xq : RowE h (.slice xqa X.b.length xqc) X.b.length 1 (X.b.map bv)) (xi : RowE h (.slice xia X.i.length xic) X.i.length 1 (X.i.map Value.string)) (xp : RowE h (.slice xpa X.p.length xpc) X.p.length 32 (hcs X.p)) (x32 : All32 X.p) (hkc : kindC kd = (true,true)) (hX3 : X.c ≠ 3) (k11 : kd ≠ 11) (k15 : kd ≠ 15) (kt : Ktab h) (hE : ∀ M ∈ Ms,M.E.length ≤ 1099511627) (hn : bs.length ≤ 1099511627) : Sat Tryd.prog 23 #[.pointer (some ⟨jb,0,none⟩),.agg #[.int .i64 kd,.string s,.slice oa l.length oc,.int .i64 n,.slice ka kn kc],.agg (asc X.c (.slice xqa X.b.length xqc) X.sx X.se X.sh X.sg (.slice xia X.i.length xic) X.n X.y X.k (.slice xpa X.p.length xpc)).toArray] h fun v h' => v = .int .i64 (holdJ ⟨Ms,false,false,false,false⟩ (fitF kd n s l X)).2 ∧ ∃ bs' ca cc,JA h' jb bs' (holdJ ⟨Ms,false,false,false,false⟩ (fitF kd n s l X)).1 ca cc ∧ (∀ z ∈ bs',z ∈ bs ∨ (h.size ≤ z.1 ∧ h.size ≤ z.2)) ∧ Gr (JF jb bs) h h' := by
 have hj := ja.hj
 have hj0 := ja.hj
 have hbj := blk_lt hj
 have gj := Gr.start (fun k => k = jb) h
 have e0 := Ext.refl h
 have sep : Sep h.size h.size [] := Sep.nil _ _
 refine sat_in Tryd.func23 77 fun a hF => ?_
 refine qS hF ?_
 refine tN 0 (pV h.size) (#[.int .i64 kd,.string s,.slice oa l.length oc,.int .i64 n,.slice ka kn kc]) 26 fun h1 g2 m3 => ?_
 have lt4 := blk_lt m3
 have zs5 := e0.size
 have zs6 := gj.1
 have hlo := gj.1
 have sepo := sep
 replace e0 := e0.ext g2
 replace gj := gj.ext g2
 replace hj := Ext.blk g2 hj
 replace sep := sep.up g2.size
 replace sep := sepo.new hlo (blk_lt m3)
 clear sepo hlo
 refine tN 1 (pV h1.size) ((asc X.c (.slice xqa X.b.length xqc) X.sx X.se X.sh X.sg (.slice xia X.i.length xic) X.n X.y X.k (.slice xpa X.p.length xpc)).toArray) 41 fun h7 g8 m9 => ?_
 have lt10 := blk_lt m9
 have zs11 := e0.size
 have zs12 := gj.1
 have hlo := gj.1
 have sepo := sep
 replace e0 := e0.ext g8
 replace gj := gj.ext g8
 replace hj := Ext.blk g8 hj
 replace m3 := Ext.blk g8 m3
 replace sep := sep.up g8.size
 replace sep := sepo.new hlo (blk_lt m9)
 clear sepo hlo
 refine sT [(4,pV h.size),(5,pV h1.size)] fun a hF => ?_
 refine qS hF ?_
 refine tC 0 (.agg #[.int .i64 kd,.string s,.slice oa l.length oc,.int .i64 n,.slice ka kn kc]) (Calm.load (T := 26) (p := ⟨h.size,0,none⟩) (by kernel_rfl) (Loads.blk (vs := [.int .i64 kd,.string s,.slice oa l.length oc,.int .i64 n,.slice ka kn kc]) (by kernel_rfl) m3 rfl)) ?_
 refine tG 1 (kind_at _ kd n s oa l.length oc ka kn kc true true hkc) ?_
 rintro _ h13 ⟨rfl,g⟩
 replace e0 := e0.ext g
 replace gj := gj.ext g
 replace hj := Ext.blk g hj
 replace m3 := Ext.blk g m3
 replace m9 := Ext.blk g m9
 replace sep := sep.up g.size
 clear g
 refine sT [(7,.bool true),(8,.bool true)] fun a hF => ?_
 refine qS hF ?_
 refine tN 1 (pV h13.size) ((asc (0 : Int) (.slice none 0 0) rb0 (0 : Int) false false (.slice none 0 0) (0 : Int) rb0 (0 : Int) (.slice none 0 0)).toArray) 41 fun h14 g15 m16 => ?_
 have lt17 := blk_lt m16
 have zs18 := e0.size
 have zs19 := gj.1
 have hlo := gj.1
 have sepo := sep
 replace e0 := e0.ext g15
 replace gj := gj.ext g15
 replace hj := Ext.blk g15 hj
 replace m3 := Ext.blk g15 m3
 replace m9 := Ext.blk g15 m9
 replace sep := sep.up g15.size
 replace sep := sepo.new hlo (blk_lt m16)
 clear sepo hlo
 refine tW 2 0 (asc (2 : Int) (.slice none 0 0) rb0 (0 : Int) false false (.slice none 0 0) (0 : Int) rb0 (0 : Int) (.slice none 0 0)) (asc (0 : Int) (.slice none 0 0) rb0 (0 : Int) false false (.slice none 0 0) (0 : Int) rb0 (0 : Int) (.slice none 0 0)) (asc (2 : Int) (.slice none 0 0) rb0 (0 : Int) false false (.slice none 0 0) (0 : Int) rb0 (0 : Int) (.slice none 0 0)) m16 (fun h20 g21 m16' => ?_)
 replace e0 := e0.grew g21 (sep.low 0 rfl)
 replace gj := gj.thenO g21 (fun i e => .inr (sep.low 0 rfl i e))
 replace hj := Grew.blk g21 hj (by simp; omega)
 replace m3 := Grew.blk g21 m3 ((sep.bp 2 0))
 replace m9 := Grew.blk g21 m9 ((sep.bp 1 0))
 replace sep := sep.up g21.size
 clear m16; have m16 := m16'; clear m16'
 refine sT [(9,pV h13.size)] fun a hF => ?_
 refine cS ?_
 refine cB 0 ?_
 refine qS hF ?_
 refine tB 3 4 4 (.bool false) hj ?_
 refine sT [(16,.bool false)] fun a hF => ?_
 refine cF 16 hF ?_
 refine qP [(21,.bool false)] hF fun a hF => ?_
 refine cF 21 hF ?_
 refine qS hF ?_
 refine tB 3 4 1 (.bool false) hj ?_
 refine sT [(30,.bool false)] fun a hF => ?_
 refine cF 30 hF ?_
 refine cS ?_
 rcases Int.decEq X.c 2 with hX2 | hX2
 ·skip
  refine rS hF ?_
  refine tC 1 (.int .i64 X.c) (Calm.load (T := 31) (p := ⟨h1.size,0,none⟩) (by kernel_rfl) (Loads.one (k := 1) (by kernel_rfl) ((hcell_blk m9).trans (rfl)))) ?_
  refine t1 2 (.bool false) (.bool (X.c == (2 : Int))) (congrArg Value.bool (beq_eq_false_iff_ne.2 (by omega))) ?_
  refine sE [(38,.bool false)] fun a hF => ?_
  refine tK ?_
  refine cF 38 hF ?_
  refine qS hF ?_
  refine tC 3 (.int .i64 X.c) (Calm.load (T := 31) (p := ⟨h1.size,0,none⟩) (by kernel_rfl) (Loads.one (k := 1) (by kernel_rfl) ((hcell_blk m9).trans (rfl)))) ?_
  refine t1 4 (.bool false) (.bool (X.c == (3 : Int))) (congrArg Value.bool (beq_eq_false_iff_ne.2 (by omega))) ?_
  refine sT [(58,.bool false)] fun a hF => ?_
  refine cF 58 hF ?_
  refine cN ?_
  refine bK ?_
  refine tK ?_
  refine qS hF ?_
  refine tC 1 (.agg #[.int .i64 kd,.string s,.slice oa l.length oc,.int .i64 n,.slice ka kn kc]) (Calm.load (T := 26) (p := ⟨h.size,0,none⟩) (by kernel_rfl) (Loads.blk (vs := [.int .i64 kd,.string s,.slice oa l.length oc,.int .i64 n,.slice ka kn kc]) (by kernel_rfl) m3 rfl)) ?_
  refine tC 2 (.agg (asc X.c (.slice xqa X.b.length xqc) X.sx X.se X.sh X.sg (.slice xia X.i.length xic) X.n X.y X.k (.slice xpa X.p.length xpc)).toArray) (Calm.load (T := 41) (p := ⟨h1.size,0,none⟩) (by kernel_rfl) (Loads.blk (vs := asc X.c (.slice xqa X.b.length xqc) X.sx X.se X.sh X.sg (.slice xia X.i.length xic) X.n X.y X.k (.slice xpa X.p.length xpc)) (by kernel_rfl) m9 rfl)) ?_
  have hse := e0.size
  refine tG 5 (hold_sat _ jb bs Ms false false false ca cc (ja.ext e0) kd n s l oa oc ka kn kc (hr.ext e0) hsz X xqa xqc xia xic xpa xpc (xq.ext e0) (xi.ext e0) (xp.ext e0) x32 k11 k15 (kt.ext e0) hE hn) ?_
  rintro _ h22 ⟨rfl,bs2,ca2,cc2,ja2,hsub,gz⟩
  have gw := (Gr.start (JF jb bs) h).ext e0 |>.trans gz
  refine sT [(6,.int .i64 ((holdJ ⟨Ms,false,false,false,false⟩ (fitF kd n s l X)).2))] fun a hF => ?_
  refine cR ?_
  refine rT 6 (.int .i64 ((holdJ ⟨Ms,false,false,false,false⟩ (fitF kd n s l X)).2)) hF ?_
  exact ⟨rfl,bs2,ca2,cc2,ja2,fun x hx => .inl (hsub x hx),gw⟩
 ·skip
  refine rS hF ?_
  refine tC 1 (.int .i64 X.c) (Calm.load (T := 31) (p := ⟨h1.size,0,none⟩) (by kernel_rfl) (Loads.one (k := 1) (by kernel_rfl) ((hcell_blk m9).trans (rfl)))) ?_
  refine t1 2 (.bool true) (.bool (X.c == (2 : Int))) (congrArg Value.bool (beq_iff_eq.2 (by omega))) ?_
  refine tB 7 4 2 (.bool false) hj ?_
  refine sE [(38,.bool false)] fun a hF => ?_
  refine tK ?_
  refine cF 38 hF ?_
  refine qS hF ?_
  refine tC 3 (.int .i64 X.c) (Calm.load (T := 31) (p := ⟨h1.size,0,none⟩) (by kernel_rfl) (Loads.one (k := 1) (by kernel_rfl) ((hcell_blk m9).trans (rfl)))) ?_
  refine t1 4 (.bool false) (.bool (X.c == (3 : Int))) (congrArg Value.bool (beq_eq_false_iff_ne.2 (by omega))) ?_
  refine sT [(58,.bool false)] fun a hF => ?_
  refine cF 58 hF ?_
  refine cN ?_
  refine bK ?_
  refine tK ?_
  refine qS hF ?_
  refine tC 1 (.agg #[.int .i64 kd,.string s,.slice oa l.length oc,.int .i64 n,.slice ka kn kc]) (Calm.load (T := 26) (p := ⟨h.size,0,none⟩) (by kernel_rfl) (Loads.blk (vs := [.int .i64 kd,.string s,.slice oa l.length oc,.int .i64 n,.slice ka kn kc]) (by kernel_rfl) m3 rfl)) ?_
  refine tC 2 (.agg (asc X.c (.slice xqa X.b.length xqc) X.sx X.se X.sh X.sg (.slice xia X.i.length xic) X.n X.y X.k (.slice xpa X.p.length xpc)).toArray) (Calm.load (T := 41) (p := ⟨h1.size,0,none⟩) (by kernel_rfl) (Loads.blk (vs := asc X.c (.slice xqa X.b.length xqc) X.sx X.se X.sh X.sg (.slice xia X.i.length xic) X.n X.y X.k (.slice xpa X.p.length xpc)) (by kernel_rfl) m9 rfl)) ?_
  have hse := e0.size
  refine tG 5 (hold_sat _ jb bs Ms false false false ca cc (ja.ext e0) kd n s l oa oc ka kn kc (hr.ext e0) hsz X xqa xqc xia xic xpa xpc (xq.ext e0) (xi.ext e0) (xp.ext e0) x32 k11 k15 (kt.ext e0) hE hn) ?_
  rintro _ h23 ⟨rfl,bs2,ca2,cc2,ja2,hsub,gz⟩
  have gw := (Gr.start (JF jb bs) h).ext e0 |>.trans gz
  refine sT [(6,.int .i64 ((holdJ ⟨Ms,false,false,false,false⟩ (fitF kd n s l X)).2))] fun a hF => ?_
  refine cR ?_
  refine rT 6 (.int .i64 ((holdJ ⟨Ms,false,false,false,false⟩ (fitF kd n s l X)).2)) hF ?_
  exact ⟨rfl,bs2,ca2,cc2,ja2,fun x hx => .inl (hsub x hx),gw⟩
set_option maxHeartbeats 1000000 in
theorem see_holdA (h : Heap) (jb : Nat) (bs : List (Nat × Nat)) (Ms : List Md) (ca : Option Addr) (cc : Nat)  (ja : JA h jb bs ⟨Ms,false,false,false,false⟩ ca cc) (kd n : Int) (s : ByteArray) (l : List UInt8) (oa : Option Addr) (oc : Nat) (ka : Option Addr) (kn kc : Nat) (hr : RowE h (.slice oa l.length oc) l.length 1 (l.map bv)) (hsz : s.size ≤ 9223372036854775807) (X : An) (xqa : Option Addr) (xqc : Nat) (xia : Option Addr) (xic : Nat) (xpa : Option Addr) (xpc : Nat) (xq : RowE h (.slice xqa X.b.length xqc) X.b.length 1 (X.b.map bv)) (xi : RowE h (.slice xia X.i.length xic) X.i.length 1 (X.i.map Value.string)) (xp : RowE h (.slice xpa X.p.length xpc) X.p.length 32 (hcs X.p)) (x32 : All32 X.p) (hkc : kindC kd = (true,false)) (k11 : kd ≠ 11) (k15 : kd ≠ 15) (kt : Ktab h) (hE : ∀ M ∈ Ms,M.E.length ≤ 1099511627) (hn : bs.length ≤ 1099511627) : Sat Tryd.prog 23 #[.pointer (some ⟨jb,0,none⟩),.agg #[.int .i64 kd,.string s,.slice oa l.length oc,.int .i64 n,.slice ka kn kc],.agg (asc X.c (.slice xqa X.b.length xqc) X.sx X.se X.sh X.sg (.slice xia X.i.length xic) X.n X.y X.k (.slice xpa X.p.length xpc)).toArray] h fun v h' => v = .int .i64 (holdJ ⟨Ms,false,false,false,false⟩ (fitF kd n s l X)).2 ∧ ∃ bs' ca cc,JA h' jb bs' (holdJ ⟨Ms,false,false,false,false⟩ (fitF kd n s l X)).1 ca cc ∧ (∀ z ∈ bs',z ∈ bs ∨ (h.size ≤ z.1 ∧ h.size ≤ z.2)) ∧ Gr (JF jb bs) h h' := by
 have hj := ja.hj
 have hj0 := ja.hj
 have hbj := blk_lt hj
 have gj := Gr.start (fun k => k = jb) h
 have e0 := Ext.refl h
 have sep : Sep h.size h.size [] := Sep.nil _ _
 refine sat_in Tryd.func23 77 fun a hF => ?_
 refine qS hF ?_
 refine tN 0 (pV h.size) (#[.int .i64 kd,.string s,.slice oa l.length oc,.int .i64 n,.slice ka kn kc]) 26 fun h1 g2 m3 => ?_
 have lt4 := blk_lt m3
 have zs5 := e0.size
 have zs6 := gj.1
 have hlo := gj.1
 have sepo := sep
 replace e0 := e0.ext g2
 replace gj := gj.ext g2
 replace hj := Ext.blk g2 hj
 replace sep := sep.up g2.size
 replace sep := sepo.new hlo (blk_lt m3)
 clear sepo hlo
 refine tN 1 (pV h1.size) ((asc X.c (.slice xqa X.b.length xqc) X.sx X.se X.sh X.sg (.slice xia X.i.length xic) X.n X.y X.k (.slice xpa X.p.length xpc)).toArray) 41 fun h7 g8 m9 => ?_
 have lt10 := blk_lt m9
 have zs11 := e0.size
 have zs12 := gj.1
 have hlo := gj.1
 have sepo := sep
 replace e0 := e0.ext g8
 replace gj := gj.ext g8
 replace hj := Ext.blk g8 hj
 replace m3 := Ext.blk g8 m3
 replace sep := sep.up g8.size
 replace sep := sepo.new hlo (blk_lt m9)
 clear sepo hlo
 refine sT [(4,pV h.size),(5,pV h1.size)] fun a hF => ?_
 refine qS hF ?_
 refine tC 0 (.agg #[.int .i64 kd,.string s,.slice oa l.length oc,.int .i64 n,.slice ka kn kc]) (Calm.load (T := 26) (p := ⟨h.size,0,none⟩) (by kernel_rfl) (Loads.blk (vs := [.int .i64 kd,.string s,.slice oa l.length oc,.int .i64 n,.slice ka kn kc]) (by kernel_rfl) m3 rfl)) ?_
 refine tG 1 (kind_at _ kd n s oa l.length oc ka kn kc true false hkc) ?_
 rintro _ h13 ⟨rfl,g⟩
 replace e0 := e0.ext g
 replace gj := gj.ext g
 replace hj := Ext.blk g hj
 replace m3 := Ext.blk g m3
 replace m9 := Ext.blk g m9
 replace sep := sep.up g.size
 clear g
 refine sT [(7,.bool true),(8,.bool false)] fun a hF => ?_
 refine qS hF ?_
 refine tN 1 (pV h13.size) ((asc (0 : Int) (.slice none 0 0) rb0 (0 : Int) false false (.slice none 0 0) (0 : Int) rb0 (0 : Int) (.slice none 0 0)).toArray) 41 fun h14 g15 m16 => ?_
 have lt17 := blk_lt m16
 have zs18 := e0.size
 have zs19 := gj.1
 have hlo := gj.1
 have sepo := sep
 replace e0 := e0.ext g15
 replace gj := gj.ext g15
 replace hj := Ext.blk g15 hj
 replace m3 := Ext.blk g15 m3
 replace m9 := Ext.blk g15 m9
 replace sep := sep.up g15.size
 replace sep := sepo.new hlo (blk_lt m16)
 clear sepo hlo
 refine tW 2 0 (asc (2 : Int) (.slice none 0 0) rb0 (0 : Int) false false (.slice none 0 0) (0 : Int) rb0 (0 : Int) (.slice none 0 0)) (asc (0 : Int) (.slice none 0 0) rb0 (0 : Int) false false (.slice none 0 0) (0 : Int) rb0 (0 : Int) (.slice none 0 0)) (asc (2 : Int) (.slice none 0 0) rb0 (0 : Int) false false (.slice none 0 0) (0 : Int) rb0 (0 : Int) (.slice none 0 0)) m16 (fun h20 g21 m16' => ?_)
 replace e0 := e0.grew g21 (sep.low 0 rfl)
 replace gj := gj.thenO g21 (fun i e => .inr (sep.low 0 rfl i e))
 replace hj := Grew.blk g21 hj (by simp; omega)
 replace m3 := Grew.blk g21 m3 ((sep.bp 2 0))
 replace m9 := Grew.blk g21 m9 ((sep.bp 1 0))
 replace sep := sep.up g21.size
 clear m16; have m16 := m16'; clear m16'
 refine sT [(9,pV h13.size)] fun a hF => ?_
 refine cS ?_
 refine cB 0 ?_
 refine qS hF ?_
 refine tB 3 4 4 (.bool false) hj ?_
 refine sT [(16,.bool false)] fun a hF => ?_
 refine cF 16 hF ?_
 refine qP [(21,.bool false)] hF fun a hF => ?_
 refine cF 21 hF ?_
 refine qS hF ?_
 refine tB 3 4 1 (.bool false) hj ?_
 refine sT [(30,.bool false)] fun a hF => ?_
 refine cF 30 hF ?_
 refine cS ?_
 rcases Int.decEq X.c 2 with hX2 | hX2
 ·skip
  refine rS hF ?_
  refine tC 1 (.int .i64 X.c) (Calm.load (T := 31) (p := ⟨h1.size,0,none⟩) (by kernel_rfl) (Loads.one (k := 1) (by kernel_rfl) ((hcell_blk m9).trans (rfl)))) ?_
  refine t1 2 (.bool false) (.bool (X.c == (2 : Int))) (congrArg Value.bool (beq_eq_false_iff_ne.2 (by omega))) ?_
  refine sE [(38,.bool false)] fun a hF => ?_
  refine tK ?_
  refine cF 38 hF ?_
  refine qP [(58,.bool false)] hF fun a hF => ?_
  refine cF 58 hF ?_
  refine cN ?_
  refine bK ?_
  refine tK ?_
  refine qS hF ?_
  refine tC 1 (.agg #[.int .i64 kd,.string s,.slice oa l.length oc,.int .i64 n,.slice ka kn kc]) (Calm.load (T := 26) (p := ⟨h.size,0,none⟩) (by kernel_rfl) (Loads.blk (vs := [.int .i64 kd,.string s,.slice oa l.length oc,.int .i64 n,.slice ka kn kc]) (by kernel_rfl) m3 rfl)) ?_
  refine tC 2 (.agg (asc X.c (.slice xqa X.b.length xqc) X.sx X.se X.sh X.sg (.slice xia X.i.length xic) X.n X.y X.k (.slice xpa X.p.length xpc)).toArray) (Calm.load (T := 41) (p := ⟨h1.size,0,none⟩) (by kernel_rfl) (Loads.blk (vs := asc X.c (.slice xqa X.b.length xqc) X.sx X.se X.sh X.sg (.slice xia X.i.length xic) X.n X.y X.k (.slice xpa X.p.length xpc)) (by kernel_rfl) m9 rfl)) ?_
  have hse := e0.size
  refine tG 5 (hold_sat _ jb bs Ms false false false ca cc (ja.ext e0) kd n s l oa oc ka kn kc (hr.ext e0) hsz X xqa xqc xia xic xpa xpc (xq.ext e0) (xi.ext e0) (xp.ext e0) x32 k11 k15 (kt.ext e0) hE hn) ?_
  rintro _ h22 ⟨rfl,bs2,ca2,cc2,ja2,hsub,gz⟩
  have gw := (Gr.start (JF jb bs) h).ext e0 |>.trans gz
  refine sT [(6,.int .i64 ((holdJ ⟨Ms,false,false,false,false⟩ (fitF kd n s l X)).2))] fun a hF => ?_
  refine cR ?_
  refine rT 6 (.int .i64 ((holdJ ⟨Ms,false,false,false,false⟩ (fitF kd n s l X)).2)) hF ?_
  exact ⟨rfl,bs2,ca2,cc2,ja2,fun x hx => .inl (hsub x hx),gw⟩
 ·skip
  refine rS hF ?_
  refine tC 1 (.int .i64 X.c) (Calm.load (T := 31) (p := ⟨h1.size,0,none⟩) (by kernel_rfl) (Loads.one (k := 1) (by kernel_rfl) ((hcell_blk m9).trans (rfl)))) ?_
  refine t1 2 (.bool true) (.bool (X.c == (2 : Int))) (congrArg Value.bool (beq_iff_eq.2 (by omega))) ?_
  refine tB 7 4 2 (.bool false) hj ?_
  refine sE [(38,.bool false)] fun a hF => ?_
  refine tK ?_
  refine cF 38 hF ?_
  refine qP [(58,.bool false)] hF fun a hF => ?_
  refine cF 58 hF ?_
  refine cN ?_
  refine bK ?_
  refine tK ?_
  refine qS hF ?_
  refine tC 1 (.agg #[.int .i64 kd,.string s,.slice oa l.length oc,.int .i64 n,.slice ka kn kc]) (Calm.load (T := 26) (p := ⟨h.size,0,none⟩) (by kernel_rfl) (Loads.blk (vs := [.int .i64 kd,.string s,.slice oa l.length oc,.int .i64 n,.slice ka kn kc]) (by kernel_rfl) m3 rfl)) ?_
  refine tC 2 (.agg (asc X.c (.slice xqa X.b.length xqc) X.sx X.se X.sh X.sg (.slice xia X.i.length xic) X.n X.y X.k (.slice xpa X.p.length xpc)).toArray) (Calm.load (T := 41) (p := ⟨h1.size,0,none⟩) (by kernel_rfl) (Loads.blk (vs := asc X.c (.slice xqa X.b.length xqc) X.sx X.se X.sh X.sg (.slice xia X.i.length xic) X.n X.y X.k (.slice xpa X.p.length xpc)) (by kernel_rfl) m9 rfl)) ?_
  have hse := e0.size
  refine tG 5 (hold_sat _ jb bs Ms false false false ca cc (ja.ext e0) kd n s l oa oc ka kn kc (hr.ext e0) hsz X xqa xqc xia xic xpa xpc (xq.ext e0) (xi.ext e0) (xp.ext e0) x32 k11 k15 (kt.ext e0) hE hn) ?_
  rintro _ h23 ⟨rfl,bs2,ca2,cc2,ja2,hsub,gz⟩
  have gw := (Gr.start (JF jb bs) h).ext e0 |>.trans gz
  refine sT [(6,.int .i64 ((holdJ ⟨Ms,false,false,false,false⟩ (fitF kd n s l X)).2))] fun a hF => ?_
  refine cR ?_
  refine rT 6 (.int .i64 ((holdJ ⟨Ms,false,false,false,false⟩ (fitF kd n s l X)).2)) hF ?_
  exact ⟨rfl,bs2,ca2,cc2,ja2,fun x hx => .inl (hsub x hx),gw⟩
end Go.Proofs.YtegkejcglfgpmaaDoor
end
section
namespace Go.Sha
open Go Go.Lane
theorem JA.ownO {h h' : Heap} {jb : Nat} {bs : List (Nat × Nat)} {J : Jd} {ca : Option Addr} {cc : Nat} {o : Option Nat} {v : Value} {E : TypeId} {n sz : Nat} {xs : List Value} (a : JA h jb bs J ca cc) (g : Grew o h h') (w : Own h v E n sz xs) (ho : blkOf v = o) (hE : Eok E = false) (hM : E ≠ 57) (hP : E ≠ 29) (hJ : E ≠ 74) : JA h' jb bs J ca cc := by
  subst ho
  rcases w.2 with ⟨rfl, _⟩ | ⟨k, off, cap, l, rfl, m, _⟩
  · exact a.ext g
  · have gr : Gr (fun i => i = k) h h' := ⟨g.1, fun i hi hn => g.2 i hi (fun e => hn (Option.some.inj e))⟩
    have hjk : jb ≠ k := by rintro rfl; rw [a.hj] at m; cases m; exact hJ rfl
    exact ⟨gr.blk a.hj hjk, a.row.fr gr (fun i e cs fr e2 => by rw [e, m] at e2; cases e2; exact hP rfl), a.cs.ownO g w rfl hE hM⟩
theorem JA.nown {h : Heap} {jb : Nat} {bs : List (Nat × Nat)} {J : Jd} {ca : Option Addr} {cc : Nat} {ad : Option Addr} {n cap : Nat} {E : TypeId} {m sz : Nat} {xs : List Value} (a : JA h jb bs J ca cc) (w : Own h (.slice ad n cap) E m sz xs) (hM : E ≠ 57) (hJ : E ≠ 74) : ∀ k, ad.map (fun (x : Addr) => x.block) = some k → ¬ JF jb bs k := fun k e => by
  rcases w.2 with ⟨e2, _⟩ | ⟨g, off, cap', l, e2, q, _⟩
  · cases e2; cases e
  · cases e2
    simp only [Option.map_some, Option.some.injEq] at e
    subst e
    rintro (rfl | ⟨x, hx, e⟩)
    · rw [a.hj] at q; cases q; exact hJ rfl
    · have := a.cs.nej q hM x hx
      rcases e with e | e
      · exact this.1 e
      · exact this.2 e
/-! ### faults -/
@[reducible] def ftc (p : Int × Int) : List Value := [.int .i64 p.1, .int .i64 p.2]
@[reducible] def ftrow (L : List (Int × Int)) : List Value := L.flatMap ftc
theorem ftc_len (p : Int × Int) : (ftc p).length = 2 := rfl
theorem ftrow_one (L : List (Int × Int)) : ∀ u ∈ ftrow L, u.oneCell' = true := fm_ones (fun p u hu => by simp only [ftc, List.mem_cons, List.not_mem_nil, or_false] at hu; rcases hu with rfl | rfl <;> rfl) L
def fts (r : Nat → Int) (k : Nat) : List (Int × Int) := (List.range k).filterMap fun i => if r i = 0 then none else some (((i : Nat) : Int), r i)
theorem fts_no {r : Nat → Int} {k : Nat} (h : r k = 0) : fts r (k + 1) = fts r k := by unfold fts; rw [List.range_succ, List.filterMap_append]; simp [h]
theorem fts_yes {r : Nat → Int} {k : Nat} (h : r k ≠ 0) : fts r (k + 1) = fts r k ++ [(((k : Nat) : Int), r k)] := by unfold fts; rw [List.range_succ, List.filterMap_append]; simp [h]
theorem fts_le (r : Nat → Int) : ∀ k, (fts r k).length ≤ k
  | 0 => by simp [fts]
  | k + 1 => by
    have := fts_le r k
    by_cases h : r k = 0
    · rw [fts_no h]; omega
    · rw [fts_yes h]; simp; omega
end Go.Sha
end
section
namespace Go.Proofs.YtegkejcglfgpmaaDoor
open Go Go.Lane Go.Sha
/-! ### answers with their slices; what the judge does by one operation -/
structure AnR where
  X : An
  qa : Option Addr
  qc : Nat
  ia : Option Addr
  ic : Nat
  pa : Option Addr
  pc : Nat
@[reducible] def ansr (r : AnR) : List Value := asc r.X.c (.slice r.qa r.X.b.length r.qc) r.X.sx r.X.se r.X.sh r.X.sg (.slice r.ia r.X.i.length r.ic) r.X.n r.X.y r.X.k (.slice r.pa r.X.p.length r.pc)
def ar0 : AnR := ⟨an0, none, 0, none, 0, none, 0⟩
@[reducible] def arow (A : List AnR) : List Value := A.flatMap ansr
theorem ansr_len (r : AnR) : (ansr r).length = 75 := rfl
def OpE (h : Heap) (o : OpR) : Prop := RowE h (.slice o.oa o.l.length o.oc) o.l.length 1 (o.l.map bv) ∧ o.s.size ≤ 9223372036854775807
def AnE (h : Heap) (x : AnR) : Prop := RowE h (.slice x.qa x.X.b.length x.qc) x.X.b.length 1 (x.X.b.map bv) ∧ RowE h (.slice x.ia x.X.i.length x.ic) x.X.i.length 1 (x.X.i.map Value.string) ∧ RowE h (.slice x.pa x.X.p.length x.pc) x.X.p.length 32 (hcs x.X.p) ∧ All32 x.X.p
theorem _root_.Go.Sha.JA.one {h : Heap} {jb : Nat} {bs : List (Nat × Nat)} {J : Jd} {ca : Option Addr} {cc : Nat} {M : Md} (a : JA h jb bs J ca cc) (hc : J.c = [M]) : ∃ y aa, bs = [y] ∧ ca = some aa := by
  have hl := a.cs.len
  rw [hc] at hl
  obtain ⟨y, rfl⟩ := List.length_eq_one_iff.1 hl
  obtain ⟨aa, e, _⟩ := a.row.1.someA (by simp)
  exact ⟨y, aa, rfl, e⟩
def SeeAt (h : Heap) (o : OpR) (x : AnR) (J J' : Jd) (r : Int) : Prop := ∀ (h1 : Heap) (jb : Nat) (bs : List (Nat × Nat)) (ca : Option Addr) (cc : Nat), Ext h h1 → 1 < jb → Ktab h1 → JA h1 jb bs J ca cc →
  Sat Tryd.prog 23 #[.pointer (some ⟨jb, 0, none⟩), .agg (opc o).toArray, .agg (ansr x).toArray] h1 fun v h' => v = .int .i64 r ∧ ∃ bs' ca cc, JA h' jb bs' J' ca cc ∧ (∀ z ∈ bs', z ∈ bs ∨ (h1.size ≤ z.1 ∧ h1.size ≤ z.2)) ∧ Gr (JF jb bs) h1 h'
section
variable {h : Heap} {o : OpR} {x : AnR} {Ms : List Md} {M : Md}
theorem SeeAt.fuse {o2 o3 : Bool} (hx : AnE h x) (hk : o.kd = 12) : SeeAt h o x ⟨Ms, false, o2, o3, false⟩ ⟨Ms, false, decide (0 ≤ o.n), o3, false⟩ (ruleA an0 x.X) := fun h1 jb bs ca cc g _ _ ja =>
  see_fuse h1 jb bs Ms ca cc o2 o3 ja o.kd o.n o.s o.l o.oa o.oc o.ka o.kn o.kc x.X x.qa x.qc x.ia x.ic x.pa x.pc (hx.1.ext g) (hx.2.1.ext g) (hx.2.2.1.ext g) hx.2.2.2 (kind_ff (by omega) (by omega)) hk
theorem SeeAt.boot {o1 o2 o3 : Bool} (hx : AnE h x) (hk : o.kd = 13) : SeeAt h o x ⟨Ms, o1, o2, o3, false⟩ ⟨Ms, false, false, o3, false⟩ (ruleA an0 x.X) := fun h1 jb bs ca cc g _ _ ja =>
  see_boot h1 jb bs Ms ca cc o1 o2 o3 ja o.kd o.n o.s o.l o.oa o.oc o.ka o.kn o.kc x.X x.qa x.qc x.ia x.ic x.pa x.pc (hx.1.ext g) (hx.2.1.ext g) (hx.2.2.1.ext g) hx.2.2.2 (kind_ff (by omega) (by omega)) hk
theorem SeeAt.power (ho : OpE h o) (hx : AnE h x) (hkc : kindC o.kd = (true, true)) (hX : x.X.c = 2) (hE : M.E.length ≤ 1099511627) (hc : (stepR M o).2.c = 0) (hne : (stepR M o).1.E.length ≠ M.E.length) : SeeAt h o x ⟨[M], false, true, false, false⟩ ⟨[M, (stepR M o).1], true, true, false, false⟩ (ruleA (anC 2) x.X) := fun h1 jb bs ca cc g hk kt ja => by
  obtain ⟨y, aa, rfl, rfl⟩ := ja.one rfl
  exact see_power_a h1 jb y M aa cc ja o.kd o.n o.s o.l o.oa o.oc o.ka o.kn o.kc (ho.1.ext g) ho.2 x.X x.qa x.qc x.ia x.ic x.pa x.pc (hx.1.ext g) (hx.2.1.ext g) (hx.2.2.1.ext g) hx.2.2.2 hkc hX kt hk hE hc hne
theorem SeeAt.holdC (ho : OpE h o) (hx : AnE h x) (hkc : kindC o.kd = (true, true)) (hX : x.X.c ≠ 3) (hE : ∀ M ∈ Ms, M.E.length ≤ 1099511627) (hn : Ms.length ≤ 1099511627) {J : Jd} {r : Int} (e : holdJ ⟨Ms, false, false, false, false⟩ (fitF o.kd o.n o.s o.l x.X) = (J, r)) : SeeAt h o x ⟨Ms, false, false, false, false⟩ J r := fun h1 jb bs ca cc g hk kt ja => by
  have hl := ja.cs.len
  have hh : o.kd ≠ 11 ∧ o.kd ≠ 15 := ⟨by rintro e; rw [e] at hkc; exact absurd hkc (by decide), by rintro e; rw [e] at hkc; exact absurd hkc (by decide)⟩
  have := see_holdC h1 jb bs Ms ca cc ja o.kd o.n o.s o.l o.oa o.oc o.ka o.kn o.kc (ho.1.ext g) ho.2 x.X x.qa x.qc x.ia x.ic x.pa x.pc (hx.1.ext g) (hx.2.1.ext g) (hx.2.2.1.ext g) hx.2.2.2 hkc hX hh.1 hh.2 kt hE (by rw [hl]; exact hn)
  rwa [e] at this
theorem SeeAt.holdA (ho : OpE h o) (hx : AnE h x) (hkc : kindC o.kd = (true, false)) (k11 : o.kd ≠ 11) (k15 : o.kd ≠ 15) (hE : ∀ M ∈ Ms, M.E.length ≤ 1099511627) (hn : Ms.length ≤ 1099511627) {J : Jd} {r : Int} (e : holdJ ⟨Ms, false, false, false, false⟩ (fitF o.kd o.n o.s o.l x.X) = (J, r)) : SeeAt h o x ⟨Ms, false, false, false, false⟩ J r := fun h1 jb bs ca cc g hk kt ja => by
  have hl := ja.cs.len
  have := see_holdA h1 jb bs Ms ca cc ja o.kd o.n o.s o.l o.oa o.oc o.ka o.kn o.kc (ho.1.ext g) ho.2 x.X x.qa x.qc x.ia x.ic x.pa x.pc (hx.1.ext g) (hx.2.1.ext g) (hx.2.2.1.ext g) hx.2.2.2 hkc k11 k15 kt hE (by rw [hl]; exact hn)
  rwa [e] at this
end
/-! ### the document's examples -/
@[reducible] def sA : ByteArray := ByteArray.mk #[97]
noncomputable def M1 : Md := (putM M0 sA [97]).1
def anB (l : List UInt8) : An := { an0 with b := l }
theorem sA_ok : nameOk sA = true := by decide
theorem M1_eq : putM M0 sA [97] = (M1, 0) := by unfold M1; rw [putM_ok sA_ok (by decide) rfl]
theorem M1_f : M1.f sA = some (putO sA [97] 0) := by
  have : M1 = ⟨upd M0.f sA (putO sA [97] M0.E.length), M0.E ++ [entB sA 1 (rootB [97])], M0.t⟩ := by unfold M1; rw [putM_ok sA_ok (by decide) rfl]; rfl
  rw [this]; show upd M0.f sA (putO sA [97] 0) sA = _; exact upd_at _ _ _
theorem M1_E : M1.E.length = 1 := by unfold M1; rw [putM_ok sA_ok (by decide) rfl]; rfl
theorem put0 (n : Int) : step M0 1 n sA [97] = (M1, an0) := by rw [step_put rfl, M1_eq]; rfl
theorem put1 (n : Int) : step M1 1 n sA [97] = (M1, anC 212) := by rw [step_put rfl, putM_twice sA_ok (by decide) M1_f]
theorem get0 (n : Int) (l : List UInt8) : step M0 2 n sA l = (M0, anC 211) := by rw [step_ask (.inl rfl), askM_none sA_ok rfl]
theorem get1 (n : Int) (l : List UInt8) : step M1 2 n sA l = (M1, anB [97]) := by rw [step_ask (.inl rfl), askM_get sA_ok M1_f rfl rfl]; rfl
theorem r00 : ruleA an0 an0 = 0 := rule0 rfl rfl (stEq_self ..) rfl (hdEq_self ..) rfl rfl
theorem rB : ruleA (anB [97]) (anB [98]) = 2 := rule2 rfl (by decide)
theorem rBB : ruleA (anB [97]) (anB [97]) = 0 := rule0 rfl rfl (stEq_self ..) rfl (hdEq_self ..) rfl rfl
theorem rCC (c : Int) : ruleA (anC c) (anC c) = 0 := rule0 rfl rfl (stEq_self ..) rfl (hdEq_self ..) rfl rfl
theorem rC {A B : An} (h : A.c ≠ B.c) : ruleA A B = 1 := rule1 h
theorem hold1 {M N : Md} {f : Md → Md × Int} (h : f M = (N, 0)) {a b c d : Bool} : holdJ ⟨[M], a, b, c, d⟩ f = (⟨[N], a, b, c, d⟩, 0) := by simp [holdJ, h]
theorem hold0 {M N : Md} {r : Int} {f : Md → Md × Int} (h : f M = (N, r)) (hr : r ≠ 0) {a b c d : Bool} : holdJ ⟨[M], a, b, c, d⟩ f = (⟨[N], a, b, c, d⟩, r) := by simp [holdJ, h, hr, hdF]
theorem hold01 {M N K L : Md} {r : Int} {f : Md → Md × Int} (h : f M = (K, r)) (k : f N = (L, 0)) (hr : r ≠ 0) {a b c d : Bool} : holdJ ⟨[M, N], a, b, c, d⟩ f = (⟨[L], a, b, c, d⟩, 0) := by simp [holdJ, h, k, hr]
theorem hold10 {M N K L : Md} {r : Int} {f : Md → Md × Int} (h : f M = (K, 0)) (k : f N = (L, r)) (hr : r ≠ 0) {a b c d : Bool} : holdJ ⟨[M, N], a, b, c, d⟩ f = (⟨[K], a, b, c, d⟩, 0) := by simp [holdJ, h, k, hr]
theorem fit_of {M N : Md} {A X : An} {kd n r : Int} {s : ByteArray} {l : List UInt8} (h : step M kd n s l = (N, A)) (k : ruleA A X = r) : fitF kd n s l X M = (N, r) := by unfold fitF; rw [h]; exact congrArg _ k
def whZ (c : Int) : Nat := (if c < 0 then -(c + 1) else c).toNat % 3
end Go.Proofs.YtegkejcglfgpmaaDoor
end
section
namespace Go.Proofs.YtegkejcglfgpmaaDoor
open Go Go.Lane Go.Sha
noncomputable def b13 : Code := Tryd.f13.body.getD .skip
set_option maxHeartbeats 1000000 in
theorem judge_sat (h : Heap) (L : List OpR) (A : List AnR) (n : Nat) (la : Option Addr) (lc : Nat) (xa : Option Addr) (xc : Nat) (Jf : Nat → Jd) (r : Nat → Int) (hl : Row h (.slice la n lc) n 5 (oprow L)) (hL : L.length = n) (ha : Row h (.slice xa n xc) n 75 (arow A)) (hA : A.length = n) (kt : Ktab h) (hn : n ≤ 1099511627) (hJ0 : Jf 0 = ⟨[M0],false,false,false,false⟩) (see : ∀ k,k < n → SeeAt h (L.getD k op0) (A.getD k ar0) (Jf k) (Jf (k + 1)) (r k)) : Sat Tryd.prog 13 #[.slice la n lc,.slice xa n xc] h fun v h' => ∃ ad cap,v = .slice ad (fts r n).length cap ∧ Own h' (.slice ad (fts r n).length cap) 53 (fts r n).length 2 (ftrow (fts r n)) ∧ Ext h h' := by
 have e0 := Ext.refl h
 have h0s := kt.lt
 have sep : Sep h.size h.size [] := Sep.nil _ _
 refine sat_in Tryd.func13 53 fun a hF => ?_
 refine qP [] hF fun a hF => ?_
 refine qS hF ?_
 refine tG 0 (new_m _ (by have := e0.size; omega)) ?_
 rintro _ h1 ⟨mb,mp,rfl,hM,hb1,hp1,g⟩
 have hse := e0.size; replace hb1 := Nat.le_trans hse hb1; replace hp1 := Nat.le_trans hse hp1; clear hse
 replace e0 := e0.ext g
 replace kt := kt.ext g
 replace sep := sep.up g.size
 clear g
 refine tN 1 (.slice (some ⟨h1.size,0,none⟩) 1 1) (#[pV mb]) 29 fun h2 g3 m4 => ?_
 have lt5 := blk_lt m4
 have zs6 := e0.size
 have hlo := e0.size
 have sepo := sep
 replace e0 := e0.ext g3
 replace kt := kt.ext g3
 replace hM := hM.ext g3
 replace sep := sep.up g3.size
 replace sep := sepo.new hlo (blk_lt m4)
 clear sepo hlo
 refine tN 3 (pV h2.size) (#[.slice (some ⟨h1.size,0,none⟩) 1 1,.bool false,.bool false,.bool false,.bool false]) 74 fun h7 g8 m9 => ?_
 have lt10 := blk_lt m9
 have zs11 := e0.size
 have hlo := e0.size
 have sepo := sep
 replace e0 := e0.ext g8
 replace kt := kt.ext g8
 replace hM := hM.ext g8
 replace m4 := Ext.blk g8 m4
 replace sep := sep.up g8.size
 replace sep := sepo.new hlo (blk_lt m9)
 clear sepo hlo
 refine sT [(5,pV h2.size)] fun a hF => ?_
 refine qP [(6,.slice none 0 0)] hF fun a hF => ?_
 refine qS hF ?_
 refine t1 4 (.int .i64 ((n : Nat) : Int)) (.int .i64 (if ((n : Nat) : Int) < ((n : Nat) : Int) then ((n : Nat) : Int) else ((n : Nat) : Int))) (congrArg (Value.int .i64) (by split <;> rfl)) ?_
 refine sT [(7,nV n)] fun a hF => ?_
 refine cS ?_
 refine qP [(19,nV n),(20,.int .i64 0)] hF fun a hF => ?_
 refine cB 0 ?_
 have hjl : h.size ≤ h2.size := by omega
 have ja : JA h7 h2.size [(mb,mp)] (Jf 0) (some ⟨h1.size,0,none⟩) 1 := hJ0 ▸ ⟨m9,⟨Row.blk (n := 1) (sz := 1) (l := [mpt (mb,mp)]) m4 rfl,.inr ⟨_,_,_,rfl,m4⟩⟩,CA.one hM⟩
 have hlow : ∀ z ∈ [(mb,mp)],h.size ≤ z.1 ∧ h.size ≤ z.2 := fun z hz => by rw [List.mem_singleton.1 hz]; exact ⟨hb1,hp1⟩
 clear hM m4 m9
 have own_f : Own h7 (.slice none 0 0) 53 0 2 (ftrow (fts r 0)) := Own.nil _ _ _
 have hlo := e0.size
 replace sep := (sep.sub (l' := []) (List.nil_sublist _)).none hlo; clear hlo
 refine cL (fun m a h' => ∃ k : Nat,∃ ad : Option Addr,∃ cap : Nat,∃ bs : List (Nat × Nat),∃ ca : Option Addr,∃ cc : Nat,m = n - k ∧ (Ext h h') ∧ (Ktab h') ∧ (k ≤ n) ∧ (∀ z ∈ bs,h.size ≤ z.1 ∧ h.size ≤ z.2) ∧ (JA h' h2.size bs (Jf k) ca cc) ∧ (Own h' (.slice ad ((fts r k).length) cap) 53 ((fts r k).length) 2 (ftrow (fts r k))) ∧ (Sep h.size h'.size [ad.map (·.block)]) ∧ (Fr a 53 [(0,.slice la n lc),(1,.slice xa n xc),(5,.pointer (some ⟨h2.size,0,none⟩)),(6,.slice ad ((fts r k).length) cap),(7,.int .i64 ((n : Nat) : Int)),(19,.int .i64 ((n : Nat) : Int)),(20,.int .i64 ((k : Nat) : Int))])) (n - 0) ⟨0,none,0,[(mb,mp)],(some ⟨h1.size,0,none⟩),1,rfl,e0,kt,(by omega),hlow,ja,own_f,sep,hF.to⟩ ?_
 clear hF a
 clear e0
 clear kt
 clear hlow
 clear ja
 clear own_f
 clear sep
 rintro m a h12 ⟨k,ad,cap,bs,ca,cc,rfl,e0,kt,hk,hlow,ja,own_f,sep,hF⟩
 refine qP [(21,.bool (decide (((k : Nat) : Int) < ((n : Nat) : Int))))] hF fun a hF => ?_
 refine cS ?_
 refine cJ 21 hF (fun hc13 => ?_) fun hc13 => ?_
 ·skip
  have hkn : k < n := by omega
  have hFn := hF
  obtain ⟨al,rfl,hcap_al⟩ := hl.someA (by omega)
  have hF := hFn; clear hFn
  have hFn := hF
  obtain ⟨ax,rfl,hcap_ax⟩ := ha.someA (by omega)
  have hF := hFn; clear hFn
  refine cN ?_
  refine tK ?_
  refine cS ?_
  refine cB 1 ?_
  refine qP [(8,nV k)] hF fun a hF => ?_
  refine cS ?_
  refine cD [0,0,0,6,14,0,0,96,224,511,1023] 7 mixed hF ?_
  refine mP 7 [0,1,2] [pV h2.size,.slice (some al) n lc,nV k] ?_
  refine mF 15 3 (.pointer (some (Addr.add al (k * 5)))) (Calm.indexA (a := al) (len := n) (sz := 5) (k := ((k : Nat) : Int)) k (k * 5) (by kernel_rfl) rfl (by omega) (by omega)) ?_
  refine mL 31 16 4 (.agg ((opc (L.getD k op0)).toArray)) (Calm.load (T := 26) (p := (Addr.add al (k * 5))) (by kernel_rfl) (Row.fm (d := op0) opc_len (hl.ext e0) (by kernel_rfl) (by omega) rfl)) ?_
  refine mP 127 [5,6] [.slice (some ax) n xc,nV k] ?_
  refine mF 255 7 (.pointer (some (Addr.add ax (k * 75)))) (Calm.indexA (a := ax) (len := n) (sz := 75) (k := ((k : Nat) : Int)) k (k * 75) (by kernel_rfl) rfl (by omega) (by omega)) ?_
  refine mL 511 272 8 (.agg ((ansr (A.getD k ar0)).toArray)) (Calm.load (T := 41) (p := (Addr.add ax (k * 75))) (by kernel_rfl) (Row.fm (d := ar0) ansr_len (ha.ext e0) (by kernel_rfl) (by omega) rfl)) ?_
  refine SimK.eff0 (i := 9) (D' := 1023) (X' := 1023) (by kernel_rfl) (by kernel_rfl) (by kernel_rfl) (by kernel_rfl) (Does.call (f := 23) (args := #[.pointer (some ⟨h2.size,0,none⟩),.agg ((opc (L.getD k op0)).toArray),.agg ((ansr (A.getD k ar0)).toArray)]) (by kernel_rfl) (see k hkn _ h2.size bs ca cc e0 (by omega) kt ja)) ?_
  rintro _ h14 ⟨rfl,bs2,ca2,cc2,ja2,hb2,gz⟩
  have hse := e0.size
  have hlow2 : ∀ z ∈ bs2,h.size ≤ z.1 ∧ h.size ≤ z.2 := fun z hz => by rcases hb2 z hz with h9 | h9; exact hlow z h9; exact ⟨by omega,by omega⟩
  have hJF : ∀ i,JF h2.size bs i → h.size ≤ i := by rintro i (e | ⟨x,hx,e | e⟩); omega; have := hlow x hx; omega; have := hlow x hx; omega
  replace own_f := Gr.own gz own_f (by rw [blkOf_slice]; exact ja.nown own_f (by decide) (by decide))
  replace e0 := Gr.toExt e0 gz hJF
  replace kt := kt.gr gz (fun e => by have := hJF _ e; omega)
  replace sep := sep.up gz.1
  clear ja; have ja := ja2; clear ja2 hJF hse hb2
  refine mP 2047 [10] [.int .i64 (r k)] ?_
  refine mE [(9,.int .i64 (r k))] fun a hF => ?_
  refine tK ?_
  refine qP [(34,.bool (!decide ((r k) = (0 : Int))))] hF fun a hF => ?_
  refine cI 34 hF (fun hc15 => ?_) fun hc15 => ?_
  ·skip
   have hfz := fts_yes hc15
   have hfl := fts_le r k
   refine rS hF ?_
   refine tN 4 (.slice (some ⟨h14.size,0,none⟩) 1 1) (#[nV k,.int .i64 (r k)]) 53 fun h16 g17 m18 => ?_
   have lt19 := blk_lt m18
   have zs20 := e0.size
   have hlo := e0.size
   have sepo := sep
   replace e0 := e0.ext g17
   replace kt := kt.ext g17
   replace own_f := own_f.ext g17
   replace ja := ja.ext g17
   replace sep := sep.up g17.size
   replace sep := sepo.new hlo (blk_lt m18)
   clear sepo hlo
   refine tF 5 (Does.append2 (t := 48) (E := 53) (sz := 2) (by_ := 16) (n := (fts r k).length) (m := 1) (v := .slice ad ((fts r k).length) cap) (x := .slice (some ⟨h14.size,0,none⟩) 1 1) (xs := (ftrow (fts r k))) (ys := (ftrow ([(((k : Nat) : Int),r k)]))) (by kernel_rfl) (by kernel_rfl) own_f (Row.blk (n := 1) (sz := 2) (l := ftrow [(((k : Nat) : Int),r k)]) m18 rfl) (ftrow_one _) (by unfold maxLen; omega) (by omega)) ?_
   rintro _ h23 ⟨ad21,cap22,rfl,ownx,g,hb⟩
   rw [blkOf_slice] at g hb
   have hlo := e0.size
   have sepo := sep
   replace e0 := e0.grew g (sep.low 1 rfl)
   replace kt := kt.grew g (sep.zero 1 rfl h0s)
   replace ja := ja.ownO g own_f (blkOf_slice ..) (by decide) (by decide) (by decide) (by decide)
   replace m18 := Grew.blk g m18 ((sep.bp 0 1))
   replace sep := sep.up g.size
   replace sep : Sep h.size h23.size [some (h14.size),ad21.map (·.block)] := sepo.set g.size hlo 1 (y := ad21.map (fun (x : Addr) => x.block)) rfl (hb.imp id fun e => .inr ⟨_,e,Nat.le_refl _⟩) (fun k e => ownx.lt (by rw [blkOf_slice]; exact e))
   replace own_f : Own h23 (.slice ad21 ((fts r k).length + 1) cap22) 53 ((fts r k).length + 1) 2 (ftrow (fts r k ++ [(((k : Nat) : Int),r k)])) := Own.appG ownx (by first | rfl | exact List.flatMap_append.symm | simp [ftrow]) (by first | rfl | (simp; done) | (simp; omega))
   clear ownx g hb hlo sepo
   have hfl2 : (fts r k).length + 1 = (fts r (k + 1)).length := by rw [hfz,List.length_append]; rfl
   rw [hfl2,← hfz] at own_f
   refine sE [(6,.slice ad21 (((fts r k).length) + 1) cap22)] fun a hF => ?_
   have hcan : (((fts r k).length) + 1 : Nat) = (fts r (k + 1)).length := by first | exact hfl2 | (simp; done) | (simp; omega)
   rw [hcan] at hF; clear hcan
   refine bK ?_
   refine tK ?_
   refine rS hF ?_
   refine tA 0 k 1 ?_
   refine sE [(20,nV (k + 1))] fun a hF => ?_
   clear m18 lt19 zs20
   replace sep := sep.sub (l' := [ad21.map (·.block)]) (.cons _ (.cons_cons _ (.slnil)))
   show ∃ m',m' < _ ∧ _
   refine ⟨_,?_,(k + 1),ad21,cap22,bs2,ca2,cc2,rfl,e0,kt,(by omega),hlow2,ja,own_f,sep,hF.to⟩
   omega
  ·skip
   have hfz := fts_no hc15
   rw [← hfz] at own_f hF
   refine cN ?_
   refine bK ?_
   refine tK ?_
   refine rS hF ?_
   refine tA 0 k 1 ?_
   refine sE [(20,nV (k + 1))] fun a hF => ?_
   replace sep := sep.sub (l' := [ad.map (·.block)]) (.cons_cons _ (.slnil))
   show ∃ m',m' < _ ∧ _
   refine ⟨_,?_,(k + 1),ad,cap,bs2,ca2,cc2,rfl,e0,kt,(by omega),hlow2,ja,own_f,sep,hF.to⟩
   omega
 ·skip
  refine cX 0 (xT (xT (xB ?_)))
  refine tK ?_
  refine cS ?_
  refine qS hF ?_
  refine t1 4 (.bool false) (.bool (!(((n : Nat) : Int) == ((n : Nat) : Int)))) (congrArg (fun b => Value.bool (!b)) (beq_iff_eq.2 (by omega))) ?_
  refine sT [(46,.bool false)] fun a hF => ?_
  refine cF 46 hF ?_
  refine cN ?_
  refine tK ?_
  refine qP [(4,.slice ad ((fts r k).length) cap)] hF fun a hF => ?_
  refine cR ?_
  refine rT 4 (.slice ad ((fts r k).length) cap) hF ?_
  have hke : k = n := by omega
  exact ⟨ad,cap,by rw [hke],by rw [← hke]; exact own_f,e0⟩
noncomputable def b14 : Code := Tryd.f14.body.getD .skip
theorem samef_a (h : Heap) (p : Int × Int) (aa : Addr) (vc : Nat) (ab : Addr) (vd : Nat) (ra : Row h (.slice (some aa) 1 vc) 1 2 (ftrow [p])) (rb : Row h (.slice (some ab) 1 vd) 1 2 (ftrow [p])) : Sat Tryd.prog 14 #[.slice (some aa) 1 vc,.slice (some ab) 1 vd] h fun v h' => v = .bool true ∧ h' = h := by
 refine sat_in Tryd.func14 26 fun a hF => ?_
 refine qP [] hF fun a hF => ?_
 refine cS ?_
 refine qP [(10,.bool false)] hF fun a hF => ?_
 refine cF 10 hF ?_
 refine cN ?_
 refine tK ?_
 refine cS ?_
 refine qP [(5,.int .i64 0)] hF fun a hF => ?_
 refine cB 0 ?_
 refine cU 2 ?_
 refine Cround.step ?_
 refine cS ?_
 refine qP [(14,.bool true)] hF fun a hF => ?_
 refine cT 14 hF ?_
 refine cN ?_
 refine tK ?_
 refine cS ?_
 refine cB 1 ?_
 refine cS ?_
 refine cD [0,0,3,7,0,0,48,112,255] 6 mixed hF ?_
 refine mP 3 [0,1] [.slice (some aa) 1 vc,.int .i64 0] ?_
 refine mF 7 2 (.pointer (some aa)) (Calm.indexA (a := aa) (len := 1) (sz := 2) (k := (0 : Int)) 0 0 (by kernel_rfl) rfl (by omega) (by omega)) ?_
 refine mL 15 8 3 (.agg #[.int .i64 p.1,.int .i64 p.2]) (Calm.load (T := 53) (p := aa) (by kernel_rfl) (Row.fm (a := aa) (q := 0) (L := [p]) (i := 0) (d := p) ftc_len ra (by kernel_rfl) (by simp) rfl)) ?_
 refine mP 63 [4,5] [.slice (some ab) 1 vd,.int .i64 0] ?_
 refine mF 127 6 (.pointer (some ab)) (Calm.indexA (a := ab) (len := 1) (sz := 2) (k := (0 : Int)) 0 0 (by kernel_rfl) rfl (by omega) (by omega)) ?_
 refine mL 255 136 7 (.agg #[.int .i64 p.1,.int .i64 p.2]) (Calm.load (T := 53) (p := ab) (by kernel_rfl) (Row.fm (a := ab) (q := 0) (L := [p]) (i := 0) (d := p) ftc_len rb (by kernel_rfl) (by simp) rfl)) ?_
 refine mF 511 8 (.bool false) (Calm.eqS (q := false) (xs := #[.int .i64 p.1,.int .i64 p.2]) (by kernel_rfl)) ?_
 refine mE [(25,.bool false)] fun a hF => ?_
 refine tK ?_
 refine cF 25 hF ?_
 refine cN ?_
 refine bK ?_
 refine tK ?_
 refine rP [(5,.int .i64 1)] hF fun a hF => ?_
 refine tK (Cround.step ?_)
 refine cS ?_
 refine qP [(14,.bool false)] hF fun a hF => ?_
 refine cF 14 hF ?_
 refine cX 0 (xT (xT (xB ?_)))
 refine tK ?_
 refine qP [(4,.bool true)] hF fun a hF => ?_
 refine cR ?_
 refine rT 4 (.bool true) hF ?_
 exact ⟨rfl,rfl⟩
theorem samef_one (h : Heap) (p : Int × Int) (va : Option Addr) (vc : Nat) (vb : Option Addr) (vd : Nat) (ra : Row h (.slice va 1 vc) 1 2 (ftrow [p])) (rb : Row h (.slice vb 1 vd) 1 2 (ftrow [p])) : Sat Tryd.prog 14 #[.slice va 1 vc,.slice vb 1 vd] h fun v h' => v = .bool true ∧ h' = h := by
 obtain ⟨aa,rfl,_⟩ := ra.someA (by decide)
 obtain ⟨ab,rfl,_⟩ := rb.someA (by decide)
 exact samef_a h p aa vc ab vd ra rb
noncomputable def b6 : Code := Tryd.f6.body.getD .skip
end Go.Proofs.YtegkejcglfgpmaaDoor
end
section
namespace Go.Proofs.YtegkejcglfgpmaaDoor
open Go Go.Lane Go.Sha
/-! ### the examples: their operations, their answers, what the judge does by each -/
theorem rowU {h : Heap} {b : Nat} {x : UInt8} (m : h[b]? = some (.cells #[bv x] 5)) : RowE h (.slice (some ⟨b, 0, none⟩) 1 1) 1 1 ([x].map bv) :=
  ⟨Row.blk (n := 1) (sz := 1) (l := [x].map bv) m rfl, .inr ⟨b, _, _, _, rfl, m, by decide⟩⟩
@[reducible] def oPut (b : Nat) : OpR := ⟨1, sA, [97], some ⟨b, 0, none⟩, 1, 0, none, 0, 0⟩
@[reducible] def oGet : OpR := ⟨2, sA, [], none, 0, 0, none, 0, 0⟩
@[reducible] def oKind (k : Int) : OpR := ⟨k, ByteArray.empty, [], none, 0, 0, none, 0, 0⟩
@[reducible] def aCode (c : Int) : AnR := ⟨anC c, none, 0, none, 0, none, 0⟩
@[reducible] def aByte (x : UInt8) (b : Nat) : AnR := ⟨anB [x], some ⟨b, 0, none⟩, 1, none, 0, none, 0⟩
section
variable {h : Heap} {b b2 : Nat}
theorem oPutE (m : h[b]? = some (.cells #[bv 97] 5)) : OpE h (oPut b) := ⟨rowU m, (by decide : sA.size ≤ 9223372036854775807)⟩
theorem oGetE (h : Heap) : OpE h oGet := ⟨RowE.nil _ _, by decide⟩
theorem ar0E (h : Heap) : AnE h ar0 := ⟨RowE.nil _ _, RowE.nil _ _, RowE.nil _ _, All32.nil⟩
theorem aCodeE (h : Heap) (c : Int) : AnE h (aCode c) := ⟨RowE.nil _ _, RowE.nil _ _, RowE.nil _ _, All32.nil⟩
theorem aByteE {x : UInt8} (m : h[b]? = some (.cells #[bv x] 5)) : AnE h (aByte x b) := ⟨rowU m, RowE.nil _ _, RowE.nil _ _, All32.nil⟩
theorem E0 : ∀ M ∈ [M0], M.E.length ≤ 1099511627 := fun M hM => by rw [List.mem_singleton.1 hM]; decide
theorem E1 : ∀ M ∈ [M1], M.E.length ≤ 1099511627 := fun M hM => by rw [List.mem_singleton.1 hM, M1_E]; decide
theorem E01 : ∀ M ∈ [M0, M1], M.E.length ≤ 1099511627 := fun M hM => by
  rcases List.mem_cons.1 hM with rfl | hM
  · decide
  · exact E1 M hM
noncomputable def JD : Nat → Jd
  | 0 => ⟨[M0], false, false, false, false⟩
  | _ => ⟨[M1], false, false, false, false⟩
def rD : Nat → Int
  | 1 => 2
  | _ => 0
theorem seeD (m : h[b]? = some (.cells #[bv 97] 5)) (m2 : h[b2]? = some (.cells #[bv 98] 5)) (k : Nat) (hk : k < 2) : SeeAt h ([oPut b, oGet].getD k op0) ([ar0, aByte 98 b2].getD k ar0) (JD k) (JD (k + 1)) (rD k) := by
  match k, hk with
  | 0, _ => exact SeeAt.holdC (o := oPut b) (x := ar0) (oPutE m) (ar0E h) (kind_tt (.inl rfl)) (by decide) E0 (by decide) (hold1 (fit_of (put0 _) r00))
  | 1, _ => exact SeeAt.holdA (o := oGet) (x := aByte 98 b2) (oGetE h) (aByteE m2) (kind_tf (by decide) (.inl rfl)) (by decide) (by decide) E1 (by decide) (hold0 (fit_of (get1 _ _) rB) (by decide))
def JE : Nat → Jd
  | 0 => ⟨[M0], false, false, false, false⟩
  | _ => ⟨[M0], false, false, false, false⟩
def rE : Nat → Int := fun _ => 1
theorem seeE (h : Heap) (k : Nat) (hk : k < 1) : SeeAt h ([oGet].getD k op0) ([aCode 2].getD k ar0) (JE k) (JE (k + 1)) (rE k) := by
  match k, hk with
  | 0, _ => exact SeeAt.holdA (o := oGet) (x := aCode 2) (oGetE h) (aCodeE h 2) (kind_tf (by decide) (.inl rfl)) (by decide) (by decide) E0 (by decide) (hold0 (fit_of (get0 _ _) (rC (by decide))) (by decide))
noncomputable def JF4 : Nat → Jd
  | 0 => ⟨[M0], false, false, false, false⟩
  | 1 => ⟨[M0], false, true, false, false⟩
  | 2 => ⟨[M0, M1], true, true, false, false⟩
  | 3 => ⟨[M0, M1], false, false, false, false⟩
  | _ => ⟨[M1], false, false, false, false⟩
def rF : Nat → Int
  | 4 => 1
  | _ => 0
theorem see0 (x : AnR) (hx : x = ar0) : SeeAt h (oKind 12) x (JF4 0) (JF4 1) 0 := by
  subst hx
  have := SeeAt.fuse (h := h) (o := oKind 12) (x := ar0) (Ms := [M0]) (o2 := false) (o3 := false) (ar0E h) rfl
  rw [show ruleA an0 ar0.X = 0 from r00] at this
  exact this
theorem see1 (m : h[b]? = some (.cells #[bv 97] 5)) : SeeAt h (oPut b) (aCode 2) (JF4 1) (JF4 2) 0 := by
  have e : stepR M0 (oPut b) = (M1, an0) := put0 0
  have := SeeAt.power (h := h) (o := oPut b) (x := aCode 2) (M := M0) (oPutE m) (aCodeE h 2) (kind_tt (.inl rfl)) rfl (by decide) (by rw [e]; rfl) (by rw [e, M1_E]; decide)
  rw [e, rCC] at this
  exact this
theorem see2 : SeeAt h (oKind 13) ar0 (JF4 2) (JF4 3) 0 := by
  have := SeeAt.boot (h := h) (o := oKind 13) (x := ar0) (Ms := [M0, M1]) (o1 := true) (o2 := true) (o3 := false) (ar0E h) rfl
  rw [show ruleA an0 ar0.X = 0 from r00] at this
  exact this
theorem seeF (m : h[b]? = some (.cells #[bv 97] 5)) (m2 : h[b2]? = some (.cells #[bv 97] 5)) (k : Nat) (hk : k < 5) : SeeAt h ([oKind 12, oPut b, oKind 13, oGet, oGet].getD k op0) ([ar0, aCode 2, ar0, aByte 97 b2, aCode 211].getD k ar0) (JF4 k) (JF4 (k + 1)) (rF k) := by
  match k, hk with
  | 0, _ => exact see0 _ rfl
  | 1, _ => exact see1 m
  | 2, _ => exact see2
  | 3, _ => exact SeeAt.holdA (o := oGet) (x := aByte 97 b2) (oGetE h) (aByteE m2) (kind_tf (by decide) (.inl rfl)) (by decide) (by decide) E01 (by decide) (hold01 (fit_of (get0 _ _) (rC (by decide))) (fit_of (get1 _ _) rBB) (by decide))
  | 4, _ => exact SeeAt.holdA (o := oGet) (x := aCode 211) (oGetE h) (aCodeE h 211) (kind_tf (by decide) (.inl rfl)) (by decide) (by decide) E1 (by decide) (hold0 (fit_of (get1 _ _) (rC (by decide))) (by decide))
noncomputable def JG : Nat → Jd
  | 0 => ⟨[M0], false, false, false, false⟩
  | 1 => ⟨[M0], false, true, false, false⟩
  | 2 => ⟨[M0, M1], true, true, false, false⟩
  | 3 => ⟨[M0, M1], false, false, false, false⟩
  | _ => ⟨[M0], false, false, false, false⟩
def rG : Nat → Int := fun _ => 0
theorem seeG (m : h[b]? = some (.cells #[bv 97] 5)) (k : Nat) (hk : k < 4) : SeeAt h ([oKind 12, oPut b, oKind 13, oGet].getD k op0) ([ar0, aCode 2, ar0, aCode 211].getD k ar0) (JG k) (JG (k + 1)) (rG k) := by
  match k, hk with
  | 0, _ => exact see0 _ rfl
  | 1, _ => exact see1 m
  | 2, _ => exact see2
  | 3, _ => exact SeeAt.holdA (o := oGet) (x := aCode 211) (oGetE h) (aCodeE h 211) (kind_tf (by decide) (.inl rfl)) (by decide) (by decide) E01 (by decide) (hold10 (fit_of (get0 _ _) (rCC 211)) (fit_of (get1 _ _) (rC (by decide))) (by decide))
theorem ftsD : fts rD 2 = [(1, 2)] := by decide
theorem ftsE : fts rE 1 = [(0, 1)] := by decide
theorem ftsF : fts rF 5 = [(4, 1)] := by decide
theorem ftsG : fts rG 4 = [] := by decide
end
theorem judge_is (h : Heap) (L : List OpR) (A : List AnR) (n : Nat) (la : Option Addr) (lc : Nat) (xa : Option Addr) (xc : Nat) (Jf : Nat → Jd) (r : Nat → Int) (hl : Row h (.slice la n lc) n 5 (oprow L)) (hL : L.length = n) (ha : Row h (.slice xa n xc) n 75 (arow A)) (hA : A.length = n) (kt : Ktab h) (hn : n ≤ 1099511627) (hJ0 : Jf 0 = ⟨[M0], false, false, false, false⟩)
    (see : ∀ k, k < n → SeeAt h (L.getD k op0) (A.getD k ar0) (Jf k) (Jf (k + 1)) (r k)) (F : List (Int × Int)) (hF : fts r n = F) : Sat Tryd.prog 13 #[.slice la n lc, .slice xa n xc] h fun v h' => ∃ ad cap, v = .slice ad F.length cap ∧ Row h' (.slice ad F.length cap) F.length 2 (ftrow F) ∧ Ext h h' := by
  subst hF
  exact (judge_sat h L A n la lc xa xc Jf r hl hL ha hA kt hn hJ0 see).mono fun v h' ⟨ad, cap, e, o, g⟩ => ⟨ad, cap, e, o.row, g⟩
theorem do_is (h : Heap) (mb mp : Nat) (M : Md) (m : Mod h mb mp M) (kd n : Int) (s : ByteArray) (l : List UInt8) (oa : Option Addr) (oc : Nat) (ka : Option Addr) (kn kc : Nat) (hr : Row h (.slice oa l.length oc) l.length 1 (l.map bv)) (hsz : s.size ≤ 9223372036854775807) (kt : Ktab h) (hE : M.E.length ≤ 1099511627) (N : Md) (W : An) (hs : step M kd n s l = (N, W)) :
    Sat Tryd.prog 8 #[.pointer (some ⟨mb, 0, none⟩), .agg #[.int .i64 kd, .string s, .slice oa l.length oc, .int .i64 n, .slice ka kn kc]] h fun v h' => ∃ qa qc ia ic pa pc, v = anv W (.slice qa W.b.length qc) (.slice ia W.i.length ic) (.slice pa W.p.length pc) ∧ RowE h' (.slice qa W.b.length qc) W.b.length 1 (W.b.map bv) ∧ RowE h' (.slice ia W.i.length ic) W.i.length 1 (W.i.map Value.string) ∧ RowE h' (.slice pa W.p.length pc) W.p.length 32 (hcs W.p) ∧ All32 W.p ∧ Mod h' mb mp N ∧ MG mb mp h h' := by
  have := do_w h mb mp M m kd n s l oa oc ka kn kc hr hsz kt hE W (by rw [hs])
  rw [hs] at this
  exact this
/-! ### many operations -/
theorem run_step {L : List OpR} {k : Nat} {x : OpR} {M : Md} (hx : L.getD k op0 = x) (hk : k < L.length) : step (run (L.take k) M) x.kd x.n x.s x.l = (run (L.take (k + 1)) M, (step (run (L.take k) M) x.kd x.n x.s x.l).2) := by
  have := run_take (M := M) (getD_at hk)
  rw [hx] at this
  rw [this]; rfl
theorem run_len (L : List OpR) (k : Nat) : (run (L.take k) M0).E.length ≤ k := by
  have := run_E (L.take k) M0
  have h0 : M0.E.length = 0 := rfl
  have : (L.take k).length ≤ k := by rw [List.length_take]; omega
  omega
def kz (k : Nat) : Int := 4 + k
theorem op_kd {h : Heap} {a : Addr} {n cap k : Nat} {L : List OpR} (r : Row h (.slice (some a) n cap) n 5 (oprow L)) (hi : k < L.length) : hcell h (a.add (k * 5)) = some (.int .i64 (L.getD k op0).kd) := by
  have := r.cells (k * 5 + 0) _ (fm_get opc_len (d := op0) (j := 0) hi rfl)
  simpa using this
theorem ask_step {M : Md} {kd n : Int} {s : ByteArray} {b : List UInt8} {W : An} (h : kd ≠ 1 ∧ kd ≠ 4 ∧ kd ≠ 5 ∧ kd ≠ 6 ∧ kd ≠ 10) (hW : (step M kd n s b).2 = W) : step M kd n s b = (M, W) := Prod.ext (step_only h) hW
theorem same_M (h : Heap) (mb mp : Nat) (M : Md) (m : Mod h mb mp M) (nb np : Nat) (n : Mod h nb np M) (hl : M.E.length ≤ 1099511627) : Sat Tryd.prog 11 #[.pointer (some ⟨mb, 0, none⟩), .pointer (some ⟨nb, 0, none⟩)] h fun v h' => v = .bool true ∧ Ext h h' := by
  obtain ⟨L, ck, ea, ec, es, m⟩ := m
  obtain ⟨L2, ck2, ea2, ec2, es2, n⟩ := n
  exact same_eq h mb mp M L ck ea ec es m nb np M L2 ck2 ea2 ec2 es2 n rfl rfl hl
theorem now_M (h : Heap) (mb mp : Nat) (M : Md) (m : Mod h mb mp M) : Sat Tryd.prog 12 #[.pointer (some ⟨mb, 0, none⟩)] h fun v h' => v = .int .i64 M.t ∧ h' = h := by
  obtain ⟨L, ck, ea, ec, es, m⟩ := m
  exact now_a h mb mp M L ck ea ec es m
end Go.Proofs.YtegkejcglfgpmaaDoor
end
