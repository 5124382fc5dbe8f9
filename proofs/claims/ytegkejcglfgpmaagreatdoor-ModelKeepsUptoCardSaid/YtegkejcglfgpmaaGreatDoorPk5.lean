/- The walks and the plain laws, part 5: MdlM, MdlFr, MdlSee, Keeps, MdlN, MdlShow, MdlO, Ref11, RA, VerA, VerB, VerC, KeepsL, RK, ModelKeepsCard. Conditions: those that each theorem names. -/
import Derived.Test.YtegkejcglfgpmaaGreatDoorPk4
section
namespace Go.Proofs.YtegkejcglfgpmaaGreatDoor
open Go Go.Lane Go.Sha
noncomputable def b57 : Code := Tryz.f57.body.getD .skip
theorem event_fuse (h : Heap) (jb : Nat) (bs : List (Nat × Nat)) (Ms : List Md) (ca : Option Addr) (cc : Nat) (o2 : Bool) (o3 : Bool) (o4 : Bool) (ja : JA h jb bs ⟨Ms,false,o2,o3,o4⟩ ca cc) (kd n : Int) (s : ByteArray) (l : List UInt8) (oa : Option Addr) (oc : Nat) (ka : Option Addr) (kn kc : Nat) (X : An) (xb xi xp : Value) (hk : kd = 12) : Sat Tryz.prog 57 #[.pointer (some ⟨jb,0,none⟩),.agg #[.int .i64 kd,.string s,.slice oa l.length oc,.int .i64 n,.slice ka kn kc],.agg (asc X.c (xb) X.sx X.se X.sh X.sg (xi) X.n X.y X.k (xp)).toArray] h fun v h' => v = anv an0 (.slice none 0 0) (.slice none 0 0) (.slice none 0 0) ∧ JA h' jb bs ⟨Ms,false,decide (0 ≤ n),o3,o4⟩ ca cc ∧ Gr (fun k => k = jb) h h' := by
 have hj := ja.hj
 have hj0 := ja.hj
 have hbj := blk_lt hj
 have gj := Gr.start (fun k => k = jb) h
 have e0 := Ext.refl h
 have sep : Sep h.size h.size [] := Sep.nil _ _
 refine sat_in Tryz.func57 79 fun a hF => ?_
 refine qS hF ?_
 refine tN 0 (pV h.size) #[.int .i64 kd,.string s,.slice oa l.length oc,.int .i64 n,.slice ka kn kc] 35 fun h1 g2 m3 => ?_
 have lt4 := blk_lt m3
 have zs5 := e0.size
 have zs6 := gj.1
 replace sep := sep.nw gj.1 m3
 refine tN 1 (pV h1.size) ((asc X.c (xb) X.sx X.se X.sh X.sg (xi) X.n X.y X.k (xp)).toArray) 47 fun h7 g8 m9 => ?_
 have lt10 := blk_lt m9
 replace e0 := e0.ext g2
 have zs11 := e0.size
 replace gj := gj.ext g2
 have zs12 := gj.1
 replace sep := sep.nw gj.1 m9
 refine tN 2 (pV h7.size) ((asc (0 : Int) (.slice none 0 0) rb0 (0 : Int) false false (.slice none 0 0) (0 : Int) rb0 (0 : Int) (.slice none 0 0)).toArray) 47 fun h13 g14 m15 => ?_
 have lt16 := blk_lt m15
 replace e0 := e0.ext g8
 have zs17 := e0.size
 replace gj := gj.ext g8
 have zs18 := gj.1
 replace sep := sep.nw gj.1 m15
 refine sT [(4,pV h.size),(5,pV h1.size),(6,pV h7.size)] fun a hF => ?_
 refine cS ?_
 refine qS hF ?_
 replace m3 := Ext.blk g14 (Ext.blk g8 m3)
 refine tO 1 0 m3 ?_
 refine sT [(10,.int .i64 kd)] fun a hF => ?_
 refine cB 0 ?_
 refine qS hF ?_
 refine t1 0 (.bool true) (.bool (kd == (12 : Int))) (congrArg Value.bool (beq_iff_eq.2 (by omega))) ?_
 refine sT [(12,.bool true)] fun a hF => ?_
 refine cT 12 hF ?_
 refine qS hF ?_
 replace hj := Ext.blk g14 (Ext.blk g8 (Ext.blk g2 hj))
 refine tO 3 1 hj ?_
 refine sT [(18,.bool true)] fun a hF => ?_
 refine cT 18 hF ?_
 refine rS hF ?_
 refine tO 2 3 m3 ?_
 refine tV 6 2 [.bool (decide ((0 : Int) ≤ n))] [.slice ca bs.length cc,.bool false,.bool (decide ((0 : Int) ≤ n)),.bool o3,.bool o4] hj fun h19 g20 zq => ?_
 replace e0 := e0.ext g14
 replace gj := gj.ext g14
 replace m9 := Ext.blk g14 m9
 clear e0
 replace gj := gj.thenO g20 (fun i e => by cases e; exact .inl rfl)
 replace m3 := Grew.blk g20 m3 (by simp; omega)
 replace m9 := Grew.blk g20 m9 (by simp; omega)
 replace m15 := Grew.blk g20 m15 (by simp; omega)
 replace sep := sep.up g20.size
 replace hj := zq
 refine sE [] fun a hF => ?_
 refine bK ?_
 refine tK ?_
 refine qS hF ?_
 refine tR 0 m15 ?_
 refine tV0 1 (asc (0 : Int) (.slice none 0 0) rb0 (0 : Int) false false (.slice none 0 0) (0 : Int) rb0 (0 : Int) (.slice none 0 0)) m15 fun h21 g22 zq => ?_
 replace hj := Grew.blk g22 hj (by simp; omega)
 replace m15 := zq
 refine sT [] fun a hF => ?_
 refine cR ?_
 refine rB m15 hF ?_
 replace gj := gj.thenO g22 (fun i e => .inr (sep.low 0 rfl i e))
 exact ⟨rfl,ja.turn gj hj rfl,gj⟩
theorem event_boot (h : Heap) (jb : Nat) (bs : List (Nat × Nat)) (Ms : List Md) (ca : Option Addr) (cc : Nat) (o1 : Bool) (o2 : Bool) (o3 : Bool) (o4 : Bool) (ja : JA h jb bs ⟨Ms,o1,o2,o3,o4⟩ ca cc) (kd n : Int) (s : ByteArray) (l : List UInt8) (oa : Option Addr) (oc : Nat) (ka : Option Addr) (kn kc : Nat) (X : An) (xb xi xp : Value) (hk : kd = 13) : Sat Tryz.prog 57 #[.pointer (some ⟨jb,0,none⟩),.agg #[.int .i64 kd,.string s,.slice oa l.length oc,.int .i64 n,.slice ka kn kc],.agg (asc X.c (xb) X.sx X.se X.sh X.sg (xi) X.n X.y X.k (xp)).toArray] h fun v h' => v = anv an0 (.slice none 0 0) (.slice none 0 0) (.slice none 0 0) ∧ JA h' jb bs ⟨Ms,false,false,o3,o4⟩ ca cc ∧ Gr (fun k => k = jb) h h' := by
 have hj := ja.hj
 have hj0 := ja.hj
 have hbj := blk_lt hj
 have gj := Gr.start (fun k => k = jb) h
 have e0 := Ext.refl h
 have sep : Sep h.size h.size [] := Sep.nil _ _
 refine sat_in Tryz.func57 79 fun a hF => ?_
 refine qS hF ?_
 refine tN 0 (pV h.size) #[.int .i64 kd,.string s,.slice oa l.length oc,.int .i64 n,.slice ka kn kc] 35 fun h1 g2 m3 => ?_
 have lt4 := blk_lt m3
 have zs5 := e0.size
 have zs6 := gj.1
 replace sep := sep.nw gj.1 m3
 refine tN 1 (pV h1.size) ((asc X.c (xb) X.sx X.se X.sh X.sg (xi) X.n X.y X.k (xp)).toArray) 47 fun h7 g8 m9 => ?_
 have lt10 := blk_lt m9
 replace e0 := e0.ext g2
 have zs11 := e0.size
 replace gj := gj.ext g2
 have zs12 := gj.1
 replace sep := sep.nw gj.1 m9
 refine tN 2 (pV h7.size) ((asc (0 : Int) (.slice none 0 0) rb0 (0 : Int) false false (.slice none 0 0) (0 : Int) rb0 (0 : Int) (.slice none 0 0)).toArray) 47 fun h13 g14 m15 => ?_
 have lt16 := blk_lt m15
 replace e0 := e0.ext g8
 have zs17 := e0.size
 replace gj := gj.ext g8
 have zs18 := gj.1
 replace sep := sep.nw gj.1 m15
 refine sT [(4,pV h.size),(5,pV h1.size),(6,pV h7.size)] fun a hF => ?_
 refine cS ?_
 refine qS hF ?_
 replace m3 := Ext.blk g14 (Ext.blk g8 m3)
 refine tO 1 0 m3 ?_
 refine sT [(10,.int .i64 kd)] fun a hF => ?_
 refine cB 0 ?_
 refine qS hF ?_
 refine t1 0 (.bool false) (.bool (kd == (12 : Int))) (congrArg Value.bool (beq_eq_false_iff_ne.2 (by omega))) ?_
 refine sT [(12,.bool false)] fun a hF => ?_
 refine cF 12 hF ?_
 refine qS hF ?_
 refine t1 0 (.bool false) (.bool (kd == (10 : Int))) (congrArg Value.bool (beq_eq_false_iff_ne.2 (by omega))) ?_
 refine sT [(25,.bool false)] fun a hF => ?_
 refine cF 25 hF ?_
 refine qS hF ?_
 refine t1 0 (.bool false) (.bool (kd == (14 : Int))) (congrArg Value.bool (beq_eq_false_iff_ne.2 (by omega))) ?_
 refine sT [(40,.bool false)] fun a hF => ?_
 refine cF 40 hF ?_
 refine qS hF ?_
 refine t1 0 (.bool true) (.bool (kd == (13 : Int))) (congrArg Value.bool (beq_iff_eq.2 (by omega))) ?_
 refine sT [(70,.bool true)] fun a hF => ?_
 refine cT 70 hF ?_
 refine rS hF ?_
 replace hj := Ext.blk g14 (Ext.blk g8 (Ext.blk g2 hj))
 refine tV 4 1 [.bool false] [.slice ca bs.length cc,.bool false,.bool o2,.bool o3,.bool o4] hj fun h19 g20 zq => ?_
 replace e0 := e0.ext g14
 replace gj := gj.ext g14
 replace m9 := Ext.blk g14 m9
 clear e0
 replace gj := gj.thenO g20 (fun i e => by cases e; exact .inl rfl)
 replace m3 := Grew.blk g20 m3 (by simp; omega)
 replace m9 := Grew.blk g20 m9 (by simp; omega)
 replace m15 := Grew.blk g20 m15 (by simp; omega)
 replace sep := sep.up g20.size
 replace hj := zq
 refine tV 7 2 [.bool false] [.slice ca bs.length cc,.bool false,.bool false,.bool o3,.bool o4] hj fun h21 g22 zq => ?_
 replace gj := gj.thenO g22 (fun i e => by cases e; exact .inl rfl)
 replace m3 := Grew.blk g22 m3 (by simp; omega)
 replace m9 := Grew.blk g22 m9 (by simp; omega)
 replace m15 := Grew.blk g22 m15 (by simp; omega)
 replace sep := sep.up g22.size
 replace hj := zq
 refine sE [] fun a hF => ?_
 refine bK ?_
 refine tK ?_
 refine qS hF ?_
 refine tR 0 m15 ?_
 refine tV0 1 (asc (0 : Int) (.slice none 0 0) rb0 (0 : Int) false false (.slice none 0 0) (0 : Int) rb0 (0 : Int) (.slice none 0 0)) m15 fun h23 g24 zq => ?_
 replace hj := Grew.blk g24 hj (by simp; omega)
 replace m15 := zq
 refine sT [] fun a hF => ?_
 refine cR ?_
 refine rB m15 hF ?_
 replace gj := gj.thenO g24 (fun i e => .inr (sep.low 0 rfl i e))
 exact ⟨rfl,ja.turn gj hj rfl,gj⟩
noncomputable def b31 : Code := Tryz.f31.body.getD .skip
theorem kind_at (h : Heap) (kd n : Int) (s : ByteArray) (oa : Option Addr) (on oc : Nat) (ka : Option Addr) (kn kc : Nat) (a b : Bool) (hk : kindC kd = (a,b)) : Sat Tryz.prog 55 #[.agg #[.int .i64 kd,.string s,.slice oa on oc,.int .i64 n,.slice ka kn kc]] h fun v h' => v = .tuple #[.bool a,.bool b] ∧ Ext h h' := by
 have := kind_sat h kd n s oa on oc ka kn kc
 rwa [hk] at this
set_option maxHeartbeats 1000000 in
theorem see_fuse (h : Heap) (jb : Nat) (bs : List (Nat × Nat)) (Ms : List Md) (ca : Option Addr) (cc : Nat) (o2 : Bool) (o3 : Bool) (ja : JA h jb bs ⟨Ms,false,o2,o3,false⟩ ca cc) (kd n : Int) (s : ByteArray) (l : List UInt8) (oa : Option Addr) (oc : Nat) (ka : Option Addr) (kn kc : Nat) (X : An) (xqa : Option Addr) (xqc : Nat) (xia : Option Addr) (xic : Nat) (xpa : Option Addr) (xpc : Nat) (xq : RowE h (.slice xqa X.b.length xqc) X.b.length 1 (X.b.map bv)) (xi : RowE h (.slice xia X.i.length xic) X.i.length 1 (X.i.map Value.string)) (xp : RowE h (.slice xpa X.p.length xpc) X.p.length 32 (hcs X.p)) (x32 : All32 X.p) (hkc : kindC kd = (false,false)) (hk : kd = 12) : Sat Tryz.prog 31 #[.pointer (some ⟨jb,0,none⟩),.agg #[.int .i64 kd,.string s,.slice oa l.length oc,.int .i64 n,.slice ka kn kc],.agg (asc X.c (.slice xqa X.b.length xqc) X.sx X.se X.sh X.sg (.slice xia X.i.length xic) X.n X.y X.k (.slice xpa X.p.length xpc)).toArray] h fun v h' => v = .int .i64 (ruleA an0 X) ∧ ∃ bs' ca cc,JA h' jb bs' ⟨Ms,false,decide (0 ≤ n),o3,false⟩ ca cc ∧ (∀ z ∈ bs',z ∈ bs ∨ (h.size ≤ z.1 ∧ h.size ≤ z.2)) ∧ Gr (JF jb bs) h h' := by
 have hj := ja.hj
 have hj0 := ja.hj
 have hbj := blk_lt hj
 have gj := Gr.start (fun k => k = jb) h
 have e0 := Ext.refl h
 have sep : Sep h.size h.size [] := Sep.nil _ _
 refine sat_in Tryz.func31 77 fun a hF => ?_
 refine qS hF ?_
 refine tN 0 (pV h.size) #[.int .i64 kd,.string s,.slice oa l.length oc,.int .i64 n,.slice ka kn kc] 35 fun h1 g2 m3 => ?_
 have lt4 := blk_lt m3
 have zs5 := e0.size
 have zs6 := gj.1
 replace sep := sep.nw gj.1 m3
 refine tN 1 (pV h1.size) ((asc X.c (.slice xqa X.b.length xqc) X.sx X.se X.sh X.sg (.slice xia X.i.length xic) X.n X.y X.k (.slice xpa X.p.length xpc)).toArray) 47 fun h7 g8 m9 => ?_
 have lt10 := blk_lt m9
 replace e0 := e0.ext g2
 have zs11 := e0.size
 replace gj := gj.ext g2
 have zs12 := gj.1
 replace sep := sep.nw gj.1 m9
 refine sT [(4,pV h.size),(5,pV h1.size)] fun a hF => ?_
 refine qS hF ?_
 replace m3 := Ext.blk g8 m3
 refine tR 0 m3 ?_
 refine tG 1 (kind_at _ kd n s oa l.length oc ka kn kc false false hkc) ?_
 rintro _ h14 ⟨rfl,g13⟩
 refine sT [(7,.bool false),(8,.bool false)] fun a hF => ?_
 refine qS hF ?_
 refine tN 1 (pV h14.size) ((asc (0 : Int) (.slice none 0 0) rb0 (0 : Int) false false (.slice none 0 0) (0 : Int) rb0 (0 : Int) (.slice none 0 0)).toArray) 47 fun h15 g16 m17 => ?_
 have lt18 := blk_lt m17
 replace e0 := (e0.ext g8).ext g13
 have zs19 := e0.size
 replace gj := (gj.ext g8).ext g13
 have zs20 := gj.1
 replace sep := (sep.up g13.size).nw gj.1 m17
 refine tV0 2 (asc (2 : Int) (.slice none 0 0) rb0 (0 : Int) false false (.slice none 0 0) (0 : Int) rb0 (0 : Int) (.slice none 0 0)) m17 fun h21 g22 zq => ?_
 replace hj := Ext.blk g16 (Ext.blk g13 (Ext.blk g8 (Ext.blk g2 hj)))
 replace hj := Grew.blk g22 hj (by simp; omega)
 replace m17 := zq
 refine sT [(9,pV h14.size)] fun a hF => ?_
 refine cS ?_
 refine cB 0 ?_
 refine qS hF ?_
 refine tO 3 4 hj ?_
 refine sT [(16,.bool false)] fun a hF => ?_
 refine cF 16 hF ?_
 refine qP [(21,.bool true)] hF fun a hF => ?_
 refine cT 21 hF ?_
 refine cS ?_
 refine cD [0,0,0,7,0,31,63] 6 mixed hF ?_
 refine mP 1 [0] [pV jb] ?_
 replace m3 := Grew.blk g22 (Ext.blk g16 (Ext.blk g13 m3)) ((sep.bp 2 0))
 refine mR 3 2 1 m3 ?_
 replace m9 := Grew.blk g22 (Ext.blk g16 (Ext.blk g13 m9)) ((sep.bp 1 0))
 refine mR 7 6 2 m9 ?_
 refine mR 23 22 4 m9 ?_
 replace e0 := (e0.ext g16).grew g22 (sep.low 0 rfl)
 refine mFp 31 15 3 [4] (Does.call (f := 57) (args := #[.pointer (some ⟨jb,0,none⟩),.agg #[.int .i64 kd,.string s,.slice oa l.length oc,.int .i64 n,.slice ka kn kc],.agg (asc X.c (.slice xqa X.b.length xqc) X.sx X.se X.sh X.sg (.slice xia X.i.length xic) X.n X.y X.k (.slice xpa X.p.length xpc)).toArray]) (by kernel_rfl) (event_fuse _ jb bs Ms ca cc o2 o3 false (ja.ext e0) kd n s l oa oc ka kn kc X _ _ _ hk)) ?_
 rintro _ h23 ⟨rfl,ja2,gz⟩
 clear hj
 replace gj := (gj.ext g16).thenO g22 (fun i e => .inr (sep.low 0 rfl i e))
 replace gj := gj.trans gz
 replace m3 := gz.blk m3 (by omega)
 replace m9 := gz.blk m9 (by omega)
 replace m17 := gz.blk m17 (by omega)
 replace sep := sep.up g22.size
 replace sep := sep.up gz.1
 replace xq := xq.jf gj hj0 (by decide)
 replace xi := xi.jf gj hj0 (by decide)
 replace xp := xp.jf gj hj0 (by decide)
 refine ⟨?_,?_⟩
 ·intro j hj
  simp only [List.mem_cons,List.not_mem_nil,or_false] at hj
  subst hj
  exact goodOf (Calm.load (T := 47) (p := ⟨h1.size,0,none⟩) (by kernel_rfl) (Loads.blk (vs := asc X.c (.slice xqa X.b.length xqc) X.sx X.se X.sh X.sg (.slice xia X.i.length xic) X.n X.y X.k (.slice xpa X.p.length xpc)) (by kernel_rfl) m9 rfl))
 refine mG0 63 63 5 (rule_v _ an0 X none 0 none 0 none 0 (RowE.nil _ _) (RowE.nil _ _) (RowE.nil _ _) _ _ _ _ _ _ xq xi xp All32.nil x32 (by decide) (by decide)) ?_
 rintro _ h25 ⟨rfl,g24⟩
 refine mP 127 [6] [.int .i64 (ruleA an0 X)] ?_
 refine mE [(6,.int .i64 (ruleA an0 X))] fun a hF => ?_
 refine tK ?_
 refine cR (yB (yT ?_))
 refine rT 6 (.int .i64 (ruleA an0 X)) hF ?_
 replace gj := gj.ext g24
 replace ja2 := ja2.ext g24
 exact ⟨rfl,bs,ca,cc,ja2,fun x hx => .inl hx,gj.toJF bs⟩
set_option maxHeartbeats 1000000 in
theorem see_boot (h : Heap) (jb : Nat) (bs : List (Nat × Nat)) (Ms : List Md) (ca : Option Addr) (cc : Nat) (o1 : Bool) (o2 : Bool) (o3 : Bool) (ja : JA h jb bs ⟨Ms,o1,o2,o3,false⟩ ca cc) (kd n : Int) (s : ByteArray) (l : List UInt8) (oa : Option Addr) (oc : Nat) (ka : Option Addr) (kn kc : Nat) (X : An) (xqa : Option Addr) (xqc : Nat) (xia : Option Addr) (xic : Nat) (xpa : Option Addr) (xpc : Nat) (xq : RowE h (.slice xqa X.b.length xqc) X.b.length 1 (X.b.map bv)) (xi : RowE h (.slice xia X.i.length xic) X.i.length 1 (X.i.map Value.string)) (xp : RowE h (.slice xpa X.p.length xpc) X.p.length 32 (hcs X.p)) (x32 : All32 X.p) (hkc : kindC kd = (false,false)) (hk : kd = 13) : Sat Tryz.prog 31 #[.pointer (some ⟨jb,0,none⟩),.agg #[.int .i64 kd,.string s,.slice oa l.length oc,.int .i64 n,.slice ka kn kc],.agg (asc X.c (.slice xqa X.b.length xqc) X.sx X.se X.sh X.sg (.slice xia X.i.length xic) X.n X.y X.k (.slice xpa X.p.length xpc)).toArray] h fun v h' => v = .int .i64 (ruleA an0 X) ∧ ∃ bs' ca cc,JA h' jb bs' ⟨Ms,false,false,o3,false⟩ ca cc ∧ (∀ z ∈ bs',z ∈ bs ∨ (h.size ≤ z.1 ∧ h.size ≤ z.2)) ∧ Gr (JF jb bs) h h' := by
 have hj := ja.hj
 have hj0 := ja.hj
 have hbj := blk_lt hj
 have gj := Gr.start (fun k => k = jb) h
 have e0 := Ext.refl h
 have sep : Sep h.size h.size [] := Sep.nil _ _
 refine sat_in Tryz.func31 77 fun a hF => ?_
 refine qS hF ?_
 refine tN 0 (pV h.size) #[.int .i64 kd,.string s,.slice oa l.length oc,.int .i64 n,.slice ka kn kc] 35 fun h1 g2 m3 => ?_
 have lt4 := blk_lt m3
 have zs5 := e0.size
 have zs6 := gj.1
 replace sep := sep.nw gj.1 m3
 refine tN 1 (pV h1.size) ((asc X.c (.slice xqa X.b.length xqc) X.sx X.se X.sh X.sg (.slice xia X.i.length xic) X.n X.y X.k (.slice xpa X.p.length xpc)).toArray) 47 fun h7 g8 m9 => ?_
 have lt10 := blk_lt m9
 replace e0 := e0.ext g2
 have zs11 := e0.size
 replace gj := gj.ext g2
 have zs12 := gj.1
 replace sep := sep.nw gj.1 m9
 refine sT [(4,pV h.size),(5,pV h1.size)] fun a hF => ?_
 refine qS hF ?_
 replace m3 := Ext.blk g8 m3
 refine tR 0 m3 ?_
 refine tG 1 (kind_at _ kd n s oa l.length oc ka kn kc false false hkc) ?_
 rintro _ h14 ⟨rfl,g13⟩
 refine sT [(7,.bool false),(8,.bool false)] fun a hF => ?_
 refine qS hF ?_
 refine tN 1 (pV h14.size) ((asc (0 : Int) (.slice none 0 0) rb0 (0 : Int) false false (.slice none 0 0) (0 : Int) rb0 (0 : Int) (.slice none 0 0)).toArray) 47 fun h15 g16 m17 => ?_
 have lt18 := blk_lt m17
 replace e0 := (e0.ext g8).ext g13
 have zs19 := e0.size
 replace gj := (gj.ext g8).ext g13
 have zs20 := gj.1
 replace sep := (sep.up g13.size).nw gj.1 m17
 refine tV0 2 (asc (2 : Int) (.slice none 0 0) rb0 (0 : Int) false false (.slice none 0 0) (0 : Int) rb0 (0 : Int) (.slice none 0 0)) m17 fun h21 g22 zq => ?_
 replace hj := Ext.blk g16 (Ext.blk g13 (Ext.blk g8 (Ext.blk g2 hj)))
 replace hj := Grew.blk g22 hj (by simp; omega)
 replace m17 := zq
 refine sT [(9,pV h14.size)] fun a hF => ?_
 refine cS ?_
 refine cB 0 ?_
 refine qS hF ?_
 refine tO 3 4 hj ?_
 refine sT [(16,.bool false)] fun a hF => ?_
 refine cF 16 hF ?_
 refine qP [(21,.bool true)] hF fun a hF => ?_
 refine cT 21 hF ?_
 refine cS ?_
 refine cD [0,0,0,7,0,31,63] 6 mixed hF ?_
 refine mP 1 [0] [pV jb] ?_
 replace m3 := Grew.blk g22 (Ext.blk g16 (Ext.blk g13 m3)) ((sep.bp 2 0))
 refine mR 3 2 1 m3 ?_
 replace m9 := Grew.blk g22 (Ext.blk g16 (Ext.blk g13 m9)) ((sep.bp 1 0))
 refine mR 7 6 2 m9 ?_
 refine mR 23 22 4 m9 ?_
 replace e0 := (e0.ext g16).grew g22 (sep.low 0 rfl)
 refine mFp 31 15 3 [4] (Does.call (f := 57) (args := #[.pointer (some ⟨jb,0,none⟩),.agg #[.int .i64 kd,.string s,.slice oa l.length oc,.int .i64 n,.slice ka kn kc],.agg (asc X.c (.slice xqa X.b.length xqc) X.sx X.se X.sh X.sg (.slice xia X.i.length xic) X.n X.y X.k (.slice xpa X.p.length xpc)).toArray]) (by kernel_rfl) (event_boot _ jb bs Ms ca cc o1 o2 o3 false (ja.ext e0) kd n s l oa oc ka kn kc X _ _ _ hk)) ?_
 rintro _ h23 ⟨rfl,ja2,gz⟩
 clear hj
 replace gj := (gj.ext g16).thenO g22 (fun i e => .inr (sep.low 0 rfl i e))
 replace gj := gj.trans gz
 replace m3 := gz.blk m3 (by omega)
 replace m9 := gz.blk m9 (by omega)
 replace m17 := gz.blk m17 (by omega)
 replace sep := sep.up g22.size
 replace sep := sep.up gz.1
 replace xq := xq.jf gj hj0 (by decide)
 replace xi := xi.jf gj hj0 (by decide)
 replace xp := xp.jf gj hj0 (by decide)
 refine ⟨?_,?_⟩
 ·intro j hj
  simp only [List.mem_cons,List.not_mem_nil,or_false] at hj
  subst hj
  exact goodOf (Calm.load (T := 47) (p := ⟨h1.size,0,none⟩) (by kernel_rfl) (Loads.blk (vs := asc X.c (.slice xqa X.b.length xqc) X.sx X.se X.sh X.sg (.slice xia X.i.length xic) X.n X.y X.k (.slice xpa X.p.length xpc)) (by kernel_rfl) m9 rfl))
 refine mG0 63 63 5 (rule_v _ an0 X none 0 none 0 none 0 (RowE.nil _ _) (RowE.nil _ _) (RowE.nil _ _) _ _ _ _ _ _ xq xi xp All32.nil x32 (by decide) (by decide)) ?_
 rintro _ h25 ⟨rfl,g24⟩
 refine mP 127 [6] [.int .i64 (ruleA an0 X)] ?_
 refine mE [(6,.int .i64 (ruleA an0 X))] fun a hF => ?_
 refine tK ?_
 refine cR (yB (yT ?_))
 refine rT 6 (.int .i64 (ruleA an0 X)) hF ?_
 replace gj := gj.ext g24
 replace ja2 := ja2.ext g24
 exact ⟨rfl,bs,ca,cc,ja2,fun x hx => .inl hx,gj.toJF bs⟩
set_option maxHeartbeats 1000000 in
theorem see_power_a (h : Heap) (jb : Nat) (x : Nat × Nat) (M : Md) (aa : Addr) (cc : Nat) (ja : JA h jb [x] ⟨[M],false,true,false,false⟩ (some aa) cc) (kd n : Int) (s : ByteArray) (l : List UInt8) (oa : Option Addr) (oc : Nat) (ka : Option Addr) (kn kc : Nat) (hr : RowE h (.slice oa l.length oc) l.length 1 (l.map bv)) (hsz : s.size ≤ 9223372036854775807) (X : An) (xqa : Option Addr) (xqc : Nat) (xia : Option Addr) (xic : Nat) (xpa : Option Addr) (xpc : Nat) (xq : RowE h (.slice xqa X.b.length xqc) X.b.length 1 (X.b.map bv)) (xi : RowE h (.slice xia X.i.length xic) X.i.length 1 (X.i.map Value.string)) (xp : RowE h (.slice xpa X.p.length xpc) X.p.length 32 (hcs X.p)) (x32 : All32 X.p) (hkc : kindC kd = (true,true)) (hX : X.c = 2) (kt : Ktab h) (hk1 : 0 < jb) (hE : M.E.length ≤ 1099511627) (hc : (step M kd n s l).2.c = 0) (hne : (step M kd n s l).1.E.length ≠ M.E.length) : Sat Tryz.prog 31 #[.pointer (some ⟨jb,0,none⟩),.agg #[.int .i64 kd,.string s,.slice oa l.length oc,.int .i64 n,.slice ka kn kc],.agg (asc X.c (.slice xqa X.b.length xqc) X.sx X.se X.sh X.sg (.slice xia X.i.length xic) X.n X.y X.k (.slice xpa X.p.length xpc)).toArray] h fun v h' => v = .int .i64 (ruleA (anC 2) X) ∧ ∃ bs' ca cc,JA h' jb bs' ⟨[M,(step M kd n s l).1],true,true,false,false⟩ ca cc ∧ (∀ z ∈ bs',z ∈ [x] ∨ (h.size ≤ z.1 ∧ h.size ≤ z.2)) ∧ Gr (JF jb [x]) h h' := by
 have hj := ja.hj
 have hj0 := ja.hj
 have hbj := blk_lt hj
 have gj := Gr.start (fun k => k = jb) h
 have e0 := Ext.refl h
 have sep : Sep h.size h.size [] := Sep.nil _ _
 refine sat_in Tryz.func31 77 fun a hF => ?_
 refine qS hF ?_
 refine tN 0 (pV h.size) #[.int .i64 kd,.string s,.slice oa l.length oc,.int .i64 n,.slice ka kn kc] 35 fun h1 g2 m3 => ?_
 have lt4 := blk_lt m3
 have zs5 := e0.size
 have zs6 := gj.1
 replace sep := sep.nw gj.1 m3
 refine tN 1 (pV h1.size) ((asc X.c (.slice xqa X.b.length xqc) X.sx X.se X.sh X.sg (.slice xia X.i.length xic) X.n X.y X.k (.slice xpa X.p.length xpc)).toArray) 47 fun h7 g8 m9 => ?_
 have lt10 := blk_lt m9
 replace e0 := e0.ext g2
 have zs11 := e0.size
 replace gj := gj.ext g2
 have zs12 := gj.1
 replace sep := sep.nw gj.1 m9
 refine sT [(4,pV h.size),(5,pV h1.size)] fun a hF => ?_
 refine qS hF ?_
 replace m3 := Ext.blk g8 m3
 refine tR 0 m3 ?_
 refine tG 1 (kind_at _ kd n s oa l.length oc ka kn kc true true hkc) ?_
 rintro _ h14 ⟨rfl,g13⟩
 refine sT [(7,.bool true),(8,.bool true)] fun a hF => ?_
 refine qS hF ?_
 refine tN 1 (pV h14.size) ((asc (0 : Int) (.slice none 0 0) rb0 (0 : Int) false false (.slice none 0 0) (0 : Int) rb0 (0 : Int) (.slice none 0 0)).toArray) 47 fun h15 g16 m17 => ?_
 have lt18 := blk_lt m17
 replace e0 := (e0.ext g8).ext g13
 have zs19 := e0.size
 replace gj := (gj.ext g8).ext g13
 have zs20 := gj.1
 replace sep := (sep.up g13.size).nw gj.1 m17
 refine tV0 2 (asc (2 : Int) (.slice none 0 0) rb0 (0 : Int) false false (.slice none 0 0) (0 : Int) rb0 (0 : Int) (.slice none 0 0)) m17 fun h21 g22 zq => ?_
 replace hj := Ext.blk g16 (Ext.blk g13 (Ext.blk g8 (Ext.blk g2 hj)))
 replace hj := Grew.blk g22 hj (by simp; omega)
 replace m17 := zq
 refine sT [(9,pV h14.size)] fun a hF => ?_
 refine cS ?_
 refine cB 0 ?_
 refine qS hF ?_
 refine tO 3 4 hj ?_
 refine sT [(16,.bool false)] fun a hF => ?_
 refine cF 16 hF ?_
 refine qP [(21,.bool false)] hF fun a hF => ?_
 refine cF 21 hF ?_
 refine qS hF ?_
 refine tO 3 1 hj ?_
 refine sT [(30,.bool false)] fun a hF => ?_
 refine cF 30 hF ?_
 refine qS hF ?_
 replace m9 := Grew.blk g22 (Ext.blk g16 (Ext.blk g13 m9)) ((sep.bp 1 0))
 refine tC 1 (.int .i64 X.c) (Calm.load (T := 37) (p := ⟨h1.size,0,none⟩) (by kernel_rfl) (Loads.one (k := 1) (by kernel_rfl) ((hcell_blk m9).trans (rfl)))) ?_
 refine t1 2 (.bool true) (.bool (X.c == (2 : Int))) (congrArg Value.bool (beq_iff_eq.2 (by omega))) ?_
 refine tO 7 2 hj ?_
 refine sT [(38,.bool true)] fun a hF => ?_
 refine cT 38 hF ?_
 refine qS hF ?_
 refine tV 3 1 [.bool true] [.slice (some aa) 1 cc,.bool true,.bool true,.bool false,.bool false] hj fun h23 g24 zq => ?_
 replace m3 := Grew.blk g22 (Ext.blk g16 (Ext.blk g13 m3)) ((sep.bp 2 0))
 replace e0 := (e0.ext g16).grew g22 (sep.low 0 rfl)
 replace gj := (gj.ext g16).thenO g22 (fun i e => .inr (sep.low 0 rfl i e))
 replace sep := sep.up g22.size
 clear e0
 replace gj := gj.thenO g24 (fun i e => by cases e; exact .inl rfl)
 replace m3 := Grew.blk g24 m3 (by simp; omega)
 replace m9 := Grew.blk g24 m9 (by simp; omega)
 replace m17 := Grew.blk g24 m17 (by simp; omega)
 replace sep := sep.up g24.size
 replace hj := zq
 refine sT [] fun a hF => ?_
 refine cS ?_
 refine qP [(51,.bool true)] hF fun a hF => ?_
 refine cT 51 hF ?_
 refine rS hF ?_
 refine tR 1 m3 ?_
 have jz : JA h23 jb [x] ⟨[M],true,true,false,false⟩ (some aa) cc := ja.turn gj hj rfl
 have hrz := hr.jf gj hj0 (by decide)
 have ktz := kt.gr gj (by omega)
 refine tG 2 (part_one _ jb x M true true false false aa cc jz kd n s l oa oc ka kn kc hrz hsz ktz hE hc hne) ?_
 rintro _ h25 ⟨y,ca2,cc2,ja2,hy1,hy2,gz⟩
 have hgs := gj.1
 clear hj
 replace gj := gj.trans gz
 replace m3 := gz.blk m3 (by omega)
 replace m9 := gz.blk m9 (by omega)
 replace m17 := gz.blk m17 (by omega)
 replace sep := sep.up gz.1
 replace xq := xq.jf gj hj0 (by decide)
 replace xi := xi.jf gj hj0 (by decide)
 replace xp := xp.jf gj hj0 (by decide)
 refine sE [] fun a hF => ?_
 refine tK ?_
 refine qS hF ?_
 refine tR 0 m17 ?_
 refine tR 1 m9 ?_
 refine tG 2 (rule_v _ (anC 2) X none 0 none 0 none 0 (RowE.nil _ _) (RowE.nil _ _) (RowE.nil _ _) _ _ _ _ _ _ xq xi xp All32.nil x32 (by decide) (by decide)) ?_
 rintro _ h27 ⟨rfl,g26⟩
 refine sT [(6,.int .i64 (ruleA (anC 2) X))] fun a hF => ?_
 refine cR (yB (yT ?_))
 refine rT 6 (.int .i64 (ruleA (anC 2) X)) hF ?_
 replace gj := gj.ext g26
 replace ja2 := ja2.ext g26
 exact ⟨rfl,[(x.1,x.2),y],ca2,cc2,ja2,fun z hz => by rcases List.mem_cons.1 hz with e | e; exact .inl (List.mem_singleton.2 e); exact .inr ⟨by rw [List.mem_singleton.1 e]; omega,by rw [List.mem_singleton.1 e]; omega⟩,gj.toJF [x]⟩
set_option maxHeartbeats 1000000 in
theorem see_holdC (h : Heap) (jb : Nat) (bs : List (Nat × Nat)) (Ms : List Md) (ca : Option Addr) (cc : Nat)  (ja : JA h jb bs ⟨Ms,false,false,false,false⟩ ca cc) (kd n : Int) (s : ByteArray) (l : List UInt8) (oa : Option Addr) (oc : Nat) (ka : Option Addr) (kn kc : Nat) (hr : RowE h (.slice oa l.length oc) l.length 1 (l.map bv)) (hsz : s.size ≤ 9223372036854775807) (X : An) (xqa : Option Addr) (xqc : Nat) (xia : Option Addr) (xic : Nat) (xpa : Option Addr) (xpc : Nat) (xq : RowE h (.slice xqa X.b.length xqc) X.b.length 1 (X.b.map bv)) (xi : RowE h (.slice xia X.i.length xic) X.i.length 1 (X.i.map Value.string)) (xp : RowE h (.slice xpa X.p.length xpc) X.p.length 32 (hcs X.p)) (x32 : All32 X.p) (hkc : kindC kd = (true,true)) (hX3 : X.c ≠ 3) (k11 : kd ≠ 11) (k15 : kd ≠ 15) (kt : Ktab h) (hE : ∀ M ∈ Ms,M.E.length ≤ 1099511627) (hn : bs.length ≤ 1099511627) : Sat Tryz.prog 31 #[.pointer (some ⟨jb,0,none⟩),.agg #[.int .i64 kd,.string s,.slice oa l.length oc,.int .i64 n,.slice ka kn kc],.agg (asc X.c (.slice xqa X.b.length xqc) X.sx X.se X.sh X.sg (.slice xia X.i.length xic) X.n X.y X.k (.slice xpa X.p.length xpc)).toArray] h fun v h' => v = .int .i64 (holdJ ⟨Ms,false,false,false,false⟩ (fitF kd n s l X)).2 ∧ ∃ bs' ca cc,JA h' jb bs' (holdJ ⟨Ms,false,false,false,false⟩ (fitF kd n s l X)).1 ca cc ∧ (∀ z ∈ bs',z ∈ bs ∨ (h.size ≤ z.1 ∧ h.size ≤ z.2)) ∧ Gr (JF jb bs) h h' := by
 have hj := ja.hj
 have hj0 := ja.hj
 have hbj := blk_lt hj
 have gj := Gr.start (fun k => k = jb) h
 have e0 := Ext.refl h
 have sep : Sep h.size h.size [] := Sep.nil _ _
 refine sat_in Tryz.func31 77 fun a hF => ?_
 refine qS hF ?_
 refine tN 0 (pV h.size) #[.int .i64 kd,.string s,.slice oa l.length oc,.int .i64 n,.slice ka kn kc] 35 fun h1 g2 m3 => ?_
 have lt4 := blk_lt m3
 have zs5 := e0.size
 have zs6 := gj.1
 replace sep := sep.nw gj.1 m3
 refine tN 1 (pV h1.size) ((asc X.c (.slice xqa X.b.length xqc) X.sx X.se X.sh X.sg (.slice xia X.i.length xic) X.n X.y X.k (.slice xpa X.p.length xpc)).toArray) 47 fun h7 g8 m9 => ?_
 have lt10 := blk_lt m9
 replace e0 := e0.ext g2
 have zs11 := e0.size
 replace gj := gj.ext g2
 have zs12 := gj.1
 replace sep := sep.nw gj.1 m9
 refine sT [(4,pV h.size),(5,pV h1.size)] fun a hF => ?_
 refine qS hF ?_
 replace m3 := Ext.blk g8 m3
 refine tR 0 m3 ?_
 refine tG 1 (kind_at _ kd n s oa l.length oc ka kn kc true true hkc) ?_
 rintro _ h14 ⟨rfl,g13⟩
 refine sT [(7,.bool true),(8,.bool true)] fun a hF => ?_
 refine qS hF ?_
 refine tN 1 (pV h14.size) ((asc (0 : Int) (.slice none 0 0) rb0 (0 : Int) false false (.slice none 0 0) (0 : Int) rb0 (0 : Int) (.slice none 0 0)).toArray) 47 fun h15 g16 m17 => ?_
 have lt18 := blk_lt m17
 replace e0 := (e0.ext g8).ext g13
 have zs19 := e0.size
 replace gj := (gj.ext g8).ext g13
 have zs20 := gj.1
 replace sep := (sep.up g13.size).nw gj.1 m17
 refine tV0 2 (asc (2 : Int) (.slice none 0 0) rb0 (0 : Int) false false (.slice none 0 0) (0 : Int) rb0 (0 : Int) (.slice none 0 0)) m17 fun h21 g22 zq => ?_
 replace hj := Ext.blk g16 (Ext.blk g13 (Ext.blk g8 (Ext.blk g2 hj)))
 replace hj := Grew.blk g22 hj (by simp; omega)
 replace m17 := zq
 refine sT [(9,pV h14.size)] fun a hF => ?_
 refine cS ?_
 refine cB 0 ?_
 refine qS hF ?_
 refine tO 3 4 hj ?_
 refine sT [(16,.bool false)] fun a hF => ?_
 refine cF 16 hF ?_
 refine qP [(21,.bool false)] hF fun a hF => ?_
 refine cF 21 hF ?_
 refine qS hF ?_
 refine tO 3 1 hj ?_
 refine sT [(30,.bool false)] fun a hF => ?_
 refine cF 30 hF ?_
 refine cS ?_
 rcases Int.decEq X.c 2 with hX2 | hX2
 ·skip
  refine rS hF ?_
  replace m9 := Grew.blk g22 (Ext.blk g16 (Ext.blk g13 m9)) ((sep.bp 1 0))
  refine tC 1 (.int .i64 X.c) (Calm.load (T := 37) (p := ⟨h1.size,0,none⟩) (by kernel_rfl) (Loads.one (k := 1) (by kernel_rfl) ((hcell_blk m9).trans (rfl)))) ?_
  refine t1 2 (.bool false) (.bool (X.c == (2 : Int))) (congrArg Value.bool (beq_eq_false_iff_ne.2 (by omega))) ?_
  refine sE [(38,.bool false)] fun a hF => ?_
  refine tK ?_
  refine cF 38 hF ?_
  refine qS hF ?_
  refine tC 3 (.int .i64 X.c) (Calm.load (T := 37) (p := ⟨h1.size,0,none⟩) (by kernel_rfl) (Loads.one (k := 1) (by kernel_rfl) ((hcell_blk m9).trans (rfl)))) ?_
  refine t1 4 (.bool false) (.bool (X.c == (3 : Int))) (congrArg Value.bool (beq_eq_false_iff_ne.2 (by omega))) ?_
  refine sT [(58,.bool false)] fun a hF => ?_
  refine cF 58 hF ?_
  refine cN ?_
  refine bK ?_
  refine tK ?_
  refine qS hF ?_
  replace m3 := Grew.blk g22 (Ext.blk g16 (Ext.blk g13 m3)) ((sep.bp 2 0))
  refine tR 1 m3 ?_
  refine tR 2 m9 ?_
  replace e0 := (e0.ext g16).grew g22 (sep.low 0 rfl)
  have hse := e0.size
  refine tG 5 (hold_sat _ jb bs Ms false false false ca cc (ja.ext e0) kd n s l oa oc ka kn kc (hr.ext e0) hsz X xqa xqc xia xic xpa xpc (xq.ext e0) (xi.ext e0) (xp.ext e0) x32 k11 k15 (kt.ext e0) hE hn) ?_
  rintro _ h23 ⟨rfl,bs2,ca2,cc2,ja2,hsub,gz⟩
  have gw := (Gr.start (JF jb bs) h).ext e0 |>.trans gz
  refine sT [(6,.int .i64 ((holdJ ⟨Ms,false,false,false,false⟩ (fitF kd n s l X)).2))] fun a hF => ?_
  refine cR ?_
  refine rT 6 (.int .i64 ((holdJ ⟨Ms,false,false,false,false⟩ (fitF kd n s l X)).2)) hF ?_
  exact ⟨rfl,bs2,ca2,cc2,ja2,fun x hx => .inl (hsub x hx),gw⟩
 ·skip
  refine rS hF ?_
  replace m9 := Grew.blk g22 (Ext.blk g16 (Ext.blk g13 m9)) ((sep.bp 1 0))
  refine tC 1 (.int .i64 X.c) (Calm.load (T := 37) (p := ⟨h1.size,0,none⟩) (by kernel_rfl) (Loads.one (k := 1) (by kernel_rfl) ((hcell_blk m9).trans (rfl)))) ?_
  refine t1 2 (.bool true) (.bool (X.c == (2 : Int))) (congrArg Value.bool (beq_iff_eq.2 (by omega))) ?_
  refine tO 7 2 hj ?_
  refine sE [(38,.bool false)] fun a hF => ?_
  refine tK ?_
  refine cF 38 hF ?_
  refine qS hF ?_
  refine tC 3 (.int .i64 X.c) (Calm.load (T := 37) (p := ⟨h1.size,0,none⟩) (by kernel_rfl) (Loads.one (k := 1) (by kernel_rfl) ((hcell_blk m9).trans (rfl)))) ?_
  refine t1 4 (.bool false) (.bool (X.c == (3 : Int))) (congrArg Value.bool (beq_eq_false_iff_ne.2 (by omega))) ?_
  refine sT [(58,.bool false)] fun a hF => ?_
  refine cF 58 hF ?_
  refine cN ?_
  refine bK ?_
  refine tK ?_
  refine qS hF ?_
  replace m3 := Grew.blk g22 (Ext.blk g16 (Ext.blk g13 m3)) ((sep.bp 2 0))
  refine tR 1 m3 ?_
  refine tR 2 m9 ?_
  replace e0 := (e0.ext g16).grew g22 (sep.low 0 rfl)
  have hse := e0.size
  refine tG 5 (hold_sat _ jb bs Ms false false false ca cc (ja.ext e0) kd n s l oa oc ka kn kc (hr.ext e0) hsz X xqa xqc xia xic xpa xpc (xq.ext e0) (xi.ext e0) (xp.ext e0) x32 k11 k15 (kt.ext e0) hE hn) ?_
  rintro _ h24 ⟨rfl,bs2,ca2,cc2,ja2,hsub,gz⟩
  have gw := (Gr.start (JF jb bs) h).ext e0 |>.trans gz
  refine sT [(6,.int .i64 ((holdJ ⟨Ms,false,false,false,false⟩ (fitF kd n s l X)).2))] fun a hF => ?_
  refine cR ?_
  refine rT 6 (.int .i64 ((holdJ ⟨Ms,false,false,false,false⟩ (fitF kd n s l X)).2)) hF ?_
  exact ⟨rfl,bs2,ca2,cc2,ja2,fun x hx => .inl (hsub x hx),gw⟩
set_option maxHeartbeats 1000000 in
theorem see_holdA (h : Heap) (jb : Nat) (bs : List (Nat × Nat)) (Ms : List Md) (ca : Option Addr) (cc : Nat)  (ja : JA h jb bs ⟨Ms,false,false,false,false⟩ ca cc) (kd n : Int) (s : ByteArray) (l : List UInt8) (oa : Option Addr) (oc : Nat) (ka : Option Addr) (kn kc : Nat) (hr : RowE h (.slice oa l.length oc) l.length 1 (l.map bv)) (hsz : s.size ≤ 9223372036854775807) (X : An) (xqa : Option Addr) (xqc : Nat) (xia : Option Addr) (xic : Nat) (xpa : Option Addr) (xpc : Nat) (xq : RowE h (.slice xqa X.b.length xqc) X.b.length 1 (X.b.map bv)) (xi : RowE h (.slice xia X.i.length xic) X.i.length 1 (X.i.map Value.string)) (xp : RowE h (.slice xpa X.p.length xpc) X.p.length 32 (hcs X.p)) (x32 : All32 X.p) (hkc : kindC kd = (true,false)) (k11 : kd ≠ 11) (k15 : kd ≠ 15) (kt : Ktab h) (hE : ∀ M ∈ Ms,M.E.length ≤ 1099511627) (hn : bs.length ≤ 1099511627) : Sat Tryz.prog 31 #[.pointer (some ⟨jb,0,none⟩),.agg #[.int .i64 kd,.string s,.slice oa l.length oc,.int .i64 n,.slice ka kn kc],.agg (asc X.c (.slice xqa X.b.length xqc) X.sx X.se X.sh X.sg (.slice xia X.i.length xic) X.n X.y X.k (.slice xpa X.p.length xpc)).toArray] h fun v h' => v = .int .i64 (holdJ ⟨Ms,false,false,false,false⟩ (fitF kd n s l X)).2 ∧ ∃ bs' ca cc,JA h' jb bs' (holdJ ⟨Ms,false,false,false,false⟩ (fitF kd n s l X)).1 ca cc ∧ (∀ z ∈ bs',z ∈ bs ∨ (h.size ≤ z.1 ∧ h.size ≤ z.2)) ∧ Gr (JF jb bs) h h' := by
 have hj := ja.hj
 have hj0 := ja.hj
 have hbj := blk_lt hj
 have gj := Gr.start (fun k => k = jb) h
 have e0 := Ext.refl h
 have sep : Sep h.size h.size [] := Sep.nil _ _
 refine sat_in Tryz.func31 77 fun a hF => ?_
 refine qS hF ?_
 refine tN 0 (pV h.size) #[.int .i64 kd,.string s,.slice oa l.length oc,.int .i64 n,.slice ka kn kc] 35 fun h1 g2 m3 => ?_
 have lt4 := blk_lt m3
 have zs5 := e0.size
 have zs6 := gj.1
 replace sep := sep.nw gj.1 m3
 refine tN 1 (pV h1.size) ((asc X.c (.slice xqa X.b.length xqc) X.sx X.se X.sh X.sg (.slice xia X.i.length xic) X.n X.y X.k (.slice xpa X.p.length xpc)).toArray) 47 fun h7 g8 m9 => ?_
 have lt10 := blk_lt m9
 replace e0 := e0.ext g2
 have zs11 := e0.size
 replace gj := gj.ext g2
 have zs12 := gj.1
 replace sep := sep.nw gj.1 m9
 refine sT [(4,pV h.size),(5,pV h1.size)] fun a hF => ?_
 refine qS hF ?_
 replace m3 := Ext.blk g8 m3
 refine tR 0 m3 ?_
 refine tG 1 (kind_at _ kd n s oa l.length oc ka kn kc true false hkc) ?_
 rintro _ h14 ⟨rfl,g13⟩
 refine sT [(7,.bool true),(8,.bool false)] fun a hF => ?_
 refine qS hF ?_
 refine tN 1 (pV h14.size) ((asc (0 : Int) (.slice none 0 0) rb0 (0 : Int) false false (.slice none 0 0) (0 : Int) rb0 (0 : Int) (.slice none 0 0)).toArray) 47 fun h15 g16 m17 => ?_
 have lt18 := blk_lt m17
 replace e0 := (e0.ext g8).ext g13
 have zs19 := e0.size
 replace gj := (gj.ext g8).ext g13
 have zs20 := gj.1
 replace sep := (sep.up g13.size).nw gj.1 m17
 refine tV0 2 (asc (2 : Int) (.slice none 0 0) rb0 (0 : Int) false false (.slice none 0 0) (0 : Int) rb0 (0 : Int) (.slice none 0 0)) m17 fun h21 g22 zq => ?_
 replace hj := Ext.blk g16 (Ext.blk g13 (Ext.blk g8 (Ext.blk g2 hj)))
 replace hj := Grew.blk g22 hj (by simp; omega)
 replace m17 := zq
 refine sT [(9,pV h14.size)] fun a hF => ?_
 refine cS ?_
 refine cB 0 ?_
 refine qS hF ?_
 refine tO 3 4 hj ?_
 refine sT [(16,.bool false)] fun a hF => ?_
 refine cF 16 hF ?_
 refine qP [(21,.bool false)] hF fun a hF => ?_
 refine cF 21 hF ?_
 refine qS hF ?_
 refine tO 3 1 hj ?_
 refine sT [(30,.bool false)] fun a hF => ?_
 refine cF 30 hF ?_
 refine cS ?_
 rcases Int.decEq X.c 2 with hX2 | hX2
 ·skip
  refine rS hF ?_
  replace m9 := Grew.blk g22 (Ext.blk g16 (Ext.blk g13 m9)) ((sep.bp 1 0))
  refine tC 1 (.int .i64 X.c) (Calm.load (T := 37) (p := ⟨h1.size,0,none⟩) (by kernel_rfl) (Loads.one (k := 1) (by kernel_rfl) ((hcell_blk m9).trans (rfl)))) ?_
  refine t1 2 (.bool false) (.bool (X.c == (2 : Int))) (congrArg Value.bool (beq_eq_false_iff_ne.2 (by omega))) ?_
  refine sE [(38,.bool false)] fun a hF => ?_
  refine tK ?_
  refine cF 38 hF ?_
  refine qP [(58,.bool false)] hF fun a hF => ?_
  refine cF 58 hF ?_
  refine cN ?_
  refine bK ?_
  refine tK ?_
  refine qS hF ?_
  replace m3 := Grew.blk g22 (Ext.blk g16 (Ext.blk g13 m3)) ((sep.bp 2 0))
  refine tR 1 m3 ?_
  refine tR 2 m9 ?_
  replace e0 := (e0.ext g16).grew g22 (sep.low 0 rfl)
  have hse := e0.size
  refine tG 5 (hold_sat _ jb bs Ms false false false ca cc (ja.ext e0) kd n s l oa oc ka kn kc (hr.ext e0) hsz X xqa xqc xia xic xpa xpc (xq.ext e0) (xi.ext e0) (xp.ext e0) x32 k11 k15 (kt.ext e0) hE hn) ?_
  rintro _ h23 ⟨rfl,bs2,ca2,cc2,ja2,hsub,gz⟩
  have gw := (Gr.start (JF jb bs) h).ext e0 |>.trans gz
  refine sT [(6,.int .i64 ((holdJ ⟨Ms,false,false,false,false⟩ (fitF kd n s l X)).2))] fun a hF => ?_
  refine cR ?_
  refine rT 6 (.int .i64 ((holdJ ⟨Ms,false,false,false,false⟩ (fitF kd n s l X)).2)) hF ?_
  exact ⟨rfl,bs2,ca2,cc2,ja2,fun x hx => .inl (hsub x hx),gw⟩
 ·skip
  refine rS hF ?_
  replace m9 := Grew.blk g22 (Ext.blk g16 (Ext.blk g13 m9)) ((sep.bp 1 0))
  refine tC 1 (.int .i64 X.c) (Calm.load (T := 37) (p := ⟨h1.size,0,none⟩) (by kernel_rfl) (Loads.one (k := 1) (by kernel_rfl) ((hcell_blk m9).trans (rfl)))) ?_
  refine t1 2 (.bool true) (.bool (X.c == (2 : Int))) (congrArg Value.bool (beq_iff_eq.2 (by omega))) ?_
  refine tO 7 2 hj ?_
  refine sE [(38,.bool false)] fun a hF => ?_
  refine tK ?_
  refine cF 38 hF ?_
  refine qP [(58,.bool false)] hF fun a hF => ?_
  refine cF 58 hF ?_
  refine cN ?_
  refine bK ?_
  refine tK ?_
  refine qS hF ?_
  replace m3 := Grew.blk g22 (Ext.blk g16 (Ext.blk g13 m3)) ((sep.bp 2 0))
  refine tR 1 m3 ?_
  refine tR 2 m9 ?_
  replace e0 := (e0.ext g16).grew g22 (sep.low 0 rfl)
  have hse := e0.size
  refine tG 5 (hold_sat _ jb bs Ms false false false ca cc (ja.ext e0) kd n s l oa oc ka kn kc (hr.ext e0) hsz X xqa xqc xia xic xpa xpc (xq.ext e0) (xi.ext e0) (xp.ext e0) x32 k11 k15 (kt.ext e0) hE hn) ?_
  rintro _ h24 ⟨rfl,bs2,ca2,cc2,ja2,hsub,gz⟩
  have gw := (Gr.start (JF jb bs) h).ext e0 |>.trans gz
  refine sT [(6,.int .i64 ((holdJ ⟨Ms,false,false,false,false⟩ (fitF kd n s l X)).2))] fun a hF => ?_
  refine cR ?_
  refine rT 6 (.int .i64 ((holdJ ⟨Ms,false,false,false,false⟩ (fitF kd n s l X)).2)) hF ?_
  exact ⟨rfl,bs2,ca2,cc2,ja2,fun x hx => .inl (hsub x hx),gw⟩
end Go.Proofs.YtegkejcglfgpmaaGreatDoor
end
section
namespace Go.Sha
open Go Go.Lane
theorem JA.ownO {h h' : Heap} {jb : Nat} {bs : List (Nat × Nat)} {J : Jd} {ca : Option Addr} {cc : Nat} {o : Option Nat} {v : Value} {E : TypeId} {n sz : Nat} {xs : List Value} (a : JA h jb bs J ca cc) (g : Grew o h h') (w : Own h v E n sz xs) (ho : blkOf v = o) (hE : Eok E = false) (hM : E ≠ 83) (hP : E ≠ 55) (hJ : E ≠ 77) : JA h' jb bs J ca cc := by
  subst ho
  rcases w.2 with ⟨rfl, _⟩ | ⟨k, off, cap, l, rfl, m, _⟩
  · exact a.ext g
  · have gr : Gr (fun i => i = k) h h' := ⟨g.1, fun i hi hn => g.2 i hi (fun e => hn (Option.some.inj e))⟩
    have hjk : jb ≠ k := by rintro rfl; rw [a.hj] at m; cases m; exact hJ rfl
    exact ⟨gr.blk a.hj hjk, a.row.fr gr (fun i e cs fr e2 => by rw [e, m] at e2; cases e2; exact hP rfl), a.cs.ownO g w rfl hE hM⟩
theorem JA.nown {h : Heap} {jb : Nat} {bs : List (Nat × Nat)} {J : Jd} {ca : Option Addr} {cc : Nat} {ad : Option Addr} {n cap : Nat} {E : TypeId} {m sz : Nat} {xs : List Value} (a : JA h jb bs J ca cc) (w : Own h (.slice ad n cap) E m sz xs) (hM : E ≠ 83) (hJ : E ≠ 77) : ∀ k, ad.map (fun (x : Addr) => x.block) = some k → ¬ JF jb bs k := fun k e => by
  rcases w.2 with ⟨e2, _⟩ | ⟨g, off, cap', l, e2, q, _⟩
  · cases e2; cases e
  · cases e2
    simp only [Option.map_some, Option.some.injEq] at e
    subst e
    rintro (rfl | ⟨x, hx, e⟩)
    · rw [a.hj] at q; cases q; exact hJ rfl
    · have := a.cs.nej q hM x hx
      rcases e with e | e
      · exact this.1 e
      · exact this.2 e
/-! ### faults -/
@[reducible] def ftc (p : Int × Int) : List Value := [.int .i64 p.1, .int .i64 p.2]
@[reducible] def ftrow (L : List (Int × Int)) : List Value := L.flatMap ftc
theorem ftc_len (p : Int × Int) : (ftc p).length = 2 := rfl
theorem ftrow_one (L : List (Int × Int)) : ∀ u ∈ ftrow L, u.oneCell' = true := fm_ones (fun p u hu => by simp only [ftc, List.mem_cons, List.not_mem_nil, or_false] at hu; rcases hu with rfl | rfl <;> rfl) L
def fts (r : Nat → Int) (k : Nat) : List (Int × Int) := (List.range k).filterMap fun i => if r i = 0 then none else some (((i : Nat) : Int), r i)
theorem fts_no {r : Nat → Int} {k : Nat} (h : r k = 0) : fts r (k + 1) = fts r k := by unfold fts; rw [List.range_succ, List.filterMap_append]; simp [h]
theorem fts_yes {r : Nat → Int} {k : Nat} (h : r k ≠ 0) : fts r (k + 1) = fts r k ++ [(((k : Nat) : Int), r k)] := by unfold fts; rw [List.range_succ, List.filterMap_append]; simp [h]
theorem fts_le (r : Nat → Int) : ∀ k, (fts r k).length ≤ k
  | 0 => by simp [fts]
  | k + 1 => by
    have := fts_le r k
    by_cases h : r k = 0
    · rw [fts_no h]; omega
    · rw [fts_yes h]; simp; omega
end Go.Sha
end
section
namespace Go.Proofs.YtegkejcglfgpmaaGreatDoor
open Go Go.Lane Go.Sha
/-! ### answers with their slices; what the judge does by one operation -/
structure AnR where
  X : An
  qa : Option Addr
  qc : Nat
  ia : Option Addr
  ic : Nat
  pa : Option Addr
  pc : Nat
@[reducible] def ansr (r : AnR) : List Value := asc r.X.c (.slice r.qa r.X.b.length r.qc) r.X.sx r.X.se r.X.sh r.X.sg (.slice r.ia r.X.i.length r.ic) r.X.n r.X.y r.X.k (.slice r.pa r.X.p.length r.pc)
def ar0 : AnR := ⟨an0, none, 0, none, 0, none, 0⟩
@[reducible] def arow (A : List AnR) : List Value := A.flatMap ansr
theorem ansr_len (r : AnR) : (ansr r).length = 75 := rfl
def OpE (h : Heap) (o : OpR) : Prop := RowE h (.slice o.oa o.l.length o.oc) o.l.length 1 (o.l.map bv) ∧ o.s.size ≤ 9223372036854775807
def AnE (h : Heap) (x : AnR) : Prop := RowE h (.slice x.qa x.X.b.length x.qc) x.X.b.length 1 (x.X.b.map bv) ∧ RowE h (.slice x.ia x.X.i.length x.ic) x.X.i.length 1 (x.X.i.map Value.string) ∧ RowE h (.slice x.pa x.X.p.length x.pc) x.X.p.length 32 (hcs x.X.p) ∧ All32 x.X.p
theorem _root_.Go.Sha.JA.one {h : Heap} {jb : Nat} {bs : List (Nat × Nat)} {J : Jd} {ca : Option Addr} {cc : Nat} {M : Md} (a : JA h jb bs J ca cc) (hc : J.c = [M]) : ∃ y aa, bs = [y] ∧ ca = some aa := by
  have hl := a.cs.len
  rw [hc] at hl
  obtain ⟨y, rfl⟩ := List.length_eq_one_iff.1 hl
  obtain ⟨aa, e, _⟩ := a.row.1.someA (by simp)
  exact ⟨y, aa, rfl, e⟩
def SeeAt (h : Heap) (o : OpR) (x : AnR) (J J' : Jd) (r : Int) : Prop := ∀ (h1 : Heap) (jb : Nat) (bs : List (Nat × Nat)) (ca : Option Addr) (cc : Nat), Ext h h1 → 0 < jb → Ktab h1 → JA h1 jb bs J ca cc →
  Sat Tryz.prog 31 #[.pointer (some ⟨jb, 0, none⟩), .agg (opc o).toArray, .agg (ansr x).toArray] h1 fun v h' => v = .int .i64 r ∧ ∃ bs' ca cc, JA h' jb bs' J' ca cc ∧ (∀ z ∈ bs', z ∈ bs ∨ (h1.size ≤ z.1 ∧ h1.size ≤ z.2)) ∧ Gr (JF jb bs) h1 h'
section
variable {h : Heap} {o : OpR} {x : AnR} {Ms : List Md} {M : Md}
theorem SeeAt.fuse {o2 o3 : Bool} (hx : AnE h x) (hk : o.kd = 12) : SeeAt h o x ⟨Ms, false, o2, o3, false⟩ ⟨Ms, false, decide (0 ≤ o.n), o3, false⟩ (ruleA an0 x.X) := fun h1 jb bs ca cc g _ _ ja =>
  see_fuse h1 jb bs Ms ca cc o2 o3 ja o.kd o.n o.s o.l o.oa o.oc o.ka o.kn o.kc x.X x.qa x.qc x.ia x.ic x.pa x.pc (hx.1.ext g) (hx.2.1.ext g) (hx.2.2.1.ext g) hx.2.2.2 (kind_ff (by omega) (by omega)) hk
theorem SeeAt.boot {o1 o2 o3 : Bool} (hx : AnE h x) (hk : o.kd = 13) : SeeAt h o x ⟨Ms, o1, o2, o3, false⟩ ⟨Ms, false, false, o3, false⟩ (ruleA an0 x.X) := fun h1 jb bs ca cc g _ _ ja =>
  see_boot h1 jb bs Ms ca cc o1 o2 o3 ja o.kd o.n o.s o.l o.oa o.oc o.ka o.kn o.kc x.X x.qa x.qc x.ia x.ic x.pa x.pc (hx.1.ext g) (hx.2.1.ext g) (hx.2.2.1.ext g) hx.2.2.2 (kind_ff (by omega) (by omega)) hk
theorem SeeAt.power (ho : OpE h o) (hx : AnE h x) (hkc : kindC o.kd = (true, true)) (hX : x.X.c = 2) (hE : M.E.length ≤ 1099511627) (hc : (stepR M o).2.c = 0) (hne : (stepR M o).1.E.length ≠ M.E.length) : SeeAt h o x ⟨[M], false, true, false, false⟩ ⟨[M, (stepR M o).1], true, true, false, false⟩ (ruleA (anC 2) x.X) := fun h1 jb bs ca cc g hk kt ja => by
  obtain ⟨y, aa, rfl, rfl⟩ := ja.one rfl
  exact see_power_a h1 jb y M aa cc ja o.kd o.n o.s o.l o.oa o.oc o.ka o.kn o.kc (ho.1.ext g) ho.2 x.X x.qa x.qc x.ia x.ic x.pa x.pc (hx.1.ext g) (hx.2.1.ext g) (hx.2.2.1.ext g) hx.2.2.2 hkc hX kt hk hE hc hne
theorem SeeAt.holdC (ho : OpE h o) (hx : AnE h x) (hkc : kindC o.kd = (true, true)) (hX : x.X.c ≠ 3) (hE : ∀ M ∈ Ms, M.E.length ≤ 1099511627) (hn : Ms.length ≤ 1099511627) {J : Jd} {r : Int} (e : holdJ ⟨Ms, false, false, false, false⟩ (fitF o.kd o.n o.s o.l x.X) = (J, r)) : SeeAt h o x ⟨Ms, false, false, false, false⟩ J r := fun h1 jb bs ca cc g hk kt ja => by
  have hl := ja.cs.len
  have hh : o.kd ≠ 11 ∧ o.kd ≠ 15 := ⟨by rintro e; rw [e] at hkc; exact absurd hkc (by decide), by rintro e; rw [e] at hkc; exact absurd hkc (by decide)⟩
  have := see_holdC h1 jb bs Ms ca cc ja o.kd o.n o.s o.l o.oa o.oc o.ka o.kn o.kc (ho.1.ext g) ho.2 x.X x.qa x.qc x.ia x.ic x.pa x.pc (hx.1.ext g) (hx.2.1.ext g) (hx.2.2.1.ext g) hx.2.2.2 hkc hX hh.1 hh.2 kt hE (by rw [hl]; exact hn)
  rwa [e] at this
theorem SeeAt.holdA (ho : OpE h o) (hx : AnE h x) (hkc : kindC o.kd = (true, false)) (k11 : o.kd ≠ 11) (k15 : o.kd ≠ 15) (hE : ∀ M ∈ Ms, M.E.length ≤ 1099511627) (hn : Ms.length ≤ 1099511627) {J : Jd} {r : Int} (e : holdJ ⟨Ms, false, false, false, false⟩ (fitF o.kd o.n o.s o.l x.X) = (J, r)) : SeeAt h o x ⟨Ms, false, false, false, false⟩ J r := fun h1 jb bs ca cc g hk kt ja => by
  have hl := ja.cs.len
  have := see_holdA h1 jb bs Ms ca cc ja o.kd o.n o.s o.l o.oa o.oc o.ka o.kn o.kc (ho.1.ext g) ho.2 x.X x.qa x.qc x.ia x.ic x.pa x.pc (hx.1.ext g) (hx.2.1.ext g) (hx.2.2.1.ext g) hx.2.2.2 hkc k11 k15 kt hE (by rw [hl]; exact hn)
  rwa [e] at this
end
/-! ### the document's examples -/
@[reducible] def sA : ByteArray := ByteArray.mk #[97]
noncomputable def M1 : Md := (putM M0 sA [97]).1
def anB (l : List UInt8) : An := { an0 with b := l }
theorem sA_ok : nameOk sA = true := by decide
theorem M1_eq : putM M0 sA [97] = (M1, 0) := by unfold M1; rw [putM_ok sA_ok (by decide) rfl]
theorem M1_f : M1.f sA = some (putO sA [97] 0) := by
  have : M1 = ⟨upd M0.f sA (putO sA [97] M0.E.length), M0.E ++ [entB sA 1 (rootB [97])], M0.t⟩ := by unfold M1; rw [putM_ok sA_ok (by decide) rfl]; rfl
  rw [this]; show upd M0.f sA (putO sA [97] 0) sA = _; exact upd_at _ _ _
theorem M1_E : M1.E.length = 1 := by unfold M1; rw [putM_ok sA_ok (by decide) rfl]; rfl
theorem put0 (n : Int) : step M0 1 n sA [97] = (M1, an0) := by rw [step_put rfl, M1_eq]; rfl
theorem put1 (n : Int) : step M1 1 n sA [97] = (M1, anC 212) := by rw [step_put rfl, putM_twice sA_ok (by decide) M1_f]
theorem get0 (n : Int) (l : List UInt8) : step M0 2 n sA l = (M0, anC 211) := by rw [step_ask (.inl rfl), askM_none sA_ok rfl]
theorem get1 (n : Int) (l : List UInt8) : step M1 2 n sA l = (M1, anB [97]) := by rw [step_ask (.inl rfl), askM_get sA_ok M1_f rfl rfl]; rfl
theorem r00 : ruleA an0 an0 = 0 := rule0 rfl rfl (stEq_self ..) rfl (hdEq_self ..) rfl rfl
theorem rB : ruleA (anB [97]) (anB [98]) = 2 := rule2 rfl (by decide)
theorem rBB : ruleA (anB [97]) (anB [97]) = 0 := rule0 rfl rfl (stEq_self ..) rfl (hdEq_self ..) rfl rfl
theorem rCC (c : Int) : ruleA (anC c) (anC c) = 0 := rule0 rfl rfl (stEq_self ..) rfl (hdEq_self ..) rfl rfl
theorem rC {A B : An} (h : A.c ≠ B.c) : ruleA A B = 1 := rule1 h
theorem hold1 {M N : Md} {f : Md → Md × Int} (h : f M = (N, 0)) {a b c d : Bool} : holdJ ⟨[M], a, b, c, d⟩ f = (⟨[N], a, b, c, d⟩, 0) := by simp [holdJ, h]
theorem hold0 {M N : Md} {r : Int} {f : Md → Md × Int} (h : f M = (N, r)) (hr : r ≠ 0) {a b c d : Bool} : holdJ ⟨[M], a, b, c, d⟩ f = (⟨[N], a, b, c, d⟩, r) := by simp [holdJ, h, hr, hdF]
theorem hold01 {M N K L : Md} {r : Int} {f : Md → Md × Int} (h : f M = (K, r)) (k : f N = (L, 0)) (hr : r ≠ 0) {a b c d : Bool} : holdJ ⟨[M, N], a, b, c, d⟩ f = (⟨[L], a, b, c, d⟩, 0) := by simp [holdJ, h, k, hr]
theorem hold10 {M N K L : Md} {r : Int} {f : Md → Md × Int} (h : f M = (K, 0)) (k : f N = (L, r)) (hr : r ≠ 0) {a b c d : Bool} : holdJ ⟨[M, N], a, b, c, d⟩ f = (⟨[K], a, b, c, d⟩, 0) := by simp [holdJ, h, k, hr]
theorem fit_of {M N : Md} {A X : An} {kd n r : Int} {s : ByteArray} {l : List UInt8} (h : step M kd n s l = (N, A)) (k : ruleA A X = r) : fitF kd n s l X M = (N, r) := by unfold fitF; rw [h]; exact congrArg _ k
def whZ (c : Int) : Nat := (if c < 0 then -(c + 1) else c).toNat % 3
end Go.Proofs.YtegkejcglfgpmaaGreatDoor
end
section
namespace Go.Proofs.YtegkejcglfgpmaaGreatDoor
open Go Go.Lane Go.Sha Go.Sort
/-! ### what was put stays: the ids, the bytes, what is gone, beside a model -/
abbrev Kp := OpR × Bool
structure KInv (M : Md) (I : List Kp) : Prop where
  len : M.E.length = I.length
  nd : (I.map fun z => z.1.s).Nodup
  at_ : ∀ (k : Nat) (z : Kp), I[k]? = some z → nameOk z.1.s = true ∧ z.1.l.length ≤ 512 ∧ M.E[k]? = some (entB z.1.s z.1.l.length (rootB z.1.l)) ∧
    ∃ o, M.f z.1.s = some o ∧ o.dt = z.1.l ∧ o.go = z.2 ∧ o.b = rbo z.1.s ((z.1.l.length : Nat) : Int) (rootB z.1.l) ((k : Nat) : Int)
  al : ∀ s o, M.f s = some o → ∃ z ∈ I, z.1.s = s
theorem KInv.zero : KInv M0 [] := ⟨rfl, by simp, by simp, fun s o h => by cases h⟩
section
variable {M : Md} {I : List Kp} {s : ByteArray} {l : List UInt8} {n : Int} {x : OpR}
theorem ki_free (v : KInv M I) (h : ∀ z ∈ I, z.1.s ≠ s) : M.f s = none := by
  cases e : M.f s with
  | none => rfl
  | some o => obtain ⟨z, hz, e2⟩ := v.al s o e; exact absurd e2 (h z hz)
theorem ki_put (v : KInv M I) (hs : nameOk x.s = true) (hl : x.l.length ≤ 512) (h : ∀ z ∈ I, z.1.s ≠ x.s) : (putM M x.s x.l).2 = 0 ∧ KInv (putM M x.s x.l).1 (I ++ [(x, false)]) := by
  have hf := ki_free v h
  rw [putM_ok hs hl hf]
  refine ⟨rfl, ?_, ?_, fun k z hk => ?_, fun t o ht => ?_⟩
  · simp [v.len]
  · rw [List.map_append, List.nodup_append]
    refine ⟨v.nd, by simp, fun a ha b hb => ?_⟩
    obtain ⟨z, hz, rfl⟩ := List.mem_map.1 ha
    simp only [List.map_cons, List.map_nil, List.mem_singleton] at hb
    subst hb; exact h z hz
  · by_cases hlt : k < I.length
    · rw [List.getElem?_append_left hlt] at hk
      obtain ⟨h1, h2, h3, o, h4, h5⟩ := v.at_ k z hk
      refine ⟨h1, h2, ?_, o, ?_, h5⟩
      · show (M.E ++ _)[k]? = _
        rw [List.getElem?_append_left (by rw [v.len]; exact hlt)]; exact h3
      · show upd M.f x.s _ z.1.s = _
        rw [upd_ne (h z (List.mem_of_getElem? hk))]; exact h4
    · have hk0 : k = I.length := by
        have := (List.getElem?_eq_some_iff.1 hk).1
        simp at this; omega
      subst hk0
      rw [List.getElem?_concat_length] at hk
      cases hk
      refine ⟨hs, hl, ?_, putO x.s x.l M.E.length, upd_at _ _ _, rfl, rfl, ?_⟩
      · show (M.E ++ _)[I.length]? = _
        rw [← v.len, List.getElem?_concat_length]
      · show rbo _ _ _ ((M.E.length : Nat) : Int) = _
        rw [v.len]
  · by_cases e : t = x.s
    · exact ⟨(x, false), by simp, e.symm⟩
    · have : M.f t = some o := by rw [← upd_ne (f := M.f) (o := putO x.s x.l M.E.length) e]; exact ht
      obtain ⟨z, hz, e2⟩ := v.al t o this
      exact ⟨z, List.mem_append_left _ hz, e2⟩
theorem ki_some (v : KInv M I) {k : Nat} {z : Kp} (hk : I[k]? = some z) (e : z.1.s = s) : ∃ o, M.f s = some o := by
  obtain ⟨_, _, _, o, h, _⟩ := v.at_ k z hk; exact ⟨o, e ▸ h⟩
theorem ki_noput (v : KInv M I) (h : nameOk s = false ∨ 512 < l.length ∨ ∃ (k : Nat) (z : Kp), I[k]? = some z ∧ z.1.s = s) : (putM M s l).2 ≠ 0 ∧ (putM M s l).1 = M := by
  cases h1 : nameOk s with
  | false => rw [putM_id h1]; exact ⟨(fun e => by cases e), rfl⟩
  | true =>
    by_cases h2 : 512 < l.length
    · rw [putM_long h1 h2]; exact ⟨(fun e => by cases e), rfl⟩
    · rcases h with h | h | ⟨k, z, hk, e⟩
      · rw [h1] at h; cases h
      · omega
      · obtain ⟨o, ho⟩ := ki_some v hk e
        rw [putM_twice h1 (by omega) ho]; exact ⟨(fun e => by cases e), rfl⟩
theorem ki_same (v : KInv M I) {N : Md} (hf : N.f = M.f) (hE : N.E = M.E) : KInv N I := ⟨by rw [hE]; exact v.len, v.nd, by rw [hf, hE]; exact v.at_, by rw [hf]; exact v.al⟩
theorem ki_upd (v : KInv M I) {k : Nat} {z : Kp} {o o' : Ob} {t : Int} (hk : I[k]? = some z) (ho : M.f z.1.s = some o) (h1 : o'.b = o.b) (h2 : o'.dt = o.dt) : KInv ⟨upd M.f z.1.s o', M.E, t⟩ (I.set k (z.1, o'.go)) := by
  have hlt := (List.getElem?_eq_some_iff.1 hk).1
  have hset : ∀ j y, (I.set k (z.1, o'.go))[j]? = some y → (j = k ∧ y = (z.1, o'.go)) ∨ (j ≠ k ∧ I[j]? = some y) := fun j y e => by
    by_cases ej : j = k
    · subst ej; rw [List.getElem?_set_self hlt] at e; exact .inl ⟨rfl, (Option.some.inj e).symm⟩
    · rw [List.getElem?_set_ne (Ne.symm ej)] at e; exact .inr ⟨ej, e⟩
  have hmap : (I.set k (z.1, o'.go)).map (fun z => z.1.s) = I.map fun z => z.1.s := by
    rw [List.map_set]
    refine List.ext_getElem (by simp) fun i h1 h2 => ?_
    rw [List.getElem_set]
    split
    · rename_i e; subst e; simp [(List.getElem?_eq_some_iff.1 hk).2]
    · rfl
  refine ⟨by simp [v.len], by rw [hmap]; exact v.nd, fun j y hy => ?_, fun s p hp => ?_⟩
  · rcases hset j y hy with ⟨rfl, rfl⟩ | ⟨hj, hy⟩
    · obtain ⟨k1, k2, k3, p, k4, k5, k6, k7⟩ := v.at_ j z hk
      rw [ho] at k4; cases k4
      exact ⟨k1, k2, k3, o', upd_at _ _ _, h2.trans k5, rfl, h1.trans k7⟩
    · obtain ⟨k1, k2, k3, p, k4, k5⟩ := v.at_ j y hy
      refine ⟨k1, k2, k3, p, ?_, k5⟩
      show upd M.f z.1.s o' y.1.s = _
      rw [upd_ne (nd_ne v.nd hy hk hj)]; exact k4
  · have hz : z.1.s = s ∨ ∃ o2, M.f s = some o2 := by
      by_cases e : s = z.1.s
      · exact .inl e.symm
      · exact .inr ⟨p, by rw [← upd_ne (f := M.f) (o := o') e]; exact hp⟩
    have hmem : s ∈ I.map fun z => z.1.s := by
      rcases hz with e | ⟨o2, e⟩
      · exact List.mem_map.2 ⟨z, List.mem_of_getElem? hk, e⟩
      · obtain ⟨y, hy, e2⟩ := v.al s o2 e; exact List.mem_map.2 ⟨y, hy, e2⟩
    rw [← hmap] at hmem
    obtain ⟨y, hy, e⟩ := List.mem_map.1 hmem
    exact ⟨y, hy, e⟩
theorem ki_set_self {k : Nat} {z : Kp} (hk : I[k]? = some z) : I.set k (z.1, z.2) = I := by
  obtain ⟨hi, e⟩ := List.getElem?_eq_some_iff.1 hk
  rw [← e]; exact List.set_getElem_self hi
theorem ki_chg (v : KInv M I) {kd : Int} (h : kd = 4 ∨ kd = 5 ∨ (kd = 6 ∧ (chg M kd n s).2 ≠ 0)) : KInv (chg M kd n s).1 I := by
  cases h1 : nameOk s with
  | false => rw [chg_id h1]; exact v
  | true =>
    by_cases h2 : kd = 4 ∧ (n < 0 ∨ 1099511627776 < n)
    · rw [chg_arg h1 h2]; exact v
    · cases h3 : M.f s with
      | none => rw [chg_none h1 h2 h3]; exact v
      | some o =>
        obtain ⟨z, hz, e⟩ := v.al s o h3
        obtain ⟨k, hk⟩ := List.getElem?_of_mem hz
        subst e
        obtain ⟨_, _, _, p, hp, hq, hg, _⟩ := v.at_ k z hk
        rw [h3] at hp; cases hp
        by_cases h4 : (chgO o kd n M.t).2 = 0
        · have hc : chg M kd n z.1.s = (⟨upd M.f z.1.s (chgO o kd n M.t).1, M.E, M.t⟩, 0) := chg_ok h1 h2 h3 (Prod.ext rfl h4)
          have hkd : kd = 4 ∨ kd = 5 := by
            rcases h with h | h | ⟨_, h⟩
            · exact .inl h
            · exact .inr h
            · rw [hc] at h; exact absurd rfl h
          have hgo : (chgO o kd n M.t).1.b = o.b ∧ (chgO o kd n M.t).1.dt = o.dt ∧ (chgO o kd n M.t).1.go = o.go := by
            unfold chgO
            rcases hkd with rfl | rfl
            · simp only [if_true]; split <;> exact ⟨rfl, rfl, rfl⟩
            · simp only [show ¬ ((5 : Int) = 4) by decide, if_false, if_true]; split <;> exact ⟨rfl, rfl, rfl⟩
          rw [hc]
          have := ki_upd v (t := M.t) hk h3 hgo.1 hgo.2.1
          rwa [hgo.2.2, hg, ki_set_self hk] at this
        · rw [chg_no h1 h2 h3 (Prod.ext rfl rfl) h4]; exact v
theorem ki_del (v : KInv M I) (h : (chg M 6 n s).2 = 0) : ∃ (k : Nat) (z : Kp), I[k]? = some z ∧ z.1.s = s ∧ z.2 = false ∧ KInv (chg M 6 n s).1 (I.set k (z.1, true)) := by
  cases h1 : nameOk s with
  | false => rw [chg_id h1] at h; cases h
  | true =>
    have h2 : ¬ ((6 : Int) = 4 ∧ (n < 0 ∨ 1099511627776 < n)) := by omega
    cases h3 : M.f s with
    | none => rw [chg_none h1 h2 h3] at h; cases h
    | some o =>
      obtain ⟨z, hz, e⟩ := v.al s o h3
      obtain ⟨k, hk⟩ := List.getElem?_of_mem hz
      subst e
      obtain ⟨_, _, _, p, hp, hq, hg, _⟩ := v.at_ k z hk
      rw [h3] at hp; cases hp
      by_cases h4 : (chgO o 6 n M.t).2 = 0
      · have hc : chg M 6 n z.1.s = (⟨upd M.f z.1.s (chgO o 6 n M.t).1, M.E, M.t⟩, 0) := chg_ok h1 h2 h3 (Prod.ext rfl h4)
        have hgo : o.go = false ∧ (chgO o 6 n M.t).1.b = o.b ∧ (chgO o 6 n M.t).1.dt = o.dt ∧ (chgO o 6 n M.t).1.go = true := by
          revert h4
          unfold chgO
          simp only [show ¬ ((6 : Int) = 4) by decide, show ¬ ((6 : Int) = 5) by decide, if_false]
          cases o.go with
          | true => simp
          | false =>
            cases o.ho with
            | true => simp
            | false =>
              simp only [Bool.false_eq_true, if_false]
              split
              · simp
              · simp
        refine ⟨k, z, hk, rfl, hg ▸ hgo.1, ?_⟩
        rw [hc]
        have := ki_upd v (t := M.t) hk h3 hgo.2.1 hgo.2.2.1
        rwa [hgo.2.2.2] at this
      · rw [chg_no h1 h2 h3 (Prod.ext rfl rfl) h4] at h; exact absurd h h4
/-! what is told at the end -/
theorem ki_get (v : KInv M I) {k : Nat} {z : Kp} (hk : I[k]? = some z) : askM M 2 z.1.s = if z.2 = true then anC 213 else { an0 with b := z.1.l } := by
  obtain ⟨h1, _, _, o, ho, hd, hg, _⟩ := v.at_ k z hk
  cases e : z.2 with
  | true => rw [if_pos rfl]; exact askM_gone h1 ho (by decide) (by decide) (hg.trans e)
  | false => rw [if_neg (by decide), askM_get h1 ho rfl (hg.trans e), hd]
theorem ki_stat (v : KInv M I) {k : Nat} {z : Kp} (hk : I[k]? = some z) : ∃ e ho, askM M 3 z.1.s = { an0 with sx := rbo z.1.s ((z.1.l.length : Nat) : Int) (rootB z.1.l) ((k : Nat) : Int), se := e, sh := ho, sg := z.2 } := by
  obtain ⟨h1, _, _, o, ho, hd, hg, hb⟩ := v.at_ k z hk
  exact ⟨o.e, o.ho, by rw [askM_stat h1 ho rfl, hb, hg]⟩
theorem ki_prove (v : KInv M I) {k : Nat} {z : Kp} (hk : I[k]? = some z) : askM M 16 z.1.s = { an0 with c := (inclZ (ledH M.E) ((k : Nat) : Int)).2, k := ((k : Nat) : Int), p := (inclZ (ledH M.E) ((k : Nat) : Int)).1 } := by
  obtain ⟨h1, _, _, o, ho, hd, hg, hb⟩ := v.at_ k z hk
  have hi : o.b.idx = ((k : Nat) : Int) := by rw [hb]; rfl
  rw [askM_prove (p := (inclZ (ledH M.E) o.b.idx).1) (e := (inclZ (ledH M.E) o.b.idx).2) h1 ho rfl rfl, hi]
def liveI (I : List Kp) : List ByteArray := (I.filter fun z => !z.2).map fun z => z.1.s
open Classical in
theorem ki_enum (v : KInv M I) : ∃ K, EnumR M K ∧ live K = liveI I := by
  let g : Kp → Rec := fun z => match M.f z.1.s with
    | some o => ⟨o.b, o.e, o.ho, o.go, none, 0, 0⟩
    | none => ⟨rb0, 0, false, false, none, 0, 0⟩
  have hg : ∀ z ∈ I, ∃ o, M.f z.1.s = some o ∧ g z = ⟨o.b, o.e, o.ho, o.go, none, 0, 0⟩ ∧ o.b.id = z.1.s ∧ o.go = z.2 := fun z hz => by
    obtain ⟨k, hk⟩ := List.getElem?_of_mem hz
    obtain ⟨_, _, _, o, ho, _, h6, h7⟩ := v.at_ k z hk
    exact ⟨o, ho, by show (match M.f z.1.s with | some o => _ | none => _) = _; rw [ho], by rw [h7]; rfl, h6⟩
  have hid : (I.map g).map (fun r => r.b.id) = I.map fun z => z.1.s := by
    rw [List.map_map]
    exact List.map_congr_left fun z hz => by obtain ⟨o, _, e, e2, _⟩ := hg z hz; show (g z).b.id = _; rw [e]; exact e2
  refine ⟨I.map g, ⟨by rw [hid]; exact v.nd, fun r hr => ?_, fun s o hs => ?_⟩, ?_⟩
  · obtain ⟨z, hz, rfl⟩ := List.mem_map.1 hr
    obtain ⟨o, ho, e, e2, _⟩ := hg z hz
    rw [e]; exact ⟨o, by show M.f o.b.id = _; rw [e2]; exact ho, rfl, rfl, rfl, rfl⟩
  · obtain ⟨z, hz, e⟩ := v.al s o hs
    obtain ⟨o', _, e1, e2, _⟩ := hg z hz
    exact ⟨g z, List.mem_map.2 ⟨z, hz, rfl⟩, by rw [e1]; exact e2.trans e⟩
  · have hl : ∀ J : List Kp, (∀ z ∈ J, z ∈ I) → live (J.map g) = liveI J := by
      intro J
      induction J with
      | nil => intro _; rfl
      | cons z J ih =>
        intro hJ
        obtain ⟨o, _, e, e2, e3⟩ := hg z (hJ z (List.mem_cons_self ..))
        have ih' := ih fun y hy => hJ y (List.mem_cons_of_mem _ hy)
        unfold live ids liveI at *
        rw [List.map_cons, List.filter_cons, List.filter_cons]
        have hn : ngo (g z) = !z.2 := by unfold ngo; rw [e]; exact congrArg (fun b => !b) e3
        rw [hn]
        cases z.2 with
        | true => simpa using ih'
        | false => simp only [Bool.not_false, if_true, List.map_cons, ih']; rw [e, e2]
    exact hl I fun _ h => h
theorem ki_ids (v : KInv M I) : idsM M = srt (liveI I) := by obtain ⟨K, E, h⟩ := ki_enum v; rw [idsM_eq E, h]
theorem ki_idsLen (v : KInv M I) : (idsM M).length = (liveI I).length := by rw [ki_ids v]; unfold srt; rw [List.length_mergeSort]
theorem ki_idsUp (v : KInv M I) {i : Nat} {x y : ByteArray} (hx : (idsM M)[i]? = some x) (hy : (idsM M)[i + 1]? = some y) : Lib.compareBytes x.data.toList y.data.toList < 0 := by
  have hp : (srt (liveI I)).Pairwise fun x y => (!ltOf cfs y x) = true := List.pairwise_mergeSort (fun a b c h1 h2 => by
    simp only [Bool.not_eq_true'] at *
    exact swoS.ntrans _ _ _ h2 h1) (fun a b => by
    cases e : ltOf cfs b a with
    | false => simp
    | true =>
      cases e2 : ltOf cfs a b with
      | false => simp
      | true => exact absurd (swoS.trans _ _ _ e e2) (by rw [swoS.irrefl]; decide)) _
  have hn : (srt (liveI I)).Nodup := (List.mergeSort_perm _ _).nodup_iff.2 (List.Nodup.sublist (List.Sublist.map _ List.filter_sublist) v.nd)
  rw [ki_ids v] at hx hy
  obtain ⟨h1, e1⟩ := List.getElem?_eq_some_iff.1 hx
  obtain ⟨h2, e2⟩ := List.getElem?_eq_some_iff.1 hy
  have ha := List.pairwise_iff_getElem.1 hp i (i + 1) h1 h2 (by omega)
  have hb := List.pairwise_iff_getElem.1 hn i (i + 1) h1 h2 (by omega)
  rw [e1, e2] at ha hb
  simp only [Bool.not_eq_true'] at ha
  rw [lt_f] at ha
  rcases Int.lt_or_eq_of_le ha with h | h
  · have := cb_neg x.data.toList y.data.toList; omega
  · exact absurd (totS _ _ (lt_f.2 (by have := cb_neg x.data.toList y.data.toList; omega)) (lt_f.2 ha)) hb
theorem liveI_snoc {I : List Kp} {k : Nat} {z : Kp} (hk : I[k]? = some z) : (liveI (I.take (k + 1))).length = (liveI (I.take k)).length + if z.2 = true then 0 else 1 := by
  unfold liveI
  rw [List.take_add_one, hk, List.length_map, List.length_map, List.filter_append, List.length_append]
  cases e : z.2 <;> simp [e]
end
end Go.Proofs.YtegkejcglfgpmaaGreatDoor
end
section
namespace Go.Proofs.YtegkejcglfgpmaaGreatDoor
open Go Go.Lane Go.Sha
noncomputable def b10 : Code := Tryz.f10.body.getD .skip
set_option maxHeartbeats 1000000 in
theorem judge_sat (h : Heap) (L : List OpR) (A : List AnR) (n : Nat) (la : Option Addr) (lc : Nat) (xa : Option Addr) (xc : Nat) (Jf : Nat → Jd) (r : Nat → Int) (hl : Row h (.slice la n lc) n 5 (oprow L)) (hL : L.length = n) (ha : Row h (.slice xa n xc) n 75 (arow A)) (hA : A.length = n) (kt : Ktab h) (hn : n ≤ 1099511627) (hJ0 : Jf 0 = ⟨[M0],false,false,false,false⟩) (see : ∀ k,k < n → SeeAt h (L.getD k op0) (A.getD k ar0) (Jf k) (Jf (k + 1)) (r k)) : Sat Tryz.prog 10 #[.slice la n lc,.slice xa n xc] h fun v h' => ∃ ad cap,v = .slice ad (fts r n).length cap ∧ Own h' (.slice ad (fts r n).length cap) 52 (fts r n).length 2 (ftrow (fts r n)) ∧ Ext h h' := by
 have e0 := Ext.refl h
 have h0s := kt.lt
 have sep : Sep h.size h.size [] := Sep.nil _ _
 refine sat_in Tryz.func10 53 fun a hF => ?_
 refine qP [] hF fun a hF => ?_
 refine qS hF ?_
 refine tG 0 (new_m _ (by have := e0.size; omega)) ?_
 rintro _ h1 ⟨mb,mp,rfl,hM,hb1,hp1,g⟩
 have hse := e0.size; replace hb1 := Nat.le_trans hse hb1; replace hp1 := Nat.le_trans hse hp1; clear hse
 replace e0 := e0.ext g
 replace kt := kt.ext g
 replace sep := sep.up g.size
 clear g
 refine tN 1 (.slice (some ⟨h1.size,0,none⟩) 1 1) #[pV mb] 55 fun h2 g3 m4 => ?_
 have lt5 := blk_lt m4
 have zs6 := e0.size
 replace sep := sep.nw e0.size m4
 refine tN 3 (pV h2.size) #[.slice (some ⟨h1.size,0,none⟩) 1 1,.bool false,.bool false,.bool false,.bool false] 77 fun h7 g8 m9 => ?_
 have lt10 := blk_lt m9
 replace e0 := e0.ext g3
 have zs11 := e0.size
 replace sep := sep.nw e0.size m9
 refine sT [(5,pV h2.size)] fun a hF => ?_
 refine qP [(6,.slice none 0 0)] hF fun a hF => ?_
 refine qS hF ?_
 refine t1 4 (.int .i64 ((n : Nat) : Int)) (.int .i64 (if ((n : Nat) : Int) < ((n : Nat) : Int) then ((n : Nat) : Int) else ((n : Nat) : Int))) (congrArg (Value.int .i64) (by split <;> rfl)) ?_
 refine sT [(7,nV n)] fun a hF => ?_
 refine cS ?_
 refine qP [(19,nV n),(20,.int .i64 0)] hF fun a hF => ?_
 refine cB 0 ?_
 have hjl : h.size ≤ h2.size := by omega
 replace hM := (hM.ext g3).ext g8
 replace m4 := Ext.blk g8 m4
 have ja : JA h7 h2.size [(mb,mp)] (Jf 0) (some ⟨h1.size,0,none⟩) 1 := hJ0 ▸ ⟨m9,⟨Row.blk (n := 1) (sz := 1) (l := [mpt (mb,mp)]) m4 rfl,.inr ⟨_,_,_,rfl,m4⟩⟩,CA.one hM⟩
 have hlow : ∀ z ∈ [(mb,mp)],h.size ≤ z.1 ∧ h.size ≤ z.2 := fun z hz => by rw [List.mem_singleton.1 hz]; exact ⟨hb1,hp1⟩
 clear hM m4 m9
 have own_f : Own h7 (.slice none 0 0) 52 0 2 (ftrow (fts r 0)) := Own.nil _ _ _
 replace e0 := e0.ext g8
 have hlo := e0.size
 replace sep := (sep.sub (l' := []) (List.nil_sublist _)).none hlo; clear hlo
 replace kt := (kt.ext g3).ext g8
 refine cL (fun m a h' => ∃ k : Nat,∃ ad : Option Addr,∃ cap : Nat,∃ bs : List (Nat × Nat),∃ ca : Option Addr,∃ cc : Nat,m = n - k ∧ (Ext h h') ∧ (Ktab h') ∧ (k ≤ n) ∧ (∀ z ∈ bs,h.size ≤ z.1 ∧ h.size ≤ z.2) ∧ (JA h' h2.size bs (Jf k) ca cc) ∧ (Own h' (.slice ad ((fts r k).length) cap) 52 ((fts r k).length) 2 (ftrow (fts r k))) ∧ (Sep h.size h'.size [ad.map (·.block)]) ∧ (Fr a 53 [(0,.slice la n lc),(1,.slice xa n xc),(5,.pointer (some ⟨h2.size,0,none⟩)),(6,.slice ad ((fts r k).length) cap),(7,.int .i64 ((n : Nat) : Int)),(19,.int .i64 ((n : Nat) : Int)),(20,.int .i64 ((k : Nat) : Int))])) (n - 0) ⟨0,none,0,[(mb,mp)],(some ⟨h1.size,0,none⟩),1,rfl,e0,kt,(by omega),hlow,ja,own_f,sep,hF.to⟩ ?_
 clear hF a
 clear e0
 clear kt
 clear hlow
 clear ja
 clear own_f
 clear sep
 rintro m a h12 ⟨k,ad,cap,bs,ca,cc,rfl,e0,kt,hk,hlow,ja,own_f,sep,hF⟩
 refine qP [(21,.bool (decide (((k : Nat) : Int) < ((n : Nat) : Int))))] hF fun a hF => ?_
 refine cS ?_
 refine cJ 21 hF (fun hc13 => ?_) fun hc13 => ?_
 ·skip
  have hkn : k < n := by omega
  have hFn := hF
  obtain ⟨al,rfl,hcap_al⟩ := hl.someA (by omega)
  have hF := hFn; clear hFn
  have hFn := hF
  obtain ⟨ax,rfl,hcap_ax⟩ := ha.someA (by omega)
  have hF := hFn; clear hFn
  refine cN ?_
  refine tK ?_
  refine cS ?_
  refine cB 1 ?_
  refine qP [(8,nV k)] hF fun a hF => ?_
  refine cS ?_
  refine cD [0,0,0,6,14,0,0,96,224,511,1023] 7 mixed hF ?_
  refine mP 7 [0,1,2] [pV h2.size,.slice (some al) n lc,nV k] ?_
  refine mF 15 3 (.pointer (some (Addr.add al (k * 5)))) (Calm.indexA (a := al) (len := n) (sz := 5) (k := ((k : Nat) : Int)) k (k * 5) (by kernel_rfl) rfl (by omega) (by omega)) ?_
  refine mL 31 16 4 (.agg ((opc (L.getD k op0)).toArray)) (Calm.load (T := 35) (p := (Addr.add al (k * 5))) (by kernel_rfl) (Row.fm (d := op0) opc_len (hl.ext e0) (by kernel_rfl) (by omega) rfl)) ?_
  refine mP 127 [5,6] [.slice (some ax) n xc,nV k] ?_
  refine mF 255 7 (.pointer (some (Addr.add ax (k * 75)))) (Calm.indexA (a := ax) (len := n) (sz := 75) (k := ((k : Nat) : Int)) k (k * 75) (by kernel_rfl) rfl (by omega) (by omega)) ?_
  refine mL 511 272 8 (.agg ((ansr (A.getD k ar0)).toArray)) (Calm.load (T := 47) (p := (Addr.add ax (k * 75))) (by kernel_rfl) (Row.fm (d := ar0) ansr_len (ha.ext e0) (by kernel_rfl) (by omega) rfl)) ?_
  refine mG0 1023 1023 9 (see k hkn _ h2.size bs ca cc e0 (by omega) kt ja) ?_
  rintro _ h14 ⟨rfl,bs2,ca2,cc2,ja2,hb2,gz⟩
  have hse := e0.size
  have hlow2 : ∀ z ∈ bs2,h.size ≤ z.1 ∧ h.size ≤ z.2 := fun z hz => by rcases hb2 z hz with h9 | h9; exact hlow z h9; exact ⟨by omega,by omega⟩
  have hJF : ∀ i,JF h2.size bs i → h.size ≤ i := by rintro i (e | ⟨x,hx,e | e⟩); omega; have := hlow x hx; omega; have := hlow x hx; omega
  replace own_f := Gr.own gz own_f (by rw [blkOf_slice]; exact ja.nown own_f (by decide) (by decide))
  replace e0 := Gr.toExt e0 gz hJF
  replace kt := kt.gr gz (fun e => by have := hJF _ e; omega)
  replace sep := sep.up gz.1
  clear ja; have ja := ja2; clear ja2 hJF hse hb2
  refine mP 2047 [10] [.int .i64 (r k)] ?_
  refine mE [(9,.int .i64 (r k))] fun a hF => ?_
  refine tK ?_
  refine qP [(34,.bool (!decide ((r k) = (0 : Int))))] hF fun a hF => ?_
  refine cI 34 hF (fun hc15 => ?_) fun hc15 => ?_
  ·skip
   have hfz := fts_yes hc15
   have hfl := fts_le r k
   refine rS hF ?_
   refine tN 4 (.slice (some ⟨h14.size,0,none⟩) 1 1) #[nV k,.int .i64 (r k)] 52 fun h16 g17 m18 => ?_
   have lt19 := blk_lt m18
   have zs20 := e0.size
   replace sep := sep.nw e0.size m18
   replace own_f := own_f.ext g17
   refine tF 5 (Does.append2 (t := 25) (E := 52) (sz := 2) (by_ := 16) (n := (fts r k).length) (m := 1) (v := .slice ad ((fts r k).length) cap) (x := .slice (some ⟨h14.size,0,none⟩) 1 1) (xs := (ftrow (fts r k))) (ys := (ftrow ([(((k : Nat) : Int),r k)]))) (by kernel_rfl) (by kernel_rfl) own_f (Row.blk (n := 1) (sz := 2) (l := ftrow [(((k : Nat) : Int),r k)]) m18 rfl) (ftrow_one _) (by unfold maxLen; omega) (by omega)) ?_
   rintro _ h23 ⟨ad21,cap22,rfl,ownx,g,hb⟩
   rw [blkOf_slice] at g hb
   replace e0 := e0.ext g17
   have hlo := e0.size
   have sepo := sep
   replace kt := kt.ext g17
   replace ja := ja.ext g17
   replace e0 := e0.grew g (sep.low 1 rfl)
   replace kt := kt.grew g (sep.zero 1 rfl h0s)
   replace ja := ja.ownO g own_f (blkOf_slice ..) (by decide) (by decide) (by decide) (by decide)
   replace m18 := Grew.blk g m18 ((sep.bp 0 1))
   replace sep := sep.up g.size
   replace sep : Sep h.size h23.size [some (h14.size),ad21.map (·.block)] := sepo.set g.size hlo 1 (y := ad21.map (fun (x : Addr) => x.block)) rfl (hb.imp id fun e => .inr ⟨_,e,Nat.le_refl _⟩) (fun k e => ownx.lt (by rw [blkOf_slice]; exact e))
   replace own_f : Own h23 (.slice ad21 ((fts r k).length + 1) cap22) 52 ((fts r k).length + 1) 2 (ftrow (fts r k ++ [(((k : Nat) : Int),r k)])) := Own.appG ownx (by first | rfl | exact List.flatMap_append.symm | simp [ftrow]) (by first | rfl | (simp; done) | (simp; omega))
   clear ownx g hb hlo sepo
   have hfl2 : (fts r k).length + 1 = (fts r (k + 1)).length := by rw [hfz,List.length_append]; rfl
   rw [hfl2,← hfz] at own_f
   refine sE [(6,.slice ad21 (((fts r k).length) + 1) cap22)] fun a hF => ?_
   have hcan : (((fts r k).length) + 1 : Nat) = (fts r (k + 1)).length := by first | exact hfl2 | (simp; done) | (simp; omega)
   rw [hcan] at hF; clear hcan
   refine bK ?_
   refine tK ?_
   refine rS hF ?_
   refine tA 0 k 1 ?_
   refine sE [(20,nV (k + 1))] fun a hF => ?_
   clear m18 lt19 zs20
   replace sep := sep.sub (l' := [ad21.map (·.block)]) (.cons _ (.cons_cons _ (.slnil)))
   show ∃ m',m' < _ ∧ _
   refine ⟨_,?_,(k + 1),ad21,cap22,bs2,ca2,cc2,rfl,e0,kt,(by omega),hlow2,ja,own_f,sep,hF.to⟩
   omega
  ·skip
   have hfz := fts_no hc15
   rw [← hfz] at own_f hF
   refine cN ?_
   refine bK ?_
   refine tK ?_
   refine rS hF ?_
   refine tA 0 k 1 ?_
   refine sE [(20,nV (k + 1))] fun a hF => ?_
   replace sep := sep.sub (l' := [ad.map (·.block)]) (.cons_cons _ (.slnil))
   show ∃ m',m' < _ ∧ _
   refine ⟨_,?_,(k + 1),ad,cap,bs2,ca2,cc2,rfl,e0,kt,(by omega),hlow2,ja,own_f,sep,hF.to⟩
   omega
 ·skip
  refine cX 0 (xT (xT (xB ?_)))
  refine tK ?_
  refine cS ?_
  refine qS hF ?_
  refine t1 4 (.bool false) (.bool (!(((n : Nat) : Int) == ((n : Nat) : Int)))) (congrArg (fun b => Value.bool (!b)) (beq_iff_eq.2 (by omega))) ?_
  refine sT [(46,.bool false)] fun a hF => ?_
  refine cF 46 hF ?_
  refine cN ?_
  refine tK ?_
  refine qP [(4,.slice ad ((fts r k).length) cap)] hF fun a hF => ?_
  refine cR ?_
  refine rT 4 (.slice ad ((fts r k).length) cap) hF ?_
  have hke : k = n := by omega
  exact ⟨ad,cap,by rw [hke],by rw [← hke]; exact own_f,e0⟩
noncomputable def b14 : Code := Tryz.f14.body.getD .skip
theorem samef_a (h : Heap) (p : Int × Int) (aa : Addr) (vc : Nat) (ab : Addr) (vd : Nat) (ra : Row h (.slice (some aa) 1 vc) 1 2 (ftrow [p])) (rb : Row h (.slice (some ab) 1 vd) 1 2 (ftrow [p])) : Sat Tryz.prog 14 #[.slice (some aa) 1 vc,.slice (some ab) 1 vd] h fun v h' => v = .bool true ∧ h' = h := by
 refine sat_in Tryz.func14 26 fun a hF => ?_
 refine qP [] hF fun a hF => ?_
 refine cS ?_
 refine qP [(10,.bool false)] hF fun a hF => ?_
 refine cF 10 hF ?_
 refine cN ?_
 refine tK ?_
 refine cS ?_
 refine qP [(5,.int .i64 0)] hF fun a hF => ?_
 refine cB 0 ?_
 refine cU 2 ?_
 refine Cround.step ?_
 refine cS ?_
 refine qP [(14,.bool true)] hF fun a hF => ?_
 refine cT 14 hF ?_
 refine cN ?_
 refine tK ?_
 refine cS ?_
 refine cB 1 ?_
 refine cS ?_
 refine cD [0,0,3,7,0,0,48,112,255] 6 mixed hF ?_
 refine mP 3 [0,1] [.slice (some aa) 1 vc,.int .i64 0] ?_
 refine mF 7 2 (.pointer (some aa)) (Calm.indexA (a := aa) (len := 1) (sz := 2) (k := (0 : Int)) 0 0 (by kernel_rfl) rfl (by omega) (by omega)) ?_
 refine mL 15 8 3 (.agg #[.int .i64 p.1,.int .i64 p.2]) (Calm.load (T := 52) (p := aa) (by kernel_rfl) (Row.fm (a := aa) (q := 0) (L := [p]) (i := 0) (d := p) ftc_len ra (by kernel_rfl) (by simp) rfl)) ?_
 refine mP 63 [4,5] [.slice (some ab) 1 vd,.int .i64 0] ?_
 refine mF 127 6 (.pointer (some ab)) (Calm.indexA (a := ab) (len := 1) (sz := 2) (k := (0 : Int)) 0 0 (by kernel_rfl) rfl (by omega) (by omega)) ?_
 refine mL 255 136 7 (.agg #[.int .i64 p.1,.int .i64 p.2]) (Calm.load (T := 52) (p := ab) (by kernel_rfl) (Row.fm (a := ab) (q := 0) (L := [p]) (i := 0) (d := p) ftc_len rb (by kernel_rfl) (by simp) rfl)) ?_
 refine mF 511 8 (.bool false) (Calm.eqS (q := false) (xs := #[.int .i64 p.1,.int .i64 p.2]) (by kernel_rfl)) ?_
 refine mE [(25,.bool false)] fun a hF => ?_
 refine tK ?_
 refine cF 25 hF ?_
 refine cN ?_
 refine bK ?_
 refine tK ?_
 refine rP [(5,.int .i64 1)] hF fun a hF => ?_
 refine tK (Cround.step ?_)
 refine cS ?_
 refine qP [(14,.bool false)] hF fun a hF => ?_
 refine cF 14 hF ?_
 refine cX 0 (xT (xT (xB ?_)))
 refine tK ?_
 refine qP [(4,.bool true)] hF fun a hF => ?_
 refine cR ?_
 refine rT 4 (.bool true) hF ?_
 exact ⟨rfl,rfl⟩
theorem samef_one (h : Heap) (p : Int × Int) (va : Option Addr) (vc : Nat) (vb : Option Addr) (vd : Nat) (ra : Row h (.slice va 1 vc) 1 2 (ftrow [p])) (rb : Row h (.slice vb 1 vd) 1 2 (ftrow [p])) : Sat Tryz.prog 14 #[.slice va 1 vc,.slice vb 1 vd] h fun v h' => v = .bool true ∧ h' = h := by
 obtain ⟨aa,rfl,_⟩ := ra.someA (by decide)
 obtain ⟨ab,rfl,_⟩ := rb.someA (by decide)
 exact samef_a h p aa vc ab vd ra rb
noncomputable def b12 : Code := Tryz.f12.body.getD .skip
end Go.Proofs.YtegkejcglfgpmaaGreatDoor
end
section
namespace Go.Proofs.YtegkejcglfgpmaaGreatDoor
open Go Go.Lane Go.Sha
/-! ### the examples: their operations, their answers, what the judge does by each -/
theorem rowU {h : Heap} {b : Nat} {x : UInt8} (m : h[b]? = some (.cells #[bv x] 5)) : RowE h (.slice (some ⟨b, 0, none⟩) 1 1) 1 1 ([x].map bv) :=
  ⟨Row.blk (n := 1) (sz := 1) (l := [x].map bv) m rfl, .inr ⟨b, _, _, _, rfl, m, by decide⟩⟩
@[reducible] def oPut (b : Nat) : OpR := ⟨1, sA, [97], some ⟨b, 0, none⟩, 1, 0, none, 0, 0⟩
@[reducible] def oGet : OpR := ⟨2, sA, [], none, 0, 0, none, 0, 0⟩
@[reducible] def oKind (k : Int) : OpR := ⟨k, ByteArray.empty, [], none, 0, 0, none, 0, 0⟩
@[reducible] def aCode (c : Int) : AnR := ⟨anC c, none, 0, none, 0, none, 0⟩
@[reducible] def aByte (x : UInt8) (b : Nat) : AnR := ⟨anB [x], some ⟨b, 0, none⟩, 1, none, 0, none, 0⟩
section
variable {h : Heap} {b b2 : Nat}
theorem oPutE (m : h[b]? = some (.cells #[bv 97] 5)) : OpE h (oPut b) := ⟨rowU m, (by decide : sA.size ≤ 9223372036854775807)⟩
theorem oGetE (h : Heap) : OpE h oGet := ⟨RowE.nil _ _, by decide⟩
theorem ar0E (h : Heap) : AnE h ar0 := ⟨RowE.nil _ _, RowE.nil _ _, RowE.nil _ _, All32.nil⟩
theorem aCodeE (h : Heap) (c : Int) : AnE h (aCode c) := ⟨RowE.nil _ _, RowE.nil _ _, RowE.nil _ _, All32.nil⟩
theorem aByteE {x : UInt8} (m : h[b]? = some (.cells #[bv x] 5)) : AnE h (aByte x b) := ⟨rowU m, RowE.nil _ _, RowE.nil _ _, All32.nil⟩
theorem E0 : ∀ M ∈ [M0], M.E.length ≤ 1099511627 := fun M hM => by rw [List.mem_singleton.1 hM]; decide
theorem E1 : ∀ M ∈ [M1], M.E.length ≤ 1099511627 := fun M hM => by rw [List.mem_singleton.1 hM, M1_E]; decide
theorem E01 : ∀ M ∈ [M0, M1], M.E.length ≤ 1099511627 := fun M hM => by
  rcases List.mem_cons.1 hM with rfl | hM
  · decide
  · exact E1 M hM
noncomputable def JD : Nat → Jd
  | 0 => ⟨[M0], false, false, false, false⟩
  | _ => ⟨[M1], false, false, false, false⟩
def rD : Nat → Int
  | 1 => 2
  | _ => 0
theorem seeD (m : h[b]? = some (.cells #[bv 97] 5)) (m2 : h[b2]? = some (.cells #[bv 98] 5)) (k : Nat) (hk : k < 2) : SeeAt h ([oPut b, oGet].getD k op0) ([ar0, aByte 98 b2].getD k ar0) (JD k) (JD (k + 1)) (rD k) := by
  match k, hk with
  | 0, _ => exact SeeAt.holdC (o := oPut b) (x := ar0) (oPutE m) (ar0E h) (kind_tt (.inl rfl)) (by decide) E0 (by decide) (hold1 (fit_of (put0 _) r00))
  | 1, _ => exact SeeAt.holdA (o := oGet) (x := aByte 98 b2) (oGetE h) (aByteE m2) (kind_tf (by decide) (.inl rfl)) (by decide) (by decide) E1 (by decide) (hold0 (fit_of (get1 _ _) rB) (by decide))
def JE : Nat → Jd
  | 0 => ⟨[M0], false, false, false, false⟩
  | _ => ⟨[M0], false, false, false, false⟩
def rE : Nat → Int := fun _ => 1
theorem seeE (h : Heap) (k : Nat) (hk : k < 1) : SeeAt h ([oGet].getD k op0) ([aCode 2].getD k ar0) (JE k) (JE (k + 1)) (rE k) := by
  match k, hk with
  | 0, _ => exact SeeAt.holdA (o := oGet) (x := aCode 2) (oGetE h) (aCodeE h 2) (kind_tf (by decide) (.inl rfl)) (by decide) (by decide) E0 (by decide) (hold0 (fit_of (get0 _ _) (rC (by decide))) (by decide))
noncomputable def JF4 : Nat → Jd
  | 0 => ⟨[M0], false, false, false, false⟩
  | 1 => ⟨[M0], false, true, false, false⟩
  | 2 => ⟨[M0, M1], true, true, false, false⟩
  | 3 => ⟨[M0, M1], false, false, false, false⟩
  | _ => ⟨[M1], false, false, false, false⟩
def rF : Nat → Int
  | 4 => 1
  | _ => 0
theorem see0 (x : AnR) (hx : x = ar0) : SeeAt h (oKind 12) x (JF4 0) (JF4 1) 0 := by
  subst hx
  have := SeeAt.fuse (h := h) (o := oKind 12) (x := ar0) (Ms := [M0]) (o2 := false) (o3 := false) (ar0E h) rfl
  rw [show ruleA an0 ar0.X = 0 from r00] at this
  exact this
theorem see1 (m : h[b]? = some (.cells #[bv 97] 5)) : SeeAt h (oPut b) (aCode 2) (JF4 1) (JF4 2) 0 := by
  have e : stepR M0 (oPut b) = (M1, an0) := put0 0
  have := SeeAt.power (h := h) (o := oPut b) (x := aCode 2) (M := M0) (oPutE m) (aCodeE h 2) (kind_tt (.inl rfl)) rfl (by decide) (by rw [e]; rfl) (by rw [e, M1_E]; decide)
  rw [e, rCC] at this
  exact this
theorem see2 : SeeAt h (oKind 13) ar0 (JF4 2) (JF4 3) 0 := by
  have := SeeAt.boot (h := h) (o := oKind 13) (x := ar0) (Ms := [M0, M1]) (o1 := true) (o2 := true) (o3 := false) (ar0E h) rfl
  rw [show ruleA an0 ar0.X = 0 from r00] at this
  exact this
theorem seeF (m : h[b]? = some (.cells #[bv 97] 5)) (m2 : h[b2]? = some (.cells #[bv 97] 5)) (k : Nat) (hk : k < 5) : SeeAt h ([oKind 12, oPut b, oKind 13, oGet, oGet].getD k op0) ([ar0, aCode 2, ar0, aByte 97 b2, aCode 211].getD k ar0) (JF4 k) (JF4 (k + 1)) (rF k) := by
  match k, hk with
  | 0, _ => exact see0 _ rfl
  | 1, _ => exact see1 m
  | 2, _ => exact see2
  | 3, _ => exact SeeAt.holdA (o := oGet) (x := aByte 97 b2) (oGetE h) (aByteE m2) (kind_tf (by decide) (.inl rfl)) (by decide) (by decide) E01 (by decide) (hold01 (fit_of (get0 _ _) (rC (by decide))) (fit_of (get1 _ _) rBB) (by decide))
  | 4, _ => exact SeeAt.holdA (o := oGet) (x := aCode 211) (oGetE h) (aCodeE h 211) (kind_tf (by decide) (.inl rfl)) (by decide) (by decide) E1 (by decide) (hold0 (fit_of (get1 _ _) (rC (by decide))) (by decide))
noncomputable def JG : Nat → Jd
  | 0 => ⟨[M0], false, false, false, false⟩
  | 1 => ⟨[M0], false, true, false, false⟩
  | 2 => ⟨[M0, M1], true, true, false, false⟩
  | 3 => ⟨[M0, M1], false, false, false, false⟩
  | _ => ⟨[M0], false, false, false, false⟩
def rG : Nat → Int := fun _ => 0
theorem seeG (m : h[b]? = some (.cells #[bv 97] 5)) (k : Nat) (hk : k < 4) : SeeAt h ([oKind 12, oPut b, oKind 13, oGet].getD k op0) ([ar0, aCode 2, ar0, aCode 211].getD k ar0) (JG k) (JG (k + 1)) (rG k) := by
  match k, hk with
  | 0, _ => exact see0 _ rfl
  | 1, _ => exact see1 m
  | 2, _ => exact see2
  | 3, _ => exact SeeAt.holdA (o := oGet) (x := aCode 211) (oGetE h) (aCodeE h 211) (kind_tf (by decide) (.inl rfl)) (by decide) (by decide) E01 (by decide) (hold10 (fit_of (get0 _ _) (rCC 211)) (fit_of (get1 _ _) (rC (by decide))) (by decide))
theorem ftsD : fts rD 2 = [(1, 2)] := by decide
theorem ftsE : fts rE 1 = [(0, 1)] := by decide
theorem ftsF : fts rF 5 = [(4, 1)] := by decide
theorem ftsG : fts rG 4 = [] := by decide
end
theorem judge_is (h : Heap) (L : List OpR) (A : List AnR) (n : Nat) (la : Option Addr) (lc : Nat) (xa : Option Addr) (xc : Nat) (Jf : Nat → Jd) (r : Nat → Int) (hl : Row h (.slice la n lc) n 5 (oprow L)) (hL : L.length = n) (ha : Row h (.slice xa n xc) n 75 (arow A)) (hA : A.length = n) (kt : Ktab h) (hn : n ≤ 1099511627) (hJ0 : Jf 0 = ⟨[M0], false, false, false, false⟩)
    (see : ∀ k, k < n → SeeAt h (L.getD k op0) (A.getD k ar0) (Jf k) (Jf (k + 1)) (r k)) (F : List (Int × Int)) (hF : fts r n = F) : Sat Tryz.prog 10 #[.slice la n lc, .slice xa n xc] h fun v h' => ∃ ad cap, v = .slice ad F.length cap ∧ Row h' (.slice ad F.length cap) F.length 2 (ftrow F) ∧ Ext h h' := by
  subst hF
  exact (judge_sat h L A n la lc xa xc Jf r hl hL ha hA kt hn hJ0 see).mono fun v h' ⟨ad, cap, e, o, g⟩ => ⟨ad, cap, e, o.row, g⟩
theorem do_is (h : Heap) (mb mp : Nat) (M : Md) (m : Mod h mb mp M) (kd n : Int) (s : ByteArray) (l : List UInt8) (oa : Option Addr) (oc : Nat) (ka : Option Addr) (kn kc : Nat) (hr : Row h (.slice oa l.length oc) l.length 1 (l.map bv)) (hsz : s.size ≤ 9223372036854775807) (kt : Ktab h) (hE : M.E.length ≤ 1099511627) (N : Md) (W : An) (hs : step M kd n s l = (N, W)) :
    Sat Tryz.prog 17 #[.pointer (some ⟨mb, 0, none⟩), .agg #[.int .i64 kd, .string s, .slice oa l.length oc, .int .i64 n, .slice ka kn kc]] h fun v h' => ∃ qa qc ia ic pa pc, v = anv W (.slice qa W.b.length qc) (.slice ia W.i.length ic) (.slice pa W.p.length pc) ∧ RowE h' (.slice qa W.b.length qc) W.b.length 1 (W.b.map bv) ∧ RowE h' (.slice ia W.i.length ic) W.i.length 1 (W.i.map Value.string) ∧ RowE h' (.slice pa W.p.length pc) W.p.length 32 (hcs W.p) ∧ All32 W.p ∧ Mod h' mb mp N ∧ MG mb mp h h' := by
  have := do_w h mb mp M m kd n s l oa oc ka kn kc hr hsz kt hE W (by rw [hs])
  rw [hs] at this
  exact this
def kz (k : Nat) : Int := 4 + k
end Go.Proofs.YtegkejcglfgpmaaGreatDoor
end
section
namespace Go.Proofs.YtegkejcglfgpmaaGreatDoor
open Go Go.Lane Go.Sha
noncomputable def b9 : Code := Tryz.f9.body.getD .skip
set_option maxHeartbeats 1000000 in
set_option maxRecDepth 10000 in
theorem shown_sat (h : Heap) (kt : Ktab h) : Sat Tryz.prog 9 #[] h fun v h' => v = .bool true ∧ Ext h h' := by
 have e0 := Ext.refl h
 have h0s := kt.lt
 have sep : Sep h.size h.size [] := Sep.nil _ _
 refine sat_in Tryz.func9 103 fun a hF => ?_
 refine qP [] hF fun a hF => ?_
 refine qS hF ?_
 refine tG 0 (new_m _ (by have := e0.size; omega)) ?_
 rintro _ h4 ⟨mb,mp,rfl,hM,hb1,hp2,g⟩
 have hse := e0.size
 replace e0 := e0.ext g
 replace kt := kt.ext g
 replace sep := sep.up g.size
 clear g
 have hk3 := hM.kb
 have sz1 : h4.size ≤ h4.size := Nat.le_refl _
 refine sT [(1,pV mb)] fun a hF => ?_
 refine cS ?_
 refine qP [(14,.bool false)] hF fun a hF => ?_
 refine cF 14 hF ?_
 refine cN ?_
 refine tK ?_
 refine qS hF ?_
 refine tN 0 (.slice (some ⟨h4.size,0,none⟩) 1 1) #[.int .u8 97] 5 fun h5 g6 m7 => ?_
 have lt8 := blk_lt m7
 have zs9 := e0.size
 have zs10 := sz1
 replace sep := sep.nw e0.size m7
 replace sz1 := Nat.le_trans sz1 g6.size
 refine tN 2 (pV h5.size) #[.int .i64 0,.string ByteArray.empty,.slice none 0 0,.int .i64 0,.slice none 0 0] 35 fun h11 g12 m13 => ?_
 have lt14 := blk_lt m13
 replace e0 := e0.ext g6
 have zs15 := e0.size
 have zs16 := sz1
 replace sep := sep.nw e0.size m13
 replace sz1 := Nat.le_trans sz1 g12.size
 refine tV0 3 [.int .i64 1,.string (ByteArray.mk #[97]),.slice (some ⟨h4.size,0,none⟩) 1 1,.int .i64 0,.slice none 0 0] m13 fun h17 g18 zq => ?_
 replace sz1 := Nat.le_trans sz1 g18.1
 replace hM := (hM.ext g6).ext g12
 replace hM := hM.put1 g18 m13 (by decide) (by omega)
 replace m13 := zq
 refine sT [(2,pV h5.size)] fun a hF => ?_
 refine qS hF ?_
 refine tN 1 (pV h17.size) #[.int .i64 0,.string ByteArray.empty,.slice none 0 0,.int .i64 0,.slice none 0 0] 35 fun h19 g20 m21 => ?_
 have lt22 := blk_lt m21
 replace e0 := (e0.ext g12).grew g18 (sep.low 0 rfl)
 have zs23 := e0.size
 have zs24 := sz1
 replace sep := (sep.up g18.size).nw e0.size m21
 replace sz1 := Nat.le_trans sz1 g20.size
 refine tV0 2 [.int .i64 2,.string (ByteArray.mk #[97]),.slice none 0 0,.int .i64 0,.slice none 0 0] m21 fun h25 g26 zq => ?_
 replace sz1 := Nat.le_trans sz1 g26.1
 replace hM := hM.ext g20
 replace hM := hM.put1 g26 m21 (by decide) (by omega)
 replace m21 := zq
 refine sT [(3,pV h17.size)] fun a hF => ?_
 refine qS hF ?_
 replace m13 := Grew.blk g26 (Ext.blk g20 m13) ((sep.bp 1 0))
 refine tR 1 m13 ?_
 have lb33 := hM.kb
 replace kt := ((((kt.ext g6).ext g12).grew g18 (sep.zero 1 rfl h0s)).ext g20).grew g26 (sep.zero 0 rfl h0s)
 replace m7 := Grew.blk g26 (Ext.blk g20 (Grew.blk g18 (Ext.blk g12 m7) ((sep.bp 2 1)))) ((sep.bp 2 0))
 refine tG 2 (do_is _ mb mp M0 hM 1 0 sA [97] (some ⟨h4.size,0,none⟩) 1 none 0 0 (rowU m7).1 (by decide) kt (by decide) M1 an0 (put0 0)) ?_
 rintro _ h34 ⟨qa27,qc28,ia29,ic30,pa31,pc32,rfl,_,_,_,_,m2,gm⟩
 replace m7 := gm.blk m7 (by omega) (by omega)
 replace m13 := gm.blk m13 (by omega) (by omega)
 replace m21 := gm.blk m21 (by omega) (by omega)
 replace e0 := (e0.ext g20).grew g26 (sep.low 0 rfl)
 replace e0 := Gr.toExt e0 gm (by rintro i (e | e) <;> omega)
 replace kt := kt.gr gm (by rintro (e | e) <;> omega)
 replace sep := sep.up g26.size
 replace sep := sep.up gm.1
 replace sz1 := Nat.le_trans sz1 gm.1
 clear hM; have hM := m2; clear m2 gm
 refine tN 3 (pV h34.size) ((asc (0 : Int) (.slice none 0 0) rb0 (0 : Int) false false (.slice none 0 0) (0 : Int) rb0 (0 : Int) (.slice none 0 0)).toArray) 47 fun h35 g36 m37 => ?_
 have lt38 := blk_lt m37
 have zs39 := e0.size
 have zs40 := sz1
 replace sep := sep.nw e0.size m37
 replace sz1 := Nat.le_trans sz1 g36.size
 refine tV0 4 (asc (0 : Int) (.slice qa27 0 qc28) rb0 (0 : Int) false false (.slice ia29 0 ic30) (0 : Int) rb0 (0 : Int) (.slice pa31 0 pc32)) m37 fun h41 g42 zq => ?_
 replace sz1 := Nat.le_trans sz1 g42.1
 replace hM := hM.ext g36
 replace hM := hM.put1 g42 m37 (by decide) (by omega)
 replace m37 := zq
 refine sT [(4,pV h34.size)] fun a hF => ?_
 refine qS hF ?_
 replace m21 := Grew.blk g42 (Ext.blk g36 m21) ((sep.bp 1 0))
 refine tR 1 m21 ?_
 have lb49 := hM.kb
 replace kt := (kt.ext g36).grew g42 (sep.zero 0 rfl h0s)
 refine tG 2 (do_is _ mb mp M1 hM 2 0 sA [] none 0 none 0 0 (Row.nil _ _) (by decide) kt (by rw [M1_E]; decide) M1 (anB [97]) (get1 0 [])) ?_
 rintro _ h50 ⟨qa43,qc44,ia45,ic46,pa47,pc48,rfl,rb,_,_,_,m2,gm⟩
 replace m7 := Grew.blk g42 (Ext.blk g36 m7) ((sep.bp 3 0))
 replace m7 := gm.blk m7 (by omega) (by omega)
 replace m13 := Grew.blk g42 (Ext.blk g36 m13) ((sep.bp 2 0))
 replace m13 := gm.blk m13 (by omega) (by omega)
 replace m21 := gm.blk m21 (by omega) (by omega)
 replace m37 := gm.blk m37 (by omega) (by omega)
 replace e0 := (e0.ext g36).grew g42 (sep.low 0 rfl)
 replace e0 := Gr.toExt e0 gm (by rintro i (e | e) <;> omega)
 replace kt := kt.gr gm (by rintro (e | e) <;> omega)
 replace sep := sep.up g42.size
 replace sep := sep.up gm.1
 replace sz1 := Nat.le_trans sz1 gm.1
 clear hM; have hM := m2; clear m2 gm
 refine tN 3 (pV h50.size) ((asc (0 : Int) (.slice none 0 0) rb0 (0 : Int) false false (.slice none 0 0) (0 : Int) rb0 (0 : Int) (.slice none 0 0)).toArray) 47 fun h51 g52 m53 => ?_
 have lt54 := blk_lt m53
 have zs55 := e0.size
 have zs56 := sz1
 replace sep := sep.nw e0.size m53
 replace sz1 := Nat.le_trans sz1 g52.size
 refine tV0 4 (asc (0 : Int) (.slice qa43 1 qc44) rb0 (0 : Int) false false (.slice ia45 0 ic46) (0 : Int) rb0 (0 : Int) (.slice pa47 0 pc48)) m53 fun h57 g58 zq => ?_
 replace sz1 := Nat.le_trans sz1 g58.1
 replace hM := hM.ext g52
 replace hM := hM.put1 g58 m53 (by decide) (by omega)
 replace rb := rb.ext g52
 replace rb := rb.put1 g58 m53 (by decide)
 replace m53 := zq
 refine sT [(5,pV h50.size)] fun a hF => ?_
 refine qS hF ?_
 replace m13 := Grew.blk g58 (Ext.blk g52 m13) ((sep.bp 3 0))
 refine tR 1 m13 ?_
 have lb65 := hM.kb
 replace kt := (kt.ext g52).grew g58 (sep.zero 0 rfl h0s)
 replace m7 := Grew.blk g58 (Ext.blk g52 m7) ((sep.bp 4 0))
 refine tG 2 (do_is _ mb mp M1 hM 1 0 sA [97] (some ⟨h4.size,0,none⟩) 1 none 0 0 (rowU m7).1 (by decide) kt (by rw [M1_E]; decide) M1 (anC 212) (put1 0)) ?_
 rintro _ h66 ⟨qa59,qc60,ia61,ic62,pa63,pc64,rfl,_,_,_,_,m2,gm⟩
 replace m7 := gm.blk m7 (by omega) (by omega)
 replace m13 := gm.blk m13 (by omega) (by omega)
 replace m21 := Grew.blk g58 (Ext.blk g52 m21) ((sep.bp 2 0))
 replace m21 := gm.blk m21 (by omega) (by omega)
 replace m37 := Grew.blk g58 (Ext.blk g52 m37) ((sep.bp 1 0))
 replace m37 := gm.blk m37 (by omega) (by omega)
 replace m53 := gm.blk m53 (by omega) (by omega)
 replace rb := rb.mgM gm hM
 replace e0 := (e0.ext g52).grew g58 (sep.low 0 rfl)
 replace e0 := Gr.toExt e0 gm (by rintro i (e | e) <;> omega)
 replace kt := kt.gr gm (by rintro (e | e) <;> omega)
 replace sep := sep.up g58.size
 replace sep := sep.up gm.1
 replace sz1 := Nat.le_trans sz1 gm.1
 clear hM; have hM := m2; clear m2 gm
 refine tN 3 (pV h66.size) ((asc (0 : Int) (.slice none 0 0) rb0 (0 : Int) false false (.slice none 0 0) (0 : Int) rb0 (0 : Int) (.slice none 0 0)).toArray) 47 fun h67 g68 m69 => ?_
 have lt70 := blk_lt m69
 have zs71 := e0.size
 have zs72 := sz1
 replace sep := sep.nw e0.size m69
 replace sz1 := Nat.le_trans sz1 g68.size
 refine tV0 4 (asc (212 : Int) (.slice qa59 0 qc60) rb0 (0 : Int) false false (.slice ia61 0 ic62) (0 : Int) rb0 (0 : Int) (.slice pa63 0 pc64)) m69 fun h73 g74 zq => ?_
 replace sz1 := Nat.le_trans sz1 g74.1
 replace hM := hM.ext g68
 replace hM := hM.put1 g74 m69 (by decide) (by omega)
 replace rb := rb.ext g68
 replace rb := rb.put1 g74 m69 (by decide)
 replace m69 := zq
 refine sT [(6,pV h66.size)] fun a hF => ?_
 refine qS hF ?_
 replace m13 := Grew.blk g74 (Ext.blk g68 m13) ((sep.bp 4 0))
 refine tR 0 m13 ?_
 replace m21 := Grew.blk g74 (Ext.blk g68 m21) ((sep.bp 3 0))
 refine tR 1 m21 ?_
 refine tN 2 (.slice (some ⟨h73.size,0,none⟩) 2 2) #[.int .i64 1,.string (ByteArray.mk #[97]),.slice (some ⟨h4.size,0,none⟩) 1 1,.int .i64 0,.slice none 0 0,.int .i64 2,.string (ByteArray.mk #[97]),.slice none 0 0,.int .i64 0,.slice none 0 0] 35 fun h75 g76 m77 => ?_
 have lt78 := blk_lt m77
 replace e0 := (e0.ext g68).grew g74 (sep.low 0 rfl)
 have zs79 := e0.size
 have zs80 := sz1
 replace sep := (sep.up g74.size).nw e0.size m77
 replace sz1 := Nat.le_trans sz1 g76.size
 refine tN 4 (.slice (some ⟨h75.size,0,none⟩) 1 1) #[.int .u8 98] 5 fun h81 g82 m83 => ?_
 have lt84 := blk_lt m83
 replace e0 := e0.ext g76
 have zs85 := e0.size
 have zs86 := sz1
 replace sep := sep.nw e0.size m83
 replace sz1 := Nat.le_trans sz1 g82.size
 refine tN 6 (.slice (some ⟨h81.size,0,none⟩) 2 2) ((arow [ar0,aByte 98 h75.size]).toArray) 47 fun h87 g88 m89 => ?_
 have lt90 := blk_lt m89
 replace e0 := e0.ext g82
 have zs91 := e0.size
 have zs92 := sz1
 replace sep := sep.nw e0.size m89
 replace sz1 := Nat.le_trans sz1 g88.size
 replace kt := ((((kt.ext g68).grew g74 (sep.zero 3 rfl h0s)).ext g76).ext g82).ext g88
 replace m7 := Ext.blk g88 (Ext.blk g82 (Ext.blk g76 (Grew.blk g74 (Ext.blk g68 m7) ((sep.bp 8 3)))))
 replace m77 := Ext.blk g88 (Ext.blk g82 m77)
 replace m83 := Ext.blk g88 m83
 refine tG 7 (judge_is _ [oPut h4.size,oGet] [ar0,aByte 98 h75.size] 2 _ _ _ _ JD rD (Row.blk (n := 2) (sz := 5) (l := oprow [oPut h4.size,oGet]) m77 rfl) rfl (Row.blk (n := 2) (sz := 75) (l := arow [ar0,aByte 98 h75.size]) m89 rfl) rfl kt (by decide) rfl (seeD m7 m83) [(1,2)] ftsD) ?_
 rintro _ h95 ⟨ad93,cap94,rfl,rd0,g⟩
 replace m37 := Ext.blk g88 (Ext.blk g82 (Ext.blk g76 (Grew.blk g74 (Ext.blk g68 m37) ((sep.bp 5 3)))))
 replace m53 := Ext.blk g88 (Ext.blk g82 (Ext.blk g76 (Grew.blk g74 (Ext.blk g68 m53) ((sep.bp 4 3)))))
 replace hM := ((hM.ext g76).ext g82).ext g88
 replace rb := ((rb.ext g76).ext g82).ext g88
 replace m13 := Ext.blk g88 (Ext.blk g82 (Ext.blk g76 m13))
 replace m21 := Ext.blk g88 (Ext.blk g82 (Ext.blk g76 m21))
 replace m69 := Ext.blk g88 (Ext.blk g82 (Ext.blk g76 m69))
 replace e0 := e0.ext g88
 replace e0 := e0.ext g
 replace kt := kt.ext g
 replace sz1 := Nat.le_trans sz1 g.size
 replace hM := hM.ext g
 replace rb := rb.ext g
 replace m7 := Ext.blk g m7
 replace m13 := Ext.blk g m13
 replace m21 := Ext.blk g m21
 replace m37 := Ext.blk g m37
 replace m53 := Ext.blk g m53
 replace m69 := Ext.blk g m69
 replace m77 := Ext.blk g m77
 replace m83 := Ext.blk g m83
 replace m89 := Ext.blk g m89
 replace sep := sep.up g.size
 clear g
 clear m77 lt78 zs79 zs80
 clear m83 lt84 zs85 zs86
 clear m89 lt90 zs91 zs92
 clear hM
 refine sT [(7,.slice ad93 1 cap94)] fun a hF => ?_
 refine qS hF ?_
 refine tR 0 m21 ?_
 refine tN 1 (.slice (some ⟨h95.size,0,none⟩) 1 1) #[.int .i64 2,.string (ByteArray.mk #[97]),.slice none 0 0,.int .i64 0,.slice none 0 0] 35 fun h96 g97 m98 => ?_
 have lt99 := blk_lt m98
 have zs100 := e0.size
 have zs101 := sz1
 replace sep := sep.nw e0.size m98
 replace sz1 := Nat.le_trans sz1 g97.size
 refine tN 3 (.slice (some ⟨h96.size,0,none⟩) 1 1) ((arow [aCode 2]).toArray) 47 fun h102 g103 m104 => ?_
 have lt105 := blk_lt m104
 replace e0 := e0.ext g97
 have zs106 := e0.size
 have zs107 := sz1
 replace sep := sep.nw e0.size m104
 replace sz1 := Nat.le_trans sz1 g103.size
 replace kt := (kt.ext g97).ext g103
 replace m98 := Ext.blk g103 m98
 refine tG 4 (judge_is _ [oGet] [aCode 2] 1 _ _ _ _ JE rE (Row.blk (n := 1) (sz := 5) (l := oprow [oGet]) m98 rfl) rfl (Row.blk (n := 1) (sz := 75) (l := arow [aCode 2]) m104 rfl) rfl kt (by decide) rfl (seeE _) [(0,1)] ftsE) ?_
 rintro _ h110 ⟨ad108,cap109,rfl,rd1,g⟩
 replace rb := (rb.ext g97).ext g103
 replace rd0 := (rd0.ext g97).ext g103
 replace m7 := Ext.blk g103 (Ext.blk g97 m7)
 replace m13 := Ext.blk g103 (Ext.blk g97 m13)
 replace m21 := Ext.blk g103 (Ext.blk g97 m21)
 replace m37 := Ext.blk g103 (Ext.blk g97 m37)
 replace m53 := Ext.blk g103 (Ext.blk g97 m53)
 replace m69 := Ext.blk g103 (Ext.blk g97 m69)
 replace e0 := e0.ext g103
 replace e0 := e0.ext g
 replace kt := kt.ext g
 replace sz1 := Nat.le_trans sz1 g.size
 replace rb := rb.ext g
 replace rd0 := rd0.ext g
 replace m7 := Ext.blk g m7
 replace m13 := Ext.blk g m13
 replace m21 := Ext.blk g m21
 replace m37 := Ext.blk g m37
 replace m53 := Ext.blk g m53
 replace m69 := Ext.blk g m69
 replace m98 := Ext.blk g m98
 replace m104 := Ext.blk g m104
 replace sep := sep.up g.size
 clear g
 clear m98 lt99 zs100 zs101
 clear m104 lt105 zs106 zs107
 refine sT [(8,.slice ad108 1 cap109)] fun a hF => ?_
 refine qS hF ?_
 refine tR 1 m13 ?_
 refine tR 3 m21 ?_
 refine tR 4 m21 ?_
 refine tN 5 (.slice (some ⟨h110.size,0,none⟩) 5 5) #[.int .i64 12,.string ByteArray.empty,.slice none 0 0,.int .i64 0,.slice none 0 0,.int .i64 1,.string (ByteArray.mk #[97]),.slice (some ⟨h4.size,0,none⟩) 1 1,.int .i64 0,.slice none 0 0,.int .i64 13,.string ByteArray.empty,.slice none 0 0,.int .i64 0,.slice none 0 0,.int .i64 2,.string (ByteArray.mk #[97]),.slice none 0 0,.int .i64 0,.slice none 0 0,.int .i64 2,.string (ByteArray.mk #[97]),.slice none 0 0,.int .i64 0,.slice none 0 0] 35 fun h111 g112 m113 => ?_
 have lt114 := blk_lt m113
 have zs115 := e0.size
 have zs116 := sz1
 replace sep := sep.nw e0.size m113
 replace sz1 := Nat.le_trans sz1 g112.size
 refine tN 9 (.slice (some ⟨h111.size,0,none⟩) 1 1) #[.int .u8 97] 5 fun h117 g118 m119 => ?_
 have lt120 := blk_lt m119
 replace e0 := e0.ext g112
 have zs121 := e0.size
 have zs122 := sz1
 replace sep := sep.nw e0.size m119
 replace sz1 := Nat.le_trans sz1 g118.size
 refine tN 12 (.slice (some ⟨h117.size,0,none⟩) 5 5) ((arow [ar0,aCode 2,ar0,aByte 97 h111.size,aCode 211]).toArray) 47 fun h123 g124 m125 => ?_
 have lt126 := blk_lt m125
 replace e0 := e0.ext g118
 have zs127 := e0.size
 have zs128 := sz1
 replace sep := sep.nw e0.size m125
 replace sz1 := Nat.le_trans sz1 g124.size
 replace kt := ((kt.ext g112).ext g118).ext g124
 replace m7 := Ext.blk g124 (Ext.blk g118 (Ext.blk g112 m7))
 replace m113 := Ext.blk g124 (Ext.blk g118 m113)
 replace m119 := Ext.blk g124 m119
 refine tG 13 (judge_is _ [oKind 12,oPut h4.size,oKind 13,oGet,oGet] [ar0,aCode 2,ar0,aByte 97 h111.size,aCode 211] 5 _ _ _ _ JF4 rF (Row.blk (n := 5) (sz := 5) (l := oprow [oKind 12,oPut h4.size,oKind 13,oGet,oGet]) m113 rfl) rfl (Row.blk (n := 5) (sz := 75) (l := arow [ar0,aCode 2,ar0,aByte 97 h111.size,aCode 211]) m125 rfl) rfl kt (by decide) rfl (seeF m7 m119) [(4,1)] ftsF) ?_
 rintro _ h131 ⟨ad129,cap130,rfl,rd2,g⟩
 replace rb := ((rb.ext g112).ext g118).ext g124
 replace rd0 := ((rd0.ext g112).ext g118).ext g124
 replace rd1 := ((rd1.ext g112).ext g118).ext g124
 replace m13 := Ext.blk g124 (Ext.blk g118 (Ext.blk g112 m13))
 replace m21 := Ext.blk g124 (Ext.blk g118 (Ext.blk g112 m21))
 replace m37 := Ext.blk g124 (Ext.blk g118 (Ext.blk g112 m37))
 replace m53 := Ext.blk g124 (Ext.blk g118 (Ext.blk g112 m53))
 replace m69 := Ext.blk g124 (Ext.blk g118 (Ext.blk g112 m69))
 replace e0 := e0.ext g124
 replace e0 := e0.ext g
 replace kt := kt.ext g
 replace sz1 := Nat.le_trans sz1 g.size
 replace rb := rb.ext g
 replace rd0 := rd0.ext g
 replace rd1 := rd1.ext g
 replace m7 := Ext.blk g m7
 replace m13 := Ext.blk g m13
 replace m21 := Ext.blk g m21
 replace m37 := Ext.blk g m37
 replace m53 := Ext.blk g m53
 replace m69 := Ext.blk g m69
 replace m113 := Ext.blk g m113
 replace m119 := Ext.blk g m119
 replace m125 := Ext.blk g m125
 replace sep := sep.up g.size
 clear g
 clear m113 lt114 zs115 zs116
 clear m119 lt120 zs121 zs122
 clear m125 lt126 zs127 zs128
 refine sT [(9,.slice ad129 1 cap130)] fun a hF => ?_
 refine qS hF ?_
 refine tR 1 m13 ?_
 refine tR 3 m21 ?_
 refine tN 4 (.slice (some ⟨h131.size,0,none⟩) 4 4) #[.int .i64 12,.string ByteArray.empty,.slice none 0 0,.int .i64 0,.slice none 0 0,.int .i64 1,.string (ByteArray.mk #[97]),.slice (some ⟨h4.size,0,none⟩) 1 1,.int .i64 0,.slice none 0 0,.int .i64 13,.string ByteArray.empty,.slice none 0 0,.int .i64 0,.slice none 0 0,.int .i64 2,.string (ByteArray.mk #[97]),.slice none 0 0,.int .i64 0,.slice none 0 0] 35 fun h132 g133 m134 => ?_
 have lt135 := blk_lt m134
 have zs136 := e0.size
 have zs137 := sz1
 replace sep := sep.nw e0.size m134
 replace sz1 := Nat.le_trans sz1 g133.size
 refine tN 9 (.slice (some ⟨h132.size,0,none⟩) 4 4) ((arow [ar0,aCode 2,ar0,aCode 211]).toArray) 47 fun h138 g139 m140 => ?_
 have lt141 := blk_lt m140
 replace e0 := e0.ext g133
 have zs142 := e0.size
 have zs143 := sz1
 replace sep := sep.nw e0.size m140
 replace sz1 := Nat.le_trans sz1 g139.size
 replace kt := (kt.ext g133).ext g139
 replace m7 := Ext.blk g139 (Ext.blk g133 m7)
 replace m134 := Ext.blk g139 m134
 refine tG 10 (judge_is _ [oKind 12,oPut h4.size,oKind 13,oGet] [ar0,aCode 2,ar0,aCode 211] 4 _ _ _ _ JG rG (Row.blk (n := 4) (sz := 5) (l := oprow [oKind 12,oPut h4.size,oKind 13,oGet]) m134 rfl) rfl (Row.blk (n := 4) (sz := 75) (l := arow [ar0,aCode 2,ar0,aCode 211]) m140 rfl) rfl kt (by decide) rfl (seeG m7) [] ftsG) ?_
 rintro _ h146 ⟨ad144,cap145,rfl,rd3,g⟩
 replace rb := (rb.ext g133).ext g139
 replace rd0 := (rd0.ext g133).ext g139
 replace rd1 := (rd1.ext g133).ext g139
 replace rd2 := (rd2.ext g133).ext g139
 replace m13 := Ext.blk g139 (Ext.blk g133 m13)
 replace m21 := Ext.blk g139 (Ext.blk g133 m21)
 replace m37 := Ext.blk g139 (Ext.blk g133 m37)
 replace m53 := Ext.blk g139 (Ext.blk g133 m53)
 replace m69 := Ext.blk g139 (Ext.blk g133 m69)
 replace e0 := e0.ext g139
 replace e0 := e0.ext g
 replace kt := kt.ext g
 replace sz1 := Nat.le_trans sz1 g.size
 replace rb := rb.ext g
 replace rd0 := rd0.ext g
 replace rd1 := rd1.ext g
 replace rd2 := rd2.ext g
 replace m7 := Ext.blk g m7
 replace m13 := Ext.blk g m13
 replace m21 := Ext.blk g m21
 replace m37 := Ext.blk g m37
 replace m53 := Ext.blk g m53
 replace m69 := Ext.blk g m69
 replace m134 := Ext.blk g m134
 replace m140 := Ext.blk g m140
 replace sep := sep.up g.size
 clear g
 clear m134 lt135 zs136 zs137
 clear m140 lt141 zs142 zs143
 refine sT [(10,.slice ad144 0 cap145)] fun a hF => ?_
 refine qS hF ?_
 refine tC 1 (.int .i64 0) (Calm.load (T := 37) (p := ⟨h34.size,0,none⟩) (by kernel_rfl) (Loads.one (k := 1) (by kernel_rfl) ((hcell_blk m37).trans (rfl)))) ?_
 refine tC 5 (.slice qa43 1 qc44) (Calm.load (T := 32) (p := ⟨h50.size,1,none⟩) (by kernel_rfl) (Loads.one (k := 1) (by kernel_rfl) ((hcell_blk m53).trans (rfl)))) ?_
 refine tC 6 (.string (ByteArray.mk #[97])) (Calm.str (l := [97]) (by kernel_rfl) rb.1) ?_
 refine t1 7 (.bool true) (.bool ((ByteArray.mk #[97]).toList == (ByteArray.mk #[97]).toList)) (congrArg Value.bool (by simp)) ?_
 refine tC 11 (.int .i64 212) (Calm.load (T := 37) (p := ⟨h66.size,0,none⟩) (by kernel_rfl) (Loads.one (k := 1) (by kernel_rfl) ((hcell_blk m69).trans (rfl)))) ?_
 refine sT [(11,.bool true)] fun a hF => ?_
 refine qS hF ?_
 refine tN 4 (.slice (some ⟨h146.size,0,none⟩) 1 1) #[.int .i64 1,.int .i64 2] 52 fun h147 g148 m149 => ?_
 have lt150 := blk_lt m149
 have zs151 := e0.size
 have zs152 := sz1
 replace sep := sep.nw e0.size m149
 replace sz1 := Nat.le_trans sz1 g148.size
 replace rd0 := rd0.ext g148
 refine tC 5 (.bool true) (Does.call (f := 14) (args := #[.slice ad93 1 cap94,.slice (some ⟨h146.size,0,none⟩) 1 1]) (by kernel_rfl) (samef_one _ (1,2) _ _ _ _ rd0 (Row.blk (n := 1) (sz := 2) (l := ftrow [(1,2)]) m149 rfl))) ?_
 refine tN 10 (.slice (some ⟨h147.size,0,none⟩) 1 1) #[.int .i64 0,.int .i64 1] 52 fun h153 g154 m155 => ?_
 have lt156 := blk_lt m155
 replace e0 := e0.ext g148
 have zs157 := e0.size
 have zs158 := sz1
 replace sep := sep.nw e0.size m155
 replace sz1 := Nat.le_trans sz1 g154.size
 replace rd1 := (rd1.ext g148).ext g154
 refine tC 11 (.bool true) (Does.call (f := 14) (args := #[.slice ad108 1 cap109,.slice (some ⟨h147.size,0,none⟩) 1 1]) (by kernel_rfl) (samef_one _ (0,1) _ _ _ _ rd1 (Row.blk (n := 1) (sz := 2) (l := ftrow [(0,1)]) m155 rfl))) ?_
 refine tN 16 (.slice (some ⟨h153.size,0,none⟩) 1 1) #[.int .i64 4,.int .i64 1] 52 fun h159 g160 m161 => ?_
 have lt162 := blk_lt m161
 replace e0 := e0.ext g154
 have zs163 := e0.size
 have zs164 := sz1
 replace sep := sep.nw e0.size m161
 replace sz1 := Nat.le_trans sz1 g160.size
 replace rd2 := ((rd2.ext g148).ext g154).ext g160
 refine tC 17 (.bool true) (Does.call (f := 14) (args := #[.slice ad129 1 cap130,.slice (some ⟨h153.size,0,none⟩) 1 1]) (by kernel_rfl) (samef_one _ (4,1) _ _ _ _ rd2 (Row.blk (n := 1) (sz := 2) (l := ftrow [(4,1)]) m161 rfl))) ?_
 refine sT [(0,.bool true)] fun a hF => ?_
 refine cR ?_
 refine rT 0 (.bool true) hF ?_
 replace e0 := e0.ext g160
 exact ⟨rfl,e0⟩
end Go.Proofs.YtegkejcglfgpmaaGreatDoor
end
section
namespace Go.Lane
open Go Go.Sha
section
variable {P : Program} {ops : Array Oper} {base : Nat → Value} {vals : Vals} {i : Nat} {h : Heap}
def cbF (P : Program) (e : Operand → Value) (o : Oper) : Option (TypeId × ByteArray) :=
  match o.op with
  | .convert s d x => match e x, P.underlying s, P.underlying d with
    | .string b, some .string, some (.slice el) => match P.underlying el with
      | some (.int .u8) => some (el, b)
      | _ => none
    | _, _, _ => none
  | _ => none
def cbOp (P : Program) (ops : Array Oper) (base : Nat → Value) (vals : Vals) (i : Nat) := (opE ops base vals i).bind (cbF P (env ops base vals i))
theorem Does.bytesOf {el : TypeId} {s : ByteArray} (hx : cbOp P ops base vals i = some (el, s)) :
    Does P ops base vals i h fun v' h' => ∃ cap, v' = .slice (some ⟨h.size, 0, none⟩) s.size cap ∧ Row h' (.slice (some ⟨h.size, 0, none⟩) s.size cap) s.size 1 (s.data.toList.map bv) ∧ Ext h h' := by
  refine does_split hx fun o ho w hw => ?_
  subst hw
  unfold cbF at ho
  cases hop : o.op with
  | convert a d x =>
    simp only [hop] at ho
    split at ho <;> first | (cases ho; done) | skip
    rename_i b el' h1 h2 h3
    cases h4 : P.underlying el' with
    | none => simp [h4] at ho
    | some de =>
      cases de <;> simp only [h4] at ho <;> first | (cases ho; done) | skip
      rename_i k
      cases k <;> simp only [Option.some.injEq, Prod.mk.injEq] at ho <;> first | (cases ho; done) | skip
      obtain ⟨rfl, rfl⟩ := ho
      have hrun : (execOp (env ops base vals i) o).run P w = .ok (.value (.slice (some ⟨w.heap.size, 0, none⟩) b.size (grownCap w b.size 0 el'))) (Lib.bytesWorld w el' b) := by
        unfold execOp
        simp [hop, h1, Lib.run_convert_string_bytes w a d el' b h2 h3 h4]
      rw [hrun]
      refine ⟨⟨rfl, rfl, rfl⟩, _, rfl, ⟨by rw [List.length_map, Nat.mul_one]; rfl, .inr ⟨_, _, rfl, grownCap_ge _ _ _ _, fun j u hu => ?_⟩⟩, ⟨by rw [Lib.bytesWorld_size]; omega, fun k hk _ => Lib.bytesWorld_at_old w el' b k hk⟩⟩
      rw [List.getElem?_map] at hu
      cases hj : b.data.toList[j]? with
      | none => rw [hj] at hu; cases hu
      | some c =>
        rw [hj] at hu
        simp only [Option.map_some, Option.some.injEq] at hu
        have hlt : j < b.size := (List.getElem?_eq_some_iff.1 hj).1
        rw [← hcell_eq (w := Lib.bytesWorld w el' b) rfl, add_lit, Nat.zero_add]
        rw [Lib.bytesWorld_cell w el' b j hlt, ← hu, List.getD_eq_getElem?_getD, hj]
        rfl
  | _ => simp [hop] at ho
end
theorem alwO {n : Nat} {o x : Option Nat} (h : x = o ∨ ∃ g, x = some g ∧ n ≤ g) : ∀ i, x = some i → o = some i ∨ n ≤ i := fun i e => by
  rcases h with h | ⟨g, h, k⟩
  · exact .inl (h ▸ e)
  · rw [h] at e; cases e; exact .inr k
end Go.Lane
end
section
namespace Go.Proofs.YtegkejcglfgpmaaGreatDoor
open Go Go.Lane Go.Sha
noncomputable def b27 : Code := Tryz.f27.body.getD .skip
theorem rname_sat (h : Heap) (s : ByteArray) (hsz : s.size ≤ 9223372036854775807) : Sat Tryz.prog 27 #[.string s] h fun v h' => v = .bool (nameOk s) ∧ h' = h := by
 refine sat_in Tryz.func27 45 fun a hF => ?_
 refine qP [] hF fun a hF => ?_
 refine cS ?_
 refine cS ?_
 rcases (by omega : s.size < 1 ∨ 16 < s.size ∨ (1 ≤ s.size ∧ s.size ≤ 16)) with hq | hq | hq
 ·skip
  have hno : nameOk s = false := by unfold nameOk; rw [show (decide (0 < s.size) && decide (s.size ≤ 16)) = false by simp <;> omega,Bool.and_false]
  refine rS hF ?_
  refine tT 2 (((s.size : Nat) : Int) < (1 : Int)) ?_
  refine sE [(12,.bool true)] fun a hF => ?_
  refine tK ?_
  refine cT 12 hF ?_
  refine qP [(2,.bool false)] hF fun a hF => ?_
  refine cR (yT ?_)
  refine rT 2 (.bool false) hF ?_
  exact ⟨congrArg Value.bool hno.symm,rfl⟩
 ·skip
  have hno : nameOk s = false := by unfold nameOk; rw [show (decide (0 < s.size) && decide (s.size ≤ 16)) = false by simp <;> omega,Bool.and_false]
  refine rS hF ?_
  refine tX 2 (((s.size : Nat) : Int) < (1 : Int)) ?_
  refine tT 6 ((16 : Int) < ((s.size : Nat) : Int)) ?_
  refine sE [(12,.bool true)] fun a hF => ?_
  refine tK ?_
  refine cT 12 hF ?_
  refine qP [(2,.bool false)] hF fun a hF => ?_
  refine cR (yT ?_)
  refine rT 2 (.bool false) hF ?_
  exact ⟨congrArg Value.bool hno.symm,rfl⟩
 ·skip
  refine rS hF ?_
  refine tX 2 (((s.size : Nat) : Int) < (1 : Int)) ?_
  refine tX 6 ((16 : Int) < ((s.size : Nat) : Int)) ?_
  refine sE [(12,.bool false)] fun a hF => ?_
  refine tK ?_
  refine cF 12 hF ?_
  refine cN ?_
  refine tK ?_
  refine cS ?_
  refine qP [(3,.int .i64 0)] hF fun a hF => ?_
  refine cB 0 ?_
  refine cL (fun m a h' => ∃ i : Nat,m = s.size - i ∧ (h' = h) ∧ (i ≤ s.size) ∧ ((s.data.toList.take i).all okc = true) ∧ (Fr a 45 [(0,.string s),(3,.int .i64 ((i : Nat) : Int))])) (s.size - 0) ⟨0,rfl,rfl,(by omega),rfl,hF.to⟩ ?_
  clear hF a
  rintro m a h1 ⟨i,rfl,hh,hi,hall,hF⟩
  refine cS ?_
  refine qP [(16,.bool (decide (((i : Nat) : Int) < ((s.size : Nat) : Int))))] hF fun a hF => ?_
  refine cJ 16 hF (fun hc2 => ?_) fun hc2 => ?_
  ·skip
   have hia : i < s.size := by omega
   obtain ⟨c,hc⟩ := chr_at hia
   have hck : okc c = decide (97 ≤ c.toNat ∧ c.toNat ≤ 122 ∨ 48 ≤ c.toNat ∧ c.toNat ≤ 57 ∨ c.toNat = 45 ∨ c.toNat = 46) := okc_eq c
   refine cN ?_
   refine tK ?_
   refine cS ?_
   refine cB 1 ?_
   refine qS hF ?_
   refine tC 2 (.int .u8 (c.toNat : Int)) ((fun h => Calm.strIdx (by kernel_rfl) hc h) _) ?_
   refine sT [(4,.int .u8 (c.toNat : Int))] fun a hF => ?_
   refine cS ?_
   rcases (by omega : (97 ≤ c.toNat ∧ c.toNat ≤ 122) ∨ (48 ≤ c.toNat ∧ c.toNat ≤ 57) ∨ c.toNat = 45 ∨ c.toNat = 46 ∨ (122 < c.toNat) ∨ (57 < c.toNat ∧ c.toNat < 97) ∨ (c.toNat < 48 ∧ c.toNat ≠ 45 ∧ c.toNat ≠ 46)) with hq | hq | hq | hq | hq | hq | hq
   ·skip
    have hok : okc c = true := by rw [hck]; simp <;> omega
    have hall2 := all_next hall hc hok
    refine rS hF ?_
    refine tT 1 ((97 : Int) ≤ (c.toNat : Int)) ?_
    refine tT 4 ((c.toNat : Int) ≤ (122 : Int)) ?_
    refine sE [(44,.bool false)] fun a hF => ?_
    refine tK ?_
    refine cF 44 hF ?_
    refine cN ?_
    refine bK ?_
    refine tK ?_
    refine rS hF ?_
    refine tA 1 i 1 ?_
    refine sE [(3,nV (i + 1))] fun a hF => ?_
    show ∃ m',m' < _ ∧ _
    refine ⟨_,?_,(i + 1),rfl,hh,(by omega),hall2,hF.to⟩
    omega
   ·skip
    have hok : okc c = true := by rw [hck]; simp <;> omega
    have hall2 := all_next hall hc hok
    refine rS hF ?_
    refine tX 1 ((97 : Int) ≤ (c.toNat : Int)) ?_
    refine tT 8 ((48 : Int) ≤ (c.toNat : Int)) ?_
    refine tT 11 ((c.toNat : Int) ≤ (57 : Int)) ?_
    refine sE [(44,.bool false)] fun a hF => ?_
    refine tK ?_
    refine cF 44 hF ?_
    refine cN ?_
    refine bK ?_
    refine tK ?_
    refine rS hF ?_
    refine tA 1 i 1 ?_
    refine sE [(3,nV (i + 1))] fun a hF => ?_
    show ∃ m',m' < _ ∧ _
    refine ⟨_,?_,(i + 1),rfl,hh,(by omega),hall2,hF.to⟩
    omega
   ·skip
    have hok : okc c = true := by rw [hck]; simp <;> omega
    have hall2 := all_next hall hc hok
    refine rS hF ?_
    refine tX 1 ((97 : Int) ≤ (c.toNat : Int)) ?_
    refine tX 8 ((48 : Int) ≤ (c.toNat : Int)) ?_
    refine t1 16 (.bool true) (.bool ((c.toNat : Int) == (45 : Int))) (congrArg Value.bool (beq_iff_eq.2 (by omega))) ?_
    refine sE [(44,.bool false)] fun a hF => ?_
    refine tK ?_
    refine cF 44 hF ?_
    refine cN ?_
    refine bK ?_
    refine tK ?_
    refine rS hF ?_
    refine tA 1 i 1 ?_
    refine sE [(3,nV (i + 1))] fun a hF => ?_
    show ∃ m',m' < _ ∧ _
    refine ⟨_,?_,(i + 1),rfl,hh,(by omega),hall2,hF.to⟩
    omega
   ·skip
    have hok : okc c = true := by rw [hck]; simp <;> omega
    have hall2 := all_next hall hc hok
    refine rS hF ?_
    refine tX 1 ((97 : Int) ≤ (c.toNat : Int)) ?_
    refine tX 8 ((48 : Int) ≤ (c.toNat : Int)) ?_
    refine t1 16 (.bool false) (.bool ((c.toNat : Int) == (45 : Int))) (congrArg Value.bool (beq_eq_false_iff_ne.2 (by omega))) ?_
    refine t1 20 (.bool true) (.bool ((c.toNat : Int) == (46 : Int))) (congrArg Value.bool (beq_iff_eq.2 (by omega))) ?_
    refine sE [(44,.bool false)] fun a hF => ?_
    refine tK ?_
    refine cF 44 hF ?_
    refine cN ?_
    refine bK ?_
    refine tK ?_
    refine rS hF ?_
    refine tA 1 i 1 ?_
    refine sE [(3,nV (i + 1))] fun a hF => ?_
    show ∃ m',m' < _ ∧ _
    refine ⟨_,?_,(i + 1),rfl,hh,(by omega),hall2,hF.to⟩
    omega
   ·skip
    have hok : okc c = false := by rw [hck]; simp <;> omega
    have hno := name_no hc hok
    refine rS hF ?_
    refine tT 1 ((97 : Int) ≤ (c.toNat : Int)) ?_
    refine tX 4 ((c.toNat : Int) ≤ (122 : Int)) ?_
    refine tT 8 ((48 : Int) ≤ (c.toNat : Int)) ?_
    refine tX 11 ((c.toNat : Int) ≤ (57 : Int)) ?_
    refine t1 16 (.bool false) (.bool ((c.toNat : Int) == (45 : Int))) (congrArg Value.bool (beq_eq_false_iff_ne.2 (by omega))) ?_
    refine t1 20 (.bool false) (.bool ((c.toNat : Int) == (46 : Int))) (congrArg Value.bool (beq_eq_false_iff_ne.2 (by omega))) ?_
    refine sE [(44,.bool true)] fun a hF => ?_
    refine tK ?_
    refine cT 44 hF ?_
    refine qP [(2,.bool false)] hF fun a hF => ?_
    refine cR (yB (yT (yT (yB (yT ?_)))))
    refine rT 2 (.bool false) hF ?_
    exact ⟨congrArg Value.bool hno.symm,hh⟩
   ·skip
    have hok : okc c = false := by rw [hck]; simp <;> omega
    have hno := name_no hc hok
    refine rS hF ?_
    refine tX 1 ((97 : Int) ≤ (c.toNat : Int)) ?_
    refine tT 8 ((48 : Int) ≤ (c.toNat : Int)) ?_
    refine tX 11 ((c.toNat : Int) ≤ (57 : Int)) ?_
    refine t1 16 (.bool false) (.bool ((c.toNat : Int) == (45 : Int))) (congrArg Value.bool (beq_eq_false_iff_ne.2 (by omega))) ?_
    refine t1 20 (.bool false) (.bool ((c.toNat : Int) == (46 : Int))) (congrArg Value.bool (beq_eq_false_iff_ne.2 (by omega))) ?_
    refine sE [(44,.bool true)] fun a hF => ?_
    refine tK ?_
    refine cT 44 hF ?_
    refine qP [(2,.bool false)] hF fun a hF => ?_
    refine cR (yB (yT (yT (yB (yT ?_)))))
    refine rT 2 (.bool false) hF ?_
    exact ⟨congrArg Value.bool hno.symm,hh⟩
   ·skip
    have hok : okc c = false := by rw [hck]; simp <;> omega
    have hno := name_no hc hok
    refine rS hF ?_
    refine tX 1 ((97 : Int) ≤ (c.toNat : Int)) ?_
    refine tX 8 ((48 : Int) ≤ (c.toNat : Int)) ?_
    refine t1 16 (.bool false) (.bool ((c.toNat : Int) == (45 : Int))) (congrArg Value.bool (beq_eq_false_iff_ne.2 (by omega))) ?_
    refine t1 20 (.bool false) (.bool ((c.toNat : Int) == (46 : Int))) (congrArg Value.bool (beq_eq_false_iff_ne.2 (by omega))) ?_
    refine sE [(44,.bool true)] fun a hF => ?_
    refine tK ?_
    refine cT 44 hF ?_
    refine qP [(2,.bool false)] hF fun a hF => ?_
    refine cR (yB (yT (yT (yB (yT ?_)))))
    refine rT 2 (.bool false) hF ?_
    exact ⟨congrArg Value.bool hno.symm,hh⟩
  ·skip
   obtain rfl : i = s.size := by omega
   rw [← size_toList,List.take_length] at hall
   refine cX 0 (xT (xT (xB ?_)))
   refine tK ?_
   refine qP [(2,.bool true)] hF fun a hF => ?_
   refine cR ?_
   refine rT 2 (.bool true) hF ?_
   exact ⟨congrArg Value.bool (by unfold nameOk; rw [hall]; simp <;> omega),hh⟩
noncomputable def b47 : Code := Tryz.f47.body.getD .skip
theorem rput11_sat (h : Heap) (l : List UInt8) (n x : Nat) (va : Option Addr) (vc : Nat) (own_b : Own h (.slice va n vc) 5 n 1 (l.map bv)) (hn : n ≤ 1099511627000) : Sat Tryz.prog 47 #[.slice va n vc,.int .i64 ((x : Nat) : Int),.int .i64 2] h fun v h' => ∃ ad cap,v = .slice ad (n + 1 + 1) cap ∧ Own h' (.slice ad (n + 1 + 1) cap) 5 (n + 1 + 1) 1 ((l ++ [UInt8.ofNat (x / 2 ^ 8),UInt8.ofNat x]).map bv) ∧ (ad.map (fun (x : Addr) => x.block) = va.map (fun (x : Addr) => x.block) ∨ ∃ g,ad.map (fun (x : Addr) => x.block) = some g ∧ h.size ≤ g) ∧ Gr (fun k => va.map (fun (x : Addr) => x.block) = some k) h h' := by
 have sep : Sep 0 h.size [va.map (·.block)] := own_b.blkSep
 have g0 := Gr.refl (fun k => va.map (fun (x : Addr) => x.block) = some k) h
 have hop_b : va.map (fun (x : Addr) => x.block) = va.map (fun (x : Addr) => x.block) ∨ ∃ g,va.map (fun (x : Addr) => x.block) = some g ∧ h.size ≤ g := .inl rfl
 refine sat_in Tryz.func47 23 fun a hF => ?_
 refine qP [] hF fun a hF => ?_
 refine cS ?_
 refine qP [(7,.int .i64 1)] hF fun a hF => ?_
 refine cB 0 ?_
 refine cU 3 ?_
 refine Cround.step ?_
 refine cS ?_
 refine qP [(11,.bool true)] hF fun a hF => ?_
 refine cT 11 hF ?_
 refine cN ?_
 refine tK ?_
 refine cS ?_
 refine cB 1 ?_
 refine rS hF ?_
 refine t1 4 (.int .i64 ((x / 2 ^ 8 : Nat) : Int)) (.int .i64 (Int.fdiv ((x : Nat) : Int) (2 ^ 8))) (congrArg (Value.int .i64) (fdivN (x) 8)) ?_
 refine t1 5 (bv (UInt8.ofNat (x / 2 ^ 8))) (.int .u8 (IntKind.u8.wrap ((x / 2 ^ 8 : Nat) : Int))) (conv64 _) ?_
 refine tN 6 (.slice (some ⟨h.size,0,none⟩) 1 1) #[bv (UInt8.ofNat (x / 2 ^ 8))] 5 fun h1 g2 m3 => ?_
 replace sep := sep.nw (Nat.zero_le _) m3
 replace own_b := own_b.ext g2
 refine tF 7 (Does.append2 (t := 32) (E := 5) (sz := 1) (by_ := 1) (n := n) (m := 1) (v := .slice va n vc) (x := .slice (some ⟨h.size,0,none⟩) 1 1) (xs := (l.map bv)) (ys := (([UInt8.ofNat (x / 2 ^ 8)]).map bv)) (by kernel_rfl) (by kernel_rfl) own_b (Row.blk (n := 1) (sz := 1) (l := [UInt8.ofNat (x / 2 ^ 8)].map bv) m3 rfl) (ones_map _) (by unfold maxLen; omega) (by omega)) ?_
 rintro _ h6 ⟨ad4,cap5,rfl,ownx,g,hb⟩
 rw [blkOf_slice] at g hb
 have hlo {n : Nat} := Nat.zero_le n
 have sepo := sep
 replace g0 := g0.ext g2
 have hop_n := grown hop_b hb g0.1
 replace g0 := g0.grew g (alwO hop_b)
 replace m3 := Grew.blk g m3 ((sep.bp 0 1))
 replace sep := sep.up g.size
 replace sep : Sep 0 h6.size [some (h.size),ad4.map (·.block)] := sepo.set g.size hlo 1 (y := ad4.map (fun (x : Addr) => x.block)) rfl (hb.imp id fun e => .inr ⟨_,e,Nat.le_refl _⟩) (fun k e => ownx.lt (by rw [blkOf_slice]; exact e))
 replace own_b : Own h6 (.slice ad4 (n + 1) cap5) 5 (n + 1) 1 ((l ++ [UInt8.ofNat (x / 2 ^ 8)]).map bv) := Own.appG ownx (by first | rfl | simp) (by first | rfl | (simp; done) | (simp; omega))
 replace hop_b := hop_n; clear hop_n
 clear ownx g hb hlo sepo
 clear m3
 replace sep := sep.sub (l' := [ad4.map (·.block)]) (.cons _ (.cons_cons _ (.slnil)))
 refine sE [(0,.slice ad4 (n + 1) cap5)] fun a hF => ?_
 refine bK ?_
 refine tK ?_
 refine rP [(7,.int .i64 0)] hF fun a hF => ?_
 refine tK (Cround.step ?_)
 refine cS ?_
 refine qP [(11,.bool true)] hF fun a hF => ?_
 refine cT 11 hF ?_
 refine cN ?_
 refine tK ?_
 refine cS ?_
 refine cB 1 ?_
 refine rS hF ?_
 refine t1 4 (.int .i64 ((x / 2 ^ 0 : Nat) : Int)) (.int .i64 (Int.fdiv ((x : Nat) : Int) (2 ^ 0))) (congrArg (Value.int .i64) (fdivN (x) 0)) ?_
 refine t1 5 (bv (UInt8.ofNat (x / 2 ^ 0))) (.int .u8 (IntKind.u8.wrap ((x / 2 ^ 0 : Nat) : Int))) (conv64 _) ?_
 refine tN 6 (.slice (some ⟨h6.size,0,none⟩) 1 1) #[bv (UInt8.ofNat (x / 2 ^ 0))] 5 fun h7 g8 m9 => ?_
 replace sep := sep.nw (Nat.zero_le _) m9
 replace own_b := own_b.ext g8
 refine tF 7 (Does.append2 (t := 32) (E := 5) (sz := 1) (by_ := 1) (n := n + 1) (m := 1) (v := .slice ad4 (n + 1) cap5) (x := .slice (some ⟨h6.size,0,none⟩) 1 1) (xs := ((l ++ [UInt8.ofNat (x / 2 ^ 8)]).map bv)) (ys := (([UInt8.ofNat (x / 2 ^ 0)]).map bv)) (by kernel_rfl) (by kernel_rfl) own_b (Row.blk (n := 1) (sz := 1) (l := [UInt8.ofNat (x / 2 ^ 0)].map bv) m9 rfl) (ones_map _) (by unfold maxLen; omega) (by omega)) ?_
 rintro _ h12 ⟨ad10,cap11,rfl,ownx,g,hb⟩
 rw [blkOf_slice] at g hb
 have hlo {n : Nat} := Nat.zero_le n
 have sepo := sep
 replace g0 := g0.ext g8
 have hop_n := grown hop_b hb g0.1
 replace g0 := g0.grew g (alwO hop_b)
 replace m9 := Grew.blk g m9 ((sep.bp 0 1))
 replace sep := sep.up g.size
 replace sep : Sep 0 h12.size [some (h6.size),ad10.map (·.block)] := sepo.set g.size hlo 1 (y := ad10.map (fun (x : Addr) => x.block)) rfl (hb.imp id fun e => .inr ⟨_,e,Nat.le_refl _⟩) (fun k e => ownx.lt (by rw [blkOf_slice]; exact e))
 replace own_b : Own h12 (.slice ad10 ((n + 1) + 1) cap11) 5 ((n + 1) + 1) 1 (((l ++ [UInt8.ofNat (x / 2 ^ 8)]) ++ [UInt8.ofNat (x / 2 ^ 0)]).map bv) := Own.appG ownx (by first | rfl | simp) (by first | rfl | (simp; done) | (simp; omega))
 replace hop_b := hop_n; clear hop_n
 clear ownx g hb hlo sepo
 clear m9
 replace sep := sep.sub (l' := [ad10.map (·.block)]) (.cons _ (.cons_cons _ (.slnil)))
 refine sE [(0,.slice ad10 ((n + 1) + 1) cap11)] fun a hF => ?_
 refine bK ?_
 refine tK ?_
 refine rP [(7,.int .i64 (-1))] hF fun a hF => ?_
 refine tK (Cround.step ?_)
 refine cS ?_
 refine qP [(11,.bool false)] hF fun a hF => ?_
 refine cF 11 hF ?_
 refine cX 0 (xT (xT (xB ?_)))
 refine tK ?_
 refine qP [(6,.slice ad10 ((n + 1) + 1) cap11)] hF fun a hF => ?_
 refine cR ?_
 refine rT 6 (.slice ad10 ((n + 1) + 1) cap11) hF ?_
 exact ⟨_,_,rfl,by simpa only [Nat.pow_zero,Nat.div_one,List.append_assoc,List.singleton_append] using own_b,hop_b,g0⟩
theorem rname_yes (h : Heap) (s : ByteArray) (hs : nameOk s = true) : Sat Tryz.prog 27 #[.string s] h fun v h' => v = .bool true ∧ h' = h := hs ▸ rname_sat h s (by have := name_le hs; omega)
theorem rname_no (h : Heap) (s : ByteArray) (hz : s.size ≤ 9223372036854775807) (hs : nameOk s = false) : Sat Tryz.prog 27 #[.string s] h fun v h' => v = .bool false ∧ h' = h := hs ▸ rname_sat h s hz
noncomputable def b28 : Code := Tryz.f28.body.getD .skip
theorem rentry_sat (h : Heap) (s : ByteArray) (n : Nat) (l : List UInt8) (hs : nameOk s = true) (hn : n ≤ 512) (hl32 : l.length = 32) : Sat Tryz.prog 28 #[.string s,.int .i64 ((n : Nat) : Int),.agg (l.map bv).toArray] h fun v h' => ∃ ad cap,v = .tuple #[.slice ad (entB s n l).length cap,.int .i64 0] ∧ Own h' (.slice ad (entB s n l).length cap) 5 (entB s n l).length 1 ((entB s n l).map bv) ∧ (∀ k,ad.map (fun (x : Addr) => x.block) = some k → h.size ≤ k) ∧ Ext h h' := by
 have hsl := name_le hs
 have hsp := name_pos hs
 have e0 := Ext.refl h
 have sep : Sep h.size h.size [] := Sep.nil _ _
 refine sat_in Tryz.func28 33 fun a hF => ?_
 refine qS hF ?_
 refine tN 0 (pV h.size) ((l.map bv).toArray) 39 fun h1 g2 m3 => ?_
 replace sep := sep.nw e0.size m3
 refine sT [(5,pV h.size)] fun a hF => ?_
 refine cS ?_
 refine qS hF ?_
 refine tC 1 (.bool true) (Does.call (f := 27) (args := #[.string s]) (by kernel_rfl) (rname_yes _ s hs)) ?_
 refine tX 5 (((n : Nat) : Int) < (0 : Int)) ?_
 refine tX 9 ((512 : Int) < ((n : Nat) : Int)) ?_
 refine sT [(19,.bool false)] fun a hF => ?_
 refine cF 19 hF ?_
 refine cN ?_
 refine tK ?_
 refine qS hF ?_
 refine t1 2 (bv (UInt8.ofNat s.size)) (.int .u8 (IntKind.u8.wrap ((s.size : Nat) : Int))) (conv64 _) ?_
 refine tN 3 (.slice (some ⟨h1.size,0,none⟩) 1 1) #[bv (UInt8.ofNat s.size)] 5 fun h4 g5 m6 => ?_
 replace e0 := e0.ext g2
 replace sep := sep.nw e0.size m6
 have own_a : Own h4 (.slice (some ⟨h1.size,0,none⟩) 1 1) 5 1 1 (([UInt8.ofNat s.size]).map bv) := Own.blk m6 rfl (by unfold maxLen; decide)
 replace sep : Sep h.size h4.size [(some ⟨h1.size,0,none⟩ : Option Addr).map (·.block),some (h.size)] := sep
 replace e0 := e0.ext g5
 replace m3 := Ext.blk g5 m3
 clear m6
 refine tF 5 (Does.bytesOf (el := 5) (s := s) (by kernel_rfl)) ?_
 rintro _ h8 ⟨cap7,rfl,hrs,gs⟩
 replace e0 := e0.ext gs
 replace own_a := own_a.ext gs
 replace m3 := Ext.blk gs m3
 replace sep := sep.up gs.size
 clear gs
 refine tF 6 (Does.append2 (t := 32) (E := 5) (sz := 1) (by_ := 1) (n := 1) (m := s.size) (v := .slice (some ⟨h1.size,0,none⟩) 1 1) (x := .slice (some ⟨h4.size,0,none⟩) s.size cap7) (xs := (([UInt8.ofNat s.size]).map bv)) (ys := (s.data.toList.map bv)) (by kernel_rfl) (by kernel_rfl) own_a hrs (ones_map _) (by unfold maxLen; omega) (by omega)) ?_
 rintro _ h11 ⟨ad9,cap10,rfl,ownx,g,hb⟩
 rw [blkOf_slice] at g hb
 have hlo := e0.size
 have sepo := sep
 replace e0 := e0.grew g (sep.low 0 rfl)
 replace m3 := Grew.blk g m3 ((sep.bp 1 0))
 replace sep := sep.up g.size
 replace sep : Sep h.size h11.size [ad9.map (·.block),some (h.size)] := sepo.set g.size hlo 0 (y := ad9.map (fun (x : Addr) => x.block)) rfl (hb.imp id fun e => .inr ⟨_,e,Nat.le_refl _⟩) (fun k e => ownx.lt (by rw [blkOf_slice]; exact e))
 replace own_a : Own h11 (.slice ad9 (1 + s.size) cap10) 5 (1 + s.size) 1 (([UInt8.ofNat s.size] ++ s.data.toList).map bv) := Own.appG ownx (by first | rfl | simp) (by first | rfl | (simp; done) | (simp; omega))
 clear ownx g hb hlo sepo
 refine sT [(8,.slice ad9 (1 + s.size) cap10)] fun a hF => ?_
 refine qS hF ?_
 refine tG 2 (rput11_sat _ ([UInt8.ofNat s.size] ++ s.data.toList) (1 + s.size) n _ _ own_a (by omega)) ?_
 rintro _ h14 ⟨ad12,cap13,rfl,ownx,hbx,gx⟩
 have hlo := e0.size
 replace e0 := Gr.toExt e0 gx (sep.low 0 rfl)
 replace m3 := gx.blk m3 (fun e => (sep.bp 1 0) e.symm)
 replace sep : Sep h.size h14.size [ad12.map (·.block),some (h.size)] := sep.set gx.1 hlo 0 (y := ad12.map (fun (x : Addr) => x.block)) rfl (hbx.imp id .inr) (fun k e => ownx.lt (by rw [blkOf_slice]; exact e))
 clear own_a; have own_a := ownx; clear ownx hbx gx hlo
 refine sT [(8,.slice ad12 (1 + s.size + 1 + 1) cap13)] fun a hF => ?_
 refine qS hF ?_
 refine tF 2 (Does.append2 (t := 32) (E := 5) (sz := 1) (by_ := 1) (n := 1 + s.size + 1 + 1) (m := 32) (v := .slice ad12 (1 + s.size + 1 + 1) cap13) (x := .slice (some ⟨h.size,0,none⟩) 32 32) (xs := ((([UInt8.ofNat s.size] ++ s.data.toList) ++ [UInt8.ofNat (n / 2 ^ 8),UInt8.ofNat n]).map bv)) (ys := (l.map bv)) (by kernel_rfl) (by kernel_rfl) own_a (hrow hl32 m3) (ones_map _) (by unfold maxLen; omega) (by omega)) ?_
 rintro _ h17 ⟨ad15,cap16,rfl,ownx,g,hb⟩
 rw [blkOf_slice] at g hb
 have hlo := e0.size
 have sepo := sep
 replace e0 := e0.grew g (sep.low 0 rfl)
 replace m3 := Grew.blk g m3 ((sep.bp 1 0))
 replace sep := sep.up g.size
 replace sep : Sep h.size h17.size [ad15.map (·.block),some (h.size)] := sepo.set g.size hlo 0 (y := ad15.map (fun (x : Addr) => x.block)) rfl (hb.imp id fun e => .inr ⟨_,e,Nat.le_refl _⟩) (fun k e => ownx.lt (by rw [blkOf_slice]; exact e))
 replace own_a : Own h17 (.slice ad15 (1 + s.size + 1 + 1 + 32) cap16) 5 (1 + s.size + 1 + 1 + 32) 1 (((([UInt8.ofNat s.size] ++ s.data.toList) ++ [UInt8.ofNat (n / 2 ^ 8),UInt8.ofNat n]) ++ l).map bv) := Own.appG ownx (by first | rfl | simp) (by first | rfl | (simp; done) | (simp; omega))
 clear ownx g hb hlo sepo
 refine sT [(6,.slice ad15 ((1 + s.size + 1 + 1) + 32) cap16),(7,.int .i64 0)] fun a hF => ?_
 have hcan : ((1 + s.size + 1 + 1) + 32 : Nat) = 1 + s.size + 1 + 1 + 32 := by first | (simp; done) | (simp; omega)
 rw [hcan] at hF; clear hcan
 refine cR ?_
 refine ret_ok [.tmp 6,.tmp 7] [.slice ad15 (1 + s.size + 1 + 1 + 32) cap16,.int .i64 0] (.tuple #[.slice ad15 (1 + s.size + 1 + 1 + 32) cap16,.int .i64 0]) rfl hF ⟨rfl,rfl,trivial⟩ rfl ?_
 have hel := entB_len s n hl32
 rw [show 1 + s.size + 1 + 1 + 32 = (entB s n l).length by omega] at own_a
 exact ⟨_,_,by rw [show 1 + s.size + 1 + 1 + 32 = (entB s n l).length by omega],own_a,sep.low 0 rfl,e0⟩
end Go.Proofs.YtegkejcglfgpmaaGreatDoor
end
section
namespace Go.Proofs.YtegkejcglfgpmaaGreatDoor
open Go Go.Lane Go.Sha
noncomputable def b50 : Code := Tryz.f50.body.getD .skip
theorem vsplit_sat (h : Heap) (n : Nat) (hn : 2 ≤ n) (hn2 : n ≤ 9223372036854775807) : Sat Tryz.prog 50 #[.int .i64 ((n : Nat) : Int)] h fun v h' => v = .int .i64 ((half n : Nat) : Int) ∧ h' = h := by
 have hbl := bitlen_lt (x := n - 1) (k := 63) (by omega)
 have hbl2 : 1 ≤ bitlen (n - 1) := by unfold bitlen; rw [if_neg (by omega)]; omega
 refine sat_in Tryz.func50 9 fun a hF => ?_
 refine qP [] hF fun a hF => ?_
 refine qS hF ?_
 refine tU 1 n 1 ?_
 refine t1 2 (.int .u64 ((n - 1 : Nat) : Int)) (.int .u64 (IntKind.u64.wrap ((n - 1 : Nat) : Int))) (congrArg (Value.int .u64) (u64n (by omega))) ?_
 refine tC 3 (nV (bitlen (n - 1))) (Does.call (f := 90) (args := #[.int .u64 ((n - 1 : Nat) : Int)]) (by kernel_rfl) (len_sat _ (n - 1) (by omega))) ?_
 refine tU 4 (bitlen (n - 1)) 1 ?_
 refine tC 5 (nV (2 ^ ((bitlen (n - 1)) - 1))) ((Calm.shl1 ((bitlen (n - 1)) - 1) (by kernel_rfl) (by omega)) _) ?_
 refine sT [(2,nV (2 ^ ((bitlen (n - 1)) - 1)))] fun a hF => ?_
 refine cR ?_
 refine rT 2 (nV (2 ^ ((bitlen (n - 1)) - 1))) hF ?_
 exact ⟨congrArg (fun z : Nat => Value.int .i64 (z : Int)) (half_shift hn),rfl⟩
noncomputable def b49 : Code := Tryz.f49.body.getD .skip
theorem pop_sat (h : Heap) (br : Nat) (r : List Hs) (va : Option Addr) (vc : Nat) (hm : h[br]? = some (.cells #[.slice va r.length vc] 45)) (hr : HR h va vc r.length r) (hz0 : r = [] ∨ va.map (fun (x : Addr) => x.block) ≠ some br ∧ ∀ k,va.map (fun (x : Addr) => x.block) = some k → k < h.size) (hn : r.length ≤ 1099511627776) : Sat Tryz.prog 49 #[.pointer (some ⟨br,0,none⟩)] h fun v h' => v = .tuple #[hv (if r.length = 0 then z32 else lastH r),.bool (decide (0 < r.length))] ∧ h'[br]? = some (.cells #[.slice va (r.length - 1) vc] 45) ∧ Grew (some br) h h' := by
 have h32 := hr.2.1
 have hb : br < h.size := blk_lt hm
 have g0 := Gr.refl (fun k => k = br) h
 refine sat_in Tryz.func49 25 fun a hF => ?_
 refine qS hF ?_
 refine tN 0 (pV h.size) ((z32.map bv).toArray) 39 fun h1 g2 m3 => ?_
 have lt4 := blk_lt m3
 have zs5 := g0.1
 replace g0 := g0.ext g2
 replace hr := hr.ext g2
 replace hm := Ext.blk g2 hm
 refine sT [(2,pV h.size)] fun a hF => ?_
 refine qS hF ?_
 refine tO 2 0 hm ?_
 refine sT [(4,.slice va r.length vc)] fun a hF => ?_
 refine cS ?_
 refine qP [(10,.bool (decide (((r.length : Nat) : Int) = (0 : Int))))] hF fun a hF => ?_
 refine cJ 10 hF (fun hc6 => ?_) fun hc6 => ?_
 ·skip
  refine qS hF ?_
  refine tF 1 (Does.store (b := h.size) (off := 0) (vs := ([0,0,0,0,0,0,0,0,0,0,0,0,0,0,0,0,0,0,0,0,0,0,0,0,0,0,0,0,0,0,0,0]).map bv) (l := z32.map bv) (storeOp_of (by kernel_rfl) (hlm rfl)) m3 (hfit rfl rfl) (ones_map _)) ?_
  rintro _ h7 ⟨rfl,hh⟩
  have g8 : Grew (some (h.size)) h1 h7 := hput_gr hh
  replace m3 : h7[h.size]? = some (.cells (([0,0,0,0,0,0,0,0,0,0,0,0,0,0,0,0,0,0,0,0,0,0,0,0,0,0,0,0,0,0,0,0]).map bv).toArray 39) := hput_at (off := 0) (vs := ([0,0,0,0,0,0,0,0,0,0,0,0,0,0,0,0,0,0,0,0,0,0,0,0,0,0,0,0,0,0,0,0]).map bv) (l := (z32.map bv)) hh (hsplice rfl rfl) m3
  clear hh
  replace g0 := g0.grew g8 (fun i e => .inr (by cases e; omega))
  replace hr := hr.keepE g8 (hz0.imp id fun z e => by rw [e] at z; have := z.2 _ rfl; omega)
  replace hm := Grew.blk g8 hm (by simp; omega)
  refine sT [(3,.bool false)] fun a hF => ?_
  refine cR (yT ?_)
  refine ret_ok [.cell 2 39,.tmp 3] [.agg (([0,0,0,0,0,0,0,0,0,0,0,0,0,0,0,0,0,0,0,0,0,0,0,0,0,0,0,0,0,0,0,0]).map bv).toArray,.bool false] (.tuple #[.agg (([0,0,0,0,0,0,0,0,0,0,0,0,0,0,0,0,0,0,0,0,0,0,0,0,0,0,0,0,0,0,0,0]).map bv).toArray,.bool false]) rfl hF ⟨⟨_,rfl,Loads.hash (by kernel_rfl) rfl m3⟩,rfl,trivial⟩ rfl ?_
  exact ⟨by rw [if_pos (by omega),decide_eq_false (by omega)]; rfl,by rw [show r.length - 1 = r.length by omega]; exact hm,g0.toGrew⟩
 ·skip
  obtain ⟨aa,rfl,hcap⟩ := hr.someA (by omega)
  refine cN ?_
  refine tK ?_
  refine qS hF ?_
  refine tU 4 r.length 1 ?_
  refine tC 5 (.slice (some aa) (r.length - 1) vc) ((fun h => Calm.sliceO (a := (some aa)) (len := r.length) (cap := vc) (sz := 32) (x := (some aa)) 0 (r.length - 1) vc (r.length - 1) vc (by kernel_rfl) (.inl ⟨rfl,rfl⟩) (.inr rfl) (.inl ⟨rfl,rfl⟩) (by omega) (by omega) (opt_add0 _ 32) (by first | rfl | omega) (by first | rfl | omega) h) _) ?_
  refine tV0 7 [.slice (some aa) (r.length - 1) vc] hm fun h9 g10 zq => ?_
  replace g0 := g0.grew g10 (fun i e => .inl (by cases e; rfl))
  replace hr := hr.keepE g10 (hz0.imp id (·.1))
  replace m3 := Grew.blk g10 m3 (by simp; omega)
  replace hm := zq
  refine sT [] fun a hF => ?_
  refine qS hF ?_
  refine tU 3 r.length 1 ?_
  refine tI 4 aa r.length 32 (r.length - 1) ((r.length - 1) * 32) ?_
  refine tC 5 (.agg ((r.getD (r.length - 1) []).map bv).toArray) (Calm.load (T := 39) (p := (Addr.add aa ((r.length - 1) * 32))) (by kernel_rfl) (HR.loads (k := (r.length - 1)) (q := (r.length - 1) * 32) (hr) (by kernel_rfl) (by omega) (by omega))) ?_
  refine tF 6 (Does.store (b := h.size) (off := 0) (vs := (r.getD (r.length - 1) []).map bv) (l := z32.map bv) (storeOp_of (by kernel_rfl) (hlm (hr.2.1.get (k := (r.length - 1)) (by rw [hr.2.2]; omega)))) m3 (hfit rfl (hr.2.1.get (k := (r.length - 1)) (by rw [hr.2.2]; omega))) (ones_map _)) ?_
  rintro _ h11 ⟨rfl,hh⟩
  have g12 : Grew (some (h.size)) h9 h11 := hput_gr hh
  replace m3 : h11[h.size]? = some (.cells ((r.getD (r.length - 1) []).map bv).toArray 39) := hput_at (off := 0) (vs := (r.getD (r.length - 1) []).map bv) (l := (z32.map bv)) hh (hsplice rfl (hr.2.1.get (k := (r.length - 1)) (by rw [hr.2.2]; omega))) m3
  clear hh
  replace g0 := g0.grew g12 (fun i e => .inr (by cases e; omega))
  replace hr := hr.keepE g12 (hz0.imp id fun z e => by rw [e] at z; have := z.2 _ rfl; omega)
  replace hm := Grew.blk g12 hm (by simp; omega)
  refine sT [(3,.bool true)] fun a hF => ?_
  refine cR ?_
  refine ret_ok [.cell 2 39,.tmp 3] [.agg ((r.getD (r.length - 1) []).map bv).toArray,.bool true] (.tuple #[.agg ((r.getD (r.length - 1) []).map bv).toArray,.bool true]) rfl hF ⟨⟨_,rfl,Loads.hash (by kernel_rfl) (hr.2.1.get (k := (r.length - 1)) (by rw [hr.2.2]; omega)) m3⟩,rfl,trivial⟩ rfl ?_
  exact ⟨by rw [if_neg (by omega),decide_eq_true (by omega)]; rfl,hm,g0.toGrew⟩
theorem pop_no (h : Heap) (br : Nat) (r : List Hs) (va : Option Addr) (vc : Nat) (hm : h[br]? = some (.cells #[.slice va r.length vc] 45)) (hr : HR h va vc r.length r) (hz0 : r = [] ∨ va.map (fun (x : Addr) => x.block) ≠ some br ∧ ∀ k,va.map (fun (x : Addr) => x.block) = some k → k < h.size) (hn : r.length ≤ 1099511627776) (h0 : r.length = 0) :
  Sat Tryz.prog 49 #[.pointer (some ⟨br,0,none⟩)] h fun v h' => v = .tuple #[.agg (z32.map bv).toArray,.bool false] ∧ h'[br]? = some (.cells #[.slice va (r.length - 1) vc] 45) ∧ Grew (some br) h h' := by
 have := pop_sat h br r va vc hm hr hz0 hn
 rw [if_pos h0,decide_eq_false (by omega)] at this
 exact this
theorem pop_ok (h : Heap) (br : Nat) (r : List Hs) (va : Option Addr) (vc : Nat) (hm : h[br]? = some (.cells #[.slice va r.length vc] 45)) (hr : HR h va vc r.length r) (hz0 : r = [] ∨ va.map (fun (x : Addr) => x.block) ≠ some br ∧ ∀ k,va.map (fun (x : Addr) => x.block) = some k → k < h.size) (hn : r.length ≤ 1099511627776) (h0 : 0 < r.length) :
  Sat Tryz.prog 49 #[.pointer (some ⟨br,0,none⟩)] h fun v h' => v = .tuple #[.agg ((lastH r).map bv).toArray,.bool true] ∧ h'[br]? = some (.cells #[.slice va (r.length - 1) vc] 45) ∧ Grew (some br) h h' := by
 have := pop_sat h br r va vc hm hr hz0 hn
 rw [if_neg (by omega),decide_eq_true h0] at this
 exact this
end Go.Proofs.YtegkejcglfgpmaaGreatDoor
end
section
namespace Go.Proofs.YtegkejcglfgpmaaGreatDoor
open Go Go.Lane Go.Sha
noncomputable def b48 : Code := Tryz.f48.body.getD .skip
set_option maxHeartbeats 1000000 in
theorem upc_step (hz : Heap) (bl br bu : Nat) (x : Hs) (va : Option Addr) (vc : Nat) (hx : x.length = 32) (h0s : 0 < hz.size) (k : Nat) (ih : ∀ (h : Heap) (m n : Nat) (r : List Hs),r.length < k → h[bl]? = some (.cells (x.map bv).toArray 39) → h[br]? = some (.cells #[.slice va r.length vc] 45) → h[bu]? = some (.cells #[.func (.func 48) #[] #[.pointer (some ⟨bl,0,none⟩),.pointer (some ⟨br,0,none⟩),.pointer (some ⟨bu,0,none⟩)]] 106) → HR hz va vc r.length r → (r = [] ∨ ∀ k,va.map (fun (x : Addr) => x.block) = some k → k < hz.size) → Sep hz.size h.size [some bl,some br,some bu] → Ext hz h → Ktab h → m < n → n ≤ 9223372036854775807 → Sat Tryz.prog 48 #[.int .i64 ((m : Nat) : Int),.int .i64 ((n : Nat) : Int),.pointer (some ⟨bl,0,none⟩),.pointer (some ⟨br,0,none⟩),.pointer (some ⟨bu,0,none⟩)] h (fun v h' => v = .tuple #[hv (upV x m n r).1,.bool (upV x m n r).2] ∧ h'[bl]? = some (.cells (x.map bv).toArray 39) ∧ ∃ r',h'[br]? = some (.cells #[.slice va r' vc] 45) ∧ h'[bu]? = some (.cells #[.func (.func 48) #[] #[.pointer (some ⟨bl,0,none⟩),.pointer (some ⟨br,0,none⟩),.pointer (some ⟨bu,0,none⟩)]] 106) ∧ Grew (some br) h h' ∧ Ext hz h' ∧ Ktab h')) (h : Heap) (m n : Nat) (r : List Hs) (hrk : r.length = k) (hl : h[bl]? = some (.cells (x.map bv).toArray 39)) (hm : h[br]? = some (.cells #[.slice va r.length vc] 45)) (hu : h[bu]? = some (.cells #[.func (.func 48) #[] #[.pointer (some ⟨bl,0,none⟩),.pointer (some ⟨br,0,none⟩),.pointer (some ⟨bu,0,none⟩)]] 106)) (hr : HR hz va vc r.length r) (hz0 : (r = [] ∨ ∀ k,va.map (fun (x : Addr) => x.block) = some k → k < hz.size)) (sep : Sep hz.size h.size [some bl,some br,some bu]) (e0 : Ext hz h) (kt : Ktab h) (hmn : m < n) (hn : n ≤ 9223372036854775807) (hrl : r.length ≤ 1099511627776) : Sat Tryz.prog 48 #[.int .i64 ((m : Nat) : Int),.int .i64 ((n : Nat) : Int),.pointer (some ⟨bl,0,none⟩),.pointer (some ⟨br,0,none⟩),.pointer (some ⟨bu,0,none⟩)] h fun v h' => v = .tuple #[hv (upV x m n r).1,.bool (upV x m n r).2] ∧ h'[bl]? = some (.cells (x.map bv).toArray 39) ∧ ∃ r',h'[br]? = some (.cells #[.slice va r' vc] 45) ∧ h'[bu]? = some (.cells #[.func (.func 48) #[] #[.pointer (some ⟨bl,0,none⟩),.pointer (some ⟨br,0,none⟩),.pointer (some ⟨bu,0,none⟩)]] 106) ∧ Grew (some br) h h' ∧ Ext hz h' ∧ Ktab h' := by
 have g0 := Gr.refl (fun k => k = br) h
 refine sat_in Tryz.func48 60 fun a hF => ?_
 refine qS hF ?_
 refine tN 0 (pV h.size) ((z32.map bv).toArray) 39 fun h1 g2 m3 => ?_
 have lt4 := blk_lt m3
 have zs5 := e0.size
 have zs6 := g0.1
 replace sep := sep.nw e0.size m3
 refine sT [(7,pV h.size)] fun a hF => ?_
 refine cS ?_
 refine qP [(17,.bool (decide (((n : Nat) : Int) = (1 : Int))))] hF fun a hF => ?_
 refine cJ 17 hF (fun hc7 => ?_) fun hc7 => ?_
 ·skip
  refine cS ?_
  refine cD [0,0,2,6,1,31] 2 mixed hF ?_
  replace hl := Ext.blk g2 hl
  refine mL 1 1 0 (.agg (x.map bv).toArray) (Calm.load (T := 39) (p := ⟨bl,0,none⟩) (by kernel_rfl) (Loads.hash (by kernel_rfl) hx hl)) ?_
  replace hm := Ext.blk g2 hm
  refine mO 3 3 1 0 (.slice va r.length vc) hm ?_
  refine mP 15 [2,3] [nV r.length,.bool (decide (((r.length : Nat) : Int) = (0 : Int)))] ?_
  refine mFp 31 17 4 [1] (Does.store (b := h.size) (off := 0) (vs := x.map bv) (l := z32.map bv) (storeOp_of (by kernel_rfl) (hlm hx)) m3 (hfit rfl hx) (ones_map _)) ?_
  rintro _ h8 ⟨rfl,hh⟩
  have g9 : Grew (some (h.size)) h1 h8 := hput_gr hh
  replace m3 : h8[h.size]? = some (.cells (x.map bv).toArray 39) := hput_at (off := 0) (vs := x.map bv) (l := (z32.map bv)) hh (hsplice rfl hx) m3
  clear hh
  replace hm := Grew.blk g9 hm ((sep.bp 2 0))
  refine ⟨?_,?_⟩
  ·intro j hj
   simp only [List.mem_cons,List.not_mem_nil,or_false] at hj
   subst hj
   exact goodOf (Calm.load (T := 45) (p := ⟨br,0,none⟩) (by kernel_rfl) (Loads.one (k := 1) (by kernel_rfl) ((hcell_blk hm).trans rfl)))
  refine mP 63 [5] [.bool (decide (((r.length : Nat) : Int) = (0 : Int)))] ?_
  refine mE [(8,.bool (decide (((r.length : Nat) : Int) = (0 : Int))))] fun a hF => ?_
  refine tK ?_
  refine cR (yT ?_)
  refine ret_ok [.cell 7 39,.tmp 8] [.agg (x.map bv).toArray,.bool (decide (((r.length : Nat) : Int) = (0 : Int)))] (.tuple #[.agg (x.map bv).toArray,.bool (decide (((r.length : Nat) : Int) = (0 : Int)))]) rfl hF ⟨⟨_,rfl,Loads.hash (by kernel_rfl) hx m3⟩,rfl,trivial⟩ rfl ?_
  replace e0 := (e0.ext g2).grew g9 (sep.low 0 rfl)
  replace kt := (kt.ext g2).grew g9 (sep.zero 0 rfl h0s)
  replace g0 := (g0.ext g2).grew g9 (fun i e => .inr (by cases e; omega))
  replace hu := Grew.blk g9 (Ext.blk g2 hu) ((sep.bp 3 0))
  replace hl := Grew.blk g9 hl ((sep.bp 1 0))
  exact ⟨by rw [show n = 1 by omega,up_one,show (decide (((r.length : Nat) : Int) = 0)) = decide (r.length = 0) by simp] <;> rfl,hl,_,hm,hu,g0.toGrew,e0,kt⟩
 ·skip
  refine cN ?_
  refine tK ?_
  refine cS ?_
  rcases Nat.eq_zero_or_pos r.length with hr0 | hr0
  ·skip
   refine rS hF ?_
   replace e0 := e0.ext g2
   replace hm := Ext.blk g2 hm
   refine tG 0 (pop_no _ br r va vc hm (hr.ext e0) (hz0.imp id fun z => ⟨by intro e; have := z _ e; have := sep.low 2 rfl _ rfl; omega,by intro k e; have := z _ e; have := e0.size; omega⟩) (by omega) (by omega)) ?_
   rintro _ h10 ⟨rfl,hm2,g⟩
   replace kt := kt.ext g2
   replace g0 := g0.ext g2
   replace hl := Ext.blk g2 hl
   replace hu := Ext.blk g2 hu
   replace e0 := e0.grew g (sep.low 2 rfl)
   replace kt := kt.grew g (sep.zero 2 rfl h0s)
   replace g0 := g0.grew g (fun i e => .inl (by cases e; rfl))
   replace hl := Grew.blk g hl ((sep.bp 1 2))
   replace hu := Grew.blk g hu ((sep.bp 3 2))
   replace m3 := Grew.blk g m3 ((sep.bp 0 2))
   replace sep := sep.up g.size
   clear hm g; have hm := hm2; clear hm2
   refine tN 4 (pV h10.size) ((z32.map bv).toArray) 39 fun h11 g12 m13 => ?_
   have lt14 := blk_lt m13
   have zs15 := e0.size
   have zs16 := g0.1
   replace sep := sep.nw e0.size m13
   refine tF 5 (Does.store (b := h10.size) (off := 0) (vs := z32.map bv) (l := z32.map bv) (storeOp_of (by kernel_rfl) (hlm rfl)) m13 (hfit rfl rfl) (ones_map _)) ?_
   rintro _ h17 ⟨rfl,hh⟩
   have g18 : Grew (some (h10.size)) h11 h17 := hput_gr hh
   replace m13 : h17[h10.size]? = some (.cells (z32.map bv).toArray 39) := hput_at (off := 0) (vs := z32.map bv) (l := (z32.map bv)) hh (hsplice rfl rfl) m13
   clear hh
   refine sE [(9,pV h10.size),(10,.bool false)] fun a hF => ?_
   refine tK ?_
   refine cS ?_
   refine qP [(27,.bool true)] hF fun a hF => ?_
   refine cT 27 hF ?_
   refine qS hF ?_
   replace hl := Grew.blk g18 (Ext.blk g12 hl) ((sep.bp 2 0))
   refine tC 0 (.agg (x.map bv).toArray) (Calm.load (T := 39) (p := ⟨bl,0,none⟩) (by kernel_rfl) (Loads.hash (by kernel_rfl) hx hl)) ?_
   replace m3 := Grew.blk g18 (Ext.blk g12 m3) ((sep.bp 1 0))
   refine tF 1 (Does.store (b := h.size) (off := 0) (vs := x.map bv) (l := z32.map bv) (storeOp_of (by kernel_rfl) (hlm hx)) m3 (hfit rfl hx) (ones_map _)) ?_
   rintro _ h19 ⟨rfl,hh⟩
   have g20 : Grew (some (h.size)) h17 h19 := hput_gr hh
   replace m3 : h19[h.size]? = some (.cells (x.map bv).toArray 39) := hput_at (off := 0) (vs := x.map bv) (l := (z32.map bv)) hh (hsplice rfl hx) m3
   clear hh
   refine sT [(8,.bool false)] fun a hF => ?_
   refine cR (yT ?_)
   refine ret_ok [.cell 7 39,.tmp 8] [.agg (x.map bv).toArray,.bool false] (.tuple #[.agg (x.map bv).toArray,.bool false]) rfl hF ⟨⟨_,rfl,Loads.hash (by kernel_rfl) hx m3⟩,rfl,trivial⟩ rfl ?_
   replace e0 := ((e0.ext g12).grew g18 (sep.low 0 rfl)).grew g20 (sep.low 1 rfl)
   replace kt := ((kt.ext g12).grew g18 (sep.zero 0 rfl h0s)).grew g20 (sep.zero 1 rfl h0s)
   replace g0 := ((g0.ext g12).grew g18 (fun i e => .inr (by cases e; omega))).grew g20 (fun i e => .inr (by cases e; omega))
   replace hm := Grew.blk g20 (Grew.blk g18 (Ext.blk g12 hm) ((sep.bp 3 0))) ((sep.bp 3 1))
   replace hu := Grew.blk g20 (Grew.blk g18 (Ext.blk g12 hu) ((sep.bp 4 0))) ((sep.bp 4 1))
   replace hl := Grew.blk g20 hl ((sep.bp 2 1))
   exact ⟨by rw [up_none (by omega) hr0] <;> rfl,hl,_,hm,hu,g0.toGrew,e0,kt⟩
  ·skip
   refine rS hF ?_
   replace e0 := e0.ext g2
   replace hm := Ext.blk g2 hm
   refine tG 0 (pop_ok _ br r va vc hm (hr.ext e0) (hz0.imp id fun z => ⟨by intro e; have := z _ e; have := sep.low 2 rfl _ rfl; omega,by intro k e; have := z _ e; have := e0.size; omega⟩) (by omega) (by omega)) ?_
   rintro _ h21 ⟨rfl,hm2,g⟩
   replace kt := kt.ext g2
   replace g0 := g0.ext g2
   replace hl := Ext.blk g2 hl
   replace hu := Ext.blk g2 hu
   replace e0 := e0.grew g (sep.low 2 rfl)
   replace kt := kt.grew g (sep.zero 2 rfl h0s)
   replace g0 := g0.grew g (fun i e => .inl (by cases e; rfl))
   replace hl := Grew.blk g hl ((sep.bp 1 2))
   replace hu := Grew.blk g hu ((sep.bp 3 2))
   replace m3 := Grew.blk g m3 ((sep.bp 0 2))
   replace sep := sep.up g.size
   clear hm g; have hm := hm2; clear hm2
   refine tN 4 (pV h21.size) ((z32.map bv).toArray) 39 fun h22 g23 m24 => ?_
   have lt25 := blk_lt m24
   have zs26 := e0.size
   have zs27 := g0.1
   replace sep := sep.nw e0.size m24
   refine tF 5 (Does.store (b := h21.size) (off := 0) (vs := (lastH r).map bv) (l := z32.map bv) (storeOp_of (by kernel_rfl) (hlm (last_len hr.2.1 (by omega)))) m24 (hfit rfl (last_len hr.2.1 (by omega))) (ones_map _)) ?_
   rintro _ h28 ⟨rfl,hh⟩
   have g29 : Grew (some (h21.size)) h22 h28 := hput_gr hh
   replace m24 : h28[h21.size]? = some (.cells ((lastH r).map bv).toArray 39) := hput_at (off := 0) (vs := (lastH r).map bv) (l := (z32.map bv)) hh (hsplice rfl (last_len hr.2.1 (by omega))) m24
   clear hh
   refine sE [(9,pV h21.size),(10,.bool true)] fun a hF => ?_
   refine tK ?_
   refine cS ?_
   refine qP [(27,.bool false)] hF fun a hF => ?_
   refine cF 27 hF ?_
   refine cN ?_
   refine tK ?_
   refine qS hF ?_
   refine tC 1 (nV (half n)) (Does.call (f := 50) (args := #[nV n]) (by kernel_rfl) (vsplit_sat _ n (by omega) (by omega))) ?_
   refine sT [(11,nV (half n))] fun a hF => ?_
   refine qP [(33,.bool (decide (((m : Nat) : Int) < ((half n : Nat) : Int))))] hF fun a hF => ?_
   refine cJ 33 hF (fun hc30 => ?_) fun hc30 => ?_
   ·skip
    refine qS hF ?_
    replace hu := Grew.blk g29 (Ext.blk g23 hu) ((sep.bp 4 0))
    refine tO 0 0 hu ?_
    have hil := initH_len r
    have hri : HR hz va vc (initH r).length (initH r) := by rw [hil]; exact hr.take (by omega)
    replace hm := Grew.blk g29 (Ext.blk g23 hm) ((sep.bp 3 0))
    rw [← hil] at hm
    have hhl := half_lt (n := n) (by omega); have hhp := half_pos n
    replace e0 := (e0.ext g23).grew g29 (sep.low 0 rfl)
    replace kt := (kt.ext g23).grew g29 (sep.zero 0 rfl h0s)
    replace hl := Grew.blk g29 (Ext.blk g23 hl) ((sep.bp 2 0))
    replace sep := sep.up g29.size
    refine tF 3 (Does.call (f := 48) (args := #[.int .i64 ((m : Nat) : Int),.int .i64 ((half n : Nat) : Int),.pointer (some ⟨bl,0,none⟩),.pointer (some ⟨br,0,none⟩),.pointer (some ⟨bu,0,none⟩)]) (by kernel_rfl) (ih _ m (half n) (initH r) (by rw [hil]; omega) hl hm hu hri (hz0.imp (fun e => by rw [e]; rfl) id) (sep.sub (l' := [some bl,some br,some bu]) (.cons _ (.cons _ (.cons_cons _ (.cons_cons _ (.cons_cons _ (.slnil))))))) e0 kt (by omega) (by omega))) ?_
    rintro _ h31 ⟨rfl,hl3,r3,hm3,hu3,g3,e3,kt3⟩
    have sepo := sep; clear hl hm hu e0 kt; have hl := hl3; have hm := hm3; have hu := hu3; have e0 := e3; have kt := kt3; clear hl3 hm3 hu3 e3 kt3
    replace m3 := Grew.blk g29 (Ext.blk g23 m3) ((sep.bp 1 0))
    replace m3 := Grew.blk g3 m3 (sep.bp 1 3)
    replace m24 := Grew.blk g3 m24 (sep.bp 0 3)
    replace g0 := (g0.ext g23).grew g29 (fun i e => .inr (by cases e; omega))
    replace g0 := g0.grew g3 (fun i e => .inl (by cases e; rfl))
    replace sep := sepo.up g3.size; clear sepo g3
    refine tN 7 (pV h31.size) ((z32.map bv).toArray) 39 fun h32 g33 m34 => ?_
    have lt35 := blk_lt m34
    have zs36 := e0.size
    have zs37 := g0.1
    replace sep := sep.nw e0.size m34
    refine tF 8 (Does.store (b := h31.size) (off := 0) (vs := ((upV x m (half n) (initH r)).1).map bv) (l := z32.map bv) (storeOp_of (by kernel_rfl) (hlm (up_len hx))) m34 (hfit rfl (up_len hx)) (ones_map _)) ?_
    rintro _ h38 ⟨rfl,hh⟩
    have g39 : Grew (some (h31.size)) h32 h38 := hput_gr hh
    replace m34 : h38[h31.size]? = some (.cells (((upV x m (half n) (initH r)).1).map bv).toArray 39) := hput_at (off := 0) (vs := ((upV x m (half n) (initH r)).1).map bv) (l := (z32.map bv)) hh (hsplice rfl (up_len hx)) m34
    clear hh
    refine sT [(12,pV h31.size),(13,.bool ((upV x m (half n) (initH r)).2))] fun a hF => ?_
    refine qS hF ?_
    refine tC 0 (.agg (((upV x m (half n) (initH r)).1).map bv).toArray) (Calm.load (T := 39) (p := ⟨h31.size,0,none⟩) (by kernel_rfl) (Loads.hash (by kernel_rfl) (up_len hx) m34)) ?_
    replace m24 := Grew.blk g39 (Ext.blk g33 m24) ((sep.bp 1 0))
    refine tC 1 (.agg ((lastH r).map bv).toArray) (Calm.load (T := 39) (p := ⟨h21.size,0,none⟩) (by kernel_rfl) (Loads.hash (by kernel_rfl) (last_len hr.2.1 (by omega)) m24)) ?_
    replace kt := (kt.ext g33).grew g39 (sep.zero 0 rfl h0s)
    refine tG 2 (node_sat _ ((upV x m (half n) (initH r)).1) (lastH r) (up_len hx) (last_len hr.2.1 (by omega)) kt) ?_
    rintro _ h41 ⟨rfl,g40⟩
    replace m3 := Ext.blk g40 (Grew.blk g39 (Ext.blk g33 m3) ((sep.bp 2 0)))
    refine tF 4 (Does.store (b := h.size) (off := 0) (vs := (nodeH ((upV x m (half n) (initH r)).1) (lastH r)).map bv) (l := z32.map bv) (storeOp_of (by kernel_rfl) (hlm (node_len _ _))) m3 (hfit rfl (node_len _ _)) (ones_map _)) ?_
    rintro _ h42 ⟨rfl,hh⟩
    have g43 : Grew (some (h.size)) h41 h42 := hput_gr hh
    replace m3 : h42[h.size]? = some (.cells ((nodeH ((upV x m (half n) (initH r)).1) (lastH r)).map bv).toArray 39) := hput_at (off := 0) (vs := (nodeH ((upV x m (half n) (initH r)).1) (lastH r)).map bv) (l := (z32.map bv)) hh (hsplice rfl (node_len _ _)) m3
    clear hh
    refine sT [(8,.bool ((upV x m (half n) (initH r)).2))] fun a hF => ?_
    refine cR ?_
    refine ret_ok [.cell 7 39,.tmp 8] [.agg ((nodeH ((upV x m (half n) (initH r)).1) (lastH r)).map bv).toArray,.bool ((upV x m (half n) (initH r)).2)] (.tuple #[.agg ((nodeH ((upV x m (half n) (initH r)).1) (lastH r)).map bv).toArray,.bool ((upV x m (half n) (initH r)).2)]) rfl hF ⟨⟨_,rfl,Loads.hash (by kernel_rfl) (node_len _ _) m3⟩,rfl,trivial⟩ rfl ?_
    replace e0 := (((e0.ext g33).grew g39 (sep.low 0 rfl)).ext g40).grew g43 (sep.low 2 rfl)
    replace g0 := (((g0.ext g33).grew g39 (fun i e => .inr (by cases e; omega))).ext g40).grew g43 (fun i e => .inr (by cases e; omega))
    replace hl := Grew.blk g43 (Ext.blk g40 (Grew.blk g39 (Ext.blk g33 hl) ((sep.bp 3 0)))) ((sep.bp 3 2))
    replace hm := Grew.blk g43 (Ext.blk g40 (Grew.blk g39 (Ext.blk g33 hm) ((sep.bp 4 0)))) ((sep.bp 4 2))
    replace hu := Grew.blk g43 (Ext.blk g40 (Grew.blk g39 (Ext.blk g33 hu) ((sep.bp 5 0)))) ((sep.bp 5 2))
    replace kt := (kt.ext g40).grew g43 (sep.zero 2 rfl h0s)
    exact ⟨by rw [up_lo (by omega) hr0 (by omega)] <;> rfl,hl,_,hm,hu,g0.toGrew,e0,kt⟩
   ·skip
    refine qS hF ?_
    replace hu := Grew.blk g29 (Ext.blk g23 hu) ((sep.bp 4 0))
    refine tO 0 0 hu ?_
    refine tU 3 m (half n) ?_
    refine tU 6 n (half n) ?_
    have hil := initH_len r
    have hri : HR hz va vc (initH r).length (initH r) := by rw [hil]; exact hr.take (by omega)
    replace hm := Grew.blk g29 (Ext.blk g23 hm) ((sep.bp 3 0))
    rw [← hil] at hm
    have hhl := half_lt (n := n) (by omega); have hhp := half_pos n
    replace e0 := (e0.ext g23).grew g29 (sep.low 0 rfl)
    replace kt := (kt.ext g23).grew g29 (sep.zero 0 rfl h0s)
    replace hl := Grew.blk g29 (Ext.blk g23 hl) ((sep.bp 2 0))
    replace sep := sep.up g29.size
    refine tF 7 (Does.call (f := 48) (args := #[.int .i64 ((m - (half n) : Nat) : Int),.int .i64 ((n - (half n) : Nat) : Int),.pointer (some ⟨bl,0,none⟩),.pointer (some ⟨br,0,none⟩),.pointer (some ⟨bu,0,none⟩)]) (by kernel_rfl) (ih _ (m - half n) (n - half n) (initH r) (by rw [hil]; omega) hl hm hu hri (hz0.imp (fun e => by rw [e]; rfl) id) (sep.sub (l' := [some bl,some br,some bu]) (.cons _ (.cons _ (.cons_cons _ (.cons_cons _ (.cons_cons _ (.slnil))))))) e0 kt (by omega) (by omega))) ?_
    rintro _ h44 ⟨rfl,hl3,r3,hm3,hu3,g3,e3,kt3⟩
    have sepo := sep; clear hl hm hu e0 kt; have hl := hl3; have hm := hm3; have hu := hu3; have e0 := e3; have kt := kt3; clear hl3 hm3 hu3 e3 kt3
    replace m3 := Grew.blk g29 (Ext.blk g23 m3) ((sep.bp 1 0))
    replace m3 := Grew.blk g3 m3 (sep.bp 1 3)
    replace m24 := Grew.blk g3 m24 (sep.bp 0 3)
    replace g0 := (g0.ext g23).grew g29 (fun i e => .inr (by cases e; omega))
    replace g0 := g0.grew g3 (fun i e => .inl (by cases e; rfl))
    replace sep := sepo.up g3.size; clear sepo g3
    refine tN 11 (pV h44.size) ((z32.map bv).toArray) 39 fun h45 g46 m47 => ?_
    have lt48 := blk_lt m47
    have zs49 := e0.size
    have zs50 := g0.1
    replace sep := sep.nw e0.size m47
    refine tF 12 (Does.store (b := h44.size) (off := 0) (vs := ((upV x (m - half n) (n - half n) (initH r)).1).map bv) (l := z32.map bv) (storeOp_of (by kernel_rfl) (hlm (up_len hx))) m47 (hfit rfl (up_len hx)) (ones_map _)) ?_
    rintro _ h51 ⟨rfl,hh⟩
    have g52 : Grew (some (h44.size)) h45 h51 := hput_gr hh
    replace m47 : h51[h44.size]? = some (.cells (((upV x (m - half n) (n - half n) (initH r)).1).map bv).toArray 39) := hput_at (off := 0) (vs := ((upV x (m - half n) (n - half n) (initH r)).1).map bv) (l := (z32.map bv)) hh (hsplice rfl (up_len hx)) m47
    clear hh
    refine sT [(14,pV h44.size),(15,.bool ((upV x (m - half n) (n - half n) (initH r)).2))] fun a hF => ?_
    refine qS hF ?_
    replace m24 := Grew.blk g52 (Ext.blk g46 m24) ((sep.bp 1 0))
    refine tC 0 (.agg ((lastH r).map bv).toArray) (Calm.load (T := 39) (p := ⟨h21.size,0,none⟩) (by kernel_rfl) (Loads.hash (by kernel_rfl) (last_len hr.2.1 (by omega)) m24)) ?_
    refine tC 1 (.agg (((upV x (m - half n) (n - half n) (initH r)).1).map bv).toArray) (Calm.load (T := 39) (p := ⟨h44.size,0,none⟩) (by kernel_rfl) (Loads.hash (by kernel_rfl) (up_len hx) m47)) ?_
    replace kt := (kt.ext g46).grew g52 (sep.zero 0 rfl h0s)
    refine tG 2 (node_sat _ (lastH r) ((upV x (m - half n) (n - half n) (initH r)).1) (last_len hr.2.1 (by omega)) (up_len hx) kt) ?_
    rintro _ h54 ⟨rfl,g53⟩
    replace m3 := Ext.blk g53 (Grew.blk g52 (Ext.blk g46 m3) ((sep.bp 2 0)))
    refine tF 4 (Does.store (b := h.size) (off := 0) (vs := (nodeH (lastH r) ((upV x (m - half n) (n - half n) (initH r)).1)).map bv) (l := z32.map bv) (storeOp_of (by kernel_rfl) (hlm (node_len _ _))) m3 (hfit rfl (node_len _ _)) (ones_map _)) ?_
    rintro _ h55 ⟨rfl,hh⟩
    have g56 : Grew (some (h.size)) h54 h55 := hput_gr hh
    replace m3 : h55[h.size]? = some (.cells ((nodeH (lastH r) ((upV x (m - half n) (n - half n) (initH r)).1)).map bv).toArray 39) := hput_at (off := 0) (vs := (nodeH (lastH r) ((upV x (m - half n) (n - half n) (initH r)).1)).map bv) (l := (z32.map bv)) hh (hsplice rfl (node_len _ _)) m3
    clear hh
    refine sT [(8,.bool ((upV x (m - half n) (n - half n) (initH r)).2))] fun a hF => ?_
    refine cR ?_
    refine ret_ok [.cell 7 39,.tmp 8] [.agg ((nodeH (lastH r) ((upV x (m - half n) (n - half n) (initH r)).1)).map bv).toArray,.bool ((upV x (m - half n) (n - half n) (initH r)).2)] (.tuple #[.agg ((nodeH (lastH r) ((upV x (m - half n) (n - half n) (initH r)).1)).map bv).toArray,.bool ((upV x (m - half n) (n - half n) (initH r)).2)]) rfl hF ⟨⟨_,rfl,Loads.hash (by kernel_rfl) (node_len _ _) m3⟩,rfl,trivial⟩ rfl ?_
    replace e0 := (((e0.ext g46).grew g52 (sep.low 0 rfl)).ext g53).grew g56 (sep.low 2 rfl)
    replace g0 := (((g0.ext g46).grew g52 (fun i e => .inr (by cases e; omega))).ext g53).grew g56 (fun i e => .inr (by cases e; omega))
    replace hl := Grew.blk g56 (Ext.blk g53 (Grew.blk g52 (Ext.blk g46 hl) ((sep.bp 3 0)))) ((sep.bp 3 2))
    replace hm := Grew.blk g56 (Ext.blk g53 (Grew.blk g52 (Ext.blk g46 hm) ((sep.bp 4 0)))) ((sep.bp 4 2))
    replace hu := Grew.blk g56 (Ext.blk g53 (Grew.blk g52 (Ext.blk g46 hu) ((sep.bp 5 0)))) ((sep.bp 5 2))
    replace kt := (kt.ext g53).grew g56 (sep.zero 2 rfl h0s)
    exact ⟨by rw [up_hi (by omega) hr0 (by omega)] <;> rfl,hl,_,hm,hu,g0.toGrew,e0,kt⟩
theorem upc_all (hz : Heap) (bl br bu : Nat) (x : Hs) (va : Option Addr) (vc : Nat) (hx : x.length = 32) (h0s : 0 < hz.size) : ∀ (k : Nat) (h : Heap) (m n : Nat) (r : List Hs),r.length ≤ k → k ≤ 1099511627776 → h[bl]? = some (.cells (x.map bv).toArray 39) → h[br]? = some (.cells #[.slice va r.length vc] 45) → h[bu]? = some (.cells #[.func (.func 48) #[] #[.pointer (some ⟨bl,0,none⟩),.pointer (some ⟨br,0,none⟩),.pointer (some ⟨bu,0,none⟩)]] 106) → HR hz va vc r.length r → (r = [] ∨ ∀ k,va.map (fun (x : Addr) => x.block) = some k → k < hz.size) → Sep hz.size h.size [some bl,some br,some bu] → Ext hz h → Ktab h → m < n → n ≤ 9223372036854775807 → Sat Tryz.prog 48 #[.int .i64 ((m : Nat) : Int),.int .i64 ((n : Nat) : Int),.pointer (some ⟨bl,0,none⟩),.pointer (some ⟨br,0,none⟩),.pointer (some ⟨bu,0,none⟩)] h (fun v h' => v = .tuple #[hv (upV x m n r).1,.bool (upV x m n r).2] ∧ h'[bl]? = some (.cells (x.map bv).toArray 39) ∧ ∃ r',h'[br]? = some (.cells #[.slice va r' vc] 45) ∧ h'[bu]? = some (.cells #[.func (.func 48) #[] #[.pointer (some ⟨bl,0,none⟩),.pointer (some ⟨br,0,none⟩),.pointer (some ⟨bu,0,none⟩)]] 106) ∧ Grew (some br) h h' ∧ Ext hz h' ∧ Ktab h')
 | 0,h,m,n,r,hk,hkl,hl,hm,hu,hr,hz0,sep,e0,kt,hmn,hn => upc_step hz bl br bu x va vc hx h0s r.length (fun _ _ _ _ hlt => by omega) h m n r rfl hl hm hu hr hz0 sep e0 kt hmn hn (by omega)
 | k + 1,h,m,n,r,hk,hkl,hl,hm,hu,hr,hz0,sep,e0,kt,hmn,hn => upc_step hz bl br bu x va vc hx h0s r.length (fun h m n r hlt hl hm hu hr hz0 sep e0 kt hmn hn => upc_all hz bl br bu x va vc hx h0s k h m n r (by omega) (by omega) hl hm hu hr hz0 sep e0 kt hmn hn) h m n r rfl hl hm hu hr hz0 sep e0 kt hmn hn (by omega)
end Go.Proofs.YtegkejcglfgpmaaGreatDoor
end
section
namespace Go.Proofs.YtegkejcglfgpmaaGreatDoor
open Go Go.Lane Go.Sha
noncomputable def b29 : Code := Tryz.f29.body.getD .skip
theorem vincl_gen (h : Heap) (x : Hs) (m n : Int) (r : List Hs) (va : Option Addr) (vc : Nat) (t : Hs) (hx : x.length = 32) (ht : t.length = 32) (hr : HR h va vc r.length r) (hrl : r.length ≤ 1099511627776) (hn : n ≤ 9223372036854775807) (kt : Ktab h) (hz0 : r = [] ∨ ∀ k,va.map (fun (x : Addr) => x.block) = some k → k < h.size) : Sat Tryz.prog 29 #[.agg (x.map bv).toArray,.int .i64 m,.int .i64 n,.slice va r.length vc,.agg (t.map bv).toArray] h fun v h' => v = .bool (inclB x m n r t) ∧ Ext h h' := by
 have e0 := Ext.refl h
 have h0s := kt.lt
 have sep : Sep h.size h.size [] := Sep.nil _ _
 refine sat_in Tryz.func29 42 fun a hF => ?_
 refine qS hF ?_
 refine tN 0 (pV h.size) ((x.map bv).toArray) 39 fun h1 g2 m3 => ?_
 have lt4 := blk_lt m3
 have zs5 := e0.size
 replace sep := sep.nw e0.size m3
 refine tN 1 (pV h1.size) ((t.map bv).toArray) 39 fun h6 g7 m8 => ?_
 have lt9 := blk_lt m8
 replace e0 := e0.ext g2
 have zs10 := e0.size
 replace sep := sep.nw e0.size m8
 refine sT [(5,pV h.size),(9,pV h1.size)] fun a hF => ?_
 refine cS ?_
 refine cS ?_
 have hm3 : m < 0 ∨ (0 ≤ m ∧ n ≤ m) ∨ ∃ a b : Nat,m = (a : Int) ∧ n = (b : Int) ∧ a < b := by
  rcases Int.lt_or_le m 0 with h0 | h0
  ·exact .inl h0
  ·rcases Int.lt_or_le m n with h1 | h1
   ·exact .inr (.inr ⟨m.toNat,n.toNat,by omega,by omega,by omega⟩)
   ·exact .inr (.inl ⟨h0,h1⟩)
 rcases hm3 with hm0 | hm0 | ⟨mi,ni,rfl,rfl,hmn⟩
 rotate_left 2
 rcases Nat.lt_or_ge 64 r.length with h64 | h64
 rotate_left 2
 ·skip
  refine rS hF ?_
  refine tT 1 (m < (0 : Int)) ?_
  refine sE [(26,.bool true)] fun a hF => ?_
  refine tK ?_
  refine cT 26 hF ?_
  refine qP [(10,.bool false)] hF fun a hF => ?_
  refine cR (yT ?_)
  refine rT 10 (.bool false) hF ?_
  replace e0 := e0.ext g7
  exact ⟨by rw [inclB_no (by omega)] <;> rfl,e0⟩
 ·skip
  refine rS hF ?_
  refine tX 1 (m < (0 : Int)) ?_
  refine tT 5 (n ≤ m) ?_
  refine sE [(26,.bool true)] fun a hF => ?_
  refine tK ?_
  refine cT 26 hF ?_
  refine qP [(10,.bool false)] hF fun a hF => ?_
  refine cR (yT ?_)
  refine rT 10 (.bool false) hF ?_
  replace e0 := e0.ext g7
  exact ⟨by rw [inclB_no (by omega)] <;> rfl,e0⟩
 ·skip
  refine rS hF ?_
  refine tX 1 (((mi : Nat) : Int) < (0 : Int)) ?_
  refine tX 5 (((ni : Nat) : Int) ≤ ((mi : Nat) : Int)) ?_
  refine tT 10 ((64 : Int) < ((r.length : Nat) : Int)) ?_
  refine sE [(26,.bool true)] fun a hF => ?_
  refine tK ?_
  refine cT 26 hF ?_
  refine qP [(10,.bool false)] hF fun a hF => ?_
  refine cR (yT ?_)
  refine rT 10 (.bool false) hF ?_
  replace e0 := e0.ext g7
  exact ⟨by rw [inclB_long (by omega) (by omega) h64] <;> rfl,e0⟩
 ·skip
  refine rS hF ?_
  refine tX 1 (((mi : Nat) : Int) < (0 : Int)) ?_
  refine tX 5 (((ni : Nat) : Int) ≤ ((mi : Nat) : Int)) ?_
  refine tX 10 ((64 : Int) < ((r.length : Nat) : Int)) ?_
  refine sE [(26,.bool false)] fun a hF => ?_
  refine tK ?_
  refine cF 26 hF ?_
  refine cN ?_
  refine tK ?_
  refine qS hF ?_
  refine tN 1 (pV h6.size) #[.slice none 0 0] 45 fun h11 g12 m13 => ?_
  have lt14 := blk_lt m13
  replace e0 := e0.ext g7
  have zs15 := e0.size
  replace sep := sep.nw e0.size m13
  refine tV0 2 [.slice va r.length vc] m13 fun h16 g17 zq => ?_
  replace m13 := zq
  refine sT [(11,pV h6.size)] fun a hF => ?_
  refine qS hF ?_
  refine tN 0 (pV h16.size) #[.nilFunc] 106 fun h18 g19 m20 => ?_
  have lt21 := blk_lt m20
  replace e0 := (e0.ext g12).grew g17 (sep.low 0 rfl)
  have zs22 := e0.size
  replace sep := (sep.up g17.size).nw e0.size m20
  refine sT [(12,pV h16.size)] fun a hF => ?_
  refine qS hF ?_
  refine tV0 1 [.func (.func 48) #[] #[pV h.size,pV h6.size,pV h16.size]] m20 fun h23 g24 zq => ?_
  replace m20 := zq
  refine sT [] fun a hF => ?_
  refine qS hF ?_
  refine tO 0 0 m20 ?_
  replace sep := sep.up g24.size
  have sepq : Sep h.size h23.size [some (h.size),some (h6.size),some (h16.size)] := sep.pick3' 3 1 0 rfl rfl rfl (by decide) (by decide) (by decide)
  replace kt := (((((kt.ext g2).ext g7).ext g12).grew g17 (sep.zero 1 rfl h0s)).ext g19).grew g24 (sep.zero 0 rfl h0s)
  replace m3 := Grew.blk g24 (Ext.blk g19 (Grew.blk g17 (Ext.blk g12 (Ext.blk g7 m3)) ((sep.bp 3 1)))) ((sep.bp 3 0))
  replace e0 := (e0.ext g19).grew g24 (sep.low 0 rfl)
  replace m13 := Grew.blk g24 (Ext.blk g19 m13) ((sep.bp 1 0))
  refine tF 3 (Does.call (f := 48) (args := #[.int .i64 ((mi : Nat) : Int),.int .i64 ((ni : Nat) : Int),.pointer (some ⟨h.size,0,none⟩),.pointer (some ⟨h6.size,0,none⟩),.pointer (some ⟨h16.size,0,none⟩)]) (by kernel_rfl) (upc_all h (h.size) (h6.size) (h16.size) x va vc hx h0s r.length _ mi ni r (Nat.le_refl _) hrl m3 m13 m20 hr hz0 sepq e0 kt hmn (by omega))) ?_
  rintro _ h25 ⟨rfl,hl3,r3,hm3,hu3,g3,e3,kt3⟩
  replace m8 := Grew.blk g24 (Ext.blk g19 (Grew.blk g17 (Ext.blk g12 m8) ((sep.bp 2 1)))) ((sep.bp 2 0))
  replace m8 := Grew.blk g3 m8 (sep.bp 2 1)
  have sepo := sep; clear sep sepq e0 kt m3 m13 m20; have sep := sepo.up g3.size; have e0 := e3; have kt := kt3; clear e3 kt3 hl3 hm3 hu3 g3 sepo
  refine tN 7 (pV h25.size) ((z32.map bv).toArray) 39 fun h26 g27 m28 => ?_
  have lt29 := blk_lt m28
  have zs30 := e0.size
  replace sep := sep.nw e0.size m28
  refine tF 8 (Does.store (b := h25.size) (off := 0) (vs := ((upV x mi ni r).1).map bv) (l := z32.map bv) (storeOp_of (by kernel_rfl) (hlm (up_len hx))) m28 (hfit rfl (up_len hx)) (ones_map _)) ?_
  rintro _ h31 ⟨rfl,hh⟩
  have g32 : Grew (some (h25.size)) h26 h31 := hput_gr hh
  replace m28 : h31[h25.size]? = some (.cells (((upV x mi ni r).1).map bv).toArray 39) := hput_at (off := 0) (vs := ((upV x mi ni r).1).map bv) (l := (z32.map bv)) hh (hsplice rfl (up_len hx)) m28
  clear hh
  refine sT [(13,pV h25.size),(14,.bool ((upV x mi ni r).2))] fun a hF => ?_
  refine cS ?_
  cases hok : (upV x mi ni r).2
  all_goals rw [hok] at hF
  ·skip
   refine rP [(10,.bool false)] hF fun a hF => ?_
   refine tK ?_
   refine cR ?_
   refine rT 10 (.bool false) hF ?_
   replace e0 := (e0.ext g27).grew g32 (sep.low 0 rfl)
   exact ⟨by rw [inclB_yes (by omega),hok] <;> rfl,e0⟩
  ·skip
   refine rS hF ?_
   refine tC 2 (.agg (((upV x mi ni r).1).map bv).toArray) (Calm.load (T := 39) (p := ⟨h25.size,0,none⟩) (by kernel_rfl) (Loads.hash (by kernel_rfl) (up_len hx) m28)) ?_
   replace m8 := Grew.blk g32 (Ext.blk g27 m8) ((sep.bp 3 0))
   refine tC 3 (.agg (t.map bv).toArray) (Calm.load (T := 39) (p := ⟨h1.size,0,none⟩) (by kernel_rfl) (Loads.hash (by kernel_rfl) ht m8)) ?_
   refine tC 4 (.bool (decide ((upV x mi ni r).1 = t))) ((eqH1 (l := (upV x mi ni r).1) (r := t) (n := 32) (by kernel_rfl) (up_len hx) ht) _) ?_
   refine sE [(10,.bool (decide ((upV x mi ni r).1 = t)))] fun a hF => ?_
   refine tK ?_
   refine cR ?_
   refine rT 10 (.bool (decide ((upV x mi ni r).1 = t))) hF ?_
   replace e0 := (e0.ext g27).grew g32 (sep.low 0 rfl)
   exact ⟨by rw [inclB_yes (by omega),hok] <;> rfl,e0⟩
end Go.Proofs.YtegkejcglfgpmaaGreatDoor
end
section
namespace Go.Sha
open Go Go.Lane
theorem _root_.Go.Lane.Own.as {h : Heap} {v : Value} {E : TypeId} {n sz : Nat} {xs ys : List Value} (o : Own h v E n sz xs) (e : xs = ys) : Own h v E n sz ys := e ▸ o
section
variable {W W' : Nat → Prop} {h h' : Heap} {b p : Nat} {M : Md} {o : Option Nat} {v : Value} {E : TypeId} {n sz : Nat} {xs : List Value}
theorem own_apart {cs : Array Value} {E2 : TypeId} {fr : Nat × Nat} {c : Nat} (own : Own h v E n sz xs) (m : h[c]? = some (.cells cs E2 fr)) (hE : E ≠ E2) : blkOf v ≠ some c := fun e => by
  rcases own.2 with ⟨rfl, _⟩ | ⟨g, off, cap, l, rfl, q, _⟩
  · cases e
  · simp only [blkOf, Option.some.injEq] at e
    subst e; rw [q] at m; cases m; exact hE rfl
theorem own_nomap {es : Array MapEntry} {ck : Nat} {c : Nat} (own : Own h v E n sz xs) (m : h[c]? = some (.map es ck)) : blkOf v ≠ some c := fun e => by
  rcases own.2 with ⟨rfl, _⟩ | ⟨g, off, cap, l, rfl, q, _⟩
  · cases e
  · simp only [blkOf, Option.some.injEq] at e
    subst e; rw [q] at m; cases m
theorem Grew.gro (g : Grew o h h') : Gr (fun k => o = some k) h h' := ⟨g.1, fun k hk hne => g.2 k hk fun e => hne e.symm⟩
theorem ModW.app (m : ModW W h b p M) (g : Grew o h h') (ho : ∀ k, o = some k → W k) (own : Own h v E n sz xs) (hv : blkOf v = o) (hE : E ≠ 83) (hs : ∀ k, W' k → W k ∨ h.size ≤ k) : ModW W' h' b p M := by
  subst hv
  have m2 := m.more (W' := fun k => W k ∨ W' k) (fun k hk => hk.elim .inl (hs k))
  obtain ⟨L, ck, ea, ec, es, m3⟩ := m2
  have m4 : ModA (fun k => W k ∨ W' k) h' b p M L ck ea ec es := m3.fr (Grew.gro g) (fun k hk => .inr (.inl (ho k hk))) (own_apart own m3.hm hE) (own_nomap own m3.hp)
  exact ModW.less ⟨L, ck, ea, ec, es, m4⟩ fun k hk => .inr hk
theorem ModW.ownB (m : ModW W h b p M) (g : Grew o h h') (own : Own h v E n sz xs) (hv : blkOf v = o) (hE : Eok E = false) (hM : E ≠ 83) : ModW W h' b p M := by
  subst hv
  obtain ⟨L, ck, ea, ec, es, m3⟩ := m
  refine ⟨L, ck, ea, ec, es, m3.fr (Grew.gro g) (fun k hk => .inl fun cs E2 fr e => ?_) (own_apart own m3.hm hM) (own_nomap own m3.hp)⟩
  rcases own.2 with ⟨rfl, _⟩ | ⟨q, off, cap, l, rfl, q2, _⟩
  · cases hk
  · simp only [blkOf, Option.some.injEq] at hk
    subst hk; rw [q2] at e; cases e; exact hE
end
def W2 (x y : Option Addr) (k : Nat) : Prop := x.map (fun (a : Addr) => a.block) = some k ∨ y.map (fun (a : Addr) => a.block) = some k
section
variable {x x' y : Option Addr} {n : Nat}
theorem w2_a (hb : x'.map (fun (a : Addr) => a.block) = x.map (fun (a : Addr) => a.block) ∨ x'.map (fun (a : Addr) => a.block) = some n) : ∀ k, W2 x' y k → W2 x y k ∨ n ≤ k := by
  rintro k (e | e)
  · rcases hb with h | h
    · exact .inl (.inl (h ▸ e))
    · rw [h] at e; cases e; exact .inr (Nat.le_refl _)
  · exact .inl (.inr e)
theorem w2_b (hb : x'.map (fun (a : Addr) => a.block) = x.map (fun (a : Addr) => a.block) ∨ x'.map (fun (a : Addr) => a.block) = some n) : ∀ k, W2 y x' k → W2 y x k ∨ n ≤ k := by
  rintro k (e | e)
  · exact .inl (.inl e)
  · rcases hb with h | h
    · exact .inl (.inr (h ▸ e))
    · rw [h] at e; cases e; exact .inr (Nat.le_refl _)
theorem w2_lt {h : Heap} {c d m m' E E' sz sz' k1 k2 : Nat} {xs ys : List Value} (o1 : Own h (.slice x c d) E m sz xs) (o2 : Own h (.slice y k1 k2) E' m' sz' ys) : ∀ k, W2 x y k → k < h.size := by
  rintro k (e | e)
  · exact o1.lt (by rw [blkOf_slice]; exact e)
  · exact o2.lt (by rw [blkOf_slice]; exact e)
end
end Go.Sha
namespace Go.Proofs.YtegkejcglfgpmaaGreatDoor
open Go Go.Lane Go.Sha
theorem do_kw {W : Nat → Prop} (h : Heap) (mb mp : Nat) (M : Md) (m : ModW W h mb mp M) (hW : ∀ k, W k → k < h.size) (kd n : Int) (s : ByteArray) (l : List UInt8) (oa : Option Addr) (oc : Nat) (ka : Option Addr) (kn kc : Nat) (hr : Row h (.slice oa l.length oc) l.length 1 (l.map bv)) (hsz : s.size ≤ 9223372036854775807) (kt : Ktab h) (hE : M.E.length ≤ 1099511627) (N : Md) (X : An) (hs : step M kd n s l = (N, X)) :
    Sat Tryz.prog 17 #[.pointer (some ⟨mb, 0, none⟩), .agg #[.int .i64 kd, .string s, .slice oa l.length oc, .int .i64 n, .slice ka kn kc]] h fun v h' => ∃ qa qc ia ic pa pc, v = anv X (.slice qa X.b.length qc) (.slice ia X.i.length ic) (.slice pa X.p.length pc) ∧
      RowE h' (.slice qa X.b.length qc) X.b.length 1 (X.b.map bv) ∧ RowE h' (.slice ia X.i.length ic) X.i.length 1 (X.i.map Value.string) ∧ RowE h' (.slice pa X.p.length pc) X.p.length 32 (hcs X.p) ∧ All32 X.p ∧ ModW W h' mb mp N ∧ MG mb mp h h' ∧ ∀ k, pa.map (fun (x : Addr) => x.block) = some k → k < h'.size := by
  obtain ⟨L, ck, ea, ec, es, md⟩ := m
  refine (do_a h mb mp M L ck ea ec es md hW kd n s l oa oc ka kn kc hr hsz kt hE).mono fun v h' ⟨a, g⟩ => ?_
  rw [hs] at a
  have am := a.mod
  obtain ⟨qa, qc, ia, ic, pa, pc, e, r1, r2, r3, r4, _⟩ := a
  exact ⟨qa, qc, ia, ic, pa, pc, e, RowE.of r1 (by decide), RowE.of r2 (by decide), RowE.of r3 (by decide), r4, am, g, fun k e => r3.lt (by rw [blkOf_slice]; exact e)⟩
theorem op_load {P : Program} {h : Heap} {a : Addr} {L : List OpR} {n c k q : Nat} {x : OpR} (hx : L.getD k op0 = x) (r : Row h (.slice (some a) n c) L.length 5 (oprow L)) {T : TypeId} (ht : aggTy P T = some (true, 5)) (hk : k < L.length) (hq : q = k * 5) :
    Loads P h T (a.add q) (.agg #[.int .i64 x.kd, .string x.s, .slice x.oa x.l.length x.oc, .int .i64 x.n, .slice x.ka x.kn x.kc]) := by
  subst hx; exact Row.fm (d := op0) opc_len r ht hk hq
/-! the cells beside a model -/
@[reducible] def kpI (z : Kp) : Value := .string z.1.s
@[reducible] def kpB (z : Kp) : Value := .slice z.1.oa z.1.l.length z.1.oc
@[reducible] def kpG (z : Kp) : Value := .bool z.2
section
variable {M : Md} {I : List Kp} {s : ByteArray} {l : List UInt8} {n kd : Int} {x : OpR} {j k : Nat} {z y : Kp}
theorem kp_at {f : Kp → Value} (hz : I[j]? = some z) : (I.map f)[j]? = some (f z) := by rw [List.getElem?_map, hz]; rfl
theorem ki_uniq (v : KInv M I) (h1 : I[j]? = some z) (h2 : I[k]? = some y) (e : z.1.s = y.1.s) : j = k := by
  rcases Nat.decEq j k with h | h
  · exact absurd e (nd_ne v.nd h1 h2 h)
  · exact h
theorem ki_other (v : KInv M I) (h1 : kd ≠ 1) (h6 : kd ≠ 6) : KInv (step M kd n s l).1 I := by
  by_cases h4 : kd = 4 ∨ kd = 5
  · rw [step_chg (by omega)]; exact ki_chg v (by omega)
  · by_cases h10 : kd = 10
    · rw [step_tick h10]; exact ki_same v rfl rfl
    · rw [step_only (by omega)]; exact v
theorem ki_get2 (v : KInv M I) (hk : I[k]? = some z) (n : Int) (l : List UInt8) : step M 2 n z.1.s l = (M, if z.2 = true then anC 213 else { an0 with b := z.1.l }) := by rw [step_ask (.inl rfl), ki_get v hk]
theorem ki_stat2 (v : KInv M I) (hk : I[k]? = some z) (n : Int) (l : List UInt8) : ∃ e ho, step M 3 n z.1.s l = (M, { an0 with sx := rbo z.1.s ((z.1.l.length : Nat) : Int) (rootB z.1.l) ((k : Nat) : Int), se := e, sh := ho, sg := z.2 }) := by
  obtain ⟨e, ho, h⟩ := ki_stat v hk
  exact ⟨e, ho, by rw [step_ask (.inr (.inl rfl)), h]⟩
theorem ki_prove2 (v : KInv M I) (hk : I[k]? = some z) (n : Int) (l : List UInt8) {P : List Hs} (hP : incl (ledH M.E) k = P) : step M 16 n z.1.s l = (M, { an0 with k := ((k : Nat) : Int), p := P }) := by
  have hl : (ledH M.E).length = M.E.length := by unfold ledH; rw [List.length_map]
  have hlt : k < M.E.length := by rw [v.len]; exact (List.getElem?_eq_some_iff.1 hk).1
  rw [step_ask (.inr (.inr (.inl rfl))), ki_prove v hk, inclZ_pair hl hlt hP]
  rfl
theorem ki_held (v : KInv M I) (hk : I[k]? = some z) {P : List Hs} (hP : incl (ledH M.E) k = P) {N : Nat} (hN : M.E.length = N) : inclB (leafH (entB z.1.s z.1.l.length (rootB z.1.l))) ((k : Nat) : Int) ((N : Nat) : Int) P (root (ledH M.E)) = true := by
  have hl : (ledH M.E).length = N := by unfold ledH; rw [List.length_map, hN]
  have hlt : k < N := by rw [← hN, v.len]; exact (List.getElem?_eq_some_iff.1 hk).1
  have hd : (ledH M.E).getD k [] = leafH (entB z.1.s z.1.l.length (rootB z.1.l)) := by
    obtain ⟨_, _, h3, _⟩ := v.at_ k z hk
    unfold ledH; rw [List.getD_eq_getElem?_getD, List.getElem?_map, h3]; rfl
  rw [← hd]; exact incl_heldN hl hlt hP
end
end Go.Proofs.YtegkejcglfgpmaaGreatDoor
namespace Go.Proofs.YtegkejcglfgpmaaGreatDoor
open Go Go.Lane Go.Sha
section
variable {M N : Md} {I : List Kp} {s : ByteArray} {l : List UInt8} {n kd : Int} {x : OpR} {j k ni : Nat} {z y : Kp} {X : An}
theorem kp_find (I : List Kp) (j : Nat) (s : ByteArray) : I.length ≤ j ∨ (j < I.length ∧ ∃ z, I[j]? = some z ∧ z.1.s = s) ∨ (j < I.length ∧ ∃ z, I[j]? = some z ∧ z.1.s ≠ s) := by
  rcases Nat.lt_or_ge j I.length with h | h
  · by_cases e : (I[j]).1.s = s
    · exact .inr (.inl ⟨h, _, List.getElem?_eq_getElem h, e⟩)
    · exact .inr (.inr ⟨h, _, List.getElem?_eq_getElem h, e⟩)
  · exact .inl h
def KAt (I : List Kp) (s : ByteArray) (j : Nat) : Prop := (j = I.length ∧ ∀ z ∈ I, z.1.s ≠ s) ∨ ∃ z, I[j]? = some z ∧ z.1.s = s
theorem kat_no (h : ∀ i z, i < j → I[i]? = some z → z.1.s ≠ s) (e : j = I.length) : KAt I s j := .inl ⟨e, fun z hz => by
  obtain ⟨i, hi⟩ := List.getElem?_of_mem hz
  exact h i z (by rw [e]; exact (List.getElem?_eq_some_iff.1 hi).1) hi⟩
theorem kat_next (h : ∀ i z, i < j → I[i]? = some z → z.1.s ≠ s) (hz : I[j]? = some z) (hne : z.1.s ≠ s) : ∀ i z, i < j + 1 → I[i]? = some z → z.1.s ≠ s := fun i y hi hy => by
  rcases Nat.lt_or_eq_of_le (Nat.lt_succ_iff.1 hi) with h9 | h9
  · exact h i y h9 hy
  · subst h9; rw [hz] at hy; cases hy; exact hne
theorem keep_put (v : KInv M I) (hs : step M x.kd x.n x.s x.l = (N, X)) (hk : x.kd = 1) (hj : KAt I x.s j) (hni : I.length = ni) :
    (nameOk x.s = true ∧ x.l.length ≤ 512 ∧ j = ni ∧ X.c = 0 ∧ KInv N (I ++ [(x, false)])) ∨ (nameOk x.s = false ∧ X.c ≠ 0 ∧ KInv N I) ∨ (nameOk x.s = true ∧ 512 < x.l.length ∧ X.c ≠ 0 ∧ KInv N I) ∨ (nameOk x.s = true ∧ x.l.length ≤ 512 ∧ j < ni ∧ X.c ≠ 0 ∧ KInv N I) := by
  rw [step_put hk, Prod.mk.injEq] at hs
  obtain ⟨rfl, rfl⟩ := hs
  have no : (nameOk x.s = false ∨ 512 < x.l.length ∨ ∃ (k : Nat) (z : Kp), I[k]? = some z ∧ z.1.s = x.s) → (anC (putM M x.s x.l).2).c ≠ 0 ∧ KInv (putM M x.s x.l).1 I := fun h => by
    obtain ⟨h1, h2⟩ := ki_noput (l := x.l) v h
    rw [h2]; exact ⟨h1, v⟩
  cases h1 : nameOk x.s with
  | false => exact .inr (.inl ⟨rfl, no (.inl h1)⟩)
  | true =>
    rcases Nat.lt_or_ge 512 x.l.length with h2 | h2
    · exact .inr (.inr (.inl ⟨rfl, h2, no (.inr (.inl h2))⟩))
    · rcases hj with ⟨e, hno⟩ | ⟨z, hz, e⟩
      · obtain ⟨h3, h4⟩ := ki_put v h1 h2 hno
        exact .inl ⟨rfl, h2, e.trans hni, h3, h4⟩
      · exact .inr (.inr (.inr ⟨rfl, h2, by rw [← hni]; exact (List.getElem?_eq_some_iff.1 hz).1, no (.inr (.inr ⟨j, z, hz, e⟩))⟩))
theorem keep_del (v : KInv M I) (hs : step M x.kd x.n x.s x.l = (N, X)) (hk : x.kd = 6) (hj : KAt I x.s j) :
    (X.c = 0 ∧ ∃ z, I[j]? = some z ∧ z.2 = false ∧ KInv N (I.set j (z.1, true))) ∨ (X.c ≠ 0 ∧ KInv N I) := by
  rw [step_chg (.inr (.inr hk)), Prod.mk.injEq, hk] at hs
  obtain ⟨rfl, rfl⟩ := hs
  by_cases h : (chg M 6 x.n x.s).2 = 0
  · obtain ⟨k, z, hz, e, hg, h2⟩ := ki_del v h
    refine .inl ⟨h, ?_⟩
    rcases hj with ⟨_, hno⟩ | ⟨y, hy, e2⟩
    · exact absurd e (hno z (List.mem_of_getElem? hz))
    · obtain rfl := ki_uniq v hz hy (e.trans e2.symm)
      exact ⟨z, hz, hg, h2⟩
  · exact .inr ⟨h, ki_chg v (.inr (.inr ⟨rfl, h⟩))⟩
theorem keep_other (v : KInv M I) (hs : step M x.kd x.n x.s x.l = (N, X)) (h1 : x.kd ≠ 1) (h6 : x.kd ≠ 6) : KInv N I := by
  have := ki_other (n := x.n) (s := x.s) (l := x.l) v h1 h6
  rw [hs] at this; exact this
theorem kp_snoc (f : Kp → Value) (I : List Kp) (z : Kp) : I.map f ++ [f z] = (I ++ [z]).map f := by rw [List.map_append]; rfl
theorem kp_set {f : Kp → Value} (hz : I[j]? = some z) (y : Kp) (hf : f y = f z) : I.map f = (I.set j y).map f := by
  obtain ⟨hi, e⟩ := List.getElem?_eq_some_iff.1 hz
  refine List.ext_getElem (by simp) fun i h1 h2 => ?_
  rw [List.getElem_map, List.getElem_map, List.getElem_set]
  split
  · rename_i h; subst h; rw [e, hf]
  · rfl
theorem kp_put {f : Kp → Value} (hz : I[j]? = some z) (y : Kp) : splice (I.map f) j [f y] = (I.set j y).map f := by
  obtain ⟨hi, e⟩ := List.getElem?_eq_some_iff.1 hz
  unfold splice
  rw [List.map_set, List.set_eq_take_append_cons_drop, if_pos (by simpa using hi)]
  simp
theorem kp_keep {h : Heap} (h1 : ∀ z ∈ I, OpAt h z.1) (hz : I[j]? = some z) : ∀ y ∈ I.set j (z.1, true), OpAt h y.1 := fun y hy => by
  rcases List.mem_or_eq_of_mem_set hy with h | h
  · exact h1 y h
  · rw [h]; exact h1 z (List.mem_of_getElem? hz)
theorem kp_more {h : Heap} (h1 : ∀ z ∈ I, OpAt h z.1) (hx : OpAt h x) : ∀ y ∈ I ++ [(x, false)], OpAt h y.1 := fun y hy => by
  rcases List.mem_append.1 hy with h | h
  · exact h1 y h
  · rw [List.mem_singleton.1 h]; exact hx
theorem ki_up (v : KInv M I) {J : List ByteArray} (hJ : idsM M = J) {i : Nat} (h1 : 1 ≤ i) (h2 : i < J.length) : Lib.compareBytes (J.getD (i - 1) ByteArray.empty).data.toList (J.getD i ByteArray.empty).data.toList < 0 := by
  subst hJ
  have e : i - 1 + 1 = i := by omega
  have a : (idsM M)[i - 1]? = some ((idsM M).getD (i - 1) ByteArray.empty) := by rw [List.getD_eq_getElem?_getD, List.getElem?_eq_getElem (by omega)]; rfl
  have b : (idsM M)[i - 1 + 1]? = some ((idsM M).getD i ByteArray.empty) := by rw [e, List.getD_eq_getElem?_getD, List.getElem?_eq_getElem h2]; rfl
  exact ki_idsUp v a b
theorem liveI_take (I : List Kp) (q : Nat) : (liveI (I.take q)).length ≤ q := by
  unfold liveI
  rw [List.length_map]
  exact Nat.le_trans (List.length_filter_le _ _) (by rw [List.length_take]; omega)
theorem live_yes (hz : I[k]? = some z) (hg : z.2 = true) : (liveI (I.take k)).length = (liveI (I.take (k + 1))).length := by rw [liveI_snoc hz, if_pos hg, Nat.add_zero]
theorem live_no (hz : I[k]? = some z) (hg : z.2 = false) : (liveI (I.take k)).length + 1 = (liveI (I.take (k + 1))).length := by rw [liveI_snoc hz, if_neg (by rw [hg]; decide)]
end
end Go.Proofs.YtegkejcglfgpmaaGreatDoor
end
section
namespace Go.Proofs.YtegkejcglfgpmaaGreatDoor
open Go Go.Lane Go.Sha
theorem vincl_at (h : Heap) (x : Hs) (m n : Int) (r : List Hs) (va : Option Addr) (vc : Nat) (t : Hs) (hx : x.length = 32) (ht : t.length = 32) (hr : HR h va vc r.length r) (hrl : r.length ≤ 1099511627776) (hn : n ≤ 9223372036854775807) (kt : Ktab h) (hvl : ∀ k,va.map (fun (x : Addr) => x.block) = some k → k < h.size) (v : Bool) (hv : inclB x m n r t = v) : Sat Tryz.prog 29 #[.agg (x.map bv).toArray,.int .i64 m,.int .i64 n,.slice va r.length vc,.agg (t.map bv).toArray] h fun u h' => u = .bool v ∧ Ext h h' := by
 have := vincl_gen h x m n r va vc t hx ht hr hrl hn kt (.inr hvl)
 rw [hv] at this; exact this
theorem rentry_r (h : Heap) (s : ByteArray) (n : Nat) (l : List UInt8) (y : RB) (hy : hl y = l) (hs : nameOk s = true) (hn : n ≤ 512) : Sat Tryz.prog 28 #[.string s,.int .i64 ((n : Nat) : Int),.agg ((hl y).map bv).toArray] h fun v h' => ∃ ad cap,v = .tuple #[.slice ad (entB s n l).length cap,.int .i64 0] ∧ Own h' (.slice ad (entB s n l).length cap) 5 (entB s n l).length 1 ((entB s n l).map bv) ∧ (∀ k,ad.map (fun (x : Addr) => x.block) = some k → h.size ≤ k) ∧ Ext h h' := by
 subst hy; exact rentry_sat h s n (hl y) hs hn rfl
noncomputable def b8 : Code := Tryz.f8.body.getD .skip
set_option maxHeartbeats 2000000 in
set_option maxRecDepth 10000 in
theorem keeps_sat (h : Heap) (L : List OpR) (la : Option Addr) (lc : Nat) (hll : Row h (.slice la L.length lc) L.length 5 (oprow L)) (ho : ∀ o ∈ L,OpAt h o) (hlb : L.length ≤ 1048576) (kt : Ktab h) : Sat Tryz.prog 8 #[.slice la L.length lc] h fun v h' => v = .bool true ∧ Ext h h' := by
 have e0 := Ext.refl h
 have h0s := kt.lt
 have sep : Sep h.size h.size [] := Sep.nil _ _
 refine sat_in Tryz.func8 279 fun a hF => ?_
 refine qP [] hF fun a hF => ?_
 refine qS hF ?_
 refine tG 0 (shown_sat _ kt) ?_
 rintro _ h2 ⟨rfl,g1⟩
 refine sT [(3,.bool true)] fun a hF => ?_
 refine cS ?_
 refine qP [(25,.bool false)] hF fun a hF => ?_
 refine cF 25 hF ?_
 refine cN ?_
 refine tK ?_
 refine qS hF ?_
 replace e0 := e0.ext g1
 refine tG 0 (new_m _ (by have := e0.size; omega)) ?_
 rintro _ h3 ⟨mb,mp,rfl,hM,hb1,hp1,g⟩
 have hse := e0.size
 replace kt := kt.ext g1
 replace sep := sep.up g1.size
 replace e0 := e0.ext g
 replace kt := kt.ext g
 replace sep := sep.up g.size
 clear g
 have hk1 := hM.kb
 have sz1 : h3.size ≤ h3.size := Nat.le_refl _
 refine sT [(4,pV mb)] fun a hF => ?_
 refine qS hF ?_
 replace hM : ModW (W2 (some ⟨h3.size,0,none⟩) none) h3 mb mp M0 := hM.more (fun k e => .inr (by rcases e with e | e; cases e; exact Nat.le_refl _; cases e))
 refine tN 0 (.slice (some ⟨h3.size,0,none⟩) 0 0) #[] 9 fun h4 g5 m6 => ?_
 have lt7 := blk_lt m6
 have zs8 := e0.size
 have zs9 := sz1
 replace sep := sep.nw e0.size m6
 replace sz1 := Nat.le_trans sz1 g5.size
 have own_i : Own h4 (.slice (some ⟨h3.size,0,none⟩) 0 0) 9 ([] : List UInt8).length 1 ([] : List Value) := Own.empty 1 m6
 replace sep : Sep h.size h4.size [(some ⟨h3.size,0,none⟩ : Option Addr).map (·.block)] := sep
 replace e0 := e0.ext g5
 replace kt := kt.ext g5
 replace hM := hM.ext g5
 clear m6 lt7 zs8 zs9
 refine sT [(5,.slice (some ⟨h3.size,0,none⟩) 0 0)] fun a hF => ?_
 refine qS hF ?_
 replace hM : ModW (W2 (some ⟨h3.size,0,none⟩) (some ⟨h4.size,0,none⟩)) h4 mb mp M0 := hM.more (fun k e => by rcases e with e | e; exact .inl (.inl e); cases e; exact .inr (Nat.le_refl _))
 refine tN 0 (.slice (some ⟨h4.size,0,none⟩) 0 0) #[] 32 fun h10 g11 m12 => ?_
 have lt13 := blk_lt m12
 have zs14 := e0.size
 have zs15 := sz1
 replace sep := sep.nw e0.size m12
 replace sz1 := Nat.le_trans sz1 g11.size
 have own_y : Own h10 (.slice (some ⟨h4.size,0,none⟩) 0 0) 32 ([] : List UInt8).length 1 ([] : List Value) := Own.empty 1 m12
 replace sep : Sep h.size h10.size [(some ⟨h4.size,0,none⟩ : Option Addr).map (·.block),(some ⟨h3.size,0,none⟩ : Option Addr).map (·.block)] := sep
 replace e0 := e0.ext g11
 replace kt := kt.ext g11
 replace hM := hM.ext g11
 replace own_i := own_i.ext g11
 clear m12 lt13 zs14 zs15
 refine sT [(6,.slice (some ⟨h4.size,0,none⟩) 0 0)] fun a hF => ?_
 refine qS hF ?_
 refine tN 0 (.slice (some ⟨h10.size,0,none⟩) 0 0) #[] 4 fun h16 g17 m18 => ?_
 have lt19 := blk_lt m18
 have zs20 := e0.size
 have zs21 := sz1
 replace sep := sep.nw e0.size m18
 replace sz1 := Nat.le_trans sz1 g17.size
 have own_g : Own h16 (.slice (some ⟨h10.size,0,none⟩) 0 0) 4 ([] : List UInt8).length 1 ([] : List Value) := Own.empty 1 m18
 replace sep : Sep h.size h16.size [(some ⟨h10.size,0,none⟩ : Option Addr).map (·.block),(some ⟨h4.size,0,none⟩ : Option Addr).map (·.block),(some ⟨h3.size,0,none⟩ : Option Addr).map (·.block)] := sep
 replace e0 := e0.ext g17
 replace kt := kt.ext g17
 replace hM := hM.ext g17
 replace own_i := own_i.ext g17
 replace own_y := own_y.ext g17
 clear m18 lt19 zs20 zs21
 refine sT [(7,.slice (some ⟨h10.size,0,none⟩) 0 0)] fun a hF => ?_
 refine cS ?_
 refine qP [(8,.int .i64 0)] hF fun a hF => ?_
 refine cB 0 ?_
 refine cL (fun m a h' => ∃ k : Nat,∃ R : Md,∃ I : List Kp,∃ ni : Nat,∃ ia : Option Addr,∃ ic : Nat,∃ ya : Option Addr,∃ yc : Nat,∃ ga : Option Addr,∃ gc : Nat,m = L.length - k ∧ (Ext h h') ∧ (Ktab h') ∧ (k ≤ L.length) ∧ (KInv R I) ∧ (I.length = ni) ∧ (ni ≤ k) ∧ (∀ z ∈ I,OpAt h z.1) ∧ (ModW (W2 ia ya) h' mb mp R) ∧ (h3.size ≤ h'.size) ∧ (Own h' (.slice ia ni ic) 9 ni 1 (I.map kpI)) ∧ (Own h' (.slice ya ni yc) 32 ni 1 (I.map kpB)) ∧ (Own h' (.slice ga ni gc) 4 ni 1 (I.map kpG)) ∧ (Sep h.size h'.size [ga.map (·.block),ya.map (·.block),ia.map (·.block)]) ∧ (Fr a 279 [(0,.slice la L.length lc),(3,.bool true),(4,.pointer (some ⟨mb,0,none⟩)),(5,.slice ia ni ic),(6,.slice ya ni yc),(7,.slice ga ni gc),(8,.int .i64 ((k : Nat) : Int))])) (L.length - 0) ⟨0,M0,[],0,(some ⟨h3.size,0,none⟩),0,(some ⟨h4.size,0,none⟩),0,(some ⟨h10.size,0,none⟩),0,rfl,e0,kt,(by omega),KInv.zero,rfl,(Nat.le_refl _),(fun z hz => by cases hz),hM,sz1,own_i,own_y,own_g,sep,hF.to⟩ ?_
 clear hF a
 clear e0
 clear kt
 clear hM
 clear sz1
 clear own_i
 clear own_y
 clear own_g
 clear sep
 rintro m a h22 ⟨k,R,I,ni,ia,ic,ya,yc,ga,gc,rfl,e0,kt,hk,hv,hni,hnk,hIo,hM,sz1,own_i,own_y,own_g,sep,hF⟩
 refine cS ?_
 refine qP [(33,.bool (decide (((k : Nat) : Int) < ((L.length : Nat) : Int))))] hF fun a hF => ?_
 refine cJ 33 hF (fun hc23 => ?_) fun hc23 => ?_
 ·skip
  have hkn : k < L.length := by omega
  have hFn := hF
  obtain ⟨al,rfl,hcap_al⟩ := hll.someA (by omega)
  have hF := hFn; clear hFn
  obtain ⟨x,hx⟩ : ∃ x,L.getD k op0 = x := ⟨_,rfl⟩
  have hox : OpAt h x := hx ▸ opAt_of ho hkn
  refine cN ?_
  refine tK ?_
  refine cS ?_
  refine cB 1 ?_
  refine qS hF ?_
  refine tI 2 al L.length 5 k (k * 5) ?_
  refine tC 3 (.agg #[.int .i64 x.kd,.string x.s,.slice x.oa x.l.length x.oc,.int .i64 x.n,.slice x.ka x.kn x.kc]) (Calm.load (T := 35) (p := (Addr.add al (k * 5))) (by kernel_rfl) (op_load hx (hll.ext e0) (by kernel_rfl) hkn (by first | rfl | omega))) ?_
  refine tN 4 (pV h22.size) #[.int .i64 0,.string ByteArray.empty,.slice none 0 0,.int .i64 0,.slice none 0 0] 35 fun h24 g25 m26 => ?_
  have lt27 := blk_lt m26
  have zs28 := e0.size
  have zs29 := sz1
  replace sep := sep.nw e0.size m26
  replace sz1 := Nat.le_trans sz1 g25.size
  refine tV0 5 [.int .i64 x.kd,.string x.s,.slice x.oa x.l.length x.oc,.int .i64 x.n,.slice x.ka x.kn x.kc] m26 fun h30 g31 zq => ?_
  replace hM := hM.ext g25
  replace hM := hM.put1 g31 m26 (by decide) (by omega)
  replace sz1 := Nat.le_trans sz1 g31.1
  replace m26 := zq
  refine sT [(9,pV h22.size)] fun a hF => ?_
  refine qP [(10,.int .i64 0)] hF fun a hF => ?_
  refine cS ?_
  refine C.mono (K := fun e a hJ => e = .normal ∧ h30 = hJ ∧ ∃ (j : Nat),KAt I x.s j ∧ Fr a 279 [(0,.slice (some al) L.length lc),(3,.bool true),(4,.pointer (some ⟨mb,0,none⟩)),(5,.slice ia ni ic),(6,.slice ya ni yc),(7,.slice ga ni gc),(8,.int .i64 ((k : Nat) : Int)),(9,.pointer (some ⟨h22.size,0,none⟩)),(10,.int .i64 ((j : Nat) : Int)),(52,.bool false)]) ?_ ?_
  ·skip
   refine cB 2 ?_
   replace e0 := (e0.ext g25).grew g31 (sep.low 0 rfl)
   replace kt := (kt.ext g25).grew g31 (sep.zero 0 rfl h0s)
   replace own_i := (own_i.ext g25).kept g31 (by rw [blkOf_slice]; exact (sep.ap 3 0))
   replace own_y := (own_y.ext g25).kept g31 (by rw [blkOf_slice]; exact (sep.ap 2 0))
   replace own_g := (own_g.ext g25).kept g31 (by rw [blkOf_slice]; exact (sep.ap 1 0))
   replace sep := sep.up g31.size
   refine cL (fun m a h' => ∃ j : Nat,m = I.length - j ∧ (h30 = h') ∧ (j ≤ I.length) ∧ (∀ i z,i < j → I[i]? = some z → z.1.s ≠ x.s) ∧ (Fr a 279 [(0,.slice (some al) L.length lc),(3,.bool true),(4,.pointer (some ⟨mb,0,none⟩)),(5,.slice ia ni ic),(6,.slice ya ni yc),(7,.slice ga ni gc),(8,.int .i64 ((k : Nat) : Int)),(9,.pointer (some ⟨h22.size,0,none⟩)),(10,.int .i64 ((j : Nat) : Int))])) (I.length - 0) ⟨0,rfl,rfl,(Nat.zero_le _),(fun i z h0 _ => absurd h0 (Nat.not_lt_zero i)),hF.to⟩ ?_
   clear hF a
   rintro m a h32 ⟨j,rfl,hh,hj,hjs,hF⟩
   subst hh
   refine cS ?_
   refine cS ?_
   rcases kp_find I j x.s with hjl | ⟨hjl,z,hz,hzs⟩ | ⟨hjl,z,hz,hzs⟩
   ·skip
    have hjx := kat_no hjs (by omega)
    refine cD [0,0,2,7,15,31,31,127,255,31,543,2047,4095] 13 mixed hF ?_
    refine mP 7 [0,1,2] [nV j,.slice ia ni ic,nV ni] ?_
    refine mX1 15 3 (((j : Nat) : Int) < ((ni : Nat) : Int)) ?_
    refine mP 8191 [4,5,6,7,8,9,10,11,12] [.bool false,undef,undef,undef,undef,undef,undef,undef,.bool false] ?_
    refine mE [(52,.bool false)] fun a hF => ?_
    refine tK ?_
    refine cF 52 hF ?_
    refine cX 2 (xT (xT (xB ?_)))
    exact ⟨rfl,rfl,j,hjx,hF.to⟩
   ·skip
    have hFn := hF
    obtain ⟨ai,rfl,hcap_ai⟩ := own_i.someA (by omega)
    have hF := hFn; clear hFn
    have hjx : KAt I x.s j := .inr ⟨z,hz,hzs⟩
    refine cD [0,0,2,7,15,31,31,127,255,31,543,2047,4095] 13 mixed hF ?_
    refine mP 7 [0,1,2] [nV j,.slice (some ai) ni ic,nV ni] ?_
    refine mT1 15 3 (((j : Nat) : Int) < ((ni : Nat) : Int)) ?_
    refine mP 127 [4,5,6] [.bool true,.slice (some ai) ni ic,nV j] ?_
    refine mF 255 7 (.pointer (some (Addr.add ai j))) (Calm.indexA (a := ai) (len := ni) (sz := 1) (k := ((j : Nat) : Int)) j j (by kernel_rfl) rfl (by omega) (by omega)) ?_
    refine mL 511 256 8 (.string z.1.s) (Calm.load (T := 9) (p := (Addr.add ai j)) (by kernel_rfl) (Loads.one (k := 1) (by kernel_rfl) (own_i.row.cells j (kpI z) (kp_at hz)))) ?_
    refine mP 1023 [9] [.pointer (some ⟨h22.size,1,none⟩)] ?_
    refine mO 2047 1280 10 1 (.string x.s) m26 ?_
    refine m1 4095 11 (.bool false) (.bool (!(z.1.s.toList == x.s.toList))) (congrArg (fun b => Value.bool (!b)) ((str_beq _ _).trans (decide_eq_true hzs))) ?_
    refine mP 8191 [12] [.bool false] ?_
    refine mE [(52,.bool false)] fun a hF => ?_
    refine tK ?_
    refine cF 52 hF ?_
    refine cX 2 (xT (xT (xB ?_)))
    exact ⟨rfl,rfl,j,hjx,hF.to⟩
   ·skip
    have hFn := hF
    obtain ⟨ai,rfl,hcap_ai⟩ := own_i.someA (by omega)
    have hF := hFn; clear hFn
    refine cD [0,0,2,7,15,31,31,127,255,31,543,2047,4095] 13 mixed hF ?_
    refine mP 7 [0,1,2] [nV j,.slice (some ai) ni ic,nV ni] ?_
    refine mT1 15 3 (((j : Nat) : Int) < ((ni : Nat) : Int)) ?_
    refine mP 127 [4,5,6] [.bool true,.slice (some ai) ni ic,nV j] ?_
    refine mF 255 7 (.pointer (some (Addr.add ai j))) (Calm.indexA (a := ai) (len := ni) (sz := 1) (k := ((j : Nat) : Int)) j j (by kernel_rfl) rfl (by omega) (by omega)) ?_
    refine mL 511 256 8 (.string z.1.s) (Calm.load (T := 9) (p := (Addr.add ai j)) (by kernel_rfl) (Loads.one (k := 1) (by kernel_rfl) (own_i.row.cells j (kpI z) (kp_at hz)))) ?_
    refine mP 1023 [9] [.pointer (some ⟨h22.size,1,none⟩)] ?_
    refine mO 2047 1280 10 1 (.string x.s) m26 ?_
    refine m1 4095 11 (.bool true) (.bool (!(z.1.s.toList == x.s.toList))) (congrArg (fun b => Value.bool (!b)) ((str_beq _ _).trans (decide_eq_false hzs))) ?_
    refine mP 8191 [12] [.bool true] ?_
    refine mE [(52,.bool true)] fun a hF => ?_
    refine tK ?_
    refine cT 52 hF ?_
    refine cN ?_
    refine tK ?_
    refine cB 3 ?_
    refine rS hF ?_
    refine tA 1 j 1 ?_
    refine sE [(10,nV (j + 1))] fun a hF => ?_
    refine bK ?_
    show ∃ m',m' < _ ∧ _
    refine ⟨_,?_,(j + 1),rfl,rfl,(by omega),(kat_next hjs hz hzs),hF.to⟩
    omega
  ·skip
   rintro e a _ ⟨rfl,rfl,j,hjn,hF⟩
   refine tK ?_
   refine qS hF ?_
   refine tR 1 m26 ?_
   obtain ⟨N,X,hs⟩ : ∃ N X,step R x.kd x.n x.s x.l = (N,X) := ⟨_,_,rfl⟩
   have lb39 := hM.mod.kb
   replace e0 := (e0.ext g25).grew g31 (sep.low 0 rfl)
   replace kt := (kt.ext g25).grew g31 (sep.zero 0 rfl h0s)
   replace own_i := (own_i.ext g25).kept g31 (by rw [blkOf_slice]; exact (sep.ap 3 0))
   replace own_y := (own_y.ext g25).kept g31 (by rw [blkOf_slice]; exact (sep.ap 2 0))
   replace own_g := (own_g.ext g25).kept g31 (by rw [blkOf_slice]; exact (sep.ap 1 0))
   replace sep := sep.up g31.size
   refine tG 2 (do_kw _ mb mp R hM (w2_lt own_i own_y) x.kd x.n x.s x.l x.oa x.oc x.ka x.kn x.kc (hox.ext e0).1 hox.2 kt (by have := hv.len; omega) N X hs) ?_
   rintro _ h40 ⟨qa33,qc34,ia35,ic36,pa37,pc38,rfl,_,_,_,_,m2,gm,_⟩
   replace m26 := gm.blk m26 (by omega) (by omega)
   replace own_i := Gr.own gm own_i (by rw [blkOf_slice]; exact hM.mod.nown own_i (by decide))
   replace own_y := Gr.own gm own_y (by rw [blkOf_slice]; exact hM.mod.nown own_y (by decide))
   replace own_g := Gr.own gm own_g (by rw [blkOf_slice]; exact hM.mod.nown own_g (by decide))
   replace e0 := Gr.toExt e0 gm (by rintro i (e | e) <;> omega)
   replace kt := kt.gr gm (by rintro (e | e) <;> omega)
   replace sep := sep.up gm.1
   replace sz1 := Nat.le_trans sz1 gm.1
   clear hM; have hM := m2; clear m2 gm
   refine tN 3 (pV h40.size) ((asc (0 : Int) (.slice none 0 0) rb0 (0 : Int) false false (.slice none 0 0) (0 : Int) rb0 (0 : Int) (.slice none 0 0)).toArray) 47 fun h41 g42 m43 => ?_
   have lt44 := blk_lt m43
   have zs45 := e0.size
   have zs46 := sz1
   replace sep := sep.nw e0.size m43
   replace sz1 := Nat.le_trans sz1 g42.size
   refine tV0 4 (asc X.c (.slice qa33 X.b.length qc34) X.sx X.se X.sh X.sg (.slice ia35 X.i.length ic36) X.n X.y X.k (.slice pa37 X.p.length pc38)) m43 fun h47 g48 zq => ?_
   replace hM := hM.ext g42
   replace hM := hM.put1 g48 m43 (by decide) (by omega)
   replace sz1 := Nat.le_trans sz1 g48.1
   replace m43 := zq
   refine sT [(11,pV h40.size)] fun a hF => ?_
   refine qS hF ?_
   replace m26 := Grew.blk g48 (Ext.blk g42 m26) ((sep.bp 1 0))
   refine tO 1 0 m26 ?_
   refine sT [(59,.int .i64 x.kd)] fun a hF => ?_
   refine cB 4 ?_
   refine qP [(60,.bool (decide (x.kd = (1 : Int))))] hF fun a hF => ?_
   refine cJ 60 hF (fun hc49 => ?_) fun hc49 => ?_
   ·skip
    refine cS ?_
    rcases keep_put hv hs (by assumption) hjn hni with ⟨hok,hl5,hjq,hXc,hv2⟩ | ⟨hok,hXc,hv2⟩ | ⟨hok,hl5,hXc,hv2⟩ | ⟨hok,hl5,hjq,hXc,hv2⟩
    ·skip
     refine rS hF ?_
     refine tO 1 1 m26 ?_
     refine tC 2 (.bool true) (Does.call (f := 27) (args := #[.string x.s]) (by kernel_rfl) (rname_yes _ x.s hok)) ?_
     refine tO 5 2 m26 ?_
     refine tT 7 (((x.l.length : Nat) : Int) ≤ (512 : Int)) ?_
     refine t1 13 (.bool true) (.bool (((j : Nat) : Int) == ((ni : Nat) : Int))) (congrArg Value.bool (beq_iff_eq.2 (by omega))) ?_
     refine sE [(12,.bool true)] fun a hF => ?_
     refine tK ?_
     refine cS ?_
     refine qS hF ?_
     refine tC 2 (.int .i64 X.c) (Calm.load (T := 37) (p := ⟨h40.size,0,none⟩) (by kernel_rfl) (Loads.one (k := 1) (by kernel_rfl) ((hcell_blk m43).trans (rfl)))) ?_
     refine t1 3 (.bool true) (.bool (X.c == (0 : Int))) (congrArg Value.bool (beq_iff_eq.2 (by omega))) ?_
     refine sT [(81,.bool false)] fun a hF => ?_
     refine cF 81 hF ?_
     refine cN ?_
     refine tK ?_
     refine qP [(82,.bool true)] hF fun a hF => ?_
     refine cT 82 hF ?_
     refine qS hF ?_
     refine tO 2 1 m26 ?_
     refine tN 3 (.slice (some ⟨h47.size,0,none⟩) 1 1) #[.string x.s] 9 fun h50 g51 m52 => ?_
     have lt53 := blk_lt m52
     replace e0 := (e0.ext g42).grew g48 (sep.low 0 rfl)
     have zs54 := e0.size
     have zs55 := sz1
     replace sep := (sep.up g48.size).nw e0.size m52
     replace sz1 := Nat.le_trans sz1 g51.size
     replace own_i := ((own_i.ext g42).kept g48 (by rw [blkOf_slice]; exact (sep.ap 5 1))).ext g51
     refine tF 4 (Does.append2 (t := 42) (E := 9) (sz := 1) (by_ := 16) (n := ni) (m := 1) (v := .slice ia ni ic) (x := .slice (some ⟨h47.size,0,none⟩) 1 1) (xs := (I.map kpI)) (ys := [.string x.s]) (by kernel_rfl) (by kernel_rfl) own_i (Row.blk (n := 1) (sz := 1) (l := [.string x.s]) m52 rfl) (List.all_eq_true.1 (by rfl)) (by unfold maxLen; omega) (by omega)) ?_
     rintro _ h58 ⟨ad56,cap57,rfl,ownx,g,hb⟩
     rw [blkOf_slice] at g hb
     replace e0 := e0.ext g51
     have hlo := e0.size
     have sepo := sep
     replace kt := ((kt.ext g42).grew g48 (sep.zero 1 rfl h0s)).ext g51
     replace own_y := ((own_y.ext g42).kept g48 (by rw [blkOf_slice]; exact (sep.ap 4 1))).ext g51
     replace own_g := ((own_g.ext g42).kept g48 (by rw [blkOf_slice]; exact (sep.ap 3 1))).ext g51
     replace hM := hM.ext g51
     replace m26 := Ext.blk g51 m26
     replace m43 := Ext.blk g51 m43
     replace e0 := e0.grew g (sep.low 5 rfl)
     replace kt := kt.grew g (sep.zero 5 rfl h0s)
     replace own_y := own_y.kept g (by rw [blkOf_slice]; exact (sep.ap 4 5))
     replace own_g := own_g.kept g (by rw [blkOf_slice]; exact (sep.ap 3 5))
     replace hM := ((hM.app g (fun k e => .inl e) own_i (blkOf_slice ..) (by decide) (w2_a (by first | exact hb | (rw [blkOf_slice] at hb; exact hb)))) : ModW (W2 ad56 ya) _ _ _ _)
     replace sz1 := Nat.le_trans sz1 g.1
     replace m26 := Grew.blk g m26 ((sep.bp 2 5))
     replace m43 := Grew.blk g m43 ((sep.bp 1 5))
     replace m52 := Grew.blk g m52 ((sep.bp 0 5))
     replace sep := sep.up g.size
     replace sep : Sep h.size h58.size [some (h47.size),some (h40.size),some (h22.size),ga.map (·.block),ya.map (·.block),ad56.map (·.block)] := sepo.set g.size hlo 5 (y := ad56.map (fun (x : Addr) => x.block)) rfl (hb.imp id fun e => .inr ⟨_,e,Nat.le_refl _⟩) (fun k e => ownx.lt (by rw [blkOf_slice]; exact e))
     replace own_i : Own h58 (.slice ad56 (ni + 1) cap57) 9 (ni + 1) 1 (I.map kpI ++ [.string x.s]) := Own.appG ownx (by first | rfl | simp) (by first | rfl | (simp; done) | (simp; omega))
     clear ownx g hb hlo sepo
     refine sT [(5,.slice ad56 (ni + 1) cap57)] fun a hF => ?_
     refine qS hF ?_
     refine tO 2 2 m26 ?_
     refine tN 3 (.slice (some ⟨h58.size,0,none⟩) 1 1) #[.slice x.oa x.l.length x.oc] 32 fun h59 g60 m61 => ?_
     have lt62 := blk_lt m61
     have zs63 := e0.size
     have zs64 := sz1
     replace sep := sep.nw e0.size m61
     replace sz1 := Nat.le_trans sz1 g60.size
     replace own_y := own_y.ext g60
     refine tF 4 (Does.append2 (t := 67) (E := 32) (sz := 1) (by_ := 24) (n := ni) (m := 1) (v := .slice ya ni yc) (x := .slice (some ⟨h58.size,0,none⟩) 1 1) (xs := (I.map kpB)) (ys := [.slice x.oa x.l.length x.oc]) (by kernel_rfl) (by kernel_rfl) own_y (Row.blk (n := 1) (sz := 1) (l := [.slice x.oa x.l.length x.oc]) m61 rfl) (List.all_eq_true.1 (by rfl)) (by unfold maxLen; omega) (by omega)) ?_
     rintro _ h67 ⟨ad65,cap66,rfl,ownx,g,hb⟩
     rw [blkOf_slice] at g hb
     replace e0 := e0.ext g60
     have hlo := e0.size
     have sepo := sep
     replace kt := kt.ext g60
     replace own_i := own_i.ext g60
     replace own_g := own_g.ext g60
     replace hM := hM.ext g60
     replace m26 := Ext.blk g60 m26
     replace m43 := Ext.blk g60 m43
     replace m52 := Ext.blk g60 m52
     replace e0 := e0.grew g (sep.low 5 rfl)
     replace kt := kt.grew g (sep.zero 5 rfl h0s)
     replace own_i := own_i.kept g (by rw [blkOf_slice]; exact (sep.ap 6 5))
     replace own_g := own_g.kept g (by rw [blkOf_slice]; exact (sep.ap 4 5))
     replace hM := ((hM.app g (fun k e => .inr e) own_y (blkOf_slice ..) (by decide) (w2_b (by first | exact hb | (rw [blkOf_slice] at hb; exact hb)))) : ModW (W2 ad56 ad65) _ _ _ _)
     replace sz1 := Nat.le_trans sz1 g.1
     replace m26 := Grew.blk g m26 ((sep.bp 3 5))
     replace m43 := Grew.blk g m43 ((sep.bp 2 5))
     replace m52 := Grew.blk g m52 ((sep.bp 1 5))
     replace m61 := Grew.blk g m61 ((sep.bp 0 5))
     replace sep := sep.up g.size
     replace sep : Sep h.size h67.size [some (h58.size),some (h47.size),some (h40.size),some (h22.size),ga.map (·.block),ad65.map (·.block),ad56.map (·.block)] := sepo.set g.size hlo 5 (y := ad65.map (fun (x : Addr) => x.block)) rfl (hb.imp id fun e => .inr ⟨_,e,Nat.le_refl _⟩) (fun k e => ownx.lt (by rw [blkOf_slice]; exact e))
     replace own_y : Own h67 (.slice ad65 (ni + 1) cap66) 32 (ni + 1) 1 (I.map kpB ++ [.slice x.oa x.l.length x.oc]) := Own.appG ownx (by first | rfl | simp) (by first | rfl | (simp; done) | (simp; omega))
     clear ownx g hb hlo sepo
     refine sT [(6,.slice ad65 (ni + 1) cap66)] fun a hF => ?_
     refine rS hF ?_
     refine tN 1 (.slice (some ⟨h67.size,0,none⟩) 1 1) #[.bool false] 4 fun h68 g69 m70 => ?_
     have lt71 := blk_lt m70
     have zs72 := e0.size
     have zs73 := sz1
     replace sep := sep.nw e0.size m70
     replace sz1 := Nat.le_trans sz1 g69.size
     replace own_g := own_g.ext g69
     refine tF 2 (Does.append2 (t := 68) (E := 4) (sz := 1) (by_ := 1) (n := ni) (m := 1) (v := .slice ga ni gc) (x := .slice (some ⟨h67.size,0,none⟩) 1 1) (xs := (I.map kpG)) (ys := [.bool false]) (by kernel_rfl) (by kernel_rfl) own_g (Row.blk (n := 1) (sz := 1) (l := [.bool false]) m70 rfl) (List.all_eq_true.1 (by rfl)) (by unfold maxLen; omega) (by omega)) ?_
     rintro _ h76 ⟨ad74,cap75,rfl,ownx,g,hb⟩
     rw [blkOf_slice] at g hb
     replace e0 := e0.ext g69
     have hlo := e0.size
     have sepo := sep
     replace kt := kt.ext g69
     replace own_i := own_i.ext g69
     replace own_y := own_y.ext g69
     replace hM := hM.ext g69
     replace m26 := Ext.blk g69 m26
     replace m43 := Ext.blk g69 m43
     replace m52 := Ext.blk g69 m52
     replace m61 := Ext.blk g69 m61
     replace e0 := e0.grew g (sep.low 5 rfl)
     replace kt := kt.grew g (sep.zero 5 rfl h0s)
     replace own_i := own_i.kept g (by rw [blkOf_slice]; exact (sep.ap 7 5))
     replace own_y := own_y.kept g (by rw [blkOf_slice]; exact (sep.ap 6 5))
     replace hM := hM.ownB g own_g (blkOf_slice ..) (by decide) (by decide)
     replace sz1 := Nat.le_trans sz1 g.1
     replace m26 := Grew.blk g m26 ((sep.bp 4 5))
     replace m43 := Grew.blk g m43 ((sep.bp 3 5))
     replace m52 := Grew.blk g m52 ((sep.bp 2 5))
     replace m61 := Grew.blk g m61 ((sep.bp 1 5))
     replace m70 := Grew.blk g m70 ((sep.bp 0 5))
     replace sep := sep.up g.size
     replace sep : Sep h.size h76.size [some (h67.size),some (h58.size),some (h47.size),some (h40.size),some (h22.size),ad74.map (·.block),ad65.map (·.block),ad56.map (·.block)] := sepo.set g.size hlo 5 (y := ad74.map (fun (x : Addr) => x.block)) rfl (hb.imp id fun e => .inr ⟨_,e,Nat.le_refl _⟩) (fun k e => ownx.lt (by rw [blkOf_slice]; exact e))
     replace own_g : Own h76 (.slice ad74 (ni + 1) cap75) 4 (ni + 1) 1 (I.map kpG ++ [.bool false]) := Own.appG ownx (by first | rfl | simp) (by first | rfl | (simp; done) | (simp; omega))
     clear ownx g hb hlo sepo
     refine sE [(7,.slice ad74 (ni + 1) cap75)] fun a hF => ?_
     refine bK ?_
     refine bK ?_
     refine tK ?_
     refine rS hF ?_
     refine tA 1 k 1 ?_
     refine sE [(8,nV (k + 1))] fun a hF => ?_
     clear m26 lt27 zs28 zs29
     clear m43 lt44 zs45 zs46
     clear m52 lt53 zs54 zs55
     clear m61 lt62 zs63 zs64
     clear m70 lt71 zs72 zs73
     replace sep := sep.sub (l' := [ad74.map (·.block),ad65.map (·.block),ad56.map (·.block)]) (.cons _ (.cons _ (.cons _ (.cons _ (.cons _ (.cons_cons _ (.cons_cons _ (.cons_cons _ (.slnil)))))))))
     replace own_i := own_i.as (kp_snoc kpI I (x,false))
     replace own_y := own_y.as (kp_snoc kpB I (x,false))
     replace own_g := own_g.as (kp_snoc kpG I (x,false))
     have hni2 : (I ++ [(x,false)]).length = ni + 1 := by rw [List.length_append,hni]; rfl
     have hIo2 := kp_more hIo hox
     show ∃ m',m' < _ ∧ _
     refine ⟨_,?_,(k + 1),N,(I ++ [(x,false)]),(ni + 1),ad56,cap57,ad65,cap66,ad74,cap75,rfl,e0,kt,(by omega),hv2,hni2,(by omega),hIo2,hM,sz1,own_i,own_y,own_g,sep,hF.to⟩
     omega
    ·skip
     refine rS hF ?_
     refine tO 1 1 m26 ?_
     refine tC 2 (.bool false) (Does.call (f := 27) (args := #[.string x.s]) (by kernel_rfl) (rname_no _ x.s hox.2 hok)) ?_
     refine sE [(12,.bool false)] fun a hF => ?_
     refine tK ?_
     refine cS ?_
     refine qS hF ?_
     refine tC 2 (.int .i64 X.c) (Calm.load (T := 37) (p := ⟨h40.size,0,none⟩) (by kernel_rfl) (Loads.one (k := 1) (by kernel_rfl) ((hcell_blk m43).trans (rfl)))) ?_
     refine t1 3 (.bool false) (.bool (X.c == (0 : Int))) (congrArg Value.bool (beq_eq_false_iff_ne.2 (by omega))) ?_
     refine sT [(81,.bool false)] fun a hF => ?_
     refine cF 81 hF ?_
     refine cN ?_
     refine tK ?_
     refine qP [(82,.bool false)] hF fun a hF => ?_
     refine cF 82 hF ?_
     refine cN ?_
     refine bK ?_
     refine bK ?_
     refine tK ?_
     refine rS hF ?_
     refine tA 1 k 1 ?_
     refine sE [(8,nV (k + 1))] fun a hF => ?_
     clear m26 lt27 zs28 zs29
     clear m43 lt44 zs45 zs46
     replace e0 := (e0.ext g42).grew g48 (sep.low 0 rfl)
     replace kt := (kt.ext g42).grew g48 (sep.zero 0 rfl h0s)
     replace own_i := (own_i.ext g42).kept g48 (by rw [blkOf_slice]; exact (sep.ap 4 0))
     replace own_y := (own_y.ext g42).kept g48 (by rw [blkOf_slice]; exact (sep.ap 3 0))
     replace own_g := (own_g.ext g42).kept g48 (by rw [blkOf_slice]; exact (sep.ap 2 0))
     replace sep := sep.up g48.size
     replace sep := sep.sub (l' := [ga.map (·.block),ya.map (·.block),ia.map (·.block)]) (.cons _ (.cons _ (.cons_cons _ (.cons_cons _ (.cons_cons _ (.slnil))))))
     have hni2 := hni
     have hIo2 := hIo
     show ∃ m',m' < _ ∧ _
     refine ⟨_,?_,(k + 1),N,I,ni,ia,ic,ya,yc,ga,gc,rfl,e0,kt,(by omega),hv2,hni2,(by omega),hIo2,hM,sz1,own_i,own_y,own_g,sep,hF.to⟩
     omega
    ·skip
     refine rS hF ?_
     refine tO 1 1 m26 ?_
     refine tC 2 (.bool true) (Does.call (f := 27) (args := #[.string x.s]) (by kernel_rfl) (rname_yes _ x.s hok)) ?_
     refine tO 5 2 m26 ?_
     refine tX 7 (((x.l.length : Nat) : Int) ≤ (512 : Int)) ?_
     refine sE [(12,.bool false)] fun a hF => ?_
     refine tK ?_
     refine cS ?_
     refine qS hF ?_
     refine tC 2 (.int .i64 X.c) (Calm.load (T := 37) (p := ⟨h40.size,0,none⟩) (by kernel_rfl) (Loads.one (k := 1) (by kernel_rfl) ((hcell_blk m43).trans (rfl)))) ?_
     refine t1 3 (.bool false) (.bool (X.c == (0 : Int))) (congrArg Value.bool (beq_eq_false_iff_ne.2 (by omega))) ?_
     refine sT [(81,.bool false)] fun a hF => ?_
     refine cF 81 hF ?_
     refine cN ?_
     refine tK ?_
     refine qP [(82,.bool false)] hF fun a hF => ?_
     refine cF 82 hF ?_
     refine cN ?_
     refine bK ?_
     refine bK ?_
     refine tK ?_
     refine rS hF ?_
     refine tA 1 k 1 ?_
     refine sE [(8,nV (k + 1))] fun a hF => ?_
     clear m26 lt27 zs28 zs29
     clear m43 lt44 zs45 zs46
     replace e0 := (e0.ext g42).grew g48 (sep.low 0 rfl)
     replace kt := (kt.ext g42).grew g48 (sep.zero 0 rfl h0s)
     replace own_i := (own_i.ext g42).kept g48 (by rw [blkOf_slice]; exact (sep.ap 4 0))
     replace own_y := (own_y.ext g42).kept g48 (by rw [blkOf_slice]; exact (sep.ap 3 0))
     replace own_g := (own_g.ext g42).kept g48 (by rw [blkOf_slice]; exact (sep.ap 2 0))
     replace sep := sep.up g48.size
     replace sep := sep.sub (l' := [ga.map (·.block),ya.map (·.block),ia.map (·.block)]) (.cons _ (.cons _ (.cons_cons _ (.cons_cons _ (.cons_cons _ (.slnil))))))
     have hni2 := hni
     have hIo2 := hIo
     show ∃ m',m' < _ ∧ _
     refine ⟨_,?_,(k + 1),N,I,ni,ia,ic,ya,yc,ga,gc,rfl,e0,kt,(by omega),hv2,hni2,(by omega),hIo2,hM,sz1,own_i,own_y,own_g,sep,hF.to⟩
     omega
    ·skip
     refine rS hF ?_
     refine tO 1 1 m26 ?_
     refine tC 2 (.bool true) (Does.call (f := 27) (args := #[.string x.s]) (by kernel_rfl) (rname_yes _ x.s hok)) ?_
     refine tO 5 2 m26 ?_
     refine tT 7 (((x.l.length : Nat) : Int) ≤ (512 : Int)) ?_
     refine t1 13 (.bool false) (.bool (((j : Nat) : Int) == ((ni : Nat) : Int))) (congrArg Value.bool (beq_eq_false_iff_ne.2 (by omega))) ?_
     refine sE [(12,.bool false)] fun a hF => ?_
     refine tK ?_
     refine cS ?_
     refine qS hF ?_
     refine tC 2 (.int .i64 X.c) (Calm.load (T := 37) (p := ⟨h40.size,0,none⟩) (by kernel_rfl) (Loads.one (k := 1) (by kernel_rfl) ((hcell_blk m43).trans (rfl)))) ?_
     refine t1 3 (.bool false) (.bool (X.c == (0 : Int))) (congrArg Value.bool (beq_eq_false_iff_ne.2 (by omega))) ?_
     refine sT [(81,.bool false)] fun a hF => ?_
     refine cF 81 hF ?_
     refine cN ?_
     refine tK ?_
     refine qP [(82,.bool false)] hF fun a hF => ?_
     refine cF 82 hF ?_
     refine cN ?_
     refine bK ?_
     refine bK ?_
     refine tK ?_
     refine rS hF ?_
     refine tA 1 k 1 ?_
     refine sE [(8,nV (k + 1))] fun a hF => ?_
     clear m26 lt27 zs28 zs29
     clear m43 lt44 zs45 zs46
     replace e0 := (e0.ext g42).grew g48 (sep.low 0 rfl)
     replace kt := (kt.ext g42).grew g48 (sep.zero 0 rfl h0s)
     replace own_i := (own_i.ext g42).kept g48 (by rw [blkOf_slice]; exact (sep.ap 4 0))
     replace own_y := (own_y.ext g42).kept g48 (by rw [blkOf_slice]; exact (sep.ap 3 0))
     replace own_g := (own_g.ext g42).kept g48 (by rw [blkOf_slice]; exact (sep.ap 2 0))
     replace sep := sep.up g48.size
     replace sep := sep.sub (l' := [ga.map (·.block),ya.map (·.block),ia.map (·.block)]) (.cons _ (.cons _ (.cons_cons _ (.cons_cons _ (.cons_cons _ (.slnil))))))
     have hni2 := hni
     have hIo2 := hIo
     show ∃ m',m' < _ ∧ _
     refine ⟨_,?_,(k + 1),N,I,ni,ia,ic,ya,yc,ga,gc,rfl,e0,kt,(by omega),hv2,hni2,(by omega),hIo2,hM,sz1,own_i,own_y,own_g,sep,hF.to⟩
     omega
   ·skip
    refine qP [(96,.bool (decide (x.kd = (6 : Int))))] hF fun a hF => ?_
    refine cJ 96 hF (fun hc77 => ?_) fun hc77 => ?_
    ·skip
     refine cS ?_
     refine cS ?_
     rcases keep_del hv hs (by assumption) hjn with ⟨hXc,z,hz,hzg,hv2⟩ | ⟨hXc,hv2⟩
     ·skip
      have hjl := (List.getElem?_eq_some_iff.1 hz).1
      have hFn := hF
      replace own_g := (own_g.ext g42).kept g48 (by rw [blkOf_slice]; exact (sep.ap 2 0))
      obtain ⟨ag,rfl,hcap_ag⟩ := own_g.someA (by omega)
      have hF := hFn; clear hFn
      refine rS hF ?_
      refine tC 1 (.int .i64 X.c) (Calm.load (T := 37) (p := ⟨h40.size,0,none⟩) (by kernel_rfl) (Loads.one (k := 1) (by kernel_rfl) ((hcell_blk m43).trans (rfl)))) ?_
      refine t1 2 (.bool true) (.bool (X.c == (0 : Int))) (congrArg Value.bool (beq_iff_eq.2 (by omega))) ?_
      refine t1 7 (.bool false) (.bool (((j : Nat) : Int) == ((ni : Nat) : Int))) (congrArg Value.bool (beq_eq_false_iff_ne.2 (by omega))) ?_
      refine tI 11 ag ni 1 j j ?_
      refine tC 12 (.bool false) (Calm.load (T := 4) (p := (Addr.add ag j)) (by kernel_rfl) (Loads.one (k := 1) (by kernel_rfl) ((hzg ▸ own_g.row.cells j (kpG z) (kp_at hz))))) ?_
      refine sE [(112,.bool false)] fun a hF => ?_
      refine tK ?_
      refine cF 112 hF ?_
      refine cN ?_
      refine tK ?_
      refine qS hF ?_
      refine tC 1 (.int .i64 X.c) (Calm.load (T := 37) (p := ⟨h40.size,0,none⟩) (by kernel_rfl) (Loads.one (k := 1) (by kernel_rfl) ((hcell_blk m43).trans (rfl)))) ?_
      refine t1 2 (.bool true) (.bool (X.c == (0 : Int))) (congrArg Value.bool (beq_iff_eq.2 (by omega))) ?_
      refine sT [(115,.bool true)] fun a hF => ?_
      refine cT 115 hF ?_
      refine rS hF ?_
      refine tI 2 ag ni 1 j j ?_
      refine tF 3 (Does.storeOwn (a := ag) (q := j) (vs := [.bool true]) (by kernel_rfl) own_g (by show j + 1 ≤ ni * 1; omega) (List.all_eq_true.1 (by rfl))) ?_
      rintro _ h78 ⟨rfl,ownx,g⟩
      replace e0 := (e0.ext g42).grew g48 (sep.low 0 rfl)
      replace kt := (kt.ext g42).grew g48 (sep.zero 0 rfl h0s)
      replace own_i := (own_i.ext g42).kept g48 (by rw [blkOf_slice]; exact (sep.ap 4 0))
      replace own_y := (own_y.ext g42).kept g48 (by rw [blkOf_slice]; exact (sep.ap 3 0))
      replace sep := sep.up g48.size
      replace e0 := e0.grew g (sep.low 2 rfl)
      replace kt := kt.grew g (sep.zero 2 rfl h0s)
      replace own_i := own_i.kept g (by rw [blkOf_slice]; exact (sep.ap 4 2))
      replace own_y := own_y.kept g (by rw [blkOf_slice]; exact (sep.ap 3 2))
      replace hM := hM.ownB g own_g (blkOf_slice ..) (by decide) (by decide)
      replace sz1 := Nat.le_trans sz1 g.1
      replace m26 := Grew.blk g m26 ((sep.bp 1 2))
      replace m43 := Grew.blk g m43 ((sep.bp 0 2))
      replace sep := sep.up g.size
      clear own_g; have own_g := ownx; clear ownx g
      refine sE [] fun a hF => ?_
      refine bK ?_
      refine bK ?_
      refine tK ?_
      refine rS hF ?_
      refine tA 1 k 1 ?_
      refine sE [(8,nV (k + 1))] fun a hF => ?_
      clear m26 lt27 zs28 zs29
      clear m43 lt44 zs45 zs46
      replace sep := sep.sub (l' := [(some ag).map (·.block),ya.map (·.block),ia.map (·.block)]) (.cons _ (.cons _ (.cons_cons _ (.cons_cons _ (.cons_cons _ (.slnil))))))
      replace own_i := own_i.as (kp_set (f := kpI) hz (z.1,true) rfl)
      replace own_y := own_y.as (kp_set (f := kpB) hz (z.1,true) rfl)
      replace own_g := own_g.as (kp_put (f := kpG) hz (z.1,true))
      have hni2 : (I.set j (z.1,true)).length = ni := by rw [List.length_set,hni]
      have hIo2 := kp_keep hIo hz
      show ∃ m',m' < _ ∧ _
      refine ⟨_,?_,(k + 1),N,(I.set j (z.1,true)),ni,ia,ic,ya,yc,(some ag),gc,rfl,e0,kt,(by omega),hv2,hni2,(by omega),hIo2,hM,sz1,own_i,own_y,own_g,sep,hF.to⟩
      omega
     ·skip
      refine rS hF ?_
      refine tC 1 (.int .i64 X.c) (Calm.load (T := 37) (p := ⟨h40.size,0,none⟩) (by kernel_rfl) (Loads.one (k := 1) (by kernel_rfl) ((hcell_blk m43).trans (rfl)))) ?_
      refine t1 2 (.bool false) (.bool (X.c == (0 : Int))) (congrArg Value.bool (beq_eq_false_iff_ne.2 (by omega))) ?_
      refine sE [(112,.bool false)] fun a hF => ?_
      refine tK ?_
      refine cF 112 hF ?_
      refine cN ?_
      refine tK ?_
      refine qS hF ?_
      refine tC 1 (.int .i64 X.c) (Calm.load (T := 37) (p := ⟨h40.size,0,none⟩) (by kernel_rfl) (Loads.one (k := 1) (by kernel_rfl) ((hcell_blk m43).trans (rfl)))) ?_
      refine t1 2 (.bool false) (.bool (X.c == (0 : Int))) (congrArg Value.bool (beq_eq_false_iff_ne.2 (by omega))) ?_
      refine sT [(115,.bool false)] fun a hF => ?_
      refine cF 115 hF ?_
      refine cN ?_
      refine bK ?_
      refine bK ?_
      refine tK ?_
      refine rS hF ?_
      refine tA 1 k 1 ?_
      refine sE [(8,nV (k + 1))] fun a hF => ?_
      clear m26 lt27 zs28 zs29
      clear m43 lt44 zs45 zs46
      replace e0 := (e0.ext g42).grew g48 (sep.low 0 rfl)
      replace kt := (kt.ext g42).grew g48 (sep.zero 0 rfl h0s)
      replace own_i := (own_i.ext g42).kept g48 (by rw [blkOf_slice]; exact (sep.ap 4 0))
      replace own_y := (own_y.ext g42).kept g48 (by rw [blkOf_slice]; exact (sep.ap 3 0))
      replace own_g := (own_g.ext g42).kept g48 (by rw [blkOf_slice]; exact (sep.ap 2 0))
      replace sep := sep.up g48.size
      replace sep := sep.sub (l' := [ga.map (·.block),ya.map (·.block),ia.map (·.block)]) (.cons _ (.cons _ (.cons_cons _ (.cons_cons _ (.cons_cons _ (.slnil))))))
      have hni2 := hni
      have hIo2 := hIo
      show ∃ m',m' < _ ∧ _
      refine ⟨_,?_,(k + 1),N,I,ni,ia,ic,ya,yc,ga,gc,rfl,e0,kt,(by omega),hv2,hni2,(by omega),hIo2,hM,sz1,own_i,own_y,own_g,sep,hF.to⟩
      omega
    ·skip
     have hv2 := keep_other hv hs (by assumption) (by assumption)
     refine cN ?_
     refine bK ?_
     refine bK ?_
     refine tK ?_
     refine rS hF ?_
     refine tA 1 k 1 ?_
     refine sE [(8,nV (k + 1))] fun a hF => ?_
     clear m26 lt27 zs28 zs29
     clear m43 lt44 zs45 zs46
     replace e0 := (e0.ext g42).grew g48 (sep.low 0 rfl)
     replace kt := (kt.ext g42).grew g48 (sep.zero 0 rfl h0s)
     replace own_i := (own_i.ext g42).kept g48 (by rw [blkOf_slice]; exact (sep.ap 4 0))
     replace own_y := (own_y.ext g42).kept g48 (by rw [blkOf_slice]; exact (sep.ap 3 0))
     replace own_g := (own_g.ext g42).kept g48 (by rw [blkOf_slice]; exact (sep.ap 2 0))
     replace sep := sep.up g48.size
     replace sep := sep.sub (l' := [ga.map (·.block),ya.map (·.block),ia.map (·.block)]) (.cons _ (.cons _ (.cons_cons _ (.cons_cons _ (.cons_cons _ (.slnil))))))
     have hni2 := hni
     have hIo2 := hIo
     show ∃ m',m' < _ ∧ _
     refine ⟨_,?_,(k + 1),N,I,ni,ia,ic,ya,yc,ga,gc,rfl,e0,kt,(by omega),hv2,hni2,(by omega),hIo2,hM,sz1,own_i,own_y,own_g,sep,hF.to⟩
     omega
 ·skip
  refine cX 0 (xT (xT (xB ?_)))
  refine tK ?_
  refine qS hF ?_
  obtain ⟨J,hJ⟩ : ∃ J,idsM R = J := ⟨_,rfl⟩
  have hJl : J.length = (liveI I).length := hJ ▸ ki_idsLen hv
  have lb85 := hM.mod.kb
  refine tG 2 (do_kw _ mb mp R hM (w2_lt own_i own_y) 7 0 ByteArray.empty [] none 0 none 0 0 (Row.nil _ _) (by decide) kt (by have := hv.len; omega) R ({ an0 with i := J }) ((step_ids rfl).trans (by rw [hJ]))) ?_
  rintro _ h86 ⟨qa79,qc80,ia81,ic82,pa83,pc84,rfl,_,ti,_,_,m2,gm,_⟩
  replace own_i := Gr.own gm own_i (by rw [blkOf_slice]; exact hM.mod.nown own_i (by decide))
  replace own_y := Gr.own gm own_y (by rw [blkOf_slice]; exact hM.mod.nown own_y (by decide))
  replace own_g := Gr.own gm own_g (by rw [blkOf_slice]; exact hM.mod.nown own_g (by decide))
  replace e0 := Gr.toExt e0 gm (by rintro i (e | e) <;> omega)
  replace kt := kt.gr gm (by rintro (e | e) <;> omega)
  replace sep := sep.up gm.1
  replace sz1 := Nat.le_trans sz1 gm.1
  clear hM; have hM := m2; clear m2 gm
  refine tN 3 (pV h86.size) ((asc (0 : Int) (.slice none 0 0) rb0 (0 : Int) false false (.slice none 0 0) (0 : Int) rb0 (0 : Int) (.slice none 0 0)).toArray) 47 fun h87 g88 m89 => ?_
  have lt90 := blk_lt m89
  have zs91 := e0.size
  have zs92 := sz1
  replace sep := sep.nw e0.size m89
  replace sz1 := Nat.le_trans sz1 g88.size
  refine tV0 4 (asc (0 : Int) (.slice qa79 0 qc80) rb0 (0 : Int) false false (.slice ia81 J.length ic82) (0 : Int) rb0 (0 : Int) (.slice pa83 0 pc84)) m89 fun h93 g94 zq => ?_
  replace hM := hM.ext g88
  replace hM := hM.put1 g94 m89 (by decide) (by omega)
  replace sz1 := Nat.le_trans sz1 g94.1
  replace ti := ti.ext g88
  replace ti := ti.put1 g94 m89 (by decide)
  replace m89 := zq
  refine sT [(13,pV h86.size)] fun a hF => ?_
  refine qS hF ?_
  have lb101 := hM.mod.kb
  replace e0 := (e0.ext g88).grew g94 (sep.low 0 rfl)
  replace kt := (kt.ext g88).grew g94 (sep.zero 0 rfl h0s)
  replace own_i := (own_i.ext g88).kept g94 (by rw [blkOf_slice]; exact (sep.ap 3 0))
  replace own_y := (own_y.ext g88).kept g94 (by rw [blkOf_slice]; exact (sep.ap 2 0))
  replace own_g := (own_g.ext g88).kept g94 (by rw [blkOf_slice]; exact (sep.ap 1 0))
  replace sep := sep.up g94.size
  refine tG 2 (do_kw _ mb mp R hM (w2_lt own_i own_y) 9 0 ByteArray.empty [] none 0 none 0 0 (Row.nil _ _) (by decide) kt (by have := hv.len; omega) R ({ an0 with n := ((R.E.length : Nat) : Int),y := rbh (root (ledH R.E)) }) (step_head rfl)) ?_
  rintro _ h102 ⟨qa95,qc96,ia97,ic98,pa99,pc100,rfl,_,_,_,_,m2,gm,_⟩
  replace m89 := gm.blk m89 (by omega) (by omega)
  replace ti := ti.mgM gm hM.mod
  replace own_i := Gr.own gm own_i (by rw [blkOf_slice]; exact hM.mod.nown own_i (by decide))
  replace own_y := Gr.own gm own_y (by rw [blkOf_slice]; exact hM.mod.nown own_y (by decide))
  replace own_g := Gr.own gm own_g (by rw [blkOf_slice]; exact hM.mod.nown own_g (by decide))
  replace e0 := Gr.toExt e0 gm (by rintro i (e | e) <;> omega)
  replace kt := kt.gr gm (by rintro (e | e) <;> omega)
  replace sep := sep.up gm.1
  replace sz1 := Nat.le_trans sz1 gm.1
  clear hM; have hM := m2; clear m2 gm
  refine tN 3 (pV h102.size) ((asc (0 : Int) (.slice none 0 0) rb0 (0 : Int) false false (.slice none 0 0) (0 : Int) rb0 (0 : Int) (.slice none 0 0)).toArray) 47 fun h103 g104 m105 => ?_
  have lt106 := blk_lt m105
  have zs107 := e0.size
  have zs108 := sz1
  replace sep := sep.nw e0.size m105
  replace sz1 := Nat.le_trans sz1 g104.size
  refine tV0 4 (asc (0 : Int) (.slice qa95 0 qc96) rb0 (0 : Int) false false (.slice ia97 0 ic98) ((R.E.length : Nat) : Int) (rbh (root (ledH R.E))) (0 : Int) (.slice pa99 0 pc100)) m105 fun h109 g110 zq => ?_
  replace hM := hM.ext g104
  replace hM := hM.put1 g110 m105 (by decide) (by omega)
  replace sz1 := Nat.le_trans sz1 g110.1
  replace ti := ti.ext g104
  replace ti := ti.put1 g110 m105 (by decide)
  replace m105 := zq
  refine sT [(14,pV h102.size)] fun a hF => ?_
  refine qP [(15,.int .i64 0)] hF fun a hF => ?_
  refine cS ?_
  refine qP [(16,.int .i64 0)] hF fun a hF => ?_
  refine cB 5 ?_
  replace e0 := (e0.ext g104).grew g110 (sep.low 0 rfl)
  replace kt := (kt.ext g104).grew g110 (sep.zero 0 rfl h0s)
  replace own_i := (own_i.ext g104).kept g110 (by rw [blkOf_slice]; exact (sep.ap 4 0))
  replace own_y := (own_y.ext g104).kept g110 (by rw [blkOf_slice]; exact (sep.ap 3 0))
  replace own_g := (own_g.ext g104).kept g110 (by rw [blkOf_slice]; exact (sep.ap 2 0))
  replace m89 := Grew.blk g110 (Ext.blk g104 m89) ((sep.bp 1 0))
  replace sep := sep.up g110.size
  refine cL (fun m a h' => ∃ q : Nat,m = I.length - q ∧ (Ext h h') ∧ (Ktab h') ∧ (h'[h86.size]? = some (.cells (asc (0 : Int) (.slice qa79 0 qc80) rb0 (0 : Int) false false (.slice ia81 J.length ic82) (0 : Int) rb0 (0 : Int) (.slice pa83 0 pc84)).toArray 47)) ∧ (h'[h102.size]? = some (.cells (asc (0 : Int) (.slice qa95 0 qc96) rb0 (0 : Int) false false (.slice ia97 0 ic98) ((R.E.length : Nat) : Int) (rbh (root (ledH R.E))) (0 : Int) (.slice pa99 0 pc100)).toArray 47)) ∧ (q ≤ ni) ∧ (ModW (W2 ia ya) h' mb mp R) ∧ (RowE h' (.slice ia81 J.length ic82) J.length 1 (J.map Value.string)) ∧ (h3.size ≤ h'.size) ∧ (Own h' (.slice ia ni ic) 9 ni 1 (I.map kpI)) ∧ (Own h' (.slice ya ni yc) 32 ni 1 (I.map kpB)) ∧ (Own h' (.slice ga ni gc) 4 ni 1 (I.map kpG)) ∧ (Sep h.size h'.size [some (h102.size),some (h86.size),ga.map (·.block),ya.map (·.block),ia.map (·.block)]) ∧ (Fr a 279 [(3,.bool true),(4,.pointer (some ⟨mb,0,none⟩)),(5,.slice ia ni ic),(6,.slice ya ni yc),(7,.slice ga ni gc),(13,.pointer (some ⟨h86.size,0,none⟩)),(14,.pointer (some ⟨h102.size,0,none⟩)),(15,.int .i64 (((liveI (I.take q)).length : Nat) : Int)),(16,.int .i64 ((q : Nat) : Int))])) (I.length - 0) ⟨0,rfl,e0,kt,m89,m105,(Nat.zero_le _),hM,ti,sz1,own_i,own_y,own_g,sep,hF.to⟩ ?_
  clear hF a
  clear e0
  clear kt
  clear m89
  clear m105
  clear hM
  clear ti
  clear sz1
  clear own_i
  clear own_y
  clear own_g
  clear sep
  rintro m a h111 ⟨q,rfl,e0,kt,m89,m105,hq,hM,ti,sz1,own_i,own_y,own_g,sep,hF⟩
  refine cS ?_
  refine qP [(128,.bool (decide (((q : Nat) : Int) < ((ni : Nat) : Int))))] hF fun a hF => ?_
  refine cJ 128 hF (fun hc112 => ?_) fun hc112 => ?_
  ·skip
   have hqn : q < I.length := by omega
   obtain ⟨z,hz⟩ : ∃ z,I[q]? = some z := ⟨_,List.getElem?_eq_getElem hqn⟩
   have hzo := hIo z (List.mem_of_getElem? hz)
   obtain ⟨hzn,hzl,_,_⟩ := hv.at_ q z hz
   have hFn := hF
   obtain ⟨ai,rfl,hcap_ai⟩ := own_i.someA (by omega)
   have hF := hFn; clear hFn
   have hFn := hF
   obtain ⟨ay,rfl,hcap_ay⟩ := own_y.someA (by omega)
   have hF := hFn; clear hFn
   have hFn := hF
   obtain ⟨ag,rfl,hcap_ag⟩ := own_g.someA (by omega)
   have hF := hFn; clear hFn
   refine cN ?_
   refine tK ?_
   refine cS ?_
   refine cB 6 ?_
   refine qS hF ?_
   refine tI 3 ai ni 1 q q ?_
   refine tC 4 (.string z.1.s) (Calm.load (T := 9) (p := (Addr.add ai q)) (by kernel_rfl) (Loads.one (k := 1) (by kernel_rfl) (own_i.row.cells q (kpI z) (kp_at hz)))) ?_
   obtain ⟨X,hX⟩ : ∃ X : An,(if z.2 = true then anC 213 else { an0 with b := z.1.l }) = X := ⟨_,rfl⟩
   have lb119 := hM.mod.kb
   refine tG 6 (do_kw _ mb mp R hM (w2_lt own_i own_y) 2 0 z.1.s [] none 0 none 0 0 (Row.nil _ _) hzo.2 kt (by have := hv.len; omega) R X ((ki_get2 hv hz 0 []).trans (by rw [hX]))) ?_
   rintro _ h120 ⟨qa113,qc114,ia115,ic116,pa117,pc118,rfl,gb,_,_,_,m2,gm,_⟩
   replace m89 := gm.blk m89 (by omega) (by omega)
   replace m105 := gm.blk m105 (by omega) (by omega)
   replace ti := ti.mgM gm hM.mod
   replace own_i := Gr.own gm own_i (by rw [blkOf_slice]; exact hM.mod.nown own_i (by decide))
   replace own_y := Gr.own gm own_y (by rw [blkOf_slice]; exact hM.mod.nown own_y (by decide))
   replace own_g := Gr.own gm own_g (by rw [blkOf_slice]; exact hM.mod.nown own_g (by decide))
   replace e0 := Gr.toExt e0 gm (by rintro i (e | e) <;> omega)
   replace kt := kt.gr gm (by rintro (e | e) <;> omega)
   replace sep := sep.up gm.1
   replace sz1 := Nat.le_trans sz1 gm.1
   clear hM; have hM := m2; clear m2 gm
   refine tN 7 (pV h120.size) ((asc (0 : Int) (.slice none 0 0) rb0 (0 : Int) false false (.slice none 0 0) (0 : Int) rb0 (0 : Int) (.slice none 0 0)).toArray) 47 fun h121 g122 m123 => ?_
   have lt124 := blk_lt m123
   have zs125 := e0.size
   have zs126 := sz1
   replace sep := sep.nw e0.size m123
   replace sz1 := Nat.le_trans sz1 g122.size
   refine tV0 8 (asc X.c (.slice qa113 X.b.length qc114) X.sx X.se X.sh X.sg (.slice ia115 X.i.length ic116) X.n X.y X.k (.slice pa117 X.p.length pc118)) m123 fun h127 g128 zq => ?_
   replace hM := hM.ext g122
   replace hM := hM.put1 g128 m123 (by decide) (by omega)
   replace sz1 := Nat.le_trans sz1 g128.1
   replace ti := ti.ext g122
   replace ti := ti.put1 g128 m123 (by decide)
   replace gb := gb.ext g122
   replace gb := gb.put1 g128 m123 (by decide)
   replace m123 := zq
   refine sT [(17,pV h120.size)] fun a hF => ?_
   refine cS ?_
   refine cS ?_
   refine C.mono (K := fun e a hJ => e = .normal ∧ h127 = hJ ∧ ∃ (un : Unit),True ∧ Fr a 279 [(3,.bool true),(4,.pointer (some ⟨mb,0,none⟩)),(5,.slice (some ai) ni ic),(6,.slice (some ay) ni yc),(7,.slice (some ag) ni gc),(13,.pointer (some ⟨h86.size,0,none⟩)),(14,.pointer (some ⟨h102.size,0,none⟩)),(15,.int .i64 (((liveI (I.take q)).length : Nat) : Int)),(16,.int .i64 ((q : Nat) : Int)),(168,.bool false)]) ?_ ?_
   ·skip
    rcases Bool.eq_false_or_eq_true z.2 with hzg | hzg
    ·skip
     have hXc : X.c = 213 := by rw [← hX,if_pos hzg]; rfl
     refine cD [0,0,3,7,0,16,48,127,255,511,511,2047,4095,8191,16383,32767,65535,131071,262143,524287,1048575,2097151,524287,524287,13107199,29884415,63438847,134217727,268435455,536870911,1073741823] 37 mixed hF ?_
     refine mP 3 [0,1] [.slice (some ag) ni gc,nV q] ?_
     refine mF 7 2 (.pointer (some (Addr.add ag q))) (Calm.indexA (a := ag) (len := ni) (sz := 1) (k := ((q : Nat) : Int)) q q (by kernel_rfl) rfl (by omega) (by omega)) ?_
     replace own_g := (own_g.ext g122).kept g128 (by rw [blkOf_slice]; exact (sep.ap 3 0))
     refine mL 15 8 3 (.bool true) (Calm.load (T := 4) (p := (Addr.add ag q)) (by kernel_rfl) (Loads.one (k := 1) (by kernel_rfl) ((hzg ▸ own_g.row.cells q (kpG z) (kp_at hz))))) ?_
     refine mP 31 [4] [pV h120.size] ?_
     refine mL 63 40 5 (.int .i64 X.c) (Calm.load (T := 37) (p := ⟨h120.size,0,none⟩) (by kernel_rfl) (Loads.one (k := 1) (by kernel_rfl) ((hcell_blk m123).trans (rfl)))) ?_
     refine m1 127 6 (.bool true) (.bool (X.c == (213 : Int))) (congrArg Value.bool (beq_iff_eq.2 (by omega))) ?_
     refine mP 2047 [7,8,9,10] [.bool false,.bool false,.slice (some ag) ni gc,nV q] ?_
     refine mF 4095 11 (.pointer (some (Addr.add ag q))) (Calm.indexA (a := ag) (len := ni) (sz := 1) (k := ((q : Nat) : Int)) q q (by kernel_rfl) rfl (by omega) (by omega)) ?_
     refine mL 8191 4136 12 (.bool true) (Calm.load (T := 4) (p := (Addr.add ag q)) (by kernel_rfl) (Loads.one (k := 1) (by kernel_rfl) ((hzg ▸ own_g.row.cells q (kpG z) (kp_at hz))))) ?_
     refine mP 2147483647 [13,14,15,16,17,18,19,20,21,22,23,24,25,26,27,28,29,30] [.bool false,.bool false,undef,undef,undef,undef,undef,undef,undef,undef,undef,undef,undef,undef,undef,undef,.bool false,.bool false] ?_
     refine mE [(168,.bool false)] fun a hF => ?_
     exact ⟨rfl,rfl,⟨⟩,trivial,hF.to⟩
    ·skip
     have hXc : X.c = 0 := by rw [← hX,if_neg (by rw [hzg]; decide)]; rfl
     have hXb : X.b = z.1.l := by rw [← hX,if_neg (by rw [hzg]; decide)]
     refine cD [0,0,3,7,0,16,48,127,255,511,511,2047,4095,8191,16383,32767,65535,131071,262143,524287,1048575,2097151,524287,524287,13107199,29884415,63438847,134217727,268435455,536870911,1073741823] 37 mixed hF ?_
     refine mP 3 [0,1] [.slice (some ag) ni gc,nV q] ?_
     refine mF 7 2 (.pointer (some (Addr.add ag q))) (Calm.indexA (a := ag) (len := ni) (sz := 1) (k := ((q : Nat) : Int)) q q (by kernel_rfl) rfl (by omega) (by omega)) ?_
     replace own_g := (own_g.ext g122).kept g128 (by rw [blkOf_slice]; exact (sep.ap 3 0))
     refine mL 15 8 3 (.bool false) (Calm.load (T := 4) (p := (Addr.add ag q)) (by kernel_rfl) (Loads.one (k := 1) (by kernel_rfl) ((hzg ▸ own_g.row.cells q (kpG z) (kp_at hz))))) ?_
     refine mP 31 [4] [pV h120.size] ?_
     refine mL 63 40 5 (.int .i64 X.c) (Calm.load (T := 37) (p := ⟨h120.size,0,none⟩) (by kernel_rfl) (Loads.one (k := 1) (by kernel_rfl) ((hcell_blk m123).trans (rfl)))) ?_
     refine m1 127 6 (.bool false) (.bool (X.c == (213 : Int))) (congrArg Value.bool (beq_eq_false_iff_ne.2 (by omega))) ?_
     refine mP 2047 [7,8,9,10] [.bool false,.bool false,.slice (some ag) ni gc,nV q] ?_
     refine mF 4095 11 (.pointer (some (Addr.add ag q))) (Calm.indexA (a := ag) (len := ni) (sz := 1) (k := ((q : Nat) : Int)) q q (by kernel_rfl) rfl (by omega) (by omega)) ?_
     refine mL 8191 4136 12 (.bool false) (Calm.load (T := 4) (p := (Addr.add ag q)) (by kernel_rfl) (Loads.one (k := 1) (by kernel_rfl) ((hzg ▸ own_g.row.cells q (kpG z) (kp_at hz))))) ?_
     refine mP 65535 [13,14,15] [.bool true,.bool true,pV h120.size] ?_
     refine mL 131071 69672 16 (.int .i64 X.c) (Calm.load (T := 37) (p := ⟨h120.size,0,none⟩) (by kernel_rfl) (Loads.one (k := 1) (by kernel_rfl) ((hcell_blk m123).trans (rfl)))) ?_
     refine m1 262143 17 (.bool false) (.bool (!(X.c == (0 : Int)))) (congrArg (fun b => Value.bool (!b)) (beq_iff_eq.2 (by omega))) ?_
     refine mP 1048575 [18,19] [.bool false,.pointer (some ⟨h120.size,1,none⟩)] ?_
     refine mL 2097151 1118248 20 (.slice qa113 X.b.length qc114) (Calm.load (T := 32) (p := ⟨h120.size,1,none⟩) (by kernel_rfl) (Loads.one (k := 1) (by kernel_rfl) ((hcell_blk m123).trans (rfl)))) ?_
     refine mL 4194303 3215400 21 (.string (ByteArray.mk X.b.toArray)) (Calm.str (l := X.b) (by kernel_rfl) gb.1) ?_
     refine mP 16777215 [22,23] [.slice (some ay) ni yc,nV q] ?_
     refine mF 33554431 24 (.pointer (some (Addr.add ay q))) (Calm.indexA (a := ay) (len := ni) (sz := 1) (k := ((q : Nat) : Int)) q q (by kernel_rfl) rfl (by omega) (by omega)) ?_
     replace own_y := (own_y.ext g122).kept g128 (by rw [blkOf_slice]; exact (sep.ap 4 0))
     refine mL 67108863 36769832 25 (.slice z.1.oa z.1.l.length z.1.oc) (Calm.load (T := 32) (p := (Addr.add ay q)) (by kernel_rfl) (Loads.one (k := 1) (by kernel_rfl) (own_y.row.cells q (kpB z) (kp_at hz)))) ?_
     replace e0 := (e0.ext g122).grew g128 (sep.low 0 rfl)
     refine mL 134217727 103878696 26 (.string (ByteArray.mk z.1.l.toArray)) (Calm.str (l := z.1.l) (by kernel_rfl) (hzo.ext e0).1) ?_
     refine m1 268435455 27 (.bool false) (.bool (!((ByteArray.mk X.b.toArray).toList == (ByteArray.mk z.1.l.toArray).toList))) (congrArg (fun b => Value.bool (!b)) ((str_beq _ _).trans (decide_eq_true (by rw [hXb])))) ?_
     refine mP 2147483647 [28,29,30] [.bool false,.bool false,.bool false] ?_
     refine mE [(168,.bool false)] fun a hF => ?_
     exact ⟨rfl,rfl,⟨⟩,trivial,hF.to⟩
   ·skip
    rintro e a _ ⟨rfl,rfl,⟨⟩,hjn,hF⟩
    refine tK ?_
    refine cF 168 hF ?_
    refine cN ?_
    refine tK ?_
    refine cS ?_
    refine qS hF ?_
    refine tI 2 ag ni 1 q q ?_
    replace own_g := (own_g.ext g122).kept g128 (by rw [blkOf_slice]; exact (sep.ap 3 0))
    refine tC 3 (.bool z.2) (Calm.load (T := 4) (p := (Addr.add ag q)) (by kernel_rfl) (Loads.one (k := 1) (by kernel_rfl) (own_g.row.cells q (kpG z) (kp_at hz)))) ?_
    refine sT [(173,.bool (!z.2))] fun a hF => ?_
    refine cC 173 (!z.2) hF (fun hc129 => ?_) (fun hc129 => ?_)
    ·skip
     have hlle := liveI_take I q
     have hlv := live_no hz (by simpa using hc129)
     refine rS hF ?_
     refine tA 1 ((liveI (I.take q)).length) 1 ?_
     refine sE [(15,nV (((liveI (I.take q)).length) + 1))] fun a hF => ?_
     rw [hlv] at hF
     refine tK ?_
     refine qS hF ?_
     refine tI 3 ai ni 1 q q ?_
     replace own_i := (own_i.ext g122).kept g128 (by rw [blkOf_slice]; exact (sep.ap 5 0))
     refine tC 4 (.string z.1.s) (Calm.load (T := 9) (p := (Addr.add ai q)) (by kernel_rfl) (Loads.one (k := 1) (by kernel_rfl) (own_i.row.cells q (kpI z) (kp_at hz)))) ?_
     obtain ⟨rb,hrb⟩ : ∃ rb,rbo z.1.s ((z.1.l.length : Nat) : Int) (rootB z.1.l) ((q : Nat) : Int) = rb := ⟨_,rfl⟩
     have hrl : hl rb = rootB z.1.l := hrb ▸ hl_rbo (rootB_len _)
     have hri : rb.idx = ((q : Nat) : Int) := hrb ▸ rfl
     obtain ⟨se,sho,hst⟩ := ki_stat2 hv hz 0 []
     rw [hrb] at hst
     have lb136 := hM.mod.kb
     replace e0 := (e0.ext g122).grew g128 (sep.low 0 rfl)
     replace kt := (kt.ext g122).grew g128 (sep.zero 0 rfl h0s)
     replace own_y := (own_y.ext g122).kept g128 (by rw [blkOf_slice]; exact (sep.ap 4 0))
     replace m89 := Grew.blk g128 (Ext.blk g122 m89) ((sep.bp 2 0))
     replace m105 := Grew.blk g128 (Ext.blk g122 m105) ((sep.bp 1 0))
     replace sep := sep.up g128.size
     refine tG 6 (do_kw _ mb mp R hM (w2_lt own_i own_y) 3 0 z.1.s [] none 0 none 0 0 (Row.nil _ _) hzo.2 kt (by have := hv.len; omega) R ({ an0 with sx := rb,se := se,sh := sho,sg := z.2 }) hst) ?_
     rintro _ h137 ⟨qa130,qc131,ia132,ic133,pa134,pc135,rfl,_,_,_,_,m2,gm,_⟩
     replace m89 := gm.blk m89 (by omega) (by omega)
     replace m105 := gm.blk m105 (by omega) (by omega)
     replace m123 := gm.blk m123 (by omega) (by omega)
     replace ti := ti.mgM gm hM.mod
     replace gb := gb.mgM gm hM.mod
     replace own_i := Gr.own gm own_i (by rw [blkOf_slice]; exact hM.mod.nown own_i (by decide))
     replace own_y := Gr.own gm own_y (by rw [blkOf_slice]; exact hM.mod.nown own_y (by decide))
     replace own_g := Gr.own gm own_g (by rw [blkOf_slice]; exact hM.mod.nown own_g (by decide))
     replace e0 := Gr.toExt e0 gm (by rintro i (e | e) <;> omega)
     replace kt := kt.gr gm (by rintro (e | e) <;> omega)
     replace sep := sep.up gm.1
     replace sz1 := Nat.le_trans sz1 gm.1
     clear hM; have hM := m2; clear m2 gm
     refine tN 7 (pV h137.size) ((asc (0 : Int) (.slice none 0 0) rb0 (0 : Int) false false (.slice none 0 0) (0 : Int) rb0 (0 : Int) (.slice none 0 0)).toArray) 47 fun h138 g139 m140 => ?_
     have lt141 := blk_lt m140
     have zs142 := e0.size
     have zs143 := sz1
     replace sep := sep.nw e0.size m140
     replace sz1 := Nat.le_trans sz1 g139.size
     refine tV0 8 (asc (0 : Int) (.slice qa130 0 qc131) rb se sho z.2 (.slice ia132 0 ic133) (0 : Int) rb0 (0 : Int) (.slice pa134 0 pc135)) m140 fun h144 g145 zq => ?_
     replace hM := hM.ext g139
     replace hM := hM.put1 g145 m140 (by decide) (by omega)
     replace sz1 := Nat.le_trans sz1 g145.1
     replace ti := ti.ext g139
     replace ti := ti.put1 g145 m140 (by decide)
     replace gb := gb.ext g139
     replace gb := gb.put1 g145 m140 (by decide)
     replace m140 := zq
     refine sT [(18,pV h137.size)] fun a hF => ?_
     refine qS hF ?_
     refine tI 3 ai ni 1 q q ?_
     replace own_i := (own_i.ext g139).kept g145 (by rw [blkOf_slice]; exact (sep.ap 6 0))
     refine tC 4 (.string z.1.s) (Calm.load (T := 9) (p := (Addr.add ai q)) (by kernel_rfl) (Loads.one (k := 1) (by kernel_rfl) (own_i.row.cells q (kpI z) (kp_at hz)))) ?_
     obtain ⟨P,hP⟩ : ∃ P,incl (ledH R.E) q = P := ⟨_,rfl⟩
     have hPl : P.length ≤ R.E.length := by have := (step_bnd hM.mod 16 0 z.1.s []).2; rw [ki_prove2 hv hz 0 [] hP] at this; exact this
     have lb152 := hM.mod.kb
     replace e0 := (e0.ext g139).grew g145 (sep.low 0 rfl)
     replace kt := (kt.ext g139).grew g145 (sep.zero 0 rfl h0s)
     replace own_y := (own_y.ext g139).kept g145 (by rw [blkOf_slice]; exact (sep.ap 5 0))
     replace own_g := (own_g.ext g139).kept g145 (by rw [blkOf_slice]; exact (sep.ap 4 0))
     replace m89 := Grew.blk g145 (Ext.blk g139 m89) ((sep.bp 3 0))
     replace m105 := Grew.blk g145 (Ext.blk g139 m105) ((sep.bp 2 0))
     replace m123 := Grew.blk g145 (Ext.blk g139 m123) ((sep.bp 1 0))
     replace sep := sep.up g145.size
     refine tG 6 (do_kw _ mb mp R hM (w2_lt own_i own_y) 16 0 z.1.s [] none 0 none 0 0 (Row.nil _ _) hzo.2 kt (by have := hv.len; omega) R ({ an0 with k := ((q : Nat) : Int),p := P }) (ki_prove2 hv hz 0 [] hP)) ?_
     rintro _ h153 ⟨qa146,qc147,ia148,ic149,pa150,pc151,rfl,_,_,pr,p32,m2,gm,hpv⟩
     replace m89 := gm.blk m89 (by omega) (by omega)
     replace m105 := gm.blk m105 (by omega) (by omega)
     replace m123 := gm.blk m123 (by omega) (by omega)
     replace m140 := gm.blk m140 (by omega) (by omega)
     replace ti := ti.mgM gm hM.mod
     replace gb := gb.mgM gm hM.mod
     replace own_i := Gr.own gm own_i (by rw [blkOf_slice]; exact hM.mod.nown own_i (by decide))
     replace own_y := Gr.own gm own_y (by rw [blkOf_slice]; exact hM.mod.nown own_y (by decide))
     replace own_g := Gr.own gm own_g (by rw [blkOf_slice]; exact hM.mod.nown own_g (by decide))
     replace e0 := Gr.toExt e0 gm (by rintro i (e | e) <;> omega)
     replace kt := kt.gr gm (by rintro (e | e) <;> omega)
     replace sep := sep.up gm.1
     replace sz1 := Nat.le_trans sz1 gm.1
     clear hM; have hM := m2; clear m2 gm
     refine tN 7 (pV h153.size) ((asc (0 : Int) (.slice none 0 0) rb0 (0 : Int) false false (.slice none 0 0) (0 : Int) rb0 (0 : Int) (.slice none 0 0)).toArray) 47 fun h154 g155 m156 => ?_
     have lt157 := blk_lt m156
     have zs158 := e0.size
     have zs159 := sz1
     replace sep := sep.nw e0.size m156
     replace sz1 := Nat.le_trans sz1 g155.size
     refine tV0 8 (asc (0 : Int) (.slice qa146 0 qc147) rb0 (0 : Int) false false (.slice ia148 0 ic149) (0 : Int) rb0 ((q : Nat) : Int) (.slice pa150 P.length pc151)) m156 fun h160 g161 zq => ?_
     replace hM := hM.ext g155
     replace hM := hM.put1 g161 m156 (by decide) (by omega)
     replace sz1 := Nat.le_trans sz1 g161.1
     replace ti := ti.ext g155
     replace ti := ti.put1 g161 m156 (by decide)
     replace gb := gb.ext g155
     replace gb := gb.put1 g161 m156 (by decide)
     replace pr := pr.ext g155
     replace pr := pr.put1 g161 m156 (by decide)
     replace m156 := zq
     refine sT [(19,pV h153.size)] fun a hF => ?_
     refine cS ?_
     refine cD [0,0,3,7,0,0,48,112,240,0,512,1536,4095,8191,16383,16383,32767,131071] 43 mixed hF ?_
     refine mP 3 [0,1] [.slice (some ai) ni ic,nV q] ?_
     refine mF 7 2 (.pointer (some (Addr.add ai q))) (Calm.indexA (a := ai) (len := ni) (sz := 1) (k := ((q : Nat) : Int)) q q (by kernel_rfl) rfl (by omega) (by omega)) ?_
     replace own_i := (own_i.ext g155).kept g161 (by rw [blkOf_slice]; exact (sep.ap 7 0))
     refine mL 15 8 3 (.string z.1.s) (Calm.load (T := 9) (p := (Addr.add ai q)) (by kernel_rfl) (Loads.one (k := 1) (by kernel_rfl) (own_i.row.cells q (kpI z) (kp_at hz)))) ?_
     refine mP 63 [4,5] [.slice (some ay) ni yc,nV q] ?_
     refine mF 127 6 (.pointer (some (Addr.add ay q))) (Calm.indexA (a := ay) (len := ni) (sz := 1) (k := ((q : Nat) : Int)) q q (by kernel_rfl) rfl (by omega) (by omega)) ?_
     replace own_y := (own_y.ext g155).kept g161 (by rw [blkOf_slice]; exact (sep.ap 6 0))
     refine mL 255 136 7 (.slice z.1.oa z.1.l.length z.1.oc) (Calm.load (T := 32) (p := (Addr.add ay q)) (by kernel_rfl) (Loads.one (k := 1) (by kernel_rfl) (own_y.row.cells q (kpB z) (kp_at hz)))) ?_
     refine mP 2047 [8,9,10] [nV z.1.l.length,.pointer (some ⟨h137.size,2,none⟩),.pointer (some ⟨h137.size,3,none⟩)] ?_
     replace m140 := Grew.blk g161 (Ext.blk g155 m140) ((sep.bp 1 0))
     refine mL 4095 2184 11 (.agg ((hl rb).map bv).toArray) (Calm.load (T := 39) (p := ⟨h137.size,3,none⟩) (by kernel_rfl) (Loads.blk (vs := (hl rb).map bv) (by kernel_rfl) m140 rfl)) ?_
     refine mG0 8191 8191 12 (rentry_r _ z.1.s z.1.l.length (rootB z.1.l) rb hrl hzn hzl) ?_
     rintro _ h164 ⟨ad162,cap163,rfl,ownx,hge,g⟩
     replace e0 := (e0.ext g155).grew g161 (sep.low 0 rfl)
     have hlo := e0.size
     replace sep := sep.up g161.size
     have sepo := sep
     replace kt := (kt.ext g155).grew g161 (sep.zero 0 rfl h0s)
     replace own_g := (own_g.ext g155).kept g161 (by rw [blkOf_slice]; exact (sep.ap 5 0))
     replace hpv := fun k e => Nat.lt_of_lt_of_le ((fun k e => Nat.lt_of_lt_of_le (hpv k e) g155.size) k e) g161.1
     replace m89 := Grew.blk g161 (Ext.blk g155 m89) ((sep.bp 4 0))
     replace m105 := Grew.blk g161 (Ext.blk g155 m105) ((sep.bp 3 0))
     replace m123 := Grew.blk g161 (Ext.blk g155 m123) ((sep.bp 2 0))
     replace e0 := e0.ext g
     replace kt := kt.ext g
     replace own_i := own_i.ext g
     replace own_y := own_y.ext g
     replace own_g := own_g.ext g
     replace hM := hM.ext g
     replace sz1 := Nat.le_trans sz1 g.size
     replace ti := ti.ext g
     replace gb := gb.ext g
     replace pr := pr.ext g
     replace hpv := fun k e => Nat.lt_of_lt_of_le (hpv k e) g.size
     replace m89 := Ext.blk g m89
     replace m105 := Ext.blk g m105
     replace m123 := Ext.blk g m123
     replace m140 := Ext.blk g m140
     replace m156 := Ext.blk g m156
     replace sep := sep.up g.size
     replace sep := sepo.cons (x := ad162.map (fun (x : Addr) => x.block)) g.size hlo (fun k e => ⟨hge k e,ownx.lt (by rw [blkOf_slice]; exact e)⟩)
     have own_en : Own h164 (.slice ad162 ((entB z.1.s z.1.l.length (rootB z.1.l)).length) cap163) 5 ((entB z.1.s z.1.l.length (rootB z.1.l)).length) 1 ((entB z.1.s z.1.l.length (rootB z.1.l)).map bv) := ownx; clear ownx sepo hlo hge g
     refine mP 262143 [13,14,15,16,17] [.tuple #[.slice ad162 ((entB z.1.s z.1.l.length (rootB z.1.l)).length) cap163,.int .i64 0],.slice ad162 ((entB z.1.s z.1.l.length (rootB z.1.l)).length) cap163,.int .i64 0,.slice ad162 ((entB z.1.s z.1.l.length (rootB z.1.l)).length) cap163,.int .i64 0] ?_
     refine mE [(20,.slice ad162 ((entB z.1.s z.1.l.length (rootB z.1.l)).length) cap163),(21,.int .i64 0)] fun a hF => ?_
     refine tK ?_
     refine cS ?_
     refine cD [0,1,3,7,15,31,7,127,255,511,1023,2047,4095,1023,1023,25599,58367,131071,262143,524287,1048575,2097151,1048575,8388607,16777215,33554431,67108863,134217727,67108863,67108863,603979775,1677721599,67108863,4362076159,67108863,17246978047,51606716415,137438953471,274877906943,549755813887] 44 mixed hF ?_
     refine mP 31 [0,1,2,3,4] [.int .i64 0,.bool false,.bool false,.pointer (some ⟨h137.size,2,none⟩),.pointer (some ⟨h137.size,35,none⟩)] ?_
     refine mL 63 32 5 (.int .i64 rb.idx) (Calm.load (T := 3) (p := ⟨h137.size,35,none⟩) (by kernel_rfl) (Loads.one (k := 1) (by kernel_rfl) ((hcell_blk m140).trans (rfl)))) ?_
     refine mP 127 [6] [nV q] ?_
     refine m1 255 7 (.bool false) (.bool (!(rb.idx == ((q : Nat) : Int)))) (congrArg (fun b => Value.bool (!b)) (beq_iff_eq.2 (by omega))) ?_
     refine mP 4095 [8,9,10,11] [.bool false,.bool false,.pointer (some ⟨h137.size,2,none⟩),.pointer (some ⟨h137.size,38,none⟩)] ?_
     refine mL 8191 4128 12 (.bool z.2) (Calm.load (T := 4) (p := ⟨h137.size,38,none⟩) (by kernel_rfl) (Loads.one (k := 1) (by kernel_rfl) ((hcell_blk m140).trans (rfl)))) ?_
     refine mP 32767 [13,14] [.slice (some ag) ni gc,nV q] ?_
     refine mF 65535 15 (.pointer (some (Addr.add ag q))) (Calm.indexA (a := ag) (len := ni) (sz := 1) (k := ((q : Nat) : Int)) q q (by kernel_rfl) rfl (by omega) (by omega)) ?_
     refine mL 131071 69664 16 (.bool z.2) (Calm.load (T := 4) (p := (Addr.add ag q)) (by kernel_rfl) (Loads.one (k := 1) (by kernel_rfl) (own_g.row.cells q (kpG z) (kp_at hz)))) ?_
     refine m1 262143 17 (.bool false) (.bool (!(z.2 == z.2))) (congrArg (fun b => Value.bool (!b)) (beq_self_eq_true z.2)) ?_
     refine mP 2097151 [18,19,20] [.bool false,.bool false,.pointer (some ⟨h153.size,73,none⟩)] ?_
     refine mL 4194303 2166816 21 (.int .i64 ((q : Nat) : Int)) (Calm.load (T := 3) (p := ⟨h153.size,73,none⟩) (by kernel_rfl) (Loads.one (k := 1) (by kernel_rfl) ((hcell_blk m156).trans (rfl)))) ?_
     refine mP 8388607 [22] [nV q] ?_
     refine m1 16777215 23 (.bool false) (.bool (!(((q : Nat) : Int) == ((q : Nat) : Int)))) (congrArg (fun b => Value.bool (!b)) (beq_iff_eq.2 (by omega))) ?_
     refine mP 2013265919 [24,25,26,28,29,30] [.bool false,.bool false,.slice ad162 ((entB z.1.s z.1.l.length (rootB z.1.l)).length) cap163,nV q,.pointer (some ⟨h102.size,40,none⟩),.pointer (some ⟨h102.size,40,none⟩)] ?_
     refine mL 4160749567 2149650464 31 (.int .i64 ((R.E.length : Nat) : Int)) (Calm.load (T := 3) (p := ⟨h102.size,40,none⟩) (by kernel_rfl) (Loads.one (k := 1) (by kernel_rfl) ((hcell_blk m105).trans (rfl)))) ?_
     refine mP 8455716863 [32] [.pointer (some ⟨h153.size,74,none⟩)] ?_
     refine mL 17045651455 10739585056 33 (.slice pa150 P.length pc151) (Calm.load (T := 45) (p := ⟨h153.size,74,none⟩) (by kernel_rfl) (Loads.one (k := 1) (by kernel_rfl) ((hcell_blk m156).trans (rfl)))) ?_
     refine mP 68585259007 [34,35] [.pointer (some ⟨h102.size,40,none⟩),.pointer (some ⟨h102.size,41,none⟩)] ?_
     refine mL 137304735743 79459061792 36 (.agg ((hl (rbh (root (ledH R.E)))).map bv).toArray) (Calm.load (T := 39) (p := ⟨h102.size,41,none⟩) (by kernel_rfl) (Loads.blk (vs := (hl (rbh (root (ledH R.E)))).map bv) (by kernel_rfl) m105 rfl)) ?_
     have hel := entB_len z.1.s z.1.l.length (rootB_len z.1.l)
     have hel2 := name_le hzn
     refine mFp 137438953471 268435455 27 [31,33,36] (Does.call (f := 30) (args := #[.slice ad162 ((entB z.1.s z.1.l.length (rootB z.1.l)).length) cap163]) (by kernel_rfl) (leaf_sat _ (entB z.1.s z.1.l.length (rootB z.1.l)) _ _ own_en.row own_en.row.ltS kt (by omega))) ?_
     rintro _ h166 ⟨rfl,g165⟩
     replace sz1 := Nat.le_trans sz1 g165.size
     replace m105 := Ext.blk g165 m105
     replace m156 := Ext.blk g165 m156
     refine ⟨?_,?_⟩
     ·intro j hj
      simp only [List.mem_cons,List.not_mem_nil,or_false] at hj
      rcases hj with rfl | rfl | rfl
      ·exact goodOf (Calm.load (T := 3) (p := ⟨h102.size,40,none⟩) (by kernel_rfl) (Loads.one (k := 1) (by kernel_rfl) ((hcell_blk m105).trans (rfl))))
      ·exact goodOf (Calm.load (T := 45) (p := ⟨h153.size,74,none⟩) (by kernel_rfl) (Loads.one (k := 1) (by kernel_rfl) ((hcell_blk m156).trans (rfl))))
      ·exact goodOf (Calm.load (T := 39) (p := ⟨h102.size,41,none⟩) (by kernel_rfl) (Loads.blk (vs := (hl (rbh (root (ledH R.E)))).map bv) (by kernel_rfl) m105 rfl))
     replace kt := kt.ext g165
     replace pr := pr.ext g165
     replace hpv := fun k e => Nat.lt_of_lt_of_le (hpv k e) g165.size
     refine mG0 274877906943 274877906943 37 (vincl_at _ (leafH (entB z.1.s z.1.l.length (rootB z.1.l))) ((q : Nat) : Int) ((R.E.length : Nat) : Int) P _ _ (hl (rbh (root (ledH R.E)))) (leaf_len _) rfl ⟨pr.1,p32,rfl⟩ (by have := hv.len; omega) (by have := hv.len; omega) kt hpv true (by rw [hl_rbh (root_len (ledH_32 _))]; exact ki_held hv hz hP rfl)) ?_
     rintro _ h168 ⟨rfl,g167⟩
     replace sz1 := Nat.le_trans sz1 g167.size
     refine mP 1099511627775 [38,39] [.bool false,.bool false] ?_
     refine mE [(245,.bool false)] fun a hF => ?_
     refine tK ?_
     refine cF 245 hF ?_
     refine cN ?_
     refine bK ?_
     refine tK ?_
     refine rS hF ?_
     refine tA 1 q 1 ?_
     refine sE [(16,nV (q + 1))] fun a hF => ?_
     clear m123 lt124 zs125 zs126
     clear m140 lt141 zs142 zs143
     clear m156 lt157 zs158 zs159
     replace e0 := (e0.ext g165).ext g167
     replace own_i := (own_i.ext g165).ext g167
     replace own_y := (own_y.ext g165).ext g167
     replace own_g := (own_g.ext g165).ext g167
     replace hM := (hM.ext g165).ext g167
     replace ti := (ti.ext g165).ext g167
     replace gb := (gb.ext g165).ext g167
     replace own_en := (own_en.ext g165).ext g167
     replace m89 := Ext.blk g167 (Ext.blk g165 m89)
     replace sep := (sep.up g165.size).up g167.size
     replace kt := kt.ext g167
     replace pr := pr.ext g167
     replace hpv := fun k e => Nat.lt_of_lt_of_le (hpv k e) g167.size
     replace m105 := Ext.blk g167 m105
     replace sep := sep.sub (l' := [some (h102.size),some (h86.size),(some ag).map (·.block),(some ay).map (·.block),(some ai).map (·.block)]) (.cons _ (.cons _ (.cons _ (.cons _ (.cons_cons _ (.cons_cons _ (.cons_cons _ (.cons_cons _ (.cons_cons _ (.slnil))))))))))
     show ∃ m',m' < _ ∧ _
     refine ⟨_,?_,(q + 1),rfl,e0,kt,m89,m105,(by omega),hM,ti,sz1,own_i,own_y,own_g,sep,hF.to⟩
     omega
    ·skip
     have hlv := live_yes hz (by simpa using hc129)
     rw [hlv] at hF
     refine cN ?_
     refine tK ?_
     refine qS hF ?_
     refine tI 3 ai ni 1 q q ?_
     replace own_i := (own_i.ext g122).kept g128 (by rw [blkOf_slice]; exact (sep.ap 5 0))
     refine tC 4 (.string z.1.s) (Calm.load (T := 9) (p := (Addr.add ai q)) (by kernel_rfl) (Loads.one (k := 1) (by kernel_rfl) (own_i.row.cells q (kpI z) (kp_at hz)))) ?_
     obtain ⟨rb,hrb⟩ : ∃ rb,rbo z.1.s ((z.1.l.length : Nat) : Int) (rootB z.1.l) ((q : Nat) : Int) = rb := ⟨_,rfl⟩
     have hrl : hl rb = rootB z.1.l := hrb ▸ hl_rbo (rootB_len _)
     have hri : rb.idx = ((q : Nat) : Int) := hrb ▸ rfl
     obtain ⟨se,sho,hst⟩ := ki_stat2 hv hz 0 []
     rw [hrb] at hst
     have lb175 := hM.mod.kb
     replace e0 := (e0.ext g122).grew g128 (sep.low 0 rfl)
     replace kt := (kt.ext g122).grew g128 (sep.zero 0 rfl h0s)
     replace own_y := (own_y.ext g122).kept g128 (by rw [blkOf_slice]; exact (sep.ap 4 0))
     replace m89 := Grew.blk g128 (Ext.blk g122 m89) ((sep.bp 2 0))
     replace m105 := Grew.blk g128 (Ext.blk g122 m105) ((sep.bp 1 0))
     replace sep := sep.up g128.size
     refine tG 6 (do_kw _ mb mp R hM (w2_lt own_i own_y) 3 0 z.1.s [] none 0 none 0 0 (Row.nil _ _) hzo.2 kt (by have := hv.len; omega) R ({ an0 with sx := rb,se := se,sh := sho,sg := z.2 }) hst) ?_
     rintro _ h176 ⟨qa169,qc170,ia171,ic172,pa173,pc174,rfl,_,_,_,_,m2,gm,_⟩
     replace m89 := gm.blk m89 (by omega) (by omega)
     replace m105 := gm.blk m105 (by omega) (by omega)
     replace m123 := gm.blk m123 (by omega) (by omega)
     replace ti := ti.mgM gm hM.mod
     replace gb := gb.mgM gm hM.mod
     replace own_i := Gr.own gm own_i (by rw [blkOf_slice]; exact hM.mod.nown own_i (by decide))
     replace own_y := Gr.own gm own_y (by rw [blkOf_slice]; exact hM.mod.nown own_y (by decide))
     replace own_g := Gr.own gm own_g (by rw [blkOf_slice]; exact hM.mod.nown own_g (by decide))
     replace e0 := Gr.toExt e0 gm (by rintro i (e | e) <;> omega)
     replace kt := kt.gr gm (by rintro (e | e) <;> omega)
     replace sep := sep.up gm.1
     replace sz1 := Nat.le_trans sz1 gm.1
     clear hM; have hM := m2; clear m2 gm
     refine tN 7 (pV h176.size) ((asc (0 : Int) (.slice none 0 0) rb0 (0 : Int) false false (.slice none 0 0) (0 : Int) rb0 (0 : Int) (.slice none 0 0)).toArray) 47 fun h177 g178 m179 => ?_
     have lt180 := blk_lt m179
     have zs181 := e0.size
     have zs182 := sz1
     replace sep := sep.nw e0.size m179
     replace sz1 := Nat.le_trans sz1 g178.size
     refine tV0 8 (asc (0 : Int) (.slice qa169 0 qc170) rb se sho z.2 (.slice ia171 0 ic172) (0 : Int) rb0 (0 : Int) (.slice pa173 0 pc174)) m179 fun h183 g184 zq => ?_
     replace hM := hM.ext g178
     replace hM := hM.put1 g184 m179 (by decide) (by omega)
     replace sz1 := Nat.le_trans sz1 g184.1
     replace ti := ti.ext g178
     replace ti := ti.put1 g184 m179 (by decide)
     replace gb := gb.ext g178
     replace gb := gb.put1 g184 m179 (by decide)
     replace m179 := zq
     refine sT [(18,pV h176.size)] fun a hF => ?_
     refine qS hF ?_
     refine tI 3 ai ni 1 q q ?_
     replace own_i := (own_i.ext g178).kept g184 (by rw [blkOf_slice]; exact (sep.ap 6 0))
     refine tC 4 (.string z.1.s) (Calm.load (T := 9) (p := (Addr.add ai q)) (by kernel_rfl) (Loads.one (k := 1) (by kernel_rfl) (own_i.row.cells q (kpI z) (kp_at hz)))) ?_
     obtain ⟨P,hP⟩ : ∃ P,incl (ledH R.E) q = P := ⟨_,rfl⟩
     have hPl : P.length ≤ R.E.length := by have := (step_bnd hM.mod 16 0 z.1.s []).2; rw [ki_prove2 hv hz 0 [] hP] at this; exact this
     have lb191 := hM.mod.kb
     replace e0 := (e0.ext g178).grew g184 (sep.low 0 rfl)
     replace kt := (kt.ext g178).grew g184 (sep.zero 0 rfl h0s)
     replace own_y := (own_y.ext g178).kept g184 (by rw [blkOf_slice]; exact (sep.ap 5 0))
     replace own_g := (own_g.ext g178).kept g184 (by rw [blkOf_slice]; exact (sep.ap 4 0))
     replace m89 := Grew.blk g184 (Ext.blk g178 m89) ((sep.bp 3 0))
     replace m105 := Grew.blk g184 (Ext.blk g178 m105) ((sep.bp 2 0))
     replace m123 := Grew.blk g184 (Ext.blk g178 m123) ((sep.bp 1 0))
     replace sep := sep.up g184.size
     refine tG 6 (do_kw _ mb mp R hM (w2_lt own_i own_y) 16 0 z.1.s [] none 0 none 0 0 (Row.nil _ _) hzo.2 kt (by have := hv.len; omega) R ({ an0 with k := ((q : Nat) : Int),p := P }) (ki_prove2 hv hz 0 [] hP)) ?_
     rintro _ h192 ⟨qa185,qc186,ia187,ic188,pa189,pc190,rfl,_,_,pr,p32,m2,gm,hpv⟩
     replace m89 := gm.blk m89 (by omega) (by omega)
     replace m105 := gm.blk m105 (by omega) (by omega)
     replace m123 := gm.blk m123 (by omega) (by omega)
     replace m179 := gm.blk m179 (by omega) (by omega)
     replace ti := ti.mgM gm hM.mod
     replace gb := gb.mgM gm hM.mod
     replace own_i := Gr.own gm own_i (by rw [blkOf_slice]; exact hM.mod.nown own_i (by decide))
     replace own_y := Gr.own gm own_y (by rw [blkOf_slice]; exact hM.mod.nown own_y (by decide))
     replace own_g := Gr.own gm own_g (by rw [blkOf_slice]; exact hM.mod.nown own_g (by decide))
     replace e0 := Gr.toExt e0 gm (by rintro i (e | e) <;> omega)
     replace kt := kt.gr gm (by rintro (e | e) <;> omega)
     replace sep := sep.up gm.1
     replace sz1 := Nat.le_trans sz1 gm.1
     clear hM; have hM := m2; clear m2 gm
     refine tN 7 (pV h192.size) ((asc (0 : Int) (.slice none 0 0) rb0 (0 : Int) false false (.slice none 0 0) (0 : Int) rb0 (0 : Int) (.slice none 0 0)).toArray) 47 fun h193 g194 m195 => ?_
     have lt196 := blk_lt m195
     have zs197 := e0.size
     have zs198 := sz1
     replace sep := sep.nw e0.size m195
     replace sz1 := Nat.le_trans sz1 g194.size
     refine tV0 8 (asc (0 : Int) (.slice qa185 0 qc186) rb0 (0 : Int) false false (.slice ia187 0 ic188) (0 : Int) rb0 ((q : Nat) : Int) (.slice pa189 P.length pc190)) m195 fun h199 g200 zq => ?_
     replace hM := hM.ext g194
     replace hM := hM.put1 g200 m195 (by decide) (by omega)
     replace sz1 := Nat.le_trans sz1 g200.1
     replace ti := ti.ext g194
     replace ti := ti.put1 g200 m195 (by decide)
     replace gb := gb.ext g194
     replace gb := gb.put1 g200 m195 (by decide)
     replace pr := pr.ext g194
     replace pr := pr.put1 g200 m195 (by decide)
     replace m195 := zq
     refine sT [(19,pV h192.size)] fun a hF => ?_
     refine cS ?_
     refine cD [0,0,3,7,0,0,48,112,240,0,512,1536,4095,8191,16383,16383,32767,131071] 43 mixed hF ?_
     refine mP 3 [0,1] [.slice (some ai) ni ic,nV q] ?_
     refine mF 7 2 (.pointer (some (Addr.add ai q))) (Calm.indexA (a := ai) (len := ni) (sz := 1) (k := ((q : Nat) : Int)) q q (by kernel_rfl) rfl (by omega) (by omega)) ?_
     replace own_i := (own_i.ext g194).kept g200 (by rw [blkOf_slice]; exact (sep.ap 7 0))
     refine mL 15 8 3 (.string z.1.s) (Calm.load (T := 9) (p := (Addr.add ai q)) (by kernel_rfl) (Loads.one (k := 1) (by kernel_rfl) (own_i.row.cells q (kpI z) (kp_at hz)))) ?_
     refine mP 63 [4,5] [.slice (some ay) ni yc,nV q] ?_
     refine mF 127 6 (.pointer (some (Addr.add ay q))) (Calm.indexA (a := ay) (len := ni) (sz := 1) (k := ((q : Nat) : Int)) q q (by kernel_rfl) rfl (by omega) (by omega)) ?_
     replace own_y := (own_y.ext g194).kept g200 (by rw [blkOf_slice]; exact (sep.ap 6 0))
     refine mL 255 136 7 (.slice z.1.oa z.1.l.length z.1.oc) (Calm.load (T := 32) (p := (Addr.add ay q)) (by kernel_rfl) (Loads.one (k := 1) (by kernel_rfl) (own_y.row.cells q (kpB z) (kp_at hz)))) ?_
     refine mP 2047 [8,9,10] [nV z.1.l.length,.pointer (some ⟨h176.size,2,none⟩),.pointer (some ⟨h176.size,3,none⟩)] ?_
     replace m179 := Grew.blk g200 (Ext.blk g194 m179) ((sep.bp 1 0))
     refine mL 4095 2184 11 (.agg ((hl rb).map bv).toArray) (Calm.load (T := 39) (p := ⟨h176.size,3,none⟩) (by kernel_rfl) (Loads.blk (vs := (hl rb).map bv) (by kernel_rfl) m179 rfl)) ?_
     refine mG0 8191 8191 12 (rentry_r _ z.1.s z.1.l.length (rootB z.1.l) rb hrl hzn hzl) ?_
     rintro _ h203 ⟨ad201,cap202,rfl,ownx,hge,g⟩
     replace e0 := (e0.ext g194).grew g200 (sep.low 0 rfl)
     have hlo := e0.size
     replace sep := sep.up g200.size
     have sepo := sep
     replace kt := (kt.ext g194).grew g200 (sep.zero 0 rfl h0s)
     replace own_g := (own_g.ext g194).kept g200 (by rw [blkOf_slice]; exact (sep.ap 5 0))
     replace hpv := fun k e => Nat.lt_of_lt_of_le ((fun k e => Nat.lt_of_lt_of_le (hpv k e) g194.size) k e) g200.1
     replace m89 := Grew.blk g200 (Ext.blk g194 m89) ((sep.bp 4 0))
     replace m105 := Grew.blk g200 (Ext.blk g194 m105) ((sep.bp 3 0))
     replace m123 := Grew.blk g200 (Ext.blk g194 m123) ((sep.bp 2 0))
     replace e0 := e0.ext g
     replace kt := kt.ext g
     replace own_i := own_i.ext g
     replace own_y := own_y.ext g
     replace own_g := own_g.ext g
     replace hM := hM.ext g
     replace sz1 := Nat.le_trans sz1 g.size
     replace ti := ti.ext g
     replace gb := gb.ext g
     replace pr := pr.ext g
     replace hpv := fun k e => Nat.lt_of_lt_of_le (hpv k e) g.size
     replace m89 := Ext.blk g m89
     replace m105 := Ext.blk g m105
     replace m123 := Ext.blk g m123
     replace m179 := Ext.blk g m179
     replace m195 := Ext.blk g m195
     replace sep := sep.up g.size
     replace sep := sepo.cons (x := ad201.map (fun (x : Addr) => x.block)) g.size hlo (fun k e => ⟨hge k e,ownx.lt (by rw [blkOf_slice]; exact e)⟩)
     have own_en : Own h203 (.slice ad201 ((entB z.1.s z.1.l.length (rootB z.1.l)).length) cap202) 5 ((entB z.1.s z.1.l.length (rootB z.1.l)).length) 1 ((entB z.1.s z.1.l.length (rootB z.1.l)).map bv) := ownx; clear ownx sepo hlo hge g
     refine mP 262143 [13,14,15,16,17] [.tuple #[.slice ad201 ((entB z.1.s z.1.l.length (rootB z.1.l)).length) cap202,.int .i64 0],.slice ad201 ((entB z.1.s z.1.l.length (rootB z.1.l)).length) cap202,.int .i64 0,.slice ad201 ((entB z.1.s z.1.l.length (rootB z.1.l)).length) cap202,.int .i64 0] ?_
     refine mE [(20,.slice ad201 ((entB z.1.s z.1.l.length (rootB z.1.l)).length) cap202),(21,.int .i64 0)] fun a hF => ?_
     refine tK ?_
     refine cS ?_
     refine cD [0,1,3,7,15,31,7,127,255,511,1023,2047,4095,1023,1023,25599,58367,131071,262143,524287,1048575,2097151,1048575,8388607,16777215,33554431,67108863,134217727,67108863,67108863,603979775,1677721599,67108863,4362076159,67108863,17246978047,51606716415,137438953471,274877906943,549755813887] 44 mixed hF ?_
     refine mP 31 [0,1,2,3,4] [.int .i64 0,.bool false,.bool false,.pointer (some ⟨h176.size,2,none⟩),.pointer (some ⟨h176.size,35,none⟩)] ?_
     refine mL 63 32 5 (.int .i64 rb.idx) (Calm.load (T := 3) (p := ⟨h176.size,35,none⟩) (by kernel_rfl) (Loads.one (k := 1) (by kernel_rfl) ((hcell_blk m179).trans (rfl)))) ?_
     refine mP 127 [6] [nV q] ?_
     refine m1 255 7 (.bool false) (.bool (!(rb.idx == ((q : Nat) : Int)))) (congrArg (fun b => Value.bool (!b)) (beq_iff_eq.2 (by omega))) ?_
     refine mP 4095 [8,9,10,11] [.bool false,.bool false,.pointer (some ⟨h176.size,2,none⟩),.pointer (some ⟨h176.size,38,none⟩)] ?_
     refine mL 8191 4128 12 (.bool z.2) (Calm.load (T := 4) (p := ⟨h176.size,38,none⟩) (by kernel_rfl) (Loads.one (k := 1) (by kernel_rfl) ((hcell_blk m179).trans (rfl)))) ?_
     refine mP 32767 [13,14] [.slice (some ag) ni gc,nV q] ?_
     refine mF 65535 15 (.pointer (some (Addr.add ag q))) (Calm.indexA (a := ag) (len := ni) (sz := 1) (k := ((q : Nat) : Int)) q q (by kernel_rfl) rfl (by omega) (by omega)) ?_
     refine mL 131071 69664 16 (.bool z.2) (Calm.load (T := 4) (p := (Addr.add ag q)) (by kernel_rfl) (Loads.one (k := 1) (by kernel_rfl) (own_g.row.cells q (kpG z) (kp_at hz)))) ?_
     refine m1 262143 17 (.bool false) (.bool (!(z.2 == z.2))) (congrArg (fun b => Value.bool (!b)) (beq_self_eq_true z.2)) ?_
     refine mP 2097151 [18,19,20] [.bool false,.bool false,.pointer (some ⟨h192.size,73,none⟩)] ?_
     refine mL 4194303 2166816 21 (.int .i64 ((q : Nat) : Int)) (Calm.load (T := 3) (p := ⟨h192.size,73,none⟩) (by kernel_rfl) (Loads.one (k := 1) (by kernel_rfl) ((hcell_blk m195).trans (rfl)))) ?_
     refine mP 8388607 [22] [nV q] ?_
     refine m1 16777215 23 (.bool false) (.bool (!(((q : Nat) : Int) == ((q : Nat) : Int)))) (congrArg (fun b => Value.bool (!b)) (beq_iff_eq.2 (by omega))) ?_
     refine mP 2013265919 [24,25,26,28,29,30] [.bool false,.bool false,.slice ad201 ((entB z.1.s z.1.l.length (rootB z.1.l)).length) cap202,nV q,.pointer (some ⟨h102.size,40,none⟩),.pointer (some ⟨h102.size,40,none⟩)] ?_
     refine mL 4160749567 2149650464 31 (.int .i64 ((R.E.length : Nat) : Int)) (Calm.load (T := 3) (p := ⟨h102.size,40,none⟩) (by kernel_rfl) (Loads.one (k := 1) (by kernel_rfl) ((hcell_blk m105).trans (rfl)))) ?_
     refine mP 8455716863 [32] [.pointer (some ⟨h192.size,74,none⟩)] ?_
     refine mL 17045651455 10739585056 33 (.slice pa189 P.length pc190) (Calm.load (T := 45) (p := ⟨h192.size,74,none⟩) (by kernel_rfl) (Loads.one (k := 1) (by kernel_rfl) ((hcell_blk m195).trans (rfl)))) ?_
     refine mP 68585259007 [34,35] [.pointer (some ⟨h102.size,40,none⟩),.pointer (some ⟨h102.size,41,none⟩)] ?_
     refine mL 137304735743 79459061792 36 (.agg ((hl (rbh (root (ledH R.E)))).map bv).toArray) (Calm.load (T := 39) (p := ⟨h102.size,41,none⟩) (by kernel_rfl) (Loads.blk (vs := (hl (rbh (root (ledH R.E)))).map bv) (by kernel_rfl) m105 rfl)) ?_
     have hel := entB_len z.1.s z.1.l.length (rootB_len z.1.l)
     have hel2 := name_le hzn
     refine mFp 137438953471 268435455 27 [31,33,36] (Does.call (f := 30) (args := #[.slice ad201 ((entB z.1.s z.1.l.length (rootB z.1.l)).length) cap202]) (by kernel_rfl) (leaf_sat _ (entB z.1.s z.1.l.length (rootB z.1.l)) _ _ own_en.row own_en.row.ltS kt (by omega))) ?_
     rintro _ h205 ⟨rfl,g204⟩
     replace sz1 := Nat.le_trans sz1 g204.size
     replace m105 := Ext.blk g204 m105
     replace m195 := Ext.blk g204 m195
     refine ⟨?_,?_⟩
     ·intro j hj
      simp only [List.mem_cons,List.not_mem_nil,or_false] at hj
      rcases hj with rfl | rfl | rfl
      ·exact goodOf (Calm.load (T := 3) (p := ⟨h102.size,40,none⟩) (by kernel_rfl) (Loads.one (k := 1) (by kernel_rfl) ((hcell_blk m105).trans (rfl))))
      ·exact goodOf (Calm.load (T := 45) (p := ⟨h192.size,74,none⟩) (by kernel_rfl) (Loads.one (k := 1) (by kernel_rfl) ((hcell_blk m195).trans (rfl))))
      ·exact goodOf (Calm.load (T := 39) (p := ⟨h102.size,41,none⟩) (by kernel_rfl) (Loads.blk (vs := (hl (rbh (root (ledH R.E)))).map bv) (by kernel_rfl) m105 rfl))
     replace kt := kt.ext g204
     replace pr := pr.ext g204
     replace hpv := fun k e => Nat.lt_of_lt_of_le (hpv k e) g204.size
     refine mG0 274877906943 274877906943 37 (vincl_at _ (leafH (entB z.1.s z.1.l.length (rootB z.1.l))) ((q : Nat) : Int) ((R.E.length : Nat) : Int) P _ _ (hl (rbh (root (ledH R.E)))) (leaf_len _) rfl ⟨pr.1,p32,rfl⟩ (by have := hv.len; omega) (by have := hv.len; omega) kt hpv true (by rw [hl_rbh (root_len (ledH_32 _))]; exact ki_held hv hz hP rfl)) ?_
     rintro _ h207 ⟨rfl,g206⟩
     replace sz1 := Nat.le_trans sz1 g206.size
     refine mP 1099511627775 [38,39] [.bool false,.bool false] ?_
     refine mE [(245,.bool false)] fun a hF => ?_
     refine tK ?_
     refine cF 245 hF ?_
     refine cN ?_
     refine bK ?_
     refine tK ?_
     refine rS hF ?_
     refine tA 1 q 1 ?_
     refine sE [(16,nV (q + 1))] fun a hF => ?_
     clear m123 lt124 zs125 zs126
     clear m179 lt180 zs181 zs182
     clear m195 lt196 zs197 zs198
     replace e0 := (e0.ext g204).ext g206
     replace own_i := (own_i.ext g204).ext g206
     replace own_y := (own_y.ext g204).ext g206
     replace own_g := (own_g.ext g204).ext g206
     replace hM := (hM.ext g204).ext g206
     replace ti := (ti.ext g204).ext g206
     replace gb := (gb.ext g204).ext g206
     replace own_en := (own_en.ext g204).ext g206
     replace m89 := Ext.blk g206 (Ext.blk g204 m89)
     replace sep := (sep.up g204.size).up g206.size
     replace kt := kt.ext g206
     replace pr := pr.ext g206
     replace hpv := fun k e => Nat.lt_of_lt_of_le (hpv k e) g206.size
     replace m105 := Ext.blk g206 m105
     replace sep := sep.sub (l' := [some (h102.size),some (h86.size),(some ag).map (·.block),(some ay).map (·.block),(some ai).map (·.block)]) (.cons _ (.cons _ (.cons _ (.cons _ (.cons_cons _ (.cons_cons _ (.cons_cons _ (.cons_cons _ (.cons_cons _ (.slnil))))))))))
     show ∃ m',m' < _ ∧ _
     refine ⟨_,?_,(q + 1),rfl,e0,kt,m89,m105,(by omega),hM,ti,sz1,own_i,own_y,own_g,sep,hF.to⟩
     omega
  ·skip
   refine cX 5 (xT (xT (xB ?_)))
   refine tK ?_
   refine cS ?_
   refine cS ?_
   have hqe : q = I.length := by omega
   have htk : (liveI (I.take q)).length = J.length := by rw [hqe,List.take_length,hJl]
   have hvl := hv.len
   ·skip
    refine rS hF ?_
    refine tC 2 (nV R.E.length) (Calm.load (T := 3) (p := ⟨h102.size,40,none⟩) (by kernel_rfl) (Loads.one (k := 1) (by kernel_rfl) ((hcell_blk m105).trans (rfl)))) ?_
    refine t1 5 (.bool false) (.bool (!(((R.E.length : Nat) : Int) == ((ni : Nat) : Int)))) (congrArg (fun b => Value.bool (!b)) (beq_iff_eq.2 (by omega))) ?_
    refine tC 8 (.slice ia81 J.length ic82) (Calm.load (T := 42) (p := ⟨h86.size,39,none⟩) (by kernel_rfl) (Loads.one (k := 1) (by kernel_rfl) ((hcell_blk m89).trans (rfl)))) ?_
    refine t1 11 (.bool false) (.bool (!(((J.length : Nat) : Int) == (((liveI (I.take q)).length : Nat) : Int)))) (congrArg (fun b => Value.bool (!b)) (beq_iff_eq.2 (by omega))) ?_
    refine sE [(258,.bool false)] fun a hF => ?_
    refine tK ?_
    refine cF 258 hF ?_
    refine cN ?_
    refine tK ?_
    refine cS ?_
    refine qP [(22,.int .i64 1)] hF fun a hF => ?_
    refine cB 7 ?_
    refine cL (fun m a h' => ∃ u : Nat,m = J.length + 1 - u ∧ (h111 = h') ∧ (1 ≤ u) ∧ (Fr a 279 [(3,.bool true),(13,.pointer (some ⟨h86.size,0,none⟩)),(22,.int .i64 ((u : Nat) : Int))])) (J.length + 1 - 1) ⟨1,rfl,rfl,(Nat.le_refl _),hF.to⟩ ?_
    clear hF a
    rintro m a h208 ⟨u,rfl,hh,hu,hF⟩
    subst hh
    refine cS ?_
    refine qS hF ?_
    refine tC 2 (.slice ia81 J.length ic82) (Calm.load (T := 42) (p := ⟨h86.size,39,none⟩) (by kernel_rfl) (Loads.one (k := 1) (by kernel_rfl) ((hcell_blk m89).trans (rfl)))) ?_
    refine sT [(263,.bool (decide (((u : Nat) : Int) < ((J.length : Nat) : Int))))] fun a hF => ?_
    refine cJ 263 hF (fun hc209 => ?_) fun hc209 => ?_
    ·skip
     have hul : u < J.length := by omega
     have hJb := liveI_take I I.length
     rw [List.take_length] at hJb
     have hFn := hF
     obtain ⟨aj,rfl,hcap_aj⟩ := ti.1.someA (by omega)
     have hF := hFn; clear hFn
     have hup := ki_up hv hJ hu hul
     refine cN ?_
     refine tK ?_
     refine cS ?_
     refine cB 8 ?_
     refine cS ?_
     refine cD [0,1,0,4,15,31,0,64,0,448,960,2047] 51 mixed hF ?_
     refine mP 1 [0] [.pointer (some ⟨h86.size,39,none⟩)] ?_
     refine mL 3 2 1 (.slice (some aj) J.length ic82) (Calm.load (T := 42) (p := ⟨h86.size,39,none⟩) (by kernel_rfl) (Loads.one (k := 1) (by kernel_rfl) ((hcell_blk m89).trans (rfl)))) ?_
     refine mP 7 [2] [nV u] ?_
     refine mU 15 3 u 1 ?_
     refine mF 31 4 (.pointer (some (Addr.add aj (u - 1)))) (Calm.indexA (a := aj) (len := J.length) (sz := 1) (k := ((u - 1 : Nat) : Int)) (u - 1) (u - 1) (by kernel_rfl) rfl (by omega) (by omega)) ?_
     refine mL 63 34 5 (.string (J.getD (u - 1) ByteArray.empty)) (Calm.load (T := 9) (p := (Addr.add aj (u - 1))) (by kernel_rfl) (Loads.one (k := 1) (by kernel_rfl) (ti.1.str (i := (u - 1)) (by omega)))) ?_
     refine mP 127 [6] [.pointer (some ⟨h86.size,39,none⟩)] ?_
     refine mL 255 162 7 (.slice (some aj) J.length ic82) (Calm.load (T := 42) (p := ⟨h86.size,39,none⟩) (by kernel_rfl) (Loads.one (k := 1) (by kernel_rfl) ((hcell_blk m89).trans (rfl)))) ?_
     refine mP 511 [8] [nV u] ?_
     refine mF 1023 9 (.pointer (some (Addr.add aj u))) (Calm.indexA (a := aj) (len := J.length) (sz := 1) (k := ((u : Nat) : Int)) u u (by kernel_rfl) rfl (by omega) (by omega)) ?_
     refine mL 2047 1186 10 (.string (J.getD u ByteArray.empty)) (Calm.load (T := 9) (p := (Addr.add aj u)) (by kernel_rfl) (Loads.one (k := 1) (by kernel_rfl) (ti.1.str (i := u) (by omega)))) ?_
     refine m1 4095 11 (.bool false) (.bool (!(Op.bytesLess (J.getD (u - 1) ByteArray.empty).toList (J.getD u ByteArray.empty).toList))) (congrArg (fun b => Value.bool (!b)) (str_lt hup)) ?_
     refine mE [(277,.bool false)] fun a hF => ?_
     refine tK ?_
     refine cF 277 hF ?_
     refine cN ?_
     refine bK ?_
     refine tK ?_
     refine rS hF ?_
     refine tA 1 u 1 ?_
     refine sE [(22,nV (u + 1))] fun a hF => ?_
     show ∃ m',m' < _ ∧ _
     refine ⟨_,?_,(u + 1),rfl,rfl,(by omega),hF.to⟩
     omega
    ·skip
     refine cX 7 (xT (xT (xB ?_)))
     refine tK ?_
     refine qP [(2,.bool true)] hF fun a hF => ?_
     refine cR ?_
     refine rT 2 (.bool true) hF ?_
     exact ⟨rfl,e0⟩
end Go.Proofs.YtegkejcglfgpmaaGreatDoor
end
section
namespace Go.Proofs.YtegkejcglfgpmaaGreatDoor.modelKeeps
open Go.ChangeShapes Go.WideShapes Go.ChangeAt Go.RowKit
set_option maxRecDepth 100000 in
/-- WHAT THE WALK GIVES, for every argument and every world that holds the table. -/
theorem contract (H : Type) (enc : TypeId × Value → H) (W : World) (base : Nat) (args : Array Value) (ds gs : List (DataW H)) (before : List MemPlace)
    (hval : ∀ (j : Nat) t v, Tryz.f8.params[j]? = some t → args[j]? = some v → Value.okWide Tryz.prog W .any base t v)
    (hW : DataW.Whole enc Tryz.prog Tryz.f8.params.toList Rows.modelKeepsSpec.vars false W args.toList ds gs before) (hk : Rows.uptoSmall H (ds ++ gs) = true) (hL : laidMetH Tryz.prog Rows.modelKeepsUptoRow.laid W) :
    Calls Tryz.prog 8 args W fun e W' => ∃ v, e = .returned v ∧ Rows.modelKeepsSpec.post enc Tryz.prog Tryz.f8 false true false false W args v W' := by
  have hW' := hW
  obtain ⟨p, q, hA0, hV, rfl, hfz, hnd⟩ := hW
  have hA : DataW.TrodAll enc Tryz.prog W 0 (fun _ => true) true Tryz.f8.params.toList args.toList ds p := hA0
  rw [show Tryz.f8.params.toList = [22] from rfl] at hA
  obtain ⟨v0, vs0, d0, ds0, p0, q0, hargs, rfl, rfl, h0, r0⟩ := trodAll_cons hA
  obtain ⟨rfl, rfl, rfl⟩ := trodAll_nil r0
  obtain rfl : args = #[v0] := by cases args; simp_all
  obtain ⟨rfl, rfl⟩ := trodVars_none hV
  have hbulk := bulks.bound hk
  simp only [List.append_nil, Rows.uptoBulkAll] at hbulk
  have kt : Sha.Ktab W.heap := ktab_of hL
  have hO : opOk Tryz.prog 35 3 9 32 5 33 := ⟨by kernel_rfl, by kernel_rfl, by kernel_rfl, by kernel_rfl, by kernel_rfl, by kernel_rfl, by kernel_rfl, by kernel_rfl, by kernel_rfl, by kernel_rfl, by kernel_rfl, by kernel_rfl⟩
  obtain ⟨la, lc, L, rfl, hl, ho, hlb⟩ := open_opl hO (by kernel_rfl) (hval 0 22 v0 rfl rfl) h0
  refine (keeps_sat W.heap L la lc hl (fun o h => (ho o h).1) (by omega) kt W rfl).mono fun e W' ⟨v, he, sm, hv, ex⟩ => ?_
  subst hv
  exact ⟨_, he, law_post laidOut rfl (by kernel_rfl) (fun t ht => by
    simp only [show Tryz.f8.params.toList = [22] from rfl, List.mem_cons, List.not_mem_nil, or_false] at ht
    subst ht
    exact ⟨by kernel_rfl, of_decide_eq_true (by kernel_rfl)⟩) rfl rfl rfl rfl hW' (below_of sm ex)⟩
noncomputable def laidWorld (os : Os) : World :=
  { World.holding Tryz.prog os ⟨#[], #[], []⟩ with heap := (World.holding Tryz.prog os ⟨#[], #[], []⟩).heap.modify 0 fun
      | .cells _ t frozen => .cells (Sha.K64.map Sha.wv).toArray t frozen
      | o => o }
theorem laid_met (os : Os) : laidMet Tryz.prog Rows.modelKeepsUptoRow.laid ((laidWorld os).forCall (fun _ _ => 0) ⟨#[], #[.slice none 0 0], []⟩).memory :=
  laidMet_of_run' 8 (by kernel_rfl) (by kernel_rfl)
theorem reads (os : Os) {H : Type} (enc : TypeId × Value → H) : ∃ places, DataW.whole enc Tryz.prog ((laidWorld os).forCall (fun _ _ => 0) ⟨#[], #[.slice none 0 0], []⟩).memory Tryz.f8.params.toList Rows.modelKeepsSpec.vars false (#[.slice none 0 0] : Array Value).toList 8 = some ([.nil], [], places) :=
  ⟨[], by kernel_rfl⟩
set_option maxRecDepth 100000 in
theorem liftedUpto (os : Os) (started : os.Started) (H : Type) (enc : TypeId × Value → H) (F : Stop.Interp) :
    ReturnsInHanded {} Tryz.checked os 8 .any ((Rows.OpenSpec.upto Rows.modelKeepsSpec).preRow enc Tryz.prog Tryz.f8 Rows.modelKeepsUptoRow.domain false Rows.modelKeepsUptoRow.laid) (((Rows.OpenSpec.upto Rows.modelKeepsSpec).at F).post enc Tryz.prog Tryz.f8 false true false false) := by
  obtain ⟨places, hx⟩ := reads os enc
  refine returnsInHanded_of_row (C := Tryz.checked) (s := Rows.OpenSpec.upto Rows.modelKeepsSpec) own started (by kernel_rfl) Tryz.func8
    (witness_row_at (enc := enc) (C := Tryz.checked) false (laidWorld os) #[.slice none 0 0] rfl (by kernel_rfl) (by kernel_rfl) (by kernel_rfl)
      (OpenSpec.preRow_of_cond 8 hx (by kernel_rfl) (fun k hk => by cases hk; kernel_rfl) (by kernel_rfl) (laid_met os))) ?_
  intro W base args ds gs before hval hW _ hc _ hL _ _
  exact contract H enc W base args ds gs before hval hW (hc _ rfl) hL
theorem saidUpto : Rows.ModelKeepsUptoSaid :=
  OpenClaim.holds_of_cond 8 Tryz.f8 rfl rfl rfl rfl rfl rfl rfl ⟨rfl, rfl, rfl, rfl, rfl⟩ rfl rfl rfl rfl rfl (by kernel_rfl) Tryz.func8 (by kernel_rfl)
    (of_decide_eq_true (by kernel_rfl)) (by unfold Func.isWrapper; first | (rw [if_pos (by decide +kernel)]; kernel_rfl) | (rw [if_neg (by decide +kernel)]; exact ⟨rfl, rfl⟩))
    (fun os started H enc _ F => by rw [OpenClaim.pre_eq_preRow]; exact liftedUpto os started H enc F)
theorem plain (f : FuncId) (fn : Func) (hf : Tryz.pinned.checked.prog.funcNamed "muniment/munimentlaw23.ModelKeeps" = some f) (hfn : Tryz.pinned.checked.prog.funcs[f]? = some fn) :
    false = Tryz.pinned.checked.prog.looks [] ∧ ∀ (j : Nat) t, fn.params[j]? = some t → Tryz.pinned.checked.prog.wantsStandIn t = false := by
  obtain rfl : f = 8 := Option.some.inj ((show Tryz.prog.funcNamed "muniment/munimentlaw23.ModelKeeps" = some 8 by kernel_rfl).symm.trans hf) |>.symm
  obtain rfl : fn = Tryz.f8 := (Option.some.inj (Tryz.func8.symm.trans hfn)).symm
  refine ⟨by kernel_rfl, fun j t ht => ?_⟩
  rw [show Tryz.f8.params = #[22] from rfl] at ht
  have hm := Array.mem_of_getElem? ht
  simp only [List.mem_toArray, List.mem_cons, List.not_mem_nil, or_false] at hm
  subst hm
  exact (show Tryz.prog.wantsStandIn 22 = false by kernel_rfl)
theorem cardUpto : Rows.ModelKeepsUptoCardSaid :=
  Claim7.holds_tied_plain_at .later [] _ _ _ _ saidUpto (fun _ h => by cases h) (by kernel_rfl) (fun _ h => by cases h) modelKeepsUpto_row_tie rfl ⟨rfl, rfl⟩ (by kernel_rfl) rfl plain (by kernel_rfl)
end Go.Proofs.YtegkejcglfgpmaaGreatDoor.modelKeeps
end
