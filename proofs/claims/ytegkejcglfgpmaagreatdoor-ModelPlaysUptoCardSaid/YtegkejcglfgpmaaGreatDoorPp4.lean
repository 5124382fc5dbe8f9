/- The walks and the plain laws, part 4: MdlC, MdlD, RetF, RetS, RetM, RetN, RetG, MdlE, MdlF, MdlG, MdlH, MdlI, MdlJ. Conditions: those that each theorem names. -/
import Derived.Test.YtegkejcglfgpmaaGreatDoorPp3
section
namespace Go.Proofs.YtegkejcglfgpmaaGreatDoor
open Go Go.Lane Go.Sha
noncomputable def b67:Code:=Tryz.f67.body.getD .skip
theorem find_id{W:Nat→Prop}(h:Heap)(mb mp:Nat)(M:Md)(L:List Ent)(ck:Nat)(ea:Option Addr)(ec:Nat)(es:List Value)(md:ModA W h mb mp M L ck ea ec es)(s:ByteArray)(hsz:s.size ≤9223372036854775807)(hok:nameOk s=false):Sat Tryz.prog 67 #[.pointer (some ⟨mb,0,none⟩),.string s] h fun v h'=>v= .tuple #[.agg (obx rb0 (0:Int) false false (.slice none 0 0) (.slice none 0 0)).toArray,.int .i64 210]∧Ext h h':=by
 have hm:=md.hm
 have hp:=md.hp
 have e0:=Ext.refl h
 have sep:Sep h.size h.size []:=Sep.nil _ _
 refine sat_in Tryz.func67 27 fun a hF=> ?_
 refine qS hF ?_
 refine tN 0 (pV h.size) ((obx rb0 (0:Int) false false (.slice none 0 0) (.slice none 0 0)).toArray) 101 fun h1 g2 m3=> ?_
 replace sep:=sep.nw e0.size m3
 refine sT [(4,pV h.size)] fun a hF=> ?_
 refine cS ?_
 rcases md.find s with⟨hf,hno⟩|⟨A,x,B,o,rfl,hs,hf,ha⟩
 ·skip
  refine rS hF ?_
  replace e0:=e0.ext g2
  refine tO 3 0 (e0.blk hm) ?_
  refine tC 5 (.tuple #[.agg (obx rb0 (0:Int) false false (.slice none 0 0) (.slice none 0 0)).toArray,.bool false]) (lookNo (t:=81) 9 101 (by kernel_rfl) (by kernel_rfl) (by kernel_rfl) (.agg (obx rb0 (0:Int) false false (.slice none 0 0) (.slice none 0 0)).toArray) (by kernel_rfl) (e0.blk hp) hno) ?_
  refine tN 9 (pV h1.size) ((obx rb0 (0:Int) false false (.slice none 0 0) (.slice none 0 0)).toArray) 101 fun h4 g5 m6=> ?_
  replace sep:=sep.nw e0.size m6
  refine tV0 10 (obx rb0 (0:Int) false false (.slice none 0 0) (.slice none 0 0)) m6 fun h7 g8 zq=> ?_
  replace m6:=zq
  refine sE [(6,pV h1.size),(7,.bool false)] fun a hF=> ?_
  refine tK ?_
  refine cS ?_
  refine cB 0 ?_
  refine qS hF ?_
  refine tC 1 (.bool false) (Does.call (f:=62) (args:= #[.string s]) (by kernel_rfl) (name_no' _ s hsz hok)) ?_
  refine sT [(17,.bool true)] fun a hF=> ?_
  refine cT 17 hF ?_
  refine qS hF ?_
  replace m3:=(m3.x g5).y g8 (sep.bp 1 0)
  refine tV0 1 (obx rb0 (0:Int) false false (.slice none 0 0) (.slice none 0 0)) m3 fun h9 g10 zq=> ?_
  replace m3:=zq
  refine sT [(5,.int .i64 210)] fun a hF=> ?_
  refine cR (yB (yT ?_))
  refine ret_ok [.cell 4 101,.tmp 5] [.agg (obx rb0 (0:Int) false false (.slice none 0 0) (.slice none 0 0)).toArray,.int .i64 210] (.tuple #[.agg (obx rb0 (0:Int) false false (.slice none 0 0) (.slice none 0 0)).toArray,.int .i64 210]) rfl hF ⟨⟨_,rfl,Loads.blk (vs:=obx rb0 (0:Int) false false (.slice none 0 0) (.slice none 0 0)) (by kernel_rfl) m3 rfl⟩,rfl,trivial⟩ rfl ?_
  replace e0:=((e0.ext g5).grew g8 (sep.l 0)).grew g10 (sep.l 1)
  exact⟨rfl,e0⟩
 ·skip
  obtain⟨hid,hdl,ca,cc,ba,bc,hv,r1,r2⟩:=ha
  refine rS hF ?_
  replace e0:=e0.ext g2
  refine tO 3 0 (e0.blk hm) ?_
  refine tC 5 (.tuple #[.agg (obx o.b o.e o.ho o.go (.slice ca 0 cc) (.slice ba o.dt.length bc)).toArray,.bool true]) (lookYes (t:=81) 9 101 (by kernel_rfl) (by kernel_rfl) (by kernel_rfl) (.agg (obx rb0 (0:Int) false false (.slice none 0 0) (.slice none 0 0)).toArray) (by kernel_rfl) (e0.blk hp) (List.mem_append_right _ (List.mem_cons_self ..)) hs md.nd hv) ?_
  refine tN 9 (pV h1.size) ((obx rb0 (0:Int) false false (.slice none 0 0) (.slice none 0 0)).toArray) 101 fun h11 g12 m13=> ?_
  replace sep:=sep.nw e0.size m13
  refine tV0 10 (obx o.b o.e o.ho o.go (.slice ca 0 cc) (.slice ba o.dt.length bc)) m13 fun h14 g15 zq=> ?_
  replace m13:=zq
  refine sE [(6,pV h1.size),(7,.bool true)] fun a hF=> ?_
  refine tK ?_
  refine cS ?_
  refine cB 0 ?_
  refine qS hF ?_
  refine tC 1 (.bool false) (Does.call (f:=62) (args:= #[.string s]) (by kernel_rfl) (name_no' _ s hsz hok)) ?_
  refine sT [(17,.bool true)] fun a hF=> ?_
  refine cT 17 hF ?_
  refine qS hF ?_
  replace m3:=(m3.x g12).y g15 (sep.bp 1 0)
  refine tV0 1 (obx rb0 (0:Int) false false (.slice none 0 0) (.slice none 0 0)) m3 fun h16 g17 zq=> ?_
  replace m3:=zq
  refine sT [(5,.int .i64 210)] fun a hF=> ?_
  refine cR (yB (yT ?_))
  refine ret_ok [.cell 4 101,.tmp 5] [.agg (obx rb0 (0:Int) false false (.slice none 0 0) (.slice none 0 0)).toArray,.int .i64 210] (.tuple #[.agg (obx rb0 (0:Int) false false (.slice none 0 0) (.slice none 0 0)).toArray,.int .i64 210]) rfl hF ⟨⟨_,rfl,Loads.blk (vs:=obx rb0 (0:Int) false false (.slice none 0 0) (.slice none 0 0)) (by kernel_rfl) m3 rfl⟩,rfl,trivial⟩ rfl ?_
  replace e0:=((e0.ext g12).grew g15 (sep.l 0)).grew g17 (sep.l 1)
  exact⟨rfl,e0⟩
theorem find_none{W:Nat→Prop}(h:Heap)(mb mp:Nat)(M:Md)(L:List Ent)(ck:Nat)(ea:Option Addr)(ec:Nat)(es:List Value)(md:ModA W h mb mp M L ck ea ec es)(s:ByteArray)(hno:∀x∈L,x.1 ≠s)(hok:nameOk s=true):Sat Tryz.prog 67 #[.pointer (some ⟨mb,0,none⟩),.string s] h fun v h'=>v= .tuple #[.agg (obx rb0 (0:Int) false false (.slice none 0 0) (.slice none 0 0)).toArray,.int .i64 211]∧Ext h h':=by
 have hm:=md.hm
 have hp:=md.hp
 have e0:=Ext.refl h
 have sep:Sep h.size h.size []:=Sep.nil _ _
 refine sat_in Tryz.func67 27 fun a hF=> ?_
 refine qS hF ?_
 refine tN 0 (pV h.size) ((obx rb0 (0:Int) false false (.slice none 0 0) (.slice none 0 0)).toArray) 101 fun h1 g2 m3=> ?_
 replace sep:=sep.nw e0.size m3
 refine sT [(4,pV h.size)] fun a hF=> ?_
 refine qS hF ?_
 replace e0:=e0.ext g2
 refine tO 3 0 (e0.blk hm) ?_
 refine tC 5 (.tuple #[.agg (obx rb0 (0:Int) false false (.slice none 0 0) (.slice none 0 0)).toArray,.bool false]) (lookNo (t:=81) 9 101 (by kernel_rfl) (by kernel_rfl) (by kernel_rfl) (.agg (obx rb0 (0:Int) false false (.slice none 0 0) (.slice none 0 0)).toArray) (by kernel_rfl) (e0.blk hp) hno) ?_
 refine tN 9 (pV h1.size) ((obx rb0 (0:Int) false false (.slice none 0 0) (.slice none 0 0)).toArray) 101 fun h4 g5 m6=> ?_
 replace sep:=sep.nw e0.size m6
 refine tV0 10 (obx rb0 (0:Int) false false (.slice none 0 0) (.slice none 0 0)) m6 fun h7 g8 zq=> ?_
 replace m6:=zq
 refine sT [(6,pV h1.size),(7,.bool false)] fun a hF=> ?_
 refine cS ?_
 refine cB 0 ?_
 refine qS hF ?_
 refine tC 1 (.bool true) (Does.call (f:=62) (args:= #[.string s]) (by kernel_rfl) (name_yes _ s hok)) ?_
 refine sT [(17,.bool false)] fun a hF=> ?_
 refine cF 17 hF ?_
 refine qP [(22,.bool true)] hF fun a hF=> ?_
 refine cT 22 hF ?_
 refine qS hF ?_
 replace m3:=(m3.x g5).y g8 (sep.bp 1 0)
 refine tV0 1 (obx rb0 (0:Int) false false (.slice none 0 0) (.slice none 0 0)) m3 fun h9 g10 zq=> ?_
 replace m3:=zq
 refine sT [(5,.int .i64 211)] fun a hF=> ?_
 refine cR (yB (yT ?_))
 refine ret_ok [.cell 4 101,.tmp 5] [.agg (obx rb0 (0:Int) false false (.slice none 0 0) (.slice none 0 0)).toArray,.int .i64 211] (.tuple #[.agg (obx rb0 (0:Int) false false (.slice none 0 0) (.slice none 0 0)).toArray,.int .i64 211]) rfl hF ⟨⟨_,rfl,Loads.blk (vs:=obx rb0 (0:Int) false false (.slice none 0 0) (.slice none 0 0)) (by kernel_rfl) m3 rfl⟩,rfl,trivial⟩ rfl ?_
 replace e0:=((e0.ext g5).grew g8 (sep.l 0)).grew g10 (sep.l 1)
 exact⟨rfl,e0⟩
theorem find_yes{W:Nat→Prop}(h:Heap)(mb mp:Nat)(M:Md)(L:List Ent)(ck:Nat)(ea:Option Addr)(ec:Nat)(es:List Value)(md:ModA W h mb mp M L ck ea ec es)(s:ByteArray)(x:Ent)(hx:x∈L)(hs:x.1 =s)(o:Ob)(ca:Option Addr)(cc:Nat)(ba:Option Addr)(bc:Nat)(hv:x.2.1 =obv o (.slice ca 0 cc) (.slice ba o.dt.length bc))(hok:nameOk s=true):Sat Tryz.prog 67 #[.pointer (some ⟨mb,0,none⟩),.string s] h fun v h'=>v= .tuple #[.agg (obx o.b o.e o.ho o.go (.slice ca 0 cc) (.slice ba o.dt.length bc)).toArray,.int .i64 0]∧Ext h h':=by
 have hm:=md.hm
 have hp:=md.hp
 have e0:=Ext.refl h
 have sep:Sep h.size h.size []:=Sep.nil _ _
 refine sat_in Tryz.func67 27 fun a hF=> ?_
 refine qS hF ?_
 refine tN 0 (pV h.size) ((obx rb0 (0:Int) false false (.slice none 0 0) (.slice none 0 0)).toArray) 101 fun h1 g2 m3=> ?_
 replace sep:=sep.nw e0.size m3
 refine sT [(4,pV h.size)] fun a hF=> ?_
 refine qS hF ?_
 replace e0:=e0.ext g2
 refine tO 3 0 (e0.blk hm) ?_
 refine tC 5 (.tuple #[.agg (obx o.b o.e o.ho o.go (.slice ca 0 cc) (.slice ba o.dt.length bc)).toArray,.bool true]) (lookYes (t:=81) 9 101 (by kernel_rfl) (by kernel_rfl) (by kernel_rfl) (.agg (obx rb0 (0:Int) false false (.slice none 0 0) (.slice none 0 0)).toArray) (by kernel_rfl) (e0.blk hp) hx hs md.nd hv) ?_
 refine tN 9 (pV h1.size) ((obx rb0 (0:Int) false false (.slice none 0 0) (.slice none 0 0)).toArray) 101 fun h4 g5 m6=> ?_
 replace sep:=sep.nw e0.size m6
 refine tV0 10 (obx o.b o.e o.ho o.go (.slice ca 0 cc) (.slice ba o.dt.length bc)) m6 fun h7 g8 zq=> ?_
 replace m6:=zq
 refine sT [(6,pV h1.size),(7,.bool true)] fun a hF=> ?_
 refine cS ?_
 refine cB 0 ?_
 refine qS hF ?_
 refine tC 1 (.bool true) (Does.call (f:=62) (args:= #[.string s]) (by kernel_rfl) (name_yes _ s hok)) ?_
 refine sT [(17,.bool false)] fun a hF=> ?_
 refine cF 17 hF ?_
 refine qP [(22,.bool false)] hF fun a hF=> ?_
 refine cF 22 hF ?_
 refine cN ?_
 refine bK ?_
 refine tK ?_
 refine qS hF ?_
 refine tR 0 m6 ?_
 replace m3:=(m3.x g5).y g8 (sep.bp 1 0)
 refine tV0 1 (obx o.b o.e o.ho o.go (.slice ca 0 cc) (.slice ba o.dt.length bc)) m3 fun h9 g10 zq=> ?_
 replace m3:=zq
 refine sT [(5,.int .i64 0)] fun a hF=> ?_
 refine cR ?_
 refine ret_ok [.cell 4 101,.tmp 5] [.agg (obx o.b o.e o.ho o.go (.slice ca 0 cc) (.slice ba o.dt.length bc)).toArray,.int .i64 0] (.tuple #[.agg (obx o.b o.e o.ho o.go (.slice ca 0 cc) (.slice ba o.dt.length bc)).toArray,.int .i64 0]) rfl hF ⟨⟨_,rfl,Loads.blk (vs:=obx o.b o.e o.ho o.go (.slice ca 0 cc) (.slice ba o.dt.length bc)) (by kernel_rfl) m3 rfl⟩,rfl,trivial⟩ rfl ?_
 replace e0:=((e0.ext g5).grew g8 (sep.l 0)).grew g10 (sep.l 1)
 exact⟨rfl,e0⟩
noncomputable def b33:Code:=Tryz.f33.body.getD .skip
theorem delcase(g k:Bool)(t e:Int):g=true∨(g=false∧k=true)∨(g=false∧k=false∧t<e)∨(g=false∧k=false∧e≤t):=by cases g<;>cases k<;>simp<;>omega
set_option maxHeartbeats 1000000 in
theorem change_sat{W:Nat→Prop}(h:Heap)(mb mp:Nat)(M:Md)(L:List Ent)(ck:Nat)(ea:Option Addr)(ec:Nat)(es:List Value)(md:ModA W h mb mp M L ck ea ec es)(kd n:Int)(s:ByteArray)(oa:Option Addr)(on oc:Nat)(ka:Option Addr)(kn kc:Nat)(hsz:s.size ≤9223372036854775807):Sat Tryz.prog 33 #[.pointer (some ⟨mb,0,none⟩),.agg #[.int .i64 kd,.string s,.slice oa on oc,.int .i64 n,.slice ka kn kc]] h fun v h'=>v= .int .i64 (chg M kd n s).2 ∧ModW W h' mb mp (chg M kd n s).1 ∧MG mb mp h h':=by
 have hm:=md.hm
 have hp:=md.hp
 have e0:=Ext.refl h
 have sep:Sep h.size h.size []:=Sep.nil _ _
 refine sat_in Tryz.func33 80 fun a hF=> ?_
 refine qS hF ?_
 refine tN 0 (pV h.size) #[.int .i64 kd,.string s,.slice oa on oc,.int .i64 n,.slice ka kn kc] 35 fun h1 g2 m3=> ?_
 replace sep:=sep.nw e0.size m3
 refine sT [(3,pV h.size)] fun a hF=> ?_
 refine cS ?_
 rcases md.cases3 s with hok|⟨hok,hf,hno⟩|⟨hok,A,x,B,o,rfl,hs,hf,hid,hdl,ca,cc,ba,bc,hv,r1,r2⟩
 ·skip
  refine rS hF ?_
  refine tO 2 1 m3 ?_
  replace e0:=e0.ext g2
  refine tG 3 (find_id _ mb mp M _ ck ea ec es (md.ext e0) s hsz hok) ?_
  rintro _ h5 ⟨rfl,g4⟩
  refine tN 7 (pV h5.size) ((obx rb0 (0:Int) false false (.slice none 0 0) (.slice none 0 0)).toArray) 101 fun h6 g7 m8=> ?_
  replace e0:=e0.ext g4
  replace sep:=(sep.up g4.size).nw e0.size m8
  refine tV0 8 (obx rb0 (0:Int) false false (.slice none 0 0) (.slice none 0 0)) m8 fun h9 g10 zq=> ?_
  replace m8:=zq
  refine sE [(5,pV h5.size),(6,.int .i64 210)] fun a hF=> ?_
  refine tK ?_
  refine cS ?_
  refine cS ?_
  ·skip
   refine rP [(30,.bool false)] hF fun a hF=> ?_
   refine tK ?_
   refine cF 30 hF ?_
   refine cN ?_
   refine tK ?_
   refine cS ?_
   refine qP [(32,.bool true)] hF fun a hF=> ?_
   refine cT 32 hF ?_
   refine qP [(4,.int .i64 210)] hF fun a hF=> ?_
   refine cR (yT ?_)
   refine rT 4 (.int .i64 210) hF ?_
   replace e0:=(e0.ext g7).grew g10 (sep.l 0)
   rw[chg_id hok];exact⟨rfl,⟨_,_,_,_,_,md.ext e0⟩,MG.ofExt e0⟩
 ·skip
  refine rS hF ?_
  refine tO 2 1 m3 ?_
  replace e0:=e0.ext g2
  refine tG 3 (find_none _ mb mp M _ ck ea ec es (md.ext e0) s hno hok) ?_
  rintro _ h12 ⟨rfl,g11⟩
  refine tN 7 (pV h12.size) ((obx rb0 (0:Int) false false (.slice none 0 0) (.slice none 0 0)).toArray) 101 fun h13 g14 m15=> ?_
  replace e0:=e0.ext g11
  replace sep:=(sep.up g11.size).nw e0.size m15
  refine tV0 8 (obx rb0 (0:Int) false false (.slice none 0 0) (.slice none 0 0)) m15 fun h16 g17 zq=> ?_
  replace m15:=zq
  refine sE [(5,pV h12.size),(6,.int .i64 211)] fun a hF=> ?_
  refine tK ?_
  refine cS ?_
  refine cS ?_
  rcases kdcase kd n with hk|hk|hk|hk
  ·skip
   refine rS hF ?_
   replace m3:=((m3.x g11).x g14).y g17 (sep.bp 1 0)
   refine tO 4 0 m3 ?_
   refine eT 5 kd 4 ?_
   refine tO 9 3 m3 ?_
   refine tT 10 (n<(0:Int)) ?_
   refine sE [(30,.bool true)] fun a hF=> ?_
   refine tK ?_
   refine cT 30 hF ?_
   refine qP [(4,.int .i64 1)] hF fun a hF=> ?_
   refine cR (yT ?_)
   refine rT 4 (.int .i64 1) hF ?_
   replace e0:=(e0.ext g14).grew g17 (sep.l 0)
   rw[chg_arg hok (by omega)];exact⟨rfl,⟨_,_,_,_,_,md.ext e0⟩,MG.ofExt e0⟩
  ·skip
   refine rS hF ?_
   replace m3:=((m3.x g11).x g14).y g17 (sep.bp 1 0)
   refine tO 4 0 m3 ?_
   refine eT 5 kd 4 ?_
   refine tO 9 3 m3 ?_
   refine tX 10 (n<(0:Int)) ?_
   refine tO 13 3 m3 ?_
   refine tT 14 ((1099511627776:Int)<n) ?_
   refine sE [(30,.bool true)] fun a hF=> ?_
   refine tK ?_
   refine cT 30 hF ?_
   refine qP [(4,.int .i64 1)] hF fun a hF=> ?_
   refine cR (yT ?_)
   refine rT 4 (.int .i64 1) hF ?_
   replace e0:=(e0.ext g14).grew g17 (sep.l 0)
   rw[chg_arg hok (by omega)];exact⟨rfl,⟨_,_,_,_,_,md.ext e0⟩,MG.ofExt e0⟩
  ·skip
   refine rS hF ?_
   replace m3:=((m3.x g11).x g14).y g17 (sep.bp 1 0)
   refine tO 4 0 m3 ?_
   refine eT 5 kd 4 ?_
   refine tO 9 3 m3 ?_
   refine tX 10 (n<(0:Int)) ?_
   refine tO 13 3 m3 ?_
   refine tX 14 ((1099511627776:Int)<n) ?_
   refine sE [(30,.bool false)] fun a hF=> ?_
   refine tK ?_
   refine cF 30 hF ?_
   refine cN ?_
   refine tK ?_
   refine cS ?_
   refine qP [(32,.bool true)] hF fun a hF=> ?_
   refine cT 32 hF ?_
   refine qP [(4,.int .i64 211)] hF fun a hF=> ?_
   refine cR (yT ?_)
   refine rT 4 (.int .i64 211) hF ?_
   replace e0:=(e0.ext g14).grew g17 (sep.l 0)
   rw[chg_none hok (by omega) hf];exact⟨rfl,⟨_,_,_,_,_,md.ext e0⟩,MG.ofExt e0⟩
  ·skip
   refine rS hF ?_
   replace m3:=((m3.x g11).x g14).y g17 (sep.bp 1 0)
   refine tO 4 0 m3 ?_
   refine eF 5 kd 4 ?_
   refine sE [(30,.bool false)] fun a hF=> ?_
   refine tK ?_
   refine cF 30 hF ?_
   refine cN ?_
   refine tK ?_
   refine cS ?_
   refine qP [(32,.bool true)] hF fun a hF=> ?_
   refine cT 32 hF ?_
   refine qP [(4,.int .i64 211)] hF fun a hF=> ?_
   refine cR (yT ?_)
   refine rT 4 (.int .i64 211) hF ?_
   replace e0:=(e0.ext g14).grew g17 (sep.l 0)
   rw[chg_none hok (by omega) hf];exact⟨rfl,⟨_,_,_,_,_,md.ext e0⟩,MG.ofExt e0⟩
 ·skip
  obtain⟨ob,oe,oh,og,od⟩:=o
  refine rS hF ?_
  refine tO 2 1 m3 ?_
  replace e0:=e0.ext g2
  refine tG 3 (find_yes _ mb mp M _ ck ea ec es (md.ext e0) s x (List.mem_append_right _ (List.mem_cons_self ..)) hs ⟨ob,oe,oh,og,od⟩ ca cc ba bc hv hok) ?_
  rintro _ h19 ⟨rfl,g18⟩
  refine tN 7 (pV h19.size) ((obx rb0 (0:Int) false false (.slice none 0 0) (.slice none 0 0)).toArray) 101 fun h20 g21 m22=> ?_
  replace e0:=e0.ext g18
  replace sep:=(sep.up g18.size).nw e0.size m22
  refine tV0 8 (obx ob oe oh og (.slice ca 0 cc) (.slice ba od.length bc)) m22 fun h23 g24 zq=> ?_
  replace m22:=zq
  refine sE [(5,pV h19.size),(6,.int .i64 0)] fun a hF=> ?_
  refine tK ?_
  refine cS ?_
  refine cS ?_
  rcases kdcase kd n with hk|hk|hk|hk
  ·skip
   refine rS hF ?_
   replace m3:=((m3.x g18).x g21).y g24 (sep.bp 1 0)
   refine tO 4 0 m3 ?_
   refine eT 5 kd 4 ?_
   refine tO 9 3 m3 ?_
   refine tT 10 (n<(0:Int)) ?_
   refine sE [(30,.bool true)] fun a hF=> ?_
   refine tK ?_
   refine cT 30 hF ?_
   refine qP [(4,.int .i64 1)] hF fun a hF=> ?_
   refine cR (yT ?_)
   refine rT 4 (.int .i64 1) hF ?_
   replace e0:=(e0.ext g21).grew g24 (sep.l 0)
   rw[chg_arg hok (by omega)];exact⟨rfl,⟨_,_,_,_,_,md.ext e0⟩,MG.ofExt e0⟩
  ·skip
   refine rS hF ?_
   replace m3:=((m3.x g18).x g21).y g24 (sep.bp 1 0)
   refine tO 4 0 m3 ?_
   refine eT 5 kd 4 ?_
   refine tO 9 3 m3 ?_
   refine tX 10 (n<(0:Int)) ?_
   refine tO 13 3 m3 ?_
   refine tT 14 ((1099511627776:Int)<n) ?_
   refine sE [(30,.bool true)] fun a hF=> ?_
   refine tK ?_
   refine cT 30 hF ?_
   refine qP [(4,.int .i64 1)] hF fun a hF=> ?_
   refine cR (yT ?_)
   refine rT 4 (.int .i64 1) hF ?_
   replace e0:=(e0.ext g21).grew g24 (sep.l 0)
   rw[chg_arg hok (by omega)];exact⟨rfl,⟨_,_,_,_,_,md.ext e0⟩,MG.ofExt e0⟩
  ·skip
   refine rS hF ?_
   replace m3:=((m3.x g18).x g21).y g24 (sep.bp 1 0)
   refine tO 4 0 m3 ?_
   refine eT 5 kd 4 ?_
   refine tO 9 3 m3 ?_
   refine tX 10 (n<(0:Int)) ?_
   refine tO 13 3 m3 ?_
   refine tX 14 ((1099511627776:Int)<n) ?_
   refine sE [(30,.bool false)] fun a hF=> ?_
   refine tK ?_
   refine cF 30 hF ?_
   refine cN ?_
   refine tK ?_
   refine cS ?_
   refine qP [(32,.bool false)] hF fun a hF=> ?_
   refine cF 32 hF ?_
   refine cN ?_
   refine tK ?_
   refine cS ?_
   refine qS hF ?_
   refine tO 1 0 m3 ?_
   refine sT [(35,.int .i64 kd)] fun a hF=> ?_
   refine cB 0 ?_
   refine qS hF ?_
   refine eT 0 kd 4 ?_
   refine sT [(47,.bool true)] fun a hF=> ?_
   refine cT 47 hF ?_
   cases og
   ·skip
    refine rS hF ?_
    refine tQ 1 0 (rc ob oe oh false (.slice ca 0 cc)) m22 ?_
    refine tO 3 3 m3 ?_
    refine tG 4 (lock_ok _ ob oe oh [] ca cc (r1.zero rfl) (by decide) n (by omega) (by omega)) ?_
    rintro _ h27 ⟨_,rfl,ad25,cap26,rfl,ownx,hge,g⟩
    replace e0:=(e0.ext g21).grew g24 (sep.l 0)
    replace sep:=sep.up g24.size
    replace e0:=e0.ext g
    replace m3:=m3.x g
    replace m22:=m22.x g
    replace sep:=sep.up g.size
    clear hge g;have hrc:=ownx.row;clear ownx
    refine tV 9 0 (rc ob (max oe n) oh false (.slice ad25 0 cap26)) (obx ob (max oe n) oh false (.slice ad25 0 cap26) (.slice ba od.length bc)) m22 fun h28 g29 zq=> ?_
    replace m22:=zq
    refine sE [(6,.int .i64 0)] fun a hF=> ?_
    refine bK ?_
    refine tK ?_
    refine cS ?_
    refine qP [(71,.bool true)] hF fun a hF=> ?_
    refine cT 71 hF ?_
    refine cD [0,1,3,7,0,16,0,127] 13 mixed hF ?_
    refine mP 7 [0,1,2] [pV mb,pV mb,pV mb] ?_
    replace e0:=e0.grew g29 (sep.l 0)
    refine mO 15 8 3 0 (.map (some mp)) (e0.blk hm) ?_
    refine mP 31 [4] [.pointer (some ⟨h.size,1,none⟩)] ?_
    replace m3:=m3.y g29 (sep.bp 1 0)
    refine mO 63 40 5 1 (.string s) m3 ?_
    refine mR 127 104 6 m22 ?_
    have hpo:=e0.blk hp
    refine mF0 255 255 7 (Does.mapOld (t:=81) (k:=9) (el:=101) (v:= .agg (obx ob (max oe n) oh false (.slice ad25 0 cap26) (.slice ba od.length bc)).toArray) (by kernel_rfl) (by kernel_rfl) (by kernel_rfl) hpo hs md.nd) ?_
    rintro _ h30 ⟨rfl,hh⟩
    have gp:=hput_gr hh
    have hpn:=hput_map hh hpo
    refine mE [] fun a hF=> ?_
    refine tK ?_
    refine qP [(4,.int .i64 0)] hF fun a hF=> ?_
    refine cR ?_
    refine rT 4 (.int .i64 0) hF ?_
    have md1:=md.ext e0
    have hob:ObAt W h30 s (.agg (obx ob (max oe n) oh false (.slice ad25 0 cap26) (.slice ba od.length bc)).toArray) ⟨ob,(max oe n),oh,false,od⟩:=⟨hid,hdl,_,_,_,_,rfl,hrc.zero rfl,(r2.ext e0).mg (MG.ofP gp) md1.hm md1.hp⟩
    subst hs
    rw[chg_ok hok (by omega) hf (o':=⟨ob,(max oe n),oh,false,od⟩) (by first|exact chgO_lock hk.1 |exact chgO_hold hk5|exact chgO_del hk hk5 ht)]
    exact⟨rfl,⟨_,_,_,_,_,md1.set gp hpn hob⟩,(MG.ofExt e0).trans (MG.ofP gp)⟩
   ·skip
    refine rS hF ?_
    refine tQ 1 0 (rc ob oe oh true (.slice ca 0 cc)) m22 ?_
    refine tO 3 3 m3 ?_
    refine tG 4 (lock_gone _ ob oe oh [] ca cc n (by omega) (by omega)) ?_
    rintro _ h32 ⟨rfl,g31⟩
    replace m22:=m22.x g31
    refine tV 9 0 (rc rb0 (0:Int) false false (.slice none 0 0)) (obx rb0 (0:Int) false false (.slice none 0 0) (.slice ba od.length bc)) m22 fun h33 g34 zq=> ?_
    replace m22:=zq
    refine sE [(6,.int .i64 213)] fun a hF=> ?_
    refine bK ?_
    refine tK ?_
    refine cS ?_
    refine qP [(71,.bool false)] hF fun a hF=> ?_
    refine cF 71 hF ?_
    refine cN ?_
    refine tK ?_
    refine qP [(4,.int .i64 213)] hF fun a hF=> ?_
    refine cR ?_
    refine rT 4 (.int .i64 213) hF ?_
    replace e0:=(((e0.ext g21).grew g24 (sep.l 0)).ext g31).grew g34 (sep.l 0)
    rw[chg_no hok (by omega) hf (z:=213) (by first|exact chgO_gone|exact chgO_held hk hk5|exact chgO_soon hk hk5 ht) (by decide)];exact⟨rfl,⟨_,_,_,_,_,md.ext e0⟩,MG.ofExt e0⟩
  ·skip
   refine rS hF ?_
   replace m3:=((m3.x g18).x g21).y g24 (sep.bp 1 0)
   refine tO 4 0 m3 ?_
   refine eF 5 kd 4 ?_
   refine sE [(30,.bool false)] fun a hF=> ?_
   refine tK ?_
   refine cF 30 hF ?_
   refine cN ?_
   refine tK ?_
   refine cS ?_
   refine qP [(32,.bool false)] hF fun a hF=> ?_
   refine cF 32 hF ?_
   refine cN ?_
   refine tK ?_
   refine cS ?_
   refine qS hF ?_
   refine tO 1 0 m3 ?_
   refine sT [(35,.int .i64 kd)] fun a hF=> ?_
   refine cB 0 ?_
   refine qS hF ?_
   refine eF 0 kd 4 ?_
   refine sT [(47,.bool false)] fun a hF=> ?_
   refine cF 47 hF ?_
   refine cS ?_
   rcases(by omega:kd=5∨kd≠5) with hk5|hk5
   ·skip
    refine rS hF ?_
    refine eT 0 kd 5 ?_
    refine sE [(58,.bool true)] fun a hF=> ?_
    refine tK ?_
    refine cT 58 hF ?_
    cases og
    ·skip
     refine rS hF ?_
     refine tQ 1 0 (rc ob oe oh false (.slice ca 0 cc)) m22 ?_
     refine tO 3 3 m3 ?_
     refine tG 5 (hold_ok _ ob oe oh [] ca cc (r1.zero rfl) (by decide) (decide (n=(1:Int)))) ?_
     rintro _ h37 ⟨_,rfl,ad35,cap36,rfl,ownx,hge,g⟩
     replace e0:=(e0.ext g21).grew g24 (sep.l 0)
     replace sep:=sep.up g24.size
     replace e0:=e0.ext g
     replace m3:=m3.x g
     replace m22:=m22.x g
     replace sep:=sep.up g.size
     clear hge g;have hrc:=ownx.row;clear ownx
     refine tV 10 0 (rc ob oe (decide (n=(1:Int))) false (.slice ad35 0 cap36)) (obx ob oe (decide (n=(1:Int))) false (.slice ad35 0 cap36) (.slice ba od.length bc)) m22 fun h38 g39 zq=> ?_
     replace m22:=zq
     refine sE [(6,.int .i64 0)] fun a hF=> ?_
     refine bK ?_
     refine tK ?_
     refine cS ?_
     refine qP [(71,.bool true)] hF fun a hF=> ?_
     refine cT 71 hF ?_
     refine cD [0,1,3,7,0,16,0,127] 13 mixed hF ?_
     refine mP 7 [0,1,2] [pV mb,pV mb,pV mb] ?_
     replace e0:=e0.grew g39 (sep.l 0)
     refine mO 15 8 3 0 (.map (some mp)) (e0.blk hm) ?_
     refine mP 31 [4] [.pointer (some ⟨h.size,1,none⟩)] ?_
     replace m3:=m3.y g39 (sep.bp 1 0)
     refine mO 63 40 5 1 (.string s) m3 ?_
     refine mR 127 104 6 m22 ?_
     have hpo:=e0.blk hp
     refine mF0 255 255 7 (Does.mapOld (t:=81) (k:=9) (el:=101) (v:= .agg (obx ob oe (decide (n=(1:Int))) false (.slice ad35 0 cap36) (.slice ba od.length bc)).toArray) (by kernel_rfl) (by kernel_rfl) (by kernel_rfl) hpo hs md.nd) ?_
     rintro _ h40 ⟨rfl,hh⟩
     have gp:=hput_gr hh
     have hpn:=hput_map hh hpo
     refine mE [] fun a hF=> ?_
     refine tK ?_
     refine qP [(4,.int .i64 0)] hF fun a hF=> ?_
     refine cR ?_
     refine rT 4 (.int .i64 0) hF ?_
     have md1:=md.ext e0
     have hob:ObAt W h40 s (.agg (obx ob oe (decide (n=(1:Int))) false (.slice ad35 0 cap36) (.slice ba od.length bc)).toArray) ⟨ob,oe,(decide (n=(1:Int))),false,od⟩:=⟨hid,hdl,_,_,_,_,rfl,hrc.zero rfl,(r2.ext e0).mg (MG.ofP gp) md1.hm md1.hp⟩
     subst hs
     rw[chg_ok hok (by omega) hf (o':=⟨ob,oe,(decide (n=(1:Int))),false,od⟩) (by first|exact chgO_lock hk.1 |exact chgO_hold hk5|exact chgO_del hk hk5 ht)]
     exact⟨rfl,⟨_,_,_,_,_,md1.set gp hpn hob⟩,(MG.ofExt e0).trans (MG.ofP gp)⟩
    ·skip
     refine rS hF ?_
     refine tQ 1 0 (rc ob oe oh true (.slice ca 0 cc)) m22 ?_
     refine tO 3 3 m3 ?_
     refine tG 5 (hold_gone _ ob oe oh [] ca cc (decide (n=(1:Int)))) ?_
     rintro _ h42 ⟨rfl,g41⟩
     replace m22:=m22.x g41
     refine tV 10 0 (rc rb0 (0:Int) false false (.slice none 0 0)) (obx rb0 (0:Int) false false (.slice none 0 0) (.slice ba od.length bc)) m22 fun h43 g44 zq=> ?_
     replace m22:=zq
     refine sE [(6,.int .i64 213)] fun a hF=> ?_
     refine bK ?_
     refine tK ?_
     refine cS ?_
     refine qP [(71,.bool false)] hF fun a hF=> ?_
     refine cF 71 hF ?_
     refine cN ?_
     refine tK ?_
     refine qP [(4,.int .i64 213)] hF fun a hF=> ?_
     refine cR ?_
     refine rT 4 (.int .i64 213) hF ?_
     replace e0:=(((e0.ext g21).grew g24 (sep.l 0)).ext g41).grew g44 (sep.l 0)
     rw[chg_no hok (by omega) hf (z:=213) (by first|exact chgO_gone|exact chgO_held hk hk5|exact chgO_soon hk hk5 ht) (by decide)];exact⟨rfl,⟨_,_,_,_,_,md.ext e0⟩,MG.ofExt e0⟩
   ·skip
    refine rS hF ?_
    refine eF 0 kd 5 ?_
    refine sE [(58,.bool false)] fun a hF=> ?_
    refine tK ?_
    refine cF 58 hF ?_
    rcases delcase og oh M.t oe with rfl|⟨rfl,rfl⟩|⟨rfl,rfl,ht⟩|⟨rfl,rfl,ht⟩
    ·skip
     refine cD [0,1,0,4,12,28,63,127,255,255,511,1535,4095] 7 mixed hF ?_
     refine mP 1 [0] [pV h19.size] ?_
     refine mQ 3 2 1 0 (rc ob oe oh true (.slice ca 0 cc)) m22 ?_
     refine mP 31 [2,3,4] [pV mb,pV mb,.pointer (some ⟨mb,2,none⟩)] ?_
     replace e0:=(e0.ext g21).grew g24 (sep.l 0)
     refine mO 63 34 5 2 (.int .i64 M.t) (e0.blk hm) ?_
     refine mG0 127 127 6 (del_gone _ ob oe oh [] ca cc M.t) ?_
     rintro _ h46 ⟨rfl,g45⟩
     refine mP 2047 [7,8,9,10] [.tuple #[.agg (rc rb0 (0:Int) false false (.slice none 0 0)).toArray,.int .i64 213],.agg (rc rb0 (0:Int) false false (.slice none 0 0)).toArray,.int .i64 213,pV h19.size] ?_
     replace m22:=m22.x g45
     refine mV 4095 3583 11 0 (rc rb0 (0:Int) false false (.slice none 0 0)) (obx rb0 (0:Int) false false (.slice none 0 0) (.slice ba od.length bc)) m22 fun h47 g48 zq=> ?_
     replace m22:=zq
     refine mP 8191 [12] [.int .i64 213] ?_
     refine mE [(6,.int .i64 213)] fun a hF=> ?_
     refine bK ?_
     refine tK ?_
     refine cS ?_
     refine qP [(71,.bool false)] hF fun a hF=> ?_
     refine cF 71 hF ?_
     refine cN ?_
     refine tK ?_
     refine qP [(4,.int .i64 213)] hF fun a hF=> ?_
     refine cR ?_
     refine rT 4 (.int .i64 213) hF ?_
     replace e0:=(e0.ext g45).grew g48 (sep.l 0)
     rw[chg_no hok (by omega) hf (z:=213) (by first|exact chgO_gone|exact chgO_held hk hk5|exact chgO_soon hk hk5 ht) (by decide)];exact⟨rfl,⟨_,_,_,_,_,md.ext e0⟩,MG.ofExt e0⟩
    ·skip
     refine cD [0,1,0,4,12,28,63,127,255,255,511,1535,4095] 7 mixed hF ?_
     refine mP 1 [0] [pV h19.size] ?_
     refine mQ 3 2 1 0 (rc ob oe true false (.slice ca 0 cc)) m22 ?_
     refine mP 31 [2,3,4] [pV mb,pV mb,.pointer (some ⟨mb,2,none⟩)] ?_
     replace e0:=(e0.ext g21).grew g24 (sep.l 0)
     refine mO 63 34 5 2 (.int .i64 M.t) (e0.blk hm) ?_
     refine mG0 127 127 6 (del_held _ ob oe [] ca cc M.t) ?_
     rintro _ h50 ⟨rfl,g49⟩
     refine mP 2047 [7,8,9,10] [.tuple #[.agg (rc rb0 (0:Int) false false (.slice none 0 0)).toArray,.int .i64 214],.agg (rc rb0 (0:Int) false false (.slice none 0 0)).toArray,.int .i64 214,pV h19.size] ?_
     replace m22:=m22.x g49
     refine mV 4095 3583 11 0 (rc rb0 (0:Int) false false (.slice none 0 0)) (obx rb0 (0:Int) false false (.slice none 0 0) (.slice ba od.length bc)) m22 fun h51 g52 zq=> ?_
     replace m22:=zq
     refine mP 8191 [12] [.int .i64 214] ?_
     refine mE [(6,.int .i64 214)] fun a hF=> ?_
     refine bK ?_
     refine tK ?_
     refine cS ?_
     refine qP [(71,.bool false)] hF fun a hF=> ?_
     refine cF 71 hF ?_
     refine cN ?_
     refine tK ?_
     refine qP [(4,.int .i64 214)] hF fun a hF=> ?_
     refine cR ?_
     refine rT 4 (.int .i64 214) hF ?_
     replace e0:=(e0.ext g49).grew g52 (sep.l 0)
     rw[chg_no hok (by omega) hf (z:=214) (by first|exact chgO_gone|exact chgO_held hk hk5|exact chgO_soon hk hk5 ht) (by decide)];exact⟨rfl,⟨_,_,_,_,_,md.ext e0⟩,MG.ofExt e0⟩
    ·skip
     refine cD [0,1,0,4,12,28,63,127,255,255,511,1535,4095] 7 mixed hF ?_
     refine mP 1 [0] [pV h19.size] ?_
     refine mQ 3 2 1 0 (rc ob oe false false (.slice ca 0 cc)) m22 ?_
     refine mP 31 [2,3,4] [pV mb,pV mb,.pointer (some ⟨mb,2,none⟩)] ?_
     replace e0:=(e0.ext g21).grew g24 (sep.l 0)
     refine mO 63 34 5 2 (.int .i64 M.t) (e0.blk hm) ?_
     refine mG0 127 127 6 (del_soon _ ob oe [] ca cc M.t ht) ?_
     rintro _ h54 ⟨rfl,g53⟩
     refine mP 2047 [7,8,9,10] [.tuple #[.agg (rc rb0 (0:Int) false false (.slice none 0 0)).toArray,.int .i64 214],.agg (rc rb0 (0:Int) false false (.slice none 0 0)).toArray,.int .i64 214,pV h19.size] ?_
     replace m22:=m22.x g53
     refine mV 4095 3583 11 0 (rc rb0 (0:Int) false false (.slice none 0 0)) (obx rb0 (0:Int) false false (.slice none 0 0) (.slice ba od.length bc)) m22 fun h55 g56 zq=> ?_
     replace m22:=zq
     refine mP 8191 [12] [.int .i64 214] ?_
     refine mE [(6,.int .i64 214)] fun a hF=> ?_
     refine bK ?_
     refine tK ?_
     refine cS ?_
     refine qP [(71,.bool false)] hF fun a hF=> ?_
     refine cF 71 hF ?_
     refine cN ?_
     refine tK ?_
     refine qP [(4,.int .i64 214)] hF fun a hF=> ?_
     refine cR ?_
     refine rT 4 (.int .i64 214) hF ?_
     replace e0:=(e0.ext g53).grew g56 (sep.l 0)
     rw[chg_no hok (by omega) hf (z:=214) (by first|exact chgO_gone|exact chgO_held hk hk5|exact chgO_soon hk hk5 ht) (by decide)];exact⟨rfl,⟨_,_,_,_,_,md.ext e0⟩,MG.ofExt e0⟩
    ·skip
     refine cD [0,1,0,4,12,28,63,127,255,255,511,1535,4095] 7 mixed hF ?_
     refine mP 1 [0] [pV h19.size] ?_
     refine mQ 3 2 1 0 (rc ob oe false false (.slice ca 0 cc)) m22 ?_
     refine mP 31 [2,3,4] [pV mb,pV mb,.pointer (some ⟨mb,2,none⟩)] ?_
     replace e0:=(e0.ext g21).grew g24 (sep.l 0)
     refine mO 63 34 5 2 (.int .i64 M.t) (e0.blk hm) ?_
     refine mG0 127 127 6 (del_ok _ ob oe [] ca cc (r1.zero rfl) (by decide) M.t ht) ?_
     rintro _ h58 ⟨rfl,g57⟩
     refine mP 2047 [7,8,9,10] [.tuple #[.agg (rc ob oe false true (.slice none 0 0)).toArray,.int .i64 0],.agg (rc ob oe false true (.slice none 0 0)).toArray,.int .i64 0,pV h19.size] ?_
     replace m22:=m22.x g57
     refine mV 4095 3583 11 0 (rc ob oe false true (.slice none 0 0)) (obx ob oe false true (.slice none 0 0) (.slice ba od.length bc)) m22 fun h59 g60 zq=> ?_
     replace m22:=zq
     refine mP 8191 [12] [.int .i64 0] ?_
     refine mE [(6,.int .i64 0)] fun a hF=> ?_
     refine bK ?_
     refine tK ?_
     refine cS ?_
     refine qP [(71,.bool true)] hF fun a hF=> ?_
     refine cT 71 hF ?_
     refine cD [0,1,3,7,0,16,0,127] 13 mixed hF ?_
     refine mP 7 [0,1,2] [pV mb,pV mb,pV mb] ?_
     replace e0:=(e0.ext g57).grew g60 (sep.l 0)
     refine mO 15 8 3 0 (.map (some mp)) (e0.blk hm) ?_
     refine mP 31 [4] [.pointer (some ⟨h.size,1,none⟩)] ?_
     replace m3:=(m3.x g57).y g60 (sep.bp 1 0)
     refine mO 63 40 5 1 (.string s) m3 ?_
     refine mR 127 104 6 m22 ?_
     have hpo:=e0.blk hp
     refine mF0 255 255 7 (Does.mapOld (t:=81) (k:=9) (el:=101) (v:= .agg (obx ob oe false true (.slice none 0 0) (.slice ba od.length bc)).toArray) (by kernel_rfl) (by kernel_rfl) (by kernel_rfl) hpo hs md.nd) ?_
     rintro _ h61 ⟨rfl,hh⟩
     have gp:=hput_gr hh
     have hpn:=hput_map hh hpo
     refine mE [] fun a hF=> ?_
     refine tK ?_
     refine qP [(4,.int .i64 0)] hF fun a hF=> ?_
     refine cR ?_
     refine rT 4 (.int .i64 0) hF ?_
     have md1:=md.ext e0
     have hob:ObAt W h61 s (.agg (obx ob oe false true (.slice none 0 0) (.slice ba od.length bc)).toArray) ⟨ob,oe,false,true,od⟩:=⟨hid,hdl,_,_,_,_,rfl,(Row.nil h 4).zero rfl,(r2.ext e0).mg (MG.ofP gp) md1.hm md1.hp⟩
     subst hs
     rw[chg_ok hok (by omega) hf (o':=⟨ob,oe,false,true,od⟩) (by first|exact chgO_lock hk.1 |exact chgO_hold hk5|exact chgO_del hk hk5 ht)]
     exact⟨rfl,⟨_,_,_,_,_,md1.set gp hpn hob⟩,(MG.ofExt e0).trans (MG.ofP gp)⟩
end Go.Proofs.YtegkejcglfgpmaaGreatDoor
end
section
namespace Go.Proofs.YtegkejcglfgpmaaGreatDoor
open Go Go.Lane Go.Sha
theorem root_r(h:Heap)(b:List UInt8)(va:Option Addr)(vc:Nat)(hr:Row h (.slice va b.length vc) b.length 1 (b.map bv))(hbl:b.length ≤1099511627000)(kt:Ktab h):Sat Tryz.prog 63 #[.slice va b.length vc] h fun v h'=>v= .agg ((hl (rbh (rootB b))).map bv).toArray ∧Ext h h':=by
 rw[hl_rbh (rootB_len b)];exact root7_sat h b va vc hr hbl kt
theorem entry_r(h:Heap)(s:ByteArray)(n:Nat)(l:List UInt8)(y:RB)(hy:hl y=l)(hs:nameOk s=true)(hn:n≤512):Sat Tryz.prog 65 #[.string s,.int .i64 ((n:Nat):Int),.agg ((hl y).map bv).toArray] h fun v h'=>∃ad cap,v= .tuple #[.slice ad (entB s n l).length cap,.int .i64 0]∧Own h' (.slice ad (entB s n l).length cap) 5 (entB s n l).length 1 ((entB s n l).map bv)∧(∀k,ad.map (fun(x:Addr)=>x.block)=some k→h.size ≤k)∧Ext h h':=by
 subst hy;exact entry_sat h s n (hl y) hs hn rfl
noncomputable def b32:Code:=Tryz.f32.body.getD .skip
theorem rowclip{h:Heap}{a:Option Addr}{n c sz:Nat}{xs:List Value}(r:Row h (.slice a n c) n sz xs):Row h (.slice a n n) n sz xs:=by
 refine⟨r.1,?_⟩
 rcases r.2 with⟨e,h0⟩|⟨x,cap,e,_,hx⟩
 ·cases e;exact .inl ⟨rfl,rfl⟩
 ·cases e;exact .inr ⟨x,n,rfl,Nat.le_refl _,hx⟩
theorem _root_.Go.Lane.Row.caple'{h:Heap}{a:Option Addr}{n c sz:Nat}{xs:List Value}(r:Row h (.slice a n c) n sz xs):n≤c:=by
 rcases r.2 with⟨e,h0⟩|⟨x,cap,e,hc,hx⟩
 ·cases e;exact Nat.le_refl _
 ·cases e;exact hc
set_option maxHeartbeats 1000000 in
theorem put_sat{W:Nat→Prop}(h:Heap)(mb mp:Nat)(M:Md)(L:List Ent)(ck:Nat)(ea:Option Addr)(ec:Nat)(es:List Value)(md:ModA W h mb mp M L ck ea ec es)(hW:∀k,W k→k<h.size)(s:ByteArray)(hsz:s.size ≤9223372036854775807)(b:List UInt8)(va:Option Addr)(vc:Nat)(hr:Row h (.slice va b.length vc) b.length 1 (b.map bv))(kt:Ktab h)(hE:M.E.length ≤1099511627):Sat Tryz.prog 32 #[.pointer (some ⟨mb,0,none⟩),.string s,.slice va b.length vc] h fun v h'=>v= .int .i64 (putM M s b).2 ∧ModW W h' mb mp (putM M s b).1 ∧MG mb mp h h':=by
 have hm:=md.hm
 have hp:=md.hp
 have e0:=Ext.refl h
 have h0s:=kt.lt
 have sep:Sep h.size h.size []:=Sep.nil _ _
 refine sat_in Tryz.func32 76 fun a hF=> ?_
 refine qP [] hF fun a hF=> ?_
 refine cS ?_
 rcases md.find s with⟨hf,hno⟩|⟨A,x,B,o,rfl,hs,hf,hid,hdl,ca,cc,ba,bc,hv,r1,r2⟩
 ·skip
  refine rS hF ?_
  refine tO 3 0 (e0.blk hm) ?_
  refine tC 5 (.tuple #[.agg (obx rb0 (0:Int) false false (.slice none 0 0) (.slice none 0 0)).toArray,.bool false]) (lookNo (t:=81) 9 101 (by kernel_rfl) (by kernel_rfl) (by kernel_rfl) (.agg (obx rb0 (0:Int) false false (.slice none 0 0) (.slice none 0 0)).toArray) (by kernel_rfl) (e0.blk hp) hno) ?_
  refine tN 9 (pV h.size) ((obx rb0 (0:Int) false false (.slice none 0 0) (.slice none 0 0)).toArray) 101 fun h1 g2 m3=> ?_
  replace sep:=sep.nw e0.size m3
  refine tV0 10 (obx rb0 (0:Int) false false (.slice none 0 0) (.slice none 0 0)) m3 fun h4 g5 zq=> ?_
  replace m3:=zq
  refine sE [(8,.bool false)] fun a hF=> ?_
  refine tK ?_
  refine cS ?_
  refine cB 0 ?_
  refine cS ?_
  rcases Bool.eq_false_or_eq_true (nameOk s) with hok|hok
  ·skip
   refine rS hF ?_
   refine tC 1 (.bool true) (Does.call (f:=62) (args:= #[.string s]) (by kernel_rfl) (name_yes _ s hok)) ?_
   refine sE [(21,.bool false)] fun a hF=> ?_
   refine tK ?_
   refine cF 21 hF ?_
   refine cS ?_
   rcases Nat.lt_or_ge 512 b.length with hlo5|hlo5
   ·skip
    refine rS hF ?_
    refine tT 2 ((512:Int)<((b.length :Nat):Int)) ?_
    refine sE [(25,.bool true)] fun a hF=> ?_
    refine tK ?_
    refine cT 25 hF ?_
    refine qP [(6,.int .i64 5)] hF fun a hF=> ?_
    refine cR (yB (yT ?_))
    refine rT 6 (.int .i64 5) hF ?_
    replace e0:=(e0.ext g2).grew g5 (sep.l 0)
    rw[putM_long hok hlo5];exact⟨rfl,⟨_,_,_,_,_,md.ext e0⟩,MG.ofExt e0⟩
   ·skip
    refine rS hF ?_
    refine tX 2 ((512:Int)<((b.length :Nat):Int)) ?_
    refine sE [(25,.bool false)] fun a hF=> ?_
    refine tK ?_
    refine cF 25 hF ?_
    refine qP [(29,.bool false)] hF fun a hF=> ?_
    refine cF 29 hF ?_
    refine cN ?_
    refine bK ?_
    refine tK ?_
    refine cS ?_
    refine C.mono (K:=fun e a hJ=>∃(bk6:Nat),∃(ad8:Option Addr) (cap9:Nat),e= .normal ∧(Ext h hJ)∧(Ktab hJ)∧(Own hJ (.slice ad8 b.length cap9) 5 b.length 1 (b.map bv))∧(hJ[h.size]? =some (.cells (obx rb0 (0:Int) false false (.slice none 0 0) (.slice none 0 0)).toArray 101))∧(hJ[bk6]? =some (.cells (obx (rbo s ((b.length :Nat):Int) (rootB b) ((M.E.length :Nat):Int)) (0:Int) false false (.slice none 0 0) (.slice ad8 b.length cap9)).toArray 101))∧(Sep h.size hJ.size [some bk6,ad8.map (·.block),some (h.size)])∧Fr a 76 [(0,.pointer (some ⟨mb,0,none⟩)),(1,.string s),(9,.pointer (some ⟨bk6,0,none⟩))]) ?_ ?_
    ·skip
     refine cD [0,0,2,0,8,0,32,96,224,480,1023,0,2072,8191,0,32767] 8 mixed hF ?_
     refine mP 239 [0,1,2,3,5,6,7] [.string s,.slice va b.length vc,nV b.length,.slice va b.length vc,pV mb,pV mb,.pointer (some ⟨mb,1,none⟩)] ?_
     replace e0:=(e0.ext g2).grew g5 (sep.l 0)
     refine mO 495 256 8 1 (.slice ea M.E.length ec) (e0.blk hm) ?_
     refine mP 3055 [9,11] [nV M.E.length,.slice va b.length vc] ?_
     refine SimK.effs (is:=[4,14]) (by kernel_rfl) (by simp) ?_
     intro q hq
     simp only[List.mem_cons,List.not_mem_nil,or_false] at hq
     rcases hq with rfl|rfl
     ·skip
      replace kt:=(kt.ext g2).grew g5 (sep.zero 0 rfl h0s)
      refine mFa 3071 24 4 [8] (Does.call (f:=63) (args:= #[.slice va b.length vc]) (by kernel_rfl) (root_r _ b _ _ (hr.ext e0) (by omega) kt)) ?_
      rintro _ h9 ⟨rfl,g8⟩
      replace e0:=e0.ext g8
      refine⟨?_,?_⟩
      ·intro j hj
       simp only[List.mem_cons,List.not_mem_nil,or_false] at hj
       subst hj
       exact goodOf (Calm.load (T:=67) (p:=⟨mb,1,none⟩) (by kernel_rfl) (Loads.one (k:=1) (by kernel_rfl) ((hcell_blk (e0.blk hm)).trans rfl)))
      refine mP 4095 [10] [.agg (rc (rbo s ((b.length :Nat):Int) (rootB b) ((M.E.length :Nat):Int)) (0:Int) false false (.slice none 0 0)).toArray] ?_
      refine SimK.effs (is:=[12,14]) (by kernel_rfl) (by simp) ?_
      intro q hq
      simp only[List.mem_cons,List.not_mem_nil,or_false] at hq
      rcases hq with rfl|rfl
      ·skip
       refine mFa 8191 6168 12 [8] (Does.call (f:=64) (args:= #[.slice va b.length vc]) (by kernel_rfl) (cloneb_sat _ b b.length _ _ (hr.ext e0) (by omega))) ?_
       rintro _ h14 ⟨ad10,cap11,rfl,own_v,hg13,g12⟩
       replace sep:=((sep.up g5.size).up g8.size).co g12 hg13 own_v e0.size
       replace e0:=e0.ext g12
       refine⟨?_,?_⟩
       ·intro j hj
        simp only[List.mem_cons,List.not_mem_nil,or_false] at hj
        subst hj
        exact goodOf (Calm.load (T:=67) (p:=⟨mb,1,none⟩) (by kernel_rfl) (Loads.one (k:=1) (by kernel_rfl) ((hcell_blk (e0.blk hm)).trans rfl)))
       refine mP 16383 [13] [.agg (obx (rbo s ((b.length :Nat):Int) (rootB b) ((M.E.length :Nat):Int)) (0:Int) false false (.slice none 0 0) (.slice ad10 b.length cap11)).toArray] ?_
       refine mFp 32767 22552 14 [8] (Does.new (v:= .pointer (some ⟨h14.size,0,none⟩)) (o:= .cells (obx rb0 (0:Int) false false (.slice none 0 0) (.slice none 0 0)).toArray 101) (by kernel_rfl)) ?_
       rintro _ h15 ⟨rfl,hh⟩
       have g16:Ext h14 h15:=push_ext hh
       have m17:h15[h14.size]? =some (.cells (obx rb0 (0:Int) false false (.slice none 0 0) (.slice none 0 0)).toArray 101):=push_at hh
       clear hh
       replace sep:=sep.nw e0.size m17
       replace e0:=e0.ext g16
       refine⟨?_,?_⟩
       ·intro j hj
        simp only[List.mem_cons,List.not_mem_nil,or_false] at hj
        subst hj
        exact goodOf (Calm.load (T:=67) (p:=⟨mb,1,none⟩) (by kernel_rfl) (Loads.one (k:=1) (by kernel_rfl) ((hcell_blk (e0.blk hm)).trans rfl)))
       refine mV 65535 65535 15 0 (obx (rbo s ((b.length :Nat):Int) (rootB b) ((M.E.length :Nat):Int)) (0:Int) false false (.slice none 0 0) (.slice ad10 b.length cap11)) (obx (rbo s ((b.length :Nat):Int) (rootB b) ((M.E.length :Nat):Int)) (0:Int) false false (.slice none 0 0) (.slice ad10 b.length cap11)) m17 fun h18 g19 zq=> ?_
       replace m17:=zq
       refine mE [(9,pV h14.size)] fun a hF=> ?_
       replace sep:=sep.up g19.size
       have sepj:=sep.pick (l':=[some h14.size,ad10.map (·.block),some (h.size)]) [0,1,2] rfl (by decide)
       replace kt:=(((kt.ext g8).ext g12).ext g16).grew g19 (sep.zero 0 rfl h0s)
       replace m3:=(((m3.x g8).x g12).x g16).y g19 (sep.bp 2 0)
       replace own_v:=(own_v.ext g16).k g19 (sep.ap 1 0)
       replace e0:=e0.grew g19 (sep.l 0)
       exact⟨h14.size,ad10,cap11,rfl,e0,kt,own_v,m3,m17,sepj,hF.to⟩
      ·skip
       refine mFa 20479 16408 14 [8] (Does.new (v:= .pointer (some ⟨h9.size,0,none⟩)) (o:= .cells (obx rb0 (0:Int) false false (.slice none 0 0) (.slice none 0 0)).toArray 101) (by kernel_rfl)) ?_
       rintro _ h20 ⟨rfl,hh⟩
       have g21:Ext h9 h20:=push_ext hh
       have m22:h20[h9.size]? =some (.cells (obx rb0 (0:Int) false false (.slice none 0 0) (.slice none 0 0)).toArray 101):=push_at hh
       clear hh
       replace sep:=((sep.up g5.size).up g8.size).nw e0.size m22
       replace e0:=e0.ext g21
       refine⟨?_,?_⟩
       ·intro j hj
        simp only[List.mem_cons,List.not_mem_nil,or_false] at hj
        subst hj
        exact goodOf (Calm.load (T:=67) (p:=⟨mb,1,none⟩) (by kernel_rfl) (Loads.one (k:=1) (by kernel_rfl) ((hcell_blk (e0.blk hm)).trans rfl)))
       refine mFp 24575 22552 12 [8] (Does.call (f:=64) (args:= #[.slice va b.length vc]) (by kernel_rfl) (cloneb_sat _ b b.length _ _ (hr.ext e0) (by omega))) ?_
       rintro _ h27 ⟨ad23,cap24,rfl,own_v,hg26,g25⟩
       replace sep:=sep.co g25 hg26 own_v e0.size
       replace e0:=e0.ext g25
       refine⟨?_,?_⟩
       ·intro j hj
        simp only[List.mem_cons,List.not_mem_nil,or_false] at hj
        subst hj
        exact goodOf (Calm.load (T:=67) (p:=⟨mb,1,none⟩) (by kernel_rfl) (Loads.one (k:=1) (by kernel_rfl) ((hcell_blk (e0.blk hm)).trans rfl)))
       refine mP 32767 [13] [.agg (obx (rbo s ((b.length :Nat):Int) (rootB b) ((M.E.length :Nat):Int)) (0:Int) false false (.slice none 0 0) (.slice ad23 b.length cap24)).toArray] ?_
       replace m22:=m22.x g25
       refine mV 65535 65535 15 0 (obx (rbo s ((b.length :Nat):Int) (rootB b) ((M.E.length :Nat):Int)) (0:Int) false false (.slice none 0 0) (.slice ad23 b.length cap24)) (obx (rbo s ((b.length :Nat):Int) (rootB b) ((M.E.length :Nat):Int)) (0:Int) false false (.slice none 0 0) (.slice ad23 b.length cap24)) m22 fun h28 g29 zq=> ?_
       replace m22:=zq
       refine mE [(9,pV h9.size)] fun a hF=> ?_
       replace sep:=sep.up g29.size
       have sepj:=sep.pick (l':=[some h9.size,ad23.map (·.block),some (h.size)]) [1,0,2] rfl (by decide)
       replace kt:=(((kt.ext g8).ext g21).ext g25).grew g29 (sep.zero 1 rfl h0s)
       replace m3:=(((m3.x g8).x g21).x g25).y g29 (sep.bp 2 1)
       replace e0:=e0.grew g29 (sep.l 1)
       replace own_v:=own_v.k g29 (sep.ap 0 1)
       exact⟨h9.size,ad23,cap24,rfl,e0,kt,own_v,m3,m22,sepj,hF.to⟩
     ·skip
      refine mFa 19439 16384 14 [8] (Does.new (v:= .pointer (some ⟨h4.size,0,none⟩)) (o:= .cells (obx rb0 (0:Int) false false (.slice none 0 0) (.slice none 0 0)).toArray 101) (by kernel_rfl)) ?_
      rintro _ h30 ⟨rfl,hh⟩
      have g31:Ext h4 h30:=push_ext hh
      have m32:h30[h4.size]? =some (.cells (obx rb0 (0:Int) false false (.slice none 0 0) (.slice none 0 0)).toArray 101):=push_at hh
      clear hh
      replace sep:=(sep.up g5.size).nw e0.size m32
      replace e0:=e0.ext g31
      refine⟨?_,?_⟩
      ·intro j hj
       simp only[List.mem_cons,List.not_mem_nil,or_false] at hj
       subst hj
       exact goodOf (Calm.load (T:=67) (p:=⟨mb,1,none⟩) (by kernel_rfl) (Loads.one (k:=1) (by kernel_rfl) ((hcell_blk (e0.blk hm)).trans rfl)))
      replace kt:=((kt.ext g2).grew g5 (sep.zero 1 rfl h0s)).ext g31
      refine mFp 19455 16408 4 [8] (Does.call (f:=63) (args:= #[.slice va b.length vc]) (by kernel_rfl) (root_r _ b _ _ (hr.ext e0) (by omega) kt)) ?_
      rintro _ h34 ⟨rfl,g33⟩
      replace e0:=e0.ext g33
      refine⟨?_,?_⟩
      ·intro j hj
       simp only[List.mem_cons,List.not_mem_nil,or_false] at hj
       subst hj
       exact goodOf (Calm.load (T:=67) (p:=⟨mb,1,none⟩) (by kernel_rfl) (Loads.one (k:=1) (by kernel_rfl) ((hcell_blk (e0.blk hm)).trans rfl)))
      refine mP 20479 [10] [.agg (rc (rbo s ((b.length :Nat):Int) (rootB b) ((M.E.length :Nat):Int)) (0:Int) false false (.slice none 0 0)).toArray] ?_
      refine mFp 24575 22552 12 [8] (Does.call (f:=64) (args:= #[.slice va b.length vc]) (by kernel_rfl) (cloneb_sat _ b b.length _ _ (hr.ext e0) (by omega))) ?_
      rintro _ h39 ⟨ad35,cap36,rfl,own_v,hg38,g37⟩
      replace sep:=(sep.up g33.size).co g37 hg38 own_v e0.size
      replace e0:=e0.ext g37
      refine⟨?_,?_⟩
      ·intro j hj
       simp only[List.mem_cons,List.not_mem_nil,or_false] at hj
       subst hj
       exact goodOf (Calm.load (T:=67) (p:=⟨mb,1,none⟩) (by kernel_rfl) (Loads.one (k:=1) (by kernel_rfl) ((hcell_blk (e0.blk hm)).trans rfl)))
      refine mP 32767 [13] [.agg (obx (rbo s ((b.length :Nat):Int) (rootB b) ((M.E.length :Nat):Int)) (0:Int) false false (.slice none 0 0) (.slice ad35 b.length cap36)).toArray] ?_
      replace m32:=(m32.x g33).x g37
      refine mV 65535 65535 15 0 (obx (rbo s ((b.length :Nat):Int) (rootB b) ((M.E.length :Nat):Int)) (0:Int) false false (.slice none 0 0) (.slice ad35 b.length cap36)) (obx (rbo s ((b.length :Nat):Int) (rootB b) ((M.E.length :Nat):Int)) (0:Int) false false (.slice none 0 0) (.slice ad35 b.length cap36)) m32 fun h40 g41 zq=> ?_
      replace m32:=zq
      refine mE [(9,pV h4.size)] fun a hF=> ?_
      replace sep:=sep.up g41.size
      have sepj:=sep.pick (l':=[some h4.size,ad35.map (·.block),some (h.size)]) [1,0,2] rfl (by decide)
      replace m3:=(((m3.x g31).x g33).x g37).y g41 (sep.bp 2 1)
      replace kt:=((kt.ext g33).ext g37).grew g41 (sep.zero 1 rfl h0s)
      replace e0:=e0.grew g41 (sep.l 1)
      replace own_v:=own_v.k g41 (sep.ap 0 1)
      exact⟨h4.size,ad35,cap36,rfl,e0,kt,own_v,m3,m32,sepj,hF.to⟩
    ·skip
     clear hF a e0 kt m3 sep
     rintro e a h42 ⟨bk6,ad8,cap9,rfl,e0,kt,own_v,m3,mk7,sep,hF⟩
     refine tK ?_
     refine qS hF ?_
     refine tO 3 1 mk7 ?_
     refine tQ 6 2 ((hl (rbo s ((b.length :Nat):Int) (rootB b) ((M.E.length :Nat):Int))).map bv) mk7 ?_
     refine tG 7 (entry_r _ s b.length (rootB b) (rbo s ((b.length :Nat):Int) (rootB b) ((M.E.length :Nat):Int)) (hl_rbo (rootB_len b)) hok (by omega)) ?_
     rintro _ h47 ⟨ad43,cap44,rfl,own_x,hg46,g45⟩
     replace sep:=sep.co g45 hg46 own_x e0.size
     refine sT [(10,.slice ad43 ((entB s b.length (rootB b)).length) cap44),(11,.int .i64 0)] fun a hF=> ?_
     refine cS ?_
     refine qP [(57,.bool true)] hF fun a hF=> ?_
     refine cT 57 hF ?_
     refine cS ?_
     refine cD [0,1,3,7,0,0,63] 11 mixed hF ?_
     refine mP 7 [0,1,2] [pV mb,pV mb,pV mb] ?_
     replace e0:=e0.ext g45
     refine mO 15 8 3 0 (.map (some mp)) (e0.blk hm) ?_
     refine mP 31 [4] [.string s] ?_
     replace mk7:=mk7.x g45
     refine mR 63 40 5 mk7 ?_
     have hpo:=e0.blk hp
     have hmo:=e0.blk hm
     have hbm:=blk_lt hm
     have hbp:=blk_lt hp
     refine mF0 127 127 6 (Does.mapNew (t:=81) (k:=9) (el:=101) (v:= .agg (obx (rbo s ((b.length :Nat):Int) (rootB b) ((M.E.length :Nat):Int)) (0:Int) false false (.slice none 0 0) (.slice ad8 b.length cap9)).toArray) (by kernel_rfl) (by kernel_rfl) (by kernel_rfl) hpo hno) ?_
     rintro _ h48 ⟨rfl,hh⟩
     have gp:=hput_gr hh
     have hpn:=hput_map hh hpo
     have hm2:=gp.blk hmo (fun e=>md.ne (Option.some.inj e))
     have g0:MG mb mp h h48:=(MG.ofExt e0).trans (MG.ofP gp)
     replace own_v:=own_v.ext g45
     replace own_v:=own_v.kept gp (by rw[blkOf_slice];right;intro e;have:=sep.low 2 rfl _ e;omega)
     replace own_x:=own_x.kept gp (by rw[blkOf_slice];right;intro e;have:=sep.low 0 rfl _ e;omega)
     replace sep:=sep.up gp.size
     have hlo9:=Nat.le_trans e0.size gp.size
     clear hh
     refine mE [] fun a hF=> ?_
     refine tK ?_
     refine rS hF ?_
     refine tO 4 1 hm2 ?_
     refine tC 5 (.slice ea M.E.length M.E.length) (Does.call (f:=66) (args:= #[.slice ea M.E.length ec]) (by kernel_rfl) (clip_sat _ M.E.length ea ec md.er.1.1.caple')) ?_
     have her:=(md.er.ext e0).mg (MG.ofP gp) hmo hpo
     refine tN 7 (.slice (some ⟨h48.size,0,none⟩) 1 1) #[.slice ad43 ((entB s b.length (rootB b)).length) cap44] 32 fun h49 g50 m51=> ?_
     replace sep:=sep.nw g0.1 m51
     replace her:=her.ext g50
     refine tF 8 (Does.appendClip (t:=67) (E:=32) (sz:=1) (by_:=24) (n:=M.E.length) (m:=1) (xs:=es) (ys:=[.slice ad43 ((entB s b.length (rootB b)).length) cap44]) (by kernel_rfl) (by kernel_rfl) (rowclip her.1.1) (Row.blk m51 rfl) (List.all_eq_true.1 (by rfl)) (by decide) (by unfold maxLen;omega) (by omega)) ?_
     rintro _ h54 ⟨ad52,cap53,rfl,own_n,hbn,g⟩
     replace g0:=g0.ext g50
     have hbn2:∀k,(some ad52).map (fun(x:Addr)=>x.block)=some k→h.size ≤k:=fun k e=>by have e2:ad52.block =k:=(by simpa using e);have:=g0.1;omega
     replace kt:=kt.ext g45
     replace m3:=m3.x g45
     replace own_v:=own_v.ext g50
     replace own_x:=own_x.ext g50
     replace hpn:=g50.blk hpn
     replace hm2:=hm2.x g50
     replace own_v:=own_v.ext g
     replace own_x:=own_x.ext g
     replace g0:=g0.ext g
     replace hpn:=g.blk hpn
     replace her:=her.ext g
     replace hm2:=hm2.x g
     replace m51:=m51.x g
     replace sep:=sep.up g.size
     clear g
     refine tW 11 1 ([.slice (some ad52) (M.E.length +1) cap53]) ([.map (some mp),.slice ea M.E.length ec,.int .i64 M.t]) ([.map (some mp),.slice (some ad52) (M.E.length +1) cap53,.int .i64 M.t]) hm2 (fun h55 gm hmD=> ?_)
     refine sE [] fun a hF=> ?_
     refine tK ?_
     refine qP [(6,.int .i64 0)] hF fun a hF=> ?_
     refine cR ?_
     refine rT 6 (.int .i64 0) hF ?_
     have hel:=entB_len s b.length (rootB_len b)
     have hsl:=name_le hok
     have hob:ObAt W h54 s (.agg (obx (rbo s ((b.length :Nat):Int) (rootB b) ((M.E.length :Nat):Int)) (0:Int) false false (.slice none 0 0) (.slice ad8 b.length cap9)).toArray) (putO s b M.E.length):=⟨rfl,hlo5,_,_,_,_,rfl,(Row.nil h 4).zero rfl,RowW.new own_v (by decide) hW (sep.low 3 rfl)⟩
     have hfin:=md.put2 g0 hpn hm2 hno hob (RowW.new own_n (by decide) hW hbn2) (by omega) (RowW.new own_x (by decide) hW (sep.low 1 rfl)) gm hmD
     rw[putM_ok hok hlo5 hf];exact⟨rfl,hfin.1,hfin.2⟩
  ·skip
   refine rS hF ?_
   refine tC 1 (.bool false) (Does.call (f:=62) (args:= #[.string s]) (by kernel_rfl) (name_no' _ s hsz hok)) ?_
   refine sE [(21,.bool true)] fun a hF=> ?_
   refine tK ?_
   refine cT 21 hF ?_
   refine qP [(6,.int .i64 210)] hF fun a hF=> ?_
   refine cR (yB (yT ?_))
   refine rT 6 (.int .i64 210) hF ?_
   replace e0:=(e0.ext g2).grew g5 (sep.l 0)
   rw[putM_id hok];exact⟨rfl,⟨_,_,_,_,_,md.ext e0⟩,MG.ofExt e0⟩
 ·skip
  refine rS hF ?_
  refine tO 3 0 (e0.blk hm) ?_
  refine tC 5 (.tuple #[.agg (obx o.b o.e o.ho o.go (.slice ca 0 cc) (.slice ba o.dt.length bc)).toArray,.bool true]) (lookYes (t:=81) 9 101 (by kernel_rfl) (by kernel_rfl) (by kernel_rfl) (.agg (obx rb0 (0:Int) false false (.slice none 0 0) (.slice none 0 0)).toArray) (by kernel_rfl) (e0.blk hp) (List.mem_append_right _ (List.mem_cons_self ..)) hs md.nd hv) ?_
  refine tN 9 (pV h.size) ((obx rb0 (0:Int) false false (.slice none 0 0) (.slice none 0 0)).toArray) 101 fun h56 g57 m58=> ?_
  replace sep:=sep.nw e0.size m58
  refine tV0 10 (obx o.b o.e o.ho o.go (.slice ca 0 cc) (.slice ba o.dt.length bc)) m58 fun h59 g60 zq=> ?_
  replace m58:=zq
  refine sE [(8,.bool true)] fun a hF=> ?_
  refine tK ?_
  refine cS ?_
  refine cB 0 ?_
  refine cS ?_
  rcases Bool.eq_false_or_eq_true (nameOk s) with hok|hok
  ·skip
   refine rS hF ?_
   refine tC 1 (.bool true) (Does.call (f:=62) (args:= #[.string s]) (by kernel_rfl) (name_yes _ s hok)) ?_
   refine sE [(21,.bool false)] fun a hF=> ?_
   refine tK ?_
   refine cF 21 hF ?_
   refine cS ?_
   rcases Nat.lt_or_ge 512 b.length with hlo5|hlo5
   ·skip
    refine rS hF ?_
    refine tT 2 ((512:Int)<((b.length :Nat):Int)) ?_
    refine sE [(25,.bool true)] fun a hF=> ?_
    refine tK ?_
    refine cT 25 hF ?_
    refine qP [(6,.int .i64 5)] hF fun a hF=> ?_
    refine cR (yB (yT ?_))
    refine rT 6 (.int .i64 5) hF ?_
    replace e0:=(e0.ext g57).grew g60 (sep.l 0)
    rw[putM_long hok hlo5];exact⟨rfl,⟨_,_,_,_,_,md.ext e0⟩,MG.ofExt e0⟩
   ·skip
    refine rS hF ?_
    refine tX 2 ((512:Int)<((b.length :Nat):Int)) ?_
    refine sE [(25,.bool false)] fun a hF=> ?_
    refine tK ?_
    refine cF 25 hF ?_
    refine qP [(29,.bool true)] hF fun a hF=> ?_
    refine cT 29 hF ?_
    refine qP [(6,.int .i64 212)] hF fun a hF=> ?_
    refine cR (yB (yT ?_))
    refine rT 6 (.int .i64 212) hF ?_
    replace e0:=(e0.ext g57).grew g60 (sep.l 0)
    rw[putM_twice hok hlo5 hf];exact⟨rfl,⟨_,_,_,_,_,md.ext e0⟩,MG.ofExt e0⟩
  ·skip
   refine rS hF ?_
   refine tC 1 (.bool false) (Does.call (f:=62) (args:= #[.string s]) (by kernel_rfl) (name_no' _ s hsz hok)) ?_
   refine sE [(21,.bool true)] fun a hF=> ?_
   refine tK ?_
   refine cT 21 hF ?_
   refine qP [(6,.int .i64 210)] hF fun a hF=> ?_
   refine cR (yB (yT ?_))
   refine rT 6 (.int .i64 210) hF ?_
   replace e0:=(e0.ext g57).grew g60 (sep.l 0)
   rw[putM_id hok];exact⟨rfl,⟨_,_,_,_,_,md.ext e0⟩,MG.ofExt e0⟩
end Go.Proofs.YtegkejcglfgpmaaGreatDoor
end
section
namespace Go.Proofs.YtegkejcglfgpmaaGreatDoor
open Go Go.Lane Go.Sha
noncomputable def b124:Code:=Tryz.f124.body.getD .skip
theorem nan_sat(h:Heap)(x:Int):Sat Tryz.prog 124 #[.int .i64 x] h fun v h'=>v= .bool false∧h'=h:=by
 refine sat_in Tryz.func124 6 fun a hF=> ?_
 refine qP [] hF fun a hF=> ?_
 refine qS hF ?_
 refine uF 2 x x ?_
 refine sT [(2,.bool false)] fun a hF=> ?_
 refine cR ?_
 refine rT 2 (.bool false) hF ?_
 exact⟨rfl,rfl⟩
noncomputable def b109:Code:=Tryz.f109.body.getD .skip
theorem compare_sat(h:Heap)(x y:Int):Sat Tryz.prog 109 #[.int .i64 x,.int .i64 y] h fun v h'=>v= .int .i64 (cmpI x y)∧h'=h:=by
 refine sat_in Tryz.func109 20 fun a hF=> ?_
 refine qP [] hF fun a hF=> ?_
 refine qS hF ?_
 refine tC 1 (.bool false) (Does.call (f:=124) (args:= #[.int .i64 x]) (by kernel_rfl) (nan_sat _ x)) ?_
 refine sT [(5,.bool false)] fun a hF=> ?_
 refine qS hF ?_
 refine tC 1 (.bool false) (Does.call (f:=124) (args:= #[.int .i64 y]) (by kernel_rfl) (nan_sat _ y)) ?_
 refine sT [(6,.bool false)] fun a hF=> ?_
 refine cS ?_
 refine qP [(11,.bool false)] hF fun a hF=> ?_
 refine cF 11 hF ?_
 refine cN ?_
 refine tK ?_
 refine cS ?_
 refine qP [(13,.bool false)] hF fun a hF=> ?_
 refine cF 13 hF ?_
 refine cN ?_
 refine tK ?_
 refine cS ?_
 refine qP [(16,.bool (decide (x<y)))] hF fun a hF=> ?_
 refine cJ 16 hF (fun hc1=> ?_) fun hc1=> ?_
 ·skip
  refine qP [(4,.int .i64 (-1))] hF fun a hF=> ?_
  refine cR (yT ?_)
  refine rT 4 (.int .i64 (-1)) hF ?_
  exact⟨congrArg (Value.int .i64) (by unfold cmpI;split<;>first|omega| (split<;>omega)),rfl⟩
 ·skip
  refine cN ?_
  refine tK ?_
  refine cS ?_
  refine qP [(19,.bool (decide (y<x)))] hF fun a hF=> ?_
  refine cJ 19 hF (fun hc2=> ?_) fun hc2=> ?_
  ·skip
   refine qP [(4,.int .i64 1)] hF fun a hF=> ?_
   refine cR (yT ?_)
   refine rT 4 (.int .i64 1) hF ?_
   exact⟨congrArg (Value.int .i64) (by unfold cmpI;split<;>first|omega| (split<;>omega)),rfl⟩
  ·skip
   refine cN ?_
   refine tK ?_
   refine qP [(4,.int .i64 0)] hF fun a hF=> ?_
   refine cR ?_
   refine rT 4 (.int .i64 0) hF ?_
   exact⟨congrArg (Value.int .i64) (by unfold cmpI;split<;>first|omega| (split<;>omega)),rfl⟩
noncomputable def b111:Code:=Tryz.f111.body.getD .skip
theorem cstring_sat(h:Heap)(s t:ByteArray):Sat Tryz.prog 111 #[.string s,.string t] h fun v h'=>v= .int .i64 (Lib.compareBytes s.data.toList t.data.toList)∧h'=h:=by
 refine sat_in Tryz.func111 8 fun a hF=> ?_
 refine qP [] hF fun a hF=> ?_
 refine qS hF ?_
 refine t1 2 (.int .i64 (Lib.compareBytes s.data.toList t.data.toList)) (.int .i64 (Extern.BytealgCompare.cmp s t)) (congrArg (Value.int .i64) (Lib.cmp_eq s t)) ?_
 refine sT [(4,.int .i64 (Lib.compareBytes s.data.toList t.data.toList))] fun a hF=> ?_
 refine cR ?_
 refine rT 4 (.int .i64 (Lib.compareBytes s.data.toList t.data.toList)) hF ?_
 exact⟨rfl,rfl⟩
noncomputable def b74:Code:=Tryz.f74.body.getD .skip
theorem scompare_sat(h:Heap)(s t:ByteArray):Sat Tryz.prog 74 #[.string s,.string t] h fun v h'=>v= .int .i64 (Lib.compareBytes s.data.toList t.data.toList)∧h'=h:=by
 refine sat_in Tryz.func74 8 fun a hF=> ?_
 refine qP [] hF fun a hF=> ?_
 refine qS hF ?_
 refine tC 2 (.int .i64 (Lib.compareBytes s.data.toList t.data.toList)) (Does.call (f:=111) (args:= #[.string s,.string t]) (by kernel_rfl) (cstring_sat _ s t)) ?_
 refine sT [(4,.int .i64 (Lib.compareBytes s.data.toList t.data.toList))] fun a hF=> ?_
 refine cR ?_
 refine rT 4 (.int .i64 (Lib.compareBytes s.data.toList t.data.toList)) hF ?_
 exact⟨rfl,rfl⟩
noncomputable def b108:Code:=Tryz.f108.body.getD .skip
theorem or_sat(h:Heap)(b:Nat)(p q:Int)(m:h[b]? =some (.cells #[.int .i64 p,.int .i64 q] 3)):Sat Tryz.prog 108 #[.slice (some ⟨b,0,none⟩) 2 2] h fun v h'=>v= .int .i64 (if p=0 then q else p)∧h'=h:=by
 refine sat_in Tryz.func108 18 fun a hF=> ?_
 refine qP [] hF fun a hF=> ?_
 refine qP [(3,.int .i64 0)] hF fun a hF=> ?_
 refine cS ?_
 refine qP [(6,.slice (some ⟨b,0,none⟩) 2 2),(7,.int .i64 2),(8,.int .i64 0)] hF fun a hF=> ?_
 refine cB 0 ?_
 refine cU 3 ?_
 refine Cround.step ?_
 refine qP [(9,.bool true)] hF fun a hF=> ?_
 refine cS ?_
 refine cT 9 hF ?_
 refine cN ?_
 refine tK ?_
 refine cS ?_
 refine cB 1 ?_
 refine qS hF ?_
 refine tJ 0 b 0 2 1 0 0 ?_
 refine tO 1 0 m ?_
 refine sT [(5,.int .i64 p)] fun a hF=> ?_
 refine qP [(14,.bool (!decide (p=(0:Int))))] hF fun a hF=> ?_
 refine cI 14 hF (fun hc1=> ?_) fun hc1=> ?_
 ·skip
  refine qP [(2,.int .i64 p)] hF fun a hF=> ?_
  refine cR (yB (yT (yT (yB (yT ?_)))))
  refine rT 2 (.int .i64 p) hF ?_
  exact⟨congrArg (Value.int .i64) (by split<;>omega),rfl⟩
 ·skip
  refine cN ?_
  refine bK ?_
  refine tK ?_
  refine rP [(8,.int .i64 1)] hF fun a hF=> ?_
  refine tK (Cround.step ?_)
  refine qP [(9,.bool true)] hF fun a hF=> ?_
  refine cS ?_
  refine cT 9 hF ?_
  refine cN ?_
  refine tK ?_
  refine cS ?_
  refine cB 1 ?_
  refine qS hF ?_
  refine tJ 0 b 0 2 1 1 1 ?_
  refine tO 1 1 m ?_
  refine sT [(5,.int .i64 q)] fun a hF=> ?_
  refine qP [(14,.bool (!decide (q=(0:Int))))] hF fun a hF=> ?_
  refine cI 14 hF (fun hc2=> ?_) fun hc2=> ?_
  ·skip
   refine qP [(2,.int .i64 q)] hF fun a hF=> ?_
   refine cR (yB (yT (yT (yB (yT ?_)))))
   refine rT 2 (.int .i64 q) hF ?_
   exact⟨congrArg (Value.int .i64) (by split<;>omega),rfl⟩
  ·skip
   refine cN ?_
   refine bK ?_
   refine tK ?_
   refine rP [(8,.int .i64 2)] hF fun a hF=> ?_
   refine tK (Cround.step ?_)
   refine qP [(9,.bool false)] hF fun a hF=> ?_
   refine cS ?_
   refine cF 9 hF ?_
   refine cX 0 (xT (xT (xB ?_)))
   refine tK ?_
   refine qP [(2,.int .i64 0)] hF fun a hF=> ?_
   refine cR ?_
   refine rT 2 (.int .i64 0) hF ?_
   exact⟨congrArg (Value.int .i64) (by split<;>omega),rfl⟩
noncomputable def b107:Code:=Tryz.f107.body.getD .skip
theorem less_sat(h:Heap)(r s:Rec):Sat Tryz.prog 107 #[.agg (rcs r).toArray,.agg (rcs s).toArray] h fun v h'=>v= .int .i64 (cbR r s)∧Ext h h':=by
 have e0:=Ext.refl h
 refine sat_in Tryz.func107 17 fun a hF=> ?_
 refine qS hF ?_
 refine tN 0 (pV h.size) ((rcs r).toArray) 95 fun h1 g2 m3=> ?_
 have lt4:=blk_lt m3
 have zs5:=e0.size
 replace e0:=e0.ext g2
 refine tN 1 (pV h1.size) ((rcs s).toArray) 95 fun h6 g7 m8=> ?_
 have lt9:=blk_lt m8
 have zs10:=e0.size
 replace e0:=e0.ext g7
 replace m3:=m3.x g7
 refine sT [(2,pV h.size),(3,pV h1.size)] fun a hF=> ?_
 refine cS ?_
 refine cD [0,1,0,4,15,0,32,0,128,511,1023,2047,4095] 1 mixed hF ?_
 refine mP 1 [0] [.pointer (some ⟨h.size,35,none⟩)] ?_
 refine mO 3 2 1 35 (.int .i64 r.e) m3 ?_
 refine mP 7 [2] [.pointer (some ⟨h1.size,35,none⟩)] ?_
 refine mO 15 10 3 35 (.int .i64 s.e) m8 ?_
 refine mL 31 26 4 (.int .i64 (cmpI r.e s.e)) (Does.call (f:=109) (args:= #[.int .i64 r.e,.int .i64 s.e]) (by kernel_rfl) (compare_sat _ r.e s.e)) ?_
 refine mP 63 [5] [pV h.size] ?_
 refine mO 127 90 6 0 (.string r.b.id) m3 ?_
 refine mP 255 [7] [pV h1.size] ?_
 refine mO 511 346 8 0 (.string s.b.id) m8 ?_
 refine mL 1023 858 9 (.int .i64 (Lib.compareBytes r.b.id.data.toList s.b.id.data.toList)) (Does.call (f:=74) (args:= #[.string r.b.id,.string s.b.id]) (by kernel_rfl) (scompare_sat _ r.b.id s.b.id)) ?_
 refine mN 2047 2047 10 (.slice (some ⟨h6.size,0,none⟩) 2 2) #[.int .i64 (cmpI r.e s.e),.int .i64 (Lib.compareBytes r.b.id.data.toList s.b.id.data.toList)] 3 fun h11 g12 m13=> ?_
 have lt14:=blk_lt m13
 have zs15:=e0.size
 replace e0:=e0.ext g12
 replace m3:=m3.x g12
 replace m8:=m8.x g12
 refine mL 4095 2906 11 (.int .i64 (if (cmpI r.e s.e)=0 then (Lib.compareBytes r.b.id.data.toList s.b.id.data.toList) else (cmpI r.e s.e))) (Does.call (f:=108) (args:= #[.slice (some ⟨h6.size,0,none⟩) 2 2]) (by kernel_rfl) (or_sat _ _ (cmpI r.e s.e) (Lib.compareBytes r.b.id.data.toList s.b.id.data.toList) m13)) ?_
 refine mP 8191 [12] [.int .i64 (if (cmpI r.e s.e)=0 then (Lib.compareBytes r.b.id.data.toList s.b.id.data.toList) else (cmpI r.e s.e))] ?_
 refine mE [(4,.int .i64 (if (cmpI r.e s.e)=0 then (Lib.compareBytes r.b.id.data.toList s.b.id.data.toList) else (cmpI r.e s.e)))] fun a hF=> ?_
 refine tK ?_
 refine cR ?_
 refine rT 4 (.int .i64 (if (cmpI r.e s.e)=0 then (Lib.compareBytes r.b.id.data.toList s.b.id.data.toList) else (cmpI r.e s.e))) hF ?_
 exact⟨rfl,e0⟩
noncomputable def b139:Code:=Tryz.f139.body.getD .skip
set_option maxHeartbeats 1000000 in
theorem ins_sat(h:Heap)(ad:Option Addr)(cap n la lb:Nat)(L:List Rec)(own_d:Own h (.slice ad n cap) 95 n 39 (rrow L))(hLn:L.length =n)(hb:lb≤n)(ha:la≤n)(hn:n≤1099511627776):Sat Tryz.prog 139 #[.slice ad n cap,.int .i64 ((la:Nat):Int),.int .i64 ((lb:Nat):Int),.func (.func 107) #[] #[]] h fun _ h'=>∃M,M.length =n∧M.Perm L∧(∀p,p<la∨lb≤p→M.getD p rec0=L.getD p rec0)∧SrtOn M la lb∧Own h' (.slice ad n cap) 95 n 39 (rrow M)∧Grew (ad.map (fun(x:Addr)=>x.block)) h h':=by
 have g0:=Grew.refl (ad.map (fun(x:Addr)=>x.block)) h
 refine sat_in Tryz.func139 53 fun a hF=> ?_
 refine qS hF ?_
 refine tA 1 la 1 ?_
 refine sT [(8,nV (la+1))] fun a hF=> ?_
 refine cB 0 ?_
 refine cL (fun m a h'=>∃i:Nat,∃M:List Rec,m=lb - i∧(Grew (ad.map (fun(x:Addr)=>x.block)) h h')∧(la<i∧(i≤lb∨i=la+1))∧(M.length =n)∧(M.Perm L)∧(∀p,p<la∨lb≤p→M.getD p rec0=L.getD p rec0)∧(SrtOn M la i)∧(Own h' (.slice ad n cap) 95 n 39 (rrow M))∧(Fr a 53 [(0,.slice ad n cap),(1,.int .i64 ((la:Nat):Int)),(2,.int .i64 ((lb:Nat):Int)),(3,.func (.func 107) #[] #[]),(8,.int .i64 ((i:Nat):Int))])) (lb - (la+1)) ⟨(la+1),L,rfl,g0,(by omega),hLn,(List.Perm.refl _),(fun _ _=>rfl),(SrtOn.one L la),own_d,hF.to⟩ ?_
 clear hF a
 clear g0
 clear hLn
 clear own_d
 rintro m a h1 ⟨i,M,rfl,g0,hi,hM,hP,hout,hs,own_d,hF⟩
 refine cS ?_
 refine qP [(14,.bool (decide (((i:Nat):Int)<((lb:Nat):Int))))] hF fun a hF=> ?_
 refine cJ 14 hF (fun hc2=> ?_) fun hc2=> ?_
 ·skip
  refine cN ?_
  refine tK ?_
  refine cS ?_
  refine cB 1 ?_
  refine qP [(9,nV i)] hF fun a hF=> ?_
  refine cB 2 ?_
  have hib:i<lb:=by omega
  refine cL (fun m a h'=>∃j:Nat,∃M:List Rec,m=j+1∧(Grew (ad.map (fun(x:Addr)=>x.block)) h h')∧(la≤j∧j≤i)∧(M.length =n)∧(M.Perm L)∧(∀p,p<la∨lb≤p→M.getD p rec0=L.getD p rec0)∧(InsI M la i j)∧(Own h' (.slice ad n cap) 95 n 39 (rrow M))∧(Fr a 53 [(0,.slice ad n cap),(1,.int .i64 ((la:Nat):Int)),(2,.int .i64 ((lb:Nat):Int)),(3,.func (.func 107) #[] #[]),(8,.int .i64 ((i:Nat):Int)),(9,.int .i64 ((j:Nat):Int))])) (i+1) ⟨i,M,rfl,g0,(by omega),hM,hP,hout,hs.ins,own_d,hF.to⟩ ?_
  clear hF a
  clear g0
  clear hM
  clear hP
  clear hout
  clear own_d
  rintro m a h3 ⟨j,M,rfl,g0,hj,hM,hP,hout,hins,own_d,hF⟩
  refine cS ?_
  refine cS ?_
  rcases Nat.lt_or_ge la j with haj|haj
  ·skip
   obtain⟨aa,rfl,hcap_aa⟩:=own_d.someA (by omega)
   refine cD [0,0,3,7,15,15,15,111,239,15,15,1039,3599,7695,16383,32767,65535] 4 mixed hF ?_
   refine mP 3 [0,1] [nV j,nV la] ?_
   refine mT1 7 2 (((la:Nat):Int)<((j:Nat):Int)) ?_
   refine mP 127 [3,4,5,6] [.bool true,.func (.func 107) #[] #[],.slice (some aa) n cap,nV j] ?_
   refine mI 255 7 aa n 39 j (j*39) ?_
   refine mY 511 256 8 j rec0 rcs_len (own_d.row) ?_
   refine mP 2047 [9,10] [.slice (some aa) n cap,nV j] ?_
   refine mU 4095 11 j 1 ?_
   refine mI 8191 12 aa n 39 (j - 1) ((j - 1)*39) ?_
   refine mY 16383 8448 13 (j - 1) rec0 rcs_len (own_d.row) ?_
   refine mF0 32767 32767 14 (Does.call (f:=107) (args:= #[.agg (rcs (M.getD j rec0)).toArray,.agg (rcs (M.getD (j - 1) rec0)).toArray]) (by kernel_rfl) (less_sat _ (M.getD j rec0) (M.getD (j - 1) rec0))) ?_
   rintro _ h4 ⟨rfl,g⟩
   replace g0:=g0.trans (g.but _)
   replace own_d:=own_d.ext g
   clear g
   refine mP 131071 [15,16] [.bool (decide ((cbR (M.getD j rec0) (M.getD (j - 1) rec0))<(0:Int))),.bool (decide ((cbR (M.getD j rec0) (M.getD (j - 1) rec0))<(0:Int)))] ?_
   refine mE [(34,.bool (decide ((cbR (M.getD j rec0) (M.getD (j - 1) rec0))<(0:Int))))] fun a hF=> ?_
   refine tK ?_
   refine cJ 34 hF (fun hc5=> ?_) fun hc5=> ?_
   ·skip
    refine cN ?_
    refine tK ?_
    refine cS ?_
    refine cB 3 ?_
    refine cD [0,0,0,0,8,0,0,64,224,480,0,0,3072,7168,16355,32739,65535,131071] 6 mixed hF ?_
    refine mP 15 [0,1,2,3] [.slice (some aa) n cap,nV j,.slice (some aa) n cap,nV j] ?_
    refine mU 31 4 j 1 ?_
    refine mP 127 [5,6] [.slice (some aa) n cap,nV j] ?_
    refine mU 255 7 j 1 ?_
    refine mI 511 8 aa n 39 (j - 1) ((j - 1)*39) ?_
    refine mY 1023 512 9 (j - 1) rec0 rcs_len (own_d.row) ?_
    refine mP 4095 [10,11] [.slice (some aa) n cap,nV j] ?_
    refine mI 8191 12 aa n 39 j (j*39) ?_
    refine mY 16383 8704 13 j rec0 rcs_len (own_d.row) ?_
    refine mI 32767 14 aa n 39 j (j*39) ?_
    refine mF0 65535 65507 15 (Does.storeOwn (a:=aa) (q:=j*39) (vs:=rcs (M.getD (j - 1) rec0)) (by kernel_rfl) own_d (by show _+39≤_;omega) (rcs_one _)) ?_
    rintro _ h6 ⟨rfl,ownx,g⟩
    replace g0:=g0.trans g
    rw[fm_set rcs_len (by first|omega| (rw[List.length_set];omega))] at ownx
    clear own_d;have own_d:=ownx;clear ownx g
    refine mI 131071 16 aa n 39 (j - 1) ((j - 1)*39) ?_
    refine mF0 262143 262143 17 (Does.storeOwn (a:=aa) (q:=(j - 1)*39) (vs:=rcs (M.getD j rec0)) (by kernel_rfl) own_d (by show _+39≤_;omega) (rcs_one _)) ?_
    rintro _ h7 ⟨rfl,ownx,g⟩
    replace g0:=g0.trans g
    rw[fm_set rcs_len (by first|omega| (rw[List.length_set];omega))] at ownx
    clear own_d;have own_d:=ownx;clear ownx g
    refine mE [] fun a hF=> ?_
    refine bK ?_
    refine tK ?_
    refine rS hF ?_
    refine tU 1 j 1 ?_
    refine sE [(9,nV (j - 1))] fun a hF=> ?_
    show ∃m',m'<_∧_
    refine⟨_,?_,(j - 1),(swp M j),rfl,g0,(by omega),((swp_length M j).trans hM),((swp_perm (by omega) (by omega)).trans hP),(fun p hp=>by rw[swp_get (by omega) (by omega),if_neg (by omega),if_neg (by omega)];exact hout p hp),(hins.step (by omega) (by omega) (by omega) (by omega)),own_d,hF.to⟩
    omega
   ·skip
    have hs:=hins.done (by omega) (by omega) (.inr (by omega))
    clear hins
    refine cX 2 (xT (xT (xB ?_)))
    refine bK ?_
    refine tK ?_
    refine rS hF ?_
    refine tA 1 i 1 ?_
    refine sE [(8,nV (i+1))] fun a hF=> ?_
    show ∃m',m'<_∧_
    refine⟨_,?_,(i+1),M,rfl,g0,(by omega),hM,hP,hout,hs,own_d,hF.to⟩
    omega
  ·skip
   have hs:=hins.done (by omega) (by omega) (.inl (by omega))
   clear hins
   refine cD [0,0,3,7,15,15,15,111,239,15,15,1039,3599,7695,16383,32767,65535] 4 mixed hF ?_
   refine mP 3 [0,1] [nV j,nV la] ?_
   refine mX1 7 2 (((la:Nat):Int)<((j:Nat):Int)) ?_
   refine mP 131071 [3,4,5,6,7,8,9,10,11,12,13,14,15,16] [.bool false,undef,undef,undef,undef,undef,undef,undef,undef,undef,undef,undef,undef,.bool false] ?_
   refine mE [(34,.bool false)] fun a hF=> ?_
   refine tK ?_
   refine cF 34 hF ?_
   refine cX 2 (xT (xT (xB ?_)))
   refine bK ?_
   refine tK ?_
   refine rS hF ?_
   refine tA 1 i 1 ?_
   refine sE [(8,nV (i+1))] fun a hF=> ?_
   show ∃m',m'<_∧_
   refine⟨_,?_,(i+1),M,rfl,g0,(by omega),hM,hP,hout,hs,own_d,hF.to⟩
   omega
 ·skip
  refine cX 0 (xT (xT (xB ?_)))
  refine n0 hF ?_
  exact⟨M,hM,hP,hout,fun p q h1 h2 h3=>hs p q h1 h2 (by omega),own_d,g0⟩
end Go.Proofs.YtegkejcglfgpmaaGreatDoor
end
section
namespace Go.Proofs.YtegkejcglfgpmaaGreatDoor
open Go Go.Lane Go.Sha
noncomputable def b148:Code:=Tryz.f148.body.getD .skip
set_option maxHeartbeats 1000000 in
theorem swr_sat(h:Heap)(ad:Option Addr)(cap n la lb lc:Nat)(L:List Rec)(own_d:Own h (.slice ad n cap) 95 n 39 (rrow L))(hLn:L.length =n)(hac:la+lc≤lb)(hbc:lb+lc≤n)(hn:n≤1099511627776):Sat Tryz.prog 148 #[.slice ad n cap,.int .i64 ((la:Nat):Int),.int .i64 ((lb:Nat):Int),.int .i64 ((lc:Nat):Int),.func (.func 107) #[] #[]] h fun _ h'=>∃M,M.length =n∧M.Perm L∧Idx M L (swx la lb lc)∧Own h' (.slice ad n cap) 95 n 39 (rrow M)∧Grew (ad.map (fun(x:Addr)=>x.block)) h h':=by
 have g0:=Grew.refl (ad.map (fun(x:Addr)=>x.block)) h
 refine sat_in Tryz.func148 38 fun a hF=> ?_
 refine qP [(10,.int .i64 0)] hF fun a hF=> ?_
 refine cB 0 ?_
 refine cL (fun m a h'=>∃i:Nat,∃M:List Rec,m=lc - i∧(Grew (ad.map (fun(x:Addr)=>x.block)) h h')∧(i≤lc)∧(M.length =n)∧(M.Perm L)∧(Idx M L (swx la lb i))∧(Own h' (.slice ad n cap) 95 n 39 (rrow M))∧(Fr a 38 [(0,.slice ad n cap),(1,.int .i64 ((la:Nat):Int)),(2,.int .i64 ((lb:Nat):Int)),(3,.int .i64 ((lc:Nat):Int)),(10,.int .i64 ((i:Nat):Int))])) (lc - 0) ⟨0,L,rfl,g0,(by omega),hLn,(List.Perm.refl _),(Idx.refl _ (swx_0 la lb)),own_d,hF.to⟩ ?_
 clear hF a
 clear g0
 clear hLn
 clear own_d
 rintro m a h1 ⟨i,M,rfl,g0,hi,hM,hP,hx,own_d,hF⟩
 refine cS ?_
 refine qP [(13,.bool (decide (((i:Nat):Int)<((lc:Nat):Int))))] hF fun a hF=> ?_
 refine cJ 13 hF (fun hc2=> ?_) fun hc2=> ?_
 ·skip
  have hic:i<lc:=by omega
  obtain⟨aa,rfl,hcap_aa⟩:=own_d.someA (by omega)
  refine cN ?_
  refine tK ?_
  refine cS ?_
  refine cB 1 ?_
  refine cD [0,0,0,6,0,0,0,96,0,0,0,1536,3840,7936,0,0,0,98304,245760,507904,1048335,2096911,4194303,8388607] 3 mixed hF ?_
  refine mP 7 [0,1,2] [.slice (some aa) n cap,nV la,nV i] ?_
  refine mA 15 3 la i ?_
  refine mP 127 [4,5,6] [.slice (some aa) n cap,nV lb,nV i] ?_
  refine mA 255 7 lb i ?_
  refine mP 2047 [8,9,10] [.slice (some aa) n cap,nV lb,nV i] ?_
  refine mA 4095 11 lb i ?_
  refine mI 8191 12 aa n 39 (lb+i) ((lb+i)*39) ?_
  refine mY 16383 8192 13 (lb+i) rec0 rcs_len (own_d.row) ?_
  refine mP 131071 [14,15,16] [.slice (some aa) n cap,nV la,nV i] ?_
  refine mA 262143 17 la i ?_
  refine mI 524287 18 aa n 39 (la+i) ((la+i)*39) ?_
  refine mY 1048575 532480 19 (la+i) rec0 rcs_len (own_d.row) ?_
  refine mI 2097151 20 aa n 39 (la+i) ((la+i)*39) ?_
  refine mF0 4194303 4194063 21 (Does.storeOwn (a:=aa) (q:=(la+i)*39) (vs:=rcs (M.getD (lb+i) rec0)) (by kernel_rfl) own_d (by show _+39≤_;omega) (rcs_one _)) ?_
  rintro _ h3 ⟨rfl,ownx,g⟩
  replace g0:=g0.trans g
  rw[fm_set rcs_len (by first|omega| (rw[List.length_set];omega))] at ownx
  clear own_d;have own_d:=ownx;clear ownx g
  refine mI 8388607 22 aa n 39 (lb+i) ((lb+i)*39) ?_
  refine mF0 16777215 16777215 23 (Does.storeOwn (a:=aa) (q:=(lb+i)*39) (vs:=rcs (M.getD (la+i) rec0)) (by kernel_rfl) own_d (by show _+39≤_;omega) (rcs_one _)) ?_
  rintro _ h4 ⟨rfl,ownx,g⟩
  replace g0:=g0.trans g
  rw[fm_set rcs_len (by first|omega| (rw[List.length_set];omega))] at ownx
  clear own_d;have own_d:=ownx;clear ownx g
  refine mE [] fun a hF=> ?_
  refine bK ?_
  refine tK ?_
  refine rS hF ?_
  refine tA 1 i 1 ?_
  refine sE [(10,nV (i+1))] fun a hF=> ?_
  show ∃m',m'<_∧_
  refine⟨_,?_,(i+1),(swp2 M (la+i) (lb+i)),rfl,g0,(by omega),((swp2_length M _ _).trans hM),((swp2_perm (by omega) (by omega)).trans hP),(hx.swp (by omega) (by omega) (swx_next (by omega))),own_d,hF.to⟩
  omega
 ·skip
  refine cX 0 (xT (xT (xB ?_)))
  refine n0 hF ?_
  obtain rfl:lc=i:=by omega
  exact⟨M,hM,hP,hx,own_d,g0⟩
noncomputable def b146:Code:=Tryz.f146.body.getD .skip
theorem rot_sat(h:Heap)(ad:Option Addr)(cap n la lm lb:Nat)(L:List Rec)(own_d:Own h (.slice ad n cap) 95 n 39 (rrow L))(hLn:L.length =n)(ham:la<lm)(hmb:lm<lb)(hbn:lb≤n)(hn:n≤1099511627776):Sat Tryz.prog 146 #[.slice ad n cap,.int .i64 ((la:Nat):Int),.int .i64 ((lm:Nat):Int),.int .i64 ((lb:Nat):Int),.func (.func 107) #[] #[]] h fun _ h'=>∃M,M.length =n∧M.Perm L∧Idx M L (rtx lm (lm - la) (lb - lm))∧Own h' (.slice ad n cap) 95 n 39 (rrow M)∧Grew (ad.map (fun(x:Addr)=>x.block)) h h':=by
 have g0:=Grew.refl (ad.map (fun(x:Addr)=>x.block)) h
 refine sat_in Tryz.func146 58 fun a hF=> ?_
 refine qS hF ?_
 refine tU 2 lm la ?_
 refine sT [(10,nV (lm - la))] fun a hF=> ?_
 refine qS hF ?_
 refine tU 2 lb lm ?_
 refine sT [(11,nV (lb - lm))] fun a hF=> ?_
 refine cS ?_
 refine cB 0 ?_
 refine cL (fun m a h'=>∃i:Nat,∃j:Nat,∃M:List Rec,m=i+j∧(Grew (ad.map (fun(x:Addr)=>x.block)) h h')∧(0<i∧0<j∧i≤lm∧lm+j≤lb)∧(M.length =n)∧(M.Perm L)∧(RotI L M lm la lb i j)∧(Own h' (.slice ad n cap) 95 n 39 (rrow M))∧(Fr a 58 [(0,.slice ad n cap),(2,.int .i64 ((lm:Nat):Int)),(4,.func (.func 107) #[] #[]),(10,.int .i64 ((i:Nat):Int)),(11,.int .i64 ((j:Nat):Int))])) ((lm - la)+(lb - lm)) ⟨(lm - la),(lb - lm),L,rfl,g0,(by omega),hLn,(List.Perm.refl _),(RotI.start _ _ _ _),own_d,hF.to⟩ ?_
 clear hF a
 clear g0
 clear hLn
 clear own_d
 rintro m a h1 ⟨i,j,M,rfl,g0,hij,hM,hP,hr,own_d,hF⟩
 refine cS ?_
 refine qP [(20,.bool (!decide (((i:Nat):Int)=((j:Nat):Int))))] hF fun a hF=> ?_
 refine cI 20 hF (fun hc2=> ?_) fun hc2=> ?_
 ·skip
  refine cN ?_
  refine tK ?_
  refine cB 1 ?_
  refine qP [(23,.bool (decide (((j:Nat):Int)<((i:Nat):Int))))] hF fun a hF=> ?_
  refine cJ 23 hF (fun hc3=> ?_) fun hc3=> ?_
  ·skip
   refine qS hF ?_
   refine tU 3 lm i ?_
   refine tG 7 (swr_sat _ ad cap n (lm - i) (lm) (j) M own_d hM (by omega) (by omega) (by omega)) ?_
   rintro _ h5 ⟨K4,hM2,hP2,hx,ownx,g⟩
   replace g0:=g0.trans g
   clear own_d;have own_d:=ownx;clear ownx g
   replace hP:=hP2.trans hP;replace hM:=hM2;clear hP2 hM2
   replace hr:=hr.big hx (by omega) (by omega)
   refine sT [] fun a hF=> ?_
   refine rS hF ?_
   refine tU 2 i j ?_
   refine sE [(10,nV (i - j))] fun a hF=> ?_
   refine bK ?_
   show ∃m',m'<_∧_
   refine⟨_,?_,i - j,j,K4,rfl,g0,(by omega),hM,hP,hr,own_d,hF.to⟩
   omega
  ·skip
   have hlt:i<j:=by omega
   refine qS hF ?_
   refine tU 3 lm i ?_
   refine tA 6 lm j ?_
   refine tU 8 (lm+j) i ?_
   refine tG 11 (swr_sat _ ad cap n (lm - i) ((lm+j) - i) (i) M own_d hM (by omega) (by omega) (by omega)) ?_
   rintro _ h7 ⟨K6,hM2,hP2,hx,ownx,g⟩
   replace g0:=g0.trans g
   clear own_d;have own_d:=ownx;clear ownx g
   replace hP:=hP2.trans hP;replace hM:=hM2;clear hP2 hM2
   replace hr:=hr.small hx (by omega) (by omega)
   refine sT [] fun a hF=> ?_
   refine rS hF ?_
   refine tU 2 j i ?_
   refine sE [(11,nV (j - i))] fun a hF=> ?_
   refine bK ?_
   show ∃m',m'<_∧_
   refine⟨_,?_,i,j - i,K6,rfl,g0,(by omega),hM,hP,hr,own_d,hF.to⟩
   omega
 ·skip
  have heq:i=j:=by omega
  refine cX 0 (xT (xT (xB ?_)))
  refine tK ?_
  refine rS hF ?_
  refine tU 3 lm i ?_
  refine tG 7 (swr_sat _ ad cap n (lm - i) (lm) (i) M own_d hM (by omega) (by omega) (by omega)) ?_
  rintro _ h9 ⟨K8,hM2,hP2,hx,ownx,g⟩
  replace g0:=g0.trans g
  clear own_d;have own_d:=ownx;clear ownx g
  replace hP:=hP2.trans hP;replace hM:=hM2;clear hP2 hM2
  replace hr:=hr.last hx (by omega) (by omega)
  refine sE [] fun a hF=> ?_
  refine n0 hF ?_
  exact⟨K8,hM,hP,hr,own_d,g0⟩
end Go.Proofs.YtegkejcglfgpmaaGreatDoor
end
section
namespace Go.Proofs.YtegkejcglfgpmaaGreatDoor
open Go Go.Lane Go.Sha
noncomputable def b140:Code:=Tryz.f140.body.getD .skip
set_option maxHeartbeats 4000000 in
theorem sym_step(h:Heap)(ad:Option Addr)(cap n la lm lb:Nat)(L:List Rec)(own_d:Own h (.slice ad n cap) 95 n 39 (rrow L))(hLn:L.length =n)(ham:la<lm)(hmb:lm<lb)(hbn:lb≤n)(hn:n≤1099511627776)(hs1:SrtOn L la lm)(hs2:SrtOn L lm lb)(ih:∀(h:Heap) (a m b:Nat) (L:List Rec),b - a<lb - la→Own h (.slice ad n cap) 95 n 39 (rrow L)→L.length =n→a<m→m<b→b≤n→SrtOn L a m→SrtOn L m b→Sat Tryz.prog 140 #[.slice ad n cap,.int .i64 ((a:Nat):Int),.int .i64 ((m:Nat):Int),.int .i64 ((b:Nat):Int),.func (.func 107) #[] #[]] h fun _ h'=>∃M,Mgd n a b L M∧Own h' (.slice ad n cap) 95 n 39 (rrow M)∧Grew (ad.map (fun(x:Addr)=>x.block)) h h'):Sat Tryz.prog 140 #[.slice ad n cap,.int .i64 ((la:Nat):Int),.int .i64 ((lm:Nat):Int),.int .i64 ((lb:Nat):Int),.func (.func 107) #[] #[]] h fun _ h'=>∃M,Mgd n la lb L M∧Own h' (.slice ad n cap) 95 n 39 (rrow M)∧Grew (ad.map (fun(x:Addr)=>x.block)) h h':=by
 have g0:=Grew.refl (ad.map (fun(x:Addr)=>x.block)) h
 refine sat_in Tryz.func140 220 fun a hF=> ?_
 refine cS ?_
 refine qS hF ?_
 refine tU 2 lm la ?_
 refine sT [(28,.bool (decide (((lm - la:Nat):Int)=(1:Int))))] fun a hF=> ?_
 refine cJ 28 hF (fun hc1=> ?_) fun hc1=> ?_
 ·skip
  have hm1:lm=la+1:=by omega
  refine qP [(10,nV lm)] hF fun a hF=> ?_
  refine qP [(11,nV lb)] hF fun a hF=> ?_
  refine cS ?_
  refine cB 0 ?_
  refine cL (fun m a h'=>∃i:Nat,∃j:Nat,m=j - i∧(Grew (ad.map (fun(x:Addr)=>x.block)) h h')∧(lm≤i∧i≤j∧j≤lb)∧(i=lm∨cbR (L.getD (i - 1) rec0) (L.getD (la) rec0)<0)∧(j=lb∨¬cbR (L.getD (j) rec0) (L.getD (la) rec0)<0)∧(Own h' (.slice ad n cap) 95 n 39 (rrow L))∧(Fr a 220 [(0,.slice ad n cap),(1,.int .i64 ((la:Nat):Int)),(4,.func (.func 107) #[] #[]),(10,.int .i64 ((i:Nat):Int)),(11,.int .i64 ((j:Nat):Int))])) (lb - lm) ⟨lm,lb,rfl,g0,(by omega),(.inl (by omega)),(.inl (by omega)),own_d,hF.to⟩ ?_
  clear hF a
  clear g0
  clear own_d
  rintro m a h2 ⟨i,j,rfl,g0,hij,hlo,hhi,own_d,hF⟩
  refine cS ?_
  refine qP [(33,.bool (decide (((i:Nat):Int)<((j:Nat):Int))))] hF fun a hF=> ?_
  refine cJ 33 hF (fun hc3=> ?_) fun hc3=> ?_
  ·skip
   have hijc:i<j:=by omega
   obtain⟨aa,rfl,hcap_aa⟩:=own_d.someA (by omega)
   refine cN ?_
   refine tK ?_
   refine cB 1 ?_
   refine qS hF ?_
   refine tA 2 i j ?_
   refine t1 3 (.int .u64 ((i+j:Nat):Int)) (.int .u64 (IntKind.u64.wrap ((i+j:Nat):Int))) (congrArg (Value.int .u64) (u64n (by omega))) ?_
   refine t1 4 (.int .u64 (((i+j)/2^1:Nat):Int)) (.int .u64 (Int.fdiv ((i+j:Nat):Int) (2^1))) (congrArg (Value.int .u64) (fdivN (i+j) 1)) ?_
   refine t1 5 (.int .i64 (((i+j)/2^1:Nat):Int)) (.int .i64 (IntKind.i64.wrap (((i+j)/2^1:Nat):Int))) (congrArg (Value.int .i64) (w64 (by omega) (by omega))) ?_
   refine sT [(12,nV ((i+j)/2^1))] fun a hF=> ?_
   obtain⟨c,hc⟩:∃x,(i+j)/2^1=x:=⟨_,rfl⟩;rw[hc] at hF
   have hcb:i≤c∧c<j:=by omega
   refine cS ?_
   refine cD [0,0,0,6,14,0,0,96,224,511,1023] 5 mixed hF ?_
   refine mP 7 [0,1,2] [.func (.func 107) #[] #[],.slice (some aa) n cap,nV c] ?_
   refine mI 15 3 aa n 39 c (c*39) ?_
   refine mY 31 16 4 c rec0 rcs_len (own_d.row) ?_
   refine mP 127 [5,6] [.slice (some aa) n cap,nV la] ?_
   refine mI 255 7 aa n 39 la (la*39) ?_
   refine mY 511 272 8 la rec0 rcs_len (own_d.row) ?_
   refine mF0 1023 1023 9 (Does.call (f:=107) (args:= #[.agg (rcs (L.getD c rec0)).toArray,.agg (rcs (L.getD la rec0)).toArray]) (by kernel_rfl) (less_sat _ (L.getD c rec0) (L.getD la rec0))) ?_
   rintro _ h4 ⟨rfl,g⟩
   replace g0:=g0.trans (g.but _)
   replace own_d:=own_d.ext g
   clear g
   refine mP 2047 [10] [.bool (decide ((cbR (L.getD c rec0) (L.getD la rec0))<(0:Int)))] ?_
   refine mE [(50,.bool (decide ((cbR (L.getD c rec0) (L.getD la rec0))<(0:Int))))] fun a hF=> ?_
   refine tK ?_
   refine cJ 50 hF (fun hc5=> ?_) fun hc5=> ?_
   ·skip
    have hlo2:c+1=lm∨cbR (L.getD (c+1 - 1) rec0) (L.getD (la) rec0)<0:= .inr hc5
    have hhi2:=hhi
    refine rS hF ?_
    refine tA 1 c 1 ?_
    refine sE [(10,nV (c+1))] fun a hF=> ?_
    refine bK ?_
    show ∃m',m'<_∧_
    refine⟨_,?_,c+1,j,rfl,g0,(by omega),hlo2,hhi2,own_d,hF.to⟩
    omega
   ·skip
    have hhi2:c=lb∨¬cbR (L.getD (c) rec0) (L.getD (la) rec0)<0:= .inr hc5
    have hlo2:=hlo
    refine rP [(11,nV c)] hF fun a hF=> ?_
    refine bK ?_
    show ∃m',m'<_∧_
    refine⟨_,?_,i,c,rfl,g0,(by omega),hlo2,hhi2,own_d,hF.to⟩
    omega
  ·skip
   obtain rfl:i=j:=by omega
   refine cX 0 (xT (xT (xB ?_)))
   refine tK ?_
   refine cS ?_
   refine qP [(13,nV la)] hF fun a hF=> ?_
   refine cB 2 ?_
   refine cL (fun m a h'=>∃k:Nat,∃M:List Rec,m=i - k∧(Grew (ad.map (fun(x:Addr)=>x.block)) h h')∧(la≤k∧k+1≤i)∧(M.length =n)∧(M.Perm L)∧(Idx M L (lx la k))∧(Own h' (.slice ad n cap) 95 n 39 (rrow M))∧(Fr a 220 [(0,.slice ad n cap),(10,.int .i64 ((i:Nat):Int)),(13,.int .i64 ((k:Nat):Int))])) (i - la) ⟨la,L,rfl,g0,(by omega),hLn,(List.Perm.refl _),(Idx.refl _ (lx_0 la)),own_d,hF.to⟩ ?_
   clear hF a
   clear g0
   clear hLn
   clear own_d
   rintro m a h6 ⟨k,M,rfl,g0,hk,hM,hP,hx,own_d,hF⟩
   refine cS ?_
   refine qS hF ?_
   refine tU 2 i 1 ?_
   refine sT [(58,.bool (decide (((k:Nat):Int)<((i - 1:Nat):Int))))] fun a hF=> ?_
   refine cJ 58 hF (fun hc7=> ?_) fun hc7=> ?_
   ·skip
    have hkc:k+1<i:=by omega
    obtain⟨aa,rfl,hcap_aa⟩:=own_d.someA (by omega)
    refine cN ?_
    refine tK ?_
    refine cS ?_
    refine cB 3 ?_
    refine cD [0,0,0,0,8,0,0,64,224,480,0,0,3072,7168,16355,32739,65535,131071] 11 mixed hF ?_
    refine mP 15 [0,1,2,3] [.slice (some aa) n cap,nV k,.slice (some aa) n cap,nV k] ?_
    refine mA 31 4 k 1 ?_
    refine mP 127 [5,6] [.slice (some aa) n cap,nV k] ?_
    refine mA 255 7 k 1 ?_
    refine mI 511 8 aa n 39 (k+1) ((k+1)*39) ?_
    refine mY 1023 512 9 (k+1) rec0 rcs_len (own_d.row) ?_
    refine mP 4095 [10,11] [.slice (some aa) n cap,nV k] ?_
    refine mI 8191 12 aa n 39 k (k*39) ?_
    refine mY 16383 8704 13 k rec0 rcs_len (own_d.row) ?_
    refine mI 32767 14 aa n 39 k (k*39) ?_
    refine mF0 65535 65507 15 (Does.storeOwn (a:=aa) (q:=k*39) (vs:=rcs (M.getD (k+1) rec0)) (by kernel_rfl) own_d (by show _+39≤_;omega) (rcs_one _)) ?_
    rintro _ h8 ⟨rfl,ownx,g⟩
    replace g0:=g0.trans g
    rw[fm_set rcs_len (by first|omega| (rw[List.length_set];omega))] at ownx
    clear own_d;have own_d:=ownx;clear ownx g
    refine mI 131071 16 aa n 39 (k+1) ((k+1)*39) ?_
    refine mF0 262143 262143 17 (Does.storeOwn (a:=aa) (q:=(k+1)*39) (vs:=rcs (M.getD k rec0)) (by kernel_rfl) own_d (by show _+39≤_;omega) (rcs_one _)) ?_
    rintro _ h9 ⟨rfl,ownx,g⟩
    replace g0:=g0.trans g
    rw[fm_set rcs_len (by first|omega| (rw[List.length_set];omega))] at ownx
    clear own_d;have own_d:=ownx;clear ownx g
    refine mE [] fun a hF=> ?_
    refine bK ?_
    refine tK ?_
    refine rS hF ?_
    refine tA 1 k 1 ?_
    refine sE [(13,nV (k+1))] fun a hF=> ?_
    show ∃m',m'<_∧_
    refine⟨_,?_,k+1,(swp2 M k (k+1)),rfl,g0,(by omega),((swp2_length M _ _).trans hM),((swp2_perm (by omega) (by omega)).trans hP),(hx.swp (by omega) (by omega) (lx_next (by omega))),own_d,hF.to⟩
    omega
   ·skip
    refine cX 2 (xT (xT (xB ?_)))
    refine tK ?_
    refine cR (yT ?_)
    refine r0 hF ?_
    exact⟨M,sym1 hM hP hx (by omega) (hm1▸hs2) (by omega) (by omega) (hlo.imp (fun z=>by omega) id) hhi,own_d,g0⟩
 ·skip
  refine cN ?_
  refine tK ?_
  refine cS ?_
  refine qS hF ?_
  refine tU 2 lb lm ?_
  refine sT [(80,.bool (decide (((lb - lm:Nat):Int)=(1:Int))))] fun a hF=> ?_
  refine cJ 80 hF (fun hc10=> ?_) fun hc10=> ?_
  ·skip
   have hm1:lb=lm+1:=by omega
   refine qP [(14,nV la)] hF fun a hF=> ?_
   refine qP [(15,nV lm)] hF fun a hF=> ?_
   refine cS ?_
   refine cB 4 ?_
   refine cL (fun m a h'=>∃i:Nat,∃j:Nat,m=j - i∧(Grew (ad.map (fun(x:Addr)=>x.block)) h h')∧(la≤i∧i≤j∧j≤lm)∧(i=la∨¬cbR (L.getD (lm) rec0) (L.getD (i - 1) rec0)<0)∧(j=lm∨cbR (L.getD (lm) rec0) (L.getD (j) rec0)<0)∧(Own h' (.slice ad n cap) 95 n 39 (rrow L))∧(Fr a 220 [(0,.slice ad n cap),(2,.int .i64 ((lm:Nat):Int)),(4,.func (.func 107) #[] #[]),(14,.int .i64 ((i:Nat):Int)),(15,.int .i64 ((j:Nat):Int))])) (lm - la) ⟨la,lm,rfl,g0,(by omega),(.inl (by omega)),(.inl (by omega)),own_d,hF.to⟩ ?_
   clear hF a
   clear g0
   clear own_d
   rintro m a h11 ⟨i,j,rfl,g0,hij,hlo,hhi,own_d,hF⟩
   refine cS ?_
   refine qP [(85,.bool (decide (((i:Nat):Int)<((j:Nat):Int))))] hF fun a hF=> ?_
   refine cJ 85 hF (fun hc12=> ?_) fun hc12=> ?_
   ·skip
    have hijc:i<j:=by omega
    obtain⟨aa,rfl,hcap_aa⟩:=own_d.someA (by omega)
    refine cN ?_
    refine tK ?_
    refine cB 5 ?_
    refine qS hF ?_
    refine tA 2 i j ?_
    refine t1 3 (.int .u64 ((i+j:Nat):Int)) (.int .u64 (IntKind.u64.wrap ((i+j:Nat):Int))) (congrArg (Value.int .u64) (u64n (by omega))) ?_
    refine t1 4 (.int .u64 (((i+j)/2^1:Nat):Int)) (.int .u64 (Int.fdiv ((i+j:Nat):Int) (2^1))) (congrArg (Value.int .u64) (fdivN (i+j) 1)) ?_
    refine t1 5 (.int .i64 (((i+j)/2^1:Nat):Int)) (.int .i64 (IntKind.i64.wrap (((i+j)/2^1:Nat):Int))) (congrArg (Value.int .i64) (w64 (by omega) (by omega))) ?_
    refine sT [(16,nV ((i+j)/2^1))] fun a hF=> ?_
    obtain⟨c,hc⟩:∃x,(i+j)/2^1=x:=⟨_,rfl⟩;rw[hc] at hF
    have hcb:i≤c∧c<j:=by omega
    refine cS ?_
    refine cD [0,0,0,6,14,0,0,96,224,511,1023,2047] 17 mixed hF ?_
    refine mP 7 [0,1,2] [.func (.func 107) #[] #[],.slice (some aa) n cap,nV lm] ?_
    refine mI 15 3 aa n 39 lm (lm*39) ?_
    refine mY 31 16 4 lm rec0 rcs_len (own_d.row) ?_
    refine mP 127 [5,6] [.slice (some aa) n cap,nV c] ?_
    refine mI 255 7 aa n 39 c (c*39) ?_
    refine mY 511 272 8 c rec0 rcs_len (own_d.row) ?_
    refine mF0 1023 1023 9 (Does.call (f:=107) (args:= #[.agg (rcs (L.getD lm rec0)).toArray,.agg (rcs (L.getD c rec0)).toArray]) (by kernel_rfl) (less_sat _ (L.getD lm rec0) (L.getD c rec0))) ?_
    rintro _ h13 ⟨rfl,g⟩
    replace g0:=g0.trans (g.but _)
    replace own_d:=own_d.ext g
    clear g
    refine mP 4095 [10,11] [.bool (decide ((cbR (L.getD lm rec0) (L.getD c rec0))<(0:Int))),.bool (!(decide ((cbR (L.getD lm rec0) (L.getD c rec0))<(0:Int))))] ?_
    refine mE [(103,.bool (!(decide ((cbR (L.getD lm rec0) (L.getD c rec0))<(0:Int)))))] fun a hF=> ?_
    refine tK ?_
    refine cC 103 (!(decide ((cbR (L.getD lm rec0) (L.getD c rec0))<(0:Int)))) hF (fun hc14=> ?_) (fun hc14=> ?_)
    ·skip
     have hlo2:c+1=la∨¬cbR (L.getD (lm) rec0) (L.getD (c+1 - 1) rec0)<0:= .inr (by simpa using hc14)
     have hhi2:=hhi
     refine rS hF ?_
     refine tA 1 c 1 ?_
     refine sE [(14,nV (c+1))] fun a hF=> ?_
     refine bK ?_
     show ∃m',m'<_∧_
     refine⟨_,?_,c+1,j,rfl,g0,(by omega),hlo2,hhi2,own_d,hF.to⟩
     omega
    ·skip
     have hhi2:c=lm∨cbR (L.getD (lm) rec0) (L.getD (c) rec0)<0:= .inr (by simpa using hc14)
     have hlo2:=hlo
     refine rP [(15,nV c)] hF fun a hF=> ?_
     refine bK ?_
     show ∃m',m'<_∧_
     refine⟨_,?_,i,c,rfl,g0,(by omega),hlo2,hhi2,own_d,hF.to⟩
     omega
   ·skip
    obtain rfl:i=j:=by omega
    refine cX 4 (xT (xT (xB ?_)))
    refine tK ?_
    refine cS ?_
    refine qP [(17,nV lm)] hF fun a hF=> ?_
    refine cB 6 ?_
    refine cL (fun m a h'=>∃k:Nat,∃M:List Rec,m=k+1∧(Grew (ad.map (fun(x:Addr)=>x.block)) h h')∧(i≤k∧k≤lm)∧(M.length =n)∧(M.Perm L)∧(Idx M L (rx lm k))∧(Own h' (.slice ad n cap) 95 n 39 (rrow M))∧(Fr a 220 [(0,.slice ad n cap),(14,.int .i64 ((i:Nat):Int)),(17,.int .i64 ((k:Nat):Int))])) (lm+1) ⟨lm,L,rfl,g0,(by omega),hLn,(List.Perm.refl _),(Idx.refl _ (rx_0 lm)),own_d,hF.to⟩ ?_
    clear hF a
    clear g0
    clear hLn
    clear own_d
    rintro m a h15 ⟨k,M,rfl,g0,hk,hM,hP,hx,own_d,hF⟩
    refine cS ?_
    refine qP [(110,.bool (decide (((i:Nat):Int)<((k:Nat):Int))))] hF fun a hF=> ?_
    refine cJ 110 hF (fun hc16=> ?_) fun hc16=> ?_
    ·skip
     have hkc:i<k:=by omega
     obtain⟨aa,rfl,hcap_aa⟩:=own_d.someA (by omega)
     refine cN ?_
     refine tK ?_
     refine cS ?_
     refine cB 7 ?_
     refine cD [0,0,0,0,8,0,0,64,224,480,0,0,3072,7168,16355,32739,65535,131071] 23 mixed hF ?_
     refine mP 15 [0,1,2,3] [.slice (some aa) n cap,nV k,.slice (some aa) n cap,nV k] ?_
     refine mU 31 4 k 1 ?_
     refine mP 127 [5,6] [.slice (some aa) n cap,nV k] ?_
     refine mU 255 7 k 1 ?_
     refine mI 511 8 aa n 39 (k - 1) ((k - 1)*39) ?_
     refine mY 1023 512 9 (k - 1) rec0 rcs_len (own_d.row) ?_
     refine mP 4095 [10,11] [.slice (some aa) n cap,nV k] ?_
     refine mI 8191 12 aa n 39 k (k*39) ?_
     refine mY 16383 8704 13 k rec0 rcs_len (own_d.row) ?_
     refine mI 32767 14 aa n 39 k (k*39) ?_
     refine mF0 65535 65507 15 (Does.storeOwn (a:=aa) (q:=k*39) (vs:=rcs (M.getD (k - 1) rec0)) (by kernel_rfl) own_d (by show _+39≤_;omega) (rcs_one _)) ?_
     rintro _ h17 ⟨rfl,ownx,g⟩
     replace g0:=g0.trans g
     rw[fm_set rcs_len (by first|omega| (rw[List.length_set];omega))] at ownx
     clear own_d;have own_d:=ownx;clear ownx g
     refine mI 131071 16 aa n 39 (k - 1) ((k - 1)*39) ?_
     refine mF0 262143 262143 17 (Does.storeOwn (a:=aa) (q:=(k - 1)*39) (vs:=rcs (M.getD k rec0)) (by kernel_rfl) own_d (by show _+39≤_;omega) (rcs_one _)) ?_
     rintro _ h18 ⟨rfl,ownx,g⟩
     replace g0:=g0.trans g
     rw[fm_set rcs_len (by first|omega| (rw[List.length_set];omega))] at ownx
     clear own_d;have own_d:=ownx;clear ownx g
     refine mE [] fun a hF=> ?_
     refine bK ?_
     refine tK ?_
     refine rS hF ?_
     refine tU 1 k 1 ?_
     refine sE [(17,nV (k - 1))] fun a hF=> ?_
     show ∃m',m'<_∧_
     refine⟨_,?_,k - 1,(swp2 M k (k - 1)),rfl,g0,(by omega),((swp2_length M _ _).trans hM),((swp2_perm (by omega) (by omega)).trans hP),(hx.swp (by omega) (by omega) (rx_next (by omega) (by omega))),own_d,hF.to⟩
     omega
    ·skip
     refine cX 6 (xT (xT (xB ?_)))
     refine tK ?_
     refine cR (yT ?_)
     refine r0 hF ?_
     exact⟨M,by have z:=sym2 hM hP hx (by omega) hs1 (by omega) (by omega) hlo hhi;rwa [←hm1] at z,own_d,g0⟩
  ·skip
   refine cN ?_
   refine tK ?_
   refine qS hF ?_
   refine tA 2 la lb ?_
   refine t1 3 (.int .u64 ((la+lb:Nat):Int)) (.int .u64 (IntKind.u64.wrap ((la+lb:Nat):Int))) (congrArg (Value.int .u64) (u64n (by omega))) ?_
   refine t1 4 (.int .u64 (((la+lb)/2^1:Nat):Int)) (.int .u64 (Int.fdiv ((la+lb:Nat):Int) (2^1))) (congrArg (Value.int .u64) (fdivN (la+lb) 1)) ?_
   refine t1 5 (.int .i64 (((la+lb)/2^1:Nat):Int)) (.int .i64 (IntKind.i64.wrap (((la+lb)/2^1:Nat):Int))) (congrArg (Value.int .i64) (w64 (by omega) (by omega))) ?_
   refine sT [(18,nV ((la+lb)/2^1))] fun a hF=> ?_
   obtain⟨mid,hmid⟩:∃x,(la+lb)/2^1=x:=⟨_,rfl⟩;rw[hmid] at hF
   have hmb:la<mid∧mid<lb:=by omega
   refine qS hF ?_
   refine tA 2 mid lm ?_
   refine sT [(19,nV (mid+lm))] fun a hF=> ?_
   refine qP [] hF fun a hF=> ?_
   refine cS ?_
   refine qP [(140,.bool (decide (((mid:Nat):Int)<((lm:Nat):Int))))] hF fun a hF=> ?_
   refine cJ 140 hF (fun hc19=> ?_) fun hc19=> ?_
   ·skip
    refine qS hF ?_
    refine tU 2 (mid+lm) lb ?_
    refine sT [(20,nV ((mid+lm) - lb))] fun a hF=> ?_
    refine rP [(21,nV mid)] hF fun a hF=> ?_
    refine tK ?_
    refine qS hF ?_
    refine tU 1 (mid+lm) 1 ?_
    refine sT [(22,nV ((mid+lm) - 1))] fun a hF=> ?_
    obtain⟨s0,hs0⟩:∃x,(mid+lm) - lb=x:=⟨_,rfl⟩;obtain⟨r0,hr0⟩:∃x,mid=x:=⟨_,rfl⟩
    have hsr:(mid<lm∧s0+lb=mid+lm∧r0=mid)∨(lm≤mid∧s0=la∧r0=lm):=by omega
    have hsle:s0≤r0:=by omega
    refine cS ?_
    refine cB 8 ?_
    refine cL (fun m a h'=>∃i:Nat,∃j:Nat,m=j - i∧(Grew (ad.map (fun(x:Addr)=>x.block)) h h')∧(s0≤i∧i≤j∧j≤r0)∧(i=s0∨¬cbR (L.getD (mid+lm - 1 - (i - 1)) rec0) (L.getD (i - 1) rec0)<0)∧(j=r0∨cbR (L.getD (mid+lm - 1 - (j)) rec0) (L.getD (j) rec0)<0)∧(Own h' (.slice ad n cap) 95 n 39 (rrow L))∧(Fr a 220 [(0,.slice ad n cap),(1,.int .i64 ((la:Nat):Int)),(2,.int .i64 ((lm:Nat):Int)),(3,.int .i64 ((lb:Nat):Int)),(4,.func (.func 107) #[] #[]),(18,.int .i64 ((mid:Nat):Int)),(19,.int .i64 ((mid+lm:Nat):Int)),(20,.int .i64 ((i:Nat):Int)),(21,.int .i64 ((j:Nat):Int)),(22,.int .i64 (((mid+lm) - 1:Nat):Int))])) (mid - ((mid+lm) - lb)) ⟨(mid+lm) - lb,mid,rfl,g0,(by omega),(.inl (by omega)),(.inl (by omega)),own_d,hF.to⟩ ?_
    clear hF a
    clear g0
    clear own_d
    rintro m a h20 ⟨i,j,rfl,g0,hij,hlo,hhi,own_d,hF⟩
    refine cS ?_
    refine qP [(151,.bool (decide (((i:Nat):Int)<((j:Nat):Int))))] hF fun a hF=> ?_
    refine cJ 151 hF (fun hc21=> ?_) fun hc21=> ?_
    ·skip
     have hijc:i<j:=by omega
     obtain⟨aa,rfl,hcap_aa⟩:=own_d.someA (by omega)
     refine cN ?_
     refine tK ?_
     refine cB 9 ?_
     refine qS hF ?_
     refine tA 2 i j ?_
     refine t1 3 (.int .u64 ((i+j:Nat):Int)) (.int .u64 (IntKind.u64.wrap ((i+j:Nat):Int))) (congrArg (Value.int .u64) (u64n (by omega))) ?_
     refine t1 4 (.int .u64 (((i+j)/2^1:Nat):Int)) (.int .u64 (Int.fdiv ((i+j:Nat):Int) (2^1))) (congrArg (Value.int .u64) (fdivN (i+j) 1)) ?_
     refine t1 5 (.int .i64 (((i+j)/2^1:Nat):Int)) (.int .i64 (IntKind.i64.wrap (((i+j)/2^1:Nat):Int))) (congrArg (Value.int .i64) (w64 (by omega) (by omega))) ?_
     refine sT [(23,nV ((i+j)/2^1))] fun a hF=> ?_
     obtain⟨c,hc⟩:∃x,(i+j)/2^1=x:=⟨_,rfl⟩;rw[hc] at hF
     have hcb:i≤c∧c<j:=by omega
     refine cS ?_
     refine cD [0,0,0,0,12,30,62,0,0,384,896,2047,4095,8191] 35 mixed hF ?_
     refine mP 15 [0,1,2,3] [.func (.func 107) #[] #[],.slice (some aa) n cap,nV ((mid+lm) - 1),nV c] ?_
     refine mU 31 4 ((mid+lm) - 1) c ?_
     refine mI 63 5 aa n 39 (((mid+lm) - 1) - c) ((((mid+lm) - 1) - c)*39) ?_
     refine mY 127 64 6 (((mid+lm) - 1) - c) rec0 rcs_len (own_d.row) ?_
     refine mP 511 [7,8] [.slice (some aa) n cap,nV c] ?_
     refine mI 1023 9 aa n 39 c (c*39) ?_
     refine mY 2047 1088 10 c rec0 rcs_len (own_d.row) ?_
     refine mF0 4095 4095 11 (Does.call (f:=107) (args:= #[.agg (rcs (L.getD (((mid+lm) - 1) - c) rec0)).toArray,.agg (rcs (L.getD c rec0)).toArray]) (by kernel_rfl) (less_sat _ (L.getD (((mid+lm) - 1) - c) rec0) (L.getD c rec0))) ?_
     rintro _ h22 ⟨rfl,g⟩
     replace g0:=g0.trans (g.but _)
     replace own_d:=own_d.ext g
     clear g
     refine mP 16383 [12,13] [.bool (decide ((cbR (L.getD (((mid+lm) - 1) - c) rec0) (L.getD c rec0))<(0:Int))),.bool (!(decide ((cbR (L.getD (((mid+lm) - 1) - c) rec0) (L.getD c rec0))<(0:Int))))] ?_
     refine mE [(171,.bool (!(decide ((cbR (L.getD (((mid+lm) - 1) - c) rec0) (L.getD c rec0))<(0:Int)))))] fun a hF=> ?_
     refine tK ?_
     refine cC 171 (!(decide ((cbR (L.getD (((mid+lm) - 1) - c) rec0) (L.getD c rec0))<(0:Int)))) hF (fun hc23=> ?_) (fun hc23=> ?_)
     ·skip
      have hlo2:c+1=s0∨¬cbR (L.getD (mid+lm - 1 - (c+1 - 1)) rec0) (L.getD (c+1 - 1) rec0)<0:= .inr (by rw[show mid+lm - 1 - (c+1 - 1)=mid+lm - 1 - c by omega];simpa using hc23)
      have hhi2:=hhi
      refine rS hF ?_
      refine tA 1 c 1 ?_
      refine sE [(20,nV (c+1))] fun a hF=> ?_
      refine bK ?_
      show ∃m',m'<_∧_
      refine⟨_,?_,c+1,j,rfl,g0,(by omega),hlo2,hhi2,own_d,hF.to⟩
      omega
     ·skip
      have hhi2:c=r0∨cbR (L.getD (mid+lm - 1 - (c)) rec0) (L.getD (c) rec0)<0:= .inr (by simpa using hc23)
      have hlo2:=hlo
      refine rP [(21,nV c)] hF fun a hF=> ?_
      refine bK ?_
      show ∃m',m'<_∧_
      refine⟨_,?_,i,c,rfl,g0,(by omega),hlo2,hhi2,own_d,hF.to⟩
      omega
    ·skip
     obtain rfl:i=j:=by omega
     refine cX 8 (xT (xT (xB ?_)))
     refine tK ?_
     refine qS hF ?_
     refine tU 2 (mid+lm) i ?_
     refine sT [(24,nV ((mid+lm) - i))] fun a hF=> ?_
     obtain⟨e,he⟩:∃x,(mid+lm) - i=x:=⟨_,rfl⟩;rw[he] at hF
     have ham:la≤i∧i≤lm∧lm≤e∧e≤lb∧i≤mid∧mid≤e∧i+e=mid+lm:=by omega
     have hlo3:i=la∨e=lb∨leR (L.getD (i - 1) rec0) (L.getD e rec0):=by
      rcases hlo with z|z
      ·omega
      ·by_cases hi0:i=la
       ·exact .inl hi0
       ·rw[show mid+lm - 1 - (i - 1)=e by omega] at z;exact .inr (.inr (leR_of_not z))
     have hhi3:i=lm∨i=mid∨leR (L.getD (e - 1) rec0) (L.getD i rec0):=by
      rcases hhi with z|z
      ·omega
      ·rw[show mid+lm - 1 - i=e - 1 by omega] at z;exact .inr (.inr (leR_of_lt z))
     refine cS ?_
     refine cS ?_
     rcases Nat.lt_or_ge i lm with hc1|hc1
     rcases Nat.lt_or_ge lm e with hc2|hc2
     ·skip
      refine rS hF ?_
      refine tT 2 (((i:Nat):Int)<((lm:Nat):Int)) ?_
      refine tT 6 (((lm:Nat):Int)<((e:Nat):Int)) ?_
      refine sE [(185,.bool true)] fun a hF=> ?_
      refine tK ?_
      refine cT 185 hF ?_
      refine rS hF ?_
      refine tG 5 (rot_sat _ ad cap n i lm e L own_d hLn (by omega) (by omega) (by omega) (by omega)) ?_
      rintro _ h25 ⟨K24,hM,hP,hx,ownx,g⟩
      replace g0:=g0.trans g
      clear own_d;have own_d:=ownx;clear ownx g
      have hcut:Cut n la lm lb mid i e L K24:=⟨hM,hP,hx,hs1,hs2,ham,hlo3,hhi3⟩
      refine sE [] fun a hF=> ?_
      refine tK ?_
      refine cS ?_
      refine cS ?_
      rcases Nat.lt_or_ge la i with hc1|hc1
      rcases Nat.lt_or_ge i mid with hc2|hc2
      ·skip
       refine rS hF ?_
       refine tT 2 (((la:Nat):Int)<((i:Nat):Int)) ?_
       refine tT 6 (((i:Nat):Int)<((mid:Nat):Int)) ?_
       refine sE [(199,.bool true)] fun a hF=> ?_
       refine tK ?_
       refine cT 199 hF ?_
       refine rS hF ?_
       refine tG 5 (ih _ la i mid K24 (by omega) own_d hcut.len (by omega) (by omega) (by omega) hcut.r1 hcut.r2) ?_
       rintro _ h27 ⟨K26,hk,ownx,g⟩
       replace g0:=g0.trans g
       clear own_d;have own_d:=ownx;clear ownx g
       refine sE [] fun a hF=> ?_
       refine tK ?_
       refine cS ?_
       rcases Nat.lt_or_ge mid e with hc1|hc1
       rcases Nat.lt_or_ge e lb with hc2|hc2
       ·skip
        refine rS hF ?_
        refine tT 2 (((mid:Nat):Int)<((e:Nat):Int)) ?_
        refine tT 6 (((e:Nat):Int)<((lb:Nat):Int)) ?_
        refine sE [(213,.bool true)] fun a hF=> ?_
        refine tK ?_
        refine cT 213 hF ?_
        refine rS hF ?_
        refine tG 5 (ih _ mid e lb K26 (by omega) own_d hk.len (by omega) (by omega) (by omega) (hcut.sort hk).1 (hcut.sort hk).2) ?_
        rintro _ h29 ⟨K28,hj,ownx,g⟩
        replace g0:=g0.trans g
        clear own_d;have own_d:=ownx;clear ownx g
        refine sE [] fun a hF=> ?_
        refine n0 hF ?_
        exact⟨K28,hcut.done hk hj,own_d,g0⟩
       ·skip
        have hj:=hcut.right hk (by omega)
        refine rS hF ?_
        refine tT 2 (((mid:Nat):Int)<((e:Nat):Int)) ?_
        refine tX 6 (((e:Nat):Int)<((lb:Nat):Int)) ?_
        refine sE [(213,.bool false)] fun a hF=> ?_
        refine tK ?_
        refine cF 213 hF ?_
        refine cN ?_
        refine n0 hF ?_
        exact⟨K26,hcut.done hk hj,own_d,g0⟩
       ·skip
        have hj:=hcut.right hk (by omega)
        refine rS hF ?_
        refine tX 2 (((mid:Nat):Int)<((e:Nat):Int)) ?_
        refine sE [(213,.bool false)] fun a hF=> ?_
        refine tK ?_
        refine cF 213 hF ?_
        refine cN ?_
        refine n0 hF ?_
        exact⟨K26,hcut.done hk hj,own_d,g0⟩
      ·skip
       have hk:=hcut.left (by omega)
       refine rS hF ?_
       refine tT 2 (((la:Nat):Int)<((i:Nat):Int)) ?_
       refine tX 6 (((i:Nat):Int)<((mid:Nat):Int)) ?_
       refine sE [(199,.bool false)] fun a hF=> ?_
       refine tK ?_
       refine cF 199 hF ?_
       refine cN ?_
       refine tK ?_
       refine cS ?_
       rcases Nat.lt_or_ge mid e with hc1|hc1
       rcases Nat.lt_or_ge e lb with hc2|hc2
       ·skip
        refine rS hF ?_
        refine tT 2 (((mid:Nat):Int)<((e:Nat):Int)) ?_
        refine tT 6 (((e:Nat):Int)<((lb:Nat):Int)) ?_
        refine sE [(213,.bool true)] fun a hF=> ?_
        refine tK ?_
        refine cT 213 hF ?_
        refine rS hF ?_
        refine tG 5 (ih _ mid e lb K24 (by omega) own_d hk.len (by omega) (by omega) (by omega) (hcut.sort hk).1 (hcut.sort hk).2) ?_
        rintro _ h31 ⟨K30,hj,ownx,g⟩
        replace g0:=g0.trans g
        clear own_d;have own_d:=ownx;clear ownx g
        refine sE [] fun a hF=> ?_
        refine n0 hF ?_
        exact⟨K30,hcut.done hk hj,own_d,g0⟩
       ·skip
        have hj:=hcut.right hk (by omega)
        refine rS hF ?_
        refine tT 2 (((mid:Nat):Int)<((e:Nat):Int)) ?_
        refine tX 6 (((e:Nat):Int)<((lb:Nat):Int)) ?_
        refine sE [(213,.bool false)] fun a hF=> ?_
        refine tK ?_
        refine cF 213 hF ?_
        refine cN ?_
        refine n0 hF ?_
        exact⟨K24,hcut.done hk hj,own_d,g0⟩
       ·skip
        have hj:=hcut.right hk (by omega)
        refine rS hF ?_
        refine tX 2 (((mid:Nat):Int)<((e:Nat):Int)) ?_
        refine sE [(213,.bool false)] fun a hF=> ?_
        refine tK ?_
        refine cF 213 hF ?_
        refine cN ?_
        refine n0 hF ?_
        exact⟨K24,hcut.done hk hj,own_d,g0⟩
      ·skip
       have hk:=hcut.left (by omega)
       refine rS hF ?_
       refine tX 2 (((la:Nat):Int)<((i:Nat):Int)) ?_
       refine sE [(199,.bool false)] fun a hF=> ?_
       refine tK ?_
       refine cF 199 hF ?_
       refine cN ?_
       refine tK ?_
       refine cS ?_
       rcases Nat.lt_or_ge mid e with hc1|hc1
       rcases Nat.lt_or_ge e lb with hc2|hc2
       ·skip
        refine rS hF ?_
        refine tT 2 (((mid:Nat):Int)<((e:Nat):Int)) ?_
        refine tT 6 (((e:Nat):Int)<((lb:Nat):Int)) ?_
        refine sE [(213,.bool true)] fun a hF=> ?_
        refine tK ?_
        refine cT 213 hF ?_
        refine rS hF ?_
        refine tG 5 (ih _ mid e lb K24 (by omega) own_d hk.len (by omega) (by omega) (by omega) (hcut.sort hk).1 (hcut.sort hk).2) ?_
        rintro _ h33 ⟨K32,hj,ownx,g⟩
        replace g0:=g0.trans g
        clear own_d;have own_d:=ownx;clear ownx g
        refine sE [] fun a hF=> ?_
        refine n0 hF ?_
        exact⟨K32,hcut.done hk hj,own_d,g0⟩
       ·skip
        have hj:=hcut.right hk (by omega)
        refine rS hF ?_
        refine tT 2 (((mid:Nat):Int)<((e:Nat):Int)) ?_
        refine tX 6 (((e:Nat):Int)<((lb:Nat):Int)) ?_
        refine sE [(213,.bool false)] fun a hF=> ?_
        refine tK ?_
        refine cF 213 hF ?_
        refine cN ?_
        refine n0 hF ?_
        exact⟨K24,hcut.done hk hj,own_d,g0⟩
       ·skip
        have hj:=hcut.right hk (by omega)
        refine rS hF ?_
        refine tX 2 (((mid:Nat):Int)<((e:Nat):Int)) ?_
        refine sE [(213,.bool false)] fun a hF=> ?_
        refine tK ?_
        refine cF 213 hF ?_
        refine cN ?_
        refine n0 hF ?_
        exact⟨K24,hcut.done hk hj,own_d,g0⟩
     ·skip
      have hcut:Cut n la lm lb mid i e L L:=⟨hLn,List.Perm.refl _,Idx.refl _ (rtx_none (by omega)),hs1,hs2,ham,hlo3,hhi3⟩
      refine rS hF ?_
      refine tT 2 (((i:Nat):Int)<((lm:Nat):Int)) ?_
      refine tX 6 (((lm:Nat):Int)<((e:Nat):Int)) ?_
      refine sE [(185,.bool false)] fun a hF=> ?_
      refine tK ?_
      refine cF 185 hF ?_
      refine cN ?_
      refine tK ?_
      refine cS ?_
      refine cS ?_
      rcases Nat.lt_or_ge la i with hc1|hc1
      rcases Nat.lt_or_ge i mid with hc2|hc2
      ·skip
       refine rS hF ?_
       refine tT 2 (((la:Nat):Int)<((i:Nat):Int)) ?_
       refine tT 6 (((i:Nat):Int)<((mid:Nat):Int)) ?_
       refine sE [(199,.bool true)] fun a hF=> ?_
       refine tK ?_
       refine cT 199 hF ?_
       refine rS hF ?_
       refine tG 5 (ih _ la i mid L (by omega) own_d hcut.len (by omega) (by omega) (by omega) hcut.r1 hcut.r2) ?_
       rintro _ h35 ⟨K34,hk,ownx,g⟩
       replace g0:=g0.trans g
       clear own_d;have own_d:=ownx;clear ownx g
       refine sE [] fun a hF=> ?_
       refine tK ?_
       refine cS ?_
       rcases Nat.lt_or_ge mid e with hc1|hc1
       rcases Nat.lt_or_ge e lb with hc2|hc2
       ·skip
        refine rS hF ?_
        refine tT 2 (((mid:Nat):Int)<((e:Nat):Int)) ?_
        refine tT 6 (((e:Nat):Int)<((lb:Nat):Int)) ?_
        refine sE [(213,.bool true)] fun a hF=> ?_
        refine tK ?_
        refine cT 213 hF ?_
        refine rS hF ?_
        refine tG 5 (ih _ mid e lb K34 (by omega) own_d hk.len (by omega) (by omega) (by omega) (hcut.sort hk).1 (hcut.sort hk).2) ?_
        rintro _ h37 ⟨K36,hj,ownx,g⟩
        replace g0:=g0.trans g
        clear own_d;have own_d:=ownx;clear ownx g
        refine sE [] fun a hF=> ?_
        refine n0 hF ?_
        exact⟨K36,hcut.done hk hj,own_d,g0⟩
       ·skip
        have hj:=hcut.right hk (by omega)
        refine rS hF ?_
        refine tT 2 (((mid:Nat):Int)<((e:Nat):Int)) ?_
        refine tX 6 (((e:Nat):Int)<((lb:Nat):Int)) ?_
        refine sE [(213,.bool false)] fun a hF=> ?_
        refine tK ?_
        refine cF 213 hF ?_
        refine cN ?_
        refine n0 hF ?_
        exact⟨K34,hcut.done hk hj,own_d,g0⟩
       ·skip
        have hj:=hcut.right hk (by omega)
        refine rS hF ?_
        refine tX 2 (((mid:Nat):Int)<((e:Nat):Int)) ?_
        refine sE [(213,.bool false)] fun a hF=> ?_
        refine tK ?_
        refine cF 213 hF ?_
        refine cN ?_
        refine n0 hF ?_
        exact⟨K34,hcut.done hk hj,own_d,g0⟩
      ·skip
       have hk:=hcut.left (by omega)
       refine rS hF ?_
       refine tT 2 (((la:Nat):Int)<((i:Nat):Int)) ?_
       refine tX 6 (((i:Nat):Int)<((mid:Nat):Int)) ?_
       refine sE [(199,.bool false)] fun a hF=> ?_
       refine tK ?_
       refine cF 199 hF ?_
       refine cN ?_
       refine tK ?_
       refine cS ?_
       rcases Nat.lt_or_ge mid e with hc1|hc1
       rcases Nat.lt_or_ge e lb with hc2|hc2
       ·skip
        refine rS hF ?_
        refine tT 2 (((mid:Nat):Int)<((e:Nat):Int)) ?_
        refine tT 6 (((e:Nat):Int)<((lb:Nat):Int)) ?_
        refine sE [(213,.bool true)] fun a hF=> ?_
        refine tK ?_
        refine cT 213 hF ?_
        refine rS hF ?_
        refine tG 5 (ih _ mid e lb L (by omega) own_d hk.len (by omega) (by omega) (by omega) (hcut.sort hk).1 (hcut.sort hk).2) ?_
        rintro _ h39 ⟨K38,hj,ownx,g⟩
        replace g0:=g0.trans g
        clear own_d;have own_d:=ownx;clear ownx g
        refine sE [] fun a hF=> ?_
        refine n0 hF ?_
        exact⟨K38,hcut.done hk hj,own_d,g0⟩
       ·skip
        have hj:=hcut.right hk (by omega)
        refine rS hF ?_
        refine tT 2 (((mid:Nat):Int)<((e:Nat):Int)) ?_
        refine tX 6 (((e:Nat):Int)<((lb:Nat):Int)) ?_
        refine sE [(213,.bool false)] fun a hF=> ?_
        refine tK ?_
        refine cF 213 hF ?_
        refine cN ?_
        refine n0 hF ?_
        exact⟨L,hcut.done hk hj,own_d,g0⟩
       ·skip
        have hj:=hcut.right hk (by omega)
        refine rS hF ?_
        refine tX 2 (((mid:Nat):Int)<((e:Nat):Int)) ?_
        refine sE [(213,.bool false)] fun a hF=> ?_
        refine tK ?_
        refine cF 213 hF ?_
        refine cN ?_
        refine n0 hF ?_
        exact⟨L,hcut.done hk hj,own_d,g0⟩
      ·skip
       have hk:=hcut.left (by omega)
       refine rS hF ?_
       refine tX 2 (((la:Nat):Int)<((i:Nat):Int)) ?_
       refine sE [(199,.bool false)] fun a hF=> ?_
       refine tK ?_
       refine cF 199 hF ?_
       refine cN ?_
       refine tK ?_
       refine cS ?_
       rcases Nat.lt_or_ge mid e with hc1|hc1
       rcases Nat.lt_or_ge e lb with hc2|hc2
       ·skip
        refine rS hF ?_
        refine tT 2 (((mid:Nat):Int)<((e:Nat):Int)) ?_
        refine tT 6 (((e:Nat):Int)<((lb:Nat):Int)) ?_
        refine sE [(213,.bool true)] fun a hF=> ?_
        refine tK ?_
        refine cT 213 hF ?_
        refine rS hF ?_
        refine tG 5 (ih _ mid e lb L (by omega) own_d hk.len (by omega) (by omega) (by omega) (hcut.sort hk).1 (hcut.sort hk).2) ?_
        rintro _ h41 ⟨K40,hj,ownx,g⟩
        replace g0:=g0.trans g
        clear own_d;have own_d:=ownx;clear ownx g
        refine sE [] fun a hF=> ?_
        refine n0 hF ?_
        exact⟨K40,hcut.done hk hj,own_d,g0⟩
       ·skip
        have hj:=hcut.right hk (by omega)
        refine rS hF ?_
        refine tT 2 (((mid:Nat):Int)<((e:Nat):Int)) ?_
        refine tX 6 (((e:Nat):Int)<((lb:Nat):Int)) ?_
        refine sE [(213,.bool false)] fun a hF=> ?_
        refine tK ?_
        refine cF 213 hF ?_
        refine cN ?_
        refine n0 hF ?_
        exact⟨L,hcut.done hk hj,own_d,g0⟩
       ·skip
        have hj:=hcut.right hk (by omega)
        refine rS hF ?_
        refine tX 2 (((mid:Nat):Int)<((e:Nat):Int)) ?_
        refine sE [(213,.bool false)] fun a hF=> ?_
        refine tK ?_
        refine cF 213 hF ?_
        refine cN ?_
        refine n0 hF ?_
        exact⟨L,hcut.done hk hj,own_d,g0⟩
     ·skip
      have hcut:Cut n la lm lb mid i e L L:=⟨hLn,List.Perm.refl _,Idx.refl _ (rtx_none (by omega)),hs1,hs2,ham,hlo3,hhi3⟩
      refine rS hF ?_
      refine tX 2 (((i:Nat):Int)<((lm:Nat):Int)) ?_
      refine sE [(185,.bool false)] fun a hF=> ?_
      refine tK ?_
      refine cF 185 hF ?_
      refine cN ?_
      refine tK ?_
      refine cS ?_
      refine cS ?_
      rcases Nat.lt_or_ge la i with hc1|hc1
      rcases Nat.lt_or_ge i mid with hc2|hc2
      ·skip
       refine rS hF ?_
       refine tT 2 (((la:Nat):Int)<((i:Nat):Int)) ?_
       refine tT 6 (((i:Nat):Int)<((mid:Nat):Int)) ?_
       refine sE [(199,.bool true)] fun a hF=> ?_
       refine tK ?_
       refine cT 199 hF ?_
       refine rS hF ?_
       refine tG 5 (ih _ la i mid L (by omega) own_d hcut.len (by omega) (by omega) (by omega) hcut.r1 hcut.r2) ?_
       rintro _ h43 ⟨K42,hk,ownx,g⟩
       replace g0:=g0.trans g
       clear own_d;have own_d:=ownx;clear ownx g
       refine sE [] fun a hF=> ?_
       refine tK ?_
       refine cS ?_
       rcases Nat.lt_or_ge mid e with hc1|hc1
       rcases Nat.lt_or_ge e lb with hc2|hc2
       ·skip
        refine rS hF ?_
        refine tT 2 (((mid:Nat):Int)<((e:Nat):Int)) ?_
        refine tT 6 (((e:Nat):Int)<((lb:Nat):Int)) ?_
        refine sE [(213,.bool true)] fun a hF=> ?_
        refine tK ?_
        refine cT 213 hF ?_
        refine rS hF ?_
        refine tG 5 (ih _ mid e lb K42 (by omega) own_d hk.len (by omega) (by omega) (by omega) (hcut.sort hk).1 (hcut.sort hk).2) ?_
        rintro _ h45 ⟨K44,hj,ownx,g⟩
        replace g0:=g0.trans g
        clear own_d;have own_d:=ownx;clear ownx g
        refine sE [] fun a hF=> ?_
        refine n0 hF ?_
        exact⟨K44,hcut.done hk hj,own_d,g0⟩
       ·skip
        have hj:=hcut.right hk (by omega)
        refine rS hF ?_
        refine tT 2 (((mid:Nat):Int)<((e:Nat):Int)) ?_
        refine tX 6 (((e:Nat):Int)<((lb:Nat):Int)) ?_
        refine sE [(213,.bool false)] fun a hF=> ?_
        refine tK ?_
        refine cF 213 hF ?_
        refine cN ?_
        refine n0 hF ?_
        exact⟨K42,hcut.done hk hj,own_d,g0⟩
       ·skip
        have hj:=hcut.right hk (by omega)
        refine rS hF ?_
        refine tX 2 (((mid:Nat):Int)<((e:Nat):Int)) ?_
        refine sE [(213,.bool false)] fun a hF=> ?_
        refine tK ?_
        refine cF 213 hF ?_
        refine cN ?_
        refine n0 hF ?_
        exact⟨K42,hcut.done hk hj,own_d,g0⟩
      ·skip
       have hk:=hcut.left (by omega)
       refine rS hF ?_
       refine tT 2 (((la:Nat):Int)<((i:Nat):Int)) ?_
       refine tX 6 (((i:Nat):Int)<((mid:Nat):Int)) ?_
       refine sE [(199,.bool false)] fun a hF=> ?_
       refine tK ?_
       refine cF 199 hF ?_
       refine cN ?_
       refine tK ?_
       refine cS ?_
       rcases Nat.lt_or_ge mid e with hc1|hc1
       rcases Nat.lt_or_ge e lb with hc2|hc2
       ·skip
        refine rS hF ?_
        refine tT 2 (((mid:Nat):Int)<((e:Nat):Int)) ?_
        refine tT 6 (((e:Nat):Int)<((lb:Nat):Int)) ?_
        refine sE [(213,.bool true)] fun a hF=> ?_
        refine tK ?_
        refine cT 213 hF ?_
        refine rS hF ?_
        refine tG 5 (ih _ mid e lb L (by omega) own_d hk.len (by omega) (by omega) (by omega) (hcut.sort hk).1 (hcut.sort hk).2) ?_
        rintro _ h47 ⟨K46,hj,ownx,g⟩
        replace g0:=g0.trans g
        clear own_d;have own_d:=ownx;clear ownx g
        refine sE [] fun a hF=> ?_
        refine n0 hF ?_
        exact⟨K46,hcut.done hk hj,own_d,g0⟩
       ·skip
        have hj:=hcut.right hk (by omega)
        refine rS hF ?_
        refine tT 2 (((mid:Nat):Int)<((e:Nat):Int)) ?_
        refine tX 6 (((e:Nat):Int)<((lb:Nat):Int)) ?_
        refine sE [(213,.bool false)] fun a hF=> ?_
        refine tK ?_
        refine cF 213 hF ?_
        refine cN ?_
        refine n0 hF ?_
        exact⟨L,hcut.done hk hj,own_d,g0⟩
       ·skip
        have hj:=hcut.right hk (by omega)
        refine rS hF ?_
        refine tX 2 (((mid:Nat):Int)<((e:Nat):Int)) ?_
        refine sE [(213,.bool false)] fun a hF=> ?_
        refine tK ?_
        refine cF 213 hF ?_
        refine cN ?_
        refine n0 hF ?_
        exact⟨L,hcut.done hk hj,own_d,g0⟩
      ·skip
       have hk:=hcut.left (by omega)
       refine rS hF ?_
       refine tX 2 (((la:Nat):Int)<((i:Nat):Int)) ?_
       refine sE [(199,.bool false)] fun a hF=> ?_
       refine tK ?_
       refine cF 199 hF ?_
       refine cN ?_
       refine tK ?_
       refine cS ?_
       rcases Nat.lt_or_ge mid e with hc1|hc1
       rcases Nat.lt_or_ge e lb with hc2|hc2
       ·skip
        refine rS hF ?_
        refine tT 2 (((mid:Nat):Int)<((e:Nat):Int)) ?_
        refine tT 6 (((e:Nat):Int)<((lb:Nat):Int)) ?_
        refine sE [(213,.bool true)] fun a hF=> ?_
        refine tK ?_
        refine cT 213 hF ?_
        refine rS hF ?_
        refine tG 5 (ih _ mid e lb L (by omega) own_d hk.len (by omega) (by omega) (by omega) (hcut.sort hk).1 (hcut.sort hk).2) ?_
        rintro _ h49 ⟨K48,hj,ownx,g⟩
        replace g0:=g0.trans g
        clear own_d;have own_d:=ownx;clear ownx g
        refine sE [] fun a hF=> ?_
        refine n0 hF ?_
        exact⟨K48,hcut.done hk hj,own_d,g0⟩
       ·skip
        have hj:=hcut.right hk (by omega)
        refine rS hF ?_
        refine tT 2 (((mid:Nat):Int)<((e:Nat):Int)) ?_
        refine tX 6 (((e:Nat):Int)<((lb:Nat):Int)) ?_
        refine sE [(213,.bool false)] fun a hF=> ?_
        refine tK ?_
        refine cF 213 hF ?_
        refine cN ?_
        refine n0 hF ?_
        exact⟨L,hcut.done hk hj,own_d,g0⟩
       ·skip
        have hj:=hcut.right hk (by omega)
        refine rS hF ?_
        refine tX 2 (((mid:Nat):Int)<((e:Nat):Int)) ?_
        refine sE [(213,.bool false)] fun a hF=> ?_
        refine tK ?_
        refine cF 213 hF ?_
        refine cN ?_
        refine n0 hF ?_
        exact⟨L,hcut.done hk hj,own_d,g0⟩
   ·skip
    refine qP [(20,nV la)] hF fun a hF=> ?_
    refine rP [(21,nV lm)] hF fun a hF=> ?_
    refine tK ?_
    refine qS hF ?_
    refine tU 1 (mid+lm) 1 ?_
    refine sT [(22,nV ((mid+lm) - 1))] fun a hF=> ?_
    obtain⟨s0,hs0⟩:∃x,la=x:=⟨_,rfl⟩;obtain⟨r0,hr0⟩:∃x,lm=x:=⟨_,rfl⟩
    have hsr:(mid<lm∧s0+lb=mid+lm∧r0=mid)∨(lm≤mid∧s0=la∧r0=lm):=by omega
    have hsle:s0≤r0:=by omega
    refine cS ?_
    refine cB 8 ?_
    refine cL (fun m a h'=>∃i:Nat,∃j:Nat,m=j - i∧(Grew (ad.map (fun(x:Addr)=>x.block)) h h')∧(s0≤i∧i≤j∧j≤r0)∧(i=s0∨¬cbR (L.getD (mid+lm - 1 - (i - 1)) rec0) (L.getD (i - 1) rec0)<0)∧(j=r0∨cbR (L.getD (mid+lm - 1 - (j)) rec0) (L.getD (j) rec0)<0)∧(Own h' (.slice ad n cap) 95 n 39 (rrow L))∧(Fr a 220 [(0,.slice ad n cap),(1,.int .i64 ((la:Nat):Int)),(2,.int .i64 ((lm:Nat):Int)),(3,.int .i64 ((lb:Nat):Int)),(4,.func (.func 107) #[] #[]),(18,.int .i64 ((mid:Nat):Int)),(19,.int .i64 ((mid+lm:Nat):Int)),(20,.int .i64 ((i:Nat):Int)),(21,.int .i64 ((j:Nat):Int)),(22,.int .i64 (((mid+lm) - 1:Nat):Int))])) (lm - la) ⟨la,lm,rfl,g0,(by omega),(.inl (by omega)),(.inl (by omega)),own_d,hF.to⟩ ?_
    clear hF a
    clear g0
    clear own_d
    rintro m a h50 ⟨i,j,rfl,g0,hij,hlo,hhi,own_d,hF⟩
    refine cS ?_
    refine qP [(151,.bool (decide (((i:Nat):Int)<((j:Nat):Int))))] hF fun a hF=> ?_
    refine cJ 151 hF (fun hc51=> ?_) fun hc51=> ?_
    ·skip
     have hijc:i<j:=by omega
     obtain⟨aa,rfl,hcap_aa⟩:=own_d.someA (by omega)
     refine cN ?_
     refine tK ?_
     refine cB 9 ?_
     refine qS hF ?_
     refine tA 2 i j ?_
     refine t1 3 (.int .u64 ((i+j:Nat):Int)) (.int .u64 (IntKind.u64.wrap ((i+j:Nat):Int))) (congrArg (Value.int .u64) (u64n (by omega))) ?_
     refine t1 4 (.int .u64 (((i+j)/2^1:Nat):Int)) (.int .u64 (Int.fdiv ((i+j:Nat):Int) (2^1))) (congrArg (Value.int .u64) (fdivN (i+j) 1)) ?_
     refine t1 5 (.int .i64 (((i+j)/2^1:Nat):Int)) (.int .i64 (IntKind.i64.wrap (((i+j)/2^1:Nat):Int))) (congrArg (Value.int .i64) (w64 (by omega) (by omega))) ?_
     refine sT [(23,nV ((i+j)/2^1))] fun a hF=> ?_
     obtain⟨c,hc⟩:∃x,(i+j)/2^1=x:=⟨_,rfl⟩;rw[hc] at hF
     have hcb:i≤c∧c<j:=by omega
     refine cS ?_
     refine cD [0,0,0,0,12,30,62,0,0,384,896,2047,4095,8191] 35 mixed hF ?_
     refine mP 15 [0,1,2,3] [.func (.func 107) #[] #[],.slice (some aa) n cap,nV ((mid+lm) - 1),nV c] ?_
     refine mU 31 4 ((mid+lm) - 1) c ?_
     refine mI 63 5 aa n 39 (((mid+lm) - 1) - c) ((((mid+lm) - 1) - c)*39) ?_
     refine mY 127 64 6 (((mid+lm) - 1) - c) rec0 rcs_len (own_d.row) ?_
     refine mP 511 [7,8] [.slice (some aa) n cap,nV c] ?_
     refine mI 1023 9 aa n 39 c (c*39) ?_
     refine mY 2047 1088 10 c rec0 rcs_len (own_d.row) ?_
     refine mF0 4095 4095 11 (Does.call (f:=107) (args:= #[.agg (rcs (L.getD (((mid+lm) - 1) - c) rec0)).toArray,.agg (rcs (L.getD c rec0)).toArray]) (by kernel_rfl) (less_sat _ (L.getD (((mid+lm) - 1) - c) rec0) (L.getD c rec0))) ?_
     rintro _ h52 ⟨rfl,g⟩
     replace g0:=g0.trans (g.but _)
     replace own_d:=own_d.ext g
     clear g
     refine mP 16383 [12,13] [.bool (decide ((cbR (L.getD (((mid+lm) - 1) - c) rec0) (L.getD c rec0))<(0:Int))),.bool (!(decide ((cbR (L.getD (((mid+lm) - 1) - c) rec0) (L.getD c rec0))<(0:Int))))] ?_
     refine mE [(171,.bool (!(decide ((cbR (L.getD (((mid+lm) - 1) - c) rec0) (L.getD c rec0))<(0:Int)))))] fun a hF=> ?_
     refine tK ?_
     refine cC 171 (!(decide ((cbR (L.getD (((mid+lm) - 1) - c) rec0) (L.getD c rec0))<(0:Int)))) hF (fun hc53=> ?_) (fun hc53=> ?_)
     ·skip
      have hlo2:c+1=s0∨¬cbR (L.getD (mid+lm - 1 - (c+1 - 1)) rec0) (L.getD (c+1 - 1) rec0)<0:= .inr (by rw[show mid+lm - 1 - (c+1 - 1)=mid+lm - 1 - c by omega];simpa using hc53)
      have hhi2:=hhi
      refine rS hF ?_
      refine tA 1 c 1 ?_
      refine sE [(20,nV (c+1))] fun a hF=> ?_
      refine bK ?_
      show ∃m',m'<_∧_
      refine⟨_,?_,c+1,j,rfl,g0,(by omega),hlo2,hhi2,own_d,hF.to⟩
      omega
     ·skip
      have hhi2:c=r0∨cbR (L.getD (mid+lm - 1 - (c)) rec0) (L.getD (c) rec0)<0:= .inr (by simpa using hc53)
      have hlo2:=hlo
      refine rP [(21,nV c)] hF fun a hF=> ?_
      refine bK ?_
      show ∃m',m'<_∧_
      refine⟨_,?_,i,c,rfl,g0,(by omega),hlo2,hhi2,own_d,hF.to⟩
      omega
    ·skip
     obtain rfl:i=j:=by omega
     refine cX 8 (xT (xT (xB ?_)))
     refine tK ?_
     refine qS hF ?_
     refine tU 2 (mid+lm) i ?_
     refine sT [(24,nV ((mid+lm) - i))] fun a hF=> ?_
     obtain⟨e,he⟩:∃x,(mid+lm) - i=x:=⟨_,rfl⟩;rw[he] at hF
     have ham:la≤i∧i≤lm∧lm≤e∧e≤lb∧i≤mid∧mid≤e∧i+e=mid+lm:=by omega
     have hlo3:i=la∨e=lb∨leR (L.getD (i - 1) rec0) (L.getD e rec0):=by
      rcases hlo with z|z
      ·omega
      ·by_cases hi0:i=la
       ·exact .inl hi0
       ·rw[show mid+lm - 1 - (i - 1)=e by omega] at z;exact .inr (.inr (leR_of_not z))
     have hhi3:i=lm∨i=mid∨leR (L.getD (e - 1) rec0) (L.getD i rec0):=by
      rcases hhi with z|z
      ·omega
      ·rw[show mid+lm - 1 - i=e - 1 by omega] at z;exact .inr (.inr (leR_of_lt z))
     refine cS ?_
     refine cS ?_
     rcases Nat.lt_or_ge i lm with hc1|hc1
     rcases Nat.lt_or_ge lm e with hc2|hc2
     ·skip
      refine rS hF ?_
      refine tT 2 (((i:Nat):Int)<((lm:Nat):Int)) ?_
      refine tT 6 (((lm:Nat):Int)<((e:Nat):Int)) ?_
      refine sE [(185,.bool true)] fun a hF=> ?_
      refine tK ?_
      refine cT 185 hF ?_
      refine rS hF ?_
      refine tG 5 (rot_sat _ ad cap n i lm e L own_d hLn (by omega) (by omega) (by omega) (by omega)) ?_
      rintro _ h55 ⟨K54,hM,hP,hx,ownx,g⟩
      replace g0:=g0.trans g
      clear own_d;have own_d:=ownx;clear ownx g
      have hcut:Cut n la lm lb mid i e L K54:=⟨hM,hP,hx,hs1,hs2,ham,hlo3,hhi3⟩
      refine sE [] fun a hF=> ?_
      refine tK ?_
      refine cS ?_
      refine cS ?_
      rcases Nat.lt_or_ge la i with hc1|hc1
      rcases Nat.lt_or_ge i mid with hc2|hc2
      ·skip
       refine rS hF ?_
       refine tT 2 (((la:Nat):Int)<((i:Nat):Int)) ?_
       refine tT 6 (((i:Nat):Int)<((mid:Nat):Int)) ?_
       refine sE [(199,.bool true)] fun a hF=> ?_
       refine tK ?_
       refine cT 199 hF ?_
       refine rS hF ?_
       refine tG 5 (ih _ la i mid K54 (by omega) own_d hcut.len (by omega) (by omega) (by omega) hcut.r1 hcut.r2) ?_
       rintro _ h57 ⟨K56,hk,ownx,g⟩
       replace g0:=g0.trans g
       clear own_d;have own_d:=ownx;clear ownx g
       refine sE [] fun a hF=> ?_
       refine tK ?_
       refine cS ?_
       rcases Nat.lt_or_ge mid e with hc1|hc1
       rcases Nat.lt_or_ge e lb with hc2|hc2
       ·skip
        refine rS hF ?_
        refine tT 2 (((mid:Nat):Int)<((e:Nat):Int)) ?_
        refine tT 6 (((e:Nat):Int)<((lb:Nat):Int)) ?_
        refine sE [(213,.bool true)] fun a hF=> ?_
        refine tK ?_
        refine cT 213 hF ?_
        refine rS hF ?_
        refine tG 5 (ih _ mid e lb K56 (by omega) own_d hk.len (by omega) (by omega) (by omega) (hcut.sort hk).1 (hcut.sort hk).2) ?_
        rintro _ h59 ⟨K58,hj,ownx,g⟩
        replace g0:=g0.trans g
        clear own_d;have own_d:=ownx;clear ownx g
        refine sE [] fun a hF=> ?_
        refine n0 hF ?_
        exact⟨K58,hcut.done hk hj,own_d,g0⟩
       ·skip
        have hj:=hcut.right hk (by omega)
        refine rS hF ?_
        refine tT 2 (((mid:Nat):Int)<((e:Nat):Int)) ?_
        refine tX 6 (((e:Nat):Int)<((lb:Nat):Int)) ?_
        refine sE [(213,.bool false)] fun a hF=> ?_
        refine tK ?_
        refine cF 213 hF ?_
        refine cN ?_
        refine n0 hF ?_
        exact⟨K56,hcut.done hk hj,own_d,g0⟩
       ·skip
        have hj:=hcut.right hk (by omega)
        refine rS hF ?_
        refine tX 2 (((mid:Nat):Int)<((e:Nat):Int)) ?_
        refine sE [(213,.bool false)] fun a hF=> ?_
        refine tK ?_
        refine cF 213 hF ?_
        refine cN ?_
        refine n0 hF ?_
        exact⟨K56,hcut.done hk hj,own_d,g0⟩
      ·skip
       have hk:=hcut.left (by omega)
       refine rS hF ?_
       refine tT 2 (((la:Nat):Int)<((i:Nat):Int)) ?_
       refine tX 6 (((i:Nat):Int)<((mid:Nat):Int)) ?_
       refine sE [(199,.bool false)] fun a hF=> ?_
       refine tK ?_
       refine cF 199 hF ?_
       refine cN ?_
       refine tK ?_
       refine cS ?_
       rcases Nat.lt_or_ge mid e with hc1|hc1
       rcases Nat.lt_or_ge e lb with hc2|hc2
       ·skip
        refine rS hF ?_
        refine tT 2 (((mid:Nat):Int)<((e:Nat):Int)) ?_
        refine tT 6 (((e:Nat):Int)<((lb:Nat):Int)) ?_
        refine sE [(213,.bool true)] fun a hF=> ?_
        refine tK ?_
        refine cT 213 hF ?_
        refine rS hF ?_
        refine tG 5 (ih _ mid e lb K54 (by omega) own_d hk.len (by omega) (by omega) (by omega) (hcut.sort hk).1 (hcut.sort hk).2) ?_
        rintro _ h61 ⟨K60,hj,ownx,g⟩
        replace g0:=g0.trans g
        clear own_d;have own_d:=ownx;clear ownx g
        refine sE [] fun a hF=> ?_
        refine n0 hF ?_
        exact⟨K60,hcut.done hk hj,own_d,g0⟩
       ·skip
        have hj:=hcut.right hk (by omega)
        refine rS hF ?_
        refine tT 2 (((mid:Nat):Int)<((e:Nat):Int)) ?_
        refine tX 6 (((e:Nat):Int)<((lb:Nat):Int)) ?_
        refine sE [(213,.bool false)] fun a hF=> ?_
        refine tK ?_
        refine cF 213 hF ?_
        refine cN ?_
        refine n0 hF ?_
        exact⟨K54,hcut.done hk hj,own_d,g0⟩
       ·skip
        have hj:=hcut.right hk (by omega)
        refine rS hF ?_
        refine tX 2 (((mid:Nat):Int)<((e:Nat):Int)) ?_
        refine sE [(213,.bool false)] fun a hF=> ?_
        refine tK ?_
        refine cF 213 hF ?_
        refine cN ?_
        refine n0 hF ?_
        exact⟨K54,hcut.done hk hj,own_d,g0⟩
      ·skip
       have hk:=hcut.left (by omega)
       refine rS hF ?_
       refine tX 2 (((la:Nat):Int)<((i:Nat):Int)) ?_
       refine sE [(199,.bool false)] fun a hF=> ?_
       refine tK ?_
       refine cF 199 hF ?_
       refine cN ?_
       refine tK ?_
       refine cS ?_
       rcases Nat.lt_or_ge mid e with hc1|hc1
       rcases Nat.lt_or_ge e lb with hc2|hc2
       ·skip
        refine rS hF ?_
        refine tT 2 (((mid:Nat):Int)<((e:Nat):Int)) ?_
        refine tT 6 (((e:Nat):Int)<((lb:Nat):Int)) ?_
        refine sE [(213,.bool true)] fun a hF=> ?_
        refine tK ?_
        refine cT 213 hF ?_
        refine rS hF ?_
        refine tG 5 (ih _ mid e lb K54 (by omega) own_d hk.len (by omega) (by omega) (by omega) (hcut.sort hk).1 (hcut.sort hk).2) ?_
        rintro _ h63 ⟨K62,hj,ownx,g⟩
        replace g0:=g0.trans g
        clear own_d;have own_d:=ownx;clear ownx g
        refine sE [] fun a hF=> ?_
        refine n0 hF ?_
        exact⟨K62,hcut.done hk hj,own_d,g0⟩
       ·skip
        have hj:=hcut.right hk (by omega)
        refine rS hF ?_
        refine tT 2 (((mid:Nat):Int)<((e:Nat):Int)) ?_
        refine tX 6 (((e:Nat):Int)<((lb:Nat):Int)) ?_
        refine sE [(213,.bool false)] fun a hF=> ?_
        refine tK ?_
        refine cF 213 hF ?_
        refine cN ?_
        refine n0 hF ?_
        exact⟨K54,hcut.done hk hj,own_d,g0⟩
       ·skip
        have hj:=hcut.right hk (by omega)
        refine rS hF ?_
        refine tX 2 (((mid:Nat):Int)<((e:Nat):Int)) ?_
        refine sE [(213,.bool false)] fun a hF=> ?_
        refine tK ?_
        refine cF 213 hF ?_
        refine cN ?_
        refine n0 hF ?_
        exact⟨K54,hcut.done hk hj,own_d,g0⟩
     ·skip
      have hcut:Cut n la lm lb mid i e L L:=⟨hLn,List.Perm.refl _,Idx.refl _ (rtx_none (by omega)),hs1,hs2,ham,hlo3,hhi3⟩
      refine rS hF ?_
      refine tT 2 (((i:Nat):Int)<((lm:Nat):Int)) ?_
      refine tX 6 (((lm:Nat):Int)<((e:Nat):Int)) ?_
      refine sE [(185,.bool false)] fun a hF=> ?_
      refine tK ?_
      refine cF 185 hF ?_
      refine cN ?_
      refine tK ?_
      refine cS ?_
      refine cS ?_
      rcases Nat.lt_or_ge la i with hc1|hc1
      rcases Nat.lt_or_ge i mid with hc2|hc2
      ·skip
       refine rS hF ?_
       refine tT 2 (((la:Nat):Int)<((i:Nat):Int)) ?_
       refine tT 6 (((i:Nat):Int)<((mid:Nat):Int)) ?_
       refine sE [(199,.bool true)] fun a hF=> ?_
       refine tK ?_
       refine cT 199 hF ?_
       refine rS hF ?_
       refine tG 5 (ih _ la i mid L (by omega) own_d hcut.len (by omega) (by omega) (by omega) hcut.r1 hcut.r2) ?_
       rintro _ h65 ⟨K64,hk,ownx,g⟩
       replace g0:=g0.trans g
       clear own_d;have own_d:=ownx;clear ownx g
       refine sE [] fun a hF=> ?_
       refine tK ?_
       refine cS ?_
       rcases Nat.lt_or_ge mid e with hc1|hc1
       rcases Nat.lt_or_ge e lb with hc2|hc2
       ·skip
        refine rS hF ?_
        refine tT 2 (((mid:Nat):Int)<((e:Nat):Int)) ?_
        refine tT 6 (((e:Nat):Int)<((lb:Nat):Int)) ?_
        refine sE [(213,.bool true)] fun a hF=> ?_
        refine tK ?_
        refine cT 213 hF ?_
        refine rS hF ?_
        refine tG 5 (ih _ mid e lb K64 (by omega) own_d hk.len (by omega) (by omega) (by omega) (hcut.sort hk).1 (hcut.sort hk).2) ?_
        rintro _ h67 ⟨K66,hj,ownx,g⟩
        replace g0:=g0.trans g
        clear own_d;have own_d:=ownx;clear ownx g
        refine sE [] fun a hF=> ?_
        refine n0 hF ?_
        exact⟨K66,hcut.done hk hj,own_d,g0⟩
       ·skip
        have hj:=hcut.right hk (by omega)
        refine rS hF ?_
        refine tT 2 (((mid:Nat):Int)<((e:Nat):Int)) ?_
        refine tX 6 (((e:Nat):Int)<((lb:Nat):Int)) ?_
        refine sE [(213,.bool false)] fun a hF=> ?_
        refine tK ?_
        refine cF 213 hF ?_
        refine cN ?_
        refine n0 hF ?_
        exact⟨K64,hcut.done hk hj,own_d,g0⟩
       ·skip
        have hj:=hcut.right hk (by omega)
        refine rS hF ?_
        refine tX 2 (((mid:Nat):Int)<((e:Nat):Int)) ?_
        refine sE [(213,.bool false)] fun a hF=> ?_
        refine tK ?_
        refine cF 213 hF ?_
        refine cN ?_
        refine n0 hF ?_
        exact⟨K64,hcut.done hk hj,own_d,g0⟩
      ·skip
       have hk:=hcut.left (by omega)
       refine rS hF ?_
       refine tT 2 (((la:Nat):Int)<((i:Nat):Int)) ?_
       refine tX 6 (((i:Nat):Int)<((mid:Nat):Int)) ?_
       refine sE [(199,.bool false)] fun a hF=> ?_
       refine tK ?_
       refine cF 199 hF ?_
       refine cN ?_
       refine tK ?_
       refine cS ?_
       rcases Nat.lt_or_ge mid e with hc1|hc1
       rcases Nat.lt_or_ge e lb with hc2|hc2
       ·skip
        refine rS hF ?_
        refine tT 2 (((mid:Nat):Int)<((e:Nat):Int)) ?_
        refine tT 6 (((e:Nat):Int)<((lb:Nat):Int)) ?_
        refine sE [(213,.bool true)] fun a hF=> ?_
        refine tK ?_
        refine cT 213 hF ?_
        refine rS hF ?_
        refine tG 5 (ih _ mid e lb L (by omega) own_d hk.len (by omega) (by omega) (by omega) (hcut.sort hk).1 (hcut.sort hk).2) ?_
        rintro _ h69 ⟨K68,hj,ownx,g⟩
        replace g0:=g0.trans g
        clear own_d;have own_d:=ownx;clear ownx g
        refine sE [] fun a hF=> ?_
        refine n0 hF ?_
        exact⟨K68,hcut.done hk hj,own_d,g0⟩
       ·skip
        have hj:=hcut.right hk (by omega)
        refine rS hF ?_
        refine tT 2 (((mid:Nat):Int)<((e:Nat):Int)) ?_
        refine tX 6 (((e:Nat):Int)<((lb:Nat):Int)) ?_
        refine sE [(213,.bool false)] fun a hF=> ?_
        refine tK ?_
        refine cF 213 hF ?_
        refine cN ?_
        refine n0 hF ?_
        exact⟨L,hcut.done hk hj,own_d,g0⟩
       ·skip
        have hj:=hcut.right hk (by omega)
        refine rS hF ?_
        refine tX 2 (((mid:Nat):Int)<((e:Nat):Int)) ?_
        refine sE [(213,.bool false)] fun a hF=> ?_
        refine tK ?_
        refine cF 213 hF ?_
        refine cN ?_
        refine n0 hF ?_
        exact⟨L,hcut.done hk hj,own_d,g0⟩
      ·skip
       have hk:=hcut.left (by omega)
       refine rS hF ?_
       refine tX 2 (((la:Nat):Int)<((i:Nat):Int)) ?_
       refine sE [(199,.bool false)] fun a hF=> ?_
       refine tK ?_
       refine cF 199 hF ?_
       refine cN ?_
       refine tK ?_
       refine cS ?_
       rcases Nat.lt_or_ge mid e with hc1|hc1
       rcases Nat.lt_or_ge e lb with hc2|hc2
       ·skip
        refine rS hF ?_
        refine tT 2 (((mid:Nat):Int)<((e:Nat):Int)) ?_
        refine tT 6 (((e:Nat):Int)<((lb:Nat):Int)) ?_
        refine sE [(213,.bool true)] fun a hF=> ?_
        refine tK ?_
        refine cT 213 hF ?_
        refine rS hF ?_
        refine tG 5 (ih _ mid e lb L (by omega) own_d hk.len (by omega) (by omega) (by omega) (hcut.sort hk).1 (hcut.sort hk).2) ?_
        rintro _ h71 ⟨K70,hj,ownx,g⟩
        replace g0:=g0.trans g
        clear own_d;have own_d:=ownx;clear ownx g
        refine sE [] fun a hF=> ?_
        refine n0 hF ?_
        exact⟨K70,hcut.done hk hj,own_d,g0⟩
       ·skip
        have hj:=hcut.right hk (by omega)
        refine rS hF ?_
        refine tT 2 (((mid:Nat):Int)<((e:Nat):Int)) ?_
        refine tX 6 (((e:Nat):Int)<((lb:Nat):Int)) ?_
        refine sE [(213,.bool false)] fun a hF=> ?_
        refine tK ?_
        refine cF 213 hF ?_
        refine cN ?_
        refine n0 hF ?_
        exact⟨L,hcut.done hk hj,own_d,g0⟩
       ·skip
        have hj:=hcut.right hk (by omega)
        refine rS hF ?_
        refine tX 2 (((mid:Nat):Int)<((e:Nat):Int)) ?_
        refine sE [(213,.bool false)] fun a hF=> ?_
        refine tK ?_
        refine cF 213 hF ?_
        refine cN ?_
        refine n0 hF ?_
        exact⟨L,hcut.done hk hj,own_d,g0⟩
     ·skip
      have hcut:Cut n la lm lb mid i e L L:=⟨hLn,List.Perm.refl _,Idx.refl _ (rtx_none (by omega)),hs1,hs2,ham,hlo3,hhi3⟩
      refine rS hF ?_
      refine tX 2 (((i:Nat):Int)<((lm:Nat):Int)) ?_
      refine sE [(185,.bool false)] fun a hF=> ?_
      refine tK ?_
      refine cF 185 hF ?_
      refine cN ?_
      refine tK ?_
      refine cS ?_
      refine cS ?_
      rcases Nat.lt_or_ge la i with hc1|hc1
      rcases Nat.lt_or_ge i mid with hc2|hc2
      ·skip
       refine rS hF ?_
       refine tT 2 (((la:Nat):Int)<((i:Nat):Int)) ?_
       refine tT 6 (((i:Nat):Int)<((mid:Nat):Int)) ?_
       refine sE [(199,.bool true)] fun a hF=> ?_
       refine tK ?_
       refine cT 199 hF ?_
       refine rS hF ?_
       refine tG 5 (ih _ la i mid L (by omega) own_d hcut.len (by omega) (by omega) (by omega) hcut.r1 hcut.r2) ?_
       rintro _ h73 ⟨K72,hk,ownx,g⟩
       replace g0:=g0.trans g
       clear own_d;have own_d:=ownx;clear ownx g
       refine sE [] fun a hF=> ?_
       refine tK ?_
       refine cS ?_
       rcases Nat.lt_or_ge mid e with hc1|hc1
       rcases Nat.lt_or_ge e lb with hc2|hc2
       ·skip
        refine rS hF ?_
        refine tT 2 (((mid:Nat):Int)<((e:Nat):Int)) ?_
        refine tT 6 (((e:Nat):Int)<((lb:Nat):Int)) ?_
        refine sE [(213,.bool true)] fun a hF=> ?_
        refine tK ?_
        refine cT 213 hF ?_
        refine rS hF ?_
        refine tG 5 (ih _ mid e lb K72 (by omega) own_d hk.len (by omega) (by omega) (by omega) (hcut.sort hk).1 (hcut.sort hk).2) ?_
        rintro _ h75 ⟨K74,hj,ownx,g⟩
        replace g0:=g0.trans g
        clear own_d;have own_d:=ownx;clear ownx g
        refine sE [] fun a hF=> ?_
        refine n0 hF ?_
        exact⟨K74,hcut.done hk hj,own_d,g0⟩
       ·skip
        have hj:=hcut.right hk (by omega)
        refine rS hF ?_
        refine tT 2 (((mid:Nat):Int)<((e:Nat):Int)) ?_
        refine tX 6 (((e:Nat):Int)<((lb:Nat):Int)) ?_
        refine sE [(213,.bool false)] fun a hF=> ?_
        refine tK ?_
        refine cF 213 hF ?_
        refine cN ?_
        refine n0 hF ?_
        exact⟨K72,hcut.done hk hj,own_d,g0⟩
       ·skip
        have hj:=hcut.right hk (by omega)
        refine rS hF ?_
        refine tX 2 (((mid:Nat):Int)<((e:Nat):Int)) ?_
        refine sE [(213,.bool false)] fun a hF=> ?_
        refine tK ?_
        refine cF 213 hF ?_
        refine cN ?_
        refine n0 hF ?_
        exact⟨K72,hcut.done hk hj,own_d,g0⟩
      ·skip
       have hk:=hcut.left (by omega)
       refine rS hF ?_
       refine tT 2 (((la:Nat):Int)<((i:Nat):Int)) ?_
       refine tX 6 (((i:Nat):Int)<((mid:Nat):Int)) ?_
       refine sE [(199,.bool false)] fun a hF=> ?_
       refine tK ?_
       refine cF 199 hF ?_
       refine cN ?_
       refine tK ?_
       refine cS ?_
       rcases Nat.lt_or_ge mid e with hc1|hc1
       rcases Nat.lt_or_ge e lb with hc2|hc2
       ·skip
        refine rS hF ?_
        refine tT 2 (((mid:Nat):Int)<((e:Nat):Int)) ?_
        refine tT 6 (((e:Nat):Int)<((lb:Nat):Int)) ?_
        refine sE [(213,.bool true)] fun a hF=> ?_
        refine tK ?_
        refine cT 213 hF ?_
        refine rS hF ?_
        refine tG 5 (ih _ mid e lb L (by omega) own_d hk.len (by omega) (by omega) (by omega) (hcut.sort hk).1 (hcut.sort hk).2) ?_
        rintro _ h77 ⟨K76,hj,ownx,g⟩
        replace g0:=g0.trans g
        clear own_d;have own_d:=ownx;clear ownx g
        refine sE [] fun a hF=> ?_
        refine n0 hF ?_
        exact⟨K76,hcut.done hk hj,own_d,g0⟩
       ·skip
        have hj:=hcut.right hk (by omega)
        refine rS hF ?_
        refine tT 2 (((mid:Nat):Int)<((e:Nat):Int)) ?_
        refine tX 6 (((e:Nat):Int)<((lb:Nat):Int)) ?_
        refine sE [(213,.bool false)] fun a hF=> ?_
        refine tK ?_
        refine cF 213 hF ?_
        refine cN ?_
        refine n0 hF ?_
        exact⟨L,hcut.done hk hj,own_d,g0⟩
       ·skip
        have hj:=hcut.right hk (by omega)
        refine rS hF ?_
        refine tX 2 (((mid:Nat):Int)<((e:Nat):Int)) ?_
        refine sE [(213,.bool false)] fun a hF=> ?_
        refine tK ?_
        refine cF 213 hF ?_
        refine cN ?_
        refine n0 hF ?_
        exact⟨L,hcut.done hk hj,own_d,g0⟩
      ·skip
       have hk:=hcut.left (by omega)
       refine rS hF ?_
       refine tX 2 (((la:Nat):Int)<((i:Nat):Int)) ?_
       refine sE [(199,.bool false)] fun a hF=> ?_
       refine tK ?_
       refine cF 199 hF ?_
       refine cN ?_
       refine tK ?_
       refine cS ?_
       rcases Nat.lt_or_ge mid e with hc1|hc1
       rcases Nat.lt_or_ge e lb with hc2|hc2
       ·skip
        refine rS hF ?_
        refine tT 2 (((mid:Nat):Int)<((e:Nat):Int)) ?_
        refine tT 6 (((e:Nat):Int)<((lb:Nat):Int)) ?_
        refine sE [(213,.bool true)] fun a hF=> ?_
        refine tK ?_
        refine cT 213 hF ?_
        refine rS hF ?_
        refine tG 5 (ih _ mid e lb L (by omega) own_d hk.len (by omega) (by omega) (by omega) (hcut.sort hk).1 (hcut.sort hk).2) ?_
        rintro _ h79 ⟨K78,hj,ownx,g⟩
        replace g0:=g0.trans g
        clear own_d;have own_d:=ownx;clear ownx g
        refine sE [] fun a hF=> ?_
        refine n0 hF ?_
        exact⟨K78,hcut.done hk hj,own_d,g0⟩
       ·skip
        have hj:=hcut.right hk (by omega)
        refine rS hF ?_
        refine tT 2 (((mid:Nat):Int)<((e:Nat):Int)) ?_
        refine tX 6 (((e:Nat):Int)<((lb:Nat):Int)) ?_
        refine sE [(213,.bool false)] fun a hF=> ?_
        refine tK ?_
        refine cF 213 hF ?_
        refine cN ?_
        refine n0 hF ?_
        exact⟨L,hcut.done hk hj,own_d,g0⟩
       ·skip
        have hj:=hcut.right hk (by omega)
        refine rS hF ?_
        refine tX 2 (((mid:Nat):Int)<((e:Nat):Int)) ?_
        refine sE [(213,.bool false)] fun a hF=> ?_
        refine tK ?_
        refine cF 213 hF ?_
        refine cN ?_
        refine n0 hF ?_
        exact⟨L,hcut.done hk hj,own_d,g0⟩
theorem sym_all(ad:Option Addr)(cap n:Nat)(hn:n≤1099511627776):∀(k:Nat),∀(h:Heap) (a m b:Nat) (L:List Rec),b - a≤k→Own h (.slice ad n cap) 95 n 39 (rrow L)→L.length =n→a<m→m<b→b≤n→SrtOn L a m→SrtOn L m b→Sat Tryz.prog 140 #[.slice ad n cap,.int .i64 ((a:Nat):Int),.int .i64 ((m:Nat):Int),.int .i64 ((b:Nat):Int),.func (.func 107) #[] #[]] h fun _ h'=>∃M,Mgd n a b L M∧Own h' (.slice ad n cap) 95 n 39 (rrow M)∧Grew (ad.map (fun(x:Addr)=>x.block)) h h'
 |0,_,_,_,_,_,hk,_,_,h1,h2,_,_,_=>by omega
 |k+1,h,a,m,b,L,hk,o,hL,h1,h2,h3,h4,h5=>sym_step h ad cap n a m b L o hL h1 h2 h3 hn h4 h5 fun h a' m' b' L hlt=>sym_all ad cap n hn k h a' m' b' L (by omega)
theorem sym_sat(ad:Option Addr)(cap n:Nat)(hn:n≤1099511627776):∀(h:Heap) (a m b:Nat) (L:List Rec),Own h (.slice ad n cap) 95 n 39 (rrow L)→L.length =n→a<m→m<b→b≤n→SrtOn L a m→SrtOn L m b→Sat Tryz.prog 140 #[.slice ad n cap,.int .i64 ((a:Nat):Int),.int .i64 ((m:Nat):Int),.int .i64 ((b:Nat):Int),.func (.func 107) #[] #[]] h fun _ h'=>∃M,Mgd n a b L M∧Own h' (.slice ad n cap) 95 n 39 (rrow M)∧Grew (ad.map (fun(x:Addr)=>x.block)) h h':=fun h a m b L=>sym_all ad cap n hn (b - a) h a m b L (Nat.le_refl _)
end Go.Proofs.YtegkejcglfgpmaaGreatDoor
end
section
namespace Go.Proofs.YtegkejcglfgpmaaGreatDoor
open Go Go.Lane Go.Sha
noncomputable def b123':Code:=Tryz.f123.body.getD .skip
set_option maxHeartbeats 2000000 in
theorem stable_sat(h:Heap)(ad:Option Addr)(cap n:Nat)(L:List Rec)(own_d:Own h (.slice ad n cap) 95 n 39 (rrow L))(hLn:L.length =n)(hn:n≤1099511627776):Sat Tryz.prog 123 #[.slice ad n cap,.int .i64 ((n:Nat):Int),.func (.func 107) #[] #[]] h fun _ h'=>∃M,M.length =n∧M.Perm L∧SrtOn M 0 n∧Own h' (.slice ad n cap) 95 n 39 (rrow M)∧Grew (ad.map (fun(x:Addr)=>x.block)) h h':=by
 have g0:=Grew.refl (ad.map (fun(x:Addr)=>x.block)) h
 refine sat_in Tryz.func123 63 fun a hF=> ?_
 refine qP [(6,.int .i64 20)] hF fun a hF=> ?_
 refine qP [(7,.int .i64 0),(8,.int .i64 20)] hF fun a hF=> ?_
 refine cS ?_
 refine cB 0 ?_
 refine cL (fun m a h'=>∃a1:Nat,∃M:List Rec,m=n - a1∧(Grew (ad.map (fun(x:Addr)=>x.block)) h h')∧(∃t,a1=t*20)∧(a1≤n)∧(M.length =n)∧(M.Perm L)∧(Blk M 20 0 a1)∧(Own h' (.slice ad n cap) 95 n 39 (rrow M))∧(Fr a 63 [(0,.slice ad n cap),(1,.int .i64 ((n:Nat):Int)),(2,.func (.func 107) #[] #[]),(6,.int .i64 20),(7,.int .i64 ((a1:Nat):Int)),(8,.int .i64 ((a1+20:Nat):Int))])) (n - 0) ⟨0,L,rfl,g0,⟨0,rfl⟩,(by omega),hLn,(List.Perm.refl _),(Blk.nil _ _ _),own_d,hF.to⟩ ?_
 clear hF a
 clear g0
 clear hLn
 clear own_d
 rintro m a h1 ⟨a1,M,rfl,g0,hat,han,hM,hP,hblk,own_d,hF⟩
 obtain⟨t,ht⟩:=hat
 refine cS ?_
 refine qP [(13,.bool (decide (((a1+20:Nat):Int)≤((n:Nat):Int))))] hF fun a hF=> ?_
 refine cJ 13 hF (fun hc2=> ?_) fun hc2=> ?_
 ·skip
  refine cN ?_
  refine tK ?_
  refine cB 1 ?_
  refine qS hF ?_
  refine tG 4 (ins_sat _ ad cap n a1 (a1+20) M own_d hM (by omega) (by omega) (by omega)) ?_
  rintro _ h4 ⟨K3,hM2,hP2,hout,hs,ownx,g⟩
  replace g0:=g0.trans g
  clear own_d;have own_d:=ownx;clear ownx g
  replace hP:=hP2.trans hP;replace hM:=hM2;replace hblk:=hblk.more ht hout hs (by omega);clear hP2 hM2 hout hs
  refine sT [] fun a hF=> ?_
  refine qP [(7,nV (a1+20))] hF fun a hF=> ?_
  refine rS hF ?_
  refine tA 2 (a1+20) 20 ?_
  refine sE [(8,nV ((a1+20)+20))] fun a hF=> ?_
  refine bK ?_
  show ∃m',m'<_∧_
  refine⟨_,?_,(a1+20),K3,rfl,g0,⟨t+1,by omega⟩,(by omega),hM,hP,hblk,own_d,hF.to⟩
  omega
 ·skip
  refine cX 0 (xT (xT (xB ?_)))
  refine tK ?_
  refine qS hF ?_
  refine tG 4 (ins_sat _ ad cap n a1 (n) M own_d hM (by omega) (by omega) (by omega)) ?_
  rintro _ h6 ⟨K5,hM2,hP2,hout,hs,ownx,g⟩
  replace g0:=g0.trans g
  clear own_d;have own_d:=ownx;clear ownx g
  replace hP:=hP2.trans hP;replace hM:=hM2;replace hblk:=hblk.more ht hout hs (by omega);clear hP2 hM2 hout hs
  refine sT [] fun a hF=> ?_
  refine cB 2 ?_
  refine cL (fun m a h'=>∃s:Nat,∃M:List Rec,m=n - s∧(Grew (ad.map (fun(x:Addr)=>x.block)) h h')∧(20≤s)∧(M.length =n)∧(M.Perm L)∧(Blk M s 0 n)∧(Own h' (.slice ad n cap) 95 n 39 (rrow M))∧(Fr a 63 [(0,.slice ad n cap),(1,.int .i64 ((n:Nat):Int)),(2,.func (.func 107) #[] #[]),(6,.int .i64 ((s:Nat):Int))])) (n - 20) ⟨20,K5,rfl,g0,(by omega),hM,hP,hblk,own_d,hF.to⟩ ?_
  clear hF a
  clear g0
  clear hM
  clear hP
  clear hblk
  clear own_d
  rintro m a h7 ⟨s,M,rfl,g0,hs20,hM,hP,hblk,own_d,hF⟩
  refine cS ?_
  refine qP [(30,.bool (decide (((s:Nat):Int)<((n:Nat):Int))))] hF fun a hF=> ?_
  refine cJ 30 hF (fun hc8=> ?_) fun hc8=> ?_
  ·skip
   refine cN ?_
   refine tK ?_
   refine cB 3 ?_
   refine qS hF ?_
   refine t1 1 (.int .i64 ((2*s:Nat):Int)) (.int .i64 (IntKind.i64.wrap (2*((s:Nat):Int)))) (congrArg (Value.int .i64) (w64' (by omega) (by omega) (by omega))) ?_
   refine sT [(7,.int .i64 0),(8,nV (2*s))] fun a hF=> ?_
   refine cS ?_
   refine cB 4 ?_
   have hz:2*s=0+2*s:=(Nat.zero_add _).symm;rw[hz] at hF
   refine cL (fun m a h'=>∃a1:Nat,∃M:List Rec,m=n+2*s - a1∧(Grew (ad.map (fun(x:Addr)=>x.block)) h h')∧(∃t,a1=t*(2*s))∧(a1≤n)∧(M.length =n)∧(M.Perm L)∧(Blk M (2*s) 0 a1)∧(Blk M s a1 n)∧(Own h' (.slice ad n cap) 95 n 39 (rrow M))∧(Fr a 63 [(0,.slice ad n cap),(1,.int .i64 ((n:Nat):Int)),(2,.func (.func 107) #[] #[]),(6,.int .i64 ((s:Nat):Int)),(7,.int .i64 ((a1:Nat):Int)),(8,.int .i64 ((a1+2*s:Nat):Int))])) (n+2*s - 0) ⟨0,M,rfl,g0,⟨0,by rw[Nat.zero_mul]⟩,(by omega),hM,hP,(Blk.nil _ _ _),hblk,own_d,hF.to⟩ ?_
   clear hF a
   clear g0
   clear hM
   clear hP
   clear hblk
   clear own_d
   rintro m a h9 ⟨a1,M,rfl,g0,hat,han,hM,hP,hd,hr,own_d,hF⟩
   obtain⟨t,ht⟩:=hat
   refine cS ?_
   refine qP [(35,.bool (decide (((a1+2*s:Nat):Int)≤((n:Nat):Int))))] hF fun a hF=> ?_
   refine cJ 35 hF (fun hc10=> ?_) fun hc10=> ?_
   ·skip
    refine cN ?_
    refine tK ?_
    refine cB 5 ?_
    refine qS hF ?_
    refine tA 4 a1 s ?_
    obtain⟨hr1,hr2⟩:=hr.two (c:=a1+2*s) ht (by omega) (by omega) (by omega)
    refine tG 7 (sym_sat ad cap n hn _ a1 (a1+s) (a1+2*s) M own_d hM (by omega) (by omega) (by omega) hr1 hr2) ?_
    rintro _ h12 ⟨K11,hm,ownx,g⟩
    replace g0:=g0.trans g
    clear own_d;have own_d:=ownx;clear ownx g
    replace hP:=hm.perm.trans hP;replace hM:=hm.len;clear hr1 hr2
    replace hd:=hd.more ht hm.out hm.srt (by omega);replace hr:=hr.rest (by omega) hm.out;clear hm
    refine sT [] fun a hF=> ?_
    refine qP [(7,nV (a1+2*s))] hF fun a hF=> ?_
    refine rS hF ?_
    refine t1 2 (.int .i64 ((2*s:Nat):Int)) (.int .i64 (IntKind.i64.wrap (2*((s:Nat):Int)))) (congrArg (Value.int .i64) (w64' (by omega) (by omega) (by omega))) ?_
    refine tA 3 (a1+2*s) (2*s) ?_
    refine sE [(8,nV ((a1+2*s)+(2*s)))] fun a hF=> ?_
    refine bK ?_
    show ∃m',m'<_∧_
    refine⟨_,?_,(a1+2*s),K11,rfl,g0,⟨t+1,by rw[ht,Nat.add_mul,Nat.one_mul]⟩,(by omega),hM,hP,hd,hr,own_d,hF.to⟩
    omega
   ·skip
    refine cX 4 (xT (xT (xB ?_)))
    refine tK ?_
    refine cS ?_
    refine qS hF ?_
    refine tA 2 a1 s ?_
    refine sT [(9,nV (a1+s))] fun a hF=> ?_
    refine qP [(54,.bool (decide (((a1+s:Nat):Int)<((n:Nat):Int))))] hF fun a hF=> ?_
    refine cJ 54 hF (fun hc13=> ?_) fun hc13=> ?_
    ·skip
     refine rS hF ?_
     obtain⟨hr1,hr2⟩:=hr.two (c:=n) ht (by omega) (by omega) (by omega)
     refine tG 5 (sym_sat ad cap n hn _ a1 (a1+s) (n) M own_d hM (by omega) (by omega) (by omega) hr1 hr2) ?_
     rintro _ h15 ⟨K14,hm,ownx,g⟩
     replace g0:=g0.trans g
     clear own_d;have own_d:=ownx;clear ownx g
     replace hP:=hm.perm.trans hP;replace hM:=hm.len;clear hr1 hr2
     have hblk2:=hd.more ht hm.out hm.srt (by omega)
     refine sE [] fun a hF=> ?_
     refine tK ?_
     refine rS hF ?_
     refine t1 1 (.int .i64 ((s*2:Nat):Int)) (.int .i64 (IntKind.i64.wrap (((s:Nat):Int)*2))) (congrArg (Value.int .i64) (w64' (by omega) (by omega) (by omega))) ?_
     refine sE [(6,nV (s*2))] fun a hF=> ?_
     refine bK ?_
     show ∃m',m'<_∧_
     refine⟨_,?_,(s*2),K14,rfl,g0,(by omega),hM,hP,(Nat.mul_comm 2 s▸hblk2),own_d,hF.to⟩
     omega
    ·skip
     have hblk2:=hd.more (c:=n) ht (fun _ _=>rfl) (hr.one ht (by omega)) (by omega)
     refine cN ?_
     refine tK ?_
     refine rS hF ?_
     refine t1 1 (.int .i64 ((s*2:Nat):Int)) (.int .i64 (IntKind.i64.wrap (((s:Nat):Int)*2))) (congrArg (Value.int .i64) (w64' (by omega) (by omega) (by omega))) ?_
     refine sE [(6,nV (s*2))] fun a hF=> ?_
     refine bK ?_
     show ∃m',m'<_∧_
     refine⟨_,?_,(s*2),M,rfl,g0,(by omega),hM,hP,(Nat.mul_comm 2 s▸hblk2),own_d,hF.to⟩
     omega
  ·skip
   refine cX 2 (xT (xT (xB ?_)))
   refine n0 hF ?_
   exact⟨M,hM,hP,hblk.all (by omega),own_d,g0⟩
noncomputable def b106':Code:=Tryz.f106.body.getD .skip
theorem sort_all(h:Heap)(ad:Option Addr)(cap n:Nat)(L:List Rec)(own_d:Own h (.slice ad n cap) 95 n 39 (rrow L))(hLn:L.length =n)(hn:n≤1099511627776):Sat Tryz.prog 106 #[.slice ad n cap,.func (.func 107) #[] #[]] h fun _ h'=>∃M,M.length =n∧M.Perm L∧SrtOn M 0 n∧Own h' (.slice ad n cap) 95 n 39 (rrow M)∧Grew (ad.map (fun(x:Addr)=>x.block)) h h':=by
 refine sat_in Tryz.func106 9 fun a hF=> ?_
 refine rS hF ?_
 refine tG 4 (stable_sat _ ad cap n L own_d hLn hn) ?_
 rintro _ h1 ⟨M,hM,hP,hs,ownx,g0⟩
 refine sE [] fun a hF=> ?_
 refine n0 hF ?_
 exact⟨M,hM,hP,hs,ownx,g0⟩
theorem sorts_all:Sorts Tryz.prog 106 (.func (.func 107) #[] #[]) 95 1099511627776:=fun h ad cap n L o hL hn _=>sort_all h ad cap n L o hL hn
end Go.Proofs.YtegkejcglfgpmaaGreatDoor
end
section
namespace Go.Proofs.YtegkejcglfgpmaaGreatDoor
open Go Go.Lane Go.Sha
theorem del_any(h:Heap)(r:Rec)(now:Int)(ok:RecOk h r):Sat Tryz.prog 70 #[.agg (rcs r).toArray,.int .i64 now] h fun v h'=>∃(w:Rec) (z:Int),v= .tuple #[.agg (rcs w).toArray,.int .i64 z]∧(z=0↔delB now r)∧Ext h h':=by
 obtain⟨P,hP,hr,hn⟩:=ok
 obtain⟨x,e,ho,go,ad,n,cap⟩:=r
 simp only at hP hr hn
 subst hP
 cases go with
 |true=>exact(del_gone h x e ho P ad cap now).mono fun v h' ⟨e1,g⟩=>⟨rec0,213,e1,by simp[delB],g⟩
 | false =>
  cases ho with
  |true=>exact(del_held h x e P ad cap now).mono fun v h' ⟨e1,g⟩=>⟨rec0,214,e1,by simp[delB],g⟩
  |false=>
   by_cases hu:e≤now
   ·exact(del_ok h x e P ad cap hr hn now hu).mono fun v h' ⟨e1,g⟩=>⟨⟨x,e,false,true,none,0,0⟩,0,e1,by simp[delB,hu],g⟩
   ·exact(del_soon h x e P ad cap now (by omega)).mono fun v h' ⟨e1,g⟩=>⟨rec0,214,e1,by simp[delB,hu],g⟩
noncomputable def b72:Code:=Tryz.f72.body.getD .skip
set_option maxHeartbeats 1000000 in
theorem due_sat(h:Heap)(L:List Rec)(va:Option Addr)(vc:Nat)(now:Int)(K:Nat)(hsort:Sorts Tryz.prog 106 (.func (.func 107) #[] #[]) 95 K)(hr:Row h (.slice va L.length vc) L.length 39 (rrow L))(hL:L.length ≤1099511627776)(hok:∀r∈L,RecOk h r)(hK:(L.filter (dueB now)).length ≤K):Sat Tryz.prog 72 #[.slice va L.length vc,.int .i64 now] h fun v h'=>∃(M:List Rec) (ad:Option Addr) (cap:Nat),M.Perm (L.filter (dueB now))∧SrtOn M 0 M.length ∧v= .slice ad M.length cap∧Own h' (.slice ad M.length cap) 9 M.length 1 ((ids M).map Value.string)∧(∀k,ad.map (fun(x:Addr)=>x.block)=some k→h.size ≤k)∧Ext h h':=by
 have e0:=Ext.refl h
 have sep:Sep h.size h.size []:=Sep.nil _ _
 refine sat_in Tryz.func72 50 fun a hF=> ?_
 refine qP [] hF fun a hF=> ?_
 refine qP [(5,.slice none 0 0)] hF fun a hF=> ?_
 refine cS ?_
 refine qP [(13,.slice va L.length vc),(14,nV L.length),(15,.int .i64 0)] hF fun a hF=> ?_
 refine cB 0 ?_
 have own_o:Own h (.slice none 0 0) 95 0 39 (rrow []):=Own.nil _ _ _
 have hlo:=e0.size
 replace sep:=sep.none hlo;clear hlo
 refine cL (fun m a h'=>∃i:Nat,∃D:List Rec,∃ad:Option Addr,∃cap:Nat,m=L.length - i∧(Ext h h')∧(i≤L.length)∧((L.take i).filter (dueB now)=D)∧(Own h' (.slice ad D.length cap) 95 D.length 39 (rrow D))∧(Sep h.size h'.size [ad.map (·.block)])∧(Fr a 50 [(1,.int .i64 now),(5,.slice ad D.length cap),(13,.slice va L.length vc),(14,.int .i64 ((L.length :Nat):Int)),(15,.int .i64 ((i:Nat):Int))])) (L.length - 0) ⟨0,[],none,0,rfl,e0,(by omega),rfl,own_o,sep,hF.to⟩ ?_
 clear hF a
 clear e0
 clear own_o
 clear sep
 rintro m a h1 ⟨i,D,ad,cap,rfl,e0,hi,hD,own_o,sep,hF⟩
 refine qP [(16,.bool (decide (((i:Nat):Int)<((L.length :Nat):Int))))] hF fun a hF=> ?_
 refine cS ?_
 refine cJ 16 hF (fun hc2=> ?_) fun hc2=> ?_
 ·skip
  have hia:i<L.length :=by omega
  have hDl:=filt_le hD
  obtain⟨aa,rfl,hcap_aa⟩:=hr.someA (by omega)
  refine cN ?_
  refine tK ?_
  refine cS ?_
  refine cB 1 ?_
  refine qS hF ?_
  refine tI 0 aa L.length 39 i (i*39) ?_
  refine tY 1 i rec0 rcs_len (hr.ext e0) ?_
  refine tN 2 (pV h1.size) ((rc rb0 (0:Int) false false (.slice none 0 0)).toArray) 95 fun h3 g4 m5=> ?_
  replace sep:=sep.nw e0.size m5
  refine tV0 3 (rcs (L.getD i rec0)) m5 fun h6 g7 zq=> ?_
  replace m5:=zq
  refine sT [(7,pV h1.size)] fun a hF=> ?_
  refine qS hF ?_
  refine tO 1 35 m5 ?_
  refine sT [(21,.bool (decide ((0:Int)<((L.getD i rec0).e))))] fun a hF=> ?_
  refine cJ 21 hF (fun hc8=> ?_) fun hc8=> ?_
  ·skip
   have hpos:=hc8
   refine qS hF ?_
   refine tR 0 m5 ?_
   replace e0:=(e0.ext g4).grew g7 (sep.l 0)
   refine tG 2 (del_any _ (L.getD i rec0) now ((hok _ (getD_mem hia)).ext e0)) ?_
   rintro _ h9 ⟨w,z,rfl,hz,g⟩
   replace own_o:=(own_o.ext g4).k g7 (sep.ap 1 0)
   replace sep:=sep.up g7.size
   replace e0:=e0.ext g
   replace own_o:=own_o.ext g
   replace m5:=m5.x g
   replace sep:=sep.up g.size
   clear g
   refine tN 6 (pV h9.size) ((rc rb0 (0:Int) false false (.slice none 0 0)).toArray) 95 fun h10 g11 m12=> ?_
   replace sep:=sep.nw e0.size m12
   refine tV0 7 (rcs w) m12 fun h13 g14 zq=> ?_
   replace m12:=zq
   refine sT [(9,.int .i64 z)] fun a hF=> ?_
   refine qP [(29,.bool (decide (z=(0:Int))))] hF fun a hF=> ?_
   refine cJ 29 hF (fun hc15=> ?_) fun hc15=> ?_
   ·skip
    have hD2:=tf_yes hia hD (dueB_iff.2 ⟨hpos,hz.1 hc15⟩)
    refine rS hF ?_
    replace m5:=(m5.x g11).y g14 (sep.bp 1 0)
    refine tR 1 m5 ?_
    refine tN 2 (.slice (some ⟨h13.size,0,none⟩) 1 1) ((rrow [L.getD i rec0]).toArray) 95 fun h16 g17 m18=> ?_
    replace e0:=(e0.ext g11).grew g14 (sep.l 0)
    replace sep:=(sep.up g14.size).nw e0.size m18
    replace own_o:=((own_o.ext g11).k g14 (sep.ap 3 1)).ext g17
    refine tP 3 ((D++[L.getD i rec0]).length) 104 (rrow (D++[L.getD i rec0])) own_o (Row.blk (n:=1) (sz:=39) (l:=rrow [L.getD i rec0]) m18 rfl) (rrow_one _) (fun ad19 cap20 h21 own_o g22 hb23=> ?_) (ys:=(rrow ([L.getD i rec0]))) (hZ:=by first|rfl|exact List.flatMap_append.symm |simp[rrow])
    replace e0:=e0.ext g17
    have s24:=sep
    replace sep:=sep.sa g22 3 hb23 own_o e0.size;clear hb23
    refine sE [(5,.slice ad19 ((D++[L.getD i rec0]).length) cap20)] fun a hF=> ?_
    refine bK ?_
    refine tK ?_
    refine rS hF ?_
    refine tA 0 i 1 ?_
    refine sE [(15,nV (i+1))] fun a hF=> ?_
    clear m5
    clear m12
    clear m18
    replace e0:=e0.grew g22 (s24.l 3)
    replace sep:=sep.sub (l':=[ad19.map (·.block)]) (.cons _ (.cons _ (.cons _ (.cons_cons _ (.slnil)))))
    show ∃m',m'<_∧_
    refine⟨_,?_,(i+1),(D++[L.getD i rec0]),ad19,cap20,rfl,e0,(by omega),hD2,own_o,sep,hF.to⟩
    omega
   ·skip
    have hD2:=tf_no hia hD (dueB_no (now:=now) (fun hb=>hc15 (hz.2 hb)))
    refine cN ?_
    refine bK ?_
    refine tK ?_
    refine rS hF ?_
    refine tA 0 i 1 ?_
    refine sE [(15,nV (i+1))] fun a hF=> ?_
    clear m5
    clear m12
    replace e0:=(e0.ext g11).grew g14 (sep.l 0)
    replace own_o:=(own_o.ext g11).k g14 (sep.ap 2 0)
    replace sep:=sep.up g14.size
    replace sep:=sep.sub (l':=[ad.map (·.block)]) (.cons _ (.cons _ (.cons_cons _ (.slnil))))
    show ∃m',m'<_∧_
    refine⟨_,?_,(i+1),D,ad,cap,rfl,e0,(by omega),hD2,own_o,sep,hF.to⟩
    omega
  ·skip
   have hD2:=tf_no hia hD (dueB_early (now:=now) hc8)
   refine cN ?_
   refine bK ?_
   refine tK ?_
   refine rS hF ?_
   refine tA 0 i 1 ?_
   refine sE [(15,nV (i+1))] fun a hF=> ?_
   clear m5
   replace e0:=(e0.ext g4).grew g7 (sep.l 0)
   replace own_o:=(own_o.ext g4).k g7 (sep.ap 1 0)
   replace sep:=sep.up g7.size
   replace sep:=sep.sub (l':=[ad.map (·.block)]) (.cons _ (.cons_cons _ (.slnil)))
   show ∃m',m'<_∧_
   refine⟨_,?_,(i+1),D,ad,cap,rfl,e0,(by omega),hD2,own_o,sep,hF.to⟩
   omega
 ·skip
  obtain rfl:i=L.length :=by omega
  rw[List.take_length] at hD
  refine cX 0 (xT (xT (xB ?_)))
  refine tK ?_
  refine qS hF ?_
  have hfl:D.length ≤L.length :=by rw[←hD];exact List.length_filter_le _ _
  refine tG 1 (hsort _ _ _ _ _ own_o rfl (by rw[←hD];exact hK) (by omega)) ?_
  rintro _ h25 ⟨M,hM,hP,hS,ownx,g⟩
  replace e0:=e0.grew g (sep.l 0)
  replace sep:=sep.up g.size
  clear own_o;have own_o:=ownx;clear ownx g
  refine sT [] fun a hF=> ?_
  refine qP [(10,.slice none 0 0)] hF fun a hF=> ?_
  refine cS ?_
  refine qP [(37,.slice ad D.length cap),(38,nV D.length),(39,.int .i64 0)] hF fun a hF=> ?_
  refine cB 2 ?_
  have own_s:Own h25 (.slice none 0 0) 9 0 1 ((ids (M.take 0)).map Value.string):=Own.nil _ _ _
  have hlo:=e0.size
  replace sep:=sep.none hlo;clear hlo
  refine cL (fun m a h'=>∃i:Nat,∃ad2:Option Addr,∃cap2:Nat,m=D.length - i∧(Ext h h')∧(i≤D.length)∧(Own h' (.slice ad2 i cap2) 9 i 1 ((ids (M.take i)).map Value.string))∧(Own h' (.slice ad D.length cap) 95 D.length 39 (rrow M))∧(Sep h.size h'.size [ad2.map (·.block),ad.map (·.block)])∧(Fr a 50 [(10,.slice ad2 i cap2),(37,.slice ad D.length cap),(38,.int .i64 ((D.length :Nat):Int)),(39,.int .i64 ((i:Nat):Int))])) (D.length - 0) ⟨0,none,0,rfl,e0,(by omega),own_s,own_o,sep,hF.to⟩ ?_
  clear hF a
  clear e0
  clear own_s
  clear own_o
  clear sep
  rintro m a h26 ⟨i,ad2,cap2,rfl,e0,hi,own_s,own_o,sep,hF⟩
  refine qP [(40,.bool (decide (((i:Nat):Int)<((D.length :Nat):Int))))] hF fun a hF=> ?_
  refine cS ?_
  refine cJ 40 hF (fun hc27=> ?_) fun hc27=> ?_
  ·skip
   have hia:i<D.length :=by omega
   obtain⟨ab,rfl,hcap_ab⟩:=own_o.someA (by omega)
   refine cN ?_
   refine tK ?_
   refine cS ?_
   refine cB 3 ?_
   refine qS hF ?_
   refine tI 0 ab D.length 39 i (i*39) ?_
   refine tY 1 i rec0 rcs_len (own_o.row) ?_
   refine tN 2 (pV h26.size) ((rc rb0 (0:Int) false false (.slice none 0 0)).toArray) 95 fun h28 g29 m30=> ?_
   replace sep:=sep.nw e0.size m30
   refine tV0 3 (rcs (M.getD i rec0)) m30 fun h31 g32 zq=> ?_
   replace m30:=zq
   refine sT [(12,pV h26.size)] fun a hF=> ?_
   refine rS hF ?_
   refine tO 2 0 m30 ?_
   refine tN 3 (.slice (some ⟨h31.size,0,none⟩) 1 1) #[.string (((M.getD i rec0).b).id)] 9 fun h33 g34 m35=> ?_
   replace e0:=(e0.ext g29).grew g32 (sep.l 0)
   replace sep:=(sep.up g32.size).nw e0.size m35
   replace own_s:=((own_s.ext g29).k g32 (sep.ap 2 1)).ext g34
   refine tP 4 (i+1) 16 ((ids (M.take i)++[((M.getD i rec0).b).id]).map Value.string) own_s (Row.blk (n:=1) (sz:=1) (l:=[((M.getD i rec0).b).id].map Value.string) m35 rfl) (ones_str _) (fun ad36 cap37 h38 own_s g39 hb40=> ?_) (ys:=(([((M.getD i rec0).b).id]).map Value.string))
   replace e0:=e0.ext g34
   have s41:=sep
   replace sep:=sep.sa g39 2 hb40 own_s e0.size;clear hb40
   refine sE [(10,.slice ad36 (i+1) cap37)] fun a hF=> ?_
   refine bK ?_
   refine tK ?_
   refine rS hF ?_
   refine tA 0 i 1 ?_
   refine sE [(39,nV (i+1))] fun a hF=> ?_
   rw[ids_next (by omega)] at own_s
   clear m30
   clear m35
   replace own_o:=(((own_o.ext g29).k g32 (s41.ap 3 1)).ext g34).k g39 (s41.ap 3 2)
   replace e0:=e0.grew g39 (s41.l 2)
   replace sep:=sep.sub (l':=[ad36.map (·.block),(some ab:Option Addr).map (·.block)]) (.cons _ (.cons _ (.cons_cons _ (.cons_cons _ (.slnil)))))
   show ∃m',m'<_∧_
   refine⟨_,?_,(i+1),ad36,cap37,rfl,e0,(by omega),own_s,own_o,sep,hF.to⟩
   omega
  ·skip
   refine cX 2 (xT (xT (xB ?_)))
   refine tK ?_
   refine qP [(4,.slice ad2 i cap2)] hF fun a hF=> ?_
   refine cR ?_
   refine rT 4 (.slice ad2 i cap2) hF ?_
   obtain rfl:i=D.length :=by omega
   rw[←hM,List.take_length] at own_s
   rw[←hM]
   exact⟨M,ad2,cap2,hD▸hP,by rw[hM];exact hS,rfl,own_s,sep.low 0 rfl,e0⟩
end Go.Proofs.YtegkejcglfgpmaaGreatDoor
end
section
namespace Go.Proofs.YtegkejcglfgpmaaGreatDoor
open Go Go.Lane Go.Sha
noncomputable def b37:Code:=Tryz.f37.body.getD .skip
theorem leaves_sat{W:Nat→Prop}(h:Heap)(mb mp:Nat)(M:Md)(L:List Ent)(ck:Nat)(ea:Option Addr)(ec:Nat)(es:List Value)(md:ModA W h mb mp M L ck ea ec es)(kt:Ktab h)(hE:M.E.length ≤1099511627):Sat Tryz.prog 37 #[.pointer (some ⟨mb,0,none⟩)] h fun v h'=>∃ad cap,v= .slice ad M.E.length cap∧Own h' (.slice ad M.E.length cap) 39 M.E.length 32 (hcs (ledH M.E))∧(∀k,ad.map (fun(x:Addr)=>x.block)=some k→h.size ≤k)∧Ext h h':=by
 have hm:=md.hm
 have hp:=md.hp
 have e0:=Ext.refl h
 have h0s:=kt.lt
 have sep:Sep h.size h.size []:=Sep.nil _ _
 refine sat_in Tryz.func37 22 fun a hF=> ?_
 refine qP [] hF fun a hF=> ?_
 refine qP [(3,.slice none 0 0)] hF fun a hF=> ?_
 refine cS ?_
 refine qS hF ?_
 refine tO 3 1 (e0.blk hm) ?_
 refine sT [(9,.slice ea M.E.length ec),(10,nV M.E.length),(11,.int .i64 0)] fun a hF=> ?_
 refine cB 0 ?_
 have own_o:Own h (.slice none 0 0) 39 0 32 (hcs (ledH (M.E.take 0))):=Own.nil _ _ _
 have hlo:=e0.size
 replace sep:=sep.none hlo;clear hlo
 refine cL (fun m a h'=>∃k:Nat,∃ad:Option Addr,∃cap:Nat,m=M.E.length - k∧(Ext h h')∧(Ktab h')∧(k≤M.E.length)∧(Own h' (.slice ad k cap) 39 k 32 (hcs (ledH (M.E.take k))))∧(Sep h.size h'.size [ad.map (·.block)])∧(Fr a 22 [(3,.slice ad k cap),(9,.slice ea M.E.length ec),(10,.int .i64 ((M.E.length :Nat):Int)),(11,.int .i64 ((k:Nat):Int))])) (M.E.length - 0) ⟨0,none,0,rfl,e0,kt,(by omega),own_o,sep,hF.to⟩ ?_
 clear hF a
 clear e0
 clear kt
 clear own_o
 clear sep
 rintro m a h1 ⟨k,ad,cap,rfl,e0,kt,hk,own_o,sep,hF⟩
 refine qP [(12,.bool (decide (((k:Nat):Int)<((M.E.length :Nat):Int))))] hF fun a hF=> ?_
 refine cS ?_
 refine cJ 12 hF (fun hc2=> ?_) fun hc2=> ?_
 ·skip
  have hkn:k<M.E.length :=by omega
  obtain⟨e,he⟩:∃e,M.E[k]? =some e:=⟨_,List.getElem?_eq_getElem hkn⟩
  obtain⟨hel,xa,xc,hes,hrx⟩:=md.en.2 k e he
  obtain⟨aa,rfl,hcap_aa⟩:=md.er.1.1.someA (by omega)
  refine cN ?_
  refine tK ?_
  refine cS ?_
  refine cB 1 ?_
  refine qS hF ?_
  refine tI 0 aa M.E.length 1 k k ?_
  refine tC 1 (.slice xa e.length xc) (Calm.load (T:=32) (p:=(Addr.add aa k)) (by kernel_rfl) (Loads.one (k:=1) (by kernel_rfl) ((md.er.1.1.ext e0).cells _ _ hes))) ?_
  refine sT [(5,.slice xa e.length xc)] fun a hF=> ?_
  refine rS hF ?_
  refine tG 2 (leaf_sat _ e xa xc (hrx.1.1.ext e0) (hrx.1.1.ext e0).ltS kt (by omega)) ?_
  rintro _ h4 ⟨rfl,g3⟩
  refine tF 3 (Does.newHs (L:=[leafH e]) (t:=45) (E:=39) (by_:=32) (n:=1) (by kernel_rfl) (by kernel_rfl) (All32.cons (leaf_len _) All32.nil) rfl (by decide) (by decide)) ?_
  rintro _ h5 ⟨rfl,hh⟩
  have g6:Ext h4 h5:=push_ext hh
  have m7:h5[h4.size]? =some (.cells (hcs [leafH e]).toArray 39):=push_at hh
  clear hh
  replace e0:=e0.ext g3
  have hlo:=e0.size
  replace sep:=sep.up g3.size
  have sepo:=sep
  replace sep:=sep.up g6.size
  replace sep:=sepo.new hlo (blk_lt m7)
  clear sepo hlo
  replace own_o:=(own_o.ext g3).ext g6
  refine tP 4 (k+1) 32 (hcs (ledH (M.E.take k)++[leafH e])) own_o (hrow1 (leaf_len _) m7) (ones_hcs _) (fun ad8 cap9 h10 own_o g11 hb12=> ?_) (ys:=(hcs ([leafH e]))) (hZ:=by first|rfl|exact(hcs_append _ _).symm |simp[hcs_append])
  replace e0:=e0.ext g6
  have s13:=sep
  replace sep:=sep.sa g11 1 hb12 own_o e0.size;clear hb12
  refine sE [(3,.slice ad8 (k+1) cap9)] fun a hF=> ?_
  refine bK ?_
  refine tK ?_
  refine rS hF ?_
  refine tA 0 k 1 ?_
  refine sE [(11,nV (k+1))] fun a hF=> ?_
  rw[ledH_next he] at own_o
  clear m7
  replace kt:=((kt.ext g3).ext g6).grew g11 (s13.zero 1 rfl h0s)
  replace e0:=e0.grew g11 (s13.l 1)
  replace sep:=sep.sub (l':=[ad8.map (·.block)]) (.cons _ (.cons_cons _ (.slnil)))
  show ∃m',m'<_∧_
  refine⟨_,?_,(k+1),ad8,cap9,rfl,e0,kt,(by omega),own_o,sep,hF.to⟩
  omega
 ·skip
  refine cX 0 (xT (xT (xB ?_)))
  refine tK ?_
  refine qP [(2,.slice ad k cap)] hF fun a hF=> ?_
  refine cR ?_
  refine rT 2 (.slice ad k cap) hF ?_
  obtain rfl:k=M.E.length :=by omega
  rw[List.take_length] at own_o
  exact⟨ad,cap,rfl,own_o,sep.low 0 rfl,e0⟩
noncomputable def b35:Code:=Tryz.f35.body.getD .skip
theorem recok0{h h2:Heap}{M:Md}{oaf:Ent→OA}{L D:List Ent}(hg:∀x∈L,Holds3 h M oaf x)(hP:D.Perm L){r:Rec}(hr:r∈D.map (rcG oaf)):RecOk h2 r:=by
 obtain⟨x,hx,rfl⟩:=List.mem_map.1 hr
 exact⟨[],rfl,(hg x (hP.mem_iff.1 hx)).rc.zero rfl,Nat.zero_le _⟩
set_option maxHeartbeats 1000000 in
theorem ids_all{W:Nat→Prop}(h:Heap)(mb mp:Nat)(M:Md)(L:List Ent)(ck:Nat)(ea:Option Addr)(ec:Nat)(es:List Value)(md:ModA W h mb mp M L ck ea ec es)(hE:M.E.length ≤1099511627):Sat Tryz.prog 35 #[.pointer (some ⟨mb,0,none⟩),.bool false] h fun v h'=>∃ad cap,v= .slice ad (idsM M).length cap∧Own h' (.slice ad (idsM M).length cap) 9 (idsM M).length 1 ((idsM M).map Value.string)∧(∀k,ad.map (fun(x:Addr)=>x.block)=some k→h.size ≤k)∧Ext h h':=by
 have hm:=md.hm
 have hp:=md.hp
 obtain⟨oaf,hg⟩:=md.choose
 have hLn:=md.ln
 have e0:=Ext.refl h
 have sep:Sep h.size h.size []:=Sep.nil _ _
 refine sat_in Tryz.func35 42 fun a hF=> ?_
 refine qP [] hF fun a hF=> ?_
 refine qP [(5,.slice none 0 0)] hF fun a hF=> ?_
 refine qP [(6,.slice none 0 0)] hF fun a hF=> ?_
 refine cS ?_
 refine qS hF ?_
 refine tO 3 0 (e0.blk hm) ?_
 refine tF 4 (Does.range (t:=81) (k:=9) (el:=101) (by kernel_rfl) (by kernel_rfl) (e0.blk hp)) ?_
 rintro _ h1 ⟨rfl,hh⟩
 have g:=push_ext hh
 have hit:=push_at hh
 have hlo:=e0.size
 have sepo:=sep
 replace e0:=e0.ext g
 replace sep:=sep.up g.size
 replace sep:=sepo.new hlo (blk_lt hit)
 clear sepo hlo hh g
 refine sT [(13,pV h.size)] fun a hF=> ?_
 refine cB 0 ?_
 have own_o:Own h1 (.slice none 0 0) 95 0 39 (rrow (([]:List Ent).map (rcG oaf))):=Own.nil _ _ _
 have own_s:Own h1 (.slice none 0 0) 9 0 1 ((live (([]:List Ent).map (rcG oaf))).map Value.string):=Own.nil _ _ _
 have hlo:=e0.size
 replace sep:=(sep.none hlo).none hlo;clear hlo
 refine cL (fun m a h'=>∃D:List Ent,∃R:List Ent,∃ad:Option Addr,∃cap:Nat,∃ad2:Option Addr,∃cap2:Nat,m=R.length ∧(Ext h h')∧((D++R).Perm L)∧(h'[h.size]? =some (itr mp ck D))∧(Own h' (.slice ad ((D.map (rcG oaf)).length) cap) 95 ((D.map (rcG oaf)).length) 39 (rrow (D.map (rcG oaf))))∧(Own h' (.slice ad2 ((live (D.map (rcG oaf))).length) cap2) 9 ((live (D.map (rcG oaf))).length) 1 ((live (D.map (rcG oaf))).map Value.string))∧(Sep h.size h'.size [ad2.map (·.block),ad.map (·.block),some h.size])∧(Fr a 42 [(0,.pointer (some ⟨mb,0,none⟩)),(1,.bool false),(5,.slice ad ((D.map (rcG oaf)).length) cap),(6,.slice ad2 ((live (D.map (rcG oaf))).length) cap2),(13,.pointer (some ⟨h.size,0,none⟩))])) (L.length) ⟨[],L,none,0,none,0,rfl,e0,(List.Perm.refl _),hit,own_o,own_s,sep,hF.to⟩ ?_
 clear hF a
 clear e0
 clear hit
 clear own_o
 clear own_s
 clear sep
 rintro m a h2 ⟨D,R,ad,cap,ad2,cap2,rfl,e0,hP,hit,own_o,own_s,sep,hF⟩
 refine cS ?_
 rcases(by cases R<;>simp:R=[]∨R≠[]) with hR|hR
 ·skip
  refine rS hF ?_
  refine tC 0 (.tuple #[.bool false]) (nextNil (by kernel_rfl) hit (e0.blk hp) hP md.bo hR) ?_
  refine sE [(15,.bool false)] fun a hF=> ?_
  refine tK ?_
  refine cS ?_
  refine cF 15 hF ?_
  refine cX 0 (xT (xT (xB ?_)))
  refine tK ?_
  refine cS ?_
  refine qP [(32,.bool false)] hF fun a hF=> ?_
  refine cF 32 hF ?_
  refine cN ?_
  refine tK ?_
  refine qS hF ?_
  subst hR
  rw[List.append_nil] at hP
  have hen:=md.enum hg hP
  have hDl:=hP.length_eq
  have hlv:=live_le (D.map (rcG oaf))
  rw[List.length_map] at hlv
  refine tG 1 (sortS_sat _ _ _ _ (live (D.map (rcG oaf))) own_s rfl (by omega)) ?_
  rintro _ h3 ⟨ownx,g⟩
  replace e0:=e0.grew g (sep.l 0)
  replace own_o:=own_o.k g (sep.ap 1 0)
  replace hit:=g.blk hit (sep.bp 2 0)
  replace sep:=sep.up g.size
  clear own_s;have own_s:=ownx;clear ownx g
  refine sT [] fun a hF=> ?_
  refine qP [(4,.slice ad2 ((live (D.map (rcG oaf))).length) cap2)] hF fun a hF=> ?_
  refine cR ?_
  refine rT 4 (.slice ad2 ((live (D.map (rcG oaf))).length) cap2) hF ?_
  rw[←idsM_eq hen] at own_s
  have hil:(live (D.map (rcG oaf))).length =(idsM M).length :=by rw[idsM_eq hen];unfold srt;rw[List.length_mergeSort]
  rw[hil] at own_s
  exact⟨ad2,cap2,by rw[hil],own_s,sep.low 0 rfl,e0⟩
 ·skip
  refine rS hF ?_
  refine tF 0 (nextCons (by kernel_rfl) hit (e0.blk hp) hP md.bo hR) ?_
  rintro _ h4 ⟨x,R',hP2,hRl,hxL,rfl,hh⟩
  obtain⟨hit2,gi⟩:=itr_put hh hit
  replace e0:=e0.grew gi (sep.l 2)
  replace own_s:=own_s.k gi (sep.ap 0 2)
  replace own_o:=own_o.k gi (sep.ap 1 2)
  replace hit:=hit
  replace sep:=sep.up gi.size
  clear hit;have hit:=hit2;clear hit2 hh gi
  have hh3:=hg x hxL
  have hDl:D.length <L.length :=by have:=hP2.length_eq;simp at this;omega
  refine sE [(15,.bool true)] fun a hF=> ?_
  refine tK ?_
  refine cS ?_
  refine cT 15 hF ?_
  refine cN ?_
  refine tK ?_
  refine cB 1 ?_
  refine qS hF ?_
  refine tC 0 (.tuple #[.string x.1,.agg (obx ((rcG oaf x).b) ((rcG oaf x).e) ((rcG oaf x).ho) ((rcG oaf x).go) (.slice (rcG oaf x).ad ((rcG oaf x).n) ((rcG oaf x).cap)) (.slice (oaf x).ba ((oaf x).o.dt.length) ((oaf x).bc))).toArray]) (entryV (by kernel_rfl) hit (e0.blk hp) hxL md.bo hh3.hv) ?_
  refine tN 3 (pV h4.size) ((obx rb0 (0:Int) false false (.slice none 0 0) (.slice none 0 0)).toArray) 101 fun h5 g6 m7=> ?_
  replace sep:=sep.nw e0.size m7
  refine tV0 5 (obx ((rcG oaf x).b) ((rcG oaf x).e) ((rcG oaf x).ho) ((rcG oaf x).go) (.slice (rcG oaf x).ad ((rcG oaf x).n) ((rcG oaf x).cap)) (.slice (oaf x).ba ((oaf x).o.dt.length) ((oaf x).bc))) m7 fun h8 g9 zq=> ?_
  replace m7:=zq
  refine sT [(7,.string x.1),(8,pV h4.size)] fun a hF=> ?_
  refine qS hF ?_
  refine tQ 2 0 (rc ((rcG oaf x).b) ((rcG oaf x).e) ((rcG oaf x).ho) ((rcG oaf x).go) (.slice (rcG oaf x).ad ((rcG oaf x).n) ((rcG oaf x).cap))) m7 ?_
  refine tN 3 (.slice (some ⟨h8.size,0,none⟩) 1 1) ((rrow [(rcG oaf x)]).toArray) 95 fun h10 g11 m12=> ?_
  replace e0:=(e0.ext g6).grew g9 (sep.l 0)
  replace sep:=(sep.up g9.size).nw e0.size m12
  replace own_o:=((own_o.ext g6).k g9 (sep.ap 3 1)).ext g11
  refine tP 4 ((D.map (rcG oaf)++[(rcG oaf x)]).length) 104 (rrow (D.map (rcG oaf)++[(rcG oaf x)])) own_o (Row.blk (n:=1) (sz:=39) (l:=rrow [(rcG oaf x)]) m12 rfl) (rrow_one _) (fun ad13 cap14 h15 own_o g16 hb17=> ?_) (ys:=(rrow ([(rcG oaf x)]))) (hl:=(by unfold maxLen;rw[List.length_map];omega)) (hb:=(by rw[List.length_map];omega)) (hZ:=by first|rfl|exact List.flatMap_append.symm |simp[rrow])
  replace e0:=e0.ext g11
  have s18:=sep
  replace sep:=sep.sa g16 3 hb17 own_o e0.size;clear hb17
  rw[recs_snoc] at own_o
  refine sT [(5,.slice ad13 ((D.map (rcG oaf)++[(rcG oaf x)]).length) cap14)] fun a hF=> ?_
  have hcan:((D.map (rcG oaf)++[(rcG oaf x)]).length :Nat)=((D++[x]).map (rcG oaf)).length :=by first| (simp;done)| (simp;omega)
  rw[hcan] at hF;clear hcan
  refine qS hF ?_
  replace m7:=(m7.x g11).y g16 (s18.bp 1 3)
  refine tO 2 37 m7 ?_
  refine sT [(27,.bool (!((rcG oaf x).go)))] fun a hF=> ?_
  refine cC 27 (!((rcG oaf x).go)) hF (fun hc19=> ?_) (fun hc19=> ?_)
  ·skip
   replace hc19:(rcG oaf x).go =false:=by simpa using hc19
   refine rS hF ?_
   refine tN 2 (.slice (some ⟨h15.size,0,none⟩) 1 1) #[.string x.1] 9 fun h20 g21 m22=> ?_
   replace e0:=e0.grew g16 (s18.l 3)
   replace sep:=sep.nw e0.size m22
   have hlv:=live_le (D.map (rcG oaf))
   rw[List.length_map] at hlv
   replace own_s:=((((own_s.ext g6).k g9 (s18.ap 2 1)).ext g11).k g16 (s18.ap 2 3)).ext g21
   refine tP 3 ((live (D.map (rcG oaf))++[x.1]).length) 16 ((live (D.map (rcG oaf))++[x.1]).map Value.string) own_s (Row.blk (n:=1) (sz:=1) (l:=[x.1].map Value.string) m22 rfl) (ones_str _) (fun ad23 cap24 h25 own_s g26 hb27=> ?_) (ys:=(([x.1]).map Value.string))
   replace e0:=e0.ext g21
   have s28:=sep
   replace sep:=sep.sa g26 3 hb27 own_s e0.size;clear hb27
   have hlo3:live (D.map (rcG oaf))++[x.1]=live ((D++[x]).map (rcG oaf)):=by rw[live_on hc19,hh3.id]
   rw[hlo3] at own_s
   refine sE [(6,.slice ad23 ((live (D.map (rcG oaf))++[x.1]).length) cap24)] fun a hF=> ?_
   have hcan:((live (D.map (rcG oaf))++[x.1]).length :Nat)=(live ((D++[x]).map (rcG oaf))).length :=by first| (rw[←hlo3])| (simp;done)| (simp;omega)
   rw[hcan] at hF;clear hcan
   refine bK ?_
   clear m7
   clear m12
   clear m22
   replace hit:=g26.blk (g21.blk (g16.blk (g11.blk (g9.blk (g6.blk hit) (s18.bp 4 1))) (s18.bp 4 3))) (s28.bp 5 3)
   replace own_o:=(own_o.ext g21).k g26 (s28.ap 4 3)
   replace e0:=e0.grew g26 (s28.l 3)
   replace sep:=sep.sub (l':=[ad23.map (·.block),ad13.map (·.block),some h.size]) (.cons _ (.cons _ (.cons _ (.cons_cons _ (.cons_cons _ (.cons_cons _ (.slnil)))))))
   show ∃m',m'<_∧_
   refine⟨_,?_,(D++[x]),R',ad13,cap14,ad23,cap24,rfl,e0,hP2,hit,own_o,own_s,sep,hF.to⟩
   omega
  ·skip
   replace hc19:(rcG oaf x).go =true:=by simpa using hc19
   replace own_s:=(((own_s.ext g6).k g9 (s18.ap 2 1)).ext g11).k g16 (s18.ap 2 3)
   rw[←live_go hc19] at own_s
   rw[←live_go hc19] at hF
   refine cN ?_
   refine bK ?_
   clear m7
   clear m12
   replace hit:=g16.blk (g11.blk (g9.blk (g6.blk hit) (s18.bp 4 1))) (s18.bp 4 3)
   replace e0:=e0.grew g16 (s18.l 3)
   replace sep:=sep.sub (l':=[ad2.map (·.block),ad13.map (·.block),some h.size]) (.cons _ (.cons _ (.cons_cons _ (.cons_cons _ (.cons_cons _ (.slnil))))))
   show ∃m',m'<_∧_
   refine⟨_,?_,(D++[x]),R',ad13,cap14,ad2,cap2,rfl,e0,hP2,hit,own_o,own_s,sep,hF.to⟩
   omega
set_option maxHeartbeats 1000000 in
theorem ids_due{W:Nat→Prop}(h:Heap)(mb mp:Nat)(M:Md)(L:List Ent)(ck:Nat)(ea:Option Addr)(ec:Nat)(es:List Value)(md:ModA W h mb mp M L ck ea ec es)(hE:M.E.length ≤1099511627):Sat Tryz.prog 35 #[.pointer (some ⟨mb,0,none⟩),.bool true] h fun v h'=>∃ad cap,v= .slice ad (dueM M).length cap∧Own h' (.slice ad (dueM M).length cap) 9 (dueM M).length 1 ((dueM M).map Value.string)∧(∀k,ad.map (fun(x:Addr)=>x.block)=some k→h.size ≤k)∧Ext h h':=by
 have hm:=md.hm
 have hp:=md.hp
 obtain⟨oaf,hg⟩:=md.choose
 have hLn:=md.ln
 have e0:=Ext.refl h
 have sep:Sep h.size h.size []:=Sep.nil _ _
 refine sat_in Tryz.func35 42 fun a hF=> ?_
 refine qP [] hF fun a hF=> ?_
 refine qP [(5,.slice none 0 0)] hF fun a hF=> ?_
 refine qP [(6,.slice none 0 0)] hF fun a hF=> ?_
 refine cS ?_
 refine qS hF ?_
 refine tO 3 0 (e0.blk hm) ?_
 refine tF 4 (Does.range (t:=81) (k:=9) (el:=101) (by kernel_rfl) (by kernel_rfl) (e0.blk hp)) ?_
 rintro _ h1 ⟨rfl,hh⟩
 have g:=push_ext hh
 have hit:=push_at hh
 have hlo:=e0.size
 have sepo:=sep
 replace e0:=e0.ext g
 replace sep:=sep.up g.size
 replace sep:=sepo.new hlo (blk_lt hit)
 clear sepo hlo hh g
 refine sT [(13,pV h.size)] fun a hF=> ?_
 refine cB 0 ?_
 have own_o:Own h1 (.slice none 0 0) 95 0 39 (rrow (([]:List Ent).map (rcG oaf))):=Own.nil _ _ _
 have own_s:Own h1 (.slice none 0 0) 9 0 1 ((live (([]:List Ent).map (rcG oaf))).map Value.string):=Own.nil _ _ _
 have hlo:=e0.size
 replace sep:=(sep.none hlo).none hlo;clear hlo
 refine cL (fun m a h'=>∃D:List Ent,∃R:List Ent,∃ad:Option Addr,∃cap:Nat,∃ad2:Option Addr,∃cap2:Nat,m=R.length ∧(Ext h h')∧((D++R).Perm L)∧(h'[h.size]? =some (itr mp ck D))∧(Own h' (.slice ad ((D.map (rcG oaf)).length) cap) 95 ((D.map (rcG oaf)).length) 39 (rrow (D.map (rcG oaf))))∧(Own h' (.slice ad2 ((live (D.map (rcG oaf))).length) cap2) 9 ((live (D.map (rcG oaf))).length) 1 ((live (D.map (rcG oaf))).map Value.string))∧(Sep h.size h'.size [ad2.map (·.block),ad.map (·.block),some h.size])∧(Fr a 42 [(0,.pointer (some ⟨mb,0,none⟩)),(1,.bool true),(5,.slice ad ((D.map (rcG oaf)).length) cap),(6,.slice ad2 ((live (D.map (rcG oaf))).length) cap2),(13,.pointer (some ⟨h.size,0,none⟩))])) (L.length) ⟨[],L,none,0,none,0,rfl,e0,(List.Perm.refl _),hit,own_o,own_s,sep,hF.to⟩ ?_
 clear hF a
 clear e0
 clear hit
 clear own_o
 clear own_s
 clear sep
 rintro m a h2 ⟨D,R,ad,cap,ad2,cap2,rfl,e0,hP,hit,own_o,own_s,sep,hF⟩
 refine cS ?_
 rcases(by cases R<;>simp:R=[]∨R≠[]) with hR|hR
 ·skip
  refine rS hF ?_
  refine tC 0 (.tuple #[.bool false]) (nextNil (by kernel_rfl) hit (e0.blk hp) hP md.bo hR) ?_
  refine sE [(15,.bool false)] fun a hF=> ?_
  refine tK ?_
  refine cS ?_
  refine cF 15 hF ?_
  refine cX 0 (xT (xT (xB ?_)))
  refine tK ?_
  refine cS ?_
  refine qP [(32,.bool true)] hF fun a hF=> ?_
  refine cT 32 hF ?_
  refine qS hF ?_
  refine tO 4 2 (e0.blk hm) ?_
  subst hR
  rw[List.append_nil] at hP
  have hen:=md.enum hg hP
  have hDl:=hP.length_eq
  have hlv:=live_le (D.map (rcG oaf))
  rw[List.length_map] at hlv
  have hse:=e0.size
  refine tG 5 (due_sat _ (D.map (rcG oaf)) _ _ M.t 1099511627776 sorts_all own_o.row (by rw[List.length_map];omega) (fun r hr=>recok0 hg hP hr) (Nat.le_trans (List.length_filter_le _ _) (by rw[List.length_map];omega))) ?_
  rintro _ h5 ⟨M2,ad3,cap4,hPM,hSM,rfl,own_d,hge,g⟩
  replace e0:=e0.ext g
  replace own_s:=own_s.ext g
  replace own_o:=own_o.ext g
  replace hit:=g.blk hit
  replace sep:=sep.up g.size
  refine sT [(4,.slice ad3 M2.length cap4)] fun a hF=> ?_
  refine cR (yT ?_)
  refine rT 4 (.slice ad3 M2.length cap4) hF ?_
  have hdm:=dueM_eq hen hPM hSM
  have hdl:M2.length =(dueM M).length :=by rw[hdm];unfold ids;rw[List.length_map]
  rw[hdl,←hdm] at own_d
  exact⟨ad3,cap4,by rw[hdl],own_d,fun k e=>Nat.le_trans hse (hge k e),e0⟩
 ·skip
  refine rS hF ?_
  refine tF 0 (nextCons (by kernel_rfl) hit (e0.blk hp) hP md.bo hR) ?_
  rintro _ h6 ⟨x,R',hP2,hRl,hxL,rfl,hh⟩
  obtain⟨hit2,gi⟩:=itr_put hh hit
  replace e0:=e0.grew gi (sep.l 2)
  replace own_s:=own_s.k gi (sep.ap 0 2)
  replace own_o:=own_o.k gi (sep.ap 1 2)
  replace hit:=hit
  replace sep:=sep.up gi.size
  clear hit;have hit:=hit2;clear hit2 hh gi
  have hh3:=hg x hxL
  have hDl:D.length <L.length :=by have:=hP2.length_eq;simp at this;omega
  refine sE [(15,.bool true)] fun a hF=> ?_
  refine tK ?_
  refine cS ?_
  refine cT 15 hF ?_
  refine cN ?_
  refine tK ?_
  refine cB 1 ?_
  refine qS hF ?_
  refine tC 0 (.tuple #[.string x.1,.agg (obx ((rcG oaf x).b) ((rcG oaf x).e) ((rcG oaf x).ho) ((rcG oaf x).go) (.slice (rcG oaf x).ad ((rcG oaf x).n) ((rcG oaf x).cap)) (.slice (oaf x).ba ((oaf x).o.dt.length) ((oaf x).bc))).toArray]) (entryV (by kernel_rfl) hit (e0.blk hp) hxL md.bo hh3.hv) ?_
  refine tN 3 (pV h6.size) ((obx rb0 (0:Int) false false (.slice none 0 0) (.slice none 0 0)).toArray) 101 fun h7 g8 m9=> ?_
  replace sep:=sep.nw e0.size m9
  refine tV0 5 (obx ((rcG oaf x).b) ((rcG oaf x).e) ((rcG oaf x).ho) ((rcG oaf x).go) (.slice (rcG oaf x).ad ((rcG oaf x).n) ((rcG oaf x).cap)) (.slice (oaf x).ba ((oaf x).o.dt.length) ((oaf x).bc))) m9 fun h10 g11 zq=> ?_
  replace m9:=zq
  refine sT [(7,.string x.1),(8,pV h6.size)] fun a hF=> ?_
  refine qS hF ?_
  refine tQ 2 0 (rc ((rcG oaf x).b) ((rcG oaf x).e) ((rcG oaf x).ho) ((rcG oaf x).go) (.slice (rcG oaf x).ad ((rcG oaf x).n) ((rcG oaf x).cap))) m9 ?_
  refine tN 3 (.slice (some ⟨h10.size,0,none⟩) 1 1) ((rrow [(rcG oaf x)]).toArray) 95 fun h12 g13 m14=> ?_
  replace e0:=(e0.ext g8).grew g11 (sep.l 0)
  replace sep:=(sep.up g11.size).nw e0.size m14
  replace own_o:=((own_o.ext g8).k g11 (sep.ap 3 1)).ext g13
  refine tP 4 ((D.map (rcG oaf)++[(rcG oaf x)]).length) 104 (rrow (D.map (rcG oaf)++[(rcG oaf x)])) own_o (Row.blk (n:=1) (sz:=39) (l:=rrow [(rcG oaf x)]) m14 rfl) (rrow_one _) (fun ad15 cap16 h17 own_o g18 hb19=> ?_) (ys:=(rrow ([(rcG oaf x)]))) (hl:=(by unfold maxLen;rw[List.length_map];omega)) (hb:=(by rw[List.length_map];omega)) (hZ:=by first|rfl|exact List.flatMap_append.symm |simp[rrow])
  replace e0:=e0.ext g13
  have s20:=sep
  replace sep:=sep.sa g18 3 hb19 own_o e0.size;clear hb19
  rw[recs_snoc] at own_o
  refine sT [(5,.slice ad15 ((D.map (rcG oaf)++[(rcG oaf x)]).length) cap16)] fun a hF=> ?_
  have hcan:((D.map (rcG oaf)++[(rcG oaf x)]).length :Nat)=((D++[x]).map (rcG oaf)).length :=by first| (simp;done)| (simp;omega)
  rw[hcan] at hF;clear hcan
  refine qS hF ?_
  replace m9:=(m9.x g13).y g18 (s20.bp 1 3)
  refine tO 2 37 m9 ?_
  refine sT [(27,.bool (!((rcG oaf x).go)))] fun a hF=> ?_
  refine cC 27 (!((rcG oaf x).go)) hF (fun hc21=> ?_) (fun hc21=> ?_)
  ·skip
   replace hc21:(rcG oaf x).go =false:=by simpa using hc21
   refine rS hF ?_
   refine tN 2 (.slice (some ⟨h17.size,0,none⟩) 1 1) #[.string x.1] 9 fun h22 g23 m24=> ?_
   replace e0:=e0.grew g18 (s20.l 3)
   replace sep:=sep.nw e0.size m24
   have hlv:=live_le (D.map (rcG oaf))
   rw[List.length_map] at hlv
   replace own_s:=((((own_s.ext g8).k g11 (s20.ap 2 1)).ext g13).k g18 (s20.ap 2 3)).ext g23
   refine tP 3 ((live (D.map (rcG oaf))++[x.1]).length) 16 ((live (D.map (rcG oaf))++[x.1]).map Value.string) own_s (Row.blk (n:=1) (sz:=1) (l:=[x.1].map Value.string) m24 rfl) (ones_str _) (fun ad25 cap26 h27 own_s g28 hb29=> ?_) (ys:=(([x.1]).map Value.string))
   replace e0:=e0.ext g23
   have s30:=sep
   replace sep:=sep.sa g28 3 hb29 own_s e0.size;clear hb29
   have hlo3:live (D.map (rcG oaf))++[x.1]=live ((D++[x]).map (rcG oaf)):=by rw[live_on hc21,hh3.id]
   rw[hlo3] at own_s
   refine sE [(6,.slice ad25 ((live (D.map (rcG oaf))++[x.1]).length) cap26)] fun a hF=> ?_
   have hcan:((live (D.map (rcG oaf))++[x.1]).length :Nat)=(live ((D++[x]).map (rcG oaf))).length :=by first| (rw[←hlo3])| (simp;done)| (simp;omega)
   rw[hcan] at hF;clear hcan
   refine bK ?_
   clear m9
   clear m14
   clear m24
   replace hit:=g28.blk (g23.blk (g18.blk (g13.blk (g11.blk (g8.blk hit) (s20.bp 4 1))) (s20.bp 4 3))) (s30.bp 5 3)
   replace own_o:=(own_o.ext g23).k g28 (s30.ap 4 3)
   replace e0:=e0.grew g28 (s30.l 3)
   replace sep:=sep.sub (l':=[ad25.map (·.block),ad15.map (·.block),some h.size]) (.cons _ (.cons _ (.cons _ (.cons_cons _ (.cons_cons _ (.cons_cons _ (.slnil)))))))
   show ∃m',m'<_∧_
   refine⟨_,?_,(D++[x]),R',ad15,cap16,ad25,cap26,rfl,e0,hP2,hit,own_o,own_s,sep,hF.to⟩
   omega
  ·skip
   replace hc21:(rcG oaf x).go =true:=by simpa using hc21
   replace own_s:=(((own_s.ext g8).k g11 (s20.ap 2 1)).ext g13).k g18 (s20.ap 2 3)
   rw[←live_go hc21] at own_s
   rw[←live_go hc21] at hF
   refine cN ?_
   refine bK ?_
   clear m9
   clear m14
   replace hit:=g18.blk (g13.blk (g11.blk (g8.blk hit) (s20.bp 4 1))) (s20.bp 4 3)
   replace e0:=e0.grew g18 (s20.l 3)
   replace sep:=sep.sub (l':=[ad2.map (·.block),ad15.map (·.block),some h.size]) (.cons _ (.cons _ (.cons_cons _ (.cons_cons _ (.cons_cons _ (.slnil))))))
   show ∃m',m'<_∧_
   refine⟨_,?_,(D++[x]),R',ad15,cap16,ad2,cap2,rfl,e0,hP2,hit,own_o,own_s,sep,hF.to⟩
   omega
end Go.Proofs.YtegkejcglfgpmaaGreatDoor
end
section
namespace Go.Proofs.YtegkejcglfgpmaaGreatDoor
open Go Go.Lane Go.Sha
noncomputable def b45:Code:=Tryz.f45.body.getD .skip
theorem stat_sat(h:Heap)(x:RB)(e:Int)(ho go:Bool)(c d:Value):Sat Tryz.prog 45 #[.agg (obx x e ho go (c) (d)).toArray] h fun v h'=>v= .agg (stc x e ho go).toArray ∧Ext h h':=by
 have e0:=Ext.refl h
 have sep:Sep h.size h.size []:=Sep.nil _ _
 refine sat_in Tryz.func45 22 fun a hF=> ?_
 refine qS hF ?_
 refine tN 0 (pV h.size) ((obx x e ho go (c) (d)).toArray) 101 fun h1 g2 m3=> ?_
 replace sep:=sep.nw e0.size m3
 refine tN 1 (pV h1.size) ((stc rb0 (0:Int) false false).toArray) 41 fun h4 g5 m6=> ?_
 replace e0:=e0.ext g2
 replace sep:=sep.nw e0.size m6
 refine sT [(1,pV h.size),(2,pV h1.size)] fun a hF=> ?_
 refine qS hF ?_
 replace m3:=m3.x g5
 refine tO 2 1 m3 ?_
 refine tQ 5 2 ((hl x).map bv) m3 ?_
 refine tO 8 34 m3 ?_
 refine tO 11 35 m3 ?_
 refine tO 14 36 m3 ?_
 refine tO 17 37 m3 ?_
 refine tV0 19 (stc x e ho go) m6 fun h7 g8 zq=> ?_
 replace m6:=zq
 refine sT [] fun a hF=> ?_
 refine cR ?_
 refine rB m6 hF ?_
 replace e0:=(e0.ext g5).grew g8 (sep.l 0)
 exact⟨rfl,e0⟩
theorem incl_at(h:Heap)(L:List Hs)(va:Option Addr)(vc n:Nat)(hL:HR h va vc n L)(hn:n≤1099511627000)(i:Int)(kt:Ktab h)(p:List Hs)(e:Int)(hz:inclZ L i=(p,e)):Sat Tryz.prog 71 #[.slice va n vc,.int .i64 i] h fun v h'=>∃ad cap,v= .tuple #[.slice ad p.length cap,.int .i64 e]∧Own h' (.slice ad p.length cap) 39 p.length 32 (hcs p)∧(∀k,ad.map (fun(x:Addr)=>x.block)=some k→h.size ≤k)∧Ext h h':=
 (tincl_sat h L va vc n hL hn i kt).mono fun v h' ⟨s,hv,ad,cap,hs,o,hge,g⟩=>by
  rw[hz] at hv hs o
  subst hs
  exact⟨ad,cap,hv,o,hge,g⟩
theorem rroot_r(h:Heap)(L:List Hs)(va:Option Addr)(vc n:Nat)(hL:HR h va vc n L)(hn:n≤1099511627000)(kt:Ktab h):Sat Tryz.prog 36 #[.slice va n vc] h fun v h'=>v= .agg ((hl (rbh (root L))).map bv).toArray ∧Ext h h':=by
 rw[hl_rbh (root_len hL.2.1)];exact troot_sat h L va vc n hL kt hn
noncomputable def b34:Code:=Tryz.f34.body.getD .skip
set_option maxHeartbeats 1000000 in
theorem ask_sat{W:Nat→Prop}(h:Heap)(mb mp:Nat)(M:Md)(L:List Ent)(ck:Nat)(ea:Option Addr)(ec:Nat)(es:List Value)(md:ModA W h mb mp M L ck ea ec es)(kd n:Int)(s:ByteArray)(oa:Option Addr)(on oc:Nat)(ka:Option Addr)(kn kc:Nat)(hsz:s.size ≤9223372036854775807)(kt:Ktab h)(hE:M.E.length ≤1099511627):Sat Tryz.prog 34 #[.pointer (some ⟨mb,0,none⟩),.agg #[.int .i64 kd,.string s,.slice oa on oc,.int .i64 n,.slice ka kn kc]] h fun v h'=>AnsO W h.size h' mb mp M v (askM M kd s)∧Ext h h':=by
 have hm:=md.hm
 have hp:=md.hp
 have e0:=Ext.refl h
 have h0s:=kt.lt
 have sep:Sep h.size h.size []:=Sep.nil _ _
 refine sat_in Tryz.func34 59 fun a hF=> ?_
 refine qS hF ?_
 refine tN 0 (pV h.size) #[.int .i64 kd,.string s,.slice oa on oc,.int .i64 n,.slice ka kn kc] 35 fun h1 g2 m3=> ?_
 replace sep:=sep.nw e0.size m3
 refine tN 1 (pV h1.size) ((asc (0:Int) (.slice none 0 0) rb0 (0:Int) false false (.slice none 0 0) (0:Int) rb0 (0:Int) (.slice none 0 0)).toArray) 47 fun h4 g5 m6=> ?_
 replace e0:=e0.ext g2
 replace sep:=sep.nw e0.size m6
 refine sT [(3,pV h.size),(4,pV h1.size)] fun a hF=> ?_
 refine cS ?_
 rcases md.cases3 s with hok|⟨hok,hf,hno⟩|⟨hok,A,x,B,o,rfl,hs,hf,hid,hdl,ca,cc,ba,bc,hv,r1,r2⟩
 ·skip
  refine rS hF ?_
  replace m3:=m3.x g5
  refine tO 2 1 m3 ?_
  replace e0:=e0.ext g5
  refine tG 3 (find_id _ mb mp M _ ck ea ec es (md.ext e0) s hsz hok) ?_
  rintro _ h8 ⟨rfl,g7⟩
  refine tN 7 (pV h8.size) ((obx rb0 (0:Int) false false (.slice none 0 0) (.slice none 0 0)).toArray) 101 fun h9 g10 m11=> ?_
  replace e0:=e0.ext g7
  replace sep:=(sep.up g7.size).nw e0.size m11
  refine tV0 8 (obx rb0 (0:Int) false false (.slice none 0 0) (.slice none 0 0)) m11 fun h12 g13 zq=> ?_
  replace m11:=zq
  refine sE [(5,pV h8.size),(6,.int .i64 210)] fun a hF=> ?_
  refine tK ?_
  refine cS ?_
  refine cB 0 ?_
  refine qP [(14,.bool true)] hF fun a hF=> ?_
  refine cT 14 hF ?_
  refine rS hF ?_
  replace m6:=((m6.x g7).x g10).y g13 (sep.bp 1 0)
  refine tV 2 0 [.int .i64 210] (asc (210:Int) (.slice none 0 0) rb0 (0:Int) false false (.slice none 0 0) (0:Int) rb0 (0:Int) (.slice none 0 0)) m6 fun h14 g15 zq=> ?_
  replace m6:=zq
  refine sE [] fun a hF=> ?_
  refine bK ?_
  refine tK ?_
  refine qS hF ?_
  refine tR 0 m6 ?_
  refine tV0 1 (asc (210:Int) (.slice none 0 0) rb0 (0:Int) false false (.slice none 0 0) (0:Int) rb0 (0:Int) (.slice none 0 0)) m6 fun h16 g17 zq=> ?_
  replace m6:=zq
  refine sT [] fun a hF=> ?_
  refine cR ?_
  refine rB m6 hF ?_
  replace e0:=(((e0.ext g10).grew g13 (sep.l 0)).grew g15 (sep.l 1)).grew g17 (sep.l 1)
  rw[askM_id hok];exact⟨ansO_c md e0 210,e0⟩
 ·skip
  refine rS hF ?_
  replace m3:=m3.x g5
  refine tO 2 1 m3 ?_
  replace e0:=e0.ext g5
  refine tG 3 (find_none _ mb mp M _ ck ea ec es (md.ext e0) s hno hok) ?_
  rintro _ h19 ⟨rfl,g18⟩
  refine tN 7 (pV h19.size) ((obx rb0 (0:Int) false false (.slice none 0 0) (.slice none 0 0)).toArray) 101 fun h20 g21 m22=> ?_
  replace e0:=e0.ext g18
  replace sep:=(sep.up g18.size).nw e0.size m22
  refine tV0 8 (obx rb0 (0:Int) false false (.slice none 0 0) (.slice none 0 0)) m22 fun h23 g24 zq=> ?_
  replace m22:=zq
  refine sE [(5,pV h19.size),(6,.int .i64 211)] fun a hF=> ?_
  refine tK ?_
  refine cS ?_
  refine cB 0 ?_
  refine qP [(14,.bool true)] hF fun a hF=> ?_
  refine cT 14 hF ?_
  refine rS hF ?_
  replace m6:=((m6.x g18).x g21).y g24 (sep.bp 1 0)
  refine tV 2 0 [.int .i64 211] (asc (211:Int) (.slice none 0 0) rb0 (0:Int) false false (.slice none 0 0) (0:Int) rb0 (0:Int) (.slice none 0 0)) m6 fun h25 g26 zq=> ?_
  replace m6:=zq
  refine sE [] fun a hF=> ?_
  refine bK ?_
  refine tK ?_
  refine qS hF ?_
  refine tR 0 m6 ?_
  refine tV0 1 (asc (211:Int) (.slice none 0 0) rb0 (0:Int) false false (.slice none 0 0) (0:Int) rb0 (0:Int) (.slice none 0 0)) m6 fun h27 g28 zq=> ?_
  replace m6:=zq
  refine sT [] fun a hF=> ?_
  refine cR ?_
  refine rB m6 hF ?_
  replace e0:=(((e0.ext g21).grew g24 (sep.l 0)).grew g26 (sep.l 1)).grew g28 (sep.l 1)
  rw[askM_none hok hf];exact⟨ansO_c md e0 211,e0⟩
 ·skip
  refine rS hF ?_
  replace m3:=m3.x g5
  refine tO 2 1 m3 ?_
  replace e0:=e0.ext g5
  refine tG 3 (find_yes _ mb mp M _ ck ea ec es (md.ext e0) s x (List.mem_append_right _ (List.mem_cons_self ..)) hs o ca cc ba bc hv hok) ?_
  rintro _ h30 ⟨rfl,g29⟩
  refine tN 7 (pV h30.size) ((obx rb0 (0:Int) false false (.slice none 0 0) (.slice none 0 0)).toArray) 101 fun h31 g32 m33=> ?_
  replace e0:=e0.ext g29
  replace sep:=(sep.up g29.size).nw e0.size m33
  refine tV0 8 (obx o.b o.e o.ho o.go (.slice ca 0 cc) (.slice ba o.dt.length bc)) m33 fun h34 g35 zq=> ?_
  replace m33:=zq
  refine sE [(5,pV h30.size),(6,.int .i64 0)] fun a hF=> ?_
  refine tK ?_
  refine cS ?_
  refine cB 0 ?_
  refine qP [(14,.bool false)] hF fun a hF=> ?_
  refine cF 14 hF ?_
  refine qS hF ?_
  replace m3:=((m3.x g29).x g32).y g35 (sep.bp 2 0)
  refine tO 1 0 m3 ?_
  refine sT [(19,.bool (decide (kd=(3:Int))))] fun a hF=> ?_
  refine cJ 19 hF (fun hc36=> ?_) fun hc36=> ?_
  ·skip
   refine rS hF ?_
   refine tR 0 m33 ?_
   refine tG 1 (stat_sat _ o.b o.e o.ho o.go (.slice ca 0 cc) (.slice ba o.dt.length bc)) ?_
   rintro _ h38 ⟨rfl,g37⟩
   replace m6:=(((m6.x g29).x g32).y g35 (sep.bp 1 0)).x g37
   refine tV 3 2 (stc o.b o.e o.ho o.go) (asc (0:Int) (.slice none 0 0) o.b o.e o.ho o.go (.slice none 0 0) (0:Int) rb0 (0:Int) (.slice none 0 0)) m6 fun h39 g40 zq=> ?_
   replace m6:=zq
   refine sE [] fun a hF=> ?_
   refine bK ?_
   refine tK ?_
   refine qS hF ?_
   refine tR 0 m6 ?_
   refine tV0 1 (asc (0:Int) (.slice none 0 0) o.b o.e o.ho o.go (.slice none 0 0) (0:Int) rb0 (0:Int) (.slice none 0 0)) m6 fun h41 g42 zq=> ?_
   replace m6:=zq
   refine sT [] fun a hF=> ?_
   refine cR ?_
   refine rB m6 hF ?_
   replace e0:=((((e0.ext g32).grew g35 (sep.l 0)).ext g37).grew g40 (sep.l 1)).grew g42 (sep.l 1)
   rw[askM_stat hok hf hc36];exact⟨ansO_mk md e0 rfl (Own.nil _ _ _) nilge (Own.nil _ _ _) nilge (Own.nil _ _ _) nilge All32.nil,e0⟩
  ·skip
   refine qS hF ?_
   refine tO 1 0 m3 ?_
   refine sT [(26,.bool (decide (kd=(16:Int))))] fun a hF=> ?_
   refine cJ 26 hF (fun hc43=> ?_) fun hc43=> ?_
   ·skip
    refine qS hF ?_
    refine tO 2 34 m33 ?_
    replace m6:=((m6.x g29).x g32).y g35 (sep.bp 1 0)
    refine tV 4 73 [.int .i64 o.b.idx] (asc (0:Int) (.slice none 0 0) rb0 (0:Int) false false (.slice none 0 0) (0:Int) rb0 o.b.idx (.slice none 0 0)) m6 fun h44 g45 zq=> ?_
    replace m6:=zq
    refine sT [] fun a hF=> ?_
    refine cD [0,1,0,4,12,31,63,127,127,255,767,2047,4095] 8 mixed hF ?_
    refine mP 13 [0,2,3] [pV mb,pV h30.size,.pointer (some ⟨h30.size,34,none⟩)] ?_
    replace m33:=m33.y g45 (sep.bp 0 1)
    refine mO 29 16 4 34 (.int .i64 o.b.idx) m33 ?_
    replace kt:=(((((kt.ext g2).ext g5).ext g29).ext g32).grew g35 (sep.zero 0 rfl h0s)).grew g45 (sep.zero 1 rfl h0s)
    replace e0:=((e0.ext g32).grew g35 (sep.l 0)).grew g45 (sep.l 1)
    refine mFp 31 3 1 [4] (Does.call (f:=37) (args:= #[.pointer (some ⟨mb,0,none⟩)]) (by kernel_rfl) (leaves_sat _ mb mp M _ ck ea ec es (md.ext e0) kt hE)) ?_
    rintro _ h50 ⟨ad46,cap47,rfl,own_l,hg49,g48⟩
    replace sep:=((sep.up g35.size).up g45.size).co g48 hg49 own_l e0.size
    replace m33:=m33.x g48
    refine⟨?_,?_⟩
    ·intro j hj
     simp only[List.mem_cons,List.not_mem_nil,or_false] at hj
     subst hj
     exact goodOf (Calm.load (T:=3) (p:=⟨h30.size,34,none⟩) (by kernel_rfl) (Loads.one (k:=1) (by kernel_rfl) ((hcell_blk m33).trans (rfl))))
    obtain⟨p,e,hz⟩:∃p e,inclZ (ledH M.E) o.b.idx =(p,e):=⟨_,_,rfl⟩
    replace kt:=kt.ext g48
    refine mG0 63 63 5 (incl_at _ (ledH M.E) _ _ M.E.length (HR.of own_l (ledH_32 _)) (by omega) o.b.idx kt p e hz) ?_
    rintro _ h55 ⟨ad51,cap52,rfl,own_p,hg54,g53⟩
    replace e0:=e0.ext g48
    replace sep:=sep.co g53 hg54 own_p e0.size
    refine mP 1023 [6,7,8,9] [.tuple #[.slice ad51 p.length cap52,.int .i64 e],.slice ad51 p.length cap52,.int .i64 e,.pointer (some ⟨h1.size,74,none⟩)] ?_
    replace m6:=(m6.x g48).x g53
    refine mV 2047 1791 10 74 [.slice ad51 p.length cap52] (asc (0:Int) (.slice none 0 0) rb0 (0:Int) false false (.slice none 0 0) (0:Int) rb0 o.b.idx (.slice ad51 p.length cap52)) m6 fun h56 g57 zq=> ?_
    replace m6:=zq
    refine mP 4095 [11] [pV h1.size] ?_
    refine mV 8191 8191 12 0 [.int .i64 e] (asc e (.slice none 0 0) rb0 (0:Int) false false (.slice none 0 0) (0:Int) rb0 o.b.idx (.slice ad51 p.length cap52)) m6 fun h58 g59 zq=> ?_
    replace m6:=zq
    refine mE [] fun a hF=> ?_
    refine bK ?_
    refine tK ?_
    refine qS hF ?_
    refine tR 0 m6 ?_
    refine tV0 1 (asc e (.slice none 0 0) rb0 (0:Int) false false (.slice none 0 0) (0:Int) rb0 o.b.idx (.slice ad51 p.length cap52)) m6 fun h60 g61 zq=> ?_
    replace m6:=zq
    refine sT [] fun a hF=> ?_
    refine cR ?_
    refine rB m6 hF ?_
    have hpp:(inclZ (ledH M.E) o.b.idx).1 =p:=by rw[hz]
    replace e0:=(((e0.ext g53).grew g57 (sep.l 3)).grew g59 (sep.l 3)).grew g61 (sep.l 3)
    replace own_p:=((own_p.k g57 (sep.ap 0 3)).k g59 (sep.ap 0 3)).k g61 (sep.ap 0 3)
    rw[askM_prove hok hf hc43 hz];exact⟨ansO_mk md e0 rfl (Own.nil _ _ _) nilge (Own.nil _ _ _) nilge own_p (sep.low 0 rfl) (hpp▸inclZ_32 (ledH_32 _) _),e0⟩
   ·skip
    refine qS hF ?_
    refine tO 2 37 m33 ?_
    refine sT [(45,.bool o.go)] fun a hF=> ?_
    refine cC 45 o.go hF (fun hc62=> ?_) (fun hc62=> ?_)
    ·skip
     have hgo:=hc62
     refine rS hF ?_
     replace m6:=((m6.x g29).x g32).y g35 (sep.bp 1 0)
     refine tV 1 0 [.int .i64 213] (asc (213:Int) (.slice none 0 0) rb0 (0:Int) false false (.slice none 0 0) (0:Int) rb0 (0:Int) (.slice none 0 0)) m6 fun h63 g64 zq=> ?_
     replace m6:=zq
     refine sE [] fun a hF=> ?_
     refine bK ?_
     refine tK ?_
     refine qS hF ?_
     refine tR 0 m6 ?_
     refine tV0 1 (asc (213:Int) (.slice none 0 0) rb0 (0:Int) false false (.slice none 0 0) (0:Int) rb0 (0:Int) (.slice none 0 0)) m6 fun h65 g66 zq=> ?_
     replace m6:=zq
     refine sT [] fun a hF=> ?_
     refine cR ?_
     refine rB m6 hF ?_
     replace e0:=(((e0.ext g32).grew g35 (sep.l 0)).grew g64 (sep.l 1)).grew g66 (sep.l 1)
     rw[askM_gone hok hf hc36 hc43 hgo];exact⟨ansO_c md e0 213,e0⟩
    ·skip
     have hgo:=hc62
     refine qS hF ?_
     refine tO 1 0 m3 ?_
     refine sT [(50,.bool (decide (kd=(2:Int))))] fun a hF=> ?_
     refine cJ 50 hF (fun hc67=> ?_) fun hc67=> ?_
     ·skip
      refine rS hF ?_
      refine tO 1 39 m33 ?_
      replace e0:=(e0.ext g32).grew g35 (sep.l 0)
      refine tG 2 (cloneb_sat _ o.dt o.dt.length ba bc (r2.ext e0).1.1 (by omega)) ?_
      rintro _ h72 ⟨ad68,cap69,rfl,own_v,hg71,g70⟩
      replace sep:=(sep.up g35.size).co g70 hg71 own_v e0.size
      replace m6:=(((m6.x g29).x g32).y g35 (sep.bp 2 1)).x g70
      refine tV 4 1 [.slice ad68 o.dt.length cap69] (asc (0:Int) (.slice ad68 o.dt.length cap69) rb0 (0:Int) false false (.slice none 0 0) (0:Int) rb0 (0:Int) (.slice none 0 0)) m6 fun h73 g74 zq=> ?_
      replace m6:=zq
      refine sE [] fun a hF=> ?_
      refine bK ?_
      refine tK ?_
      refine qS hF ?_
      refine tR 0 m6 ?_
      refine tV0 1 (asc (0:Int) (.slice ad68 o.dt.length cap69) rb0 (0:Int) false false (.slice none 0 0) (0:Int) rb0 (0:Int) (.slice none 0 0)) m6 fun h75 g76 zq=> ?_
      replace m6:=zq
      refine sT [] fun a hF=> ?_
      refine cR ?_
      refine rB m6 hF ?_
      replace e0:=((e0.ext g70).grew g74 (sep.l 2)).grew g76 (sep.l 2)
      replace own_v:=(own_v.k g74 (sep.ap 0 2)).k g76 (sep.ap 0 2)
      rw[askM_get hok hf hc67 hgo];exact⟨ansO_mk md e0 rfl own_v (sep.low 0 rfl) (Own.nil _ _ _) nilge (Own.nil _ _ _) nilge All32.nil,e0⟩
     ·skip
      refine cN ?_
      refine bK ?_
      refine tK ?_
      refine qS hF ?_
      replace m6:=((m6.x g29).x g32).y g35 (sep.bp 1 0)
      refine tR 0 m6 ?_
      refine tV0 1 (asc (0:Int) (.slice none 0 0) rb0 (0:Int) false false (.slice none 0 0) (0:Int) rb0 (0:Int) (.slice none 0 0)) m6 fun h77 g78 zq=> ?_
      replace m6:=zq
      refine sT [] fun a hF=> ?_
      refine cR ?_
      refine rB m6 hF ?_
      replace e0:=((e0.ext g32).grew g35 (sep.l 0)).grew g78 (sep.l 1)
      rw[askM_else hok hf hc36 hc43 hc67 hgo];exact⟨ansO_c md e0 0,e0⟩
end Go.Proofs.YtegkejcglfgpmaaGreatDoor
end
section
namespace Go.Proofs.YtegkejcglfgpmaaGreatDoor
open Go Go.Lane Go.Sha
noncomputable def b17:Code:=Tryz.f17.body.getD .skip
theorem ask_r{W:Nat→Prop}(h:Heap)(mb mp:Nat)(M:Md)(L:List Ent)(ck:Nat)(ea:Option Addr)(ec:Nat)(es:List Value)(md:ModA W h mb mp M L ck ea ec es)(kd n:Int)(s:ByteArray)(oa:Option Addr)(on oc:Nat)(ka:Option Addr)(kn kc:Nat)(hsz:s.size ≤9223372036854775807)(kt:Ktab h)(hE:M.E.length ≤1099511627)(A:An)(hA:askM M kd s=A):Sat Tryz.prog 34 #[.pointer (some ⟨mb,0,none⟩),.agg #[.int .i64 kd,.string s,.slice oa on oc,.int .i64 n,.slice ka kn kc]] h fun v h'=>∃qa qc ia ic pa pc,v=anv A (.slice qa A.b.length qc) (.slice ia A.i.length ic) (.slice pa A.p.length pc)∧Own h' (.slice qa A.b.length qc) 5 A.b.length 1 (A.b.map bv)∧Own h' (.slice ia A.i.length ic) 9 A.i.length 1 (A.i.map Value.string)∧Own h' (.slice pa A.p.length pc) 39 A.p.length 32 (hcs A.p)∧All32 A.p ∧(∀k,AF qa ia pa k→h.size ≤k)∧ModW (fun k=>W k∨AF qa ia pa k) h' mb mp M∧Ext h h':=by
 subst hA
 exact(ask_sat h mb mp M L ck ea ec es md kd n s oa on oc ka kn kc hsz kt hE).mono fun v h' ⟨⟨qa,qc,ia,ic,pa,pc,e,r1,r2,r3,r4,r5,r6⟩,g⟩=>⟨qa,qc,ia,ic,pa,pc,e,r1,r2,r3,r4,r5,r6,g⟩
set_option maxHeartbeats 2000000 in
theorem do_a{W:Nat→Prop}(h:Heap)(mb mp:Nat)(M:Md)(L:List Ent)(ck:Nat)(ea:Option Addr)(ec:Nat)(es:List Value)(md:ModA W h mb mp M L ck ea ec es)(hW:∀k,W k→k<h.size)(kd n:Int)(s:ByteArray)(l:List UInt8)(oa:Option Addr)(oc:Nat)(ka:Option Addr)(kn kc:Nat)(hr:Row h (.slice oa l.length oc) l.length 1 (l.map bv))(hsz:s.size ≤9223372036854775807)(kt:Ktab h)(hE:M.E.length ≤1099511627):Sat Tryz.prog 17 #[.pointer (some ⟨mb,0,none⟩),.agg #[.int .i64 kd,.string s,.slice oa l.length oc,.int .i64 n,.slice ka kn kc]] h fun v h'=>AnsO W h.size h' mb mp (step M kd n s l).1 v (step M kd n s l).2 ∧MG mb mp h h':=by
 have hm:=md.hm
 have hp:=md.hp
 have e0:=Ext.refl h
 have h0s:=kt.lt
 have sep:Sep h.size h.size []:=Sep.nil _ _
 refine sat_in Tryz.func17 78 fun a hF=> ?_
 refine qS hF ?_
 refine tN 0 (pV h.size) #[.int .i64 kd,.string s,.slice oa l.length oc,.int .i64 n,.slice ka kn kc] 35 fun h1 g2 m3=> ?_
 have lt4:=blk_lt m3
 have zs5:=e0.size
 replace sep:=sep.nw e0.size m3
 refine tN 1 (pV h1.size) ((asc (0:Int) (.slice none 0 0) rb0 (0:Int) false false (.slice none 0 0) (0:Int) rb0 (0:Int) (.slice none 0 0)).toArray) 47 fun h6 g7 m8=> ?_
 have lt9:=blk_lt m8
 replace e0:=e0.ext g2
 have zs10:=e0.size
 replace sep:=sep.nw e0.size m8
 refine sT [(3,pV h.size),(4,pV h1.size)] fun a hF=> ?_
 refine cS ?_
 refine qS hF ?_
 replace m3:=m3.x g7
 refine tO 1 0 m3 ?_
 refine sT [(6,.int .i64 kd)] fun a hF=> ?_
 refine cB 0 ?_
 refine qP [(8,.bool (decide (kd=(1:Int))))] hF fun a hF=> ?_
 refine cJ 8 hF (fun hc11=> ?_) fun hc11=> ?_
 ·skip
  refine rS hF ?_
  refine tO 2 1 m3 ?_
  refine tO 4 2 m3 ?_
  replace kt:=(kt.ext g2).ext g7
  replace e0:=e0.ext g7
  refine tG 5 (put_sat _ mb mp M L ck ea ec es (md.ext e0) (fun k hk=>Nat.lt_of_lt_of_le (hW k hk) e0.size) s hsz l oa oc (hr.ext e0) kt hE) ?_
  rintro _ h12 ⟨rfl,hmod,gm⟩
  have gk:MG mb mp h h12:=(MG.ofExt e0).trans gm
  have hbm:=blk_lt hm;have hbp:=blk_lt hp
  replace m8:=gm.blk m8 (by omega) (by omega)
  replace sep:=sep.up gm.1
  refine tV 7 0 [.int .i64 ((putM M s l).2)] (asc ((putM M s l).2) (.slice none 0 0) rb0 (0:Int) false false (.slice none 0 0) (0:Int) rb0 (0:Int) (.slice none 0 0)) m8 fun h13 g14 zq=> ?_
  replace hmod:=hmod.put1 g14 m8 (by decide) (by omega)
  replace m8:=zq
  refine sE [] fun a hF=> ?_
  refine bK ?_
  refine tK ?_
  refine qS hF ?_
  refine tR 0 m8 ?_
  refine tV0 1 (asc ((putM M s l).2) (.slice none 0 0) rb0 (0:Int) false false (.slice none 0 0) (0:Int) rb0 (0:Int) (.slice none 0 0)) m8 fun h15 g16 zq=> ?_
  replace hmod:=hmod.put1 g16 m8 (by decide) (by omega)
  replace m8:=zq
  refine sT [] fun a hF=> ?_
  refine cR ?_
  refine rB m8 hF ?_
  replace gk:=(gk.ofO g14 (fun x e=>by cases e;omega)).ofO g16 (fun x e=>by cases e;omega)
  rw[step_put hc11];exact⟨ansO_w hmod _,gk⟩
 ·skip
  refine cS ?_
  refine qP [(17,.bool (decide (kd=(4:Int))))] hF fun a hF=> ?_
  refine cJ 17 hF (fun hc17=> ?_) fun hc17=> ?_
  ·skip
   refine cN ?_
   refine tK ?_
   refine cJ 17 hF (fun hx18=> ?_) fun hx18=>absurd hc17 hx18
   refine rS hF ?_
   refine tR 1 m3 ?_
   replace e0:=e0.ext g7
   refine tG 2 (change_sat _ mb mp M L ck ea ec es (md.ext e0) kd n s oa l.length oc ka kn kc hsz) ?_
   rintro _ h19 ⟨rfl,hmod,gm⟩
   have gk:MG mb mp h h19:=(MG.ofExt e0).trans gm
   have hbm:=blk_lt hm;have hbp:=blk_lt hp
   replace m8:=gm.blk m8 (by omega) (by omega)
   replace sep:=sep.up gm.1
   refine tV 4 0 [.int .i64 ((chg M kd n s).2)] (asc ((chg M kd n s).2) (.slice none 0 0) rb0 (0:Int) false false (.slice none 0 0) (0:Int) rb0 (0:Int) (.slice none 0 0)) m8 fun h20 g21 zq=> ?_
   replace hmod:=hmod.put1 g21 m8 (by decide) (by omega)
   replace m8:=zq
   refine sE [] fun a hF=> ?_
   refine bK ?_
   refine tK ?_
   refine qS hF ?_
   refine tR 0 m8 ?_
   refine tV0 1 (asc ((chg M kd n s).2) (.slice none 0 0) rb0 (0:Int) false false (.slice none 0 0) (0:Int) rb0 (0:Int) (.slice none 0 0)) m8 fun h22 g23 zq=> ?_
   replace hmod:=hmod.put1 g23 m8 (by decide) (by omega)
   replace m8:=zq
   refine sT [] fun a hF=> ?_
   refine cR ?_
   refine rB m8 hF ?_
   replace gk:=(gk.ofO g21 (fun x e=>by cases e;omega)).ofO g23 (fun x e=>by cases e;omega)
   rw[step_chg (by omega)];exact⟨ansO_w hmod _,gk⟩
  ·skip
   refine qP [(17,.bool (decide (kd=(5:Int))))] hF fun a hF=> ?_
   refine cJ 17 hF (fun hc24=> ?_) fun hc24=> ?_
   ·skip
    refine cN ?_
    refine tK ?_
    refine cJ 17 hF (fun hx25=> ?_) fun hx25=>absurd hc24 hx25
    refine rS hF ?_
    refine tR 1 m3 ?_
    replace e0:=e0.ext g7
    refine tG 2 (change_sat _ mb mp M L ck ea ec es (md.ext e0) kd n s oa l.length oc ka kn kc hsz) ?_
    rintro _ h26 ⟨rfl,hmod,gm⟩
    have gk:MG mb mp h h26:=(MG.ofExt e0).trans gm
    have hbm:=blk_lt hm;have hbp:=blk_lt hp
    replace m8:=gm.blk m8 (by omega) (by omega)
    replace sep:=sep.up gm.1
    refine tV 4 0 [.int .i64 ((chg M kd n s).2)] (asc ((chg M kd n s).2) (.slice none 0 0) rb0 (0:Int) false false (.slice none 0 0) (0:Int) rb0 (0:Int) (.slice none 0 0)) m8 fun h27 g28 zq=> ?_
    replace hmod:=hmod.put1 g28 m8 (by decide) (by omega)
    replace m8:=zq
    refine sE [] fun a hF=> ?_
    refine bK ?_
    refine tK ?_
    refine qS hF ?_
    refine tR 0 m8 ?_
    refine tV0 1 (asc ((chg M kd n s).2) (.slice none 0 0) rb0 (0:Int) false false (.slice none 0 0) (0:Int) rb0 (0:Int) (.slice none 0 0)) m8 fun h29 g30 zq=> ?_
    replace hmod:=hmod.put1 g30 m8 (by decide) (by omega)
    replace m8:=zq
    refine sT [] fun a hF=> ?_
    refine cR ?_
    refine rB m8 hF ?_
    replace gk:=(gk.ofO g28 (fun x e=>by cases e;omega)).ofO g30 (fun x e=>by cases e;omega)
    rw[step_chg (by omega)];exact⟨ansO_w hmod _,gk⟩
   ·skip
    refine rP [(17,.bool (decide (kd=(6:Int))))] hF fun a hF=> ?_
    refine tK ?_
    refine cJ 17 hF (fun hc31=> ?_) fun hc31=> ?_
    ·skip
     refine rS hF ?_
     refine tR 1 m3 ?_
     replace e0:=e0.ext g7
     refine tG 2 (change_sat _ mb mp M L ck ea ec es (md.ext e0) kd n s oa l.length oc ka kn kc hsz) ?_
     rintro _ h32 ⟨rfl,hmod,gm⟩
     have gk:MG mb mp h h32:=(MG.ofExt e0).trans gm
     have hbm:=blk_lt hm;have hbp:=blk_lt hp
     replace m8:=gm.blk m8 (by omega) (by omega)
     replace sep:=sep.up gm.1
     refine tV 4 0 [.int .i64 ((chg M kd n s).2)] (asc ((chg M kd n s).2) (.slice none 0 0) rb0 (0:Int) false false (.slice none 0 0) (0:Int) rb0 (0:Int) (.slice none 0 0)) m8 fun h33 g34 zq=> ?_
     replace hmod:=hmod.put1 g34 m8 (by decide) (by omega)
     replace m8:=zq
     refine sE [] fun a hF=> ?_
     refine bK ?_
     refine tK ?_
     refine qS hF ?_
     refine tR 0 m8 ?_
     refine tV0 1 (asc ((chg M kd n s).2) (.slice none 0 0) rb0 (0:Int) false false (.slice none 0 0) (0:Int) rb0 (0:Int) (.slice none 0 0)) m8 fun h35 g36 zq=> ?_
     replace hmod:=hmod.put1 g36 m8 (by decide) (by omega)
     replace m8:=zq
     refine sT [] fun a hF=> ?_
     refine cR ?_
     refine rB m8 hF ?_
     replace gk:=(gk.ofO g34 (fun x e=>by cases e;omega)).ofO g36 (fun x e=>by cases e;omega)
     rw[step_chg (by omega)];exact⟨ansO_w hmod _,gk⟩
    ·skip
     refine cS ?_
     refine qP [(25,.bool (decide (kd=(2:Int))))] hF fun a hF=> ?_
     refine cJ 25 hF (fun hc37=> ?_) fun hc37=> ?_
     ·skip
      refine cN ?_
      refine tK ?_
      refine cJ 25 hF (fun hx38=> ?_) fun hx38=>absurd hc37 hx38
      refine qS hF ?_
      refine tR 1 m3 ?_
      obtain⟨A,hA⟩:∃A,askM M kd s=A:=⟨_,rfl⟩
      have hbm:=blk_lt hm
      replace kt:=(kt.ext g2).ext g7
      replace e0:=e0.ext g7
      refine tG 2 (ask_r _ mb mp M L ck ea ec es (md.ext e0) kd n s oa l.length oc ka kn kc hsz kt hE A hA) ?_
      rintro _ h39 ⟨qa,qc,ia,ic,pa,pc,rfl,r1,r2,r3,r4,hgA,hmW,g⟩
      replace hgA:=fun k e=>Nat.le_trans e0.size (hgA k e)
      replace e0:=e0.ext g
      replace kt:=kt.ext g
      replace m3:=m3.x g
      replace m8:=m8.x g
      replace sep:=sep.up g.size
      clear g
      refine tV0 3 (asc A.c (.slice qa A.b.length qc) A.sx A.se A.sh A.sg (.slice ia A.i.length ic) A.n A.y A.k (.slice pa A.p.length pc)) m8 fun h40 g41 zq=> ?_
      replace r1:=r1.put1 g41 m8 (by decide)
      replace r2:=r2.put1 g41 m8 (by decide)
      replace r3:=r3.put1 g41 m8 (by decide)
      replace hmW:=hmW.put1 g41 m8 (by decide) (by omega)
      replace m8:=zq
      refine sT [] fun a hF=> ?_
      refine cR (yB (yT ?_))
      refine rB m8 hF ?_
      replace e0:=e0.grew g41 (sep.l 0)
      rw[step_ask (by omega),hA];exact⟨⟨_,_,_,_,_,_,rfl,r1,r2,r3,r4,hgA,hmW⟩,MG.ofExt e0⟩
     ·skip
      refine qP [(25,.bool (decide (kd=(3:Int))))] hF fun a hF=> ?_
      refine cJ 25 hF (fun hc42=> ?_) fun hc42=> ?_
      ·skip
       refine cN ?_
       refine tK ?_
       refine cJ 25 hF (fun hx43=> ?_) fun hx43=>absurd hc42 hx43
       refine qS hF ?_
       refine tR 1 m3 ?_
       obtain⟨A,hA⟩:∃A,askM M kd s=A:=⟨_,rfl⟩
       have hbm:=blk_lt hm
       replace kt:=(kt.ext g2).ext g7
       replace e0:=e0.ext g7
       refine tG 2 (ask_r _ mb mp M L ck ea ec es (md.ext e0) kd n s oa l.length oc ka kn kc hsz kt hE A hA) ?_
       rintro _ h44 ⟨qa,qc,ia,ic,pa,pc,rfl,r1,r2,r3,r4,hgA,hmW,g⟩
       replace hgA:=fun k e=>Nat.le_trans e0.size (hgA k e)
       replace e0:=e0.ext g
       replace kt:=kt.ext g
       replace m3:=m3.x g
       replace m8:=m8.x g
       replace sep:=sep.up g.size
       clear g
       refine tV0 3 (asc A.c (.slice qa A.b.length qc) A.sx A.se A.sh A.sg (.slice ia A.i.length ic) A.n A.y A.k (.slice pa A.p.length pc)) m8 fun h45 g46 zq=> ?_
       replace r1:=r1.put1 g46 m8 (by decide)
       replace r2:=r2.put1 g46 m8 (by decide)
       replace r3:=r3.put1 g46 m8 (by decide)
       replace hmW:=hmW.put1 g46 m8 (by decide) (by omega)
       replace m8:=zq
       refine sT [] fun a hF=> ?_
       refine cR (yB (yT ?_))
       refine rB m8 hF ?_
       replace e0:=e0.grew g46 (sep.l 0)
       rw[step_ask (by omega),hA];exact⟨⟨_,_,_,_,_,_,rfl,r1,r2,r3,r4,hgA,hmW⟩,MG.ofExt e0⟩
      ·skip
       refine qP [(25,.bool (decide (kd=(16:Int))))] hF fun a hF=> ?_
       refine cJ 25 hF (fun hc47=> ?_) fun hc47=> ?_
       ·skip
        refine cN ?_
        refine tK ?_
        refine cJ 25 hF (fun hx48=> ?_) fun hx48=>absurd hc47 hx48
        refine qS hF ?_
        refine tR 1 m3 ?_
        obtain⟨A,hA⟩:∃A,askM M kd s=A:=⟨_,rfl⟩
        have hbm:=blk_lt hm
        replace kt:=(kt.ext g2).ext g7
        replace e0:=e0.ext g7
        refine tG 2 (ask_r _ mb mp M L ck ea ec es (md.ext e0) kd n s oa l.length oc ka kn kc hsz kt hE A hA) ?_
        rintro _ h49 ⟨qa,qc,ia,ic,pa,pc,rfl,r1,r2,r3,r4,hgA,hmW,g⟩
        replace hgA:=fun k e=>Nat.le_trans e0.size (hgA k e)
        replace e0:=e0.ext g
        replace kt:=kt.ext g
        replace m3:=m3.x g
        replace m8:=m8.x g
        replace sep:=sep.up g.size
        clear g
        refine tV0 3 (asc A.c (.slice qa A.b.length qc) A.sx A.se A.sh A.sg (.slice ia A.i.length ic) A.n A.y A.k (.slice pa A.p.length pc)) m8 fun h50 g51 zq=> ?_
        replace r1:=r1.put1 g51 m8 (by decide)
        replace r2:=r2.put1 g51 m8 (by decide)
        replace r3:=r3.put1 g51 m8 (by decide)
        replace hmW:=hmW.put1 g51 m8 (by decide) (by omega)
        replace m8:=zq
        refine sT [] fun a hF=> ?_
        refine cR (yB (yT ?_))
        refine rB m8 hF ?_
        replace e0:=e0.grew g51 (sep.l 0)
        rw[step_ask (by omega),hA];exact⟨⟨_,_,_,_,_,_,rfl,r1,r2,r3,r4,hgA,hmW⟩,MG.ofExt e0⟩
       ·skip
        refine rP [(25,.bool (decide (kd=(15:Int))))] hF fun a hF=> ?_
        refine tK ?_
        refine cJ 25 hF (fun hc52=> ?_) fun hc52=> ?_
        ·skip
         refine qS hF ?_
         refine tR 1 m3 ?_
         obtain⟨A,hA⟩:∃A,askM M kd s=A:=⟨_,rfl⟩
         have hbm:=blk_lt hm
         replace kt:=(kt.ext g2).ext g7
         replace e0:=e0.ext g7
         refine tG 2 (ask_r _ mb mp M L ck ea ec es (md.ext e0) kd n s oa l.length oc ka kn kc hsz kt hE A hA) ?_
         rintro _ h53 ⟨qa,qc,ia,ic,pa,pc,rfl,r1,r2,r3,r4,hgA,hmW,g⟩
         replace hgA:=fun k e=>Nat.le_trans e0.size (hgA k e)
         replace e0:=e0.ext g
         replace kt:=kt.ext g
         replace m3:=m3.x g
         replace m8:=m8.x g
         replace sep:=sep.up g.size
         clear g
         refine tV0 3 (asc A.c (.slice qa A.b.length qc) A.sx A.se A.sh A.sg (.slice ia A.i.length ic) A.n A.y A.k (.slice pa A.p.length pc)) m8 fun h54 g55 zq=> ?_
         replace r1:=r1.put1 g55 m8 (by decide)
         replace r2:=r2.put1 g55 m8 (by decide)
         replace r3:=r3.put1 g55 m8 (by decide)
         replace hmW:=hmW.put1 g55 m8 (by decide) (by omega)
         replace m8:=zq
         refine sT [] fun a hF=> ?_
         refine cR (yB (yT ?_))
         refine rB m8 hF ?_
         replace e0:=e0.grew g55 (sep.l 0)
         rw[step_ask (by omega),hA];exact⟨⟨_,_,_,_,_,_,rfl,r1,r2,r3,r4,hgA,hmW⟩,MG.ofExt e0⟩
        ·skip
         refine cS ?_
         refine qP [(33,.bool (decide (kd=(7:Int))))] hF fun a hF=> ?_
         refine cJ 33 hF (fun hc56=> ?_) fun hc56=> ?_
         ·skip
          refine cN ?_
          refine tK ?_
          refine cJ 33 hF (fun hx57=> ?_) fun hx57=>absurd hc56 hx57
          refine rS hF ?_
          refine tO 2 0 m3 ?_
          refine eF 3 kd 8 ?_
          replace e0:=e0.ext g7
          refine tG 4 (ids_all _ mb mp M L ck ea ec es (md.ext e0) hE) ?_
          rintro _ h62 ⟨ad58,cap59,rfl,own_x,hg61,g60⟩
          replace sep:=sep.co g60 hg61 own_x e0.size
          replace m8:=m8.x g60
          refine tV 6 39 [.slice ad58 ((idsM M).length) cap59] (asc (0:Int) (.slice none 0 0) rb0 (0:Int) false false (.slice ad58 ((idsM M).length) cap59) (0:Int) rb0 (0:Int) (.slice none 0 0)) m8 fun h63 g64 zq=> ?_
          replace m8:=zq
          refine sE [] fun a hF=> ?_
          refine bK ?_
          refine tK ?_
          refine qS hF ?_
          refine tR 0 m8 ?_
          refine tV0 1 (asc (0:Int) (.slice none 0 0) rb0 (0:Int) false false (.slice ad58 ((idsM M).length) cap59) (0:Int) rb0 (0:Int) (.slice none 0 0)) m8 fun h65 g66 zq=> ?_
          replace m8:=zq
          refine sT [] fun a hF=> ?_
          refine cR ?_
          refine rB m8 hF ?_
          replace e0:=((e0.ext g60).grew g64 (sep.l 1)).grew g66 (sep.l 1)
          replace own_x:=(own_x.k g64 (sep.ap 0 1)).k g66 (sep.ap 0 1)
          rw[step_ids hc56];exact⟨ansO_mk md e0 rfl (Own.nil _ _ _) nilge own_x (sep.low 0 rfl) (Own.nil _ _ _) nilge All32.nil,MG.ofExt e0⟩
         ·skip
          refine rP [(33,.bool (decide (kd=(8:Int))))] hF fun a hF=> ?_
          refine tK ?_
          refine cJ 33 hF (fun hc67=> ?_) fun hc67=> ?_
          ·skip
           refine rS hF ?_
           refine tO 2 0 m3 ?_
           refine eT 3 kd 8 ?_
           replace e0:=e0.ext g7
           refine tG 4 (ids_due _ mb mp M L ck ea ec es (md.ext e0) hE) ?_
           rintro _ h72 ⟨ad68,cap69,rfl,own_x,hg71,g70⟩
           replace sep:=sep.co g70 hg71 own_x e0.size
           replace m8:=m8.x g70
           refine tV 6 39 [.slice ad68 ((dueM M).length) cap69] (asc (0:Int) (.slice none 0 0) rb0 (0:Int) false false (.slice ad68 ((dueM M).length) cap69) (0:Int) rb0 (0:Int) (.slice none 0 0)) m8 fun h73 g74 zq=> ?_
           replace m8:=zq
           refine sE [] fun a hF=> ?_
           refine bK ?_
           refine tK ?_
           refine qS hF ?_
           refine tR 0 m8 ?_
           refine tV0 1 (asc (0:Int) (.slice none 0 0) rb0 (0:Int) false false (.slice ad68 ((dueM M).length) cap69) (0:Int) rb0 (0:Int) (.slice none 0 0)) m8 fun h75 g76 zq=> ?_
           replace m8:=zq
           refine sT [] fun a hF=> ?_
           refine cR ?_
           refine rB m8 hF ?_
           replace e0:=((e0.ext g70).grew g74 (sep.l 1)).grew g76 (sep.l 1)
           replace own_x:=(own_x.k g74 (sep.ap 0 1)).k g76 (sep.ap 0 1)
           rw[step_due hc67];exact⟨ansO_mk md e0 rfl (Own.nil _ _ _) nilge own_x (sep.low 0 rfl) (Own.nil _ _ _) nilge All32.nil,MG.ofExt e0⟩
          ·skip
           refine qP [(42,.bool (decide (kd=(9:Int))))] hF fun a hF=> ?_
           refine cJ 42 hF (fun hc77=> ?_) fun hc77=> ?_
           ·skip
            refine cD [0,1,3,7,15,0,32,96,255,511,1023] 18 mixed hF ?_
            refine mP 7 [0,1,2] [pV mb,pV mb,.pointer (some ⟨mb,1,none⟩)] ?_
            replace e0:=e0.ext g7
            refine mO 15 8 3 1 (.slice ea M.E.length ec) (e0.blk hm) ?_
            refine mP 63 [4,5] [nV M.E.length,pV mb] ?_
            replace kt:=(kt.ext g2).ext g7
            refine mFp 127 96 6 [3] (Does.call (f:=37) (args:= #[.pointer (some ⟨mb,0,none⟩)]) (by kernel_rfl) (leaves_sat _ mb mp M L ck ea ec es (md.ext e0) kt hE)) ?_
            rintro _ h82 ⟨ad78,cap79,rfl,own_l,hg81,g80⟩
            replace sep:=sep.co g80 hg81 own_l e0.size
            replace e0:=e0.ext g80
            refine⟨?_,?_⟩
            ·intro j hj
             simp only[List.mem_cons,List.not_mem_nil,or_false] at hj
             subst hj
             exact goodOf (Calm.load (T:=67) (p:=⟨mb,1,none⟩) (by kernel_rfl) (Loads.one (k:=1) (by kernel_rfl) ((hcell_blk (e0.blk hm)).trans rfl)))
            replace kt:=kt.ext g80
            refine mFp 255 224 7 [3] (Does.call (f:=36) (args:= #[.slice ad78 M.E.length cap79]) (by kernel_rfl) (rroot_r _ (ledH M.E) _ _ M.E.length (HR.of own_l (ledH_32 _)) (by omega) kt)) ?_
            rintro _ h84 ⟨rfl,g83⟩
            replace e0:=e0.ext g83
            refine⟨?_,?_⟩
            ·intro j hj
             simp only[List.mem_cons,List.not_mem_nil,or_false] at hj
             subst hj
             exact goodOf (Calm.load (T:=67) (p:=⟨mb,1,none⟩) (by kernel_rfl) (Loads.one (k:=1) (by kernel_rfl) ((hcell_blk (e0.blk hm)).trans rfl)))
            refine mP 1023 [8,9] [.agg (hdc ((M.E.length :Nat):Int) (rbh (root (ledH M.E)))).toArray,.pointer (some ⟨h1.size,40,none⟩)] ?_
            replace m8:=(m8.x g80).x g83
            refine mV 2047 2047 10 40 (hdc ((M.E.length :Nat):Int) (rbh (root (ledH M.E)))) (asc (0:Int) (.slice none 0 0) rb0 (0:Int) false false (.slice none 0 0) ((M.E.length :Nat):Int) (rbh (root (ledH M.E))) (0:Int) (.slice none 0 0)) m8 fun h85 g86 zq=> ?_
            replace m8:=zq
            refine mE [] fun a hF=> ?_
            refine bK ?_
            refine tK ?_
            refine qS hF ?_
            refine tR 0 m8 ?_
            refine tV0 1 (asc (0:Int) (.slice none 0 0) rb0 (0:Int) false false (.slice none 0 0) ((M.E.length :Nat):Int) (rbh (root (ledH M.E))) (0:Int) (.slice none 0 0)) m8 fun h87 g88 zq=> ?_
            replace m8:=zq
            refine sT [] fun a hF=> ?_
            refine cR ?_
            refine rB m8 hF ?_
            replace e0:=(e0.grew g86 (sep.l 1)).grew g88 (sep.l 1)
            rw[step_head hc77];exact⟨ansO_mk md e0 rfl (Own.nil _ _ _) nilge (Own.nil _ _ _) nilge (Own.nil _ _ _) nilge All32.nil,MG.ofExt e0⟩
           ·skip
            refine qP [(54,.bool (decide (kd=(10:Int))))] hF fun a hF=> ?_
            refine cJ 54 hF (fun hc89=> ?_) fun hc89=> ?_
            ·skip
             refine cD [0,1,3,7,0,16,48,0,128,384,896,1920,4080,8191,16383,32767,65535] 20 mixed hF ?_
             refine mP 7 [0,1,2] [pV mb,pV mb,.pointer (some ⟨mb,2,none⟩)] ?_
             replace e0:=e0.ext g7
             refine mO 15 8 3 2 (.int .i64 M.t) (e0.blk hm) ?_
             refine mP 31 [4] [.pointer (some ⟨h.size,3,none⟩)] ?_
             refine mO 63 40 5 3 (.int .i64 n) m3 ?_
             refine m1 127 6 (.int .i64 (max 0 n)) (.int .i64 (if n>(0:Int) then n else (0:Int))) (congrArg (Value.int .i64) (by omega)) ?_
             refine mP 1023 [7,8,9] [pV mb,pV mb,.pointer (some ⟨mb,2,none⟩)] ?_
             refine mO 2047 1064 10 2 (.int .i64 M.t) (e0.blk hm) ?_
             refine m1 4095 11 (.int .i64 (1099511627776 - M.t)) (.int .i64 (IntKind.i64.wrap ((1099511627776:Int) - M.t))) (congrArg (Value.int .i64) (w64 (by have:=md.t0;have:=md.t1;omega) (by have:=md.t0;have:=md.t1;omega))) ?_
             refine m1 8191 12 (.int .i64 (min (max 0 n) (1099511627776 - M.t))) (.int .i64 (if (1099511627776 - M.t)<(max 0 n) then (1099511627776 - M.t) else (max 0 n))) (congrArg (Value.int .i64) (by have:=md.t0;have:=md.t1;omega)) ?_
             refine m1 16383 13 (.int .i64 (M.t +min (max 0 n) (1099511627776 - M.t))) (.int .i64 (IntKind.i64.wrap (M.t +min (max 0 n) (1099511627776 - M.t)))) (congrArg (Value.int .i64) (w64 (by have:=md.t0;have:=md.t1;omega) (by have:=md.t0;have:=md.t1;omega))) ?_
             refine mP 65535 [14,15] [pV mb,.pointer (some ⟨mb,2,none⟩)] ?_
             have hmo:=e0.blk hm
             refine mF0 131071 131071 16 (Does.store (b:=mb) (off:=2) (vs:=[.int .i64 (M.t +min (max 0 n) (1099511627776 - M.t))]) (l:=[.map (some mp),.slice ea M.E.length ec,.int .i64 M.t]) (by kernel_rfl) hmo (of_decide_eq_true (by kernel_rfl)) (List.all_eq_true.1 (by kernel_rfl))) ?_
             rintro _ h90 ⟨rfl,hh⟩
             have gt:=hput_gr hh
             have hmn:h90[mb]? =some (.cells ([.map (some mp),.slice ea M.E.length ec,.int .i64 (M.t +min (max 0 n) (1099511627776 - M.t))]).toArray 83):=hput_at (off:=2) (vs:=[.int .i64 (M.t +min (max 0 n) (1099511627776 - M.t))]) (l:=[.map (some mp),.slice ea M.E.length ec,.int .i64 M.t]) hh (by kernel_rfl) hmo
             have ht0:=md.t0;have ht1:=md.t1
             have hmod:ModW W h90 mb mp ⟨M.f,M.E,(M.t +min (max 0 n) (1099511627776 - M.t))⟩:=⟨_,_,_,_,_,(md.ext e0).tick gt hmn (by omega) (by omega)⟩
             have gm:=MG.ofB (p:=mp) gt
             have gk:MG mb mp h h90:=(MG.ofExt e0).trans gm
             have hbm:=blk_lt hm;have hbp:=blk_lt hp
             replace m8:=gm.blk m8 (by omega) (by omega)
             replace sep:=sep.up gm.1
             refine mE [] fun a hF=> ?_
             refine bK ?_
             refine tK ?_
             refine qS hF ?_
             refine tR 0 m8 ?_
             refine tV0 1 (asc (0:Int) (.slice none 0 0) rb0 (0:Int) false false (.slice none 0 0) (0:Int) rb0 (0:Int) (.slice none 0 0)) m8 fun h91 g92 zq=> ?_
             replace hmod:=hmod.put1 g92 m8 (by decide) (by omega)
             replace m8:=zq
             refine sT [] fun a hF=> ?_
             refine cR ?_
             refine rB m8 hF ?_
             replace gk:=gk.ofO g92 (fun x e=>by cases e;omega)
             rw[step_tick hc89];exact⟨ansO_w hmod 0,gk⟩
            ·skip
             refine cS ?_
             refine qP [(72,.bool (decide (kd=(11:Int))))] hF fun a hF=> ?_
             refine cJ 72 hF (fun hc93=> ?_) fun hc93=> ?_
             ·skip
              refine cN ?_
              refine tK ?_
              refine cJ 72 hF (fun hx94=> ?_) fun hx94=>absurd hc93 hx94
              refine cN ?_
              refine bK ?_
              refine tK ?_
              refine qS hF ?_
              refine tR 0 m8 ?_
              refine tV0 1 (asc (0:Int) (.slice none 0 0) rb0 (0:Int) false false (.slice none 0 0) (0:Int) rb0 (0:Int) (.slice none 0 0)) m8 fun h95 g96 zq=> ?_
              replace m8:=zq
              refine sT [] fun a hF=> ?_
              refine cR ?_
              refine rB m8 hF ?_
              replace e0:=(e0.ext g7).grew g96 (sep.l 0)
              rw[step_still (by omega)];exact⟨ansO_c md e0 0,MG.ofExt e0⟩
             ·skip
              refine qP [(72,.bool (decide (kd=(12:Int))))] hF fun a hF=> ?_
              refine cJ 72 hF (fun hc97=> ?_) fun hc97=> ?_
              ·skip
               refine cN ?_
               refine tK ?_
               refine cJ 72 hF (fun hx98=> ?_) fun hx98=>absurd hc97 hx98
               refine cN ?_
               refine bK ?_
               refine tK ?_
               refine qS hF ?_
               refine tR 0 m8 ?_
               refine tV0 1 (asc (0:Int) (.slice none 0 0) rb0 (0:Int) false false (.slice none 0 0) (0:Int) rb0 (0:Int) (.slice none 0 0)) m8 fun h99 g100 zq=> ?_
               replace m8:=zq
               refine sT [] fun a hF=> ?_
               refine cR ?_
               refine rB m8 hF ?_
               replace e0:=(e0.ext g7).grew g100 (sep.l 0)
               rw[step_still (by omega)];exact⟨ansO_c md e0 0,MG.ofExt e0⟩
              ·skip
               refine qP [(72,.bool (decide (kd=(13:Int))))] hF fun a hF=> ?_
               refine cJ 72 hF (fun hc101=> ?_) fun hc101=> ?_
               ·skip
                refine cN ?_
                refine tK ?_
                refine cJ 72 hF (fun hx102=> ?_) fun hx102=>absurd hc101 hx102
                refine cN ?_
                refine bK ?_
                refine tK ?_
                refine qS hF ?_
                refine tR 0 m8 ?_
                refine tV0 1 (asc (0:Int) (.slice none 0 0) rb0 (0:Int) false false (.slice none 0 0) (0:Int) rb0 (0:Int) (.slice none 0 0)) m8 fun h103 g104 zq=> ?_
                replace m8:=zq
                refine sT [] fun a hF=> ?_
                refine cR ?_
                refine rB m8 hF ?_
                replace e0:=(e0.ext g7).grew g104 (sep.l 0)
                rw[step_still (by omega)];exact⟨ansO_c md e0 0,MG.ofExt e0⟩
               ·skip
                refine rP [(72,.bool (decide (kd=(14:Int))))] hF fun a hF=> ?_
                refine tK ?_
                refine cJ 72 hF (fun hc105=> ?_) fun hc105=> ?_
                ·skip
                 refine cN ?_
                 refine bK ?_
                 refine tK ?_
                 refine qS hF ?_
                 refine tR 0 m8 ?_
                 refine tV0 1 (asc (0:Int) (.slice none 0 0) rb0 (0:Int) false false (.slice none 0 0) (0:Int) rb0 (0:Int) (.slice none 0 0)) m8 fun h106 g107 zq=> ?_
                 replace m8:=zq
                 refine sT [] fun a hF=> ?_
                 refine cR ?_
                 refine rB m8 hF ?_
                 replace e0:=(e0.ext g7).grew g107 (sep.l 0)
                 rw[step_still (by omega)];exact⟨ansO_c md e0 0,MG.ofExt e0⟩
                ·skip
                 refine rS hF ?_
                 refine tV 1 0 [.int .i64 1] (asc (1:Int) (.slice none 0 0) rb0 (0:Int) false false (.slice none 0 0) (0:Int) rb0 (0:Int) (.slice none 0 0)) m8 fun h108 g109 zq=> ?_
                 replace m8:=zq
                 refine sE [] fun a hF=> ?_
                 refine bK ?_
                 refine tK ?_
                 refine qS hF ?_
                 refine tR 0 m8 ?_
                 refine tV0 1 (asc (1:Int) (.slice none 0 0) rb0 (0:Int) false false (.slice none 0 0) (0:Int) rb0 (0:Int) (.slice none 0 0)) m8 fun h110 g111 zq=> ?_
                 replace m8:=zq
                 refine sT [] fun a hF=> ?_
                 refine cR ?_
                 refine rB m8 hF ?_
                 replace e0:=((e0.ext g7).grew g109 (sep.l 0)).grew g111 (sep.l 0)
                 rw[step_no (by omega) (by omega) (by omega) (by omega) (by omega) (by omega) (by omega) (by omega)];exact⟨ansO_c md e0 1,MG.ofExt e0⟩
theorem do_sat(h:Heap)(mb mp:Nat)(M:Md)(m:Mod h mb mp M)(kd n:Int)(s:ByteArray)(l:List UInt8)(oa:Option Addr)(oc:Nat)(ka:Option Addr)(kn kc:Nat)(hr:Row h (.slice oa l.length oc) l.length 1 (l.map bv))(hsz:s.size ≤9223372036854775807)(kt:Ktab h)(hE:M.E.length ≤1099511627):Sat Tryz.prog 17 #[.pointer (some ⟨mb,0,none⟩),.agg #[.int .i64 kd,.string s,.slice oa l.length oc,.int .i64 n,.slice ka kn kc]] h fun v h'=>AnsAt h' v (step M kd n s l).2 ∧Mod h' mb mp (step M kd n s l).1 ∧MG mb mp h h':=by
 obtain⟨L,ck,ea,ec,es,md⟩:=m
 exact(do_a h mb mp M L ck ea ec es md (fun _ e=>e.elim) kd n s l oa oc ka kn kc hr hsz kt hE).mono fun v h' ⟨a,g⟩=>⟨a.at_,a.mod,g⟩
end Go.Proofs.YtegkejcglfgpmaaGreatDoor
end
section
namespace Go.Proofs.YtegkejcglfgpmaaGreatDoor
open Go Go.Lane Go.Sha
noncomputable def b15:Code:=Tryz.f15.body.getD .skip
theorem ModA.new{W:Nat→Prop}{h:Heap}{b p:Nat}(m:h[b]? =some (.cells #[.map (some p),.slice none 0 0,.int .i64 0] 83))(hp:h[p]? =some (.map #[] 0))(kp:0<p)(kb:0<b):ModW W h b p ⟨fun _=>none,[],0⟩:=
 ⟨[],0,none,0,[],{hm:=m,hp:=hp,bo:=⟨by simp,by simp⟩,nd:=by simp,ob:=by simp,al:=by simp,er:=RowW.nil _ _ _,en:=⟨rfl,by simp⟩,ln:=rfl,t0:=by decide,t1:=by decide,kb:=kb,kp:=kp}⟩
theorem new_m(h:Heap)(hk0:0<h.size):Sat Tryz.prog 15 #[] h fun v h'=>∃b p,v= .pointer (some ⟨b,0,none⟩)∧Mod h' b p ⟨fun _=>none,[],0⟩∧h.size ≤b∧h.size ≤p∧Ext h h':=by
 have e0:=Ext.refl h
 have sep:Sep h.size h.size []:=Sep.nil _ _
 refine sat_in Tryz.func15 4 fun a hF=> ?_
 refine qP [] hF fun a hF=> ?_
 refine qS hF ?_
 refine tF 0 (Does.new (v:= .map (some h.size)) (o:= .map #[] 0) (by kernel_rfl)) ?_
 rintro _ h1 ⟨rfl,hh⟩
 have g1:=push_ext hh
 have mp:=push_at hh
 clear hh
 refine tN 2 (pV h1.size) #[.map (some h.size),.slice none 0 0,.int .i64 0] 83 fun h2 g3 m4=> ?_
 have lt5:=blk_lt m4
 replace e0:=e0.ext g1
 have zs6:=e0.size
 replace sep:=(sep.up g1.size).nw e0.size m4
 refine sT [(0,pV h1.size)] fun a hF=> ?_
 refine cR ?_
 refine rT 0 (pV h1.size) hF ?_
 replace e0:=e0.ext g3
 replace mp:=Ext.blk g3 mp
 exact⟨_,_,rfl,ModA.new m4 mp hk0 (by omega),by omega,Nat.le_refl _,e0⟩
noncomputable def b23:Code:=Tryz.f23.body.getD .skip
set_option maxHeartbeats 1000000 in
theorem clone_a{W:Nat→Prop}(h:Heap)(mb mp:Nat)(M:Md)(L:List Ent)(ck:Nat)(ea:Option Addr)(ec:Nat)(es:List Value)(md:ModA W h mb mp M L ck ea ec es)(hW:∀k,W k→k<h.size)(hE:M.E.length ≤1099511627):Sat Tryz.prog 23 #[.pointer (some ⟨mb,0,none⟩)] h fun v h'=>∃c q,v= .pointer (some ⟨c,0,none⟩)∧ModW W h' c q M∧h.size ≤c∧h.size ≤q∧Ext h h':=by
 have hm:=md.hm
 have hp:=md.hp
 obtain⟨oaf,hg⟩:=md.choose
 have hLn:=md.ln
 have e0:=Ext.refl h
 have sep:Sep h.size h.size []:=Sep.nil _ _
 refine sat_in Tryz.func23 40 fun a hF=> ?_
 refine qP [] hF fun a hF=> ?_
 refine cS ?_
 refine cD [0,1,3,7,15,31,0,64,192,448,991,0,2048,6144,14336,32767,65535,131071] 1 mixed hF ?_
 refine mP 7 [0,1,2] [pV mb,pV mb,pV mb] ?_
 refine mO 15 8 3 0 (.map (some mp)) (e0.blk hm) ?_
 refine mL 31 24 4 (.int .i64 ((L.length :Nat):Int)) (Calm.lenMap (by kernel_rfl) (e0.blk hp) rfl) ?_
 refine mP 479 [6,7,8] [pV mb,pV mb,.pointer (some ⟨mb,1,none⟩)] ?_
 refine mO 991 536 9 1 (.slice ea M.E.length ec) (e0.blk hm) ?_
 refine mP 15327 [11,12,13] [pV mb,pV mb,.pointer (some ⟨mb,2,none⟩)] ?_
 refine mO 31711 16920 14 2 (.int .i64 M.t) (e0.blk hm) ?_
 refine SimK.effs (is:=[5,10]) (by kernel_rfl) (by simp) ?_
 intro q hq
 simp only[List.mem_cons,List.not_mem_nil,or_false] at hq
 rcases hq with rfl|rfl
 ·skip
  refine mFa 31743 63 5 [9,14] (Does.new (v:= .map (some h.size)) (o:= .map #[] 0) (by kernel_rfl)) ?_
  rintro _ h1 ⟨rfl,hh⟩
  have g:=push_ext hh
  have hq:=push_at hh
  have hlo:=e0.size
  have sepo:=sep
  replace e0:=e0.ext g
  replace sep:=sep.up g.size
  replace sep:=sepo.new hlo (blk_lt hq)
  clear sepo hlo hh g
  refine⟨?_,?_⟩
  ·intro j hj
   simp only[List.mem_cons,List.not_mem_nil,or_false] at hj
   rcases hj with rfl|rfl
   ·exact goodOf (Calm.load (T:=67) (p:=⟨mb,1,none⟩) (by kernel_rfl) (Loads.one (k:=1) (by kernel_rfl) ((hcell_blk (e0.blk hm)).trans rfl)))
   ·exact goodOf (Calm.load (T:=3) (p:=⟨mb,2,none⟩) (by kernel_rfl) (Loads.one (k:=1) (by kernel_rfl) ((hcell_blk (e0.blk hm)).trans rfl)))
  refine mFp 32767 2047 10 [14] (Does.call (f:=44) (args:= #[.slice ea M.E.length ec]) (by kernel_rfl) (clonee_sat _ es M.E.length ea ec (md.er.1.1.ext e0) (by omega) (ents_one md.en))) ?_
  rintro _ h6 ⟨ad2,cap3,rfl,own_e,hg5,g4⟩
  replace sep:=sep.co g4 hg5 own_e e0.size
  replace e0:=e0.ext g4
  refine⟨?_,?_⟩
  ·intro j hj
   simp only[List.mem_cons,List.not_mem_nil,or_false] at hj
   subst hj
   exact goodOf (Calm.load (T:=3) (p:=⟨mb,2,none⟩) (by kernel_rfl) (Loads.one (k:=1) (by kernel_rfl) ((hcell_blk (e0.blk hm)).trans rfl)))
  refine mP 65535 [15] [.agg #[.map (some h.size),.slice ad2 M.E.length cap3,.int .i64 M.t]] ?_
  refine mN 131071 131071 16 (pV h6.size) #[.map (some h.size),.slice ad2 M.E.length cap3,.int .i64 M.t] 83 fun h7 g8 m9=> ?_
  replace sep:=sep.nw e0.size m9
  refine mP 262143 [17] [pV h6.size] ?_
  refine mE [(3,pV h6.size)] fun a hF=> ?_
  refine tK ?_
  refine cS ?_
  refine qS hF ?_
  replace e0:=e0.ext g8
  refine tO 3 0 (e0.blk hm) ?_
  refine tF 4 (Does.range (t:=81) (k:=9) (el:=101) (by kernel_rfl) (by kernel_rfl) (e0.blk hp)) ?_
  rintro _ h10 ⟨rfl,hh⟩
  have g:=push_ext hh
  have hit:=push_at hh
  have hlo:=e0.size
  have sepo:=sep
  replace hq:=g8.blk (g4.blk hq)
  replace own_e:=own_e.ext g8
  replace e0:=e0.ext g
  replace hq:=g.blk hq
  replace own_e:=own_e.ext g
  replace m9:=m9.x g
  replace sep:=sep.up g.size
  replace sep:=sepo.new hlo (blk_lt hit)
  clear sepo hlo hh g
  refine sT [(27,pV h7.size)] fun a hF=> ?_
  refine cB 0 ?_
  have hq:h10[h.size]? =some (.map (ents ([]:List Ent)) ([]:List Ent).length):=hq
  refine cL (fun m a h'=>∃D:List Ent,∃R:List Ent,∃N:List Ent,m=R.length ∧(Ext h h')∧(h'[h6.size]? =some (.cells #[.map (some h.size),.slice ad2 M.E.length cap3,.int .i64 M.t] 83))∧((D++R).Perm L)∧(N.map pr=D.map pr)∧(Born N N.length)∧(h'[h7.size]? =some (itr mp ck D))∧(h'[h.size]? =some (.map (ents N) N.length))∧(Own h' (.slice ad2 M.E.length cap3) 32 M.E.length 1 es)∧(Sep h.size h'.size [some (h7.size),some (h6.size),ad2.map (·.block),some (h.size)])∧(Fr a 40 [(3,.pointer (some ⟨h6.size,0,none⟩)),(27,.pointer (some ⟨h7.size,0,none⟩))])) (L.length) ⟨[],L,[],rfl,e0,m9,(List.Perm.refl _),rfl,Born.nil,hit,hq,own_e,sep,hF.to⟩ ?_
  clear hF a
  clear e0
  clear m9
  clear hit
  clear hq
  clear own_e
  clear sep
  rintro m a h11 ⟨D,R,N,rfl,e0,m9,hP,hN,hB,hit,hq,own_e,sep,hF⟩
  refine cS ?_
  rcases(by cases R<;>simp:R=[]∨R≠[]) with hR|hR
  ·skip
   refine rS hF ?_
   refine tC 0 (.tuple #[.bool false]) (nextNil (by kernel_rfl) hit (e0.blk hp) hP md.bo hR) ?_
   refine sE [(29,.bool false)] fun a hF=> ?_
   refine tK ?_
   refine cS ?_
   refine cF 29 hF ?_
   refine cX 0 (xT (xT (xB ?_)))
   refine tK ?_
   refine qP [(2,pV h6.size)] hF fun a hF=> ?_
   refine cR ?_
   refine rT 2 (pV h6.size) hF ?_
   subst hR
   rw[List.append_nil] at hP
   exact⟨_,_,rfl,md.cloned e0 m9 hq hN hP hB own_e (sep.low 1 rfl _ rfl) (sep.low 3 rfl _ rfl) hW (sep.low 2 rfl),sep.low 1 rfl _ rfl,sep.low 3 rfl _ rfl,e0⟩
  ·skip
   refine rS hF ?_
   refine tF 0 (nextCons (by kernel_rfl) hit (e0.blk hp) hP md.bo hR) ?_
   rintro _ h12 ⟨x,R',hP2,hRl,hxL,rfl,hh⟩
   obtain⟨hit2,gi⟩:=itr_put hh hit
   replace e0:=e0.grew gi (sep.l 0)
   replace own_e:=own_e.k gi (sep.ap 2 0)
   replace hit:=hit
   replace hq:=gi.blk hq (sep.bp 3 0)
   replace m9:=m9.y gi (sep.bp 1 0)
   replace sep:=sep.up gi.size
   clear hit;have hit:=hit2;clear hit2 hh gi
   have hh3:=hg x hxL
   have hDl:D.length <L.length :=by have:=hP2.length_eq;simp at this;omega
   refine sE [(29,.bool true)] fun a hF=> ?_
   refine tK ?_
   refine cS ?_
   refine cT 29 hF ?_
   refine cN ?_
   refine tK ?_
   refine cB 1 ?_
   refine qS hF ?_
   refine tC 0 (.tuple #[.string x.1,.agg (obx ((rcG oaf x).b) ((rcG oaf x).e) ((rcG oaf x).ho) ((rcG oaf x).go) (.slice (rcG oaf x).ad ((rcG oaf x).n) ((rcG oaf x).cap)) (.slice (oaf x).ba ((oaf x).o.dt.length) ((oaf x).bc))).toArray]) (entryV (by kernel_rfl) hit (e0.blk hp) hxL md.bo hh3.hv) ?_
   refine tN 3 (pV h12.size) ((obx rb0 (0:Int) false false (.slice none 0 0) (.slice none 0 0)).toArray) 101 fun h13 g14 m15=> ?_
   replace sep:=sep.nw e0.size m15
   refine tV0 5 (obx ((rcG oaf x).b) ((rcG oaf x).e) ((rcG oaf x).ho) ((rcG oaf x).go) (.slice (rcG oaf x).ad ((rcG oaf x).n) ((rcG oaf x).cap)) (.slice (oaf x).ba ((oaf x).o.dt.length) ((oaf x).bc))) m15 fun h16 g17 zq=> ?_
   replace m15:=zq
   refine sT [(4,.string x.1),(5,pV h12.size)] fun a hF=> ?_
   refine cD [0,1,3,7,0,0,63] 5 mixed hF ?_
   refine mP 7 [0,1,2] [pV h6.size,pV h6.size,pV h6.size] ?_
   replace m9:=(m9.x g14).y g17 (sep.bp 2 0)
   refine mO 15 8 3 0 (.map (some h.size)) m9 ?_
   refine mP 31 [4] [.string x.1] ?_
   refine mR 63 40 5 m15 ?_
   replace hq:=g17.blk (g14.blk hq) (sep.bp 4 0)
   refine mF0 127 127 6 (Does.mapNew (t:=81) (k:=9) (el:=101) (v:= .agg (obx ((rcG oaf x).b) ((rcG oaf x).e) ((rcG oaf x).ho) ((rcG oaf x).go) (.slice (rcG oaf x).ad ((rcG oaf x).n) ((rcG oaf x).cap)) (.slice (oaf x).ba ((oaf x).o.dt.length) ((oaf x).bc))).toArray) (by kernel_rfl) (by kernel_rfl) (by kernel_rfl) hq (pr_new hN hP2 md.nd)) ?_
   rintro _ h18 ⟨rfl,hh⟩
   have gq:=hput_gr hh
   have hq2:=hput_map hh hq
   replace e0:=(e0.ext g14).grew g17 (sep.l 0)
   replace own_e:=(own_e.ext g14).k g17 (sep.ap 3 0)
   replace hit:=g17.blk (g14.blk hit) (sep.bp 1 0)
   replace sep:=sep.up g17.size
   replace e0:=e0.grew gq (sep.l 4)
   replace own_e:=own_e.k gq (sep.ap 3 4)
   replace hit:=gq.blk hit (sep.bp 1 4)
   replace hq:=hq
   replace m9:=m9.y gq (sep.bp 2 4)
   replace m15:=m15.y gq (sep.bp 0 4)
   replace sep:=sep.up gq.size
   rw[show N.length +1=(N++[(x.1,(.agg (obx ((rcG oaf x).b) ((rcG oaf x).e) ((rcG oaf x).ho) ((rcG oaf x).go) (.slice (rcG oaf x).ad ((rcG oaf x).n) ((rcG oaf x).cap)) (.slice (oaf x).ba ((oaf x).o.dt.length) ((oaf x).bc))).toArray :Value),N.length)]).length by rw[List.length_append];rfl] at hq2
   clear hq;have hq:=hq2;clear hq2 hh gq
   refine mE [] fun a hF=> ?_
   refine bK ?_
   clear m15
   replace sep:=sep.sub (l':=[some (h7.size),some (h6.size),ad2.map (·.block),some (h.size)]) (.cons _ (.cons_cons _ (.cons_cons _ (.cons_cons _ (.cons_cons _ (.slnil))))))
   show ∃m',m'<_∧_
   refine⟨_,?_,(D++[x]),R',(N++[(x.1,_,N.length)]),rfl,e0,m9,hP2,(pr_snoc hN hh3.hv _),(hB.one _ _),hit,hq,own_e,sep,hF.to⟩
   omega
 ·skip
  refine mFa 32735 2015 10 [14] (Does.call (f:=44) (args:= #[.slice ea M.E.length ec]) (by kernel_rfl) (clonee_sat _ es M.E.length ea ec (md.er.1.1.ext e0) (by omega) (ents_one md.en))) ?_
  rintro _ h23 ⟨ad19,cap20,rfl,own_e,hg22,g21⟩
  replace sep:=sep.co g21 hg22 own_e e0.size
  replace e0:=e0.ext g21
  refine⟨?_,?_⟩
  ·intro j hj
   simp only[List.mem_cons,List.not_mem_nil,or_false] at hj
   subst hj
   exact goodOf (Calm.load (T:=3) (p:=⟨mb,2,none⟩) (by kernel_rfl) (Loads.one (k:=1) (by kernel_rfl) ((hcell_blk (e0.blk hm)).trans rfl)))
  refine mFp 32767 2047 5 [14] (Does.new (v:= .map (some h23.size)) (o:= .map #[] 0) (by kernel_rfl)) ?_
  rintro _ h24 ⟨rfl,hh⟩
  have g:=push_ext hh
  have hq:=push_at hh
  have hlo:=e0.size
  have sepo:=sep
  replace e0:=e0.ext g
  replace own_e:=own_e.ext g
  replace sep:=sep.up g.size
  replace sep:=sepo.new hlo (blk_lt hq)
  clear sepo hlo hh g
  refine⟨?_,?_⟩
  ·intro j hj
   simp only[List.mem_cons,List.not_mem_nil,or_false] at hj
   subst hj
   exact goodOf (Calm.load (T:=3) (p:=⟨mb,2,none⟩) (by kernel_rfl) (Loads.one (k:=1) (by kernel_rfl) ((hcell_blk (e0.blk hm)).trans rfl)))
  refine mP 65535 [15] [.agg #[.map (some h23.size),.slice ad19 M.E.length cap20,.int .i64 M.t]] ?_
  refine mN 131071 131071 16 (pV h24.size) #[.map (some h23.size),.slice ad19 M.E.length cap20,.int .i64 M.t] 83 fun h25 g26 m27=> ?_
  replace sep:=sep.nw e0.size m27
  refine mP 262143 [17] [pV h24.size] ?_
  refine mE [(3,pV h24.size)] fun a hF=> ?_
  refine tK ?_
  refine cS ?_
  refine qS hF ?_
  replace e0:=e0.ext g26
  refine tO 3 0 (e0.blk hm) ?_
  refine tF 4 (Does.range (t:=81) (k:=9) (el:=101) (by kernel_rfl) (by kernel_rfl) (e0.blk hp)) ?_
  rintro _ h28 ⟨rfl,hh⟩
  have g:=push_ext hh
  have hit:=push_at hh
  have hlo:=e0.size
  have sepo:=sep
  replace own_e:=own_e.ext g26
  replace hq:=g26.blk hq
  replace e0:=e0.ext g
  replace own_e:=own_e.ext g
  replace hq:=g.blk hq
  replace m27:=m27.x g
  replace sep:=sep.up g.size
  replace sep:=sepo.new hlo (blk_lt hit)
  clear sepo hlo hh g
  refine sT [(27,pV h25.size)] fun a hF=> ?_
  refine cB 0 ?_
  have hq:h28[h23.size]? =some (.map (ents ([]:List Ent)) ([]:List Ent).length):=hq
  refine cL (fun m a h'=>∃D:List Ent,∃R:List Ent,∃N:List Ent,m=R.length ∧(Ext h h')∧(h'[h24.size]? =some (.cells #[.map (some h23.size),.slice ad19 M.E.length cap20,.int .i64 M.t] 83))∧((D++R).Perm L)∧(N.map pr=D.map pr)∧(Born N N.length)∧(h'[h25.size]? =some (itr mp ck D))∧(h'[h23.size]? =some (.map (ents N) N.length))∧(Own h' (.slice ad19 M.E.length cap20) 32 M.E.length 1 es)∧(Sep h.size h'.size [some (h25.size),some (h24.size),some (h23.size),ad19.map (·.block)])∧(Fr a 40 [(3,.pointer (some ⟨h24.size,0,none⟩)),(27,.pointer (some ⟨h25.size,0,none⟩))])) (L.length) ⟨[],L,[],rfl,e0,m27,(List.Perm.refl _),rfl,Born.nil,hit,hq,own_e,sep,hF.to⟩ ?_
  clear hF a
  clear e0
  clear m27
  clear hit
  clear hq
  clear own_e
  clear sep
  rintro m a h29 ⟨D,R,N,rfl,e0,m27,hP,hN,hB,hit,hq,own_e,sep,hF⟩
  refine cS ?_
  rcases(by cases R<;>simp:R=[]∨R≠[]) with hR|hR
  ·skip
   refine rS hF ?_
   refine tC 0 (.tuple #[.bool false]) (nextNil (by kernel_rfl) hit (e0.blk hp) hP md.bo hR) ?_
   refine sE [(29,.bool false)] fun a hF=> ?_
   refine tK ?_
   refine cS ?_
   refine cF 29 hF ?_
   refine cX 0 (xT (xT (xB ?_)))
   refine tK ?_
   refine qP [(2,pV h24.size)] hF fun a hF=> ?_
   refine cR ?_
   refine rT 2 (pV h24.size) hF ?_
   subst hR
   rw[List.append_nil] at hP
   exact⟨_,_,rfl,md.cloned e0 m27 hq hN hP hB own_e (sep.low 1 rfl _ rfl) (sep.low 2 rfl _ rfl) hW (sep.low 3 rfl),sep.low 1 rfl _ rfl,sep.low 2 rfl _ rfl,e0⟩
  ·skip
   refine rS hF ?_
   refine tF 0 (nextCons (by kernel_rfl) hit (e0.blk hp) hP md.bo hR) ?_
   rintro _ h30 ⟨x,R',hP2,hRl,hxL,rfl,hh⟩
   obtain⟨hit2,gi⟩:=itr_put hh hit
   replace e0:=e0.grew gi (sep.l 0)
   replace own_e:=own_e.k gi (sep.ap 3 0)
   replace hit:=hit
   replace hq:=gi.blk hq (sep.bp 2 0)
   replace m27:=m27.y gi (sep.bp 1 0)
   replace sep:=sep.up gi.size
   clear hit;have hit:=hit2;clear hit2 hh gi
   have hh3:=hg x hxL
   have hDl:D.length <L.length :=by have:=hP2.length_eq;simp at this;omega
   refine sE [(29,.bool true)] fun a hF=> ?_
   refine tK ?_
   refine cS ?_
   refine cT 29 hF ?_
   refine cN ?_
   refine tK ?_
   refine cB 1 ?_
   refine qS hF ?_
   refine tC 0 (.tuple #[.string x.1,.agg (obx ((rcG oaf x).b) ((rcG oaf x).e) ((rcG oaf x).ho) ((rcG oaf x).go) (.slice (rcG oaf x).ad ((rcG oaf x).n) ((rcG oaf x).cap)) (.slice (oaf x).ba ((oaf x).o.dt.length) ((oaf x).bc))).toArray]) (entryV (by kernel_rfl) hit (e0.blk hp) hxL md.bo hh3.hv) ?_
   refine tN 3 (pV h30.size) ((obx rb0 (0:Int) false false (.slice none 0 0) (.slice none 0 0)).toArray) 101 fun h31 g32 m33=> ?_
   replace sep:=sep.nw e0.size m33
   refine tV0 5 (obx ((rcG oaf x).b) ((rcG oaf x).e) ((rcG oaf x).ho) ((rcG oaf x).go) (.slice (rcG oaf x).ad ((rcG oaf x).n) ((rcG oaf x).cap)) (.slice (oaf x).ba ((oaf x).o.dt.length) ((oaf x).bc))) m33 fun h34 g35 zq=> ?_
   replace m33:=zq
   refine sT [(4,.string x.1),(5,pV h30.size)] fun a hF=> ?_
   refine cD [0,1,3,7,0,0,63] 5 mixed hF ?_
   refine mP 7 [0,1,2] [pV h24.size,pV h24.size,pV h24.size] ?_
   replace m27:=(m27.x g32).y g35 (sep.bp 2 0)
   refine mO 15 8 3 0 (.map (some h23.size)) m27 ?_
   refine mP 31 [4] [.string x.1] ?_
   refine mR 63 40 5 m33 ?_
   replace hq:=g35.blk (g32.blk hq) (sep.bp 3 0)
   refine mF0 127 127 6 (Does.mapNew (t:=81) (k:=9) (el:=101) (v:= .agg (obx ((rcG oaf x).b) ((rcG oaf x).e) ((rcG oaf x).ho) ((rcG oaf x).go) (.slice (rcG oaf x).ad ((rcG oaf x).n) ((rcG oaf x).cap)) (.slice (oaf x).ba ((oaf x).o.dt.length) ((oaf x).bc))).toArray) (by kernel_rfl) (by kernel_rfl) (by kernel_rfl) hq (pr_new hN hP2 md.nd)) ?_
   rintro _ h36 ⟨rfl,hh⟩
   have gq:=hput_gr hh
   have hq2:=hput_map hh hq
   replace e0:=(e0.ext g32).grew g35 (sep.l 0)
   replace own_e:=(own_e.ext g32).k g35 (sep.ap 4 0)
   replace hit:=g35.blk (g32.blk hit) (sep.bp 1 0)
   replace sep:=sep.up g35.size
   replace e0:=e0.grew gq (sep.l 3)
   replace own_e:=own_e.k gq (sep.ap 4 3)
   replace hit:=gq.blk hit (sep.bp 1 3)
   replace hq:=hq
   replace m27:=m27.y gq (sep.bp 2 3)
   replace m33:=m33.y gq (sep.bp 0 3)
   replace sep:=sep.up gq.size
   rw[show N.length +1=(N++[(x.1,(.agg (obx ((rcG oaf x).b) ((rcG oaf x).e) ((rcG oaf x).ho) ((rcG oaf x).go) (.slice (rcG oaf x).ad ((rcG oaf x).n) ((rcG oaf x).cap)) (.slice (oaf x).ba ((oaf x).o.dt.length) ((oaf x).bc))).toArray :Value),N.length)]).length by rw[List.length_append];rfl] at hq2
   clear hq;have hq:=hq2;clear hq2 hh gq
   refine mE [] fun a hF=> ?_
   refine bK ?_
   clear m33
   replace sep:=sep.sub (l':=[some (h25.size),some (h24.size),some (h23.size),ad19.map (·.block)]) (.cons _ (.cons_cons _ (.cons_cons _ (.cons_cons _ (.cons_cons _ (.slnil))))))
   show ∃m',m'<_∧_
   refine⟨_,?_,(D++[x]),R',(N++[(x.1,_,N.length)]),rfl,e0,m27,hP2,(pr_snoc hN hh3.hv _),(hB.one _ _),hit,hq,own_e,sep,hF.to⟩
   omega
noncomputable def b20:Code:=Tryz.f20.body.getD .skip
theorem now_a{W:Nat→Prop}(h:Heap)(mb mp:Nat)(M:Md)(L:List Ent)(ck:Nat)(ea:Option Addr)(ec:Nat)(es:List Value)(md:ModA W h mb mp M L ck ea ec es):Sat Tryz.prog 20 #[.pointer (some ⟨mb,0,none⟩)] h fun v h'=>v= .int .i64 M.t ∧h'=h:=by
 refine sat_in Tryz.func20 7 fun a hF=> ?_
 refine qP [] hF fun a hF=> ?_
 refine qS hF ?_
 refine tC 3 (.int .i64 M.t) (Calm.load (T:=3) (p:=⟨mb,2,none⟩) (by kernel_rfl) (Loads.one (k:=1) (by kernel_rfl) ((hcell_blk md.hm).trans rfl))) ?_
 refine sT [(2,.int .i64 M.t)] fun a hF=> ?_
 refine cR ?_
 refine rT 2 (.int .i64 M.t) hF ?_
 exact⟨rfl,rfl⟩
end Go.Proofs.YtegkejcglfgpmaaGreatDoor
end
section
namespace Go.Proofs.YtegkejcglfgpmaaGreatDoor
open Go Go.Lane Go.Sha
noncomputable def b25:Code:=Tryz.f25.body.getD .skip
theorem same_ne{W:Nat→Prop}(h:Heap)(mb mp:Nat)(M:Md)(L:List Ent)(ck:Nat)(ea:Option Addr)(ec:Nat)(es:List Value)(md:ModA W h mb mp M L ck ea ec es){W2:Nat→Prop}(nb np:Nat)(N:Md)(L2:List Ent)(ck2:Nat)(ea2:Option Addr)(ec2:Nat)(es2:List Value)(md2:ModA W2 h nb np N L2 ck2 ea2 ec2 es2)(hne:M.E.length ≠N.E.length):Sat Tryz.prog 25 #[.pointer (some ⟨mb,0,none⟩),.pointer (some ⟨nb,0,none⟩)] h fun v h'=>v= .bool false∧Ext h h':=by
 have hm:=md.hm
 have hp:=md.hp
 have hm2:=md2.hm
 have hp2:=md2.hp
 have hLn:=md.ln
 have hLn2:=md2.ln
 have e0:=Ext.refl h
 have sep:Sep h.size h.size []:=Sep.nil _ _
 refine sat_in Tryz.func25 94 fun a hF=> ?_
 refine qP [] hF fun a hF=> ?_
 refine cS ?_
 refine cS ?_
 refine cD [0,1,3,7,15,0,32,96,224,511,1023,2047,4095,8191,16383,32767,65535,4095,135167,397311,921599,1970175,4194303,8388607] 1 mixed hF ?_
 refine mP 7 [0,1,2] [pV mb,pV mb,pV mb] ?_
 refine mO 15 8 3 0 (.map (some mp)) (e0.blk hm) ?_
 refine mL 31 24 4 (.int .i64 ((L.length :Nat):Int)) (Calm.lenMap (by kernel_rfl) (e0.blk hp) rfl) ?_
 refine mP 255 [5,6,7] [pV nb,pV nb,pV nb] ?_
 refine mO 511 280 8 0 (.map (some np)) (e0.blk hm2) ?_
 refine mL 1023 792 9 (.int .i64 ((L2.length :Nat):Int)) (Calm.lenMap (by kernel_rfl) (e0.blk hp2) rfl) ?_
 refine uT1 2047 10 ((L.length :Nat):Int) ((L2.length :Nat):Int) ?_
 refine mP 16777215 [11,12,13,14,15,16,17,18,19,20,21,22,23] [.bool true,undef,undef,undef,undef,undef,undef,undef,undef,undef,undef,undef,.bool true] ?_
 refine mE [(34,.bool true)] fun a hF=> ?_
 refine tK ?_
 refine cT 34 hF ?_
 refine qP [(4,.bool false)] hF fun a hF=> ?_
 refine cR (yT ?_)
 refine rT 4 (.bool false) hF ?_
 exact⟨rfl,e0⟩
noncomputable def b19:Code:=Tryz.f19.body.getD .skip
set_option maxHeartbeats 1000000 in
theorem same_v(h:Heap)(A:An)(qa:Option Addr)(qc:Nat)(ia:Option Addr)(ic:Nat)(pa:Option Addr)(pc:Nat)(q1:RowE h (.slice qa A.b.length qc) A.b.length 1 (A.b.map bv))(i1:RowE h (.slice ia A.i.length ic) A.i.length 1 (A.i.map Value.string))(p1:RowE h (.slice pa A.p.length pc) A.p.length 32 (hcs A.p))(qa2:Option Addr)(qc2:Nat)(ia2:Option Addr)(ic2:Nat)(pa2:Option Addr)(pc2:Nat)(q2:RowE h (.slice qa2 A.b.length qc2) A.b.length 1 (A.b.map bv))(i2:RowE h (.slice ia2 A.i.length ic2) A.i.length 1 (A.i.map Value.string))(p2:RowE h (.slice pa2 A.p.length pc2) A.p.length 32 (hcs A.p))(h32:All32 A.p)(hil:A.i.length ≤1099511627776)(hpl:A.p.length ≤1099511627776):Sat Tryz.prog 19 #[.agg (asc A.c (.slice qa A.b.length qc) A.sx A.se A.sh A.sg (.slice ia A.i.length ic) A.n A.y A.k (.slice pa A.p.length pc)).toArray,.agg (asc A.c (.slice qa2 A.b.length qc2) A.sx A.se A.sh A.sg (.slice ia2 A.i.length ic2) A.n A.y A.k (.slice pa2 A.p.length pc2)).toArray] h fun v h'=>v= .bool true∧Ext h h':=by
 have e0:=Ext.refl h
 have sep:Sep h.size h.size []:=Sep.nil _ _
 refine sat_in Tryz.func19 96 fun a hF=> ?_
 refine qS hF ?_
 refine tN 0 (pV h.size) ((asc A.c (.slice qa A.b.length qc) A.sx A.se A.sh A.sg (.slice ia A.i.length ic) A.n A.y A.k (.slice pa A.p.length pc)).toArray) 47 fun h1 g2 m3=> ?_
 replace sep:=sep.nw e0.size m3
 refine tN 1 (pV h1.size) ((asc A.c (.slice qa2 A.b.length qc2) A.sx A.se A.sh A.sg (.slice ia2 A.i.length ic2) A.n A.y A.k (.slice pa2 A.p.length pc2)).toArray) 47 fun h4 g5 m6=> ?_
 replace e0:=e0.ext g2
 replace sep:=sep.nw e0.size m6
 refine sT [(2,pV h.size),(3,pV h1.size)] fun a hF=> ?_
 refine cS ?_
 refine qS hF ?_
 replace m3:=m3.x g5
 refine tO 1 0 m3 ?_
 refine tO 3 0 m6 ?_
 refine uF 4 A.c A.c ?_
 refine tO 7 1 m3 ?_
 replace e0:=e0.ext g5
 refine tC 8 (.string (ByteArray.mk A.b.toArray)) (Calm.str (l:=A.b) (by kernel_rfl) (q1.1.ext e0)) ?_
 refine tO 10 1 m6 ?_
 refine tC 11 (.string (ByteArray.mk A.b.toArray)) (Calm.str (l:=A.b) (by kernel_rfl) (q2.1.ext e0)) ?_
 refine t1 12 (.bool false) (.bool (!((ByteArray.mk A.b.toArray).toList ==(ByteArray.mk A.b.toArray).toList))) (congrArg Value.bool (by simp)) ?_
 refine tQ 16 2 (stc A.sx A.se A.sh A.sg) m3 ?_
 refine tQ 18 2 (stc A.sx A.se A.sh A.sg) m6 ?_
 refine tC 19 (.bool false) ((Calm.eqR (q:=false) (r:=true) (by kernel_rfl) fun w=>(run_stEq A.sx A.se A.sh A.sg A.sx A.se A.sh A.sg w).trans (congrArg (fun b=>Result.ok b w) (stEq_self A.sx A.se A.sh A.sg))) _) ?_
 refine tQ 23 40 (hdc A.n A.y) m3 ?_
 refine tQ 25 40 (hdc A.n A.y) m6 ?_
 refine tC 26 (.bool false) ((Calm.eqR (q:=false) (r:=true) (by kernel_rfl) fun w=>(run_hdEq A.n A.y A.n A.y w).trans (congrArg (fun b=>Result.ok b w) (hdEq_self A.n A.y))) _) ?_
 refine tO 30 73 m3 ?_
 refine tO 32 73 m6 ?_
 refine uF 33 A.k A.k ?_
 refine tO 37 39 m3 ?_
 refine tO 40 39 m6 ?_
 refine uF 42 ((A.i.length :Nat):Int) ((A.i.length :Nat):Int) ?_
 refine tO 46 74 m3 ?_
 refine tO 49 74 m6 ?_
 refine uF 51 ((A.p.length :Nat):Int) ((A.p.length :Nat):Int) ?_
 refine sT [(59,.bool false)] fun a hF=> ?_
 refine cF 59 hF ?_
 refine cN ?_
 refine tK ?_
 refine cS ?_
 refine qP [(5,.int .i64 0)] hF fun a hF=> ?_
 refine cB 0 ?_
 refine cL (fun m a h'=>∃k:Nat,m=A.i.length - k∧(Ext h h')∧(h'[h.size]? =some (.cells (asc A.c (.slice qa A.b.length qc) A.sx A.se A.sh A.sg (.slice ia A.i.length ic) A.n A.y A.k (.slice pa A.p.length pc)).toArray 47))∧(h'[h1.size]? =some (.cells (asc A.c (.slice qa2 A.b.length qc2) A.sx A.se A.sh A.sg (.slice ia2 A.i.length ic2) A.n A.y A.k (.slice pa2 A.p.length pc2)).toArray 47))∧(k≤A.i.length)∧(Fr a 96 [(2,.pointer (some ⟨h.size,0,none⟩)),(3,.pointer (some ⟨h1.size,0,none⟩)),(5,.int .i64 ((k:Nat):Int))])) (A.i.length - 0) ⟨0,rfl,e0,m3,m6,(by omega),hF.to⟩ ?_
 clear hF a
 clear e0
 clear m3
 clear m6
 rintro m a h7 ⟨k,rfl,e0,m3,m6,hk,hF⟩
 refine cS ?_
 refine qS hF ?_
 refine tO 2 39 m3 ?_
 refine sT [(64,.bool (decide (((k:Nat):Int)<((A.i.length :Nat):Int))))] fun a hF=> ?_
 refine cJ 64 hF (fun hc8=> ?_) fun hc8=> ?_
 ·skip
  have hkn:k<A.i.length :=by omega
  have hFn:=hF
  obtain⟨aa,rfl,hcap_aa⟩:=i1.1.someA (by omega)
  have hF:=hFn;clear hFn
  have hFn:=hF
  obtain⟨aa2,rfl,hcap_aa2⟩:=i2.1.someA (by omega)
  have hF:=hFn;clear hFn
  refine cN ?_
  refine tK ?_
  refine cS ?_
  refine cB 1 ?_
  refine cS ?_
  refine cD [0,1,0,7,15,0,32,0,224,480,1023] 6 mixed hF ?_
  refine mP 1 [0] [.pointer (some ⟨h.size,39,none⟩)] ?_
  refine mO 3 2 1 39 (.slice (some aa) A.i.length ic) m3 ?_
  refine mP 7 [2] [nV k] ?_
  refine mI 15 3 aa A.i.length 1 k k ?_
  refine mL 31 18 4 (.string (A.i.getD k ByteArray.empty)) (Calm.load (T:=9) (p:=(Addr.add aa k)) (by kernel_rfl) (Loads.one (k:=1) (by kernel_rfl) (Row.str (i1.1.ext e0) hkn))) ?_
  refine mP 63 [5] [.pointer (some ⟨h1.size,39,none⟩)] ?_
  refine mO 127 82 6 39 (.slice (some aa2) A.i.length ic2) m6 ?_
  refine mP 255 [7] [nV k] ?_
  refine mI 511 8 aa2 A.i.length 1 k k ?_
  refine mL 1023 594 9 (.string (A.i.getD k ByteArray.empty)) (Calm.load (T:=9) (p:=(Addr.add aa2 k)) (by kernel_rfl) (Loads.one (k:=1) (by kernel_rfl) (Row.str (i2.1.ext e0) hkn))) ?_
  refine m1 2047 10 (.bool false) (.bool (!((A.i.getD k ByteArray.empty).toList ==(A.i.getD k ByteArray.empty).toList))) (congrArg Value.bool (by simp)) ?_
  refine mE [(77,.bool false)] fun a hF=> ?_
  refine tK ?_
  refine cF 77 hF ?_
  refine cN ?_
  refine bK ?_
  refine tK ?_
  refine rS hF ?_
  refine tA 1 k 1 ?_
  refine sE [(5,nV (k+1))] fun a hF=> ?_
  show ∃m',m'<_∧_
  refine⟨_,?_,(k+1),rfl,e0,m3,m6,(by omega),hF.to⟩
  omega
 ·skip
  refine cX 0 (xT (xT (xB ?_)))
  refine tK ?_
  refine cS ?_
  refine qP [(6,.int .i64 0)] hF fun a hF=> ?_
  refine cB 2 ?_
  refine cL (fun m a h'=>∃k:Nat,m=A.p.length - k∧(Ext h h')∧(h'[h.size]? =some (.cells (asc A.c (.slice qa A.b.length qc) A.sx A.se A.sh A.sg (.slice ia A.i.length ic) A.n A.y A.k (.slice pa A.p.length pc)).toArray 47))∧(h'[h1.size]? =some (.cells (asc A.c (.slice qa2 A.b.length qc2) A.sx A.se A.sh A.sg (.slice ia2 A.i.length ic2) A.n A.y A.k (.slice pa2 A.p.length pc2)).toArray 47))∧(k≤A.p.length)∧(Fr a 96 [(2,.pointer (some ⟨h.size,0,none⟩)),(3,.pointer (some ⟨h1.size,0,none⟩)),(6,.int .i64 ((k:Nat):Int))])) (A.p.length - 0) ⟨0,rfl,e0,m3,m6,(by omega),hF.to⟩ ?_
  clear hF a
  clear e0
  clear m3
  clear m6
  rintro m a h9 ⟨k,rfl,e0,m3,m6,hk,hF⟩
  refine cS ?_
  refine qS hF ?_
  refine tO 2 74 m3 ?_
  refine sT [(82,.bool (decide (((k:Nat):Int)<((A.p.length :Nat):Int))))] fun a hF=> ?_
  refine cJ 82 hF (fun hc10=> ?_) fun hc10=> ?_
  ·skip
   have hkn:k<A.p.length :=by omega
   have hFn:=hF
   obtain⟨aa,rfl,hcap_aa⟩:=p1.1.someA (by omega)
   have hF:=hFn;clear hFn
   have hFn:=hF
   obtain⟨aa2,rfl,hcap_aa2⟩:=p2.1.someA (by omega)
   have hF:=hFn;clear hFn
   refine cN ?_
   refine tK ?_
   refine cS ?_
   refine cB 3 ?_
   refine cS ?_
   refine cD [0,1,0,7,15,0,32,0,224,480,1023] 11 mixed hF ?_
   refine mP 1 [0] [.pointer (some ⟨h.size,74,none⟩)] ?_
   refine mO 3 2 1 74 (.slice (some aa) A.p.length pc) m3 ?_
   refine mP 7 [2] [nV k] ?_
   refine mI 15 3 aa A.p.length 32 k (k*32) ?_
   refine mH 31 18 4 k ((⟨p1.1.ext e0,h32,rfl⟩:HR _ _ _ _ _)) ?_
   refine mP 63 [5] [.pointer (some ⟨h1.size,74,none⟩)] ?_
   refine mO 127 82 6 74 (.slice (some aa2) A.p.length pc2) m6 ?_
   refine mP 255 [7] [nV k] ?_
   refine mI 511 8 aa2 A.p.length 32 k (k*32) ?_
   refine mH 1023 594 9 k ((⟨p2.1.ext e0,h32,rfl⟩:HR _ _ _ _ _)) ?_
   refine mF 2047 10 (.bool false) (eqHT (q:=false) (l:=(A.p.getD k [])) (r:=(A.p.getD k [])) (n:=32) (by kernel_rfl) ((⟨p2.1.ext e0,h32,rfl⟩:HR _ (some aa2) _ _ _).2.1.get (k:=k) (by rw[(⟨p2.1.ext e0,h32,rfl⟩:HR _ (some aa2) _ _ _).2.2];omega)) ((⟨p2.1.ext e0,h32,rfl⟩:HR _ (some aa2) _ _ _).2.1.get (k:=k) (by rw[(⟨p2.1.ext e0,h32,rfl⟩:HR _ (some aa2) _ _ _).2.2];omega)) rfl) ?_
   refine mE [(95,.bool false)] fun a hF=> ?_
   refine tK ?_
   refine cF 95 hF ?_
   refine cN ?_
   refine bK ?_
   refine tK ?_
   refine rS hF ?_
   refine tA 1 k 1 ?_
   refine sE [(6,nV (k+1))] fun a hF=> ?_
   show ∃m',m'<_∧_
   refine⟨_,?_,(k+1),rfl,e0,m3,m6,(by omega),hF.to⟩
   omega
  ·skip
   refine cX 2 (xT (xT (xB ?_)))
   refine tK ?_
   refine qP [(4,.bool true)] hF fun a hF=> ?_
   refine cR ?_
   refine rT 4 (.bool true) hF ?_
   exact⟨rfl,e0⟩
theorem same_ans(h:Heap)(v w:Value)(A:An)(a:AnsAt h v A)(b:AnsAt h w A)(hil:A.i.length ≤1099511627776)(hpl:A.p.length ≤1099511627776):Sat Tryz.prog 19 #[v,w] h fun v h'=>v= .bool true∧Ext h h':=by
 obtain⟨qa,qc,ia,ic,pa,pc,rfl,q1,i1,p1,h32⟩:=a
 obtain⟨qa2,qc2,ia2,ic2,pa2,pc2,rfl,q2,i2,p2,_⟩:=b
 exact same_v h A qa qc ia ic pa pc q1 i1 p1 qa2 qc2 ia2 ic2 pa2 pc2 q2 i2 p2 h32 hil hpl
end Go.Proofs.YtegkejcglfgpmaaGreatDoor
end
section
namespace Go.Proofs.YtegkejcglfgpmaaGreatDoor
open Go Go.Lane Go.Sha
noncomputable def b55:Code:=Tryz.f55.body.getD .skip
theorem kind_sat(h:Heap)(kd n:Int)(s:ByteArray)(oa:Option Addr)(on oc:Nat)(ka:Option Addr)(kn kc:Nat):Sat Tryz.prog 55 #[.agg #[.int .i64 kd,.string s,.slice oa on oc,.int .i64 n,.slice ka kn kc]] h fun v h'=>v= .tuple #[.bool (kindC kd).1,.bool (kindC kd).2]∧Ext h h':=by
 have e0:=Ext.refl h
 have sep:Sep h.size h.size []:=Sep.nil _ _
 refine sat_in Tryz.func55 20 fun a hF=> ?_
 refine qS hF ?_
 refine tN 0 (pV h.size) #[.int .i64 kd,.string s,.slice oa on oc,.int .i64 n,.slice ka kn kc] 35 fun h1 g2 m3=> ?_
 replace sep:=sep.nw e0.size m3
 refine sT [(1,pV h.size)] fun a hF=> ?_
 refine cS ?_
 refine qS hF ?_
 refine tO 1 0 m3 ?_
 refine sT [(5,.int .i64 kd)] fun a hF=> ?_
 refine cB 0 ?_
 refine cS ?_
 refine qP [(6,.bool (decide (kd=(1:Int))))] hF fun a hF=> ?_
 refine cJ 6 hF (fun hc4=> ?_) fun hc4=> ?_
 ·skip
  refine cN ?_
  refine tK ?_
  refine cJ 6 hF (fun hx5=> ?_) fun hx5=>absurd hc4 hx5
  refine qP [(2,.bool true),(3,.bool true)] hF fun a hF=> ?_
  refine cR (yB (yT ?_))
  refine ret_ok [.tmp 2,.tmp 3] [.bool true,.bool true] (.tuple #[.bool true,.bool true]) rfl hF ⟨rfl,rfl,trivial⟩ rfl ?_
  replace e0:=e0.ext g2
  rw[kind_tt (by omega)];exact⟨rfl,e0⟩
 ·skip
  refine qP [(6,.bool (decide (kd=(4:Int))))] hF fun a hF=> ?_
  refine cJ 6 hF (fun hc6=> ?_) fun hc6=> ?_
  ·skip
   refine cN ?_
   refine tK ?_
   refine cJ 6 hF (fun hx7=> ?_) fun hx7=>absurd hc6 hx7
   refine qP [(2,.bool true),(3,.bool true)] hF fun a hF=> ?_
   refine cR (yB (yT ?_))
   refine ret_ok [.tmp 2,.tmp 3] [.bool true,.bool true] (.tuple #[.bool true,.bool true]) rfl hF ⟨rfl,rfl,trivial⟩ rfl ?_
   replace e0:=e0.ext g2
   rw[kind_tt (by omega)];exact⟨rfl,e0⟩
  ·skip
   refine qP [(6,.bool (decide (kd=(5:Int))))] hF fun a hF=> ?_
   refine cJ 6 hF (fun hc8=> ?_) fun hc8=> ?_
   ·skip
    refine cN ?_
    refine tK ?_
    refine cJ 6 hF (fun hx9=> ?_) fun hx9=>absurd hc8 hx9
    refine qP [(2,.bool true),(3,.bool true)] hF fun a hF=> ?_
    refine cR (yB (yT ?_))
    refine ret_ok [.tmp 2,.tmp 3] [.bool true,.bool true] (.tuple #[.bool true,.bool true]) rfl hF ⟨rfl,rfl,trivial⟩ rfl ?_
    replace e0:=e0.ext g2
    rw[kind_tt (by omega)];exact⟨rfl,e0⟩
   ·skip
    refine rP [(6,.bool (decide (kd=(6:Int))))] hF fun a hF=> ?_
    refine tK ?_
    refine cJ 6 hF (fun hc10=> ?_) fun hc10=> ?_
    ·skip
     refine qP [(2,.bool true),(3,.bool true)] hF fun a hF=> ?_
     refine cR (yB (yT ?_))
     refine ret_ok [.tmp 2,.tmp 3] [.bool true,.bool true] (.tuple #[.bool true,.bool true]) rfl hF ⟨rfl,rfl,trivial⟩ rfl ?_
     replace e0:=e0.ext g2
     rw[kind_tt (by omega)];exact⟨rfl,e0⟩
    ·skip
     refine cS ?_
     refine qP [(11,.bool (decide (kd=(2:Int))))] hF fun a hF=> ?_
     refine cJ 11 hF (fun hc11=> ?_) fun hc11=> ?_
     ·skip
      refine cN ?_
      refine tK ?_
      refine cJ 11 hF (fun hx12=> ?_) fun hx12=>absurd hc11 hx12
      refine qP [(2,.bool true),(3,.bool false)] hF fun a hF=> ?_
      refine cR (yB (yT ?_))
      refine ret_ok [.tmp 2,.tmp 3] [.bool true,.bool false] (.tuple #[.bool true,.bool false]) rfl hF ⟨rfl,rfl,trivial⟩ rfl ?_
      replace e0:=e0.ext g2
      rw[kind_tf (by omega) (by omega)];exact⟨rfl,e0⟩
     ·skip
      refine qP [(11,.bool (decide (kd=(3:Int))))] hF fun a hF=> ?_
      refine cJ 11 hF (fun hc13=> ?_) fun hc13=> ?_
      ·skip
       refine cN ?_
       refine tK ?_
       refine cJ 11 hF (fun hx14=> ?_) fun hx14=>absurd hc13 hx14
       refine qP [(2,.bool true),(3,.bool false)] hF fun a hF=> ?_
       refine cR (yB (yT ?_))
       refine ret_ok [.tmp 2,.tmp 3] [.bool true,.bool false] (.tuple #[.bool true,.bool false]) rfl hF ⟨rfl,rfl,trivial⟩ rfl ?_
       replace e0:=e0.ext g2
       rw[kind_tf (by omega) (by omega)];exact⟨rfl,e0⟩
      ·skip
       refine qP [(11,.bool (decide (kd=(7:Int))))] hF fun a hF=> ?_
       refine cJ 11 hF (fun hc15=> ?_) fun hc15=> ?_
       ·skip
        refine cN ?_
        refine tK ?_
        refine cJ 11 hF (fun hx16=> ?_) fun hx16=>absurd hc15 hx16
        refine qP [(2,.bool true),(3,.bool false)] hF fun a hF=> ?_
        refine cR (yB (yT ?_))
        refine ret_ok [.tmp 2,.tmp 3] [.bool true,.bool false] (.tuple #[.bool true,.bool false]) rfl hF ⟨rfl,rfl,trivial⟩ rfl ?_
        replace e0:=e0.ext g2
        rw[kind_tf (by omega) (by omega)];exact⟨rfl,e0⟩
       ·skip
        refine qP [(11,.bool (decide (kd=(8:Int))))] hF fun a hF=> ?_
        refine cJ 11 hF (fun hc17=> ?_) fun hc17=> ?_
        ·skip
         refine cN ?_
         refine tK ?_
         refine cJ 11 hF (fun hx18=> ?_) fun hx18=>absurd hc17 hx18
         refine qP [(2,.bool true),(3,.bool false)] hF fun a hF=> ?_
         refine cR (yB (yT ?_))
         refine ret_ok [.tmp 2,.tmp 3] [.bool true,.bool false] (.tuple #[.bool true,.bool false]) rfl hF ⟨rfl,rfl,trivial⟩ rfl ?_
         replace e0:=e0.ext g2
         rw[kind_tf (by omega) (by omega)];exact⟨rfl,e0⟩
        ·skip
         refine qP [(11,.bool (decide (kd=(9:Int))))] hF fun a hF=> ?_
         refine cJ 11 hF (fun hc19=> ?_) fun hc19=> ?_
         ·skip
          refine cN ?_
          refine tK ?_
          refine cJ 11 hF (fun hx20=> ?_) fun hx20=>absurd hc19 hx20
          refine qP [(2,.bool true),(3,.bool false)] hF fun a hF=> ?_
          refine cR (yB (yT ?_))
          refine ret_ok [.tmp 2,.tmp 3] [.bool true,.bool false] (.tuple #[.bool true,.bool false]) rfl hF ⟨rfl,rfl,trivial⟩ rfl ?_
          replace e0:=e0.ext g2
          rw[kind_tf (by omega) (by omega)];exact⟨rfl,e0⟩
         ·skip
          refine qP [(11,.bool (decide (kd=(11:Int))))] hF fun a hF=> ?_
          refine cJ 11 hF (fun hc21=> ?_) fun hc21=> ?_
          ·skip
           refine cN ?_
           refine tK ?_
           refine cJ 11 hF (fun hx22=> ?_) fun hx22=>absurd hc21 hx22
           refine qP [(2,.bool true),(3,.bool false)] hF fun a hF=> ?_
           refine cR (yB (yT ?_))
           refine ret_ok [.tmp 2,.tmp 3] [.bool true,.bool false] (.tuple #[.bool true,.bool false]) rfl hF ⟨rfl,rfl,trivial⟩ rfl ?_
           replace e0:=e0.ext g2
           rw[kind_tf (by omega) (by omega)];exact⟨rfl,e0⟩
          ·skip
           refine qP [(11,.bool (decide (kd=(15:Int))))] hF fun a hF=> ?_
           refine cJ 11 hF (fun hc23=> ?_) fun hc23=> ?_
           ·skip
            refine cN ?_
            refine tK ?_
            refine cJ 11 hF (fun hx24=> ?_) fun hx24=>absurd hc23 hx24
            refine qP [(2,.bool true),(3,.bool false)] hF fun a hF=> ?_
            refine cR (yB (yT ?_))
            refine ret_ok [.tmp 2,.tmp 3] [.bool true,.bool false] (.tuple #[.bool true,.bool false]) rfl hF ⟨rfl,rfl,trivial⟩ rfl ?_
            replace e0:=e0.ext g2
            rw[kind_tf (by omega) (by omega)];exact⟨rfl,e0⟩
           ·skip
            refine rP [(11,.bool (decide (kd=(16:Int))))] hF fun a hF=> ?_
            refine tK ?_
            refine cJ 11 hF (fun hc25=> ?_) fun hc25=> ?_
            ·skip
             refine qP [(2,.bool true),(3,.bool false)] hF fun a hF=> ?_
             refine cR (yB (yT ?_))
             refine ret_ok [.tmp 2,.tmp 3] [.bool true,.bool false] (.tuple #[.bool true,.bool false]) rfl hF ⟨rfl,rfl,trivial⟩ rfl ?_
             replace e0:=e0.ext g2
             rw[kind_tf (by omega) (by omega)];exact⟨rfl,e0⟩
            ·skip
             refine cN ?_
             refine bK ?_
             refine tK ?_
             refine qP [(2,.bool false),(3,.bool false)] hF fun a hF=> ?_
             refine cR ?_
             refine ret_ok [.tmp 2,.tmp 3] [.bool false,.bool false] (.tuple #[.bool false,.bool false]) rfl hF ⟨rfl,rfl,trivial⟩ rfl ?_
             replace e0:=e0.ext g2
             rw[kind_ff (by omega) (by omega)];exact⟨rfl,e0⟩
noncomputable def b94:Code:=Tryz.f94.body.getD .skip
theorem eqS_sat(h:Heap)(l r:List ByteArray)(va:Option Addr)(vc:Nat)(vb:Option Addr)(vd:Nat)(hl1:RowE h (.slice va l.length vc) l.length 1 (l.map Value.string))(hr1:RowE h (.slice vb r.length vd) r.length 1 (r.map Value.string))(hlb:l.length ≤1099511627776):Sat Tryz.prog 94 #[.slice va l.length vc,.slice vb r.length vd] h fun v h'=>v= .bool (decide (l=r))∧h'=h:=by
 refine sat_in Tryz.func94 26 fun a hF=> ?_
 refine qP [] hF fun a hF=> ?_
 refine cS ?_
 refine cS ?_
 rcases Nat.decEq l.length r.length with hle|hle
 ·skip
  refine rS hF ?_
  refine uT 4 ((l.length :Nat):Int) ((r.length :Nat):Int) ?_
  refine sE [(10,.bool true)] fun a hF=> ?_
  refine tK ?_
  refine cT 10 hF ?_
  refine qP [(4,.bool false)] hF fun a hF=> ?_
  refine cR (yT ?_)
  refine rT 4 (.bool false) hF ?_
  exact⟨by rw[decide_eq_false (fun e=>hle (by rw[e]))],rfl⟩
 ·skip
  refine rS hF ?_
  refine uF 4 ((l.length :Nat):Int) ((r.length :Nat):Int) ?_
  refine sE [(10,.bool false)] fun a hF=> ?_
  refine tK ?_
  refine cF 10 hF ?_
  refine cN ?_
  refine tK ?_
  refine cS ?_
  refine qP [(12,nV l.length),(13,.int .i64 0)] hF fun a hF=> ?_
  refine cB 0 ?_
  refine cL (fun m a h'=>∃k:Nat,m=l.length - k∧(h'=h)∧(k≤l.length)∧(l.take k=r.take k)∧(Fr a 26 [(0,.slice va l.length vc),(1,.slice vb r.length vd),(12,.int .i64 ((l.length :Nat):Int)),(13,.int .i64 ((k:Nat):Int))])) (l.length - 0) ⟨0,rfl,rfl,(by omega),rfl,hF.to⟩ ?_
  clear hF a
  rintro m a h1 ⟨k,rfl,hh,hk,ht,hF⟩
  refine qP [(14,.bool (decide (((k:Nat):Int)<((l.length :Nat):Int))))] hF fun a hF=> ?_
  refine cS ?_
  refine cJ 14 hF (fun hc2=> ?_) fun hc2=> ?_
  ·skip
   have hkn:k<l.length :=by omega
   have hFn:=hF
   obtain⟨aa,rfl,hcap_aa⟩:=hl1.1.someA (by omega)
   have hF:=hFn;clear hFn
   have hFn:=hF
   obtain⟨ab,rfl,hcap_ab⟩:=hr1.1.someA (by omega)
   have hF:=hFn;clear hFn
   refine cN ?_
   refine tK ?_
   refine cS ?_
   refine cB 1 ?_
   refine qP [(5,nV k)] hF fun a hF=> ?_
   refine cS ?_
   refine cD [0,0,3,7,0,0,48,112,255] 6 mixed hF ?_
   refine mP 3 [0,1] [.slice (some aa) l.length vc,nV k] ?_
   refine mI 7 2 aa l.length 1 k k ?_
   refine mL 15 8 3 (.string (l.getD k ByteArray.empty)) (Calm.load (T:=9) (p:=(Addr.add aa k)) (by kernel_rfl) (Loads.one (k:=1) (by kernel_rfl) (hh▸Row.str hl1.1 (by omega)))) ?_
   refine mP 63 [4,5] [.slice (some ab) r.length vd,nV k] ?_
   refine mI 127 6 ab r.length 1 k k ?_
   refine mL 255 136 7 (.string (r.getD k ByteArray.empty)) (Calm.load (T:=9) (p:=(Addr.add ab k)) (by kernel_rfl) (Loads.one (k:=1) (by kernel_rfl) (hh▸Row.str hr1.1 (by omega)))) ?_
   refine m1 511 8 (.bool (!decide ((l.getD k ByteArray.empty)=(r.getD k ByteArray.empty)))) (.bool (!((l.getD k ByteArray.empty).toList ==(r.getD k ByteArray.empty).toList))) (congrArg (fun b=>Value.bool (!b)) (str_beq _ _)) ?_
   refine mE [(24,.bool (!decide ((l.getD k ByteArray.empty)=(r.getD k ByteArray.empty))))] fun a hF=> ?_
   refine tK ?_
   refine cI 24 hF (fun hc3=> ?_) fun hc3=> ?_
   ·skip
    have hno:=ne_of_getD hc3
    refine qP [(4,.bool false)] hF fun a hF=> ?_
    refine cR (yB (yT (yT (yB (yT ?_)))))
    refine rT 4 (.bool false) hF ?_
    exact⟨by rw[decide_eq_false hno],hh⟩
   ·skip
    have hee:=hc3
    refine cN ?_
    refine bK ?_
    refine tK ?_
    refine rS hF ?_
    refine tA 0 k 1 ?_
    refine sE [(13,nV (k+1))] fun a hF=> ?_
    show ∃m',m'<_∧_
    refine⟨_,?_,(k+1),rfl,hh,(by omega),(take_eqD (d:=ByteArray.empty) ht hkn (by omega) hee),hF.to⟩
    omega
  ·skip
   refine cX 0 (xT (xT (xB ?_)))
   refine tK ?_
   refine qP [(4,.bool true)] hF fun a hF=> ?_
   refine cR ?_
   refine rT 4 (.bool true) hF ?_
   obtain rfl:k=l.length :=by omega
   rw[List.take_length,hle,List.take_length] at ht
   exact⟨by rw[decide_eq_true ht],hh⟩
noncomputable def b95:Code:=Tryz.f95.body.getD .skip
theorem eqHs_sat(h:Heap)(l r:List (List UInt8))(va:Option Addr)(vc:Nat)(vb:Option Addr)(vd:Nat)(hl1:RowE h (.slice va l.length vc) l.length 32 (hcs l))(hr1:RowE h (.slice vb r.length vd) r.length 32 (hcs r))(h32:All32 l)(h33:All32 r)(hlb:l.length ≤1099511627776):Sat Tryz.prog 95 #[.slice va l.length vc,.slice vb r.length vd] h fun v h'=>v= .bool (decide (l=r))∧h'=h:=by
 refine sat_in Tryz.func95 26 fun a hF=> ?_
 refine qP [] hF fun a hF=> ?_
 refine cS ?_
 refine cS ?_
 rcases Nat.decEq l.length r.length with hle|hle
 ·skip
  refine rS hF ?_
  refine uT 4 ((l.length :Nat):Int) ((r.length :Nat):Int) ?_
  refine sE [(10,.bool true)] fun a hF=> ?_
  refine tK ?_
  refine cT 10 hF ?_
  refine qP [(4,.bool false)] hF fun a hF=> ?_
  refine cR (yT ?_)
  refine rT 4 (.bool false) hF ?_
  exact⟨by rw[decide_eq_false (fun e=>hle (by rw[e]))],rfl⟩
 ·skip
  refine rS hF ?_
  refine uF 4 ((l.length :Nat):Int) ((r.length :Nat):Int) ?_
  refine sE [(10,.bool false)] fun a hF=> ?_
  refine tK ?_
  refine cF 10 hF ?_
  refine cN ?_
  refine tK ?_
  refine cS ?_
  refine qP [(12,nV l.length),(13,.int .i64 0)] hF fun a hF=> ?_
  refine cB 0 ?_
  refine cL (fun m a h'=>∃k:Nat,m=l.length - k∧(h'=h)∧(k≤l.length)∧(l.take k=r.take k)∧(Fr a 26 [(0,.slice va l.length vc),(1,.slice vb r.length vd),(12,.int .i64 ((l.length :Nat):Int)),(13,.int .i64 ((k:Nat):Int))])) (l.length - 0) ⟨0,rfl,rfl,(by omega),rfl,hF.to⟩ ?_
  clear hF a
  rintro m a h1 ⟨k,rfl,hh,hk,ht,hF⟩
  refine qP [(14,.bool (decide (((k:Nat):Int)<((l.length :Nat):Int))))] hF fun a hF=> ?_
  refine cS ?_
  refine cJ 14 hF (fun hc2=> ?_) fun hc2=> ?_
  ·skip
   have hkn:k<l.length :=by omega
   have hFn:=hF
   obtain⟨aa,rfl,hcap_aa⟩:=hl1.1.someA (by omega)
   have hF:=hFn;clear hFn
   have hFn:=hF
   obtain⟨ab,rfl,hcap_ab⟩:=hr1.1.someA (by omega)
   have hF:=hFn;clear hFn
   refine cN ?_
   refine tK ?_
   refine cS ?_
   refine cB 1 ?_
   refine qP [(5,nV k)] hF fun a hF=> ?_
   refine cS ?_
   refine cD [0,0,3,7,0,0,48,112,255] 6 mixed hF ?_
   refine mP 3 [0,1] [.slice (some aa) l.length vc,nV k] ?_
   refine mI 7 2 aa l.length 32 k (k*32) ?_
   refine mH 15 8 3 k ((⟨hh.symm ▸hl1.1,h32,rfl⟩:HR _ _ _ _ _)) ?_
   refine mP 63 [4,5] [.slice (some ab) r.length vd,nV k] ?_
   refine mI 127 6 ab r.length 32 k (k*32) ?_
   refine mH 255 136 7 k ((⟨hh.symm ▸hr1.1,h33,rfl⟩:HR _ _ _ _ _)) ?_
   refine mF 511 8 (.bool (!decide ((l.getD k [])=(r.getD k [])))) (eqH0 (l:=(l.getD k [])) (r:=(r.getD k [])) (n:=32) (by kernel_rfl) ((⟨hl1.1,h32,rfl⟩:HR _ (some aa) _ _ _).2.1.get (k:=k) (by rw[(⟨hl1.1,h32,rfl⟩:HR _ (some aa) _ _ _).2.2];omega)) ((⟨hr1.1,h33,rfl⟩:HR _ (some ab) _ _ _).2.1.get (k:=k) (by rw[(⟨hr1.1,h33,rfl⟩:HR _ (some ab) _ _ _).2.2];omega))) ?_
   refine mE [(24,.bool (!decide ((l.getD k [])=(r.getD k []))))] fun a hF=> ?_
   refine tK ?_
   refine cI 24 hF (fun hc3=> ?_) fun hc3=> ?_
   ·skip
    have hno:=ne_of_getD hc3
    refine qP [(4,.bool false)] hF fun a hF=> ?_
    refine cR (yB (yT (yT (yB (yT ?_)))))
    refine rT 4 (.bool false) hF ?_
    exact⟨by rw[decide_eq_false hno],hh⟩
   ·skip
    have hee:=hc3
    refine cN ?_
    refine bK ?_
    refine tK ?_
    refine rS hF ?_
    refine tA 0 k 1 ?_
    refine sE [(13,nV (k+1))] fun a hF=> ?_
    show ∃m',m'<_∧_
    refine⟨_,?_,(k+1),rfl,hh,(by omega),(take_eqD (d:=[]) ht hkn (by omega) hee),hF.to⟩
    omega
  ·skip
   refine cX 0 (xT (xT (xB ?_)))
   refine tK ?_
   refine qP [(4,.bool true)] hF fun a hF=> ?_
   refine cR ?_
   refine rT 4 (.bool true) hF ?_
   obtain rfl:k=l.length :=by omega
   rw[List.take_length,hle,List.take_length] at ht
   exact⟨by rw[decide_eq_true ht],hh⟩
noncomputable def b56:Code:=Tryz.f56.body.getD .skip
set_option maxHeartbeats 1000000 in
theorem rule_v(h:Heap)(A B:An)(qa1:Option Addr)(qc1:Nat)(ia1:Option Addr)(ic1:Nat)(pa1:Option Addr)(pc1:Nat)(q1:RowE h (.slice qa1 A.b.length qc1) A.b.length 1 (A.b.map bv))(i1:RowE h (.slice ia1 A.i.length ic1) A.i.length 1 (A.i.map Value.string))(p1:RowE h (.slice pa1 A.p.length pc1) A.p.length 32 (hcs A.p))(qa2:Option Addr)(qc2:Nat)(ia2:Option Addr)(ic2:Nat)(pa2:Option Addr)(pc2:Nat)(q2:RowE h (.slice qa2 B.b.length qc2) B.b.length 1 (B.b.map bv))(i2:RowE h (.slice ia2 B.i.length ic2) B.i.length 1 (B.i.map Value.string))(p2:RowE h (.slice pa2 B.p.length pc2) B.p.length 32 (hcs B.p))(h32:All32 A.p)(h33:All32 B.p)(hil1:A.i.length ≤1099511627776)(hpl1:A.p.length ≤1099511627776):Sat Tryz.prog 56 #[.agg (asc A.c (.slice qa1 A.b.length qc1) A.sx A.se A.sh A.sg (.slice ia1 A.i.length ic1) A.n A.y A.k (.slice pa1 A.p.length pc1)).toArray,.agg (asc B.c (.slice qa2 B.b.length qc2) B.sx B.se B.sh B.sg (.slice ia2 B.i.length ic2) B.n B.y B.k (.slice pa2 B.p.length pc2)).toArray] h fun v h'=>v= .int .i64 (ruleA A B)∧Ext h h':=by
 have e0:=Ext.refl h
 have sep:Sep h.size h.size []:=Sep.nil _ _
 refine sat_in Tryz.func56 52 fun a hF=> ?_
 refine qS hF ?_
 refine tN 0 (pV h.size) ((asc A.c (.slice qa1 A.b.length qc1) A.sx A.se A.sh A.sg (.slice ia1 A.i.length ic1) A.n A.y A.k (.slice pa1 A.p.length pc1)).toArray) 47 fun h1 g2 m3=> ?_
 replace sep:=sep.nw e0.size m3
 refine tN 1 (pV h1.size) ((asc B.c (.slice qa2 B.b.length qc2) B.sx B.se B.sh B.sg (.slice ia2 B.i.length ic2) B.n B.y B.k (.slice pa2 B.p.length pc2)).toArray) 47 fun h4 g5 m6=> ?_
 replace e0:=e0.ext g2
 replace sep:=sep.nw e0.size m6
 refine sT [(2,pV h.size),(3,pV h1.size)] fun a hF=> ?_
 refine cS ?_
 refine cB 0 ?_
 refine qS hF ?_
 replace m3:=m3.x g5
 refine tO 1 0 m3 ?_
 refine tO 3 0 m6 ?_
 refine sT [(5,.bool (!decide (A.c =B.c)))] fun a hF=> ?_
 refine cI 5 hF (fun hc7=> ?_) fun hc7=> ?_
 ·skip
  have r1n:=hc7
  refine qP [(4,.int .i64 1)] hF fun a hF=> ?_
  refine cR (yB (yT ?_))
  refine rT 4 (.int .i64 1) hF ?_
  replace e0:=e0.ext g5
  exact⟨by rw[rule1 r1n],e0⟩
 ·skip
  have r1y:=hc7
  refine qS hF ?_
  refine tO 1 1 m3 ?_
  replace e0:=e0.ext g5
  refine tC 2 (.string (ByteArray.mk A.b.toArray)) (Calm.str (l:=A.b) (by kernel_rfl) (q1.1.ext e0)) ?_
  refine tO 4 1 m6 ?_
  refine tC 5 (.string (ByteArray.mk B.b.toArray)) (Calm.str (l:=B.b) (by kernel_rfl) (q2.1.ext e0)) ?_
  refine t1 6 (.bool (!decide (A.b =B.b))) (.bool (!((ByteArray.mk A.b.toArray).toList ==(ByteArray.mk B.b.toArray).toList))) (congrArg (fun b=>Value.bool (!b)) (str_beqM _ _)) ?_
  refine sT [(11,.bool (!decide (A.b =B.b)))] fun a hF=> ?_
  refine cI 11 hF (fun hc8=> ?_) fun hc8=> ?_
  ·skip
   have r2n:=hc8
   refine qP [(4,.int .i64 2)] hF fun a hF=> ?_
   refine cR (yB (yT ?_))
   refine rT 4 (.int .i64 2) hF ?_
   exact⟨by rw[rule2 r1y r2n],e0⟩
  ·skip
   have r2y:=hc8
   refine qS hF ?_
   refine tQ 1 2 (stc A.sx A.se A.sh A.sg) m3 ?_
   refine tQ 3 2 (stc B.sx B.se B.sh B.sg) m6 ?_
   refine tC 4 (.bool (!(stEq A.sx A.se A.sh A.sg B.sx B.se B.sh B.sg))) ((Calm.eqR (q:=false) (by kernel_rfl) (run_stEq A.sx A.se A.sh A.sg B.sx B.se B.sh B.sg)) _) ?_
   refine sT [(19,.bool (!(stEq A.sx A.se A.sh A.sg B.sx B.se B.sh B.sg)))] fun a hF=> ?_
   refine cC 19 (!(stEq A.sx A.se A.sh A.sg B.sx B.se B.sh B.sg)) hF (fun hc9=> ?_) (fun hc9=> ?_)
   ·skip
    have r3n:=hc9
    refine qP [(4,.int .i64 3)] hF fun a hF=> ?_
    refine cR (yB (yT ?_))
    refine rT 4 (.int .i64 3) hF ?_
    exact⟨by rw[rule3 r1y r2y (by simpa using r3n)],e0⟩
   ·skip
    have r3y:=hc9
    refine qS hF ?_
    refine tO 1 39 m3 ?_
    refine tO 3 39 m6 ?_
    refine tC 4 (.bool (decide (A.i =B.i))) (Does.call (f:=94) (args:= #[.slice ia1 A.i.length ic1,.slice ia2 B.i.length ic2]) (by kernel_rfl) (eqS_sat _ A.i B.i _ _ _ _ (i1.ext e0) (i2.ext e0) hil1)) ?_
    refine sT [(25,.bool (!decide (A.i =B.i)))] fun a hF=> ?_
    refine cI 25 hF (fun hc10=> ?_) fun hc10=> ?_
    ·skip
     have r4n:=hc10
     refine qP [(4,.int .i64 4)] hF fun a hF=> ?_
     refine cR (yB (yT ?_))
     refine rT 4 (.int .i64 4) hF ?_
     exact⟨by rw[rule4 r1y r2y (by simpa using r3y) r4n],e0⟩
    ·skip
     have r4y:=hc10
     refine qS hF ?_
     refine tQ 1 40 (hdc A.n A.y) m3 ?_
     refine tQ 3 40 (hdc B.n B.y) m6 ?_
     refine tC 4 (.bool (!(hdEq A.n A.y B.n B.y))) ((Calm.eqR (q:=false) (by kernel_rfl) (run_hdEq A.n A.y B.n B.y)) _) ?_
     refine sT [(32,.bool (!(hdEq A.n A.y B.n B.y)))] fun a hF=> ?_
     refine cC 32 (!(hdEq A.n A.y B.n B.y)) hF (fun hc11=> ?_) (fun hc11=> ?_)
     ·skip
      have r5n:=hc11
      refine qP [(4,.int .i64 5)] hF fun a hF=> ?_
      refine cR (yB (yT ?_))
      refine rT 4 (.int .i64 5) hF ?_
      exact⟨by rw[rule5 r1y r2y (by simpa using r3y) r4y (by simpa using r5n)],e0⟩
     ·skip
      have r5y:=hc11
      refine cS ?_
      rcases Int.decEq A.k B.k with hk|hk
      ·skip
       refine rS hF ?_
       refine tO 1 73 m3 ?_
       refine tO 3 73 m6 ?_
       refine uT 4 A.k B.k ?_
       refine sE [(38,.bool true)] fun a hF=> ?_
       refine tK ?_
       refine cT 38 hF ?_
       refine qP [(4,.int .i64 6)] hF fun a hF=> ?_
       refine cR (yB (yT ?_))
       refine rT 4 (.int .i64 6) hF ?_
       exact⟨by rw[rule6 r1y r2y (by simpa using r3y) r4y (by simpa using r5y) (by first|exact .inl hk|exact .inr r7n)],e0⟩
      ·skip
       refine rS hF ?_
       refine tO 1 73 m3 ?_
       refine tO 3 73 m6 ?_
       refine uF 4 A.k B.k ?_
       refine tO 7 74 m3 ?_
       refine tO 9 74 m6 ?_
       refine tC 10 (.bool (decide (A.p =B.p))) (Does.call (f:=95) (args:= #[.slice pa1 A.p.length pc1,.slice pa2 B.p.length pc2]) (by kernel_rfl) (eqHs_sat _ A.p B.p _ _ _ _ (p1.ext e0) (p2.ext e0) h32 h33 hpl1)) ?_
       refine sE [(38,.bool (!decide (A.p =B.p)))] fun a hF=> ?_
       refine tK ?_
       refine cI 38 hF (fun hc12=> ?_) fun hc12=> ?_
       ·skip
        have r7n:=hc12
        refine qP [(4,.int .i64 6)] hF fun a hF=> ?_
        refine cR (yB (yT ?_))
        refine rT 4 (.int .i64 6) hF ?_
        exact⟨by rw[rule6 r1y r2y (by simpa using r3y) r4y (by simpa using r5y) (by first|exact .inl hk|exact .inr r7n)],e0⟩
       ·skip
        have r7y:=hc12
        refine cN ?_
        refine bK ?_
        refine tK ?_
        refine qP [(4,.int .i64 0)] hF fun a hF=> ?_
        refine cR ?_
        refine rT 4 (.int .i64 0) hF ?_
        exact⟨by rw[rule0 r1y r2y (by simpa using r3y) r4y (by simpa using r5y) hk r7y],e0⟩
end Go.Proofs.YtegkejcglfgpmaaGreatDoor
end
