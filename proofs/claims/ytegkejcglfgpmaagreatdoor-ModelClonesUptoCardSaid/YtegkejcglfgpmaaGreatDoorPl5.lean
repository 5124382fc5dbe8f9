/- The walks and the plain laws, part 5: MdlO, RB, TreeF, ChkH, RC, RetU, RetD, RD, RE, RF, RSame, RS, ClonesL, RQ, ModelClonesCard. Conditions: those that each theorem names. -/
import Derived.Test.YtegkejcglfgpmaaGreatDoorPl4
section
namespace Go.Proofs.YtegkejcglfgpmaaGreatDoor
open Go Go.an Go.aT
noncomputable def b9:Code:=Tryz.f9.body.getD .skip
set_option maxHeartbeats 1000000 in
set_option maxRecDepth 10000 in
theorem wR(h:Heap)(kt:bH h):Sat Tryz.prog 9 #[] h fun v h'=>v= .bool true∧Ext h h':=by
 have e0:=Ext.refl h
 have dL:=kt.lt
 have sep:Sep h.size h.size []:=Sep.nil _ _
 refine ak Tryz.func9 103 fun a hF=>qP [] hF fun a hF=>qS hF<|tG 0 (zQ _ (by have:=e0.size;omega)) ?_
 rintro _ h4 ⟨mb,mp,rfl,hM,hb1,hp2,g⟩
 have hse:=e0.size
 replace e0:=e0.ext g
 replace kt:=kt.ext g
 replace sep:=sep.up g.size
 clear g
 have hk3:=hM.kb
 have cr:h4.size ≤h4.size :=Nat.le_refl _
 refine sT [(1,pV mb)] fun a hF=>cS<|qP [(14,.bool false)] hF fun a hF=>cF 14 hF<|cN<|tK<|qS hF ?_
 refine tN 0 (.slice (some ⟨h4.size,0,none⟩) 1 1) #[.int .u8 97] 5 fun h5 g6 m7=> ?_
 have lt8:=ag m7
 have zs9:=e0.size
 have qt:=cr
 replace sep:=sep.nw e0.size m7
 replace cr:=Nat.le_trans cr g6.size
 refine tN 2 (pV h5.size) #[.int .i64 0,.string ByteArray.empty,.slice none 0 0,.int .i64 0,.slice none 0 0] 35 fun h11 g12 m13=> ?_
 have Bc:=ag m13
 replace e0:=e0.ext g6
 have Bd:=e0.size
 have LM:=cr
 replace sep:=sep.nw e0.size m13
 replace cr:=Nat.le_trans cr g12.size
 refine bG 3 [.int .i64 1,.string (ByteArray.mk #[97]),.slice (some ⟨h4.size,0,none⟩) 1 1,.int .i64 0,.slice none 0 0] m13 fun h17 g18 zq=> ?_
 replace cr:=Nat.le_trans cr g18.1
 replace hM:=(hM.ext g6).ext g12
 replace hM:=hM.bE g18 m13 (by decide) (by omega)
 replace m13:=zq
 refine sT [(2,pV h5.size)] fun a hF=>qS hF<|tN 1 (pV h17.size) #[.int .i64 0,.string ByteArray.empty,.slice none 0 0,.int .i64 0,.slice none 0 0] 35 fun h19 g20 m21=> ?_
 have Qy:=ag m21
 replace e0:=(e0.ext g12).grew g18 (sep.l 0)
 have Qz:=e0.size
 have QA:=cr
 replace sep:=(sep.up g18.size).nw e0.size m21
 replace cr:=Nat.le_trans cr g20.size
 refine bG 2 [.int .i64 2,.string (ByteArray.mk #[97]),.slice none 0 0,.int .i64 0,.slice none 0 0] m21 fun lD gY zq=> ?_
 replace cr:=Nat.le_trans cr gY.1
 replace hM:=hM.ext g20
 replace hM:=hM.bE gY m21 (by decide) (by omega)
 replace m21:=zq
 refine sT [(3,pV h17.size)] fun a hF=>qS hF ?_
 replace m13:=(m13.x g20).y gY (sep.bp 1 0)
 refine tR 1 m13 ?_
 have L7:=hM.kb
 replace kt:=((((kt.ext g6).ext g12).grew g18 (sep.zero 1 rfl dL)).ext g20).grew gY (sep.zero 0 rfl dL)
 replace m7:=(((m7.x g12).y g18 (sep.bp 2 1)).x g20).y gY (sep.bp 2 0)
 refine tG 2 (lj _ mb mp M0 hM 1 0 sA [97] (some ⟨h4.size,0,none⟩) 1 none 0 0 (CI m7).1 (by decide) kt (by decide) M1 ft (Fm 0)) ?_
 rintro _ uA ⟨L8,L9,L_,Ma,pa31,pc32,rfl,_,_,_,_,m2,gm⟩
 replace m7:=gm.blk m7 (by omega) (by omega)
 replace m13:=gm.blk m13 (by omega) (by omega)
 replace m21:=gm.blk m21 (by omega) (by omega)
 replace e0:=(e0.ext g20).grew gY (sep.l 0)
 replace e0:=Gr.cY e0 gm (by rintro i (e|e)<;>omega)
 replace kt:=kt.gr gm (by rintro(e|e)<;>omega)
 replace sep:=sep.up gY.size
 replace sep:=sep.up gm.1
 replace cr:=Nat.le_trans cr gm.1
 clear hM;have hM:=m2;clear m2 gm
 refine tN 3 (pV uA.size) ((bJ (0:Int) (.slice none 0 0) aC (0:Int) false false (.slice none 0 0) (0:Int) aC (0:Int) (.slice none 0 0)).toArray) 47 fun h35 oT kv=> ?_
 have QB:=ag kv
 have QC:=e0.size
 have QD:=cr
 replace sep:=sep.nw e0.size kv
 replace cr:=Nat.le_trans cr oT.size
 refine bG 4 (bJ (0:Int) (.slice L8 0 L9) aC (0:Int) false false (.slice L_ 0 Ma) (0:Int) aC (0:Int) (.slice pa31 0 pc32)) kv fun uE gv zq=> ?_
 replace cr:=Nat.le_trans cr gv.1
 replace hM:=hM.ext oT
 replace hM:=hM.bE gv kv (by decide) (by omega)
 replace kv:=zq
 refine sT [(4,pV uA.size)] fun a hF=>qS hF ?_
 replace m21:=(m21.x oT).y gv (sep.bp 1 0)
 refine tR 1 m21 ?_
 have QE:=hM.kb
 replace kt:=(kt.ext oT).grew gv (sep.zero 0 rfl dL)
 refine tG 2 (lj _ mb mp M1 hM 2 0 sA [] none 0 none 0 0 (Row.nil _ _) (by decide) kt (by rw[CF];decide) M1 (Fl [97]) (ta 0 [])) ?_
 rintro _ h50 ⟨Mb,Mc,Me,Mf,Mg,Mh,rfl,rb,_,_,_,m2,gm⟩
 replace m7:=(m7.x oT).y gv (sep.bp 3 0)
 replace m7:=gm.blk m7 (by omega) (by omega)
 replace m13:=(m13.x oT).y gv (sep.bp 2 0)
 replace m13:=gm.blk m13 (by omega) (by omega)
 replace m21:=gm.blk m21 (by omega) (by omega)
 replace kv:=gm.blk kv (by omega) (by omega)
 replace e0:=(e0.ext oT).grew gv (sep.l 0)
 replace e0:=Gr.cY e0 gm (by rintro i (e|e)<;>omega)
 replace kt:=kt.gr gm (by rintro(e|e)<;>omega)
 replace sep:=sep.up gv.size
 replace sep:=sep.up gm.1
 replace cr:=Nat.le_trans cr gm.1
 clear hM;have hM:=m2;clear m2 gm
 refine tN 3 (pV h50.size) ((bJ (0:Int) (.slice none 0 0) aC (0:Int) false false (.slice none 0 0) (0:Int) aC (0:Int) (.slice none 0 0)).toArray) 47 fun Db s5 jm=> ?_
 have QF:=ag jm
 have QG:=e0.size
 have Gf:=cr
 replace sep:=sep.nw e0.size jm
 replace cr:=Nat.le_trans cr s5.size
 refine bG 4 (bJ (0:Int) (.slice Mb 1 Mc) aC (0:Int) false false (.slice Me 0 Mf) (0:Int) aC (0:Int) (.slice Mg 0 Mh)) jm fun h57 qj zq=> ?_
 replace cr:=Nat.le_trans cr qj.1
 replace hM:=hM.ext s5
 replace hM:=hM.bE qj jm (by decide) (by omega)
 replace rb:=rb.ext s5
 replace rb:=rb.bE qj jm (by decide)
 replace jm:=zq
 refine sT [(5,pV h50.size)] fun a hF=>qS hF ?_
 replace m13:=(m13.x s5).y qj (sep.bp 3 0)
 refine tR 1 m13 ?_
 have Mi:=hM.kb
 replace kt:=(kt.ext s5).grew qj (sep.zero 0 rfl dL)
 replace m7:=(m7.x s5).y qj (sep.bp 4 0)
 refine tG 2 (lj _ mb mp M1 hM 1 0 sA [97] (some ⟨h4.size,0,none⟩) 1 none 0 0 (CI m7).1 (by decide) kt (by rw[CF];decide) M1 (j4 212) (bE 0)) ?_
 rintro _ Jc ⟨H9,H_,H',Ia,Ib,Ic,rfl,_,_,_,_,m2,gm⟩
 replace m7:=gm.blk m7 (by omega) (by omega)
 replace m13:=gm.blk m13 (by omega) (by omega)
 replace m21:=(m21.x s5).y qj (sep.bp 2 0)
 replace m21:=gm.blk m21 (by omega) (by omega)
 replace kv:=(kv.x s5).y qj (sep.bp 1 0)
 replace kv:=gm.blk kv (by omega) (by omega)
 replace jm:=gm.blk jm (by omega) (by omega)
 replace rb:=rb.AZ gm hM
 replace e0:=(e0.ext s5).grew qj (sep.l 0)
 replace e0:=Gr.cY e0 gm (by rintro i (e|e)<;>omega)
 replace kt:=kt.gr gm (by rintro(e|e)<;>omega)
 replace sep:=sep.up qj.size
 replace sep:=sep.up gm.1
 replace cr:=Nat.le_trans cr gm.1
 clear hM;have hM:=m2;clear m2 gm
 refine tN 3 (pV Jc.size) ((bJ (0:Int) (.slice none 0 0) aC (0:Int) false false (.slice none 0 0) (0:Int) aC (0:Int) (.slice none 0 0)).toArray) 47 fun KV rZ nD=> ?_
 have QH:=ag nD
 have QI:=e0.size
 have QJ:=cr
 replace sep:=sep.nw e0.size nD
 replace cr:=Nat.le_trans cr rZ.size
 refine bG 4 (bJ (212:Int) (.slice H9 0 H_) aC (0:Int) false false (.slice H' 0 Ia) (0:Int) aC (0:Int) (.slice Ib 0 Ic)) nD fun Dc rA zq=> ?_
 replace cr:=Nat.le_trans cr rA.1
 replace hM:=hM.ext rZ
 replace hM:=hM.bE rA nD (by decide) (by omega)
 replace rb:=rb.ext rZ
 replace rb:=rb.bE rA nD (by decide)
 replace nD:=zq
 refine sT [(6,pV Jc.size)] fun a hF=>qS hF ?_
 replace m13:=(m13.x rZ).y rA (sep.bp 4 0)
 refine tR 0 m13 ?_
 replace m21:=(m21.x rZ).y rA (sep.bp 3 0)
 refine tR 1 m21<|tN 2 (.slice (some ⟨Dc.size,0,none⟩) 2 2) #[.int .i64 1,.string (ByteArray.mk #[97]),.slice (some ⟨h4.size,0,none⟩) 1 1,.int .i64 0,.slice none 0 0,.int .i64 2,.string (ByteArray.mk #[97]),.slice none 0 0,.int .i64 0,.slice none 0 0] 35 fun Cq rH DF=> ?_
 have Mj:=ag DF
 replace e0:=(e0.ext rZ).grew rA (sep.l 0)
 have Eg:=e0.size
 have Mk:=cr
 replace sep:=(sep.up rA.size).nw e0.size DF
 replace cr:=Nat.le_trans cr rH.size
 refine tN 4 (.slice (some ⟨Cq.size,0,none⟩) 1 1) #[.int .u8 98] 5 fun NY k_ DG=> ?_
 have Ml:=ag DG
 replace e0:=e0.ext rH
 have Mm:=e0.size
 have Mn:=cr
 replace sep:=sep.nw e0.size DG
 replace cr:=Nat.le_trans cr k_.size
 refine tN 6 (.slice (some ⟨NY.size,0,none⟩) 2 2) ((ou [gC,aByte 98 Cq.size]).toArray) 47 fun h87 pM xm=> ?_
 have Mo:=ag xm
 replace e0:=e0.ext k_
 have Mp:=e0.size
 have Fv:=cr
 replace sep:=sep.nw e0.size xm
 replace cr:=Nat.le_trans cr pM.size
 replace kt:=((((kt.ext rZ).grew rA (sep.zero 3 rfl dL)).ext rH).ext k_).ext pM
 replace m7:=((((m7.x rZ).y rA (sep.bp 8 3)).x rH).x k_).x pM
 replace DF:=(DF.x k_).x pM
 replace DG:=DG.x pM
 refine tG 7 (kj _ [ki h4.size,fo] [gC,aByte 98 Cq.size] 2 _ _ _ _ JD rD (Row.blk (n:=2) (sz:=5) (l:=g' [ki h4.size,fo]) DF rfl) rfl (Row.blk (n:=2) (sz:=75) (l:=ou [gC,aByte 98 Cq.size]) xm rfl) rfl kt (by decide) rfl (LY m7 DG) [(1,2)] L3) ?_
 rintro _ h95 ⟨Ie,DH,rfl,tS,g⟩
 replace kv:=((((kv.x rZ).y rA (sep.bp 5 3)).x rH).x k_).x pM
 replace jm:=((((jm.x rZ).y rA (sep.bp 4 3)).x rH).x k_).x pM
 replace hM:=((hM.ext rH).ext k_).ext pM
 replace rb:=((rb.ext rH).ext k_).ext pM
 replace m13:=((m13.x rH).x k_).x pM
 replace m21:=((m21.x rH).x k_).x pM
 replace nD:=((nD.x rH).x k_).x pM
 replace e0:=e0.ext pM
 replace e0:=e0.ext g
 replace kt:=kt.ext g
 replace cr:=Nat.le_trans cr g.size
 replace hM:=hM.ext g
 replace rb:=rb.ext g
 replace m7:=m7.x g
 replace m13:=m13.x g
 replace m21:=m21.x g
 replace kv:=kv.x g
 replace jm:=jm.x g
 replace nD:=nD.x g
 replace DF:=DF.x g
 replace DG:=DG.x g
 replace xm:=xm.x g
 replace sep:=sep.up g.size
 clear g
 clear DF Mj Eg Mk
 clear DG Ml Mm Mn
 clear xm Mo Mp Fv
 clear hM
 refine sT [(7,.slice Ie 1 DH)] fun a hF=>qS hF<|tR 0 m21<|tN 1 (.slice (some ⟨h95.size,0,none⟩) 1 1) #[.int .i64 2,.string (ByteArray.mk #[97]),.slice none 0 0,.int .i64 0,.slice none 0 0] 35 fun Ks nP qh=> ?_
 have Ej:=ag qh
 have x1:=e0.size
 have x3:=cr
 replace sep:=sep.nw e0.size qh
 replace cr:=Nat.le_trans cr nP.size
 refine tN 3 (.slice (some ⟨Ks.size,0,none⟩) 1 1) ((ou [cu 2]).toArray) 47 fun QK lJ wS=> ?_
 have Ig:=ag wS
 replace e0:=e0.ext nP
 have Ih:=e0.size
 have Ii:=cr
 replace sep:=sep.nw e0.size wS
 replace cr:=Nat.le_trans cr lJ.size
 replace kt:=(kt.ext nP).ext lJ
 replace qh:=qh.x lJ
 refine tG 4 (kj _ [fo] [cu 2] 1 _ _ _ _ JE rE (Row.blk (n:=1) (sz:=5) (l:=g' [fo]) qh rfl) rfl (Row.blk (n:=1) (sz:=75) (l:=ou [cu 2]) wS rfl) rfl kt (by decide) rfl (LZ _) [(0,1)] L4) ?_
 rintro _ B3 ⟨DI,Ad,rfl,Ae,g⟩
 replace rb:=(rb.ext nP).ext lJ
 replace tS:=(tS.ext nP).ext lJ
 replace m7:=(m7.x nP).x lJ
 replace m13:=(m13.x nP).x lJ
 replace m21:=(m21.x nP).x lJ
 replace kv:=(kv.x nP).x lJ
 replace jm:=(jm.x nP).x lJ
 replace nD:=(nD.x nP).x lJ
 replace e0:=e0.ext lJ
 replace e0:=e0.ext g
 replace kt:=kt.ext g
 replace cr:=Nat.le_trans cr g.size
 replace rb:=rb.ext g
 replace tS:=tS.ext g
 replace m7:=m7.x g
 replace m13:=m13.x g
 replace m21:=m21.x g
 replace kv:=kv.x g
 replace jm:=jm.x g
 replace nD:=nD.x g
 replace qh:=qh.x g
 replace wS:=wS.x g
 replace sep:=sep.up g.size
 clear g
 clear qh Ej x1 x3
 clear wS Ig Ih Ii
 refine sT [(8,.slice DI 1 Ad)] fun a hF=>qS hF<|tR 1 m13<|tR 3 m21<|tR 4 m21<|tN 5 (.slice (some ⟨B3.size,0,none⟩) 5 5) #[.int .i64 12,.string ByteArray.empty,.slice none 0 0,.int .i64 0,.slice none 0 0,.int .i64 1,.string (ByteArray.mk #[97]),.slice (some ⟨h4.size,0,none⟩) 1 1,.int .i64 0,.slice none 0 0,.int .i64 13,.string ByteArray.empty,.slice none 0 0,.int .i64 0,.slice none 0 0,.int .i64 2,.string (ByteArray.mk #[97]),.slice none 0 0,.int .i64 0,.slice none 0 0,.int .i64 2,.string (ByteArray.mk #[97]),.slice none 0 0,.int .i64 0,.slice none 0 0] 35 fun zh iS fF=> ?_
 have Ij:=ag fF
 have Ik:=e0.size
 have Af:=cr
 replace sep:=sep.nw e0.size fF
 replace cr:=Nat.le_trans cr iS.size
 refine tN 9 (.slice (some ⟨zh.size,0,none⟩) 1 1) #[.int .u8 97] 5 fun x5 kV rO=> ?_
 have Il:=ag rO
 replace e0:=e0.ext iS
 have Im:=e0.size
 have x9:=cr
 replace sep:=sep.nw e0.size rO
 replace cr:=Nat.le_trans cr kV.size
 refine tN 12 (.slice (some ⟨x5.size,0,none⟩) 5 5) ((ou [gC,cu 2,gC,aByte 97 zh.size,cu 211]).toArray) 47 fun QL kl wT=> ?_
 have Io:=ag wT
 replace e0:=e0.ext kV
 have Ip:=e0.size
 have Iq:=cr
 replace sep:=sep.nw e0.size wT
 replace cr:=Nat.le_trans cr kl.size
 replace kt:=((kt.ext iS).ext kV).ext kl
 replace m7:=((m7.x iS).x kV).x kl
 replace fF:=(fF.x kV).x kl
 replace rO:=rO.x kl
 refine tG 13 (kj _ [eA 12,ki h4.size,eA 13,fo,fo] [gC,cu 2,gC,aByte 97 zh.size,cu 211] 5 _ _ _ _ CJ rF (Row.blk (n:=5) (sz:=5) (l:=g' [eA 12,ki h4.size,eA 13,fo,fo]) fF rfl) rfl (Row.blk (n:=5) (sz:=75) (l:=ou [gC,cu 2,gC,aByte 97 zh.size,cu 211]) wT rfl) rfl kt (by decide) rfl (L0 m7 rO) [(4,1)] L5) ?_
 rintro _ Ir ⟨vr,p3,rfl,xn,g⟩
 replace rb:=((rb.ext iS).ext kV).ext kl
 replace tS:=((tS.ext iS).ext kV).ext kl
 replace Ae:=((Ae.ext iS).ext kV).ext kl
 replace m13:=((m13.x iS).x kV).x kl
 replace m21:=((m21.x iS).x kV).x kl
 replace kv:=((kv.x iS).x kV).x kl
 replace jm:=((jm.x iS).x kV).x kl
 replace nD:=((nD.x iS).x kV).x kl
 replace e0:=e0.ext kl
 replace e0:=e0.ext g
 replace kt:=kt.ext g
 replace cr:=Nat.le_trans cr g.size
 replace rb:=rb.ext g
 replace tS:=tS.ext g
 replace Ae:=Ae.ext g
 replace m7:=m7.x g
 replace m13:=m13.x g
 replace m21:=m21.x g
 replace kv:=kv.x g
 replace jm:=jm.x g
 replace nD:=nD.x g
 replace fF:=fF.x g
 replace rO:=rO.x g
 replace wT:=wT.x g
 replace sep:=sep.up g.size
 clear g
 clear fF Ij Ik Af
 clear rO Il Im x9
 clear wT Io Ip Iq
 refine sT [(9,.slice vr 1 p3)] fun a hF=>qS hF<|tR 1 m13<|tR 3 m21<|tN 4 (.slice (some ⟨Ir.size,0,none⟩) 4 4) #[.int .i64 12,.string ByteArray.empty,.slice none 0 0,.int .i64 0,.slice none 0 0,.int .i64 1,.string (ByteArray.mk #[97]),.slice (some ⟨h4.size,0,none⟩) 1 1,.int .i64 0,.slice none 0 0,.int .i64 13,.string ByteArray.empty,.slice none 0 0,.int .i64 0,.slice none 0 0,.int .i64 2,.string (ByteArray.mk #[97]),.slice none 0 0,.int .i64 0,.slice none 0 0] 35 fun Mq kW rQ=> ?_
 have Is:=ag rQ
 have It:=e0.size
 have Iu:=cr
 replace sep:=sep.nw e0.size rQ
 replace cr:=Nat.le_trans cr kW.size
 refine tN 9 (.slice (some ⟨Mq.size,0,none⟩) 4 4) ((ou [gC,cu 2,gC,cu 211]).toArray) 47 fun QM km wU=> ?_
 have Iv:=ag wU
 replace e0:=e0.ext kW
 have Iw:=e0.size
 have Ix:=cr
 replace sep:=sep.nw e0.size wU
 replace cr:=Nat.le_trans cr km.size
 replace kt:=(kt.ext kW).ext km
 replace m7:=(m7.x kW).x km
 replace rQ:=rQ.x km
 refine tG 10 (kj _ [eA 12,ki h4.size,eA 13,fo] [gC,cu 2,gC,cu 211] 4 _ _ _ _ JG rG (Row.blk (n:=4) (sz:=5) (l:=g' [eA 12,ki h4.size,eA 13,fo]) rQ rfl) rfl (Row.blk (n:=4) (sz:=75) (l:=ou [gC,cu 2,gC,cu 211]) wU rfl) rfl kt (by decide) rfl (L1 m7) [] L6) ?_
 rintro _ CK ⟨Iy,Fw,rfl,rd3,g⟩
 replace rb:=(rb.ext kW).ext km
 replace tS:=(tS.ext kW).ext km
 replace Ae:=(Ae.ext kW).ext km
 replace xn:=(xn.ext kW).ext km
 replace m13:=(m13.x kW).x km
 replace m21:=(m21.x kW).x km
 replace kv:=(kv.x kW).x km
 replace jm:=(jm.x kW).x km
 replace nD:=(nD.x kW).x km
 replace e0:=e0.ext km
 replace e0:=e0.ext g
 replace kt:=kt.ext g
 replace cr:=Nat.le_trans cr g.size
 replace rb:=rb.ext g
 replace tS:=tS.ext g
 replace Ae:=Ae.ext g
 replace xn:=xn.ext g
 replace m7:=m7.x g
 replace m13:=m13.x g
 replace m21:=m21.x g
 replace kv:=kv.x g
 replace jm:=jm.x g
 replace nD:=nD.x g
 replace rQ:=rQ.x g
 replace wU:=wU.x g
 replace sep:=sep.up g.size
 clear g
 clear rQ Is It Iu
 clear wU Iv Iw Ix
 refine sT [(10,.slice Iy 0 Fw)] fun a hF=>qS hF<|tO 1 0 kv<|tO 5 1 jm<|tC 6 (.string (ByteArray.mk #[97])) (Calm.str (l:=[97]) (by kernel_rfl) rb.1)<|t1 7 (.bool true) (.bool ((ByteArray.mk #[97]).toList ==(ByteArray.mk #[97]).toList)) (congrArg Value.bool (by simp))<|tO 11 0 nD ?_
 refine sT [(11,.bool true)] fun a hF=>qS hF<|tN 4 (.slice (some ⟨CK.size,0,none⟩) 1 1) #[.int .i64 1,.int .i64 2] 52 fun Fx tZ Fy=> ?_
 have NZ:=ag Fy
 have N0:=e0.size
 have N3:=cr
 replace sep:=sep.nw e0.size Fy
 replace cr:=Nat.le_trans cr tZ.size
 replace tS:=tS.ext tZ
 refine tC 5 (.bool true) (Does.call (f:=14) (args:= #[.slice Ie 1 DH,.slice (some ⟨CK.size,0,none⟩) 1 1]) (by kernel_rfl) (kU _ (1,2) _ _ _ _ tS (Row.blk (n:=1) (sz:=2) (l:=ez [(1,2)]) Fy rfl)))<|tN 10 (.slice (some ⟨Fx.size,0,none⟩) 1 1) #[.int .i64 0,.int .i64 1] 52 fun Iz CL Fz=> ?_
 have N4:=ag Fz
 replace e0:=e0.ext tZ
 have N5:=e0.size
 have N6:=cr
 replace sep:=sep.nw e0.size Fz
 replace cr:=Nat.le_trans cr CL.size
 replace Ae:=(Ae.ext tZ).ext CL
 refine tC 11 (.bool true) (Does.call (f:=14) (args:= #[.slice DI 1 Ad,.slice (some ⟨Fx.size,0,none⟩) 1 1]) (by kernel_rfl) (kU _ (0,1) _ _ _ _ Ae (Row.blk (n:=1) (sz:=2) (l:=ez [(0,1)]) Fz rfl)))<|tN 16 (.slice (some ⟨Iz.size,0,none⟩) 1 1) #[.int .i64 4,.int .i64 1] 52 fun Mr ov FA=> ?_
 have N7:=ag FA
 replace e0:=e0.ext CL
 have N8:=e0.size
 have N9:=cr
 replace sep:=sep.nw e0.size FA
 replace cr:=Nat.le_trans cr ov.size
 replace xn:=((xn.ext tZ).ext CL).ext ov
 refine tC 17 (.bool true) (Does.call (f:=14) (args:= #[.slice vr 1 p3,.slice (some ⟨Iz.size,0,none⟩) 1 1]) (by kernel_rfl) (kU _ (4,1) _ _ _ _ xn (Row.blk (n:=1) (sz:=2) (l:=ez [(4,1)]) FA rfl)))<|sT [(0,.bool true)] fun a hF=>cR<|rT 0 (.bool true) hF ?_
 replace e0:=e0.ext ov
 exact⟨rfl,e0⟩
end Go.Proofs.YtegkejcglfgpmaaGreatDoor
end
section
namespace Go.Proofs.YtegkejcglfgpmaaGreatDoor
open Go Go.an Go.aT
noncomputable def b16:Code:=Tryz.f16.body.getD .skip
theorem FB(h:Heap)(hk0:0<h.size):Sat Tryz.prog 16 #[] h fun v h'=>∃b,v= .pointer (some ⟨b,0,none⟩)∧bF (fun _=>False) h' b ⟨fun _=>none,[],0⟩∧h.size ≤b∧Ext h h':=by
 have e0:=Ext.refl h
 have sep:Sep h.size h.size []:=Sep.nil _ _
 refine ak Tryz.func16 3 fun a hF=>qP [] hF fun a hF=>qS hF<|tN 1 (pV h.size) #[.slice none 0 0,.slice none 0 0,.int .i64 0] 86 fun h1 g2 m3=> ?_
 have oH:=ag m3
 have oI:=e0.size
 replace sep:=sep.nw e0.size m3
 refine sT [(0,pV h.size)] fun a hF=>cR<|rT 0 (pV h.size) hF ?_
 replace e0:=e0.ext g2
 exact⟨_,rfl,bn.new m3 hk0,Nat.le_refl _,e0⟩
noncomputable def b21:Code:=Tryz.f21.body.getD .skip
noncomputable def b46:Code:=Tryz.f46.body.getD .skip
theorem dR(h:Heap)(x:RB)(e:Int)(ho go:Bool)(c:Value):Sat Tryz.prog 46 #[.agg (rc x e ho go (c)).toArray] h fun v h'=>v= .agg (uX x e ho go).toArray ∧Ext h h':=by
 have e0:=Ext.refl h
 have sep:Sep h.size h.size []:=Sep.nil _ _
 refine ak Tryz.func46 16 fun a hF=>qS hF<|tN 0 (pV h.size) ((rc x e ho go (c)).toArray) 95 fun h1 g2 m3=> ?_
 replace sep:=sep.nw e0.size m3
 refine tN 1 (pV h1.size) ((uX aC (0:Int) false false).toArray) 41 fun h4 g5 m6=> ?_
 replace e0:=e0.ext g2
 replace sep:=sep.nw e0.size m6
 refine sT [(1,pV h.size),(2,pV h1.size)] fun a hF=>qS hF ?_
 replace m3:=m3.x g5
 refine tO 1 1 m3<|tQ 3 2 ((hl x).map bv) m3<|tO 5 34 m3<|tO 7 35 m3<|tO 9 36 m3<|tO 11 37 m3<|bG 13 (uX x e ho go) m6 fun h7 g8 zq=> ?_
 replace m6:=zq
 refine sT [] fun a hF=>cR<|rB m6 hF ?_
 replace e0:=(e0.ext g5).grew g8 (sep.l 0)
 exact⟨rfl,e0⟩
noncomputable def b78:Code:=Tryz.f78.body.getD .skip
theorem lY {W:Nat→Prop}(h:Heap)(rb:Nat)(M:Md)(T:List RO)(oa:Option Addr)(oc:Nat)(ea:Option Addr)(ec:Nat)(es:List Value)(md:bn W h rb M T oa oc ea ec es)(s:ByteArray)(k:Nat)(r:Bool)(hat:AtP T s k r)(hE:M.E.length ≤1099511627):Sat Tryz.prog 78 #[.pointer (some ⟨rb,0,none⟩),.string s] h fun v h'=>v= .tuple #[.int .i64 ((k:Nat):Int),.bool r]∧h'=h:=by
 have hm:=md.hm
 have hbr:=ag hm
 have hLn:=md.ln
 refine ak Tryz.func78 50 fun a hF=>qP [] hF fun a hF=>qP [(6,.int .i64 0)] hF fun a hF=>cS<|cB 0<|cL (fun m a h'=>∃i:Nat,m=k - i∧(h=h')∧(i≤k)∧(Fr a 50 [(0,.pointer (some ⟨rb,0,none⟩)),(1,.string s),(6,.int .i64 ((i:Nat):Int))])) (k - 0) ⟨0,rfl,rfl,(Nat.zero_le _),hF.to⟩ ?_
 clear hF a
 rintro m a h1 ⟨i,rfl,hh,hi,hF⟩
 subst hh
 refine cS<|cS ?_
 rcases hat.step hi with⟨hik,hiT,x,hx,hxl⟩|⟨hik,hiT,hr⟩|⟨hik,hiT,x,hx,hxl,hr⟩
 ·have hFn:=hF
  obtain⟨ao,rfl,fh⟩:=md.row.1.a6 (by omega)
  have hF:=hFn;clear hFn
  refine rS hF<|tO 4 0 (md.hm)<|tT 6 (((i:Nat):Int)<((T.length :Nat):Int))<|tO 11 0 (md.hm)<|tI 13 ao T.length 40 i (i*40)<|t1 14 (.pointer (some (Addr.add ao (i*40)))) (.pointer (some ((Addr.add ao (i*40)).add 0))) (by rw[add_add,Nat.add_zero])<|t1 15 (.pointer (some (Addr.add ao (i*40)))) (.pointer (some ((Addr.add ao (i*40)).add 0))) (by rw[add_add,Nat.add_zero]) ?_
  refine tC 16 (.string x.o.b.id) (Calm.load (T:=9) (p:=(Addr.add ao (i*40))) (by kernel_rfl) (Loads.one (k:=1) (by kernel_rfl) (Row.zA (md.row.1) hx)))<|t1 18 (.bool true) (.bool (Op.bytesLess x.o.b.id.toList s.toList)) (congrArg Value.bool (yw hxl))<|sE [(26,.bool true)] fun a hF=>tK<|cT 26 hF<|cN<|tK ?_
  refine cB 1<|rS hF<|tA 1 i 1<|sE [(6,nV (i+1))] fun a hF=>bK ?_
  show ∃m',m'<_∧_
  refine⟨_,?_,(i+1),rfl,rfl,(by omega),hF.to⟩
  omega
 ·refine rS hF<|tO 4 0 (md.hm)<|tX 6 (((i:Nat):Int)<((T.length :Nat):Int))<|sE [(26,.bool false)] fun a hF=>tK<|cF 26 hF<|cX 0 (xT (xT (xB ?_)))
  refine tK<|cS<|cD [0,0,0,4,12,28,60,126,254,510,1022,2046,4094,510,16382,32766,65534,131070,510,524286,1048574,511,4194303] 4 mixed hF<|mP 31 [0,1,2,3,4] [nV i,nV i,pV rb,pV rb,pV rb]<|mO 63 32 5 0 (.slice oa T.length oc) (md.hm)<|mP 127 [6] [nV T.length]<|I' 255 7 (((i:Nat):Int)<((T.length :Nat):Int)) ?_
  refine mP 8388607 [8,9,10,11,12,13,14,15,16,17,18,19,20,21,22] [.bool false,undef,undef,undef,undef,undef,undef,undef,undef,undef,undef,undef,.bool false,nV i,.bool false]<|mE [(4,nV i),(5,.bool false)] fun a hF=>tK<|cR<|aK [.tmp 4,.tmp 5] [.int .i64 ((i:Nat):Int),.bool false] (.tuple #[.int .i64 ((i:Nat):Int),.bool false]) rfl hF ⟨rfl,rfl,trivial⟩ rfl ?_
  subst hik
  exact⟨by rw[hr],rfl⟩
 ·have hFn:=hF
  obtain⟨ao,rfl,fh⟩:=md.row.1.a6 (by omega)
  have hF:=hFn;clear hFn
  refine rS hF<|tO 4 0 (md.hm)<|tT 6 (((i:Nat):Int)<((T.length :Nat):Int))<|tO 11 0 (md.hm)<|tI 13 ao T.length 40 i (i*40)<|t1 14 (.pointer (some (Addr.add ao (i*40)))) (.pointer (some ((Addr.add ao (i*40)).add 0))) (by rw[add_add,Nat.add_zero])<|t1 15 (.pointer (some (Addr.add ao (i*40)))) (.pointer (some ((Addr.add ao (i*40)).add 0))) (by rw[add_add,Nat.add_zero]) ?_
  refine tC 16 (.string x.o.b.id) (Calm.load (T:=9) (p:=(Addr.add ao (i*40))) (by kernel_rfl) (Loads.one (k:=1) (by kernel_rfl) (Row.zA (md.row.1) hx)))<|t1 18 (.bool false) (.bool (Op.bytesLess x.o.b.id.toList s.toList)) (congrArg Value.bool (uS hxl))<|sE [(26,.bool false)] fun a hF=>tK<|cF 26 hF<|cX 0 (xT (xT (xB ?_)))
  refine tK<|cS<|cD [0,0,0,4,12,28,60,126,254,510,1022,2046,4094,510,16382,32766,65534,131070,510,524286,1048574,511,4194303] 4 mixed hF<|mP 31 [0,1,2,3,4] [nV i,nV i,pV rb,pV rb,pV rb]<|mO 63 32 5 0 (.slice (some ao) T.length oc) (md.hm)<|mP 127 [6] [nV T.length]<|FQ 255 7 (((i:Nat):Int)<((T.length :Nat):Int)) ?_
  refine mP 4095 [8,9,10,11] [.bool true,pV rb,pV rb,pV rb]<|mO 8191 4128 12 0 (.slice (some ao) T.length oc) (md.hm)<|mP 16383 [13] [nV i]<|mI 32767 14 ao T.length 40 i (i*40)<|m1 65535 15 (.pointer (some (Addr.add ao (i*40)))) (.pointer (some ((Addr.add ao (i*40)).add 0))) (by rw[add_add,Nat.add_zero])<|m1 131071 16 (.pointer (some (Addr.add ao (i*40)))) (.pointer (some ((Addr.add ao (i*40)).add 0))) (by rw[add_add,Nat.add_zero])<|mL 262143 135200 17 (.string x.o.b.id) (Calm.load (T:=9) (p:=(Addr.add ao (i*40))) (by kernel_rfl) (Loads.one (k:=1) (by kernel_rfl) (Row.zA (md.row.1) hx))) ?_
  refine mP 524287 [18] [.string s]<|m1 1048575 19 (.bool r) (.bool (x.o.b.id.toList ==s.toList)) (congrArg Value.bool ((eH _ _).trans hr))<|mP 8388607 [20,21,22] [.bool r,nV i,.bool r]<|mE [(4,nV i),(5,.bool r)] fun a hF=>tK<|cR<|aK [.tmp 4,.tmp 5] [.int .i64 ((i:Nat):Int),.bool r] (.tuple #[.int .i64 ((i:Nat):Int),.bool r]) rfl hF ⟨rfl,rfl,trivial⟩ rfl ?_
  subst hik
  exact⟨rfl,rfl⟩
noncomputable def b80:Code:=Tryz.f80.body.getD .skip
theorem dS {W:Nat→Prop}(h:Heap)(rb:Nat)(M:Md)(T:List RO)(oa:Option Addr)(oc:Nat)(ea:Option Addr)(ec:Nat)(es:List Value)(md:bn W h rb M T oa oc ea ec es)(s:ByteArray)(hsz:s.size ≤9223372036854775807)(q:Nat)(e:Int)(hq:PF T s q e)(hE:M.E.length ≤1099511627):Sat Tryz.prog 80 #[.pointer (some ⟨rb,0,none⟩),.string s] h fun v h'=>v= .tuple #[.int .i64 ((q:Nat):Int),.int .i64 e]∧h'=h:=by
 refine ak Tryz.func80 20 fun a hF=>qP [] hF fun a hF=>cS<|cS ?_
 rcases hq with⟨hok,rfl,rfl⟩|⟨hok,⟨k,hat⟩,rfl,rfl⟩|⟨hok,hat,rfl⟩
 ·refine rS hF<|tC 1 (.bool false) (Does.call (f:=27) (args:= #[.string s]) (by kernel_rfl) (nq _ s hsz hok))<|sE [(10,.bool true)] fun a hF=>tK<|cT 10 hF<|qP [(4,.int .i64 0),(5,.int .i64 210)] hF fun a hF=>cR (yT ?_)
  exact aK [.tmp 4,.tmp 5] [.int .i64 0,.int .i64 210] (.tuple #[.int .i64 0,.int .i64 210]) rfl hF ⟨rfl,rfl,trivial⟩ rfl<|⟨rfl,rfl⟩
 ·refine rS hF<|tC 1 (.bool true) (Does.call (f:=27) (args:= #[.string s]) (by kernel_rfl) (dQ _ s hok))<|sE [(10,.bool false)] fun a hF=>tK<|cF 10 hF<|cN<|tK ?_
  refine qS hF<|tC 2 (.tuple #[nV k,.bool false]) (Does.call (f:=78) (args:= #[pV rb,.string s]) (by kernel_rfl) (lY _ rb M T oa oc ea ec es md s k false hat hE))<|sT [(6,nV k),(7,.bool false)] fun a hF=>cS<|qP [(18,.bool true)] hF fun a hF=>cT 18 hF<|qP [(4,.int .i64 0),(5,.int .i64 211)] hF fun a hF=> ?_
  refine cR (yT ?_)
  exact aK [.tmp 4,.tmp 5] [.int .i64 0,.int .i64 211] (.tuple #[.int .i64 0,.int .i64 211]) rfl hF ⟨rfl,rfl,trivial⟩ rfl<|⟨rfl,rfl⟩
 ·refine rS hF<|tC 1 (.bool true) (Does.call (f:=27) (args:= #[.string s]) (by kernel_rfl) (dQ _ s hok))<|sE [(10,.bool false)] fun a hF=>tK<|cF 10 hF<|cN<|tK ?_
  refine qS hF<|tC 2 (.tuple #[nV q,.bool true]) (Does.call (f:=78) (args:= #[pV rb,.string s]) (by kernel_rfl) (lY _ rb M T oa oc ea ec es md s q true hat hE))<|sT [(6,nV q),(7,.bool true)] fun a hF=>cS<|qP [(18,.bool false)] hF fun a hF=>cF 18 hF<|cN ?_
  exact tK<|qP [(4,nV q),(5,.int .i64 0)] hF fun a hF=>cR<|aK [.tmp 4,.tmp 5] [.int .i64 ((q:Nat):Int),.int .i64 0] (.tuple #[.int .i64 ((q:Nat):Int),.int .i64 0]) rfl hF ⟨rfl,rfl,trivial⟩ rfl<|⟨rfl,rfl⟩
noncomputable def b84:Code:=Tryz.f84.body.getD .skip
theorem nE {W:Nat→Prop}(h:Heap)(rb:Nat)(M:Md)(A B:List RO)(x:RO)(oa:Option Addr)(oc:Nat)(ea:Option Addr)(ec:Nat)(es:List Value)(md:bn W h rb M (A++x::B) oa oc ea ec es)(e:Int)(ho go:Bool)(ca:Option Addr)(cc:Nat)(hr:Row h (.slice ca 0 cc) 0 4 (c_ []))(hE:M.E.length ≤1099511627):Sat Tryz.prog 84 #[.pointer (some ⟨rb,0,none⟩),.int .i64 ((A.length :Nat):Int),.agg (rc x.o.b e ho go (.slice ca 0 cc)).toArray] h fun _ h'=>bF W h' rb ⟨upd M.f x.o.b.id ⟨x.o.b,e,ho,go,x.o.dt⟩,M.E,M.t⟩∧RG rb h h':=by
 have hm:=md.hm
 have hbr:=ag hm
 have hLn:=md.ln
 have hAl:A.length <(A++x::B).length :=zz
 have e0:=Ext.refl h
 have sep:Sep h.size h.size []:=Sep.nil _ _
 refine ak Tryz.func84 23 fun a hF=>qS hF<|tN 0 (pV h.size) ((rc x.o.b e ho go (.slice ca 0 cc)).toArray) 95 fun h1 g2 m3=> ?_
 replace sep:=sep.nw e0.size m3
 refine sT [(5,pV h.size)] fun a hF=>qS hF<|tN 1 (.slice (some ⟨h1.size,0,none⟩) 0 0) #[] 97 fun h4 g5 m6=> ?_
 replace e0:=e0.ext g2
 replace sep:=sep.nw e0.size m6
 have af:Own h4 (.slice (some ⟨h1.size,0,none⟩) 0 0) 97 ([]:List RO).length 40 (bC []):=Own.empty 40 m6
 replace sep:Sep h.size h4.size [(some ⟨h1.size,0,none⟩:Option Addr).map (·.block),some (h.size)]:=sep
 replace e0:=e0.ext g5
 replace m3:=m3.x g5
 clear m6
 refine tO 5 0 (e0.blk hm)<|tP 6 ((A++x::B).length) 128 (bC (A++x::B)) af (md.row.1.ext e0) (dP _) (fun et b8 h9 af g10 qT=> ?_) (ys:=(bC (A++x::B))) (hZ:=by first|rfl|exact List.flatMap_append.symm |simp[bC])
 have s12:=sep
 replace sep:=sep.sa g10 0 qT af e0.size;clear qT
 have hFn:=hF
 obtain⟨ao,rfl,fh⟩:=af.a6 EZ
 have hF:=hFn;clear hFn
 replace e0:=e0.grew g10 (s12.l 0)
 replace m3:=m3.y g10 (s12.bp 1 0)
 refine tW 9 0 [.slice (some ao) ((A++x::B).length) b8] [.slice oa ((A++x::B).length) oc,.slice ea M.E.length ec,.int .i64 M.t] [.slice (some ao) ((A++x::B).length) b8,.slice ea M.E.length ec,.int .i64 M.t] (e0.blk hm) (fun h13 gm hmD=> ?_)
 have Ag:=e0.size
 have gk:RG rb h h13:=RG.one e0 gm
 replace af:=af.kept gm (by rw[aj];right;intro e;have:=sep.low 0 rfl _ e;omega)
 replace m3:=gm.blk m3 (fun e=>by have:=sep.low 1 rfl _ rfl;cases e;omega)
 replace sep:=sep.up gm.1
 clear Ag
 have hm2:=hmD;clear hmD gm
 refine sT [] fun a hF=>cD [0,1,3,7,0,0,63,127,255] 2 mixed hF<|mP 7 [0,1,2] [pV rb,pV rb,pV rb]<|mO 15 8 3 0 (.slice (some ao) ((A++x::B).length) b8) hm2<|mP 31 [4] [nV A.length]<|mR 63 40 5 m3<|mI 127 6 ao ((A++x::B).length) 40 A.length (A.length *40) ?_
 refine m1 255 7 (.pointer (some (Addr.add ao (A.length *40)))) (.pointer (some ((Addr.add ao (A.length *40)).add 0))) (by rw[add_add,Nat.add_zero])<|jv 511 511 8 (Does.c5 (a:=ao) (q:=A.length *40) (vs:=(rc x.o.b e ho go (.slice ca 0 cc))) (by kernel_rfl) af (by show A.length *40+39≤(A++x::B).length *40;simp;omega) (dC ⟨x.o.b,e,ho,go,ca,0,cc⟩)) ?_
 rintro _ h15 ⟨rfl,af,g14⟩
 rw[wq] at af
 refine mE [] fun a hF=>n0 hF ?_
 replace gk:=gk.ct g14 (fun i e=> .inr (by have:=sep.low 0 rfl i e;omega))
 replace hm2:=g14.blk hm2 (fun e=>by have:=sep.low 0 rfl _ e.symm;omega)
 exact⟨md.set gk hm2 (j8.of af) rfl rfl rfl rfl (hr.zero rfl),gk⟩
end Go.Proofs.YtegkejcglfgpmaaGreatDoor
end
section
namespace Go.Proofs.YtegkejcglfgpmaaGreatDoor
open Go Go.an Go.aT
noncomputable def b42:Code:=Tryz.f42.body.getD .skip
theorem nG(h:Heap)(L:List Hs)(va:Option Addr)(vc n:Nat)(hL:HR h va vc n L)(hn:n≤1099511627000)(ih:∀(h':Heap) (L':List Hs) (B7:Option Addr) (ku n':Nat),n'<n→HR h' B7 ku n' L'→Sat Tryz.prog 42 #[.slice B7 n' ku] h' fun v k=>v=hv (root L')∧Ext h' k):Sat Tryz.prog 42 #[.slice va n vc] h fun v h'=>v=hv (root L)∧Ext h h':=by
 have hLn:=hL.2.2
 have e0:=Ext.refl h
 have sep:Sep h.size h.size []:=Sep.nil _ _
 refine ak Tryz.func42 26 fun a hF=>qS hF<|tN 0 (pV h.size) ((z32.map bv).toArray) 39 fun h1 g2 m3=> ?_
 replace sep:=sep.nw e0.size m3
 refine sT [(2,pV h.size)] fun a hF=>cS<|qP [(6,.bool (decide (((n:Nat):Int)=(0:Int))))] hF fun a hF=>cJ 6 hF (fun hc4=> ?_) fun hc4=> ?_
 ·refine qS hF<|tG 0 (s7 _ [] 0 none 0 (Row.nil _ 1) rfl (by decide)) ?_
  rintro _ h6 ⟨rfl,g5⟩
  replace m3:=m3.x g5
  refine tF 1 (Does.store (b:=h.size) (off:=0) (vs:=(sha []).map bv) (l:=z32.map bv) (bz (by kernel_rfl) (hlm rfl)) m3 (hfit rfl rfl) (aI _)) ?_
  rintro _ h7 ⟨rfl,hh⟩
  have g8:Grew (some (h.size)) h6 h7:=bD hh
  replace m3:h7[h.size]? =some (.cells ((sha []).map bv).toArray 39):=bX (off:=0) (vs:=(sha []).map bv) (l:=(z32.map bv)) hh (cm rfl rfl) m3
  clear hh
  refine sT [] fun a hF=>cR (yT ?_)
  refine aK [.cell 2 39] [.agg ((sha []).map bv).toArray] (.agg ((sha []).map bv).toArray) rfl hF ⟨⟨_,rfl,Loads.hash (by kernel_rfl) rfl m3⟩,trivial⟩ rfl ?_
  replace e0:=((e0.ext g2).ext g5).grew g8 (sep.l 0)
  exact⟨congrArg hv (vT (by omega)),e0⟩
 ·refine cN<|tK<|cS<|qP [(10,.bool (decide (((n:Nat):Int)=(1:Int))))] hF fun a hF=>cJ 10 hF (fun Fh=> ?_) fun Fh=> ?_
  ·obtain⟨aa,rfl,hcap⟩:=hL.a6 (by omega)
   refine qS hF<|tI 1 aa n 32 0 0 ?_
   replace e0:=e0.ext g2
   refine tC 2 (.agg ((L.getD 0 []).map bv).toArray) (Calm.load (T:=39) (p:=aa) (by kernel_rfl) (HR.loads (k:=0) (q:=0) (hL.ext e0) (by kernel_rfl) (by omega) (by omega)))<|tF 3 (Does.store (b:=h.size) (off:=0) (vs:=(L.getD 0 []).map bv) (l:=z32.map bv) (bz (by kernel_rfl) (hlm (hL.2.1.get (k:=0) (by rw[hL.2.2];omega)))) m3 (hfit rfl (hL.2.1.get (k:=0) (by rw[hL.2.2];omega))) (aI _)) ?_
   rintro _ h10 ⟨rfl,hh⟩
   have g11:Grew (some (h.size)) h1 h10:=bD hh
   replace m3:h10[h.size]? =some (.cells ((L.getD 0 []).map bv).toArray 39):=bX (off:=0) (vs:=(L.getD 0 []).map bv) (l:=(z32.map bv)) hh (cm rfl (hL.2.1.get (k:=0) (by rw[hL.2.2];omega))) m3
   clear hh
   refine sT [] fun a hF=>cR (yT ?_)
   refine aK [.cell 2 39] [.agg ((L.getD 0 []).map bv).toArray] (.agg ((L.getD 0 []).map bv).toArray) rfl hF ⟨⟨_,rfl,Loads.hash (by kernel_rfl) (hL.2.1.get (k:=0) (by rw[hL.2.2];omega)) m3⟩,trivial⟩ rfl ?_
   replace e0:=e0.grew g11 (sep.l 0)
   exact⟨congrArg hv (vU (by omega)),e0⟩
  ·obtain⟨aa,rfl,hcap⟩:=hL.a6 (by omega)
   have NG:=dU (n:=n) (by omega)
   have NH:=dj n
   obtain⟨cW,dK⟩:∃x,x=if vc=half n then (some aa:Option Addr) else (some aa:Option Addr).map (·.add (half n*32)):=⟨_,rfl⟩
   refine cN<|tK<|qS hF<|tC 2 (nV (half n)) (Does.call (f:=87) (args:= #[nV n]) (by kernel_rfl) (oX _ n (by omega) (by omega)))<|sT [(3,nV (half n))] fun a hF=>cS<|cD [0,0,3,7,0,0,48,127,255,511] 6 mixed hF ?_
   refine mP 3 [0,1] [.slice (some aa) n vc,nV (half n)]<|mF 7 2 (.slice (some aa) (half n) vc) (fun h=>Calm.b6 (a:=(some aa)) (len:=n) (cap:=vc) (sz:=32) (x:=(some aa)) 0 (half n) vc (half n) vc (by kernel_rfl) (.inl ⟨rfl,rfl⟩) (.inr rfl) (.inl ⟨rfl,rfl⟩) (by omega) (by omega) (eR _ 32) (by first|rfl|omega) (by first|rfl|omega) h)<|mP 55 [4,5] [.slice (some aa) n vc,nV (half n)]<|mF 119 6 (.slice cW (n - half n) (vc - half n)) (fun h=>Calm.b6 (a:=(some aa)) (len:=n) (cap:=vc) (sz:=32) (x:=cW) (half n) n vc (n - half n) (vc - half n) (by kernel_rfl) (.inl ⟨rfl,rfl⟩) (.inl ⟨rfl,rfl⟩) (.inr rfl) (by omega) (by omega) dK (by first|rfl|omega) (by first|rfl|omega) h) ?_
   replace e0:=e0.ext g2
   refine fW 127 15 3 (ih _ (L.take (half n)) _ _ (half n) (by omega) ((hL.ext e0).take (k:=half n) (by omega))) ?_
   rintro _ h13 ⟨rfl,g12⟩
   replace e0:=e0.ext g12
   refine fW 255 255 7 (ih _ (L.drop (half n)) _ _ (n - half n) (by omega) ((hL.ext e0).drop (by omega) dK)) ?_
   rintro _ h15 ⟨rfl,g14⟩
   refine fW 511 511 8 (wa _ (root (L.take (half n))) (root (L.drop (half n))) (bb (hL.2.1.take _)) (bb (hL.2.1.drop _))) ?_
   rintro _ h17 ⟨rfl,g16⟩
   replace m3:=((m3.x g12).x g14).x g16
   refine jv 1023 1023 9 (Does.store (b:=h.size) (off:=0) (vs:=(b_ (root (L.take (half n))) (root (L.drop (half n)))).map bv) (l:=z32.map bv) (bz (by kernel_rfl) (hlm (c6 _ _))) m3 (hfit rfl (c6 _ _)) (aI _)) ?_
   rintro _ h18 ⟨rfl,hh⟩
   have g19:Grew (some (h.size)) h17 h18:=bD hh
   replace m3:h18[h.size]? =some (.cells ((b_ (root (L.take (half n))) (root (L.drop (half n)))).map bv).toArray 39):=bX (off:=0) (vs:=(b_ (root (L.take (half n))) (root (L.drop (half n)))).map bv) (l:=(z32.map bv)) hh (cm rfl (c6 _ _)) m3
   clear hh
   refine mE [] fun a hF=>tK<|cR<|aK [.cell 2 39] [.agg ((b_ (root (L.take (half n))) (root (L.drop (half n)))).map bv).toArray] (.agg ((b_ (root (L.take (half n))) (root (L.drop (half n)))).map bv).toArray) rfl hF ⟨⟨_,rfl,Loads.hash (by kernel_rfl) (c6 _ _) m3⟩,trivial⟩ rfl ?_
   replace e0:=((e0.ext g14).ext g16).grew g19 (sep.l 0)
   exact⟨congrArg hv (vV hLn (by omega)),e0⟩
theorem pg:∀(m n:Nat),n≤m→∀(h:Heap) (L:List Hs) (va:Option Addr) (vc:Nat),HR h va vc n L→n≤1099511627000→Sat Tryz.prog 42 #[.slice va n vc] h fun v h'=>v=hv (root L)∧Ext h h'
 |0,n,hm,h,L,va,vc,hL,hn=>nG h L va vc n hL hn fun _ _ _ _ _ hlt _=>by omega
 |m+1,n,hm,h,L,va,vc,hL,hn=>nG h L va vc n hL hn fun _ _ _ _ _ hlt hL'=>pg m _ (by omega) _ _ _ _ hL' (by omega)
theorem iP(h:Heap)(L:List Hs)(va:Option Addr)(vc n:Nat)(hL:HR h va vc n L)(hn:n≤1099511627000):Sat Tryz.prog 42 #[.slice va n vc] h fun v h'=>v=hv (root L)∧Ext h h':=pg n n (Nat.le_refl _) h L va vc hL hn
noncomputable def QN:Code:=Tryz.f115.body.getD .skip
theorem rR(h:Heap)(L:List Hs)(va:Option Addr)(vc n:Nat)(hL:HR h va vc n L)(hn:n≤1099511627000)(m:Nat)(hm:m<n)(ih:∀(h':Heap) (L':List Hs) (B7:Option Addr) (ku n' m':Nat),n'<n→m'<n'→HR h' B7 ku n' L'→Sat Tryz.prog 115 #[.slice B7 n' ku,.int .i64 ((m':Nat):Int)] h' fun v k=>b1 h' k 39 v (incl L' m')):Sat Tryz.prog 115 #[.slice va n vc,.int .i64 ((m:Nat):Int)] h fun v h'=>b1 h h' 39 v (incl L m):=by
 have hLn:=hL.2.2
 have e0:=Ext.refl h
 have sep:Sep h.size h.size []:=Sep.nil _ _
 refine ak Tryz.func115 39 fun a hF=>qP [] hF fun a hF=>cS<|qP [(8,.bool (decide (((n:Nat):Int)=(1:Int))))] hF fun a hF=>cJ 8 hF (fun hc1=> ?_) fun hc1=> ?_
 ·refine qP [(4,.slice none 0 0)] hF fun a hF=>cR (yT ?_)
  exact rT 4 (.slice none 0 0) hF<|b1.cast (fy (by omega)).symm (b1.none e0)
 ·obtain⟨aa,rfl,hcap⟩:=hL.a6 (by omega)
  have NG:=dU (n:=n) (by omega)
  have NH:=dj n
  obtain⟨cW,dK⟩:∃x,x=if vc=half n then (some aa:Option Addr) else (some aa:Option Addr).map (·.add (half n*32)):=⟨_,rfl⟩
  refine cN<|tK<|qS hF<|tC 2 (nV (half n)) (Does.call (f:=87) (args:= #[nV n]) (by kernel_rfl) (oX _ n (by omega) (by omega)))<|sT [(5,nV (half n))] fun a hF=>cS<|qP [(14,.bool (decide (((m:Nat):Int)<((half n:Nat):Int))))] hF fun a hF=> ?_
  refine cJ 14 hF (fun hc2=> ?_) fun hc2=> ?_
  ·refine cS<|cD [0,0,3,0,15,0,0,96,255,511,1023,2047] 5 mixed hF<|mP 3 [0,1] [.slice (some aa) n vc,nV (half n)]<|mF 7 2 (.slice (some aa) (half n) vc) (fun h=>Calm.b6 (a:=(some aa)) (len:=n) (cap:=vc) (sz:=32) (x:=(some aa)) 0 (half n) vc (half n) vc (by kernel_rfl) (.inl ⟨rfl,rfl⟩) (.inr rfl) (.inl ⟨rfl,rfl⟩) (by omega) (by omega) (eR _ 32) (by first|rfl|omega) (by first|rfl|omega) h)<|mP 111 [3,5,6] [nV m,.slice (some aa) n vc,nV (half n)]<|mF 239 7 (.slice cW (n - half n) (vc - half n)) (fun h=>Calm.b6 (a:=(some aa)) (len:=n) (cap:=vc) (sz:=32) (x:=cW) (half n) n vc (n - half n) (vc - half n) (by kernel_rfl) (.inl ⟨rfl,rfl⟩) (.inl ⟨rfl,rfl⟩) (.inr rfl) (by omega) (by omega) dK (by first|rfl|omega) (by first|rfl|omega) h) ?_
   have hil:=gR _ (L.take (half n)) m (Nat.le_refl _)
   have hpl:=((hL.ext e0).take (k:=half n) (by omega)).2.2
   refine fW 255 31 4 (ih _ (L.take (half n)) _ _ (half n) m (by omega) (by omega) ((hL.ext e0).take (k:=half n) (by omega))) ?_
   rintro _ h7 ⟨xW,cap4,rfl,aE,QO,g5⟩
   replace sep:=sep.co g5 QO aE e0.size
   replace e0:=e0.ext g5
   refine fW 511 511 8 (iP _ (L.drop (half n)) _ _ (n - half n) ((hL.ext e0).drop (by omega) dK) (by omega)) ?_
   rintro _ h9 ⟨rfl,g8⟩
   refine jv 1023 1023 9 (Does.newHs (L:=[root (L.drop (half n))]) (t:=45) (E:=39) (dT:=32) (n:=1) (by kernel_rfl) (by kernel_rfl) (aB.cons (bb (hL.2.1.drop _)) aB.nil) rfl (by decide) (by decide)) ?_
   rintro _ h10 ⟨rfl,hh⟩
   have g11:Ext h9 h10:=a8 hh
   have m12:h10[h9.size]? =some (.cells (hcs [root (L.drop (half n))]).toArray 39):=bx hh
   clear hh
   replace e0:=e0.ext g8
   have hlo:=e0.size
   replace sep:=sep.up g8.size
   have a7:=sep
   replace sep:=sep.up g11.size
   replace sep:=a7.new hlo (ag m12)
   clear a7 hlo
   replace aE:=(aE.ext g8).ext g11
   refine uz 2047 2047 10 ((incl (L.take (half n)) m++[root (L.drop (half n))]).length) 32 (hcs (incl (L.take (half n)) m++[root (L.drop (half n))])) aE (hrow1 (bb (hL.2.1.drop _)) m12) (dB _) (fun dO dp h15 aE g16 jn=> ?_) (ys:=(hcs ([root (L.drop (half n))]))) (hZ:=by first|rfl|exact(bk _ _).symm |simp[bk])
   replace e0:=e0.ext g11
   have lU:=sep
   replace sep:=sep.sa g16 1 jn aE e0.size;clear jn
   clear m12
   replace e0:=e0.grew g16 (lU.l 1)
   replace sep:=sep.sub (l':=[dO.map (·.block)]) (.cons _ (.cons_cons _ (.slnil)))
   refine mP 4095 [11] [.slice dO ((incl (L.take (half n)) m++[root (L.drop (half n))]).length) dp]<|mE [(4,.slice dO ((incl (L.take (half n)) m++[root (L.drop (half n))]).length) dp)] fun a hF=>tK<|cR (yT ?_)
   exact rT 4 (.slice dO ((incl (L.take (half n)) m++[root (L.drop (half n))]).length) dp) hF<|b1.cast (by have:=lM (l:=L) (m:=m) (by omega) (by rw[hLn];omega);rw[hLn] at this;exact this.symm) ⟨dO,dp,rfl,aE,sep.low 0 rfl,e0⟩
  ·refine cN<|tK<|cS<|cD [0,0,3,0,0,24,63,0,0,384,1023,2047,4095,8191] 6 mixed hF<|mP 3 [0,1] [.slice (some aa) n vc,nV (half n)]<|mF 7 2 (.slice cW (n - half n) (vc - half n)) (fun h=>Calm.b6 (a:=(some aa)) (len:=n) (cap:=vc) (sz:=32) (x:=cW) (half n) n vc (n - half n) (vc - half n) (by kernel_rfl) (.inl ⟨rfl,rfl⟩) (.inl ⟨rfl,rfl⟩) (.inr rfl) (by omega) (by omega) dK (by first|rfl|omega) (by first|rfl|omega) h)<|mP 31 [3,4] [nV m,nV (half n)] ?_
   refine mU 63 5 m (half n)<|mP 447 [7,8] [.slice (some aa) n vc,nV (half n)]<|mF 959 9 (.slice (some aa) (half n) vc) (fun h=>Calm.b6 (a:=(some aa)) (len:=n) (cap:=vc) (sz:=32) (x:=(some aa)) 0 (half n) vc (half n) vc (by kernel_rfl) (.inl ⟨rfl,rfl⟩) (.inr rfl) (.inl ⟨rfl,rfl⟩) (by omega) (by omega) (eR _ 32) (by first|rfl|omega) (by first|rfl|omega) h) ?_
   have hil:=gR _ (L.drop (half n)) (m - half n) (Nat.le_refl _)
   have hpl:=((hL.ext e0).drop (by omega) dK).2.2
   refine fW 1023 127 6 (ih _ (L.drop (half n)) _ _ (n - half n) (m - half n) (by omega) (by omega) ((hL.ext e0).drop (by omega) dK)) ?_
   rintro _ h23 ⟨gX,fE,rfl,aE,Fe,g21⟩
   replace sep:=sep.co g21 Fe aE e0.size
   replace e0:=e0.ext g21
   refine fW 2047 2047 10 (iP _ (L.take (half n)) _ _ (half n) ((hL.ext e0).take (k:=half n) (by omega)) (by omega)) ?_
   rintro _ lD ⟨rfl,g24⟩
   refine jv 4095 4095 11 (Does.newHs (L:=[root (L.take (half n))]) (t:=45) (E:=39) (dT:=32) (n:=1) (by kernel_rfl) (by kernel_rfl) (aB.cons (bb (hL.2.1.take _)) aB.nil) rfl (by decide) (by decide)) ?_
   rintro _ nN ⟨rfl,hh⟩
   have xS:Ext lD nN:=a8 hh
   have Mt:nN[lD.size]? =some (.cells (hcs [root (L.take (half n))]).toArray 39):=bx hh
   clear hh
   replace e0:=e0.ext g24
   have hlo:=e0.size
   replace sep:=sep.up g24.size
   have a7:=sep
   replace sep:=sep.up xS.size
   replace sep:=a7.new hlo (ag Mt)
   clear a7 hlo
   replace aE:=(aE.ext g24).ext xS
   refine uz 8191 8191 12 ((incl (L.drop (half n)) (m - half n)++[root (L.take (half n))]).length) 32 (hcs (incl (L.drop (half n)) (m - half n)++[root (L.take (half n))])) aE (hrow1 (bb (hL.2.1.take _)) Mt) (dB _) (fun Ah vt h31 aE jy IA=> ?_) (ys:=(hcs ([root (L.take (half n))]))) (hZ:=by first|rfl|exact(bk _ _).symm |simp[bk])
   replace e0:=e0.ext xS
   have QP:=sep
   replace sep:=sep.sa jy 1 IA aE e0.size;clear IA
   clear Mt
   replace e0:=e0.grew jy (QP.l 1)
   replace sep:=sep.sub (l':=[Ah.map (·.block)]) (.cons _ (.cons_cons _ (.slnil)))
   exact mP 16383 [13] [.slice Ah ((incl (L.drop (half n)) (m - half n)++[root (L.take (half n))]).length) vt]<|mE [(4,.slice Ah ((incl (L.drop (half n)) (m - half n)++[root (L.take (half n))]).length) vt)] fun a hF=>tK<|cR<|rT 4 (.slice Ah ((incl (L.drop (half n)) (m - half n)++[root (L.take (half n))]).length) vt) hF<|b1.cast (by have:=lN (l:=L) (m:=m) (by omega) (by rw[hLn];omega);rw[hLn] at this;exact this.symm) ⟨Ah,vt,rfl,aE,sep.low 0 rfl,e0⟩
theorem nH:∀(k n:Nat),n≤k→∀(h:Heap) (L:List Hs) (va:Option Addr) (vc m:Nat),m<n→HR h va vc n L→n≤1099511627000→Sat Tryz.prog 115 #[.slice va n vc,.int .i64 ((m:Nat):Int)] h fun v h'=>b1 h h' 39 v (incl L m)
 |0,n,hk,h,L,va,vc,m,hm,hL,hn=>by omega
 |k+1,n,hk,h,L,va,vc,m,hm,hL,hn=>rR h L va vc n hL hn m hm fun _ _ _ _ _ _ hlt hm' hL'=>nH k _ (by omega) _ _ _ _ _ hm' hL' (by omega)
theorem t_(h:Heap)(L:List Hs)(va:Option Addr)(vc n:Nat)(hL:HR h va vc n L)(hn:n≤1099511627000)(m:Nat)(hm:m<n):Sat Tryz.prog 115 #[.slice va n vc,.int .i64 ((m:Nat):Int)] h fun v h'=>b1 h h' 39 v (incl L m):=nH n n (Nat.le_refl _) h L va vc m hm hL hn
noncomputable def b85:Code:=Tryz.f85.body.getD .skip
theorem wV(h:Heap)(L:List Hs)(va:Option Addr)(vc n:Nat)(hL:HR h va vc n L)(hn:n≤1099511627000)(m:Int):Sat Tryz.prog 85 #[.slice va n vc,.int .i64 m] h fun v h'=>∃s,v= .tuple #[s,.int .i64 (c7 L m).2]∧b1 h h' 39 s (c7 L m).1 :=by
 have hLn:=hL.2.2
 have e0:=Ext.refl h
 have sep:Sep h.size h.size []:=Sep.nil _ _
 refine ak Tryz.func85 17 fun a hF=>qP [] hF fun a hF=>cS<|cS ?_
 have F6:m<0∨(n:Int)≤m∨∃k:Nat,m=(k:Int)∧k<n:=by
  rcases Int.lt_or_le m 0 with h0|h0
  ·exact .inl h0
  ·rcases Int.lt_or_le m n with h1|h1
   ·exact .inr (.inr ⟨m.toNat,by omega,by omega⟩)
   ·exact .inr (.inl h1)
 rcases F6 with hm0|hm0|⟨k,rfl,hk⟩
 ·refine rS hF<|tT 1 (m<(0:Int))<|sE [(13,.bool true)] fun a hF=>tK<|cT 13 hF<|qP [(4,.slice none 0 0),(5,.int .i64 50)] hF fun a hF=>cR (yT ?_)
  refine aK [.tmp 4,.tmp 5] [.slice none 0 0,.int .i64 50] (.tuple #[.slice none 0 0,.int .i64 50]) rfl hF ⟨rfl,rfl,trivial⟩ rfl ?_
  rw[jP (by omega)];exact⟨_,rfl,b1.none e0⟩
 ·refine rS hF<|tX 1 (m<(0:Int))<|tT 6 (((n:Nat):Int)≤m)<|sE [(13,.bool true)] fun a hF=>tK<|cT 13 hF<|qP [(4,.slice none 0 0),(5,.int .i64 50)] hF fun a hF=> ?_
  refine cR (yT ?_)
  refine aK [.tmp 4,.tmp 5] [.slice none 0 0,.int .i64 50] (.tuple #[.slice none 0 0,.int .i64 50]) rfl hF ⟨rfl,rfl,trivial⟩ rfl ?_
  rw[jP (by omega)];exact⟨_,rfl,b1.none e0⟩
 ·refine rS hF<|tX 1 (((k:Nat):Int)<(0:Int))<|tX 6 (((n:Nat):Int)≤((k:Nat):Int))<|sE [(13,.bool false)] fun a hF=>tK<|cF 13 hF<|cN ?_
  refine tK<|qS hF<|tG 2 (t_ _ L _ _ _ (hL.ext e0) (by omega) k (by omega)) ?_
  rintro _ h5 ⟨FZ,cap2,rfl,aE,hg4,g3⟩
  replace sep:=sep.co g3 hg4 aE e0.size
  refine sT [(4,.slice FZ ((incl L k).length) cap2),(5,.int .i64 0)] fun a hF=>cR<|aK [.tmp 4,.tmp 5] [.slice FZ ((incl L k).length) cap2,.int .i64 0] (.tuple #[.slice FZ ((incl L k).length) cap2,.int .i64 0]) rfl hF ⟨rfl,rfl,trivial⟩ rfl ?_
  replace e0:=e0.ext g3
  rw[oO (by omega)];exact⟨_,rfl,FZ,cap2,rfl,aE,sep.low 0 rfl,e0⟩
end Go.Proofs.YtegkejcglfgpmaaGreatDoor
end
section
namespace Go.Proofs.YtegkejcglfgpmaaGreatDoor
open Go Go.an Go.aT
noncomputable def QQ:Code:=Tryz.f134.body.getD .skip
set_option maxHeartbeats 1000000 in
theorem rU(h:Heap)(b:List UInt8)(n:Nat)(hbn:b.length =n)(va:Option Addr)(vc:Nat)(hr:Row h (.slice va n vc) n 1 (b.map bv))(hbl:n≤1099511627000)(N:Nat)(hN:e5 n=N):Sat Tryz.prog 134 #[.slice va n vc] h fun v h'=>BB h h' 32 v b N:=by
 have QR:N≤n:=hN▸kK n
 have hnc:=hr.yJ
 have e0:=Ext.refl h
 have sep:Sep h.size h.size []:=Sep.nil _ _
 refine ak Tryz.func134 26 fun a hF=>qP [] hF fun a hF=>qS hF<|tN 0 (.slice (some ⟨h.size,0,none⟩) 0 0) #[] 32 fun h1 g2 m3=> ?_
 replace sep:=sep.nw e0.size m3
 have af:Own h1 (.slice (some ⟨h.size,0,none⟩) 0 0) 32 ([]:List UInt8).length 1 ([]:List Value):=Own.empty 1 m3
 replace sep:Sep h.size h1.size [(some ⟨h.size,0,none⟩:Option Addr).map (·.block)]:=sep
 replace e0:=e0.ext g2
 clear m3
 refine sT [(3,.slice (some ⟨h.size,0,none⟩) 0 0)] fun a hF=>cS<|qP [(4,.int .i64 0)] hF fun a hF=>cB 0 ?_
 have rc:=RC.nil h.size ((some ⟨h.size,0,none⟩).map (fun(x:Addr)=>x.block)) h1 b
 refine cL (fun m a h'=>∃k:Nat,∃ys:List Value,∃ad:Option Addr,∃cap:Nat,m=N - k∧(Ext h h')∧(k≤N)∧(Own h' (.slice ad k cap) 32 k 1 ys)∧(RC h.size h'.size (ad.map (fun(x:Addr)=>x.block)) h' ys b k)∧(Sep h.size h'.size [ad.map (·.block)])∧(Fr a 26 [(0,.slice va n vc),(3,.slice ad k cap),(4,.int .i64 ((k*64:Nat):Int))])) (N - 0) ⟨0,[],(some ⟨h.size,0,none⟩),0,rfl,e0,(by omega),af,rc,sep,hF.to⟩ ?_
 clear hF a
 clear e0
 clear af
 clear rc
 clear sep
 rintro m a h4 ⟨k,ys,ad,cap,rfl,e0,hk,af,rc,sep,hF⟩
 have g0:=Ext.refl h4
 refine cS<|qP [(9,.bool (decide (((k*64:Nat):Int)<((n:Nat):Int))))] hF fun a hF=>cJ 9 hF (fun hc5=> ?_) fun hc5=> ?_
 ·have hkN:k<N:=by rw[←hN];unfold e5;omega
  have hck:=jj b k;rw[hbn] at hck
  have hcp:0<(ck b k).length :=by omega
  refine cN<|tK<|cS<|cB 1<|rS hF ?_
  have gs0:=g0.size
  refine tN 1 (.slice (some ⟨h4.size,0,none⟩) 0 0) #[] 5 fun h6 g7 m8=> ?_
  replace sep:=sep.nw e0.size m8
  have vu:(some ⟨h4.size,0,none⟩:Option Addr).map (fun(x:Addr)=>x.block)=none∨∃g,(some ⟨h4.size,0,none⟩:Option Addr).map (fun(x:Addr)=>x.block)=some g∧h4.size ≤g:= .inr ⟨_,rfl,gs0⟩;clear gs0
  have aH:Own h6 (.slice (some ⟨h4.size,0,none⟩) 0 0) 5 ([]:List UInt8).length 1 (([]:List UInt8).map bv):=Own.empty 1 m8
  replace sep:Sep h.size h6.size [(some ⟨h4.size,0,none⟩:Option Addr).map (·.block),ad.map (·.block)]:=sep
  replace e0:=e0.ext g7
  replace af:=af.ext g7
  replace g0:=g0.ext g7
  replace rc:=rc.ext g7
  clear m8
  refine tA 7 (k*64) 64<|t1 8 (.int .i64 ((min n ((k*64)+64):Nat):Int)) (.int .i64 (if (((k*64)+64:Nat):Int)<((n:Nat):Int) then (((k*64)+64:Nat):Int) else ((n:Nat):Int))) (congrArg (Value.int .i64) (by rw[Nat.min_def];split<;>split<;>omega))<|tC 9 (.slice (uV va k) ((ck b k).length) (vc - k*64)) ((fun h=>Calm.b6 (a:=va) (len:=n) (cap:=vc) (sz:=1) (x:=uV va k) (k*64) (min n (k*64+64)) vc ((ck b k).length) (vc - k*64) (by kernel_rfl) (.inl ⟨rfl,rfl⟩) (.inr rfl) (.inr rfl) (by omega) (by omega) (by unfold uV;rw[if_neg (by omega),Nat.mul_one]) (by omega) (by rfl) h) _)<|tP 10 ((ck b k).length) 1 ((ck b k).map bv) aH (BC (hr.ext e0) hbn (by omega) rfl (by omega)) (aI _) (fun qi ew h11 aH g12 lF=> ?_) (ys:=((ck b k).map bv)) (hl:=(by unfold maxLen;simp;omega)) (hb:=(by simp;omega)) (x:= .slice (uV va k) ((ck b k).length) (vc - k*64))
  have ff:=grown vu lF g0.1
  replace g0:=g0.grew g12 (pI vu)
  replace rc:=rc.grew g12 (fun j e=> .inl (pI vu j e))
  have s14:=sep
  replace sep:=sep.sa g12 0 lF aH e0.size;clear lF
  replace vu:=ff;clear ff
  refine tN 11 (.slice (some ⟨h11.size,0,none⟩) 1 1) #[.slice qi ((ck b k).length) ew] 32 fun h15 g16 m17=> ?_
  replace e0:=e0.grew g12 (s14.l 0)
  replace sep:=sep.nw e0.size m17
  replace af:=(af.k g12 (s14.ap 1 0)).ext g16
  refine tP 12 (k+1) 24 (ys++[.slice qi ((ck b k).length) ew]) af (Row.blk (n:=1) (sz:=1) (l:=[.slice qi ((ck b k).length) ew]) m17 rfl) (List.all_eq_true.1 (by rfl)) (fun tq o9 h20 af g21 wD=> ?_)
  replace e0:=e0.ext g16
  clear g0
  replace rc:=rc.ext g16
  replace rc:=rc.out g21 wD
  have s23:=sep
  replace sep:=sep.sa g21 2 wD af e0.size;clear wD
  refine sE [(3,.slice tq (k+1) o9)] fun a hF=>bK<|tK<|rS hF<|tA 1 (k*64) 64<|sE [(4,nV ((k*64)+64))] fun a hF=> ?_
  replace aH:=(aH.ext g16).k g21 (s23.ap 1 2)
  have Mu:=rc.snoc (a:=qi) (m:=(ck b k).length) (cap:=ew) rfl hcp aH.row (fun j e=>⟨sep.low 1 rfl j e,aH.lt (by rw[aj];exact e)⟩) (sep.ap 1 2)
  clear m17
  replace e0:=e0.grew g21 (s23.l 2)
  replace sep:=sep.sub (l':=[tq.map (·.block)]) (.cons _ (.cons _ (.cons_cons _ (.slnil))))
  rw[show k*64+64=(k+1)*64 by omega] at hF
  show ∃m',m'<_∧_
  refine⟨_,?_,(k+1),(ys++[.slice qi ((ck b k).length) ew]),tq,o9,rfl,e0,(by omega),af,Mu,sep,hF.to⟩
  omega
 ·refine cX 0 (xT (xT (xB ?_)))
  refine tK<|qP [(2,.slice ad k cap)] hF fun a hF=>cR<|rT 2 (.slice ad k cap) hF ?_
  obtain rfl:k=N:=by rw[←hN] at hk⊢;unfold e5 at hk⊢;omega
  exact⟨_,_,_,rfl,af,rc,sep.low 0 rfl,e0⟩
noncomputable def QS:Code:=Tryz.f113.body.getD .skip
theorem p4(h:Heap)(b:List UInt8)(n:Nat)(hbn:b.length =n)(va:Option Addr)(vc:Nat)(hr:Row h (.slice va n vc) n 1 (b.map bv))(hbl:n≤1099511627000)(N:Nat)(hN:e5 n=N):Sat Tryz.prog 113 #[.slice va n vc] h fun v h'=>b1 h h' 39 v (nR b N):=by
 have QR:N≤n:=hN▸kK n
 have e0:=Ext.refl h
 have sep:Sep h.size h.size []:=Sep.nil _ _
 refine ak Tryz.func113 24 fun a hF=>qP [] hF fun a hF=>qS hF<|tG 1 (rU _ b n hbn _ _ (hr.ext e0) (by omega) N hN) ?_
 rintro _ h4 ⟨wh,Dn,ys3,rfl,aq,rc,hge,g⟩
 have hlo:=e0.size
 have a7:=sep
 replace e0:=e0.ext g
 replace sep:=sep.up g.size
 replace sep:=a7.cons (x:=wh.map (fun(x:Addr)=>x.block)) g.size hlo (fun k e=>⟨hge k e,aq.lt (by rw[aj];exact e)⟩)
 have jc:=aq;clear aq a7 hlo hge g
 have g0:=Ext.refl h4
 refine sT [(3,.slice wh N Dn)] fun a hF=>qS hF ?_
 have gs0:=g0.size
 refine tN 0 (.slice (some ⟨h4.size,0,none⟩) 0 0) #[] 39 fun h5 g6 m7=> ?_
 replace sep:=sep.nw e0.size m7
 have ll:(some ⟨h4.size,0,none⟩:Option Addr).map (fun(x:Addr)=>x.block)=none∨∃g,(some ⟨h4.size,0,none⟩:Option Addr).map (fun(x:Addr)=>x.block)=some g∧h4.size ≤g:= .inr ⟨_,rfl,gs0⟩;clear gs0
 have af:Own h5 (.slice (some ⟨h4.size,0,none⟩) 0 0) 39 ([]:List UInt8).length 32 (hcs []):=Own.empty 32 m7
 replace sep:Sep h.size h5.size [(some ⟨h4.size,0,none⟩:Option Addr).map (·.block),wh.map (·.block)]:=sep
 replace e0:=e0.ext g6
 replace jc:=jc.ext g6
 replace rc:=rc.ext g6
 replace g0:=g0.ext g6
 clear m7
 refine sT [(4,.slice (some ⟨h4.size,0,none⟩) 0 0)] fun a hF=>cS<|qP [(5,.int .i64 0)] hF fun a hF=>cB 0 ?_
 have hz:nR b 0=[]:=rfl
 rw[←hz] at af
 replace af:Own h5 (.slice (some ⟨h4.size,0,none⟩) 0 0) 39 0 32 (hcs (nR b 0)):=af
 refine cL (fun m a h'=>∃k:Nat,∃ad:Option Addr,∃cap:Nat,m=N - k∧(Ext h h')∧(k≤N)∧(Ext h4 h')∧(RC h.size h4.size (wh.map (fun(x:Addr)=>x.block)) h' ys3 b N)∧(ad.map (fun(x:Addr)=>x.block)=none∨∃g,ad.map (fun(x:Addr)=>x.block)=some g∧h4.size ≤g)∧(Own h' (.slice ad k cap) 39 k 32 (hcs (nR b k)))∧(Own h' (.slice wh N Dn) 32 N 1 ys3)∧(Sep h.size h'.size [ad.map (·.block),wh.map (·.block)])∧(Fr a 24 [(3,.slice wh N Dn),(4,.slice ad k cap),(5,.int .i64 ((k:Nat):Int))])) (N - 0) ⟨0,(some ⟨h4.size,0,none⟩),0,rfl,e0,(by omega),g0,rc,ll,af,jc,sep,hF.to⟩ ?_
 clear hF a
 clear e0
 clear g0
 clear rc
 clear ll
 clear af
 clear jc
 clear sep
 rintro m a h8 ⟨k,ad,cap,rfl,e0,hk,g0,rc,ll,af,jc,sep,hF⟩
 refine cS<|qP [(12,.bool (decide (((k:Nat):Int)<((N:Nat):Int))))] hF fun a hF=>cJ 12 hF (fun Fh=> ?_) fun Fh=> ?_
 ·have hkN:k<N:=by omega
  have hck:=jj b k
  obtain⟨ay,rfl,_⟩:=jc.a6 (by omega)
  obtain⟨ya,yc,hyi,QT,_⟩:=rc.at_ k hkN
  refine cN<|tK<|cS<|cB 1<|rS hF<|tI 3 ay N 1 k k<|tC 4 (.slice (some ya) ((ck b k).length) yc) (Calm.load (T:=32) (p:=(Addr.add ay k)) (by kernel_rfl) (Loads.one (k:=1) (by kernel_rfl) (RC.cell jc hyi))) ?_
  refine tG 5 (oW _ (ck b k) _ _ QT (by omega)) ?_
  rintro _ h11 ⟨rfl,g10⟩
  refine tF 6 (Does.newHs (L:=[cx (ck b k)]) (t:=45) (E:=39) (dT:=32) (n:=1) (by kernel_rfl) (by kernel_rfl) (aB.cons (dm _) aB.nil) rfl (by decide) (by decide)) ?_
  rintro _ h12 ⟨rfl,hh⟩
  have g13:Ext h11 h12:=a8 hh
  have m14:h12[h11.size]? =some (.cells (hcs [cx (ck b k)]).toArray 39):=bx hh
  clear hh
  replace e0:=e0.ext g10
  have hlo:=e0.size
  replace sep:=sep.up g10.size
  have a7:=sep
  replace sep:=sep.up g13.size
  replace sep:=a7.new hlo (ag m14)
  clear a7 hlo
  replace af:=(af.ext g10).ext g13
  refine tP 7 (k+1) 32 (hcs (nR b k++[cx (ck b k)])) af (hrow1 (dm _) m14) (dB _) (fun dg cQ h17 af g18 iT=> ?_) (ys:=(hcs ([cx (ck b k)]))) (hZ:=by first|rfl|exact(bk _ _).symm |simp[bk])
  replace g0:=(g0.ext g10).ext g13
  have ff:=grown ll iT g0.1
  replace e0:=e0.ext g13
  replace g0:=g0.grew g18 (pI ll)
  replace rc:=(rc.ext g10).ext g13
  replace rc:=rc.grew g18 (fun j e=> .inl (pI ll j e))
  have s20:=sep
  replace sep:=sep.sa g18 1 iT af e0.size;clear iT
  replace ll:=ff;clear ff
  refine sE [(4,.slice dg (k+1) cQ)] fun a hF=>bK<|tK<|rS hF<|tA 1 k 1<|sE [(5,nV (k+1))] fun a hF=> ?_
  rw[qN] at af
  clear m14
  replace jc:=((jc.ext g10).ext g13).k g18 (s20.ap 2 1)
  replace e0:=e0.grew g18 (s20.l 1)
  replace sep:=sep.sub (l':=[dg.map (·.block),(some ay).map (·.block)]) (.cons _ (.cons_cons _ (.cons_cons _ (.slnil))))
  show ∃m',m'<_∧_
  refine⟨_,?_,(k+1),dg,cQ,rfl,e0,(by omega),g0,rc,ll,af,jc,sep,hF.to⟩
  omega
 ·refine cX 0 (xT (xT (xB ?_)))
  refine tK<|qP [(2,.slice ad k cap)] hF fun a hF=>cR<|rT 2 (.slice ad k cap) hF ?_
  obtain rfl:k=N:=by omega
  exact⟨ad,cap,by rw[iz],by rw[iz];exact af,sep.low 0 rfl,e0⟩
theorem ub(h:Heap)(b:List UInt8)(n:Nat)(hbn:b.length =n)(va:Option Addr)(vc:Nat)(hr:Row h (.slice va n vc) n 1 (b.map bv))(hbl:n≤1099511627000)(N:Nat)(hN:e5 n=N)(H:List Hs)(hH:nR b N=H):Sat Tryz.prog 113 #[.slice va n vc] h fun v h'=>∃ad cap,v= .slice ad H.length cap∧Own h' (.slice ad H.length cap) 39 H.length 32 (hcs H)∧(∀k,ad.map (fun(x:Addr)=>x.block)=some k→h.size ≤k)∧Ext h h':=by
 have:=p4 h b n hbn va vc hr hbl N hN
 unfold b1 at this
 rwa [hH] at this
theorem Ai(h:Heap)(L:List Hs)(va:Option Addr)(vc n:Nat)(hL:HR h va vc n L)(hn:n≤1099511627000)(m:Int)(p:List Hs)(e:Int)(hz:c7 L m=(p,e)):Sat Tryz.prog 85 #[.slice va n vc,.int .i64 m] h fun v h'=>∃s,v= .tuple #[s,.int .i64 e]∧b1 h h' 39 s p:=by
 have:=wV h L va vc n hL hn m
 rw[hz] at this
 exact this
noncomputable def b79:Code:=Tryz.f79.body.getD .skip
theorem ud(h:Heap)(b:List UInt8)(n:Nat)(hbn:b.length =n)(va:Option Addr)(vc:Nat)(hr:Row h (.slice va n vc) n 1 (b.map bv))(hbl:n≤1099511627000)(N:Nat)(hN:e5 n=N):Sat Tryz.prog 79 #[.slice va n vc] h fun v h'=>v=hv (root (nR b N))∧Ext h h':=by
 have e0:=Ext.refl h
 have sep:Sep h.size h.size []:=Sep.nil _ _
 obtain⟨H,hH⟩:∃H,nR b N=H:=⟨_,rfl⟩
 have h32:aB H:=hH▸sU _ _
 have PA:H.length =N:=by rw[←hH,iz]
 have hnl:N≤n:=hN▸kK n
 refine ak Tryz.func79 6 fun a hF=>qS hF<|tN 0 (pV h.size) ((z32.map bv).toArray) 39 fun h1 g2 m3=> ?_
 replace sep:=sep.nw e0.size m3
 refine sT [(2,pV h.size)] fun a hF=>qS hF ?_
 replace e0:=e0.ext g2
 refine tG 1 (ub _ b n hbn _ _ (hr.ext e0) hbl N hN H hH) ?_
 rintro _ h8 ⟨dH,cap5,rfl,mT,Lc,g6⟩
 replace sep:=sep.co g6 Lc mT e0.size
 refine tG 2 (iP _ H _ _ H.length (HR.of mT h32) (by omega)) ?_
 rintro _ h10 ⟨rfl,g9⟩
 replace m3:=(m3.x g6).x g9
 refine tF 3 (Does.store (b:=h.size) (off:=0) (vs:=(root H).map bv) (l:=z32.map bv) (bz (by kernel_rfl) (hlm (bb h32))) m3 (hfit rfl (bb h32)) (aI _)) ?_
 rintro _ h11 ⟨rfl,hh⟩
 have g12:Grew (some (h.size)) h10 h11:=bD hh
 replace m3:h11[h.size]? =some (.cells ((root H).map bv).toArray 39):=bX (off:=0) (vs:=(root H).map bv) (l:=(z32.map bv)) hh (cm rfl (bb h32)) m3
 clear hh
 refine sT [] fun a hF=>cR<|aK [.cell 2 39] [.agg ((root H).map bv).toArray] (.agg ((root H).map bv).toArray) rfl hF ⟨⟨_,rfl,Loads.hash (by kernel_rfl) (bb h32) m3⟩,trivial⟩ rfl ?_
 replace e0:=((e0.ext g6).ext g9).grew g12 (sep.l 1)
 exact⟨by rw[hH];rfl,e0⟩
end Go.Proofs.YtegkejcglfgpmaaGreatDoor
end
section
namespace Go.Proofs.YtegkejcglfgpmaaGreatDoor
open Go Go.an Go.aT
theorem vv(h:Heap)(b:List UInt8)(va:Option Addr)(vc:Nat)(hr:Row h (.slice va b.length vc) b.length 1 (b.map bv))(hbl:b.length ≤1099511627000):Sat Tryz.prog 79 #[.slice va b.length vc] h fun v h'=>v= .agg ((hl (qQ (bN b))).map bv).toArray ∧Ext h h':=by
 rw[mC (eL b)];exact ud h b b.length rfl va vc hr hbl _ rfl
theorem Aj(h:Heap)(s:ByteArray)(n:Nat)(l:List UInt8)(y:RB)(hy:hl y=l)(hs:aP s=true)(hn:n≤512):Sat Tryz.prog 28 #[.string s,.int .i64 ((n:Nat):Int),.agg ((hl y).map bv).toArray] h fun v h'=>∃ad cap,v= .tuple #[.slice ad (dn s n l).length cap,.int .i64 0]∧Own h' (.slice ad (dn s n l).length cap) 5 (dn s n l).length 1 ((dn s n l).map bv)∧(∀k,ad.map (fun(x:Addr)=>x.block)=some k→h.size ≤k)∧Ext h h':=by
 subst hy;exact tp h s n (hl y) hs hn rfl
noncomputable def b38:Code:=Tryz.f38.body.getD .skip
set_option maxHeartbeats 1000000 in
theorem Ak {W:Nat→Prop}(h:Heap)(rb:Nat)(M:Md)(T:List RO)(oa:Option Addr)(oc:Nat)(ea:Option Addr)(ec:Nat)(es:List Value)(md:bn W h rb M T oa oc ea ec es)(hW:∀k,W k→k<h.size)(s:ByteArray)(hsz:s.size ≤9223372036854775807)(b:List UInt8)(va:Option Addr)(vc:Nat)(hr:Row h (.slice va b.length vc) b.length 1 (b.map bv))(hE:M.E.length ≤1099511627):Sat Tryz.prog 38 #[.pointer (some ⟨rb,0,none⟩),.string s,.slice va b.length vc] h fun v h'=>v= .int .i64 (eG M s b).2 ∧bF W h' rb (eG M s b).1 ∧RG rb h h':=by
 have hm:=md.hm
 have hbr:=ag hm
 have hLn:=md.ln
 have e0:=Ext.refl h
 have sep:Sep h.size h.size []:=Sep.nil _ _
 refine ak Tryz.func38 86 fun a hF=>qP [] hF fun a hF=>cS<|cS ?_
 rcases md.kM s with hok|⟨hok,hf,A,B,rfl,hA,hB⟩|⟨hok,A,x,B,rfl,hA,hs,hf⟩
 ·refine rS hF<|tC 1 (.bool false) (Does.call (f:=27) (args:= #[.string s]) (by kernel_rfl) (nq _ s hsz hok))<|sE [(15,.bool true)] fun a hF=>tK<|cT 15 hF<|qP [(6,.int .i64 210)] hF fun a hF=>cR (yT ?_)
  refine rT 6 (.int .i64 210) hF ?_
  rw[pL hok];exact⟨rfl,⟨_,_,_,_,_,_,md.ext e0⟩,RG.aS e0⟩
 ·have hAB:(A++B).length =A.length +B.length :=List.length_append
  have hoc:=md.row.1.zK
  refine rS hF<|tC 1 (.bool true) (Does.call (f:=27) (args:= #[.string s]) (by kernel_rfl) (dQ _ s hok))<|sE [(15,.bool false)] fun a hF=>tK<|cF 15 hF<|cN<|tK ?_
  refine cS<|cS ?_
  rcases Nat.lt_or_ge 512 b.length with h_|h_
  ·refine rS hF<|tT 2 ((512:Int)<((b.length :Nat):Int))<|sE [(18,.bool true)] fun a hF=>tK<|cT 18 hF<|qP [(6,.int .i64 5)] hF fun a hF=>cR (yT ?_)
   refine rT 6 (.int .i64 5) hF ?_
   rw[iD hok h_];exact⟨rfl,⟨_,_,_,_,_,_,md.ext e0⟩,RG.aS e0⟩
  ·refine rS hF<|tX 2 ((512:Int)<((b.length :Nat):Int))<|sE [(18,.bool false)] fun a hF=>tK<|cF 18 hF<|cN<|tK ?_
   refine qS hF<|tC 2 (.tuple #[nV A.length,.bool false]) (Does.call (f:=78) (args:= #[pV rb,.string s]) (by kernel_rfl) (lY _ rb M (A++B) oa oc ea ec es (md.ext e0) s A.length false (.no hA hB) hE))<|sT [(7,nV A.length),(8,.bool false)] fun a hF=>cS<|qP [(25,.bool false)] hF fun a hF=>cF 25 hF<|cN ?_
   refine tK<|qS hF<|tN 0 (.slice (some ⟨h.size,0,none⟩) 0 0) #[] 5 fun h1 g2 m3=> ?_
   replace sep:=sep.nw e0.size m3
   have aA:Own h1 (.slice (some ⟨h.size,0,none⟩) 0 0) 5 ([]:List UInt8).length 1 (([]:List UInt8).map bv):=Own.empty 1 m3
   replace sep:Sep h.size h1.size [(some ⟨h.size,0,none⟩:Option Addr).map (·.block)]:=sep
   replace e0:=e0.ext g2
   clear m3
   refine tP 2 b.length 1 (b.map bv) aA (hr.ext e0) (aI _) (fun dH cap5 h6 aA g7 hb8=> ?_)
   have s9:=sep
   replace sep:=sep.sa g7 0 hb8 aA e0.size;clear hb8
   refine sT [(2,.slice dH b.length cap5)] fun a hF=>cS<|C.mono (K:=fun e a hJ=>∃(wW:Nat),e= .normal ∧(Ext h hJ)∧(Own hJ (.slice dH b.length cap5) 5 b.length 1 (b.map bv))∧(hJ[wW]? =some (.cells (rc (ks s ((b.length :Nat):Int) (bN b) ((M.E.length :Nat):Int)) (0:Int) false false (.slice none 0 0)).toArray 95))∧(Sep h.size hJ.size [some wW,dH.map (·.block)])∧Fr a 86 [(0,.pointer (some ⟨rb,0,none⟩)),(1,.string s),(2,.slice dH b.length cap5),(7,.int .i64 ((A.length :Nat):Int)),(9,.pointer (some ⟨wW,0,none⟩))]) ?_ ?_
   ·refine cD [0,0,2,0,8,0,32,96,224,480,1023,0,4095] 9 mixed hF<|mP 239 [0,1,2,3,5,6,7] [.string s,.slice dH b.length cap5,nV b.length,.slice dH b.length cap5,pV rb,pV rb,.pointer (some ⟨rb,1,none⟩)] ?_
    replace e0:=e0.grew g7 (s9.l 0)
    refine mO 495 256 8 1 (.slice ea M.E.length ec) (e0.blk hm)<|mP 1007 [9] [nV M.E.length]<|aO.vz (is:=[4,11]) (by kernel_rfl) (by simp) ?_
    intro q hq
    simp only[List.mem_cons,List.not_mem_nil,or_false] at hq
    rcases hq with rfl|rfl
    ·refine xf 1023 24 4 [8] (Does.call (f:=79) (args:= #[.slice dH b.length cap5]) (by kernel_rfl) (vv _ b _ _ aA.row (by omega))) ?_
     rintro _ h13 ⟨rfl,g12⟩
     replace e0:=e0.ext g12
     refine⟨?_,?_⟩
     ·intro j hj
      simp only[List.mem_cons,List.not_mem_nil,or_false] at hj
      subst hj
      exact aL (Calm.load (T:=67) (p:=⟨rb,1,none⟩) (by kernel_rfl) (Loads.one (k:=1) (by kernel_rfl) ((ar (e0.blk hm)).trans rfl)))
     refine mP 2047 [10] [.agg (rc (ks s ((b.length :Nat):Int) (bN b) ((M.E.length :Nat):Int)) (0:Int) false false (.slice none 0 0)).toArray]<|gA 4095 2072 11 [8] (Does.new (v:= .pointer (some ⟨h13.size,0,none⟩)) (o:= .cells (rc aC (0:Int) false false (.slice none 0 0)).toArray 95) (by kernel_rfl)) ?_
     rintro _ fc ⟨rfl,hh⟩
     have g15:Ext h13 fc:=a8 hh
     have m16:fc[h13.size]? =some (.cells (rc aC (0:Int) false false (.slice none 0 0)).toArray 95):=bx hh
     clear hh
     replace sep:=(sep.up g12.size).nw e0.size m16
     replace e0:=e0.ext g15
     refine⟨?_,?_⟩
     ·intro j hj
      simp only[List.mem_cons,List.not_mem_nil,or_false] at hj
      subst hj
      exact aL (Calm.load (T:=67) (p:=⟨rb,1,none⟩) (by kernel_rfl) (Loads.one (k:=1) (by kernel_rfl) ((ar (e0.blk hm)).trans rfl)))
     refine mV 8191 8191 12 0 (rc (ks s ((b.length :Nat):Int) (bN b) ((M.E.length :Nat):Int)) (0:Int) false false (.slice none 0 0)) (rc (ks s ((b.length :Nat):Int) (bN b) ((M.E.length :Nat):Int)) (0:Int) false false (.slice none 0 0)) m16 fun h17 g18 zq=> ?_
     replace m16:=zq
     refine mE [(9,pV h13.size)] fun a hF=> ?_
     replace sep:=sep.up g18.size
     have js:=sep.pick (l':=[some h13.size,dH.map (·.block)]) [0,1] rfl (by decide)
     replace aA:=((aA.ext g12).ext g15).k g18 (sep.ap 1 0)
     replace e0:=e0.grew g18 (sep.l 0)
     exact⟨h13.size,rfl,e0,aA,m16,js,hF.to⟩
    ·refine xf 3055 2048 11 [8] (Does.new (v:= .pointer (some ⟨h6.size,0,none⟩)) (o:= .cells (rc aC (0:Int) false false (.slice none 0 0)).toArray 95) (by kernel_rfl)) ?_
     rintro _ h19 ⟨rfl,hh⟩
     have g20:Ext h6 h19:=a8 hh
     have m21:h19[h6.size]? =some (.cells (rc aC (0:Int) false false (.slice none 0 0)).toArray 95):=bx hh
     clear hh
     replace sep:=sep.nw e0.size m21
     replace e0:=e0.ext g20
     refine⟨?_,?_⟩
     ·intro j hj
      simp only[List.mem_cons,List.not_mem_nil,or_false] at hj
      subst hj
      exact aL (Calm.load (T:=67) (p:=⟨rb,1,none⟩) (by kernel_rfl) (Loads.one (k:=1) (by kernel_rfl) ((ar (e0.blk hm)).trans rfl)))
     replace aA:=aA.ext g20
     refine gA 3071 2072 4 [8] (Does.call (f:=79) (args:= #[.slice dH b.length cap5]) (by kernel_rfl) (vv _ b _ _ aA.row (by omega))) ?_
     rintro _ h23 ⟨rfl,g22⟩
     replace e0:=e0.ext g22
     refine⟨?_,?_⟩
     ·intro j hj
      simp only[List.mem_cons,List.not_mem_nil,or_false] at hj
      subst hj
      exact aL (Calm.load (T:=67) (p:=⟨rb,1,none⟩) (by kernel_rfl) (Loads.one (k:=1) (by kernel_rfl) ((ar (e0.blk hm)).trans rfl)))
     refine mP 4095 [10] [.agg (rc (ks s ((b.length :Nat):Int) (bN b) ((M.E.length :Nat):Int)) (0:Int) false false (.slice none 0 0)).toArray] ?_
     replace m21:=m21.x g22
     refine mV 8191 8191 12 0 (rc (ks s ((b.length :Nat):Int) (bN b) ((M.E.length :Nat):Int)) (0:Int) false false (.slice none 0 0)) (rc (ks s ((b.length :Nat):Int) (bN b) ((M.E.length :Nat):Int)) (0:Int) false false (.slice none 0 0)) m21 fun jK gB zq=> ?_
     replace m21:=zq
     refine mE [(9,pV h6.size)] fun a hF=> ?_
     replace sep:=(sep.up g22.size).up gB.size
     have js:=sep.pick (l':=[some h6.size,dH.map (·.block)]) [0,1] rfl (by decide)
     replace aA:=(aA.ext g22).k gB (sep.ap 1 0)
     replace e0:=e0.grew gB (sep.l 0)
     exact⟨h6.size,rfl,e0,aA,m21,js,hF.to⟩
   ·clear hF a e0 aA sep
    rintro e a nN ⟨wW,rfl,e0,aA,ij,sep,hF⟩
    refine tK<|qS hF<|tN 0 (.slice (some ⟨nN.size,0,none⟩) 0 0) #[] 97 fun h27 fe ju=> ?_
    replace sep:=sep.nw e0.size ju
    have bt:Own h27 (.slice (some ⟨nN.size,0,none⟩) 0 0) 97 ([]:List RO).length 40 (bC []):=Own.empty 40 ju
    replace sep:Sep h.size h27.size [(some ⟨nN.size,0,none⟩:Option Addr).map (·.block),some wW,dH.map (·.block)]:=sep
    replace e0:=e0.ext fe
    replace aA:=aA.ext fe
    replace ij:=ij.x fe
    clear ju
    refine tO 4 0 (e0.blk hm)<|tC 6 (.slice oa A.length oc) ((fun h=>Calm.b6 (a:=oa) (len:=((A++B).length)) (cap:=oc) (sz:=40) (x:=oa) 0 A.length oc A.length oc (by kernel_rfl) (.inl ⟨rfl,rfl⟩) (.inr rfl) (.inl ⟨rfl,rfl⟩) (by omega) (by omega) PE (by first|rfl|omega) (by first|rfl|omega) h) _)<|tP 7 A.length 128 (bC A) bt ((md.row.1.ext e0).Ho) (dP _) (fun Mv IB h32 bt gM IC=> ?_) (hZ:=by first|rfl|exact List.flatMap_append.symm |simp[bC])
    have Mw:=sep
    replace sep:=sep.sa gM 0 IC bt e0.size;clear IC
    refine sT [(10,.slice Mv A.length IB)] fun a hF=>qS hF ?_
    replace ij:=ij.y gM (Mw.bp 1 0)
    refine tR 1 ij<|tN 4 (.slice (some ⟨h32.size,0,none⟩) 1 1) ((bl (ks s ((b.length :Nat):Int) (bN b) ((M.E.length :Nat):Int)) (0:Int) false false (.slice none 0 0) (.slice dH b.length cap5)).toArray) 97 fun Ga kF xu=> ?_
    replace e0:=e0.grew gM (Mw.l 0)
    replace sep:=sep.nw e0.size xu
    replace bt:=bt.ext kF
    refine tP 5 (A.length +1) 128 (bC (A++[ry s b M.E.length dH cap5])) bt (Row.Hn (x:=ry s b M.E.length dH cap5) xu) (dP _) (fun Mx ID uE bt gv IE=> ?_) (ys:=(bC ([ry s b M.E.length dH cap5]))) (hZ:=by first|rfl|exact List.flatMap_append.symm |simp[bC])
    replace e0:=e0.ext kF
    have s44:=sep
    replace sep:=sep.sa gv 1 IE bt e0.size;clear IE
    refine sT [(10,.slice Mx (A.length +1) ID)] fun a hF=>qS hF ?_
    replace e0:=e0.grew gv (s44.l 1)
    refine tO 5 0 (e0.blk hm) ?_
    obtain⟨xd,hxd⟩:∃x,x=(if oc=A.length then oa else oa.map (·.add (A.length *40))):=⟨_,rfl⟩
    refine tC 7 (.slice xd ((A++B).length - A.length) (oc - A.length)) ((fun h=>Calm.b6 (a:=oa) (len:=((A++B).length)) (cap:=oc) (sz:=40) (x:=xd) A.length ((A++B).length) oc ((A++B).length - A.length) (oc - A.length) (by kernel_rfl) (.inl ⟨rfl,rfl⟩) (.inl ⟨rfl,rfl⟩) (.inr rfl) (by omega) (by omega) hxd (by first|rfl|omega) (by first|rfl|omega) h) _)<|tP 8 ((A++ry s b M.E.length dH cap5::B).length) 128 (bC (A++ry s b M.E.length dH cap5::B)) bt ((md.row.1.ext e0).Hp hxd) (dP _) (fun qV oV h47 bt g48 ze=> ?_) (hZ:=by first|rfl|exact List.flatMap_append.symm |simp[bC])
    have Dj:=sep
    replace sep:=sep.sa g48 1 ze bt e0.size;clear ze
    replace aA:=(((aA.k gM (Mw.ap 2 0)).ext kF).k gv (s44.ap 3 1)).k g48 (Dj.ap 3 1)
    replace ij:=((ij.x kF).y gv (s44.bp 2 1)).y g48 (Dj.bp 2 1)
    replace xu:=(xu.y gv (s44.bp 0 1)).y g48 (Dj.bp 0 1)
    replace e0:=e0.grew g48 (Dj.l 1)
    refine tW 11 0 [.slice qV ((A++ry s b M.E.length dH cap5::B).length) oV] [.slice oa ((A++B).length) oc,.slice ea M.E.length ec,.int .i64 M.t] [.slice qV ((A++ry s b M.E.length dH cap5::B).length) oV,.slice ea M.E.length ec,.int .i64 M.t] (e0.blk hm) (fun Db gm hmD=> ?_)
    have Ag:=e0.size
    have gk:RG rb h Db:=RG.one e0 gm
    replace aA:=aA.kept gm (by rw[aj];right;intro e;have:=sep.low 3 rfl _ e;omega)
    replace bt:=bt.kept gm (by rw[aj];right;intro e;have:=sep.low 1 rfl _ e;omega)
    replace ij:=gm.blk ij (fun e=>by have:=sep.low 2 rfl _ rfl;cases e;omega)
    replace xu:=gm.blk xu (fun e=>by have:=sep.low 0 rfl _ rfl;cases e;omega)
    replace sep:=sep.up gm.1
    clear Ag
    have hm2:=hmD;clear hmD gm
    refine sT [] fun a hF=>qS hF<|tO 2 1 ij<|tQ 4 2 ((hl (ks s ((b.length :Nat):Int) (bN b) ((M.E.length :Nat):Int))).map bv) ij<|tG 5 (Aj _ s b.length (bN b) (ks s ((b.length :Nat):Int) (bN b) ((M.E.length :Nat):Int)) (yU (eL b)) hok (by omega)) ?_
    rintro _ C' ⟨oq,nu,rfl,bT,My,xl⟩
    replace sep:=sep.co xl My bT gk.1
    refine sT [(11,.slice oq ((dn s b.length (bN b)).length) nu)] fun a hF=>qS hF<|tN 1 (.slice (some ⟨C'.size,0,none⟩) 0 0) #[] 32 fun h57 qj Mz=> ?_
    replace gk:=gk.ext xl
    replace sep:=sep.nw gk.1 Mz
    have bP:Own h57 (.slice (some ⟨C'.size,0,none⟩) 0 0) 32 ([]:List Value).length 1 ([]:List Value):=Own.empty 1 Mz
    replace sep:Sep h.size h57.size [(some ⟨C'.size,0,none⟩:Option Addr).map (·.block),oq.map (·.block),some (h32.size),qV.map (·.block),some wW,dH.map (·.block)]:=sep
    replace aA:=(aA.ext xl).ext qj
    replace bt:=(bt.ext xl).ext qj
    replace hm2:=qj.blk (xl.blk hm2)
    replace ij:=(ij.x xl).x qj
    replace xu:=(xu.x xl).x qj
    replace gk:=gk.ext qj
    replace bT:=bT.ext qj
    clear Mz
    refine tO 5 1 hm2<|tP 6 (0+M.E.length) 24 es bP ((md.PD gk).1.1) (fI md.en) (fun QU N_ Bf bP k8 hb64=> ?_) (ys:=es)
    have FC:=sep
    replace sep:=sep.sa k8 0 hb64 bP gk.1;clear hb64
    refine tN 8 (.slice (some ⟨Bf.size,0,none⟩) 1 1) #[.slice oq ((dn s b.length (bN b)).length) nu] 32 fun Jc xj F1=> ?_
    replace gk:=gk.ct k8 (fun i e=> .inr (by have:=FC.low 0 rfl i e;omega))
    replace sep:=sep.nw gk.1 F1
    replace bP:=bP.ext xj
    refine tP 9 (M.E.length +1) 24 (es++[.slice oq ((dn s b.length (bN b)).length) nu]) bP (Row.blk (n:=1) (sz:=1) (l:=[.slice oq ((dn s b.length (bN b)).length) nu]) F1 rfl) (List.all_eq_true.1 (by rfl)) (fun vH oK KW bP u1 IF=> ?_)
    replace gk:=gk.ext xj
    have DJ:=sep
    replace sep:=sep.sa u1 1 IF bP gk.1;clear IF
    replace aA:=((aA.k k8 (FC.ap 5 0)).ext xj).k u1 (DJ.ap 6 1)
    replace bt:=((bt.k k8 (FC.ap 3 0)).ext xj).k u1 (DJ.ap 4 1)
    replace hm2:=u1.blk (xj.blk (k8.blk hm2 (fun e=>by have:=FC.low 0 rfl _ e.symm;omega))) (fun e=>by have:=DJ.low 1 rfl _ e.symm;omega)
    replace bT:=((bT.k k8 (FC.ap 1 0)).ext xj).k u1 (DJ.ap 2 1)
    replace ij:=((ij.y k8 (FC.bp 4 0)).x xj).y u1 (DJ.bp 5 1)
    replace xu:=((xu.y k8 (FC.bp 2 0)).x xj).y u1 (DJ.bp 3 1)
    replace gk:=gk.ct u1 (fun i e=> .inr (by have:=DJ.low 1 rfl i e;omega))
    replace F1:=F1.y u1 (DJ.bp 0 1)
    refine tW 12 1 [.slice vH (M.E.length +1) oK] [.slice qV ((A++ry s b M.E.length dH cap5::B).length) oV,.slice ea M.E.length ec,.int .i64 M.t] [.slice qV ((A++ry s b M.E.length dH cap5::B).length) oV,.slice vH (M.E.length +1) oK,.int .i64 M.t] hm2 (fun Cq gm hmD=> ?_)
    have Ag:=gk.1
    replace gk:RG rb h Cq:=RG.again gk gm
    replace aA:=aA.kept gm (by rw[aj];right;intro e;have:=sep.low 6 rfl _ e;omega)
    replace bt:=bt.kept gm (by rw[aj];right;intro e;have:=sep.low 4 rfl _ e;omega)
    replace bT:=bT.kept gm (by rw[aj];right;intro e;have:=sep.low 2 rfl _ e;omega)
    replace bP:=bP.kept gm (by rw[aj];right;intro e;have:=sep.low 1 rfl _ e;omega)
    replace ij:=gm.blk ij (fun e=>by have:=sep.low 5 rfl _ rfl;cases e;omega)
    replace xu:=gm.blk xu (fun e=>by have:=sep.low 3 rfl _ rfl;cases e;omega)
    replace F1:=gm.blk F1 (fun e=>by have:=sep.low 0 rfl _ rfl;cases e;omega)
    replace sep:=sep.up gm.1
    clear Ag
    clear hm2;have hm2:=hmD;clear hmD gm
    refine sT [] fun a hF=>qP [(6,.int .i64 0)] hF fun a hF=>cR<|rT 6 (.int .i64 0) hF ?_
    have hel:=jV s b.length (eL b)
    have hsl:=iB hok
    rw[jX hok h_ hf];exact⟨rfl,md.put (y:=ry s b M.E.length dH cap5) hA hB rfl h_ rfl gk hm2 (j8.of bt) (Row.nil _ 4) (cj.new aA (by decide) hW (sep.low 6 rfl)) (cj.new bP (by decide) hW (sep.low 1 rfl)) (by omega) (cj.new bT (by decide) hW (sep.low 2 rfl)),gk⟩
 ·refine rS hF<|tC 1 (.bool true) (Does.call (f:=27) (args:= #[.string s]) (by kernel_rfl) (dQ _ s hok))<|sE [(15,.bool false)] fun a hF=>tK<|cF 15 hF<|cN<|tK ?_
  refine cS<|cS ?_
  rcases Nat.lt_or_ge 512 b.length with h_|h_
  ·refine rS hF<|tT 2 ((512:Int)<((b.length :Nat):Int))<|sE [(18,.bool true)] fun a hF=>tK<|cT 18 hF<|qP [(6,.int .i64 5)] hF fun a hF=>cR (yT ?_)
   refine rT 6 (.int .i64 5) hF ?_
   rw[iD hok h_];exact⟨rfl,⟨_,_,_,_,_,_,md.ext e0⟩,RG.aS e0⟩
  ·refine rS hF<|tX 2 ((512:Int)<((b.length :Nat):Int))<|sE [(18,.bool false)] fun a hF=>tK<|cF 18 hF<|cN<|tK ?_
   refine qS hF<|tC 2 (.tuple #[nV A.length,.bool true]) (Does.call (f:=78) (args:= #[pV rb,.string s]) (by kernel_rfl) (lY _ rb M (A++x::B) oa oc ea ec es (md.ext e0) s A.length true (.yes hA hs) hE))<|sT [(7,nV A.length),(8,.bool true)] fun a hF=>cS<|qP [(25,.bool true)] hF fun a hF=>cT 25 hF<|qP [(6,.int .i64 212)] hF fun a hF=> ?_
   refine cR (yT ?_)
   refine rT 6 (.int .i64 212) hF ?_
   rw[jl hok h_ hf];exact⟨rfl,⟨_,_,_,_,_,_,md.ext e0⟩,RG.aS e0⟩
end Go.Proofs.YtegkejcglfgpmaaGreatDoor
end
section
namespace Go.Proofs.YtegkejcglfgpmaaGreatDoor
open Go Go.an Go.aT
noncomputable def b41:Code:=Tryz.f41.body.getD .skip
set_option maxHeartbeats 2000000 in
theorem Al(h:Heap)(L:List Rec)(va:Option Addr)(vc:Nat)(now:Int)(hr:Row h (.slice va L.length vc) L.length 39 (a_ L))(hL:L.length ≤1099511627):Sat Tryz.prog 41 #[.slice va L.length vc,.int .i64 now] h fun v h'=>∃(M:List Rec) (ad:Option Addr) (cap:Nat),M.Perm (L.filter (dE now))∧M.Pairwise fZ∧v= .slice ad M.length cap∧Own h' (.slice ad M.length cap) 9 M.length 1 ((ids M).map Value.string)∧(∀k,ad.map (fun(x:Addr)=>x.block)=some k→h.size ≤k)∧Ext h h':=by
 have e0:=Ext.refl h
 have sep:Sep h.size h.size []:=Sep.nil _ _
 refine ak Tryz.func41 114 fun a hF=>qP [] hF fun a hF=>qS hF<|tN 0 (.slice (some ⟨h.size,0,none⟩) 0 0) #[] 95 fun h1 g2 m3=> ?_
 replace sep:=sep.nw e0.size m3
 have af:Own h1 (.slice (some ⟨h.size,0,none⟩) 0 0) 95 ([]:List Rec).length 39 (a_ []):=Own.empty 39 m3
 replace sep:Sep h.size h1.size [(some ⟨h.size,0,none⟩:Option Addr).map (·.block)]:=sep
 replace e0:=e0.ext g2
 clear m3
 refine sT [(5,.slice (some ⟨h.size,0,none⟩) 0 0)] fun a hF=>cS<|qP [(6,.int .i64 0)] hF fun a hF=>cB 0<|cL (fun m a h'=>∃i:Nat,∃D:List Rec,∃ad:Option Addr,∃cap:Nat,m=L.length - i∧(Ext h h')∧(i≤L.length)∧((L.take i).filter (dE now)=D)∧(Own h' (.slice ad D.length cap) 95 D.length 39 (a_ D))∧(Sep h.size h'.size [ad.map (·.block)])∧(Fr a 114 [(0,.slice va L.length vc),(1,.int .i64 now),(5,.slice ad D.length cap),(6,.int .i64 ((i:Nat):Int))])) (L.length - 0) ⟨0,[],(some ⟨h.size,0,none⟩),0,rfl,e0,(by omega),rfl,af,sep,hF.to⟩ ?_
 clear hF a
 clear e0
 clear af
 clear sep
 rintro m a h4 ⟨i,D,ad,cap,rfl,e0,hi,hD,af,sep,hF⟩
 refine cS<|qP [(16,.bool (decide (((i:Nat):Int)<((L.length :Nat):Int))))] hF fun a hF=>cJ 16 hF (fun hc5=> ?_) fun hc5=> ?_
 ·have hia:i<L.length :=by omega
  have hDl:=pG hD
  obtain⟨aa,rfl,b3⟩:=hr.a6 (by omega)
  refine cN<|tK<|cS<|cB 1<|cS ?_
  rcases Bool.eq_false_or_eq_true (L.getD i ai).go with hgo|hgo
  rotate_left 1
  rcases Bool.eq_false_or_eq_true (L.getD i ai).ho with hho|hho
  rotate_left 1
  rcases Int.lt_or_le 0 (L.getD i ai).e with hpos|hpos
  rcases Int.lt_or_le now (L.getD i ai).e with IG|IG
  rotate_left 1
  ·have hD2:=yq hia hD (jR.2 ⟨hpos,hgo,hho,IG⟩)
   refine rS hF<|tI 2 aa L.length 39 i (i*39)<|t1 3 (.pointer (some (Addr.add aa ((i*39)+37)))) (.pointer (some ((Addr.add aa (i*39)).add 37))) (by rw[add_add])<|tC 4 (.bool false) (Calm.load (T:=4) (p:=(Addr.add aa ((i*39)+37))) (by kernel_rfl) (Loads.one (k:=1) (by kernel_rfl) ((Row.sS (i:=i) (j:=37) (u:= .bool ((L.getD i ai).go)) (hr.ext e0) (by omega) rfl).trans (by rw[hgo]))))<|tI 9 aa L.length 39 i (i*39)<|t1 10 (.pointer (some (Addr.add aa ((i*39)+36)))) (.pointer (some ((Addr.add aa (i*39)).add 36))) (by rw[add_add])<|tC 11 (.bool false) (Calm.load (T:=4) (p:=(Addr.add aa ((i*39)+36))) (by kernel_rfl) (Loads.one (k:=1) (by kernel_rfl) ((Row.sS (i:=i) (j:=36) (u:= .bool ((L.getD i ai).ho)) (hr.ext e0) (by omega) rfl).trans (by rw[hho])))) ?_
   refine tI 17 aa L.length 39 i (i*39)<|t1 18 (.pointer (some (Addr.add aa ((i*39)+35)))) (.pointer (some ((Addr.add aa (i*39)).add 35))) (by rw[add_add])<|tC 19 (.int .i64 ((L.getD i ai).e)) (Calm.load (T:=3) (p:=(Addr.add aa ((i*39)+35))) (by kernel_rfl) (Loads.one (k:=1) (by kernel_rfl) (Row.sS (i:=i) (j:=35) (u:= .int .i64 ((L.getD i ai).e)) (hr.ext e0) (by omega) rfl)))<|tT 20 ((0:Int)<((L.getD i ai).e))<|tI 25 aa L.length 39 i (i*39)<|t1 26 (.pointer (some (Addr.add aa ((i*39)+35)))) (.pointer (some ((Addr.add aa (i*39)).add 35))) (by rw[add_add])<|tC 27 (.int .i64 ((L.getD i ai).e)) (Calm.load (T:=3) (p:=(Addr.add aa ((i*39)+35))) (by kernel_rfl) (Loads.one (k:=1) (by kernel_rfl) (Row.sS (i:=i) (j:=35) (u:= .int .i64 ((L.getD i ai).e)) (hr.ext e0) (by omega) rfl))) ?_
   refine tT 29 (((L.getD i ai).e)≤now)<|sE [(49,.bool true)] fun a hF=>tK<|cT 49 hF<|rS hF<|tI 3 aa L.length 39 i (i*39)<|tY 4 i ai bg (hr.ext e0) ?_
   refine tN 5 (.slice (some ⟨h4.size,0,none⟩) 1 1) ((a_ [L.getD i ai]).toArray) 95 fun h6 g7 m8=> ?_
   replace sep:=sep.nw e0.size m8
   replace af:=af.ext g7
   refine tP 6 ((D++[L.getD i ai]).length) 104 (a_ (D++[L.getD i ai])) af (Row.blk (n:=1) (sz:=39) (l:=a_ [L.getD i ai]) m8 rfl) (d_ _) (fun qi ew h11 af g12 lF=> ?_) (ys:=(a_ ([L.getD i ai]))) (hZ:=by first|rfl|exact List.flatMap_append.symm |simp[a_])
   replace e0:=e0.ext g7
   have s14:=sep
   replace sep:=sep.sa g12 1 lF af e0.size;clear lF
   refine sE [(5,.slice qi ((D++[L.getD i ai]).length) ew)] fun a hF=>bK<|tK<|rS hF<|tA 1 i 1<|sE [(6,nV (i+1))] fun a hF=> ?_
   clear m8
   replace e0:=e0.grew g12 (s14.l 1)
   replace sep:=sep.sub (l':=[qi.map (·.block)]) (.cons _ (.cons_cons _ (.slnil)))
   show ∃m',m'<_∧_
   refine⟨_,?_,(i+1),(D++[L.getD i ai]),qi,ew,rfl,e0,(by omega),hD2,af,sep,hF.to⟩
   omega
  ·have hD2:=oQ hia hD (now:=now) (mB (by omega))
   refine rS hF<|tI 2 aa L.length 39 i (i*39)<|t1 3 (.pointer (some (Addr.add aa ((i*39)+37)))) (.pointer (some ((Addr.add aa (i*39)).add 37))) (by rw[add_add])<|tC 4 (.bool false) (Calm.load (T:=4) (p:=(Addr.add aa ((i*39)+37))) (by kernel_rfl) (Loads.one (k:=1) (by kernel_rfl) ((Row.sS (i:=i) (j:=37) (u:= .bool ((L.getD i ai).go)) (hr.ext e0) (by omega) rfl).trans (by rw[hgo]))))<|tI 9 aa L.length 39 i (i*39)<|t1 10 (.pointer (some (Addr.add aa ((i*39)+36)))) (.pointer (some ((Addr.add aa (i*39)).add 36))) (by rw[add_add])<|tC 11 (.bool false) (Calm.load (T:=4) (p:=(Addr.add aa ((i*39)+36))) (by kernel_rfl) (Loads.one (k:=1) (by kernel_rfl) ((Row.sS (i:=i) (j:=36) (u:= .bool ((L.getD i ai).ho)) (hr.ext e0) (by omega) rfl).trans (by rw[hho])))) ?_
   refine tI 17 aa L.length 39 i (i*39)<|t1 18 (.pointer (some (Addr.add aa ((i*39)+35)))) (.pointer (some ((Addr.add aa (i*39)).add 35))) (by rw[add_add])<|tC 19 (.int .i64 ((L.getD i ai).e)) (Calm.load (T:=3) (p:=(Addr.add aa ((i*39)+35))) (by kernel_rfl) (Loads.one (k:=1) (by kernel_rfl) (Row.sS (i:=i) (j:=35) (u:= .int .i64 ((L.getD i ai).e)) (hr.ext e0) (by omega) rfl)))<|tX 20 ((0:Int)<((L.getD i ai).e))<|sE [(49,.bool false)] fun a hF=>tK<|cF 49 hF ?_
   refine cN<|bK<|tK<|rS hF<|tA 1 i 1<|sE [(6,nV (i+1))] fun a hF=> ?_
   replace sep:=sep.sub (l':=[ad.map (·.block)]) (.cons_cons _ (.slnil))
   show ∃m',m'<_∧_
   refine⟨_,?_,(i+1),D,ad,cap,rfl,e0,(by omega),hD2,af,sep,hF.to⟩
   omega
  ·have hD2:=oQ hia hD (now:=now) (lR (fun hb=>absurd (hgo.symm.trans hb.1) (by decide)))
   refine rS hF<|tI 2 aa L.length 39 i (i*39)<|t1 3 (.pointer (some (Addr.add aa ((i*39)+37)))) (.pointer (some ((Addr.add aa (i*39)).add 37))) (by rw[add_add])<|tC 4 (.bool true) (Calm.load (T:=4) (p:=(Addr.add aa ((i*39)+37))) (by kernel_rfl) (Loads.one (k:=1) (by kernel_rfl) ((Row.sS (i:=i) (j:=37) (u:= .bool ((L.getD i ai).go)) (hr.ext e0) (by omega) rfl).trans (by rw[hgo]))))<|sE [(49,.bool false)] fun a hF=>tK<|cF 49 hF ?_
   refine cN<|bK<|tK<|rS hF<|tA 1 i 1<|sE [(6,nV (i+1))] fun a hF=> ?_
   replace sep:=sep.sub (l':=[ad.map (·.block)]) (.cons_cons _ (.slnil))
   show ∃m',m'<_∧_
   refine⟨_,?_,(i+1),D,ad,cap,rfl,e0,(by omega),hD2,af,sep,hF.to⟩
   omega
  ·have hD2:=oQ hia hD (now:=now) (lR (fun hb=>absurd (hho.symm.trans hb.2.1) (by decide)))
   refine rS hF<|tI 2 aa L.length 39 i (i*39)<|t1 3 (.pointer (some (Addr.add aa ((i*39)+37)))) (.pointer (some ((Addr.add aa (i*39)).add 37))) (by rw[add_add])<|tC 4 (.bool false) (Calm.load (T:=4) (p:=(Addr.add aa ((i*39)+37))) (by kernel_rfl) (Loads.one (k:=1) (by kernel_rfl) ((Row.sS (i:=i) (j:=37) (u:= .bool ((L.getD i ai).go)) (hr.ext e0) (by omega) rfl).trans (by rw[hgo]))))<|tI 9 aa L.length 39 i (i*39)<|t1 10 (.pointer (some (Addr.add aa ((i*39)+36)))) (.pointer (some ((Addr.add aa (i*39)).add 36))) (by rw[add_add])<|tC 11 (.bool true) (Calm.load (T:=4) (p:=(Addr.add aa ((i*39)+36))) (by kernel_rfl) (Loads.one (k:=1) (by kernel_rfl) ((Row.sS (i:=i) (j:=36) (u:= .bool ((L.getD i ai).ho)) (hr.ext e0) (by omega) rfl).trans (by rw[hho])))) ?_
   refine sE [(49,.bool false)] fun a hF=>tK<|cF 49 hF<|cN<|bK<|tK<|rS hF ?_
   refine tA 1 i 1<|sE [(6,nV (i+1))] fun a hF=> ?_
   replace sep:=sep.sub (l':=[ad.map (·.block)]) (.cons_cons _ (.slnil))
   show ∃m',m'<_∧_
   refine⟨_,?_,(i+1),D,ad,cap,rfl,e0,(by omega),hD2,af,sep,hF.to⟩
   omega
  ·have hD2:=oQ hia hD (now:=now) (lR (fun hb=>by have:=hb.2.2;omega))
   refine rS hF<|tI 2 aa L.length 39 i (i*39)<|t1 3 (.pointer (some (Addr.add aa ((i*39)+37)))) (.pointer (some ((Addr.add aa (i*39)).add 37))) (by rw[add_add])<|tC 4 (.bool false) (Calm.load (T:=4) (p:=(Addr.add aa ((i*39)+37))) (by kernel_rfl) (Loads.one (k:=1) (by kernel_rfl) ((Row.sS (i:=i) (j:=37) (u:= .bool ((L.getD i ai).go)) (hr.ext e0) (by omega) rfl).trans (by rw[hgo]))))<|tI 9 aa L.length 39 i (i*39)<|t1 10 (.pointer (some (Addr.add aa ((i*39)+36)))) (.pointer (some ((Addr.add aa (i*39)).add 36))) (by rw[add_add])<|tC 11 (.bool false) (Calm.load (T:=4) (p:=(Addr.add aa ((i*39)+36))) (by kernel_rfl) (Loads.one (k:=1) (by kernel_rfl) ((Row.sS (i:=i) (j:=36) (u:= .bool ((L.getD i ai).ho)) (hr.ext e0) (by omega) rfl).trans (by rw[hho])))) ?_
   refine tI 17 aa L.length 39 i (i*39)<|t1 18 (.pointer (some (Addr.add aa ((i*39)+35)))) (.pointer (some ((Addr.add aa (i*39)).add 35))) (by rw[add_add])<|tC 19 (.int .i64 ((L.getD i ai).e)) (Calm.load (T:=3) (p:=(Addr.add aa ((i*39)+35))) (by kernel_rfl) (Loads.one (k:=1) (by kernel_rfl) (Row.sS (i:=i) (j:=35) (u:= .int .i64 ((L.getD i ai).e)) (hr.ext e0) (by omega) rfl)))<|tT 20 ((0:Int)<((L.getD i ai).e))<|tI 25 aa L.length 39 i (i*39)<|t1 26 (.pointer (some (Addr.add aa ((i*39)+35)))) (.pointer (some ((Addr.add aa (i*39)).add 35))) (by rw[add_add])<|tC 27 (.int .i64 ((L.getD i ai).e)) (Calm.load (T:=3) (p:=(Addr.add aa ((i*39)+35))) (by kernel_rfl) (Loads.one (k:=1) (by kernel_rfl) (Row.sS (i:=i) (j:=35) (u:= .int .i64 ((L.getD i ai).e)) (hr.ext e0) (by omega) rfl))) ?_
   refine tX 29 (((L.getD i ai).e)≤now)<|sE [(49,.bool false)] fun a hF=>tK<|cF 49 hF<|cN<|bK<|tK ?_
   refine rS hF<|tA 1 i 1<|sE [(6,nV (i+1))] fun a hF=> ?_
   replace sep:=sep.sub (l':=[ad.map (·.block)]) (.cons_cons _ (.slnil))
   show ∃m',m'<_∧_
   refine⟨_,?_,(i+1),D,ad,cap,rfl,e0,(by omega),hD2,af,sep,hF.to⟩
   omega
 ·obtain rfl:i=L.length :=by omega
  have hDl:=pG hD
  rw[List.take_length] at hD
  refine cX 0 (xT (xT (xB ?_)))
  refine tK<|qS hF<|tN 0 (.slice (some ⟨h4.size,0,none⟩) 0 0) #[] 9 fun h15 g16 m17=> ?_
  replace sep:=sep.nw e0.size m17
  have aQ:Own h15 (.slice (some ⟨h4.size,0,none⟩) 0 0) 9 ([]:List ByteArray).length 1 (([]:List ByteArray).map Value.string):=Own.empty 1 m17
  replace sep:Sep h.size h15.size [(some ⟨h4.size,0,none⟩:Option Addr).map (·.block),ad.map (·.block)]:=sep
  replace e0:=e0.ext g16
  replace af:=af.ext g16
  clear m17
  refine sT [(7,.slice (some ⟨h4.size,0,none⟩) 0 0)] fun a hF=>cS<|cB 2 ?_
  replace sep:=sep.pick (l':=[ad.map (·.block),(some ⟨h4.size,0,none⟩:Option Addr).map (·.block)]) [1,0] rfl (by decide)
  refine cL (fun m a h'=>∃U:List Rec,∃Q:List Rec,∃ad:Option Addr,∃cap:Nat,∃cW:Option Addr,∃cap2:Nat,m=Q.length ∧(Ext h h')∧(yz D U Q)∧(Own h' (.slice ad Q.length cap) 95 Q.length 39 (a_ Q))∧(Own h' (.slice cW U.length cap2) 9 U.length 1 ((ids U).map Value.string))∧(Sep h.size h'.size [ad.map (·.block),cW.map (·.block)])∧(Fr a 114 [(5,.slice ad Q.length cap),(7,.slice cW U.length cap2)])) (D.length) ⟨[],D,ad,cap,(some ⟨h4.size,0,none⟩),0,rfl,e0,(yz.start _),af,aQ,sep,hF.to⟩ ?_
  clear hF a
  clear e0
  clear af
  clear aQ
  clear sep
  rintro m a h18 ⟨U,Q,ad,cap,cW,cap2,rfl,e0,hsel,af,aQ,sep,hF⟩
  have hsl:=hsel.len
  refine cS<|qP [(60,.bool (decide ((0:Int)<((Q.length :Nat):Int))))] hF fun a hF=>cJ 60 hF (fun hc19=> ?_) fun hc19=> ?_
  ·have hQ0:0<Q.length :=by omega
   obtain⟨ab,rfl,pW⟩:=af.a6 (by omega)
   refine cN<|tK<|cB 3<|qP [(8,.int .i64 0)] hF fun a hF=>cS<|qP [(9,.int .i64 1)] hF fun a hF=>cB 4 ?_
   refine cL (fun m a h'=>∃k:Nat,∃f:Nat,m=Q.length - k∧(Ext h h')∧(f<k∧k≤Q.length)∧(∀j,j<k→fZ (Q.getD f ai) (Q.getD j ai))∧(Own h' (.slice (some ab) Q.length cap) 95 Q.length 39 (a_ Q))∧(Own h' (.slice cW U.length cap2) 9 U.length 1 ((ids U).map Value.string))∧(Sep h.size h'.size [(some ab:Option Addr).map (·.block),cW.map (·.block)])∧(Fr a 114 [(5,.slice (some ab) Q.length cap),(7,.slice cW U.length cap2),(8,.int .i64 ((f:Nat):Int)),(9,.int .i64 ((k:Nat):Int))])) (Q.length - 1) ⟨1,0,rfl,e0,(by omega),(fun j hj=>by rw[show j=0 by omega];exact jU _),af,aQ,sep,hF.to⟩ ?_
   clear hF a
   clear e0
   clear af
   clear aQ
   clear sep
   rintro m a h20 ⟨k,f,rfl,e0,hfk,hmin,af,aQ,sep,hF⟩
   refine cS<|qP [(64,.bool (decide (((k:Nat):Int)<((Q.length :Nat):Int))))] hF fun a hF=>cJ 64 hF (fun hc21=> ?_) fun hc21=> ?_
   ·have hkQ:k<Q.length :=by omega
    refine cN<|tK<|cS<|cB 5<|qS hF<|tI 2 ab Q.length 39 k (k*39)<|tY 3 k ai bg (af.row) ?_
    refine tN 4 (pV h20.size) ((rc aC (0:Int) false false (.slice none 0 0)).toArray) 95 fun h22 g23 m24=> ?_
    replace sep:=sep.nw e0.size m24
    refine bG 5 (rcs (Q.getD k ai)) m24 fun lD gY zq=> ?_
    replace m24:=zq
    refine sT [(10,pV h20.size)] fun a hF=>qS hF<|tI 2 ab Q.length 39 f (f*39) ?_
    replace af:=(af.ext g23).k gY (sep.ap 1 0)
    refine tY 3 f ai bg (af.row)<|tN 4 (pV lD.size) ((rc aC (0:Int) false false (.slice none 0 0)).toArray) 95 fun h27 fe ju=> ?_
    replace e0:=(e0.ext g23).grew gY (sep.l 0)
    replace sep:=(sep.up gY.size).nw e0.size ju
    refine bG 5 (rcs (Q.getD f ai)) ju fun h30 eE zq=> ?_
    replace ju:=zq
    refine sT [(11,pV lD.size)] fun a hF=>cS ?_
    rcases Int.lt_or_le (Q.getD k ai).e (Q.getD f ai).e with hc|hc
    rotate_left 1
    rcases Int.lt_or_le (Q.getD f ai).e (Q.getD k ai).e with hd|hd
    rotate_left 1
    rcases Decidable.em (Lib.compareBytes (Q.getD k ai).b.id.data.toList (Q.getD f ai).b.id.data.toList <0) with hs|hs
    ·have nI:∀j,j<k+1→fZ (Q.getD k ai) (Q.getD j ai):=fun j hj=>by
      rcases Nat.lt_or_ge j k with z|z
      ·exact cq (yx (by omega) (by omega)) (hmin j z)
      ·rw[show j=k by omega];exact jU _
     refine rS hF ?_
     replace m24:=(m24.x fe).y eE (sep.bp 1 0)
     refine tO 1 35 m24<|tO 3 35 ju<|tX 4 (((Q.getD k ai).e)<((Q.getD f ai).e))<|tO 7 35 m24<|tO 9 35 ju<|eT 10 ((Q.getD k ai).e) ((Q.getD f ai).e)<|tO 13 0 m24 ?_
     refine tO 15 0 ju<|t1 16 (.bool true) (.bool (Op.bytesLess (((Q.getD k ai).b).id).toList (((Q.getD f ai).b).id).toList)) (congrArg Value.bool (yw hs))<|sE [(93,.bool true)] fun a hF=>tK<|cT 93 hF<|rP [(8,nV k)] hF fun a hF=>bK ?_
     refine tK<|rS hF<|tA 1 k 1<|sE [(9,nV (k+1))] fun a hF=> ?_
     clear m24
     clear ju
     replace aQ:=(((aQ.ext g23).k gY (sep.ap 3 1)).ext fe).k eE (sep.ap 3 0)
     replace e0:=(e0.ext fe).grew eE (sep.l 0)
     replace af:=(af.ext fe).k eE (sep.ap 2 0)
     replace sep:=sep.up eE.size
     replace sep:=sep.sub (l':=[(some ab:Option Addr).map (·.block),cW.map (·.block)]) (.cons _ (.cons _ (.cons_cons _ (.cons_cons _ (.slnil)))))
     show ∃m',m'<_∧_
     refine⟨_,?_,(k+1),k,rfl,e0,(by omega),nI,af,aQ,sep,hF.to⟩
     omega
    ·have nI:∀j,j<k+1→fZ (Q.getD f ai) (Q.getD j ai):=fun j hj=>by
      rcases Nat.lt_or_ge j k with z|z
      ·exact hmin j z
      ·rw[show j=k by omega];exact yx (by omega) (by rw[dD];omega)
     refine rS hF ?_
     replace m24:=(m24.x fe).y eE (sep.bp 1 0)
     refine tO 1 35 m24<|tO 3 35 ju<|tX 4 (((Q.getD k ai).e)<((Q.getD f ai).e))<|tO 7 35 m24<|tO 9 35 ju<|eT 10 ((Q.getD k ai).e) ((Q.getD f ai).e)<|tO 13 0 m24 ?_
     refine tO 15 0 ju<|t1 16 (.bool false) (.bool (Op.bytesLess (((Q.getD k ai).b).id).toList (((Q.getD f ai).b).id).toList)) (congrArg Value.bool (uS hs))<|sE [(93,.bool false)] fun a hF=>tK<|cF 93 hF<|cN<|bK ?_
     refine tK<|rS hF<|tA 1 k 1<|sE [(9,nV (k+1))] fun a hF=> ?_
     clear m24
     clear ju
     replace aQ:=(((aQ.ext g23).k gY (sep.ap 3 1)).ext fe).k eE (sep.ap 3 0)
     replace e0:=(e0.ext fe).grew eE (sep.l 0)
     replace af:=(af.ext fe).k eE (sep.ap 2 0)
     replace sep:=sep.up eE.size
     replace sep:=sep.sub (l':=[(some ab:Option Addr).map (·.block),cW.map (·.block)]) (.cons _ (.cons _ (.cons_cons _ (.cons_cons _ (.slnil)))))
     show ∃m',m'<_∧_
     refine⟨_,?_,(k+1),f,rfl,e0,(by omega),nI,af,aQ,sep,hF.to⟩
     omega
    ·have nI:∀j,j<k+1→fZ (Q.getD k ai) (Q.getD j ai):=fun j hj=>by
      rcases Nat.lt_or_ge j k with z|z
      ·exact cq (Dg hc) (hmin j z)
      ·rw[show j=k by omega];exact jU _
     refine rS hF ?_
     replace m24:=(m24.x fe).y eE (sep.bp 1 0)
     refine tO 1 35 m24<|tO 3 35 ju<|tT 4 (((Q.getD k ai).e)<((Q.getD f ai).e))<|sE [(93,.bool true)] fun a hF=>tK<|cT 93 hF<|rP [(8,nV k)] hF fun a hF=> ?_
     refine bK<|tK<|rS hF<|tA 1 k 1<|sE [(9,nV (k+1))] fun a hF=> ?_
     clear m24
     clear ju
     replace aQ:=(((aQ.ext g23).k gY (sep.ap 3 1)).ext fe).k eE (sep.ap 3 0)
     replace e0:=(e0.ext fe).grew eE (sep.l 0)
     replace af:=(af.ext fe).k eE (sep.ap 2 0)
     replace sep:=sep.up eE.size
     replace sep:=sep.sub (l':=[(some ab:Option Addr).map (·.block),cW.map (·.block)]) (.cons _ (.cons _ (.cons_cons _ (.cons_cons _ (.slnil)))))
     show ∃m',m'<_∧_
     refine⟨_,?_,(k+1),k,rfl,e0,(by omega),nI,af,aQ,sep,hF.to⟩
     omega
    ·have nI:∀j,j<k+1→fZ (Q.getD f ai) (Q.getD j ai):=fun j hj=>by
      rcases Nat.lt_or_ge j k with z|z
      ·exact hmin j z
      ·rw[show j=k by omega];exact Dg hd
     refine rS hF ?_
     replace m24:=(m24.x fe).y eE (sep.bp 1 0)
     refine tO 1 35 m24<|tO 3 35 ju<|tX 4 (((Q.getD k ai).e)<((Q.getD f ai).e))<|tO 7 35 m24<|tO 9 35 ju<|eF 10 ((Q.getD k ai).e) ((Q.getD f ai).e)<|sE [(93,.bool false)] fun a hF=> ?_
     refine tK<|cF 93 hF<|cN<|bK<|tK<|rS hF<|tA 1 k 1 ?_
     refine sE [(9,nV (k+1))] fun a hF=> ?_
     clear m24
     clear ju
     replace aQ:=(((aQ.ext g23).k gY (sep.ap 3 1)).ext fe).k eE (sep.ap 3 0)
     replace e0:=(e0.ext fe).grew eE (sep.l 0)
     replace af:=(af.ext fe).k eE (sep.ap 2 0)
     replace sep:=sep.up eE.size
     replace sep:=sep.sub (l':=[(some ab:Option Addr).map (·.block),cW.map (·.block)]) (.cons _ (.cons _ (.cons_cons _ (.cons_cons _ (.slnil)))))
     show ∃m',m'<_∧_
     refine⟨_,?_,(k+1),f,rfl,e0,(by omega),nI,af,aQ,sep,hF.to⟩
     omega
   ·have N':f<Q.length :=by omega
    have hmin3:∀j,j<Q.length →fZ (Q.getD f ai) (Q.getD j ai):=fun j hj=>hmin j (by omega)
    refine cX 4 (xT (xT (xB ?_)))
    refine tK<|qS hF<|tI 3 ab Q.length 39 f (f*39)<|t1 4 (.pointer (some (Addr.add ab (f*39)))) (.pointer (some ((Addr.add ab (f*39)).add 0))) (by rw[add_add,Nat.add_zero])<|tC 5 (.string (((Q.getD f ai).b).id)) (Calm.load (T:=9) (p:=(Addr.add ab (f*39))) (by kernel_rfl) (Loads.one (k:=1) (by kernel_rfl) (Row.sS (i:=f) (j:=0) (u:= .string (((Q.getD f ai).b).id)) (af.row) (by omega) rfl)))<|tN 6 (.slice (some ⟨h20.size,0,none⟩) 1 1) #[.string (((Q.getD f ai).b).id)] 9 fun h32 gM rV=> ?_
    replace sep:=sep.nw e0.size rV
    replace aQ:=aQ.ext gM
    refine tP 7 ((U++[Q.getD f ai]).length) 16 ((ids U++[((Q.getD f ai).b).id]).map Value.string) aQ (Row.blk (n:=1) (sz:=1) (l:=[((Q.getD f ai).b).id].map Value.string) rV rfl) (jS _) (fun jr f' h37 aQ lz vG=> ?_) (ys:=(([((Q.getD f ai).b).id]).map Value.string))
    replace e0:=e0.ext gM
    have MA:=sep
    replace sep:=sep.sa lz 2 vG aQ e0.size;clear vG
    refine sT [(7,.slice jr ((U++[Q.getD f ai]).length) f')] fun a hF=>cD [0,0,0,6,15,0,0,64,224,511,1023] 18 mixed hF<|mP 6 [1,2] [.slice (some ab) Q.length cap,nV f]<|mF 14 3 (.slice (some ab) f cap) (fun h=>Calm.b6 (a:=(some ab)) (len:=Q.length) (cap:=cap) (sz:=39) (x:=(some ab)) 0 f cap f cap (by kernel_rfl) (.inl ⟨rfl,rfl⟩) (.inr rfl) (.inl ⟨rfl,rfl⟩) (by omega) (by omega) (eR _ 39) (by first|rfl|omega) (by first|rfl|omega) h)<|mP 110 [5,6] [.slice (some ab) Q.length cap,nV f]<|mA 238 7 f 1 ?_
    obtain⟨xd,hxd⟩:∃x,x=if cap=f+1 then (some ab:Option Addr) else (some ab:Option Addr).map (·.add ((f+1)*39)):=⟨_,rfl⟩
    refine mF 494 8 (.slice xd (Q.length - (f+1)) (cap - (f+1))) (fun h=>Calm.b6 (a:=(some ab)) (len:=Q.length) (cap:=cap) (sz:=39) (x:=xd) (f+1) Q.length cap (Q.length - (f+1)) (cap - (f+1)) (by kernel_rfl) (.inl ⟨rfl,rfl⟩) (.inl ⟨rfl,rfl⟩) (.inr rfl) (by omega) (by omega) hxd (by first|rfl|omega) (by first|rfl|omega) h)<|mN 495 1 0 (.slice (some ⟨h37.size,0,none⟩) 0 0) #[] 95 fun uE gv nO=> ?_
    replace e0:=e0.grew lz (MA.l 2)
    replace sep:=sep.nw e0.size nO
    have aH:Own uE (.slice (some ⟨h37.size,0,none⟩) 0 0) 95 ([]:List Rec).length 39 (a_ []):=Own.empty 39 nO
    replace sep:Sep h.size uE.size [(some ⟨h37.size,0,none⟩:Option Addr).map (·.block),some (h20.size),(some ab:Option Addr).map (·.block),jr.map (·.block)]:=sep
    replace af:=((af.ext gM).k lz (MA.ap 1 2)).ext gv
    replace rV:=(rV.y lz (MA.bp 0 2)).x gv
    replace e0:=e0.ext gv
    replace aQ:=aQ.ext gv
    clear nO
    refine uz 511 31 4 (0+f) 104 (a_ (Q.take f)) aH (af.Gy (by omega)) (d_ _) (fun QV Oa h46 aH g47 hb48=> ?_) (ys:=(a_ (Q.take f))) (hZ:=by first|rfl|exact List.flatMap_append.symm |simp[a_])
    have s49:=sep
    replace sep:=sep.sa g47 0 hb48 aH e0.size;clear hb48
    replace af:=af.k g47 (s49.ap 2 0)
    refine uz 1023 1023 9 ((Q.take f++Q.drop (f+1)).length) 104 (a_ (Q.take f++Q.drop (f+1))) aH (af.Gz (by omega) hxd) (d_ _) (fun CM Am Gb aH kG IH=> ?_) (ys:=(a_ (Q.drop (f+1)))) (hZ:=by first|rfl|exact List.flatMap_append.symm |simp[a_])
    replace e0:=e0.grew g47 (s49.l 0)
    have MB:=sep
    replace sep:=sep.sa kG 0 IH aH e0.size;clear IH
    refine mP 2047 [10] [.slice CM ((Q.take f++Q.drop (f+1)).length) Am]<|mE [(5,.slice CM ((Q.take f++Q.drop (f+1)).length) Am)] fun a hF=>bK ?_
    replace aQ:=(aQ.k g47 (s49.ap 3 0)).k kG (MB.ap 3 0)
    rw[yE] at aQ
    have hlen:=Ev N'
    clear rV
    replace e0:=e0.grew kG (MB.l 0)
    replace af:=af.k kG (MB.ap 2 0)
    replace sep:=sep.sub (l':=[CM.map (·.block),jr.map (·.block)]) (.cons_cons _ (.cons _ (.cons _ (.cons_cons _ (.slnil)))))
    show ∃m',m'<_∧_
    refine⟨_,?_,(U++[Q.getD f ai]),(Q.take f++Q.drop (f+1)),CM,Am,jr,f',rfl,e0,(hsel.step N' hmin3),aH,aQ,sep,hF.to⟩
    omega
  ·refine cX 2 (xT (xT (xB ?_)))
   exact tK<|qP [(4,.slice cW U.length cap2)] hF fun a hF=>cR<|rT 4 (.slice cW U.length cap2) hF<|⟨U,cW,cap2,by rw[hD];exact hsel.end (by omega),hsel.fq,rfl,aQ,sep.low 1 rfl,e0⟩
end Go.Proofs.YtegkejcglfgpmaaGreatDoor
end
section
namespace Go.Proofs.YtegkejcglfgpmaaGreatDoor
open Go Go.an Go.aT
noncomputable def QW:Code:=Tryz.f114.body.getD .skip
theorem lp(h:Heap)(x:RB)(e:Int)(ho go:Bool)(L:List Pl)(va:Option Addr)(vc:Nat)(hr:Row h (.slice va L.length vc) L.length 4 (c_ L))(hL:L.length ≤1099511627776):Sat Tryz.prog 114 #[.agg (rc x e ho go (.slice va L.length vc)).toArray] h fun v h'=>∃c,v= .agg (rc x e ho go c).toArray ∧n_ h h' 180 c L:=by
 have e0:=Ext.refl h
 have sep:Sep h.size h.size []:=Sep.nil _ _
 refine ak Tryz.func114 9 fun a hF=>qS hF<|tN 0 (pV h.size) ((rc x e ho go (.slice va L.length vc)).toArray) 95 fun h1 g2 m3=> ?_
 replace sep:=sep.nw e0.size m3
 refine tN 1 (pV h1.size) ((rc aC (0:Int) false false (.slice none 0 0)).toArray) 95 fun h4 g5 m6=> ?_
 replace e0:=e0.ext g2
 replace sep:=sep.nw e0.size m6
 refine sT [(1,pV h.size),(2,pV h1.size)] fun a hF=>qS hF<|tN 0 (.slice (some ⟨h4.size,0,none⟩) 0 0) #[] 180 fun h7 g8 m9=> ?_
 replace e0:=e0.ext g5
 replace sep:=sep.nw e0.size m9
 have bq:Own h7 (.slice (some ⟨h4.size,0,none⟩) 0 0) 180 ([]:List Pl).length 4 (c_ []):=Own.empty 4 m9
 replace sep:Sep h.size h7.size [(some ⟨h4.size,0,none⟩:Option Addr).map (·.block),some (h1.size),some (h.size)]:=sep
 replace m3:=(m3.x g5).x g8
 replace e0:=e0.ext g8
 replace m6:=m6.x g8
 clear m9
 refine tO 2 38 m3<|tP 3 L.length 32 (c_ L) bq (hr.ext e0) (qJ _) (fun dF cy h12 bq g13 yW=> ?_) (hl:=(by unfold maxLen;simp;omega)) (hb:=(by simp;omega)) (hZ:=by first|rfl|exact List.flatMap_append.symm |simp[c_])
 have s15:=sep
 replace sep:=sep.sa g13 0 yW bq e0.size;clear yW
 replace m3:=m3.y g13 (s15.bp 2 0)
 refine tV 5 38 [.slice dF L.length cy] (rc x e ho go (.slice dF L.length cy)) m3 fun h16 g17 zq=> ?_
 replace m3:=zq
 refine sT [] fun a hF=>qS hF<|tR 0 m3 ?_
 replace m6:=(m6.y g13 (s15.bp 1 0)).y g17 (sep.bp 1 2)
 refine bG 1 (rc x e ho go (.slice dF L.length cy)) m6 fun h18 g19 zq=> ?_
 replace m6:=zq
 refine sT [] fun a hF=>cR<|rB m6 hF ?_
 replace e0:=((e0.grew g13 (s15.l 0)).grew g17 (sep.l 2)).grew g19 (sep.l 1)
 replace bq:=(bq.k g17 (sep.ap 0 2)).k g19 (sep.ap 0 1)
 exact⟨_,rfl,⟨_,_,rfl,bq,sep.low 0 rfl,e0⟩⟩
noncomputable def b81:Code:=Tryz.f81.body.getD .skip
theorem ue(h:Heap)(x:RB)(e:Int)(ho:Bool)(L:List Pl)(va:Option Addr)(vc:Nat)(u:Int)(hu0:0≤u)(hu:u≤1099511627776):Sat Tryz.prog 81 #[.agg (rc x e ho true (.slice va L.length vc)).toArray,.int .i64 u] h fun v h'=>v= .tuple #[.agg (rc aC (0:Int) false false (.slice none 0 0)).toArray,.int .i64 213]∧Ext h h':=by
 have e0:=Ext.refl h
 have sep:Sep h.size h.size []:=Sep.nil _ _
 refine ak Tryz.func81 25 fun a hF=>qS hF<|tN 0 (pV h.size) ((rc x e ho true (.slice va L.length vc)).toArray) 95 fun h1 g2 m3=> ?_
 replace sep:=sep.nw e0.size m3
 refine tN 1 (pV h1.size) ((rc aC (0:Int) false false (.slice none 0 0)).toArray) 95 fun h4 g5 m6=> ?_
 replace e0:=e0.ext g2
 replace sep:=sep.nw e0.size m6
 refine sT [(2,pV h.size),(4,pV h1.size)] fun a hF=>cS<|qS hF<|tX 1 (u<(0:Int))<|tX 4 ((1099511627776:Int)<u)<|sT [(11,.bool false)] fun a hF=>cF 11 hF ?_
 refine cN<|tK<|cS<|qS hF ?_
 replace m3:=m3.x g5
 refine tO 1 37 m3<|sT [(14,.bool true)] fun a hF=>cT 14 hF<|qS hF<|bG 1 (rc aC (0:Int) false false (.slice none 0 0)) m6 fun h7 g8 zq=> ?_
 replace m6:=zq
 refine sT [(5,.int .i64 213)] fun a hF=>cR (yT ?_)
 refine aK [.cell 4 95,.tmp 5] [.agg (rc aC (0:Int) false false (.slice none 0 0)).toArray,.int .i64 213] (.tuple #[.agg (rc aC (0:Int) false false (.slice none 0 0)).toArray,.int .i64 213]) rfl hF ⟨⟨_,rfl,Loads.blk (vs:=rc aC (0:Int) false false (.slice none 0 0)) (by kernel_rfl) m6 rfl⟩,rfl,trivial⟩ rfl ?_
 replace e0:=(e0.ext g5).grew g8 (sep.l 0)
 exact⟨rfl,e0⟩
theorem Ao(h:Heap)(x:RB)(e:Int)(ho:Bool)(L:List Pl)(va:Option Addr)(vc:Nat)(hr:Row h (.slice va L.length vc) L.length 4 (c_ L))(hL:L.length ≤1099511627776)(u:Int)(hu0:0≤u)(hu:u≤1099511627776):Sat Tryz.prog 81 #[.agg (rc x e ho false (.slice va L.length vc)).toArray,.int .i64 u] h fun v h'=>∃c,v= .tuple #[.agg (rc x (max e u) ho false c).toArray,.int .i64 0]∧n_ h h' 180 c L:=by
 have e0:=Ext.refl h
 have sep:Sep h.size h.size []:=Sep.nil _ _
 refine ak Tryz.func81 25 fun a hF=>qS hF<|tN 0 (pV h.size) ((rc x e ho false (.slice va L.length vc)).toArray) 95 fun h1 g2 m3=> ?_
 replace sep:=sep.nw e0.size m3
 refine tN 1 (pV h1.size) ((rc aC (0:Int) false false (.slice none 0 0)).toArray) 95 fun h4 g5 m6=> ?_
 replace e0:=e0.ext g2
 replace sep:=sep.nw e0.size m6
 refine sT [(2,pV h.size),(4,pV h1.size)] fun a hF=>cS<|qS hF<|tX 1 (u<(0:Int))<|tX 4 ((1099511627776:Int)<u)<|sT [(11,.bool false)] fun a hF=>cF 11 hF ?_
 refine cN<|tK<|cS<|qS hF ?_
 replace m3:=m3.x g5
 refine tO 1 37 m3<|sT [(14,.bool false)] fun a hF=>cF 14 hF<|cN<|tK<|qS hF<|tR 0 m3 ?_
 replace e0:=e0.ext g5
 refine tG 1 (lp _ x e ho false L va vc (hr.ext e0) hL) ?_
 rintro _ h9 ⟨_,rfl,et,b8,rfl,aq,hge,g⟩
 have hlo:=e0.size
 have a7:=sep
 replace e0:=e0.ext g
 replace m3:=m3.x g
 replace m6:=m6.x g
 replace sep:=sep.up g.size
 replace sep:=a7.cons (x:=et.map (fun(x:Addr)=>x.block)) g.size hlo (fun k e=>⟨hge k e,aq.lt (by rw[aj];exact e)⟩)
 have bq:Own h9 (.slice et L.length b8) 180 L.length 4 (c_ L):=aq;clear aq a7 hlo hge g
 refine bG 2 (rc x e ho false (.slice et L.length b8)) m3 fun h10 g11 zq=> ?_
 replace m3:=zq
 refine sT [] fun a hF=>cS<|qS hF<|tO 2 35 m3<|sT [(21,.bool (decide (e<u)))] fun a hF=>cJ 21 hF (fun hc12=> ?_) fun hc12=> ?_
 ·refine rS hF<|tV 2 35 [.int .i64 u] (rc x u ho false (.slice et L.length b8)) m3 fun h13 g14 zq=> ?_
  replace m3:=zq
  refine sE [] fun a hF=>tK<|qS hF<|tR 0 m3 ?_
  replace m6:=(m6.y g11 (sep.bp 1 2)).y g14 (sep.bp 1 2)
  refine bG 1 (rc x u ho false (.slice et L.length b8)) m6 fun h15 g16 zq=> ?_
  replace m6:=zq
  refine sT [(5,.int .i64 0)] fun a hF=>cR<|aK [.cell 4 95,.tmp 5] [.agg (rc x u ho false (.slice et L.length b8)).toArray,.int .i64 0] (.tuple #[.agg (rc x u ho false (.slice et L.length b8)).toArray,.int .i64 0]) rfl hF ⟨⟨_,rfl,Loads.blk (vs:=rc x u ho false (.slice et L.length b8)) (by kernel_rfl) m6 rfl⟩,rfl,trivial⟩ rfl ?_
  replace e0:=((e0.grew g11 (sep.l 2)).grew g14 (sep.l 2)).grew g16 (sep.l 1)
  replace bq:=((bq.k g11 (sep.ap 0 2)).k g14 (sep.ap 0 2)).k g16 (sep.ap 0 1)
  exact⟨_,by rw[Int.max_eq_right (by omega)],⟨_,_,rfl,bq,sep.low 0 rfl,e0⟩⟩
 ·refine cN<|tK<|qS hF<|tR 0 m3 ?_
  replace m6:=m6.y g11 (sep.bp 1 2)
  refine bG 1 (rc x e ho false (.slice et L.length b8)) m6 fun h17 g18 zq=> ?_
  replace m6:=zq
  refine sT [(5,.int .i64 0)] fun a hF=>cR<|aK [.cell 4 95,.tmp 5] [.agg (rc x e ho false (.slice et L.length b8)).toArray,.int .i64 0] (.tuple #[.agg (rc x e ho false (.slice et L.length b8)).toArray,.int .i64 0]) rfl hF ⟨⟨_,rfl,Loads.blk (vs:=rc x e ho false (.slice et L.length b8)) (by kernel_rfl) m6 rfl⟩,rfl,trivial⟩ rfl ?_
  replace e0:=(e0.grew g11 (sep.l 2)).grew g18 (sep.l 1)
  replace bq:=(bq.k g11 (sep.ap 0 2)).k g18 (sep.ap 0 1)
  exact⟨_,by rw[Int.max_eq_left (by omega)],⟨_,_,rfl,bq,sep.low 0 rfl,e0⟩⟩
noncomputable def b82:Code:=Tryz.f82.body.getD .skip
theorem uf(h:Heap)(x:RB)(e:Int)(ho:Bool)(L:List Pl)(va:Option Addr)(vc:Nat)(on:Bool):Sat Tryz.prog 82 #[.agg (rc x e ho true (.slice va L.length vc)).toArray,.bool on] h fun v h'=>v= .tuple #[.agg (rc aC (0:Int) false false (.slice none 0 0)).toArray,.int .i64 213]∧Ext h h':=by
 have e0:=Ext.refl h
 have sep:Sep h.size h.size []:=Sep.nil _ _
 refine ak Tryz.func82 14 fun a hF=>qS hF<|tN 0 (pV h.size) ((rc x e ho true (.slice va L.length vc)).toArray) 95 fun h1 g2 m3=> ?_
 replace sep:=sep.nw e0.size m3
 refine tN 1 (pV h1.size) ((rc aC (0:Int) false false (.slice none 0 0)).toArray) 95 fun h4 g5 m6=> ?_
 replace e0:=e0.ext g2
 replace sep:=sep.nw e0.size m6
 refine sT [(2,pV h.size),(4,pV h1.size)] fun a hF=>cS<|qS hF ?_
 replace m3:=m3.x g5
 refine tO 1 37 m3<|sT [(7,.bool true)] fun a hF=>cT 7 hF<|qS hF<|bG 1 (rc aC (0:Int) false false (.slice none 0 0)) m6 fun h7 g8 zq=> ?_
 replace m6:=zq
 refine sT [(5,.int .i64 213)] fun a hF=>cR (yT ?_)
 refine aK [.cell 4 95,.tmp 5] [.agg (rc aC (0:Int) false false (.slice none 0 0)).toArray,.int .i64 213] (.tuple #[.agg (rc aC (0:Int) false false (.slice none 0 0)).toArray,.int .i64 213]) rfl hF ⟨⟨_,rfl,Loads.blk (vs:=rc aC (0:Int) false false (.slice none 0 0)) (by kernel_rfl) m6 rfl⟩,rfl,trivial⟩ rfl ?_
 replace e0:=(e0.ext g5).grew g8 (sep.l 0)
 exact⟨rfl,e0⟩
theorem Ap(h:Heap)(x:RB)(e:Int)(ho:Bool)(L:List Pl)(va:Option Addr)(vc:Nat)(hr:Row h (.slice va L.length vc) L.length 4 (c_ L))(hL:L.length ≤1099511627776)(on:Bool):Sat Tryz.prog 82 #[.agg (rc x e ho false (.slice va L.length vc)).toArray,.bool on] h fun v h'=>∃c,v= .tuple #[.agg (rc x e on false c).toArray,.int .i64 0]∧n_ h h' 180 c L:=by
 have e0:=Ext.refl h
 have sep:Sep h.size h.size []:=Sep.nil _ _
 refine ak Tryz.func82 14 fun a hF=>qS hF<|tN 0 (pV h.size) ((rc x e ho false (.slice va L.length vc)).toArray) 95 fun h1 g2 m3=> ?_
 replace sep:=sep.nw e0.size m3
 refine tN 1 (pV h1.size) ((rc aC (0:Int) false false (.slice none 0 0)).toArray) 95 fun h4 g5 m6=> ?_
 replace e0:=e0.ext g2
 replace sep:=sep.nw e0.size m6
 refine sT [(2,pV h.size),(4,pV h1.size)] fun a hF=>cS<|qS hF ?_
 replace m3:=m3.x g5
 refine tO 1 37 m3<|sT [(7,.bool false)] fun a hF=>cF 7 hF<|cN<|tK<|qS hF<|tR 0 m3 ?_
 replace e0:=e0.ext g5
 refine tG 1 (lp _ x e ho false L va vc (hr.ext e0) hL) ?_
 rintro _ h9 ⟨_,rfl,et,b8,rfl,aq,hge,g⟩
 have hlo:=e0.size
 have a7:=sep
 replace e0:=e0.ext g
 replace m3:=m3.x g
 replace m6:=m6.x g
 replace sep:=sep.up g.size
 replace sep:=a7.cons (x:=et.map (fun(x:Addr)=>x.block)) g.size hlo (fun k e=>⟨hge k e,aq.lt (by rw[aj];exact e)⟩)
 have bq:Own h9 (.slice et L.length b8) 180 L.length 4 (c_ L):=aq;clear aq a7 hlo hge g
 refine bG 2 (rc x e ho false (.slice et L.length b8)) m3 fun h10 g11 zq=> ?_
 replace m3:=zq
 refine sT [] fun a hF=>qS hF<|tV 2 36 [.bool on] (rc x e on false (.slice et L.length b8)) m3 fun h12 g13 zq=> ?_
 replace m3:=zq
 refine sT [] fun a hF=>qS hF<|tR 0 m3 ?_
 replace m6:=(m6.y g11 (sep.bp 1 2)).y g13 (sep.bp 1 2)
 refine bG 1 (rc x e on false (.slice et L.length b8)) m6 fun fc g15 zq=> ?_
 replace m6:=zq
 refine sT [(5,.int .i64 0)] fun a hF=>cR<|aK [.cell 4 95,.tmp 5] [.agg (rc x e on false (.slice et L.length b8)).toArray,.int .i64 0] (.tuple #[.agg (rc x e on false (.slice et L.length b8)).toArray,.int .i64 0]) rfl hF ⟨⟨_,rfl,Loads.blk (vs:=rc x e on false (.slice et L.length b8)) (by kernel_rfl) m6 rfl⟩,rfl,trivial⟩ rfl ?_
 replace e0:=((e0.grew g11 (sep.l 2)).grew g13 (sep.l 2)).grew g15 (sep.l 1)
 replace bq:=((bq.k g11 (sep.ap 0 2)).k g13 (sep.ap 0 2)).k g15 (sep.ap 0 1)
 exact⟨_,rfl,⟨_,_,rfl,bq,sep.low 0 rfl,e0⟩⟩
noncomputable def b83:Code:=Tryz.f83.body.getD .skip
theorem wX(h:Heap)(x:RB)(e:Int)(ho:Bool)(L:List Pl)(va:Option Addr)(vc:Nat)(u:Int):Sat Tryz.prog 83 #[.agg (rc x e ho true (.slice va L.length vc)).toArray,.int .i64 u] h fun v h'=>v= .tuple #[.agg (rc aC (0:Int) false false (.slice none 0 0)).toArray,.int .i64 213]∧Ext h h':=by
 have e0:=Ext.refl h
 have sep:Sep h.size h.size []:=Sep.nil _ _
 refine ak Tryz.func83 21 fun a hF=>qS hF<|tN 0 (pV h.size) ((rc x e ho true (.slice va L.length vc)).toArray) 95 fun h1 g2 m3=> ?_
 replace sep:=sep.nw e0.size m3
 refine tN 1 (pV h1.size) ((rc aC (0:Int) false false (.slice none 0 0)).toArray) 95 fun h4 g5 m6=> ?_
 replace e0:=e0.ext g2
 replace sep:=sep.nw e0.size m6
 refine sT [(2,pV h.size),(4,pV h1.size)] fun a hF=>cS<|qS hF ?_
 replace m3:=m3.x g5
 refine tO 1 37 m3<|sT [(7,.bool true)] fun a hF=>cT 7 hF<|qS hF<|bG 1 (rc aC (0:Int) false false (.slice none 0 0)) m6 fun h7 g8 zq=> ?_
 replace m6:=zq
 refine sT [(5,.int .i64 213)] fun a hF=>cR (yT ?_)
 refine aK [.cell 4 95,.tmp 5] [.agg (rc aC (0:Int) false false (.slice none 0 0)).toArray,.int .i64 213] (.tuple #[.agg (rc aC (0:Int) false false (.slice none 0 0)).toArray,.int .i64 213]) rfl hF ⟨⟨_,rfl,Loads.blk (vs:=rc aC (0:Int) false false (.slice none 0 0)) (by kernel_rfl) m6 rfl⟩,rfl,trivial⟩ rfl ?_
 replace e0:=(e0.ext g5).grew g8 (sep.l 0)
 exact⟨rfl,e0⟩
theorem wY(h:Heap)(x:RB)(e:Int) (L:List Pl)(va:Option Addr)(vc:Nat)(u:Int):Sat Tryz.prog 83 #[.agg (rc x e true false (.slice va L.length vc)).toArray,.int .i64 u] h fun v h'=>v= .tuple #[.agg (rc aC (0:Int) false false (.slice none 0 0)).toArray,.int .i64 214]∧Ext h h':=by
 have e0:=Ext.refl h
 have sep:Sep h.size h.size []:=Sep.nil _ _
 refine ak Tryz.func83 21 fun a hF=>qS hF<|tN 0 (pV h.size) ((rc x e true false (.slice va L.length vc)).toArray) 95 fun h1 g2 m3=> ?_
 replace sep:=sep.nw e0.size m3
 refine tN 1 (pV h1.size) ((rc aC (0:Int) false false (.slice none 0 0)).toArray) 95 fun h4 g5 m6=> ?_
 replace e0:=e0.ext g2
 replace sep:=sep.nw e0.size m6
 refine sT [(2,pV h.size),(4,pV h1.size)] fun a hF=>cS<|qS hF ?_
 replace m3:=m3.x g5
 refine tO 1 37 m3<|sT [(7,.bool false)] fun a hF=>cF 7 hF<|cN<|tK<|cS<|qS hF ?_
 refine tO 1 36 m3<|sT [(16,.bool true)] fun a hF=>cT 16 hF<|qS hF<|bG 1 (rc aC (0:Int) false false (.slice none 0 0)) m6 fun h7 g8 zq=> ?_
 replace m6:=zq
 refine sT [(5,.int .i64 214)] fun a hF=>cR (yT ?_)
 refine aK [.cell 4 95,.tmp 5] [.agg (rc aC (0:Int) false false (.slice none 0 0)).toArray,.int .i64 214] (.tuple #[.agg (rc aC (0:Int) false false (.slice none 0 0)).toArray,.int .i64 214]) rfl hF ⟨⟨_,rfl,Loads.blk (vs:=rc aC (0:Int) false false (.slice none 0 0)) (by kernel_rfl) m6 rfl⟩,rfl,trivial⟩ rfl ?_
 replace e0:=(e0.ext g5).grew g8 (sep.l 0)
 exact⟨rfl,e0⟩
theorem wZ(h:Heap)(x:RB)(e:Int) (L:List Pl)(va:Option Addr)(vc:Nat)(u:Int)(hu:u<e):Sat Tryz.prog 83 #[.agg (rc x e false false (.slice va L.length vc)).toArray,.int .i64 u] h fun v h'=>v= .tuple #[.agg (rc aC (0:Int) false false (.slice none 0 0)).toArray,.int .i64 214]∧Ext h h':=by
 have e0:=Ext.refl h
 have sep:Sep h.size h.size []:=Sep.nil _ _
 refine ak Tryz.func83 21 fun a hF=>qS hF<|tN 0 (pV h.size) ((rc x e false false (.slice va L.length vc)).toArray) 95 fun h1 g2 m3=> ?_
 replace sep:=sep.nw e0.size m3
 refine tN 1 (pV h1.size) ((rc aC (0:Int) false false (.slice none 0 0)).toArray) 95 fun h4 g5 m6=> ?_
 replace e0:=e0.ext g2
 replace sep:=sep.nw e0.size m6
 refine sT [(2,pV h.size),(4,pV h1.size)] fun a hF=>cS<|qS hF ?_
 replace m3:=m3.x g5
 refine tO 1 37 m3<|sT [(7,.bool false)] fun a hF=>cF 7 hF<|cN<|tK<|cS<|qS hF ?_
 refine tO 1 36 m3<|tO 4 35 m3<|tT 6 (u<e)<|sT [(16,.bool true)] fun a hF=>cT 16 hF<|qS hF<|bG 1 (rc aC (0:Int) false false (.slice none 0 0)) m6 fun h7 g8 zq=> ?_
 replace m6:=zq
 refine sT [(5,.int .i64 214)] fun a hF=>cR (yT ?_)
 refine aK [.cell 4 95,.tmp 5] [.agg (rc aC (0:Int) false false (.slice none 0 0)).toArray,.int .i64 214] (.tuple #[.agg (rc aC (0:Int) false false (.slice none 0 0)).toArray,.int .i64 214]) rfl hF ⟨⟨_,rfl,Loads.blk (vs:=rc aC (0:Int) false false (.slice none 0 0)) (by kernel_rfl) m6 rfl⟩,rfl,trivial⟩ rfl ?_
 replace e0:=(e0.ext g5).grew g8 (sep.l 0)
 exact⟨rfl,e0⟩
theorem CN(h:Heap)(x:RB)(e:Int) (L:List Pl)(va:Option Addr)(vc:Nat)(u:Int)(hu:e≤u):Sat Tryz.prog 83 #[.agg (rc x e false false (.slice va L.length vc)).toArray,.int .i64 u] h fun v h'=>v= .tuple #[.agg (rc x e false true (.slice none 0 0)).toArray,.int .i64 0]∧Ext h h':=by
 have e0:=Ext.refl h
 have sep:Sep h.size h.size []:=Sep.nil _ _
 refine ak Tryz.func83 21 fun a hF=>qS hF<|tN 0 (pV h.size) ((rc x e false false (.slice va L.length vc)).toArray) 95 fun h1 g2 m3=> ?_
 replace sep:=sep.nw e0.size m3
 refine tN 1 (pV h1.size) ((rc aC (0:Int) false false (.slice none 0 0)).toArray) 95 fun h4 g5 m6=> ?_
 replace e0:=e0.ext g2
 replace sep:=sep.nw e0.size m6
 refine sT [(2,pV h.size),(4,pV h1.size)] fun a hF=>cS<|qS hF ?_
 replace m3:=m3.x g5
 refine tO 1 37 m3<|sT [(7,.bool false)] fun a hF=>cF 7 hF<|cN<|tK<|cS<|qS hF ?_
 refine tO 1 36 m3<|tO 4 35 m3<|tX 6 (u<e)<|sT [(16,.bool false)] fun a hF=>cF 16 hF<|cN<|tK ?_
 refine qS hF<|tV 1 37 [.bool true] (rc x e false true (.slice va L.length vc)) m3 fun h7 g8 zq=> ?_
 replace m3:=zq
 refine sT [] fun a hF=>qS hF<|tV 1 38 [.slice none 0 0] (rc x e false true (.slice none 0 0)) m3 fun h9 g10 zq=> ?_
 replace m3:=zq
 refine sT [] fun a hF=>qS hF<|tR 0 m3 ?_
 replace m6:=(m6.y g8 (sep.bp 0 1)).y g10 (sep.bp 0 1)
 refine bG 1 (rc x e false true (.slice none 0 0)) m6 fun h11 g12 zq=> ?_
 replace m6:=zq
 refine sT [(5,.int .i64 0)] fun a hF=>cR<|aK [.cell 4 95,.tmp 5] [.agg (rc x e false true (.slice none 0 0)).toArray,.int .i64 0] (.tuple #[.agg (rc x e false true (.slice none 0 0)).toArray,.int .i64 0]) rfl hF ⟨⟨_,rfl,Loads.blk (vs:=rc x e false true (.slice none 0 0)) (by kernel_rfl) m6 rfl⟩,rfl,trivial⟩ rfl ?_
 replace e0:=(((e0.ext g5).grew g8 (sep.l 1)).grew g10 (sep.l 1)).grew g12 (sep.l 0)
 exact⟨rfl,e0⟩
end Go.Proofs.YtegkejcglfgpmaaGreatDoor
end
section
namespace Go.Proofs.YtegkejcglfgpmaaGreatDoor
open Go Go.an Go.aT
noncomputable def b43:Code:=Tryz.f43.body.getD .skip
theorem lq {W:Nat→Prop}(h:Heap)(rb:Nat)(M:Md)(T:List RO)(oa:Option Addr)(oc:Nat)(ea:Option Addr)(ec:Nat)(es:List Value)(md:bn W h rb M T oa oc ea ec es)(hE:M.E.length ≤1099511627):Sat Tryz.prog 43 #[.pointer (some ⟨rb,0,none⟩)] h fun v h'=>∃ad cap,v= .slice ad M.E.length cap∧Own h' (.slice ad M.E.length cap) 39 M.E.length 32 (hcs (cH M.E))∧(∀k,ad.map (fun(x:Addr)=>x.block)=some k→h.size ≤k)∧Ext h h':=by
 have hm:=md.hm
 have hbr:=ag hm
 have hLn:=md.ln
 have e0:=Ext.refl h
 have sep:Sep h.size h.size []:=Sep.nil _ _
 refine ak Tryz.func43 27 fun a hF=>qP [] hF fun a hF=>qS hF<|tN 0 (.slice (some ⟨h.size,0,none⟩) 0 0) #[] 39 fun h1 g2 m3=> ?_
 replace sep:=sep.nw e0.size m3
 have af:Own h1 (.slice (some ⟨h.size,0,none⟩) 0 0) 39 ([]:List UInt8).length 32 (hcs []):=Own.empty 32 m3
 replace sep:Sep h.size h1.size [(some ⟨h.size,0,none⟩:Option Addr).map (·.block)]:=sep
 replace e0:=e0.ext g2
 clear m3
 refine sT [(3,.slice (some ⟨h.size,0,none⟩) 0 0)] fun a hF=>cS<|qP [(4,.int .i64 0)] hF fun a hF=>cB 0<|cL (fun m a h'=>∃k:Nat,∃ad:Option Addr,∃cap:Nat,m=M.E.length - k∧(Ext h h')∧(k≤M.E.length)∧(Own h' (.slice ad k cap) 39 k 32 (hcs (cH (M.E.take k))))∧(Sep h.size h'.size [ad.map (·.block)])∧(Fr a 27 [(0,.pointer (some ⟨rb,0,none⟩)),(3,.slice ad k cap),(4,.int .i64 ((k:Nat):Int))])) (M.E.length - 0) ⟨0,(some ⟨h.size,0,none⟩),0,rfl,e0,(by omega),af,sep,hF.to⟩ ?_
 clear hF a
 clear e0
 clear af
 clear sep
 rintro m a h4 ⟨k,ad,cap,rfl,e0,hk,af,sep,hF⟩
 refine cS<|qS hF<|tO 4 1 (e0.blk hm)<|sT [(12,.bool (decide (((k:Nat):Int)<((M.E.length :Nat):Int))))] fun a hF=>cJ 12 hF (fun hc5=> ?_) fun hc5=> ?_
 ·have hkn:k<M.E.length :=by omega
  obtain⟨e,he⟩:∃e,M.E[k]? =some e:=⟨_,List.getElem?_eq_getElem hkn⟩
  obtain⟨hel,xa,xc,hes,hrx⟩:=md.en.2 k e he
  have hFn:=hF
  obtain⟨aa,rfl,b3⟩:=md.er.1.1.a6 (by omega)
  have hF:=hFn;clear hFn
  refine cN<|tK<|cS<|cB 1<|rS hF<|tO 4 1 (e0.blk hm)<|tI 6 aa M.E.length 1 k k ?_
  refine tC 7 (.slice xa e.length xc) (Calm.load (T:=32) (p:=(Addr.add aa k)) (by kernel_rfl) (Loads.one (k:=1) (by kernel_rfl) ((md.er.1.1.ext e0).cells _ _ hes)))<|tG 8 (oW _ e xa xc (hrx.1.1.ext e0) (by omega)) ?_
  rintro _ h7 ⟨rfl,g6⟩
  refine tF 9 (Does.newHs (L:=[cx e]) (t:=45) (E:=39) (dT:=32) (n:=1) (by kernel_rfl) (by kernel_rfl) (aB.cons (dm _) aB.nil) rfl (by decide) (by decide)) ?_
  rintro _ h8 ⟨rfl,hh⟩
  have g9:Ext h7 h8:=a8 hh
  have m10:h8[h7.size]? =some (.cells (hcs [cx e]).toArray 39):=bx hh
  clear hh
  replace e0:=e0.ext g6
  have hlo:=e0.size
  replace sep:=sep.up g6.size
  have a7:=sep
  replace sep:=sep.up g9.size
  replace sep:=a7.new hlo (ag m10)
  clear a7 hlo
  replace af:=(af.ext g6).ext g9
  refine tP 10 (k+1) 32 (hcs (cH (M.E.take k)++[cx e])) af (hrow1 (dm _) m10) (dB _) (fun FD DK h13 af g14 vF=> ?_) (ys:=(hcs ([cx e]))) (hZ:=by first|rfl|exact(bk _ _).symm |simp[bk])
  replace e0:=e0.ext g9
  have s16:=sep
  replace sep:=sep.sa g14 1 vF af e0.size;clear vF
  refine sE [(3,.slice FD (k+1) DK)] fun a hF=>bK<|tK<|rS hF<|tA 1 k 1<|sE [(4,nV (k+1))] fun a hF=> ?_
  rw[oS he] at af
  clear m10
  replace e0:=e0.grew g14 (s16.l 1)
  replace sep:=sep.sub (l':=[FD.map (·.block)]) (.cons _ (.cons_cons _ (.slnil)))
  show ∃m',m'<_∧_
  refine⟨_,?_,(k+1),FD,DK,rfl,e0,(by omega),af,sep,hF.to⟩
  omega
 ·refine cX 0 (xT (xT (xB ?_)))
  refine tK<|qP [(2,.slice ad k cap)] hF fun a hF=>cR<|rT 2 (.slice ad k cap) hF ?_
  obtain rfl:k=M.E.length :=by omega
  rw[List.take_length] at af
  exact⟨ad,cap,rfl,af,sep.low 0 rfl,e0⟩
noncomputable def b39:Code:=Tryz.f39.body.getD .skip
set_option maxHeartbeats 1000000 in
theorem ik {W:Nat→Prop}(h:Heap)(rb:Nat)(M:Md)(T:List RO)(oa:Option Addr)(oc:Nat)(ea:Option Addr)(ec:Nat)(es:List Value)(md:bn W h rb M T oa oc ea ec es)(kd n:Int)(s:ByteArray)(pa:Option Addr)(on pc:Nat)(ka:Option Addr)(kn kc:Nat)(hsz:s.size ≤9223372036854775807)(hE:M.E.length ≤1099511627):Sat Tryz.prog 39 #[.pointer (some ⟨rb,0,none⟩),.agg #[.int .i64 kd,.string s,.slice pa on pc,.int .i64 n,.slice ka kn kc]] h fun v h'=>v= .int .i64 (iZ M kd n s).2 ∧bF W h' rb (iZ M kd n s).1 ∧RG rb h h':=by
 have hm:=md.hm
 have hbr:=ag hm
 have hLn:=md.ln
 have e0:=Ext.refl h
 have sep:Sep h.size h.size []:=Sep.nil _ _
 refine ak Tryz.func39 80 fun a hF=>qS hF<|tN 0 (pV h.size) #[.int .i64 kd,.string s,.slice pa on pc,.int .i64 n,.slice ka kn kc] 35 fun h1 g2 m3=> ?_
 replace sep:=sep.nw e0.size m3
 refine sT [(3,pV h.size)] fun a hF=>cS<|cS ?_
 rcases md.kM s with hok|⟨hok,hf,A,B,rfl,hA,hB⟩|⟨hok,A,x,B,rfl,hA,rfl,hf⟩
 ·refine rS hF<|tO 1 1 m3<|tC 2 (.bool false) (Does.call (f:=27) (args:= #[.string s]) (by kernel_rfl) (nq _ s hsz hok))<|sE [(11,.bool true)] fun a hF=>tK<|cT 11 hF<|qP [(4,.int .i64 210)] hF fun a hF=> ?_
  refine cR (yT ?_)
  refine rT 4 (.int .i64 210) hF ?_
  replace e0:=e0.ext g2
  rw[yS hok];exact⟨rfl,⟨_,_,_,_,_,_,md.ext e0⟩,RG.aS e0⟩
 ·refine rS hF<|tO 1 1 m3<|tC 2 (.bool true) (Does.call (f:=27) (args:= #[.string s]) (by kernel_rfl) (dQ _ s hok))<|sE [(11,.bool false)] fun a hF=>tK<|cF 11 hF<|cN ?_
  refine tK<|cS<|cS ?_
  rcases pJ kd n with hk|hk|hk|hk
  ·refine rS hF<|tO 1 0 m3<|eT 2 kd 4<|tO 5 3 m3<|tT 6 (n<(0:Int))<|sE [(24,.bool true)] fun a hF=>tK ?_
   refine cT 24 hF<|qP [(4,.int .i64 1)] hF fun a hF=>cR (yT ?_)
   refine rT 4 (.int .i64 1) hF ?_
   replace e0:=e0.ext g2
   rw[fb hok (by omega)];exact⟨rfl,⟨_,_,_,_,_,_,md.ext e0⟩,RG.aS e0⟩
  ·refine rS hF<|tO 1 0 m3<|eT 2 kd 4<|tO 5 3 m3<|tX 6 (n<(0:Int))<|tO 9 3 m3<|tT 10 ((1099511627776:Int)<n) ?_
   refine sE [(24,.bool true)] fun a hF=>tK<|cT 24 hF<|qP [(4,.int .i64 1)] hF fun a hF=>cR (yT ?_)
   refine rT 4 (.int .i64 1) hF ?_
   replace e0:=e0.ext g2
   rw[fb hok (by omega)];exact⟨rfl,⟨_,_,_,_,_,_,md.ext e0⟩,RG.aS e0⟩
  ·refine rS hF<|tO 1 0 m3<|eT 2 kd 4<|tO 5 3 m3<|tX 6 (n<(0:Int))<|tO 9 3 m3<|tX 10 ((1099511627776:Int)<n) ?_
   refine sE [(24,.bool false)] fun a hF=>tK<|cF 24 hF<|cN<|tK<|qS hF<|tO 2 1 m3 ?_
   replace e0:=e0.ext g2
   refine tC 3 (.tuple #[.int .i64 0,.int .i64 211]) (Does.call (f:=80) (args:= #[pV rb,.string s]) (by kernel_rfl) (dS _ rb M (A++B) oa oc ea ec es (md.ext e0) s hsz 0 211 (.inr (.inl ⟨hok,⟨_,.no hA hB⟩,rfl,rfl⟩)) hE))<|sT [(5,.int .i64 0),(6,.int .i64 211)] fun a hF=>cS<|qP [(33,.bool true)] hF fun a hF=>cT 33 hF<|qP [(4,.int .i64 211)] hF fun a hF=>cR (yT ?_)
   refine rT 4 (.int .i64 211) hF ?_
   rw[jW hok (by omega) hf];exact⟨rfl,⟨_,_,_,_,_,_,md.ext e0⟩,RG.aS e0⟩
  ·refine rS hF<|tO 1 0 m3<|eF 2 kd 4<|sE [(24,.bool false)] fun a hF=>tK<|cF 24 hF<|cN ?_
   refine tK<|qS hF<|tO 2 1 m3 ?_
   replace e0:=e0.ext g2
   refine tC 3 (.tuple #[.int .i64 0,.int .i64 211]) (Does.call (f:=80) (args:= #[pV rb,.string s]) (by kernel_rfl) (dS _ rb M (A++B) oa oc ea ec es (md.ext e0) s hsz 0 211 (.inr (.inl ⟨hok,⟨_,.no hA hB⟩,rfl,rfl⟩)) hE))<|sT [(5,.int .i64 0),(6,.int .i64 211)] fun a hF=>cS<|qP [(33,.bool true)] hF fun a hF=>cT 33 hF<|qP [(4,.int .i64 211)] hF fun a hF=>cR (yT ?_)
   refine rT 4 (.int .i64 211) hF ?_
   rw[jW hok (by omega) hf];exact⟨rfl,⟨_,_,_,_,_,_,md.ext e0⟩,RG.aS e0⟩
 ·have hAl:A.length <(A++x::B).length :=zz
  refine rS hF<|tO 1 1 m3<|tC 2 (.bool true) (Does.call (f:=27) (args:= #[.string x.o.b.id]) (by kernel_rfl) (dQ _ x.o.b.id hok))<|sE [(11,.bool false)] fun a hF=>tK<|cF 11 hF<|cN ?_
  refine tK<|cS<|cS ?_
  rcases pJ kd n with hk|hk|hk|hk
  ·refine rS hF<|tO 1 0 m3<|eT 2 kd 4<|tO 5 3 m3<|tT 6 (n<(0:Int))<|sE [(24,.bool true)] fun a hF=>tK ?_
   refine cT 24 hF<|qP [(4,.int .i64 1)] hF fun a hF=>cR (yT ?_)
   refine rT 4 (.int .i64 1) hF ?_
   replace e0:=e0.ext g2
   rw[fb hok (by omega)];exact⟨rfl,⟨_,_,_,_,_,_,md.ext e0⟩,RG.aS e0⟩
  ·refine rS hF<|tO 1 0 m3<|eT 2 kd 4<|tO 5 3 m3<|tX 6 (n<(0:Int))<|tO 9 3 m3<|tT 10 ((1099511627776:Int)<n) ?_
   refine sE [(24,.bool true)] fun a hF=>tK<|cT 24 hF<|qP [(4,.int .i64 1)] hF fun a hF=>cR (yT ?_)
   refine rT 4 (.int .i64 1) hF ?_
   replace e0:=e0.ext g2
   rw[fb hok (by omega)];exact⟨rfl,⟨_,_,_,_,_,_,md.ext e0⟩,RG.aS e0⟩
  ·refine rS hF<|tO 1 0 m3<|eT 2 kd 4<|tO 5 3 m3<|tX 6 (n<(0:Int))<|tO 9 3 m3<|tX 10 ((1099511627776:Int)<n) ?_
   refine sE [(24,.bool false)] fun a hF=>tK<|cF 24 hF<|cN<|tK<|qS hF<|tO 2 1 m3 ?_
   replace e0:=e0.ext g2
   refine tC 3 (.tuple #[nV A.length,.int .i64 0]) (Does.call (f:=80) (args:= #[pV rb,.string x.o.b.id]) (by kernel_rfl) (dS _ rb M (A++x::B) oa oc ea ec es (md.ext e0) x.o.b.id hsz A.length 0 (.inr (.inr ⟨hok,.yes hA rfl,rfl⟩)) hE))<|sT [(5,nV A.length),(6,.int .i64 0)] fun a hF=>cS<|qP [(33,.bool false)] hF fun a hF=>cF 33 hF<|cN<|tK ?_
   refine cS ?_
   obtain⟨k1,k2,k3,k4⟩:=md.ob x (by simp)
   have hFn:=hF
   obtain⟨ao,rfl,fh⟩:=md.row.1.a6 (by omega)
   have hF:=hFn;clear hFn
   ·refine rS hF<|tO 3 0 (e0.blk hm)<|tI 5 ao ((A++x::B).length) 40 A.length (A.length *40)<|t1 6 (.pointer (some (Addr.add ao (A.length *40)))) (.pointer (some ((Addr.add ao (A.length *40)).add 0))) (by rw[add_add,Nat.add_zero])<|tC 7 (.agg (rc x.o.b x.o.e x.o.ho x.o.go (.slice x.ca 0 x.cc)).toArray) (Calm.load (T:=95) (p:=(Addr.add ao (A.length *40))) (by kernel_rfl) (Row.Jz (md.row.1.ext e0) tf (by kernel_rfl) rfl))<|tN 8 (pV h1.size) ((rc aC (0:Int) false false (.slice none 0 0)).toArray) 95 fun h4 g5 m6=> ?_
    replace sep:=sep.nw e0.size m6
    refine bG 9 (rc x.o.b x.o.e x.o.ho x.o.go (.slice x.ca 0 x.cc)) m6 fun h7 g8 zq=> ?_
    replace m6:=zq
    refine sE [(7,pV h1.size)] fun a hF=> ?_
    obtain⟨⟨ob,oe,oh,og,od⟩,ca,cc,ba,bc⟩:=x
    refine tK<|cS<|qS hF ?_
    replace m3:=(m3.x g5).y g8 (sep.bp 1 0)
    refine tO 1 0 m3<|sT [(44,.int .i64 kd)] fun a hF=>cB 0<|qS hF<|eT 0 kd 4<|sT [(54,.bool true)] fun a hF=>cT 54 hF ?_
    cases og
    ·refine rS hF<|tR 0 m6<|tO 2 3 m3<|tG 3 (Ao _ ob oe oh [] ca cc (k3.zero rfl) (by decide) n (by omega) (by omega)) ?_
     rintro _ h11 ⟨_,rfl,qi,ew,rfl,aq,hge,g⟩
     replace e0:=(e0.ext g5).grew g8 (sep.l 0)
     replace sep:=sep.up g8.size
     replace e0:=e0.ext g
     replace m3:=m3.x g
     replace m6:=m6.x g
     replace sep:=sep.up g.size
     clear hge g;have hrc:=aq.row;clear aq
     refine bG 7 (rc ob (max oe n) oh false (.slice qi 0 ew)) m6 fun h12 g13 zq=> ?_
     replace m6:=zq
     refine sE [(6,.int .i64 0)] fun a hF=>bK<|tK<|cS<|qP [(74,.bool true)] hF fun a hF=>cT 74 hF<|rS hF ?_
     refine tR 2 m6 ?_
     replace e0:=e0.grew g13 (sep.l 0)
     replace m3:=m3.y g13 (sep.bp 1 0)
     replace sep:=sep.up g13.size
     refine tG 3 (nE _ rb M A B _ _ oc ea ec es (md.ext e0) (max oe n) oh false qi ew (hrc.zero rfl) hE) ?_
     rintro _ fc ⟨hfin,gm⟩
     have gk:=(RG.aS e0).then gm
     refine sE [] fun a hF=>tK<|qP [(4,.int .i64 0)] hF fun a hF=>cR<|rT 4 (.int .i64 0) hF ?_
     rw[kN hok (by omega) hf (o':=⟨ob,(max oe n),oh,false,od⟩) (by first|exact eJ hk.1 |exact eK hk5|exact fC hk hk5 ht)];exact⟨rfl,hfin,gk⟩
    ·refine rS hF<|tR 0 m6<|tO 2 3 m3<|tG 3 (ue _ ob oe oh [] ca cc n (by omega) (by omega)) ?_
     rintro _ h16 ⟨rfl,g15⟩
     replace m6:=m6.x g15
     refine bG 7 (rc aC (0:Int) false false (.slice none 0 0)) m6 fun h17 g18 zq=> ?_
     replace m6:=zq
     refine sE [(6,.int .i64 213)] fun a hF=>bK<|tK<|cS<|qP [(74,.bool false)] hF fun a hF=>cF 74 hF<|cN ?_
     refine tK<|qP [(4,.int .i64 213)] hF fun a hF=>cR<|rT 4 (.int .i64 213) hF ?_
     replace e0:=(((e0.ext g5).grew g8 (sep.l 0)).ext g15).grew g18 (sep.l 0)
     rw[fk hok (by omega) hf (z:=213) (by first|exact cz|exact cA hk hk5|exact cE hk hk5 ht) (by decide)];exact⟨rfl,⟨_,_,_,_,_,_,md.ext e0⟩,RG.aS e0⟩
  ·refine rS hF<|tO 1 0 m3<|eF 2 kd 4<|sE [(24,.bool false)] fun a hF=>tK<|cF 24 hF<|cN ?_
   refine tK<|qS hF<|tO 2 1 m3 ?_
   replace e0:=e0.ext g2
   refine tC 3 (.tuple #[nV A.length,.int .i64 0]) (Does.call (f:=80) (args:= #[pV rb,.string x.o.b.id]) (by kernel_rfl) (dS _ rb M (A++x::B) oa oc ea ec es (md.ext e0) x.o.b.id hsz A.length 0 (.inr (.inr ⟨hok,.yes hA rfl,rfl⟩)) hE))<|sT [(5,nV A.length),(6,.int .i64 0)] fun a hF=>cS<|qP [(33,.bool false)] hF fun a hF=>cF 33 hF<|cN<|tK ?_
   refine cS ?_
   obtain⟨k1,k2,k3,k4⟩:=md.ob x (by simp)
   have hFn:=hF
   obtain⟨ao,rfl,fh⟩:=md.row.1.a6 (by omega)
   have hF:=hFn;clear hFn
   ·refine rS hF<|tO 3 0 (e0.blk hm)<|tI 5 ao ((A++x::B).length) 40 A.length (A.length *40)<|t1 6 (.pointer (some (Addr.add ao (A.length *40)))) (.pointer (some ((Addr.add ao (A.length *40)).add 0))) (by rw[add_add,Nat.add_zero])<|tC 7 (.agg (rc x.o.b x.o.e x.o.ho x.o.go (.slice x.ca 0 x.cc)).toArray) (Calm.load (T:=95) (p:=(Addr.add ao (A.length *40))) (by kernel_rfl) (Row.Jz (md.row.1.ext e0) tf (by kernel_rfl) rfl))<|tN 8 (pV h1.size) ((rc aC (0:Int) false false (.slice none 0 0)).toArray) 95 fun h19 g20 m21=> ?_
    replace sep:=sep.nw e0.size m21
    refine bG 9 (rc x.o.b x.o.e x.o.ho x.o.go (.slice x.ca 0 x.cc)) m21 fun h22 g23 zq=> ?_
    replace m21:=zq
    refine sE [(7,pV h1.size)] fun a hF=> ?_
    obtain⟨⟨ob,oe,oh,og,od⟩,ca,cc,ba,bc⟩:=x
    refine tK<|cS<|qS hF ?_
    replace m3:=(m3.x g20).y g23 (sep.bp 1 0)
    refine tO 1 0 m3<|sT [(44,.int .i64 kd)] fun a hF=>cB 0<|qS hF<|eF 0 kd 4<|sT [(54,.bool false)] fun a hF=>cF 54 hF ?_
    refine cS ?_
    rcases(by omega:kd=5∨kd≠5) with hk5|hk5
    ·refine rS hF<|eT 0 kd 5<|sE [(63,.bool true)] fun a hF=>tK<|cT 63 hF ?_
     cases og
     ·refine rS hF<|tR 0 m21<|tO 2 3 m3<|tG 4 (Ap _ ob oe oh [] ca cc (k3.zero rfl) (by decide) (decide (n=(1:Int)))) ?_
      rintro _ nN ⟨_,rfl,II,DL,rfl,aq,hge,g⟩
      replace e0:=(e0.ext g20).grew g23 (sep.l 0)
      replace sep:=sep.up g23.size
      replace e0:=e0.ext g
      replace m3:=m3.x g
      replace m21:=m21.x g
      replace sep:=sep.up g.size
      clear hge g;have hrc:=aq.row;clear aq
      refine bG 8 (rc ob oe (decide (n=(1:Int))) false (.slice II 0 DL)) m21 fun h27 fe zq=> ?_
      replace m21:=zq
      refine sE [(6,.int .i64 0)] fun a hF=>bK<|tK<|cS<|qP [(74,.bool true)] hF fun a hF=>cT 74 hF<|rS hF ?_
      refine tR 2 m21 ?_
      replace e0:=e0.grew fe (sep.l 0)
      replace m3:=m3.y fe (sep.bp 1 0)
      replace sep:=sep.up fe.size
      refine tG 3 (nE _ rb M A B _ _ oc ea ec es (md.ext e0) oe (decide (n=(1:Int))) false II DL (hrc.zero rfl) hE) ?_
      rintro _ GU ⟨hfin,gm⟩
      have gk:=(RG.aS e0).then gm
      refine sE [] fun a hF=>tK<|qP [(4,.int .i64 0)] hF fun a hF=>cR<|rT 4 (.int .i64 0) hF ?_
      rw[kN hok (by omega) hf (o':=⟨ob,oe,(decide (n=(1:Int))),false,od⟩) (by first|exact eJ hk.1 |exact eK hk5|exact fC hk hk5 ht)];exact⟨rfl,hfin,gk⟩
     ·refine rS hF<|tR 0 m21<|tO 2 3 m3<|tG 4 (uf _ ob oe oh [] ca cc (decide (n=(1:Int)))) ?_
      rintro _ h31 ⟨rfl,u3⟩
      replace m21:=m21.x u3
      refine bG 8 (rc aC (0:Int) false false (.slice none 0 0)) m21 fun h32 gM zq=> ?_
      replace m21:=zq
      refine sE [(6,.int .i64 213)] fun a hF=>bK<|tK<|cS<|qP [(74,.bool false)] hF fun a hF=>cF 74 hF<|cN ?_
      refine tK<|qP [(4,.int .i64 213)] hF fun a hF=>cR<|rT 4 (.int .i64 213) hF ?_
      replace e0:=(((e0.ext g20).grew g23 (sep.l 0)).ext u3).grew gM (sep.l 0)
      rw[fk hok (by omega) hf (z:=213) (by first|exact cz|exact cA hk hk5|exact cE hk hk5 ht) (by decide)];exact⟨rfl,⟨_,_,_,_,_,_,md.ext e0⟩,RG.aS e0⟩
    ·refine rS hF<|eF 0 kd 5<|sE [(63,.bool false)] fun a hF=>tK<|cF 63 hF ?_
     rcases vf og oh M.t oe with rfl|⟨rfl,rfl⟩|⟨rfl,rfl,ht⟩|⟨rfl,rfl,ht⟩
     ·refine cD [0,0,2,6,14,31,63,127,127,255,1023] 10 mixed hF<|mR 1 1 0 m21<|mP 15 [1,2,3] [pV rb,pV rb,.pointer (some ⟨rb,2,none⟩)] ?_
      replace e0:=(e0.ext g20).grew g23 (sep.l 0)
      refine mO 31 17 4 2 (.int .i64 M.t) (e0.blk hm)<|fW 63 63 5 (wX _ ob oe oh [] ca cc M.t) ?_
      rintro _ h35 ⟨rfl,s4⟩
      refine mP 511 [6,7,8] [.tuple #[.agg (rc aC (0:Int) false false (.slice none 0 0)).toArray,.int .i64 213],.agg (rc aC (0:Int) false false (.slice none 0 0)).toArray,.int .i64 213] ?_
      replace m21:=m21.x s4
      refine mV 1023 767 9 0 (rc aC (0:Int) false false (.slice none 0 0)) (rc aC (0:Int) false false (.slice none 0 0)) m21 fun Ga kF zq=> ?_
      replace m21:=zq
      refine mP 2047 [10] [.int .i64 213]<|mE [(6,.int .i64 213)] fun a hF=>bK<|tK<|cS<|qP [(74,.bool false)] hF fun a hF=>cF 74 hF ?_
      refine cN<|tK<|qP [(4,.int .i64 213)] hF fun a hF=>cR<|rT 4 (.int .i64 213) hF ?_
      replace e0:=(e0.ext s4).grew kF (sep.l 0)
      rw[fk hok (by omega) hf (z:=213) (by first|exact cz|exact cA hk hk5|exact cE hk hk5 ht) (by decide)];exact⟨rfl,⟨_,_,_,_,_,_,md.ext e0⟩,RG.aS e0⟩
     ·refine cD [0,0,2,6,14,31,63,127,127,255,1023] 10 mixed hF<|mR 1 1 0 m21<|mP 15 [1,2,3] [pV rb,pV rb,.pointer (some ⟨rb,2,none⟩)] ?_
      replace e0:=(e0.ext g20).grew g23 (sep.l 0)
      refine mO 31 17 4 2 (.int .i64 M.t) (e0.blk hm)<|fW 63 63 5 (wY _ ob oe [] ca cc M.t) ?_
      rintro _ Hv ⟨rfl,lz⟩
      refine mP 511 [6,7,8] [.tuple #[.agg (rc aC (0:Int) false false (.slice none 0 0)).toArray,.int .i64 214],.agg (rc aC (0:Int) false false (.slice none 0 0)).toArray,.int .i64 214] ?_
      replace m21:=m21.x lz
      refine mV 1023 767 9 0 (rc aC (0:Int) false false (.slice none 0 0)) (rc aC (0:Int) false false (.slice none 0 0)) m21 fun AT jw zq=> ?_
      replace m21:=zq
      refine mP 2047 [10] [.int .i64 214]<|mE [(6,.int .i64 214)] fun a hF=>bK<|tK<|cS<|qP [(74,.bool false)] hF fun a hF=>cF 74 hF ?_
      refine cN<|tK<|qP [(4,.int .i64 214)] hF fun a hF=>cR<|rT 4 (.int .i64 214) hF ?_
      replace e0:=(e0.ext lz).grew jw (sep.l 0)
      rw[fk hok (by omega) hf (z:=214) (by first|exact cz|exact cA hk hk5|exact cE hk hk5 ht) (by decide)];exact⟨rfl,⟨_,_,_,_,_,_,md.ext e0⟩,RG.aS e0⟩
     ·refine cD [0,0,2,6,14,31,63,127,127,255,1023] 10 mixed hF<|mR 1 1 0 m21<|mP 15 [1,2,3] [pV rb,pV rb,.pointer (some ⟨rb,2,none⟩)] ?_
      replace e0:=(e0.ext g20).grew g23 (sep.l 0)
      refine mO 31 17 4 2 (.int .i64 M.t) (e0.blk hm)<|fW 63 63 5 (wZ _ ob oe [] ca cc M.t ht) ?_
      rintro _ h43 ⟨rfl,gv⟩
      refine mP 511 [6,7,8] [.tuple #[.agg (rc aC (0:Int) false false (.slice none 0 0)).toArray,.int .i64 214],.agg (rc aC (0:Int) false false (.slice none 0 0)).toArray,.int .i64 214] ?_
      replace m21:=m21.x gv
      refine mV 1023 767 9 0 (rc aC (0:Int) false false (.slice none 0 0)) (rc aC (0:Int) false false (.slice none 0 0)) m21 fun vD gN zq=> ?_
      replace m21:=zq
      refine mP 2047 [10] [.int .i64 214]<|mE [(6,.int .i64 214)] fun a hF=>bK<|tK<|cS<|qP [(74,.bool false)] hF fun a hF=>cF 74 hF ?_
      refine cN<|tK<|qP [(4,.int .i64 214)] hF fun a hF=>cR<|rT 4 (.int .i64 214) hF ?_
      replace e0:=(e0.ext gv).grew gN (sep.l 0)
      rw[fk hok (by omega) hf (z:=214) (by first|exact cz|exact cA hk hk5|exact cE hk hk5 ht) (by decide)];exact⟨rfl,⟨_,_,_,_,_,_,md.ext e0⟩,RG.aS e0⟩
     ·refine cD [0,0,2,6,14,31,63,127,127,255,1023] 10 mixed hF<|mR 1 1 0 m21<|mP 15 [1,2,3] [pV rb,pV rb,.pointer (some ⟨rb,2,none⟩)] ?_
      replace e0:=(e0.ext g20).grew g23 (sep.l 0)
      refine mO 31 17 4 2 (.int .i64 M.t) (e0.blk hm)<|fW 63 63 5 (CN _ ob oe [] ca cc M.t ht) ?_
      rintro _ h47 ⟨rfl,wK⟩
      refine mP 511 [6,7,8] [.tuple #[.agg (rc ob oe false true (.slice none 0 0)).toArray,.int .i64 0],.agg (rc ob oe false true (.slice none 0 0)).toArray,.int .i64 0] ?_
      replace m21:=m21.x wK
      refine mV 1023 767 9 0 (rc ob oe false true (.slice none 0 0)) (rc ob oe false true (.slice none 0 0)) m21 fun h48 qe zq=> ?_
      replace m21:=zq
      refine mP 2047 [10] [.int .i64 0]<|mE [(6,.int .i64 0)] fun a hF=>bK<|tK<|cS<|qP [(74,.bool true)] hF fun a hF=>cT 74 hF ?_
      refine rS hF<|tR 2 m21 ?_
      replace sep:=((sep.up g23.size).up wK.size).up qe.size
      replace e0:=(e0.ext wK).grew qe (sep.l 0)
      replace m3:=(m3.x wK).y qe (sep.bp 1 0)
      refine tG 3 (nE _ rb M A B _ _ oc ea ec es (md.ext e0) oe false true none 0 (Row.nil _ 4) hE) ?_
      rintro _ h50 ⟨hfin,gm⟩
      have gk:=(RG.aS e0).then gm
      refine sE [] fun a hF=>tK<|qP [(4,.int .i64 0)] hF fun a hF=>cR<|rT 4 (.int .i64 0) hF ?_
      rw[kN hok (by omega) hf (o':=⟨ob,oe,false,true,od⟩) (by first|exact eJ hk.1 |exact eK hk5|exact fC hk hk5 ht)];exact⟨rfl,hfin,gk⟩
end Go.Proofs.YtegkejcglfgpmaaGreatDoor
end
section
namespace Go.Proofs.YtegkejcglfgpmaaGreatDoor
open Go Go.an Go.aT
theorem CO(h:Heap)(L:List Hs)(va:Option Addr)(vc n:Nat)(hL:HR h va vc n L)(hn:n≤1099511627000)(i:Int)(p:List Hs)(e:Int)(hz:c7 L i=(p,e)):Sat Tryz.prog 85 #[.slice va n vc,.int .i64 i] h fun v h'=>∃ad cap,v= .tuple #[.slice ad p.length cap,.int .i64 e]∧Own h' (.slice ad p.length cap) 39 p.length 32 (hcs p)∧(∀k,ad.map (fun(x:Addr)=>x.block)=some k→h.size ≤k)∧Ext h h':=
 (Ai h L va vc n hL hn i p e hz).mono fun v h' ⟨s,hv,ad,cap,hs,o,hge,g⟩=>by
  subst hs
  exact⟨ad,cap,hv,o,hge,g⟩
theorem CP(h:Heap)(L:List Hs)(va:Option Addr)(vc n:Nat)(hL:HR h va vc n L)(hn:n≤1099511627000):Sat Tryz.prog 42 #[.slice va n vc] h fun v h'=>v= .agg ((hl (qQ (root L))).map bv).toArray ∧Ext h h':=by
 rw[mC (bb hL.2.1)];exact iP h L va vc n hL hn
noncomputable def b40:Code:=Tryz.f40.body.getD .skip
set_option maxHeartbeats 1000000 in
theorem ko {W:Nat→Prop}(h:Heap)(rb:Nat)(M:Md)(T:List RO)(oa:Option Addr)(oc:Nat)(ea:Option Addr)(ec:Nat)(es:List Value)(md:bn W h rb M T oa oc ea ec es)(kd n:Int)(s:ByteArray)(pa:Option Addr)(on pc:Nat)(ka:Option Addr)(kn kc:Nat)(hsz:s.size ≤9223372036854775807)(hE:M.E.length ≤1099511627)(A0:An)(hA0:dy M kd s=A0):Sat Tryz.prog 40 #[.pointer (some ⟨rb,0,none⟩),.agg #[.int .i64 kd,.string s,.slice pa on pc,.int .i64 n,.slice ka kn kc]] h fun v h'=>AnsAt h' v A0∧Ext h h':=by
 subst hA0
 have hm:=md.hm
 have hbr:=ag hm
 have hLn:=md.ln
 have e0:=Ext.refl h
 have sep:Sep h.size h.size []:=Sep.nil _ _
 refine ak Tryz.func40 65 fun a hF=>qS hF<|tN 0 (pV h.size) #[.int .i64 kd,.string s,.slice pa on pc,.int .i64 n,.slice ka kn kc] 35 fun h1 g2 m3=> ?_
 replace sep:=sep.nw e0.size m3
 refine tN 1 (pV h1.size) ((bJ (0:Int) (.slice none 0 0) aC (0:Int) false false (.slice none 0 0) (0:Int) aC (0:Int) (.slice none 0 0)).toArray) 47 fun h4 g5 m6=> ?_
 replace e0:=e0.ext g2
 replace sep:=sep.nw e0.size m6
 refine sT [(3,pV h.size),(4,pV h1.size)] fun a hF=>cS ?_
 rcases md.kM s with hok|⟨hok,hf,A,B,rfl,hA,hB⟩|⟨hok,A,x,B,rfl,hA,rfl,hf⟩
 ·refine rS hF ?_
  replace m3:=m3.x g5
  refine tO 2 1 m3 ?_
  replace e0:=e0.ext g5
  refine tC 3 (.tuple #[.int .i64 0,.int .i64 210]) (Does.call (f:=80) (args:= #[pV rb,.string s]) (by kernel_rfl) (dS _ rb M T oa oc ea ec es (md.ext e0) s hsz 0 210 (.inl ⟨hok,rfl,rfl⟩) hE))<|sE [(5,.int .i64 0),(6,.int .i64 210)] fun a hF=>tK<|cS<|qP [(18,.bool true)] hF fun a hF=>cT 18 hF<|qS hF ?_
  refine bG 2 (bJ (210:Int) (.slice none 0 0) aC (0:Int) false false (.slice none 0 0) (0:Int) aC (0:Int) (.slice none 0 0)) m6 fun h7 g8 zq=> ?_
  replace m6:=zq
  refine sT [] fun a hF=>cR (yT ?_)
  refine rB m6 hF ?_
  replace e0:=e0.grew g8 (sep.l 0)
  rw[u5 hok];exact⟨jo _ 210,e0⟩
 ·refine rS hF ?_
  replace m3:=m3.x g5
  refine tO 2 1 m3 ?_
  replace e0:=e0.ext g5
  refine tC 3 (.tuple #[.int .i64 0,.int .i64 211]) (Does.call (f:=80) (args:= #[pV rb,.string s]) (by kernel_rfl) (dS _ rb M (A++B) oa oc ea ec es (md.ext e0) s hsz 0 211 (.inr (.inl ⟨hok,⟨_,.no hA hB⟩,rfl,rfl⟩)) hE))<|sE [(5,.int .i64 0),(6,.int .i64 211)] fun a hF=>tK<|cS<|qP [(18,.bool true)] hF fun a hF=>cT 18 hF<|qS hF ?_
  refine bG 2 (bJ (211:Int) (.slice none 0 0) aC (0:Int) false false (.slice none 0 0) (0:Int) aC (0:Int) (.slice none 0 0)) m6 fun h9 g10 zq=> ?_
  replace m6:=zq
  refine sT [] fun a hF=>cR (yT ?_)
  refine rB m6 hF ?_
  replace e0:=e0.grew g10 (sep.l 0)
  rw[kP hok hf];exact⟨jo _ 211,e0⟩
 ·have hAl:A.length <(A++x::B).length :=zz
  obtain⟨k1,k2,k3,k4⟩:=md.ob x (by simp)
  refine rS hF ?_
  replace m3:=m3.x g5
  refine tO 2 1 m3 ?_
  replace e0:=e0.ext g5
  refine tC 3 (.tuple #[nV A.length,.int .i64 0]) (Does.call (f:=80) (args:= #[pV rb,.string x.o.b.id]) (by kernel_rfl) (dS _ rb M (A++x::B) oa oc ea ec es (md.ext e0) x.o.b.id hsz A.length 0 (.inr (.inr ⟨hok,.yes hA rfl,rfl⟩)) hE))<|sE [(5,nV A.length),(6,.int .i64 0)] fun a hF=>tK<|cS<|qP [(18,.bool false)] hF fun a hF=>cF 18 hF<|cN ?_
  refine tK<|cS ?_
  have hFn:=hF
  obtain⟨ao,rfl,fh⟩:=md.row.1.a6 (by omega)
  have hF:=hFn;clear hFn
  ·refine rS hF<|tO 3 0 (e0.blk hm)<|tI 5 ao ((A++x::B).length) 40 A.length (A.length *40)<|tC 6 (.agg (bl x.o.b x.o.e x.o.ho x.o.go (.slice x.ca 0 x.cc) (.slice x.ba x.o.dt.length x.bc)).toArray) (Calm.load (T:=97) (p:=(Addr.add ao (A.length *40))) (by kernel_rfl) (Row.ro (md.row.1.ext e0) tf (by kernel_rfl) rfl))<|tN 7 (pV h4.size) ((bl aC (0:Int) false false (.slice none 0 0) (.slice none 0 0)).toArray) 97 fun h11 g12 m13=> ?_
   replace sep:=sep.nw e0.size m13
   refine bG 8 (bl x.o.b x.o.e x.o.ho x.o.go (.slice x.ca 0 x.cc) (.slice x.ba x.o.dt.length x.bc)) m13 fun fc g15 zq=> ?_
   replace m13:=zq
   refine sE [(7,pV h4.size)] fun a hF=>tK<|cS<|qS hF ?_
   replace m3:=(m3.x g12).y g15 (sep.bp 2 0)
   refine tO 1 0 m3<|sT [(29,.int .i64 kd)] fun a hF=>cB 0<|qP [(30,.bool (decide (kd=(3:Int))))] hF fun a hF=>cJ 30 hF (fun hc16=> ?_) fun hc16=> ?_
   ·refine qS hF<|tQ 1 0 (rc x.o.b x.o.e x.o.ho x.o.go (.slice x.ca 0 x.cc)) m13<|tG 2 (dR _ x.o.b x.o.e x.o.ho x.o.go (.slice x.ca 0 x.cc)) ?_
    rintro _ h18 ⟨rfl,g17⟩
    replace m6:=((m6.x g12).y g15 (sep.bp 1 0)).x g17
    refine bG 4 (bJ (0:Int) (.slice none 0 0) x.o.b x.o.e x.o.ho x.o.go (.slice none 0 0) (0:Int) aC (0:Int) (.slice none 0 0)) m6 fun h19 g20 zq=> ?_
    replace m6:=zq
    refine sT [] fun a hF=>cR (yB (yT ?_))
    refine rB m6 hF ?_
    replace e0:=(((e0.ext g12).grew g15 (sep.l 0)).ext g17).grew g20 (sep.l 1)
    rw[oZ hok hf hc16];exact⟨iK rfl (Own.nil _ _ _) (Own.nil _ _ _) (Own.nil _ _ _) aB.nil,e0⟩
   ·refine qP [(36,.bool (decide (kd=(16:Int))))] hF fun a hF=>cJ 36 hF (fun hc21=> ?_) fun hc21=> ?_
    ·refine cS<|cD [0,1,0,4,12,31,63,127,127,255,1023] 9 mixed hF<|mP 13 [0,2,3] [pV rb,pV h4.size,.pointer (some ⟨h4.size,34,none⟩)]<|mO 29 16 4 34 (.int .i64 x.o.b.idx) m13 ?_
     replace e0:=(e0.ext g12).grew g15 (sep.l 0)
     refine gA 31 3 1 [4] (Does.call (f:=43) (args:= #[.pointer (some ⟨rb,0,none⟩)]) (by kernel_rfl) (lq _ rb M (A++x::B) _ oc ea ec es (md.ext e0) hE)) ?_
     rintro _ nN ⟨QX,Oc,rfl,bt,MC,g24⟩
     replace sep:=(sep.up g15.size).co g24 MC bt e0.size
     replace m13:=m13.x g24
     refine⟨?_,?_⟩
     ·intro j hj
      simp only[List.mem_cons,List.not_mem_nil,or_false] at hj
      subst hj
      exact aL (Calm.load (T:=3) (p:=⟨h4.size,34,none⟩) (by kernel_rfl) (Loads.one (k:=1) (by kernel_rfl) ((ar m13).trans (rfl))))
     obtain⟨p,hz⟩:=Cj (md.ix _ _ k1)
     refine fW 63 63 5 (CO _ (cH M.E) _ _ M.E.length (HR.of bt (iE _)) (by omega) x.o.b.idx p 0 hz) ?_
     rintro _ h31 ⟨j2,f_,rfl,aE,MD,fp⟩
     replace e0:=e0.ext g24
     replace sep:=sep.co fp MD aE e0.size
     refine mP 2047 [6,7,8,9,10] [.tuple #[.slice j2 p.length f_,.int .i64 0],.slice j2 p.length f_,.int .i64 0,.slice j2 p.length f_,.int .i64 0]<|mE [(8,.slice j2 p.length f_)] fun a hF=>tK<|qS hF ?_
     replace m13:=m13.x fp
     refine tO 2 34 m13 ?_
     replace m6:=(((m6.x g12).y g15 (sep.bp 3 2)).x g24).x fp
     refine bG 5 (bJ (0:Int) (.slice none 0 0) aC (0:Int) false false (.slice none 0 0) (0:Int) aC x.o.b.idx (.slice j2 p.length f_)) m6 fun h32 gM zq=> ?_
     replace m6:=zq
     refine sT [] fun a hF=>cR (yB (yT ?_))
     refine rB m6 hF ?_
     have hpp:(c7 (cH M.E) x.o.b.idx).1 =p:=by rw[hz]
     replace e0:=(e0.ext fp).grew gM (sep.l 3)
     replace aE:=aE.k gM (sep.ap 0 3)
     rw[mW hok hf hc21 hz];exact⟨iK rfl (Own.nil _ _ _) (Own.nil _ _ _) aE (hpp▸qH (iE _) _),e0⟩
    ·refine cN<|bK<|tK<|cS<|qS hF<|tO 2 37 m13<|sT [(54,.bool x.o.go)] fun a hF=> ?_
     refine cC 54 x.o.go hF (fun hc34=> ?_) (fun hc34=> ?_)
     ·have hgo:=hc34
      refine qS hF ?_
      replace m6:=(m6.x g12).y g15 (sep.bp 1 0)
      refine bG 1 (bJ (213:Int) (.slice none 0 0) aC (0:Int) false false (.slice none 0 0) (0:Int) aC (0:Int) (.slice none 0 0)) m6 fun h35 oT zq=> ?_
      replace m6:=zq
      refine sT [] fun a hF=>cR (yT ?_)
      refine rB m6 hF ?_
      replace e0:=((e0.ext g12).grew g15 (sep.l 0)).grew oT (sep.l 1)
      rw[o0 hok hf hc16 hc21 hgo];exact⟨jo _ 213,e0⟩
     ·have hgo:=hc34
      refine cN<|tK<|cS<|qS hF<|tO 1 0 m3<|sT [(58,.bool (decide (kd=(2:Int))))] fun a hF=>cJ 58 hF (fun wJ=> ?_) fun wJ=> ?_
      ·refine qS hF<|tN 0 (.slice (some ⟨fc.size,0,none⟩) 0 0) #[] 5 fun h38 fX FU=> ?_
       replace e0:=(e0.ext g12).grew g15 (sep.l 0)
       replace sep:=(sep.up g15.size).nw e0.size FU
       have aA:Own h38 (.slice (some ⟨fc.size,0,none⟩) 0 0) 5 ([]:List UInt8).length 1 (([]:List UInt8).map bv):=Own.empty 1 FU
       replace sep:Sep h.size h38.size [(some ⟨fc.size,0,none⟩:Option Addr).map (·.block),some (h4.size),some (h1.size),some (h.size)]:=sep
       replace m6:=((m6.x g12).y g15 (sep.bp 2 1)).x fX
       replace e0:=e0.ext fX
       replace m3:=m3.x fX
       replace m13:=m13.x fX
       clear FU
       refine tO 2 39 m13<|tP 3 (0+x.o.dt.length) 1 (x.o.dt.map bv) aA (k4.1.1.ext e0) (aI _) (fun ME IJ h43 aA Hu IK=> ?_)
       have Od:=sep
       replace sep:=sep.sa Hu 0 IK aA e0.size;clear IK
       replace m6:=m6.y Hu (Od.bp 2 0)
       refine bG 5 (bJ (0:Int) (.slice ME (0+x.o.dt.length) IJ) aC (0:Int) false false (.slice none 0 0) (0:Int) aC (0:Int) (.slice none 0 0)) m6 fun h47 g48 zq=> ?_
       replace m6:=zq
       refine sT [] fun a hF=>cR (yT ?_)
       refine rB m6 hF ?_
       replace aA:=aA.k g48 (sep.ap 0 2)
       rw[Nat.zero_add] at aA
       replace e0:=(e0.grew Hu (Od.l 0)).grew g48 (sep.l 2)
       rw[mX hok hf wJ hgo,Nat.zero_add];exact⟨iK rfl aA (Own.nil _ _ _) (Own.nil _ _ _) aB.nil,e0⟩
      ·refine cN<|tK<|qS hF ?_
       replace m6:=(m6.x g12).y g15 (sep.bp 1 0)
       refine bG 1 (bJ (0:Int) (.slice none 0 0) aC (0:Int) false false (.slice none 0 0) (0:Int) aC (0:Int) (.slice none 0 0)) m6 fun FV nS zq=> ?_
       replace m6:=zq
       refine sT [] fun a hF=>cR<|rB m6 hF ?_
       replace e0:=((e0.ext g12).grew g15 (sep.l 0)).grew nS (sep.l 1)
       rw[o5 hok hf hc16 hc21 wJ hgo];exact⟨jo _ 0,e0⟩
end Go.Proofs.YtegkejcglfgpmaaGreatDoor
end
section
namespace Go.Proofs.YtegkejcglfgpmaaGreatDoor
open Go Go.an Go.aT
noncomputable def b18:Code:=Tryz.f18.body.getD .skip
theorem FF{W:Nat→Prop}{h0:Heap}(h:Heap)(rb:Nat)(M:Md)(T:List RO)(oa:Option Addr)(oc:Nat)(ea:Option Addr)(ec:Nat)(es:List Value)(md:bn W h0 rb M T oa oc ea ec es)(va:Option Addr)(vc:Nat)(hr:Row h (.slice va T.length vc) T.length 39 (a_ (T.map iL)))(hE:M.E.length ≤1099511627):Sat Tryz.prog 41 #[.slice va T.length vc,.int .i64 M.t] h fun v h'=>∃ad cap,v= .slice ad (e6 M).length cap∧Own h' (.slice ad (e6 M).length cap) 9 (e6 M).length 1 ((e6 M).map Value.string)∧(∀k,ad.map (fun(x:Addr)=>x.block)=some k→h.size ≤k)∧Ext h h':=by
 have hl:(T.map iL).length =T.length :=List.length_map _
 have hLn:=md.ln
 have:=Al h (T.map iL) va vc M.t (by rw[hl];exact hr) (by rw[hl];omega)
 rw[hl] at this
 exact this.mono fun v h' ⟨S,ad,cap,hp,hs,e,o,hge,g⟩=>by
  have e2:=md.Lf hp hs
  have e3:S.length =(e6 M).length :=by rw[e2];simp[ids]
  rw[←e2,e3] at o
  rw[e3] at e
  exact⟨ad,cap,e,o,hge,g⟩
set_option maxHeartbeats 2000000 in
theorem CQ {W:Nat→Prop}(h:Heap)(rb:Nat)(M:Md)(T:List RO)(oa:Option Addr)(oc:Nat)(ea:Option Addr)(ec:Nat)(es:List Value)(md:bn W h rb M T oa oc ea ec es)(hW:∀k,W k→k<h.size)(kd n:Int)(s:ByteArray)(l:List UInt8)(pa:Option Addr)(pc:Nat)(ka:Option Addr)(kn kc:Nat)(hr:Row h (.slice pa l.length pc) l.length 1 (l.map bv))(hsz:s.size ≤9223372036854775807)(hE:M.E.length ≤1099511627):Sat Tryz.prog 18 #[.pointer (some ⟨rb,0,none⟩),.agg #[.int .i64 kd,.string s,.slice pa l.length pc,.int .i64 n,.slice ka kn kc]] h fun v h'=>AnsAt h' v (step M kd n s l).2 ∧bF W h' rb (step M kd n s l).1 ∧RG rb h h':=by
 have hm:=md.hm
 have hbr:=ag hm
 have hLn:=md.ln
 have e0:=Ext.refl h
 have sep:Sep h.size h.size []:=Sep.nil _ _
 refine ak Tryz.func18 133 fun a hF=>qS hF<|tN 0 (pV h.size) #[.int .i64 kd,.string s,.slice pa l.length pc,.int .i64 n,.slice ka kn kc] 35 fun h1 g2 m3=> ?_
 have oH:=ag m3
 have oI:=e0.size
 replace sep:=sep.nw e0.size m3
 refine tN 1 (pV h1.size) ((bJ (0:Int) (.slice none 0 0) aC (0:Int) false false (.slice none 0 0) (0:Int) aC (0:Int) (.slice none 0 0)).toArray) 47 fun h6 g7 m8=> ?_
 have D9:=ag m8
 replace e0:=e0.ext g2
 have qt:=e0.size
 replace sep:=sep.nw e0.size m8
 refine sT [(3,pV h.size),(4,pV h1.size)] fun a hF=>cS<|qS hF ?_
 replace m3:=m3.x g7
 refine tO 1 0 m3<|sT [(9,.int .i64 kd)] fun a hF=>cB 0<|qP [(11,.bool (decide (kd=(1:Int))))] hF fun a hF=>cJ 11 hF (fun iR=> ?_) fun iR=> ?_
 ·refine qS hF<|tO 2 1 m3<|tO 4 2 m3 ?_
  replace e0:=e0.ext g7
  refine tG 5 (Ak _ rb M T oa oc ea ec es (md.ext e0) (fun k hk=>Nat.lt_of_lt_of_le (hW k hk) e0.size) s hsz l pa pc (hr.ext e0) hE) ?_
  rintro _ h12 ⟨rfl,hmod,gm⟩
  have gk:RG rb h h12:=(RG.aS e0).then gm
  replace m8:h12[h1.size]? =_:=(gm.2 _ (ag m8) (by omega)).trans m8
  replace sep:=sep.up gm.1
  refine bG 7 (bJ ((eG M s l).2) (.slice none 0 0) aC (0:Int) false false (.slice none 0 0) (0:Int) aC (0:Int) (.slice none 0 0)) m8 fun h13 g14 zq=> ?_
  replace hmod:=hmod.bE g14 m8 (by decide) (by omega)
  replace m8:=zq
  refine sT [] fun a hF=>cR (yB (yT ?_))
  refine rB m8 hF ?_
  replace gk:=gk.ct g14 (fun x e=> .inr (by cases e;omega))
  rw[j5 iR];exact⟨jo _ _,hmod,gk⟩
 ·refine cS<|qP [(20,.bool (decide (kd=(4:Int))))] hF fun a hF=>cJ 20 hF (fun kT=> ?_) fun kT=> ?_
  ·refine cN<|tK<|cJ 20 hF (fun hx16=> ?_) fun hx16=>absurd kT hx16
   refine qS hF<|tR 1 m3 ?_
   replace e0:=e0.ext g7
   refine tG 2 (ik _ rb M T oa oc ea ec es (md.ext e0) kd n s pa l.length pc ka kn kc hsz hE) ?_
   rintro _ h17 ⟨rfl,hmod,gm⟩
   have gk:RG rb h h17:=(RG.aS e0).then gm
   replace m8:h17[h1.size]? =_:=(gm.2 _ (ag m8) (by omega)).trans m8
   replace sep:=sep.up gm.1
   refine bG 4 (bJ ((iZ M kd n s).2) (.slice none 0 0) aC (0:Int) false false (.slice none 0 0) (0:Int) aC (0:Int) (.slice none 0 0)) m8 fun h18 g19 zq=> ?_
   replace hmod:=hmod.bE g19 m8 (by decide) (by omega)
   replace m8:=zq
   refine sT [] fun a hF=>cR (yB (yT ?_))
   refine rB m8 hF ?_
   replace gk:=gk.ct g19 (fun x e=> .inr (by cases e;omega))
   rw[fG (by omega)];exact⟨jo _ _,hmod,gk⟩
  ·refine qP [(20,.bool (decide (kd=(5:Int))))] hF fun a hF=>cJ 20 hF (fun IL=> ?_) fun IL=> ?_
   ·refine cN<|tK<|cJ 20 hF (fun IM=> ?_) fun IM=>absurd IL IM
    refine qS hF<|tR 1 m3 ?_
    replace e0:=e0.ext g7
    refine tG 2 (ik _ rb M T oa oc ea ec es (md.ext e0) kd n s pa l.length pc ka kn kc hsz hE) ?_
    rintro _ h22 ⟨rfl,hmod,gm⟩
    have gk:RG rb h h22:=(RG.aS e0).then gm
    replace m8:h22[h1.size]? =_:=(gm.2 _ (ag m8) (by omega)).trans m8
    replace sep:=sep.up gm.1
    refine bG 4 (bJ ((iZ M kd n s).2) (.slice none 0 0) aC (0:Int) false false (.slice none 0 0) (0:Int) aC (0:Int) (.slice none 0 0)) m8 fun h23 g24 zq=> ?_
    replace hmod:=hmod.bE g24 m8 (by decide) (by omega)
    replace m8:=zq
    refine sT [] fun a hF=>cR (yB (yT ?_))
    refine rB m8 hF ?_
    replace gk:=gk.ct g24 (fun x e=> .inr (by cases e;omega))
    rw[fG (by omega)];exact⟨jo _ _,hmod,gk⟩
   ·refine rP [(20,.bool (decide (kd=(6:Int))))] hF fun a hF=>tK<|cJ 20 hF (fun hc25=> ?_) fun hc25=> ?_
    ·refine qS hF<|tR 1 m3 ?_
     replace e0:=e0.ext g7
     refine tG 2 (ik _ rb M T oa oc ea ec es (md.ext e0) kd n s pa l.length pc ka kn kc hsz hE) ?_
     rintro _ nN ⟨rfl,hmod,gm⟩
     have gk:RG rb h nN:=(RG.aS e0).then gm
     replace m8:nN[h1.size]? =_:=(gm.2 _ (ag m8) (by omega)).trans m8
     replace sep:=sep.up gm.1
     refine bG 4 (bJ ((iZ M kd n s).2) (.slice none 0 0) aC (0:Int) false false (.slice none 0 0) (0:Int) aC (0:Int) (.slice none 0 0)) m8 fun h27 fe zq=> ?_
     replace hmod:=hmod.bE fe m8 (by decide) (by omega)
     replace m8:=zq
     refine sT [] fun a hF=>cR (yB (yT ?_))
     refine rB m8 hF ?_
     replace gk:=gk.ct fe (fun x e=> .inr (by cases e;omega))
     rw[fG (by omega)];exact⟨jo _ _,hmod,gk⟩
    ·refine cS<|qP [(28,.bool (decide (kd=(2:Int))))] hF fun a hF=>cJ 28 hF (fun hc29=> ?_) fun hc29=> ?_
     ·refine cN<|tK<|cJ 28 hF (fun IN=> ?_) fun IN=>absurd hc29 IN
      refine qS hF<|tR 1 m3 ?_
      obtain⟨A,hA⟩:∃A,dy M kd s=A:=⟨_,rfl⟩
      replace e0:=e0.ext g7
      refine tG 2 (ko _ rb M T oa oc ea ec es (md.ext e0) kd n s pa l.length pc ka kn kc hsz hE A hA) ?_
      rintro _ h31 ⟨⟨qa,qc,ia,ic,pe,pc2,rfl,r1,r2,r3,r4⟩,g⟩
      replace e0:=e0.ext g
      replace m3:=m3.x g
      replace m8:=m8.x g
      replace sep:=sep.up g.size
      clear g
      refine bG 3 (bJ A.c (.slice qa A.b.length qc) A.sx A.se A.sh A.sg (.slice ia A.i.length ic) A.n A.y A.k (.slice pe A.p.length pc2)) m8 fun h32 gM zq=> ?_
      replace r1:=r1.bE gM m8 (by decide)
      replace r2:=r2.bE gM m8 (by decide)
      replace r3:=r3.bE gM m8 (by decide)
      replace m8:=zq
      refine sT [] fun a hF=>cR (yB (yT ?_))
      refine rB m8 hF ?_
      replace e0:=e0.grew gM (sep.l 0)
      rw[dq (by omega),hA];exact⟨⟨_,_,_,_,_,_,rfl,r1,r2,r3,r4⟩,⟨_,_,_,_,_,_,md.ext e0⟩,RG.aS e0⟩
     ·refine qP [(28,.bool (decide (kd=(3:Int))))] hF fun a hF=>cJ 28 hF (fun hc34=> ?_) fun hc34=> ?_
      ·refine cN<|tK<|cJ 28 hF (fun IP=> ?_) fun IP=>absurd hc34 IP
       refine qS hF<|tR 1 m3 ?_
       obtain⟨A,hA⟩:∃A,dy M kd s=A:=⟨_,rfl⟩
       replace e0:=e0.ext g7
       refine tG 2 (ko _ rb M T oa oc ea ec es (md.ext e0) kd n s pa l.length pc ka kn kc hsz hE A hA) ?_
       rintro _ Ga ⟨⟨qa,qc,ia,ic,pe,pc2,rfl,r1,r2,r3,r4⟩,g⟩
       replace e0:=e0.ext g
       replace m3:=m3.x g
       replace m8:=m8.x g
       replace sep:=sep.up g.size
       clear g
       refine bG 3 (bJ A.c (.slice qa A.b.length qc) A.sx A.se A.sh A.sg (.slice ia A.i.length ic) A.n A.y A.k (.slice pe A.p.length pc2)) m8 fun h37 lz zq=> ?_
       replace r1:=r1.bE lz m8 (by decide)
       replace r2:=r2.bE lz m8 (by decide)
       replace r3:=r3.bE lz m8 (by decide)
       replace m8:=zq
       refine sT [] fun a hF=>cR (yB (yT ?_))
       refine rB m8 hF ?_
       replace e0:=e0.grew lz (sep.l 0)
       rw[dq (by omega),hA];exact⟨⟨_,_,_,_,_,_,rfl,r1,r2,r3,r4⟩,⟨_,_,_,_,_,_,md.ext e0⟩,RG.aS e0⟩
      ·refine qP [(28,.bool (decide (kd=(16:Int))))] hF fun a hF=>cJ 28 hF (fun hc39=> ?_) fun hc39=> ?_
       ·refine cN<|tK<|cJ 28 hF (fun IQ=> ?_) fun IQ=>absurd hc39 IQ
        refine qS hF<|tR 1 m3 ?_
        obtain⟨A,hA⟩:∃A,dy M kd s=A:=⟨_,rfl⟩
        replace e0:=e0.ext g7
        refine tG 2 (ko _ rb M T oa oc ea ec es (md.ext e0) kd n s pa l.length pc ka kn kc hsz hE A hA) ?_
        rintro _ uE ⟨⟨qa,qc,ia,ic,pe,pc2,rfl,r1,r2,r3,r4⟩,g⟩
        replace e0:=e0.ext g
        replace m3:=m3.x g
        replace m8:=m8.x g
        replace sep:=sep.up g.size
        clear g
        refine bG 3 (bJ A.c (.slice qa A.b.length qc) A.sx A.se A.sh A.sg (.slice ia A.i.length ic) A.n A.y A.k (.slice pe A.p.length pc2)) m8 fun h42 ly zq=> ?_
        replace r1:=r1.bE ly m8 (by decide)
        replace r2:=r2.bE ly m8 (by decide)
        replace r3:=r3.bE ly m8 (by decide)
        replace m8:=zq
        refine sT [] fun a hF=>cR (yB (yT ?_))
        refine rB m8 hF ?_
        replace e0:=e0.grew ly (sep.l 0)
        rw[dq (by omega),hA];exact⟨⟨_,_,_,_,_,_,rfl,r1,r2,r3,r4⟩,⟨_,_,_,_,_,_,md.ext e0⟩,RG.aS e0⟩
       ·refine rP [(28,.bool (decide (kd=(15:Int))))] hF fun a hF=>tK<|cJ 28 hF (fun MF=> ?_) fun MF=> ?_
        ·refine qS hF<|tR 1 m3 ?_
         obtain⟨A,hA⟩:∃A,dy M kd s=A:=⟨_,rfl⟩
         replace e0:=e0.ext g7
         refine tG 2 (ko _ rb M T oa oc ea ec es (md.ext e0) kd n s pa l.length pc ka kn kc hsz hE A hA) ?_
         rintro _ h45 ⟨⟨qa,qc,ia,ic,pe,pc2,rfl,r1,r2,r3,r4⟩,g⟩
         replace e0:=e0.ext g
         replace m3:=m3.x g
         replace m8:=m8.x g
         replace sep:=sep.up g.size
         clear g
         refine bG 3 (bJ A.c (.slice qa A.b.length qc) A.sx A.se A.sh A.sg (.slice ia A.i.length ic) A.n A.y A.k (.slice pe A.p.length pc2)) m8 fun h46 g47 zq=> ?_
         replace r1:=r1.bE g47 m8 (by decide)
         replace r2:=r2.bE g47 m8 (by decide)
         replace r3:=r3.bE g47 m8 (by decide)
         replace m8:=zq
         refine sT [] fun a hF=>cR (yB (yT ?_))
         refine rB m8 hF ?_
         replace e0:=e0.grew g47 (sep.l 0)
         rw[dq (by omega),hA];exact⟨⟨_,_,_,_,_,_,rfl,r1,r2,r3,r4⟩,⟨_,_,_,_,_,_,md.ext e0⟩,RG.aS e0⟩
        ·refine cS<|qP [(36,.bool (decide (kd=(7:Int))))] hF fun a hF=>cJ 36 hF (fun FG=> ?_) fun FG=> ?_
         ·refine cN<|tK<|cJ 36 hF (fun IS=> ?_) fun IS=>absurd FG IS
          refine qS hF<|tN 0 (.slice (some ⟨h6.size,0,none⟩) 0 0) #[] 9 fun h50 qf JN=> ?_
          have MH:=ag JN
          replace e0:=e0.ext g7
          have MI:=e0.size
          replace sep:=sep.nw e0.size JN
          have bR:Own h50 (.slice (some ⟨h6.size,0,none⟩) 0 0) 9 ([]:List ByteArray).length 1 (([]:List ByteArray).map Value.string):=Own.empty 1 JN
          replace sep:Sep h.size h50.size [(some ⟨h6.size,0,none⟩:Option Addr).map (·.block),some (h1.size),some (h.size)]:=sep
          replace e0:=e0.ext qf
          replace m3:=m3.x qf
          replace m8:=m8.x qf
          clear JN MH MI
          refine sT [(5,.slice (some ⟨h6.size,0,none⟩) 0 0)] fun a hF=>qS hF<|tN 0 (.slice (some ⟨h50.size,0,none⟩) 0 0) #[] 95 fun E5 A1 JO=> ?_
          have MJ:=ag JO
          have MK:=e0.size
          replace sep:=sep.nw e0.size JO
          have bZ:Own E5 (.slice (some ⟨h50.size,0,none⟩) 0 0) 95 ([]:List Rec).length 39 (a_ []):=Own.empty 39 JO
          replace sep:Sep h.size E5.size [(some ⟨h50.size,0,none⟩:Option Addr).map (·.block),(some ⟨h6.size,0,none⟩:Option Addr).map (·.block),some (h1.size),some (h.size)]:=sep
          replace e0:=e0.ext A1
          replace bR:=bR.ext A1
          replace m3:=m3.x A1
          replace m8:=m8.x A1
          clear JO MJ MK
          refine sT [(6,.slice (some ⟨h50.size,0,none⟩) 0 0)] fun a hF=>cS<|qP [(7,.int .i64 0)] hF fun a hF=>cB 1<|cL (fun m a h'=>∃k:Nat,∃ni:Nat,∃ia:Option Addr,∃ic:Nat,∃ra:Option Addr,∃rd:Nat,m=T.length - k∧(Ext h h')∧(h'[h.size]? =some (.cells #[.int .i64 kd,.string s,.slice pa l.length pc,.int .i64 n,.slice ka kn kc] 35))∧(h'[h1.size]? =some (.cells (bJ (0:Int) (.slice none 0 0) aC (0:Int) false false (.slice none 0 0) (0:Int) aC (0:Int) (.slice none 0 0)).toArray 47))∧(k≤T.length)∧((live ((T.take k).map iL)).length =ni)∧(ni≤k)∧(Own h' (.slice ia ni ic) 9 ni 1 ((live ((T.take k).map iL)).map Value.string))∧(Own h' (.slice ra k rd) 95 k 39 (a_ ((T.take k).map iL)))∧(Sep h.size h'.size [ra.map (·.block),ia.map (·.block),some (h1.size),some (h.size)])∧(Fr a 133 [(0,.pointer (some ⟨rb,0,none⟩)),(3,.pointer (some ⟨h.size,0,none⟩)),(4,.pointer (some ⟨h1.size,0,none⟩)),(5,.slice ia ni ic),(6,.slice ra k rd),(7,.int .i64 ((k:Nat):Int))])) (T.length - 0) ⟨0,0,(some ⟨h6.size,0,none⟩),0,(some ⟨h50.size,0,none⟩),0,rfl,e0,m3,m8,(Nat.zero_le _),rfl,(Nat.le_refl _),bR,bZ,sep,hF.to⟩ ?_
          clear hF a
          clear e0
          clear m3
          clear m8
          clear bR
          clear bZ
          clear sep
          rintro m a h60 ⟨k,ni,ia,ic,ra,rd,rfl,e0,m3,m8,hk,hni,hnk,bR,bZ,sep,hF⟩
          refine cS<|qS hF<|tO 4 0 (e0.blk hm)<|sT [(47,.bool (decide (((k:Nat):Int)<((T.length :Nat):Int))))] fun a hF=>cJ 47 hF (fun ML=> ?_) fun ML=> ?_
          ·have hkn:k<T.length :=by omega
           obtain⟨x,hx⟩:∃x,T[k]? =some x:=⟨_,List.getElem?_eq_getElem hkn⟩
           have hFn:=hF
           obtain⟨ao,rfl,fh⟩:=md.row.1.a6 (by omega)
           have hF:=hFn;clear hFn
           refine cN<|tK<|cS<|cB 2<|qS hF<|tO 4 0 (e0.blk hm)<|tI 6 ao T.length 40 k (k*40) ?_
           refine t1 7 (.pointer (some (Addr.add ao (k*40)))) (.pointer (some ((Addr.add ao (k*40)).add 0))) (by rw[add_add,Nat.add_zero])<|tC 8 (.agg (rc x.o.b x.o.e x.o.ho x.o.go (.slice x.ca 0 x.cc)).toArray) (Calm.load (T:=95) (p:=(Addr.add ao (k*40))) (by kernel_rfl) (Row.Jz (md.row.1.ext e0) hx (by kernel_rfl) rfl))<|tN 9 (.slice (some ⟨h60.size,0,none⟩) 1 1) ((rc x.o.b x.o.e x.o.ho x.o.go (.slice x.ca 0 x.cc)).toArray) 95 fun Bf k8 m64=> ?_
           have IT:=ag m64
           have IU:=e0.size
           replace sep:=sep.nw e0.size m64
           replace bZ:=bZ.ext k8
           refine tP 10 (k+1) 104 (a_ (((T.take k).map iL)++[iL x])) bZ (Row.Dv (x:=x) m64) (d_ _) (fun Aq Ar EH bZ iF IV=> ?_) (ys:=(a_ ([iL x]))) (hZ:=by first|rfl|exact List.flatMap_append.symm |simp[a_])
           replace e0:=e0.ext k8
           have s72:=sep
           replace sep:=sep.sa iF 1 IV bZ e0.size;clear IV
           refine sT [(6,.slice Aq (k+1) Ar)] fun a hF=>qS hF ?_
           replace e0:=e0.grew iF (s72.l 1)
           refine tO 3 0 (e0.blk hm)<|tI 5 ao T.length 40 k (k*40)<|t1 6 (.pointer (some (Addr.add ao (k*40)))) (.pointer (some ((Addr.add ao (k*40)).add 0))) (by rw[add_add,Nat.add_zero])<|t1 7 (.pointer (some (Addr.add ao ((k*40)+37)))) (.pointer (some ((Addr.add ao (k*40)).add 37))) (by rw[add_add])<|tC 8 (.bool x.o.go) (Calm.load (T:=4) (p:=(Addr.add ao ((k*40)+37))) (by kernel_rfl) (Loads.one (k:=1) (by kernel_rfl) (Row.Hm (md.row.1.ext e0) hx)))<|sT [(70,.bool (!x.o.go))] fun a hF=>cC 70 (!x.o.go) hF (fun FH=> ?_) (fun FH=> ?_)
           ·have hgo:x.o.go =false:=by simpa using FH
            refine rS hF<|tO 4 0 (e0.blk hm)<|tI 6 ao T.length 40 k (k*40)<|t1 7 (.pointer (some (Addr.add ao (k*40)))) (.pointer (some ((Addr.add ao (k*40)).add 0))) (by rw[add_add,Nat.add_zero])<|t1 8 (.pointer (some (Addr.add ao (k*40)))) (.pointer (some ((Addr.add ao (k*40)).add 0))) (by rw[add_add,Nat.add_zero])<|tC 9 (.string x.o.b.id) (Calm.load (T:=9) (p:=(Addr.add ao (k*40))) (by kernel_rfl) (Loads.one (k:=1) (by kernel_rfl) (Row.zA (md.row.1.ext e0) hx)))<|tN 10 (.slice (some ⟨EH.size,0,none⟩) 1 1) #[.string x.o.b.id] 9 fun Je n3 Dd=> ?_
            have Ee:=ag Dd
            have Ef:=e0.size
            replace sep:=sep.nw e0.size Dd
            replace bR:=((bR.ext k8).k iF (s72.ap 2 1)).ext n3
            refine tP 11 (ni+1) 16 (((live ((T.take k).map iL))++[x.o.b.id]).map Value.string) bR (Row.blk (n:=1) (sz:=1) (l:=[.string x.o.b.id]) Dd rfl) (List.all_eq_true.1 (by rfl)) (fun FI DM NY bR k_ vI=> ?_) (ys:=(([x.o.b.id]).map Value.string))
            replace e0:=e0.ext n3
            have JP:=sep
            replace sep:=sep.sa k_ 3 vI bR e0.size;clear vI
            refine sE [(5,.slice FI (ni+1) DM)] fun a hF=>bK<|tK<|rS hF<|tA 1 k 1<|sE [(7,nV (k+1))] fun a hF=> ?_
            clear m64 IT IU
            clear Dd Ee Ef
            replace m3:=(((m3.x k8).y iF (s72.bp 4 1)).x n3).y k_ (JP.bp 5 3)
            replace m8:=(((m8.x k8).y iF (s72.bp 3 1)).x n3).y k_ (JP.bp 4 3)
            replace bZ:=(bZ.ext n3).k k_ (JP.ap 2 3)
            replace e0:=e0.grew k_ (JP.l 3)
            replace sep:=sep.sub (l':=[Aq.map (·.block),FI.map (·.block),some (h1.size),some (h.size)]) (.cons _ (.cons _ (.cons_cons _ (.cons_cons _ (.cons_cons _ (.cons_cons _ (.slnil)))))))
            rw[←iM hx] at bZ
            rw[←iO hx hgo] at bR
            have p5:=congrArg List.length (iO hx hgo)
            rw[List.length_append,hni] at p5
            show ∃m',m'<_∧_
            refine⟨_,?_,(k+1),(ni+1),FI,DM,Aq,Ar,rfl,e0,m3,m8,(by omega),p5,(by omega),bR,bZ,sep,hF.to⟩
            omega
           ·have hgo:x.o.go =true:=by simpa using FH
            refine cN<|bK<|tK<|rS hF<|tA 1 k 1<|sE [(7,nV (k+1))] fun a hF=> ?_
            clear m64 IT IU
            replace bR:=(bR.ext k8).k iF (s72.ap 2 1)
            replace m3:=(m3.x k8).y iF (s72.bp 4 1)
            replace m8:=(m8.x k8).y iF (s72.bp 3 1)
            replace sep:=sep.sub (l':=[Aq.map (·.block),ia.map (·.block),some (h1.size),some (h.size)]) (.cons _ (.cons_cons _ (.cons_cons _ (.cons_cons _ (.cons_cons _ (.slnil))))))
            rw[←iM hx] at bZ
            rw[←iN hx hgo] at bR
            have p5:=(congrArg List.length (iN hx hgo)).trans hni
            show ∃m',m'<_∧_
            refine⟨_,?_,(k+1),ni,ia,ic,Aq,Ar,rfl,e0,m3,m8,(by omega),p5,(by omega),bR,bZ,sep,hF.to⟩
            omega
          ·refine cX 1 (xT (xT (xB ?_)))
           refine tK<|cS<|cS ?_
           obtain rfl:k=T.length :=by omega
           rw[List.take_length] at bZ bR hni
           have hTl:(T.map iL).length =T.length :=List.length_map _
           ·refine rS hF<|tO 1 0 m3<|eF 2 kd 8<|sE [(85,.bool false)] fun a hF=>tK<|cF 85 hF<|cN ?_
            refine tK<|qS hF<|bG 2 (bJ (0:Int) (.slice none 0 0) aC (0:Int) false false (.slice ia ni ic) (0:Int) aC (0:Int) (.slice none 0 0)) m8 fun Jg qw zq=> ?_
            replace m8:=zq
            refine sT [] fun a hF=>cR (yB (yT ?_))
            refine rB m8 hF ?_
            replace e0:=e0.grew qw (sep.l 2)
            replace bR:=bR.k qw (sep.ap 1 2)
            rw[q7 FG,md.Le];rw[←hni] at bR⊢;exact⟨iK rfl (Own.nil _ _ _) bR (Own.nil _ _ _) aB.nil,⟨_,_,_,_,_,_,md.ext e0⟩,RG.aS e0⟩
         ·refine rP [(36,.bool (decide (kd=(8:Int))))] hF fun a hF=>tK<|cJ 36 hF (fun IW=> ?_) fun IW=> ?_
          ·refine qS hF<|tN 0 (.slice (some ⟨h6.size,0,none⟩) 0 0) #[] 9 fun FJ MM JQ=> ?_
           have MN:=ag JQ
           replace e0:=e0.ext g7
           have Fv:=e0.size
           replace sep:=sep.nw e0.size JQ
           have bR:Own FJ (.slice (some ⟨h6.size,0,none⟩) 0 0) 9 ([]:List ByteArray).length 1 (([]:List ByteArray).map Value.string):=Own.empty 1 JQ
           replace sep:Sep h.size FJ.size [(some ⟨h6.size,0,none⟩:Option Addr).map (·.block),some (h1.size),some (h.size)]:=sep
           replace e0:=e0.ext MM
           replace m3:=m3.x MM
           replace m8:=m8.x MM
           clear JQ MN Fv
           refine sT [(5,.slice (some ⟨h6.size,0,none⟩) 0 0)] fun a hF=>qS hF<|tN 0 (.slice (some ⟨FJ.size,0,none⟩) 0 0) #[] 95 fun F2 As JR=> ?_
           have MO:=ag JR
           have MP:=e0.size
           replace sep:=sep.nw e0.size JR
           have bZ:Own F2 (.slice (some ⟨FJ.size,0,none⟩) 0 0) 95 ([]:List Rec).length 39 (a_ []):=Own.empty 39 JR
           replace sep:Sep h.size F2.size [(some ⟨FJ.size,0,none⟩:Option Addr).map (·.block),(some ⟨h6.size,0,none⟩:Option Addr).map (·.block),some (h1.size),some (h.size)]:=sep
           replace e0:=e0.ext As
           replace bR:=bR.ext As
           replace m3:=m3.x As
           replace m8:=m8.x As
           clear JR MO MP
           refine sT [(6,.slice (some ⟨FJ.size,0,none⟩) 0 0)] fun a hF=>cS<|qP [(7,.int .i64 0)] hF fun a hF=>cB 1<|cL (fun m a h'=>∃k:Nat,∃ni:Nat,∃ia:Option Addr,∃ic:Nat,∃ra:Option Addr,∃rd:Nat,m=T.length - k∧(Ext h h')∧(h'[h.size]? =some (.cells #[.int .i64 kd,.string s,.slice pa l.length pc,.int .i64 n,.slice ka kn kc] 35))∧(h'[h1.size]? =some (.cells (bJ (0:Int) (.slice none 0 0) aC (0:Int) false false (.slice none 0 0) (0:Int) aC (0:Int) (.slice none 0 0)).toArray 47))∧(k≤T.length)∧((live ((T.take k).map iL)).length =ni)∧(ni≤k)∧(Own h' (.slice ia ni ic) 9 ni 1 ((live ((T.take k).map iL)).map Value.string))∧(Own h' (.slice ra k rd) 95 k 39 (a_ ((T.take k).map iL)))∧(Sep h.size h'.size [ra.map (·.block),ia.map (·.block),some (h1.size),some (h.size)])∧(Fr a 133 [(0,.pointer (some ⟨rb,0,none⟩)),(3,.pointer (some ⟨h.size,0,none⟩)),(4,.pointer (some ⟨h1.size,0,none⟩)),(5,.slice ia ni ic),(6,.slice ra k rd),(7,.int .i64 ((k:Nat):Int))])) (T.length - 0) ⟨0,0,(some ⟨h6.size,0,none⟩),0,(some ⟨FJ.size,0,none⟩),0,rfl,e0,m3,m8,(Nat.zero_le _),rfl,(Nat.le_refl _),bR,bZ,sep,hF.to⟩ ?_
           clear hF a
           clear e0
           clear m3
           clear m8
           clear bR
           clear bZ
           clear sep
           rintro m a NC ⟨k,ni,ia,ic,ra,rd,rfl,e0,m3,m8,hk,hni,hnk,bR,bZ,sep,hF⟩
           refine cS<|qS hF<|tO 4 0 (e0.blk hm)<|sT [(47,.bool (decide (((k:Nat):Int)<((T.length :Nat):Int))))] fun a hF=>cJ 47 hF (fun hc99=> ?_) fun hc99=> ?_
           ·have hkn:k<T.length :=by omega
            obtain⟨x,hx⟩:∃x,T[k]? =some x:=⟨_,List.getElem?_eq_getElem hkn⟩
            have hFn:=hF
            obtain⟨ao,rfl,fh⟩:=md.row.1.a6 (by omega)
            have hF:=hFn;clear hFn
            refine cN<|tK<|cS<|cB 2<|qS hF<|tO 4 0 (e0.blk hm)<|tI 6 ao T.length 40 k (k*40) ?_
            refine t1 7 (.pointer (some (Addr.add ao (k*40)))) (.pointer (some ((Addr.add ao (k*40)).add 0))) (by rw[add_add,Nat.add_zero])<|tC 8 (.agg (rc x.o.b x.o.e x.o.ho x.o.go (.slice x.ca 0 x.cc)).toArray) (Calm.load (T:=95) (p:=(Addr.add ao (k*40))) (by kernel_rfl) (Row.Jz (md.row.1.ext e0) hx (by kernel_rfl) rfl))<|tN 9 (.slice (some ⟨NC.size,0,none⟩) 1 1) ((rc x.o.b x.o.e x.o.ho x.o.go (.slice x.ca 0 x.cc)).toArray) 95 fun QY rW Au=> ?_
            have DN:=ag Au
            have DO:=e0.size
            replace sep:=sep.nw e0.size Au
            replace bZ:=bZ.ext rW
            refine tP 10 (k+1) 104 (a_ (((T.take k).map iL)++[iL x])) bZ (Row.Dv (x:=x) Au) (d_ _) (fun rX ug Ek bZ fx DP=> ?_) (ys:=(a_ ([iL x]))) (hZ:=by first|rfl|exact List.flatMap_append.symm |simp[a_])
            replace e0:=e0.ext rW
            have uh:=sep
            replace sep:=sep.sa fx 1 DP bZ e0.size;clear DP
            refine sT [(6,.slice rX (k+1) ug)] fun a hF=>qS hF ?_
            replace e0:=e0.grew fx (uh.l 1)
            refine tO 3 0 (e0.blk hm)<|tI 5 ao T.length 40 k (k*40)<|t1 6 (.pointer (some (Addr.add ao (k*40)))) (.pointer (some ((Addr.add ao (k*40)).add 0))) (by rw[add_add,Nat.add_zero])<|t1 7 (.pointer (some (Addr.add ao ((k*40)+37)))) (.pointer (some ((Addr.add ao (k*40)).add 37))) (by rw[add_add])<|tC 8 (.bool x.o.go) (Calm.load (T:=4) (p:=(Addr.add ao ((k*40)+37))) (by kernel_rfl) (Loads.one (k:=1) (by kernel_rfl) (Row.Hm (md.row.1.ext e0) hx)))<|sT [(70,.bool (!x.o.go))] fun a hF=>cC 70 (!x.o.go) hF (fun Av=> ?_) (fun Av=> ?_)
            ·have hgo:x.o.go =false:=by simpa using Av
             refine rS hF<|tO 4 0 (e0.blk hm)<|tI 6 ao T.length 40 k (k*40)<|t1 7 (.pointer (some (Addr.add ao (k*40)))) (.pointer (some ((Addr.add ao (k*40)).add 0))) (by rw[add_add,Nat.add_zero])<|t1 8 (.pointer (some (Addr.add ao (k*40)))) (.pointer (some ((Addr.add ao (k*40)).add 0))) (by rw[add_add,Nat.add_zero])<|tC 9 (.string x.o.b.id) (Calm.load (T:=9) (p:=(Addr.add ao (k*40))) (by kernel_rfl) (Loads.one (k:=1) (by kernel_rfl) (Row.zA (md.row.1.ext e0) hx)))<|tN 10 (.slice (some ⟨Ek.size,0,none⟩) 1 1) #[.string x.o.b.id] 9 fun h112 mM CR=> ?_
             have IX:=ag CR
             have Af:=e0.size
             replace sep:=sep.nw e0.size CR
             replace bR:=((bR.ext rW).k fx (uh.ap 2 1)).ext mM
             refine tP 11 (ni+1) 16 (((live ((T.take k).map iL))++[x.o.b.id]).map Value.string) bR (Row.blk (n:=1) (sz:=1) (l:=[.string x.o.b.id]) CR rfl) (List.all_eq_true.1 (by rfl)) (fun Aw Ax h119 bR Ay DQ=> ?_) (ys:=(([x.o.b.id]).map Value.string))
             replace e0:=e0.ext mM
             have CS:=sep
             replace sep:=sep.sa Ay 3 DQ bR e0.size;clear DQ
             refine sE [(5,.slice Aw (ni+1) Ax)] fun a hF=>bK<|tK<|rS hF<|tA 1 k 1<|sE [(7,nV (k+1))] fun a hF=> ?_
             clear Au DN DO
             clear CR IX Af
             replace m3:=(((m3.x rW).y fx (uh.bp 4 1)).x mM).y Ay (CS.bp 5 3)
             replace m8:=(((m8.x rW).y fx (uh.bp 3 1)).x mM).y Ay (CS.bp 4 3)
             replace bZ:=(bZ.ext mM).k Ay (CS.ap 2 3)
             replace e0:=e0.grew Ay (CS.l 3)
             replace sep:=sep.sub (l':=[rX.map (·.block),Aw.map (·.block),some (h1.size),some (h.size)]) (.cons _ (.cons _ (.cons_cons _ (.cons_cons _ (.cons_cons _ (.cons_cons _ (.slnil)))))))
             rw[←iM hx] at bZ
             rw[←iO hx hgo] at bR
             have p5:=congrArg List.length (iO hx hgo)
             rw[List.length_append,hni] at p5
             show ∃m',m'<_∧_
             refine⟨_,?_,(k+1),(ni+1),Aw,Ax,rX,ug,rfl,e0,m3,m8,(by omega),p5,(by omega),bR,bZ,sep,hF.to⟩
             omega
            ·have hgo:x.o.go =true:=by simpa using Av
             refine cN<|bK<|tK<|rS hF<|tA 1 k 1<|sE [(7,nV (k+1))] fun a hF=> ?_
             clear Au DN DO
             replace bR:=(bR.ext rW).k fx (uh.ap 2 1)
             replace m3:=(m3.x rW).y fx (uh.bp 4 1)
             replace m8:=(m8.x rW).y fx (uh.bp 3 1)
             replace sep:=sep.sub (l':=[rX.map (·.block),ia.map (·.block),some (h1.size),some (h.size)]) (.cons _ (.cons_cons _ (.cons_cons _ (.cons_cons _ (.cons_cons _ (.slnil))))))
             rw[←iM hx] at bZ
             rw[←iN hx hgo] at bR
             have p5:=(congrArg List.length (iN hx hgo)).trans hni
             show ∃m',m'<_∧_
             refine⟨_,?_,(k+1),ni,ia,ic,rX,ug,rfl,e0,m3,m8,(by omega),p5,(by omega),bR,bZ,sep,hF.to⟩
             omega
           ·refine cX 1 (xT (xT (xB ?_)))
            refine tK<|cS<|cS ?_
            obtain rfl:k=T.length :=by omega
            rw[List.take_length] at bZ bR hni
            have hTl:(T.map iL).length =T.length :=List.length_map _
            ·refine rS hF<|tO 1 0 m3<|eT 2 kd 8<|sE [(85,.bool true)] fun a hF=>tK<|cT 85 hF<|rS hF ?_
             refine tO 4 2 (e0.blk hm)<|tG 5 (FF _ rb M T oa oc ea ec es md ra rd bZ.row hE) ?_
             rintro _ CT ⟨Az,AA,rfl,aq,hge,g⟩
             have hlo:=e0.size
             have a7:=sep
             replace e0:=e0.ext g
             replace bR:=bR.ext g
             replace bZ:=bZ.ext g
             replace m3:=m3.x g
             replace m8:=m8.x g
             replace sep:=sep.up g.size
             replace sep:=a7.cons (x:=Az.map (fun(x:Addr)=>x.block)) g.size hlo (fun k e=>⟨hge k e,aq.lt (by rw[aj];exact e)⟩)
             have bT:=aq;clear aq a7 hlo hge g
             refine sE [(5,.slice Az ((e6 M).length) AA)] fun a hF=>tK<|qS hF<|bG 2 (bJ (0:Int) (.slice none 0 0) aC (0:Int) false false (.slice Az ((e6 M).length) AA) (0:Int) aC (0:Int) (.slice none 0 0)) m8 fun QZ IY zq=> ?_
             replace m8:=zq
             refine sT [] fun a hF=>cR (yB (yT ?_))
             refine rB m8 hF ?_
             replace e0:=e0.grew IY (sep.l 3)
             replace bT:=bT.k IY (sep.ap 0 3)
             rw[q8 IW];exact⟨iK rfl (Own.nil _ _ _) bT (Own.nil _ _ _) aB.nil,⟨_,_,_,_,_,_,md.ext e0⟩,RG.aS e0⟩
          ·refine qP [(94,.bool (decide (kd=(9:Int))))] hF fun a hF=>cJ 94 hF (fun hc128=> ?_) fun hc128=> ?_
           ·refine cS<|cD [0,1,3,7,15,0,32,96,255,511,1023] 28 mixed hF<|mP 7 [0,1,2] [pV rb,pV rb,.pointer (some ⟨rb,1,none⟩)] ?_
            replace e0:=e0.ext g7
            refine mO 15 8 3 1 (.slice ea M.E.length ec) (e0.blk hm)<|mP 63 [4,5] [nV M.E.length,pV rb]<|gA 127 96 6 [3] (Does.call (f:=43) (args:= #[.pointer (some ⟨rb,0,none⟩)]) (by kernel_rfl) (lq _ rb M T oa oc ea ec es (md.ext e0) hE)) ?_
            rintro _ MQ ⟨vr,p3,rfl,bt,IZ,FK⟩
            replace sep:=sep.co FK IZ bt e0.size
            replace e0:=e0.ext FK
            refine⟨?_,?_⟩
            ·intro j hj
             simp only[List.mem_cons,List.not_mem_nil,or_false] at hj
             subst hj
             exact aL (Calm.load (T:=67) (p:=⟨rb,1,none⟩) (by kernel_rfl) (Loads.one (k:=1) (by kernel_rfl) ((ar (e0.blk hm)).trans rfl)))
            refine gA 255 224 7 [3] (Does.call (f:=42) (args:= #[.slice vr M.E.length p3]) (by kernel_rfl) (CP _ (cH M.E) _ _ M.E.length (HR.of bt (iE _)) (by omega))) ?_
            rintro _ Gl ⟨rfl,p6⟩
            replace e0:=e0.ext p6
            refine⟨?_,?_⟩
            ·intro j hj
             simp only[List.mem_cons,List.not_mem_nil,or_false] at hj
             subst hj
             exact aL (Calm.load (T:=67) (p:=⟨rb,1,none⟩) (by kernel_rfl) (Loads.one (k:=1) (by kernel_rfl) ((ar (e0.blk hm)).trans rfl)))
            refine mP 1023 [8,9] [.agg (hdc ((M.E.length :Nat):Int) (qQ (root (cH M.E)))).toArray,.agg (bJ (0:Int) (.slice none 0 0) aC (0:Int) false false (.slice none 0 0) ((M.E.length :Nat):Int) (qQ (root (cH M.E))) (0:Int) (.slice none 0 0)).toArray] ?_
            replace m8:=(m8.x FK).x p6
            refine mV 2047 2047 10 0 (bJ (0:Int) (.slice none 0 0) aC (0:Int) false false (.slice none 0 0) ((M.E.length :Nat):Int) (qQ (root (cH M.E))) (0:Int) (.slice none 0 0)) (bJ (0:Int) (.slice none 0 0) aC (0:Int) false false (.slice none 0 0) ((M.E.length :Nat):Int) (qQ (root (cH M.E))) (0:Int) (.slice none 0 0)) m8 fun Q0 MR zq=> ?_
            replace m8:=zq
            refine mE [] fun a hF=>tK<|cR (yB (yT ?_))
            refine rB m8 hF ?_
            replace e0:=e0.grew MR (sep.l 1)
            rw[step_head hc128];exact⟨iK rfl (Own.nil _ _ _) (Own.nil _ _ _) (Own.nil _ _ _) aB.nil,⟨_,_,_,_,_,_,md.ext e0⟩,RG.aS e0⟩
           ·refine qP [(106,.bool (decide (kd=(10:Int))))] hF fun a hF=>cJ 106 hF (fun qx=> ?_) fun qx=> ?_
            ·refine qS hF<|tO 1 3 m3<|sT [(110,.bool (decide ((0:Int)<n)))] fun a hF=>cJ 110 hF (fun I0=> ?_) fun I0=> ?_
             ·refine cD [0,0,2,6,14,0,32,0,128,384,896,1920,4064,8190,16383,32767,65535] 31 mixed hF<|mP 15 [0,1,2,3] [pV rb,pV rb,pV rb,.pointer (some ⟨rb,2,none⟩)] ?_
              replace e0:=e0.ext g7
              refine mO 31 16 4 2 (.int .i64 M.t) (e0.blk hm)<|mP 63 [5] [.pointer (some ⟨h.size,3,none⟩)]<|mO 127 80 6 3 (.int .i64 n) m3<|mP 1023 [7,8,9] [pV rb,pV rb,.pointer (some ⟨rb,2,none⟩)]<|mO 2047 1104 10 2 (.int .i64 M.t) (e0.blk hm)<|m1 4095 11 (.int .i64 (1099511627776 - M.t)) (.int .i64 (IntKind.i64.wrap ((1099511627776:Int) - M.t))) (congrArg (Value.int .i64) (qn (by have:=md.t0;have:=md.t1;omega) (by have:=md.t0;have:=md.t1;omega)))<|m1 8191 12 (.int .i64 (min n (1099511627776 - M.t))) (.int .i64 (if (1099511627776 - M.t)<n then (1099511627776 - M.t) else n)) (congrArg (Value.int .i64) (by have:=md.t0;have:=md.t1;omega)) ?_
              refine m1 16383 13 (.int .i64 (M.t +min n (1099511627776 - M.t))) (.int .i64 (IntKind.i64.wrap (M.t +min n (1099511627776 - M.t)))) (congrArg (Value.int .i64) (qn (by have:=md.t0;have:=md.t1;omega) (by have:=md.t0;have:=md.t1;omega)))<|mP 65535 [14,15] [pV rb,.pointer (some ⟨rb,2,none⟩)] ?_
              have hmo:=e0.blk hm
              refine jv 131071 131071 16 (Does.store (b:=rb) (off:=2) (vs:=[.int .i64 (M.t +min n (1099511627776 - M.t))]) (l:=[.slice oa T.length oc,.slice ea M.E.length ec,.int .i64 M.t]) (by kernel_rfl) hmo (of_decide_eq_true (by kernel_rfl)) (List.all_eq_true.1 (by kernel_rfl))) ?_
              rintro _ vL ⟨rfl,hh⟩
              have gt:=bD hh
              have hmn:vL[rb]? =some (.cells ([.slice oa T.length oc,.slice ea M.E.length ec,.int .i64 (M.t +min n (1099511627776 - M.t))]).toArray 86):=bX (off:=2) (vs:=[.int .i64 (M.t +min n (1099511627776 - M.t))]) (l:=[.slice oa T.length oc,.slice ea M.E.length ec,.int .i64 M.t]) hh (by kernel_rfl) hmo
              have ht0:=md.t0;have ht1:=md.t1
              have gm:RG rb _ vL:=RG.one (Ext.refl _) gt
              have hmod:bF W vL rb ⟨M.f,M.E,(M.t +min n (1099511627776 - M.t))⟩:=⟨_,_,_,_,_,_,(md.ext e0).tick gm hmn (by omega) (by omega)⟩
              have gk:RG rb h vL:=(RG.aS e0).then gm
              replace m8:vL[h1.size]? =_:=(gm.2 _ (ag m8) (by omega)).trans m8
              replace sep:=sep.up gm.1
              refine mE [] fun a hF=>bK<|tK<|qS hF<|bG 1 (bJ (0:Int) (.slice none 0 0) aC (0:Int) false false (.slice none 0 0) (0:Int) aC (0:Int) (.slice none 0 0)) m8 fun Q1 I1 zq=> ?_
              replace hmod:=hmod.bE I1 m8 (by decide) (by omega)
              replace m8:=zq
              refine sT [] fun a hF=>cR<|rB m8 hF ?_
              replace gk:=gk.ct I1 (fun x e=> .inr (by cases e;omega))
              rw[kQ qx,show max 0 n=n by omega];exact⟨jo _ 0,hmod,gk⟩
             ·refine cN<|bK<|tK<|qS hF<|bG 1 (bJ (0:Int) (.slice none 0 0) aC (0:Int) false false (.slice none 0 0) (0:Int) aC (0:Int) (.slice none 0 0)) m8 fun Ky vM zq=> ?_
              replace m8:=zq
              refine sT [] fun a hF=>cR<|rB m8 hF ?_
              replace e0:=(e0.ext g7).grew vM (sep.l 0)
              rw[kQ qx,show M.t +min (max 0 n) (1099511627776 - M.t)=M.t by have:=md.t1;omega];exact⟨jo _ 0,⟨_,_,_,_,_,_,md.ext e0⟩,RG.aS e0⟩
            ·refine cS<|qP [(127,.bool (decide (kd=(11:Int))))] hF fun a hF=>cJ 127 hF (fun DR=> ?_) fun DR=> ?_
             ·refine cN<|tK<|cJ 127 hF (fun DS=> ?_) fun DS=>absurd DR DS
              refine cN<|bK<|tK<|qS hF<|bG 1 (bJ (0:Int) (.slice none 0 0) aC (0:Int) false false (.slice none 0 0) (0:Int) aC (0:Int) (.slice none 0 0)) m8 fun Fx tZ zq=> ?_
              replace m8:=zq
              refine sT [] fun a hF=>cR<|rB m8 hF ?_
              replace e0:=(e0.ext g7).grew tZ (sep.l 0)
              rw[c8 (by omega)];exact⟨jo _ 0,⟨_,_,_,_,_,_,md.ext e0⟩,RG.aS e0⟩
             ·refine qP [(127,.bool (decide (kd=(12:Int))))] hF fun a hF=>cJ 127 hF (fun DT=> ?_) fun DT=> ?_
              ·refine cN<|tK<|cJ 127 hF (fun hx150=> ?_) fun hx150=>absurd DT hx150
               refine cN<|bK<|tK<|qS hF<|bG 1 (bJ (0:Int) (.slice none 0 0) aC (0:Int) false false (.slice none 0 0) (0:Int) aC (0:Int) (.slice none 0 0)) m8 fun Q2 MS zq=> ?_
               replace m8:=zq
               refine sT [] fun a hF=>cR<|rB m8 hF ?_
               replace e0:=(e0.ext g7).grew MS (sep.l 0)
               rw[c8 (by omega)];exact⟨jo _ 0,⟨_,_,_,_,_,_,md.ext e0⟩,RG.aS e0⟩
              ·refine qP [(127,.bool (decide (kd=(13:Int))))] hF fun a hF=>cJ 127 hF (fun hc153=> ?_) fun hc153=> ?_
               ·refine cN<|tK<|cJ 127 hF (fun DU=> ?_) fun DU=>absurd hc153 DU
                refine cN<|bK<|tK<|qS hF<|bG 1 (bJ (0:Int) (.slice none 0 0) aC (0:Int) false false (.slice none 0 0) (0:Int) aC (0:Int) (.slice none 0 0)) m8 fun Q3 MT zq=> ?_
                replace m8:=zq
                refine sT [] fun a hF=>cR<|rB m8 hF ?_
                replace e0:=(e0.ext g7).grew MT (sep.l 0)
                rw[c8 (by omega)];exact⟨jo _ 0,⟨_,_,_,_,_,_,md.ext e0⟩,RG.aS e0⟩
               ·refine rP [(127,.bool (decide (kd=(14:Int))))] hF fun a hF=>tK<|cJ 127 hF (fun hc157=> ?_) fun hc157=> ?_
                ·refine cN<|bK<|tK<|qS hF<|bG 1 (bJ (0:Int) (.slice none 0 0) aC (0:Int) false false (.slice none 0 0) (0:Int) aC (0:Int) (.slice none 0 0)) m8 fun Q4 MU zq=> ?_
                 replace m8:=zq
                 refine sT [] fun a hF=>cR<|rB m8 hF ?_
                 replace e0:=(e0.ext g7).grew MU (sep.l 0)
                 rw[c8 (by omega)];exact⟨jo _ 0,⟨_,_,_,_,_,_,md.ext e0⟩,RG.aS e0⟩
                ·refine qS hF<|bG 1 (bJ (1:Int) (.slice none 0 0) aC (0:Int) false false (.slice none 0 0) (0:Int) aC (0:Int) (.slice none 0 0)) m8 fun Q5 MV zq=> ?_
                 replace m8:=zq
                 refine sT [] fun a hF=>cR (yB (yT ?_))
                 refine rB m8 hF ?_
                 replace e0:=(e0.ext g7).grew MV (sep.l 0)
                 rw[u6 (by omega) (by omega) (by omega) (by omega) (by omega) (by omega) (by omega) (by omega)];exact⟨jo _ 1,⟨_,_,_,_,_,_,md.ext e0⟩,RG.aS e0⟩
end Go.Proofs.YtegkejcglfgpmaaGreatDoor
end
section
namespace Go.aT
open Go Go.an
/-! ### the document's models: the same; a clone -/
section
variable {W W2:Nat→Prop} {h h':Heap} {rb nb c i:Nat} {M N:Md} {T T2:List RO} {oa FL ra:Option Addr} {oc FM rc:Nat} {ea lI na:Option Addr} {ec ke nc:Nat} {es es2:List Value} {x y:RO}
theorem bn.CU(m:bn W h rb M T oa oc ea ec es)(hx:T[i]? =some x):M.f x.o.b.id =some x.o :=(m.ob x (List.mem_of_getElem? hx)).1
theorem Q6(o p:Ob):o.b.id ≠p.b.id ∨o.b.id =p.b.id ∧(ep o.b o.e o.ho o.go p.b p.e p.ho p.go =false∨(ep o.b o.e o.ho o.go p.b p.e p.ho p.go =true∧o.dt ≠p.dt)∨(ep o.b o.e o.ho o.go p.b p.e p.ho p.go =true∧o.dt =p.dt)):=by
  by_cases h:o.b.id =p.b.id
  · refine .inr ⟨h, ?_⟩
    cases e:ep o.b o.e o.ho o.go p.b p.e p.ho p.go with
    |false=>exact .inl rfl
    |true=>by_cases d:o.dt =p.dt;exact .inr (.inr ⟨rfl,d⟩);exact .inr (.inl ⟨rfl,d⟩)
  · exact .inl h
def il(T:List RO)(i:Nat):Option ByteArray:=T[i]?.map fun x=>x.o.b.id
theorem kr(hx:T[i]? =some x):il T i=some x.o.b.id :=by unfold il;rw[hx];rfl
theorem CV(h:∀j,j<i→il T j=il T2 j)(hx:T[i]? =some x)(hy:T2[i]? =some y)(e:x.o.b.id =y.o.b.id):∀j,j<i+1→il T j=il T2 j:=fun j hj=>by
  rcases Nat.lt_succ_iff_lt_or_eq.1 hj with h1|rfl
  · exact h j h1
  · rw[kr hx,kr hy,e]
theorem AB{P:RO→Prop}(h:∀j z,j<i→T[j]? =some z→P z)(hx:T[i]? =some x)(e:P x):∀j z,j<i+1→T[j]? =some z→P z:=fun j z hj hz=>by
  rcases Nat.lt_succ_iff_lt_or_eq.1 hj with h1|rfl
  · exact h j z h1 hz
  · rw[hx] at hz;cases hz;exact e
theorem p7(s:T.Pairwise fun x y=>fu x.o.b.id y.o.b.id){j:Nat}(hx:T[i]? =some x)(hy:T[j]? =some y)(hij:i<j):fu x.o.b.id y.o.b.id :=by
  obtain⟨h1,rfl⟩:=List.getElem?_eq_some_iff.1 hx
  obtain⟨h2,rfl⟩:=List.getElem?_eq_some_iff.1 hy
  exact List.pairwise_iff_getElem.1 s i j h1 h2 hij
theorem I2(m:bn W h rb M T oa oc ea ec es)(n:bn W2 h nb N T2 FL FM lI ke es2)(hid:∀j,j<i→il T j=il T2 j)(hx:T[i]? =some x)(hy:T2[i]? =some y)(hne:x.o.b.id ≠y.o.b.id)(q:eY M N):fu y.o.b.id x.o.b.id :=by
  have h1:=q.1 x.o.b.id
  rw[m.CU hx] at h1
  cases hn:N.f x.o.b.id with
  |none=>rw[hn] at h1;exact h1.elim
  | some r =>
    obtain⟨z,hz,e⟩:=n.al _ _ hn
    obtain⟨j,hj⟩:=List.getElem?_of_mem hz
    rcases Nat.lt_trichotomy j i with hl|hl|hl
    · exfalso
      have h2:=hid j hl
      rw[kr hj,e] at h2
      unfold il at h2
      cases ht:T[j]? with
      |none=>rw[ht] at h2;cases h2
      |some w=>rw[ht] at h2;have:=p7 m.fq ht hx hl;exact eU this (Option.some.inj h2)
    · subst hl;rw[hy] at hj;cases hj;exact absurd e.symm hne
    · have:=p7 n.fq hy hj hl;rw[e] at this;exact this
theorem eY.I3(q:eY M N):∀s,(M.f s).isSome =(N.f s).isSome :=fun s=>by
  have:=q.1 s
  cases h1:M.f s<;>cases h2:N.f s<;>rw[h1,h2] at this<;>first|rfl|exact this.elim
theorem I4(m:bn W h rb M T oa oc ea ec es)(n:bn W2 h nb N T2 FL FM lI ke es2)(hid:∀j,j<i→il T j=il T2 j)(hx:T[i]? =some x)(hy:T2[i]? =some y)(hne:x.o.b.id ≠y.o.b.id):¬eY M N:=fun q=>by
  have h1:=I2 m n hid hx hy hne q
  have h2:=q.I3 y.o.b.id
  rw[n.CU hy] at h2
  obtain⟨o,ho⟩:=Option.isSome_iff_exists.1 h2
  obtain⟨z,hz,e⟩:=m.al _ _ ho
  obtain⟨j,hj⟩:=List.getElem?_of_mem hz
  rcases Nat.lt_trichotomy j i with hl|hl|hl
  · have h3 := hid j hl
    rw[kr hj,e] at h3
    unfold il at h3
    cases ht:T2[j]? with
    |none=>rw[ht] at h3;cases h3
    |some w=>rw[ht] at h3;have:=p7 n.fq ht hy hl;exact eU this (Option.some.inj h3).symm
  · subst hl;rw[hx] at hj;cases hj;exact hne e
  · have:=p7 m.fq hx hj hl;rw[e] at this;exact nh h1 this
theorem rs_all(m:bn W h rb M T oa oc ea ec es)(n:bn W2 h nb N T2 FL FM lI ke es2)(hl:T.length =T2.length)(hi:i=T.length)(hid:∀j,j<i→il T j=il T2 j)(ha:∀j z,j<i→T[j]? =some z→nz (M.f z.o.b.id) (N.f z.o.b.id))(s:ByteArray):nz (M.f s) (N.f s):=by
  have hlt:∀{L:List RO} {j:Nat} {z:RO},L[j]? =some z→j<L.length :=fun e=>(List.getElem?_eq_some_iff.1 e).1
  cases hf:M.f s with
  | some o =>
    obtain⟨z,hz,rfl⟩:=m.al s o hf
    obtain⟨j,hj⟩:=List.getElem?_of_mem hz
    rw[←hf];exact ha j z (by have:=hlt hj;omega) hj
  | none =>
    cases hg:N.f s with
    |none=>trivial
    | some r =>
      exfalso
      obtain⟨z,hz,rfl⟩:=n.al s r hg
      obtain⟨j,hj⟩:=List.getElem?_of_mem hz
      have h2:=hid j (by have:=hlt hj;omega)
      rw[kr hj] at h2
      unfold il at h2
      cases ht:T[j]? with
      |none=>rw[ht] at h2;cases h2
      |some w=>rw[ht] at h2;have h3:=m.CU ht;rw[show w.o.b.id =z.o.b.id from Option.some.inj h2,hf] at h3;cases h3
theorem bn.cloned(m:bn W h rb M T oa oc ea ec es)(e:Ext h h')(hc:h'[c]? =some (.cells #[.slice ra T.length rc, .slice na M.E.length nc, .int .i64 M.t] 86))(o1:Own h' (.slice ra T.length rc) 97 T.length 40 (bC T))(o2:Own h' (.slice na M.E.length nc) 32 M.E.length 1 es)(hn:∀k,na.map (fun(x:Addr)=>x.block)=some k→h.size ≤k)(hW:∀k,W k→k<h.size)(kc:h.size ≤c):bF W h' c M:=
  have k1:=m.kb
  have k2:=ag m.hm
  ⟨T,ra,rc,na,nc,es,hc,j8.of o1,m.fq,(m.ext e).ob,m.al,cj.new o2 (by decide) hW hn,m.en.ext e,m.ln,m.t0,m.t1,by omega,m.ix⟩
end
end Go.aT
end
section
namespace Go.Proofs.YtegkejcglfgpmaaGreatDoor
open Go Go.an Go.aT
noncomputable def b24:Code:=Tryz.f24.body.getD .skip
set_option maxHeartbeats 1000000 in
theorem AD {W:Nat→Prop}(h:Heap)(rb:Nat)(M:Md)(T:List RO)(oa:Option Addr)(oc:Nat)(ea:Option Addr)(ec:Nat)(es:List Value)(md:bn W h rb M T oa oc ea ec es)(hW:∀k,W k→k<h.size)(hE:M.E.length ≤1099511627):Sat Tryz.prog 24 #[.pointer (some ⟨rb,0,none⟩)] h fun v h'=>∃c,v= .pointer (some ⟨c,0,none⟩)∧bF W h' c M∧h.size ≤c∧Ext h h':=by
 have hm:=md.hm
 have hbr:=ag hm
 have hLn:=md.ln
 have e0:=Ext.refl h
 have sep:Sep h.size h.size []:=Sep.nil _ _
 refine ak Tryz.func24 21 fun a hF=>qP [] hF fun a hF=>cS<|C.mono (K:=fun e a hJ=>∃(bk1:Nat),∃(dH:Option Addr) (cap5:Nat),∃(dO:Option Addr) (dp:Nat),e= .normal ∧(Ext h hJ)∧(Own hJ (.slice dH T.length cap5) 97 T.length 40 (bC T))∧(Own hJ (.slice dO M.E.length dp) 32 M.E.length 1 es)∧(hJ[bk1]? =some (.cells #[.slice dH T.length cap5,.slice dO M.E.length dp,.int .i64 M.t] 86))∧(Sep h.size hJ.size [some bk1,dH.map (·.block),dO.map (·.block)])∧Fr a 21 [(2,.pointer (some ⟨bk1,0,none⟩))]) ?_ ?_
 ·refine cD [0,0,2,6,14,31,0,0,128,384,896,2047,0,4096,12288,28672,65535,131071,262143] 1 mixed hF<|mP 14 [1,2,3] [pV rb,pV rb,pV rb]<|mO 30 16 4 0 (.slice oa T.length oc) (e0.blk hm)<|mP 926 [7,8,9] [pV rb,pV rb,.pointer (some ⟨rb,1,none⟩)]<|mO 1950 1040 10 1 (.slice ea M.E.length ec) (e0.blk hm)<|mP 30622 [12,13,14] [pV rb,pV rb,.pointer (some ⟨rb,2,none⟩)]<|mO 63390 33808 15 2 (.int .i64 M.t) (e0.blk hm) ?_
  refine aO.vz (is:=[0,6]) (by kernel_rfl) (by simp) ?_
  intro q hq
  simp only[List.mem_cons,List.not_mem_nil,or_false] at hq
  rcases hq with rfl|rfl
  ·refine xf 63391 1 0 [4,10,15] (Does.new (v:= .slice (some ⟨h.size,0,none⟩) 0 0) (o:= .cells #[] 97) (by kernel_rfl)) ?_
   rintro _ h3 ⟨rfl,hh⟩
   have g4:Ext h h3:=a8 hh
   have m5:h3[h.size]? =some (.cells #[] 97):=bx hh
   clear hh
   replace sep:=sep.nw e0.size m5
   replace e0:=e0.ext g4
   refine⟨?_,?_⟩
   ·intro j hj
    simp only[List.mem_cons,List.not_mem_nil,or_false] at hj
    rcases hj with rfl|rfl|rfl
    ·exact aL (Calm.load (T:=84) (p:=⟨rb,0,none⟩) (by kernel_rfl) (Loads.one (k:=1) (by kernel_rfl) ((ar (e0.blk hm)).trans rfl)))
    ·exact aL (Calm.load (T:=67) (p:=⟨rb,1,none⟩) (by kernel_rfl) (Loads.one (k:=1) (by kernel_rfl) ((ar (e0.blk hm)).trans rfl)))
    ·exact aL (Calm.load (T:=3) (p:=⟨rb,2,none⟩) (by kernel_rfl) (Loads.one (k:=1) (by kernel_rfl) ((ar (e0.blk hm)).trans rfl)))
   have af:Own h3 (.slice (some ⟨h.size,0,none⟩) 0 0) 97 ([]:List RO).length 40 (bC []):=Own.empty 40 m5
   replace sep:Sep h.size h3.size [(some ⟨h.size,0,none⟩:Option Addr).map (·.block)]:=sep
   clear m5
   refine aO.vz (is:=[5,6]) (by kernel_rfl) (by simp) ?_
   intro q hq
   simp only[List.mem_cons,List.not_mem_nil,or_false] at hq
   rcases hq with rfl|rfl
   ·refine xf 63423 63 5 [10,15] (Does.e9 (t:=84) (E:=97) (sz:=40) (dT:=128) (n:=0) (m:=T.length) (c:=0) (N:=T.length) (a:=(some ⟨h.size,0,none⟩)) (x:= .slice oa T.length oc) (xs:=(bC ([]))) (ys:=(bC T)) (Z:=(bC T)) (by kernel_rfl) (by kernel_rfl) af (md.row.1.ext e0) (dP _) (by unfold maxLen;omega) (by omega) (by first|rfl| (simp;done)| (simp;omega)) (by first|rfl|exact List.flatMap_append.symm |simp[bC])) ?_
    rintro _ h10 ⟨I5,Cm,rfl,af,g8,Oe⟩
    have s11:=sep
    replace sep:=sep.sa g8 0 Oe af e0.size;clear Oe
    replace e0:=e0.grew g8 (s11.l 0)
    refine⟨?_,?_⟩
    ·intro j hj
     simp only[List.mem_cons,List.not_mem_nil,or_false] at hj
     rcases hj with rfl|rfl
     ·exact aL (Calm.load (T:=67) (p:=⟨rb,1,none⟩) (by kernel_rfl) (Loads.one (k:=1) (by kernel_rfl) ((ar (e0.blk hm)).trans rfl)))
     ·exact aL (Calm.load (T:=3) (p:=⟨rb,2,none⟩) (by kernel_rfl) (Loads.one (k:=1) (by kernel_rfl) ((ar (e0.blk hm)).trans rfl)))
    refine gA 63487 127 6 [10,15] (Does.new (v:= .slice (some ⟨h10.size,0,none⟩) 0 0) (o:= .cells #[] 32) (by kernel_rfl)) ?_
    rintro _ h12 ⟨rfl,hh⟩
    have g13:Ext h10 h12:=a8 hh
    have m14:h12[h10.size]? =some (.cells #[] 32):=bx hh
    clear hh
    replace sep:=sep.nw e0.size m14
    replace e0:=e0.ext g13
    refine⟨?_,?_⟩
    ·intro j hj
     simp only[List.mem_cons,List.not_mem_nil,or_false] at hj
     rcases hj with rfl|rfl
     ·exact aL (Calm.load (T:=67) (p:=⟨rb,1,none⟩) (by kernel_rfl) (Loads.one (k:=1) (by kernel_rfl) ((ar (e0.blk hm)).trans rfl)))
     ·exact aL (Calm.load (T:=3) (p:=⟨rb,2,none⟩) (by kernel_rfl) (Loads.one (k:=1) (by kernel_rfl) ((ar (e0.blk hm)).trans rfl)))
    have bP:Own h12 (.slice (some ⟨h10.size,0,none⟩) 0 0) 32 ([]:List Value).length 1 ([]:List Value):=Own.empty 1 m14
    replace sep:Sep h.size h12.size [(some ⟨h10.size,0,none⟩:Option Addr).map (·.block),I5.map (·.block)]:=sep
    replace af:=af.ext g13
    clear m14
    refine gA 65535 4095 11 [15] (Does.e9 (t:=67) (E:=32) (sz:=1) (dT:=24) (n:=0) (m:=M.E.length) (c:=0) (N:=M.E.length) (a:=(some ⟨h10.size,0,none⟩)) (x:= .slice ea M.E.length ec) (xs:=[]) (ys:=es) (Z:=es) (by kernel_rfl) (by kernel_rfl) bP (md.er.1.1.ext e0) (fI md.en) (by unfold maxLen;omega) (by omega) (by first|rfl| (simp;done)| (simp;omega)) (by first|rfl|exact List.flatMap_append.symm | (simp;done)| (simp;rfl))) ?_
    rintro _ h19 ⟨dg,cQ,rfl,bP,g17,I6⟩
    have s20:=sep
    replace sep:=sep.sa g17 0 I6 bP e0.size;clear I6
    replace e0:=e0.grew g17 (s20.l 0)
    refine⟨?_,?_⟩
    ·intro j hj
     simp only[List.mem_cons,List.not_mem_nil,or_false] at hj
     subst hj
     exact aL (Calm.load (T:=3) (p:=⟨rb,2,none⟩) (by kernel_rfl) (Loads.one (k:=1) (by kernel_rfl) ((ar (e0.blk hm)).trans rfl)))
    refine mP 131071 [16] [.agg #[.slice I5 T.length Cm,.slice dg M.E.length cQ,.int .i64 M.t]]<|mN 262143 262143 17 (pV h19.size) #[.slice I5 T.length Cm,.slice dg M.E.length cQ,.int .i64 M.t] 86 fun h21 g22 m23=> ?_
    replace sep:=sep.nw e0.size m23
    refine mP 524287 [18] [pV h19.size]<|mE [(2,pV h19.size)] fun a hF=> ?_
    have js:=sep.pick (l':=[some h19.size,I5.map (·.block),dg.map (·.block)]) [0,2,1] rfl (by decide)
    replace af:=(af.k g17 (s20.ap 1 0)).ext g22
    replace e0:=e0.ext g22
    replace bP:=bP.ext g22
    exact⟨h19.size,I5,Cm,dg,cQ,rfl,e0,af,bP,m23,js,hF.to⟩
   ·refine xf 63455 65 6 [4,10,15] (Does.new (v:= .slice (some ⟨h3.size,0,none⟩) 0 0) (o:= .cells #[] 32) (by kernel_rfl)) ?_
    rintro _ jK ⟨rfl,hh⟩
    have gB:Ext h3 jK:=a8 hh
    have BY:jK[h3.size]? =some (.cells #[] 32):=bx hh
    clear hh
    replace sep:=sep.nw e0.size BY
    replace e0:=e0.ext gB
    refine⟨?_,?_⟩
    ·intro j hj
     simp only[List.mem_cons,List.not_mem_nil,or_false] at hj
     rcases hj with rfl|rfl|rfl
     ·exact aL (Calm.load (T:=84) (p:=⟨rb,0,none⟩) (by kernel_rfl) (Loads.one (k:=1) (by kernel_rfl) ((ar (e0.blk hm)).trans rfl)))
     ·exact aL (Calm.load (T:=67) (p:=⟨rb,1,none⟩) (by kernel_rfl) (Loads.one (k:=1) (by kernel_rfl) ((ar (e0.blk hm)).trans rfl)))
     ·exact aL (Calm.load (T:=3) (p:=⟨rb,2,none⟩) (by kernel_rfl) (Loads.one (k:=1) (by kernel_rfl) ((ar (e0.blk hm)).trans rfl)))
    have bP:Own jK (.slice (some ⟨h3.size,0,none⟩) 0 0) 32 ([]:List Value).length 1 ([]:List Value):=Own.empty 1 BY
    replace sep:Sep h.size jK.size [(some ⟨h3.size,0,none⟩:Option Addr).map (·.block),(some ⟨h.size,0,none⟩:Option Addr).map (·.block)]:=sep
    replace af:=af.ext gB
    clear BY
    refine gA 63487 127 5 [10,15] (Does.e9 (t:=84) (E:=97) (sz:=40) (dT:=128) (n:=0) (m:=T.length) (c:=0) (N:=T.length) (a:=(some ⟨h.size,0,none⟩)) (x:= .slice oa T.length oc) (xs:=(bC ([]))) (ys:=(bC T)) (Z:=(bC T)) (by kernel_rfl) (by kernel_rfl) af (md.row.1.ext e0) (dP _) (by unfold maxLen;omega) (by omega) (by first|rfl| (simp;done)| (simp;omega)) (by first|rfl|exact List.flatMap_append.symm |simp[bC])) ?_
    rintro _ h31 ⟨j2,f_,rfl,af,fp,I7⟩
    have FW:=sep
    replace sep:=sep.sa fp 1 I7 af e0.size;clear I7
    replace e0:=e0.grew fp (FW.l 1)
    refine⟨?_,?_⟩
    ·intro j hj
     simp only[List.mem_cons,List.not_mem_nil,or_false] at hj
     rcases hj with rfl|rfl
     ·exact aL (Calm.load (T:=67) (p:=⟨rb,1,none⟩) (by kernel_rfl) (Loads.one (k:=1) (by kernel_rfl) ((ar (e0.blk hm)).trans rfl)))
     ·exact aL (Calm.load (T:=3) (p:=⟨rb,2,none⟩) (by kernel_rfl) (Loads.one (k:=1) (by kernel_rfl) ((ar (e0.blk hm)).trans rfl)))
    replace bP:=bP.k fp (FW.ap 0 1)
    refine gA 65535 4095 11 [15] (Does.e9 (t:=67) (E:=32) (sz:=1) (dT:=24) (n:=0) (m:=M.E.length) (c:=0) (N:=M.E.length) (a:=(some ⟨h3.size,0,none⟩)) (x:= .slice ea M.E.length ec) (xs:=[]) (ys:=es) (Z:=es) (by kernel_rfl) (by kernel_rfl) bP (md.er.1.1.ext e0) (fI md.en) (by unfold maxLen;omega) (by omega) (by first|rfl| (simp;done)| (simp;omega)) (by first|rfl|exact List.flatMap_append.symm | (simp;done)| (simp;rfl))) ?_
    rintro _ h37 ⟨CW,AE,rfl,bP,gn,I8⟩
    have Of:=sep
    replace sep:=sep.sa gn 0 I8 bP e0.size;clear I8
    replace e0:=e0.grew gn (Of.l 0)
    refine⟨?_,?_⟩
    ·intro j hj
     simp only[List.mem_cons,List.not_mem_nil,or_false] at hj
     subst hj
     exact aL (Calm.load (T:=3) (p:=⟨rb,2,none⟩) (by kernel_rfl) (Loads.one (k:=1) (by kernel_rfl) ((ar (e0.blk hm)).trans rfl)))
    refine mP 131071 [16] [.agg #[.slice j2 T.length f_,.slice CW M.E.length AE,.int .i64 M.t]]<|mN 262143 262143 17 (pV h37.size) #[.slice j2 T.length f_,.slice CW M.E.length AE,.int .i64 M.t] 86 fun Hv HB Og=> ?_
    replace sep:=sep.nw e0.size Og
    refine mP 524287 [18] [pV h37.size]<|mE [(2,pV h37.size)] fun a hF=> ?_
    have js:=sep.pick (l':=[some h37.size,j2.map (·.block),CW.map (·.block)]) [0,2,1] rfl (by decide)
    replace af:=(af.k gn (Of.ap 1 0)).ext HB
    replace e0:=e0.ext HB
    replace bP:=bP.ext HB
    exact⟨h37.size,j2,f_,CW,AE,rfl,e0,af,bP,Og,js,hF.to⟩
  ·refine xf 63454 64 6 [4,10,15] (Does.new (v:= .slice (some ⟨h.size,0,none⟩) 0 0) (o:= .cells #[] 32) (by kernel_rfl)) ?_
   rintro _ h42 ⟨rfl,hh⟩
   have ly:Ext h h42:=a8 hh
   have B0:h42[h.size]? =some (.cells #[] 32):=bx hh
   clear hh
   replace sep:=sep.nw e0.size B0
   replace e0:=e0.ext ly
   refine⟨?_,?_⟩
   ·intro j hj
    simp only[List.mem_cons,List.not_mem_nil,or_false] at hj
    rcases hj with rfl|rfl|rfl
    ·exact aL (Calm.load (T:=84) (p:=⟨rb,0,none⟩) (by kernel_rfl) (Loads.one (k:=1) (by kernel_rfl) ((ar (e0.blk hm)).trans rfl)))
    ·exact aL (Calm.load (T:=67) (p:=⟨rb,1,none⟩) (by kernel_rfl) (Loads.one (k:=1) (by kernel_rfl) ((ar (e0.blk hm)).trans rfl)))
    ·exact aL (Calm.load (T:=3) (p:=⟨rb,2,none⟩) (by kernel_rfl) (Loads.one (k:=1) (by kernel_rfl) ((ar (e0.blk hm)).trans rfl)))
   have bP:Own h42 (.slice (some ⟨h.size,0,none⟩) 0 0) 32 ([]:List Value).length 1 ([]:List Value):=Own.empty 1 B0
   replace sep:Sep h.size h42.size [(some ⟨h.size,0,none⟩:Option Addr).map (·.block)]:=sep
   clear B0
   refine gA 63455 65 0 [4,10,15] (Does.new (v:= .slice (some ⟨h42.size,0,none⟩) 0 0) (o:= .cells #[] 97) (by kernel_rfl)) ?_
   rintro _ h45 ⟨rfl,hh⟩
   have wK:Ext h42 h45:=a8 hh
   have MW:h45[h42.size]? =some (.cells #[] 97):=bx hh
   clear hh
   replace sep:=sep.nw e0.size MW
   replace e0:=e0.ext wK
   refine⟨?_,?_⟩
   ·intro j hj
    simp only[List.mem_cons,List.not_mem_nil,or_false] at hj
    rcases hj with rfl|rfl|rfl
    ·exact aL (Calm.load (T:=84) (p:=⟨rb,0,none⟩) (by kernel_rfl) (Loads.one (k:=1) (by kernel_rfl) ((ar (e0.blk hm)).trans rfl)))
    ·exact aL (Calm.load (T:=67) (p:=⟨rb,1,none⟩) (by kernel_rfl) (Loads.one (k:=1) (by kernel_rfl) ((ar (e0.blk hm)).trans rfl)))
    ·exact aL (Calm.load (T:=3) (p:=⟨rb,2,none⟩) (by kernel_rfl) (Loads.one (k:=1) (by kernel_rfl) ((ar (e0.blk hm)).trans rfl)))
   have af:Own h45 (.slice (some ⟨h42.size,0,none⟩) 0 0) 97 ([]:List RO).length 40 (bC []):=Own.empty 40 MW
   replace sep:Sep h.size h45.size [(some ⟨h42.size,0,none⟩:Option Addr).map (·.block),(some ⟨h.size,0,none⟩:Option Addr).map (·.block)]:=sep
   replace bP:=bP.ext wK
   clear MW
   refine gA 63487 127 5 [10,15] (Does.e9 (t:=84) (E:=97) (sz:=40) (dT:=128) (n:=0) (m:=T.length) (c:=0) (N:=T.length) (a:=(some ⟨h42.size,0,none⟩)) (x:= .slice oa T.length oc) (xs:=(bC ([]))) (ys:=(bC T)) (Z:=(bC T)) (by kernel_rfl) (by kernel_rfl) af (md.row.1.ext e0) (dP _) (by unfold maxLen;omega) (by omega) (by first|rfl| (simp;done)| (simp;omega)) (by first|rfl|exact List.flatMap_append.symm |simp[bC])) ?_
   rintro _ Gb ⟨CX,AG,rfl,af,nS,yY⟩
   have s53:=sep
   replace sep:=sep.sa nS 0 yY af e0.size;clear yY
   replace e0:=e0.grew nS (s53.l 0)
   refine⟨?_,?_⟩
   ·intro j hj
    simp only[List.mem_cons,List.not_mem_nil,or_false] at hj
    rcases hj with rfl|rfl
    ·exact aL (Calm.load (T:=67) (p:=⟨rb,1,none⟩) (by kernel_rfl) (Loads.one (k:=1) (by kernel_rfl) ((ar (e0.blk hm)).trans rfl)))
    ·exact aL (Calm.load (T:=3) (p:=⟨rb,2,none⟩) (by kernel_rfl) (Loads.one (k:=1) (by kernel_rfl) ((ar (e0.blk hm)).trans rfl)))
   replace bP:=bP.k nS (s53.ap 1 0)
   refine gA 65535 4095 11 [15] (Does.e9 (t:=67) (E:=32) (sz:=1) (dT:=24) (n:=0) (m:=M.E.length) (c:=0) (N:=M.E.length) (a:=(some ⟨h.size,0,none⟩)) (x:= .slice ea M.E.length ec) (xs:=[]) (ys:=es) (Z:=es) (by kernel_rfl) (by kernel_rfl) bP (md.er.1.1.ext e0) (fI md.en) (by unfold maxLen;omega) (by omega) (by first|rfl| (simp;done)| (simp;omega)) (by first|rfl|exact List.flatMap_append.symm | (simp;done)| (simp;rfl))) ?_
   rintro _ xg ⟨s6,qW,rfl,bP,A1,I9⟩
   have FX:=sep
   replace sep:=sep.sa A1 1 I9 bP e0.size;clear I9
   replace e0:=e0.grew A1 (FX.l 1)
   refine⟨?_,?_⟩
   ·intro j hj
    simp only[List.mem_cons,List.not_mem_nil,or_false] at hj
    subst hj
    exact aL (Calm.load (T:=3) (p:=⟨rb,2,none⟩) (by kernel_rfl) (Loads.one (k:=1) (by kernel_rfl) ((ar (e0.blk hm)).trans rfl)))
   refine mP 131071 [16] [.agg #[.slice CX T.length AG,.slice s6 M.E.length qW,.int .i64 M.t]]<|mN 262143 262143 17 (pV xg.size) #[.slice CX T.length AG,.slice s6 M.E.length qW,.int .i64 M.t] 86 fun h60 uB Dk=> ?_
   replace sep:=sep.nw e0.size Dk
   refine mP 524287 [18] [pV xg.size]<|mE [(2,pV xg.size)] fun a hF=> ?_
   have js:=sep.pick (l':=[some xg.size,CX.map (·.block),s6.map (·.block)]) [0,1,2] rfl (by decide)
   replace af:=(af.k A1 (FX.ap 0 1)).ext uB
   replace e0:=e0.ext uB
   replace bP:=bP.ext uB
   exact⟨xg.size,CX,AG,s6,qW,rfl,e0,af,bP,Dk,js,hF.to⟩
 ·clear hF a e0 sep
  rintro e a h63 ⟨bk1,dH,cap5,dO,dp,rfl,e0,af,bP,mk2,sep,hF⟩
  refine tK<|cR<|rT 2 (pV bk1) hF ?_
  have hcg:=(sep.l 0) _ rfl
  exact⟨_,rfl,md.cloned e0 mk2 af bP (sep.l 2) hW hcg,hcg,e0⟩
noncomputable def b26:Code:=Tryz.f26.body.getD .skip
set_option maxHeartbeats 1000000 in
theorem w3 {W:Nat→Prop}(h:Heap)(rb:Nat)(M:Md)(T:List RO)(oa:Option Addr)(oc:Nat)(ea:Option Addr)(ec:Nat)(es:List Value)(md:bn W h rb M T oa oc ea ec es){W2:Nat→Prop}(nb:Nat)(N:Md)(T2:List RO)(FL:Option Addr)(FM:Nat)(lI:Option Addr)(ke:Nat)(es2:List Value)(gy:bn W2 h nb N T2 FL FM lI ke es2)(hl:M.E.length ≤1099511627):Sat Tryz.prog 26 #[.pointer (some ⟨rb,0,none⟩),.pointer (some ⟨nb,0,none⟩)] h fun v h'=>v= .bool (cd M N)∧Ext h h':=by
 have hm:=md.hm
 have hbr:=ag hm
 have hLn:=md.ln
 have hm2:=gy.hm
 have LH:=gy.ln
 have e0:=Ext.refl h
 have sep:Sep h.size h.size []:=Sep.nil _ _
 refine ak Tryz.func26 107 fun a hF=>qP [] hF fun a hF=>cS<|cS ?_
 rcases(by omega:M.E.length =N.E.length ∨M.E.length ≠N.E.length) with hEl|hEl
 ·refine cD [0,1,3,7,15,0,32,96,224,480,1023,2047,4095,8191,16383,32767,65535,4095,135167,397311,921599,1970175,4194303,8388607] 1 mixed hF<|mP 7 [0,1,2] [pV rb,pV rb,pV rb]<|mO 15 8 3 0 (.slice oa T.length oc) (e0.blk hm)<|mP 255 [4,5,6,7] [nV T.length,pV nb,pV nb,pV nb]<|mO 511 264 8 0 (.slice FL T2.length FM) (e0.blk hm2)<|mP 1023 [9] [nV T2.length]<|Ja 2047 10 ((T.length :Nat):Int) ((T2.length :Nat):Int) ?_
  refine mP 32767 [11,12,13,14] [.bool false,pV rb,pV rb,.pointer (some ⟨rb,1,none⟩)]<|mO 65535 33032 15 1 (.slice ea M.E.length ec) (e0.blk hm)<|mP 1048575 [16,17,18,19] [nV M.E.length,pV nb,pV nb,.pointer (some ⟨nb,1,none⟩)]<|mO 2097151 1081608 20 1 (.slice lI N.E.length ke) (e0.blk hm2)<|mP 4194303 [21] [nV N.E.length]<|Ja 8388607 22 ((M.E.length :Nat):Int) ((N.E.length :Nat):Int)<|mP 16777215 [23] [.bool false] ?_
  refine mE [(32,.bool false)] fun a hF=>tK<|cF 32 hF<|cN<|tK<|cS<|qP [(5,.int .i64 0)] hF fun a hF=> ?_
  refine cB 0<|cL (fun m a h'=>∃i:Nat,m=T.length - i∧(Ext h h')∧(i≤T.length)∧(∀j,j<i→il T j=il T2 j)∧(∀j z,j<i→T[j]? =some z→nz (M.f z.o.b.id) (N.f z.o.b.id))∧(Sep h.size h'.size [])∧(Fr a 107 [(0,.pointer (some ⟨rb,0,none⟩)),(1,.pointer (some ⟨nb,0,none⟩)),(5,.int .i64 ((i:Nat):Int))])) (T.length - 0) ⟨0,rfl,e0,(Nat.zero_le _),(fun _ h=>absurd h (Nat.not_lt_zero _)),(fun _ _ h=>absurd h (Nat.not_lt_zero _)),sep,hF.to⟩ ?_
  clear hF a
  clear e0
  clear sep
  rintro m a h1 ⟨i,rfl,e0,hi,hid,hall,sep,hF⟩
  refine cS<|qS hF<|tO 4 0 (e0.blk hm)<|sT [(39,.bool (decide (((i:Nat):Int)<((T.length :Nat):Int))))] fun a hF=>cJ 39 hF (fun hc2=> ?_) fun hc2=> ?_
  ·have hin:i<T.length :=by omega
   obtain⟨x,hx⟩:∃x,T[i]? =some x:=⟨_,List.getElem?_eq_getElem hin⟩
   obtain⟨y,hy⟩:∃y,T2[i]? =some y:=⟨_,List.getElem?_eq_getElem (by omega)⟩
   have hFn:=hF
   obtain⟨ao,rfl,fh⟩:=md.row.1.a6 (by omega)
   have hF:=hFn;clear hFn
   have hFn:=hF
   obtain⟨ap,rfl,JS⟩:=gy.row.1.a6 (by omega)
   have hF:=hFn;clear hFn
   obtain⟨_,_,_,hxd⟩:=md.ob x (List.mem_of_getElem? hx)
   obtain⟨_,_,_,Oh⟩:=gy.ob y (List.mem_of_getElem? hy)
   refine cN<|tK ?_
   rcases Q6 x.o y.o with hxy|⟨hxy,hst|⟨hst,hdt⟩|⟨hst,hdt⟩⟩
   ·have hns:=I4 md gy hid hx hy hxy
    refine cS<|cB 1<|qS hF<|tO 3 0 (e0.blk hm)<|tI 5 ao T.length 40 i (i*40)<|tC 6 (.agg (bl x.o.b x.o.e x.o.ho x.o.go (.slice x.ca 0 x.cc) (.slice x.ba x.o.dt.length x.bc)).toArray) (Calm.load (T:=97) (p:=(Addr.add ao (i*40))) (by kernel_rfl) (Row.ro (md.row.1.ext e0) hx (by kernel_rfl) rfl))<|tN 7 (pV h1.size) ((bl aC (0:Int) false false (.slice none 0 0) (.slice none 0 0)).toArray) 97 fun h3 g4 m5=> ?_
    replace sep:=sep.nw e0.size m5
    refine bG 8 (bl x.o.b x.o.e x.o.ho x.o.go (.slice x.ca 0 x.cc) (.slice x.ba x.o.dt.length x.bc)) m5 fun h6 g7 zq=> ?_
    replace m5:=zq
    refine sT [(6,pV h1.size)] fun a hF=>qS hF ?_
    replace e0:=(e0.ext g4).grew g7 (sep.l 0)
    refine tO 3 0 (e0.blk hm2)<|tI 5 ap T2.length 40 i (i*40)<|tC 6 (.agg (bl y.o.b y.o.e y.o.ho y.o.go (.slice y.ca 0 y.cc) (.slice y.ba y.o.dt.length y.bc)).toArray) (Calm.load (T:=97) (p:=(Addr.add ap (i*40))) (by kernel_rfl) (Row.ro (gy.row.1.ext e0) hy (by kernel_rfl) rfl))<|tN 7 (pV h6.size) ((bl aC (0:Int) false false (.slice none 0 0) (.slice none 0 0)).toArray) 97 fun h8 g9 m10=> ?_
    replace sep:=(sep.up g7.size).nw e0.size m10
    refine bG 8 (bl y.o.b y.o.e y.o.ho y.o.go (.slice y.ca 0 y.cc) (.slice y.ba y.o.dt.length y.bc)) m10 fun h11 g12 zq=> ?_
    replace m10:=zq
    refine sT [(7,pV h6.size)] fun a hF=>cS<|cD [0,1,3,0,8,24,63,127,255,511,1023,255,2303,8191,16383,32767,65535,131071,262143,524287,131071,1179647,3276799,8388607,16777215] 8 mixed hF<|mP 3 [0,1] [pV h1.size,pV h1.size] ?_
    replace m5:=(m5.x g9).y g12 (sep.bp 1 0)
    refine mO 7 4 2 0 (.string x.o.b.id) m5<|mP 31 [3,4] [pV h6.size,pV h6.size]<|mO 63 36 5 0 (.string y.o.b.id) m10<|m1 127 6 (.bool true) (.bool (!(x.o.b.id.toList ==y.o.b.id.toList))) (congrArg (fun b=>Value.bool (!b)) ((eH _ _).trans (decide_eq_false hxy)))<|mP 33554431 [7,8,9,10,11,12,13,14,15,16,17,18,19,20,21,22,23,24] [.bool true,undef,undef,undef,undef,undef,undef,undef,.bool true,.bool true,undef,undef,undef,undef,undef,undef,undef,.bool true]<|mE [(80,.bool true)] fun a hF=>tK ?_
    refine cT 80 hF<|qP [(4,.bool false)] hF fun a hF=>cR (yB (yT (yT (yB (yT ?_)))))
    refine rT 4 (.bool false) hF ?_
    replace e0:=(e0.ext g9).grew g12 (sep.l 0)
    exact⟨congrArg Value.bool (db hns).symm,e0⟩
   ·have hq3:N.f x.o.b.id =some y.o :=hxy▸gy.CU hy
    have hns:=lW (md.CU hx) hq3 (Dz hst)
    refine cS<|cB 1<|qS hF<|tO 3 0 (e0.blk hm)<|tI 5 ao T.length 40 i (i*40)<|tC 6 (.agg (bl x.o.b x.o.e x.o.ho x.o.go (.slice x.ca 0 x.cc) (.slice x.ba x.o.dt.length x.bc)).toArray) (Calm.load (T:=97) (p:=(Addr.add ao (i*40))) (by kernel_rfl) (Row.ro (md.row.1.ext e0) hx (by kernel_rfl) rfl))<|tN 7 (pV h1.size) ((bl aC (0:Int) false false (.slice none 0 0) (.slice none 0 0)).toArray) 97 fun h13 g14 m15=> ?_
    replace sep:=sep.nw e0.size m15
    refine bG 8 (bl x.o.b x.o.e x.o.ho x.o.go (.slice x.ca 0 x.cc) (.slice x.ba x.o.dt.length x.bc)) m15 fun h16 g17 zq=> ?_
    replace m15:=zq
    refine sT [(6,pV h1.size)] fun a hF=>qS hF ?_
    replace e0:=(e0.ext g14).grew g17 (sep.l 0)
    refine tO 3 0 (e0.blk hm2)<|tI 5 ap T2.length 40 i (i*40)<|tC 6 (.agg (bl y.o.b y.o.e y.o.ho y.o.go (.slice y.ca 0 y.cc) (.slice y.ba y.o.dt.length y.bc)).toArray) (Calm.load (T:=97) (p:=(Addr.add ap (i*40))) (by kernel_rfl) (Row.ro (gy.row.1.ext e0) hy (by kernel_rfl) rfl))<|tN 7 (pV h16.size) ((bl aC (0:Int) false false (.slice none 0 0) (.slice none 0 0)).toArray) 97 fun h18 g19 m20=> ?_
    replace sep:=(sep.up g17.size).nw e0.size m20
    refine bG 8 (bl y.o.b y.o.e y.o.ho y.o.go (.slice y.ca 0 y.cc) (.slice y.ba y.o.dt.length y.bc)) m20 fun h21 g22 zq=> ?_
    replace m20:=zq
    refine sT [(7,pV h16.size)] fun a hF=>cS<|cD [0,1,3,0,8,24,63,127,255,511,1023,255,2303,8191,16383,32767,65535,131071,262143,524287,131071,1179647,3276799,8388607,16777215] 8 mixed hF<|mP 3 [0,1] [pV h1.size,pV h1.size] ?_
    replace m15:=(m15.x g19).y g22 (sep.bp 1 0)
    refine mO 7 4 2 0 (.string x.o.b.id) m15<|mP 31 [3,4] [pV h16.size,pV h16.size]<|mO 63 36 5 0 (.string y.o.b.id) m20<|m1 127 6 (.bool false) (.bool (!(x.o.b.id.toList ==y.o.b.id.toList))) (congrArg (fun b=>Value.bool (!b)) ((eH _ _).trans (decide_eq_true hxy)))<|mP 511 [7,8] [.bool false,pV h1.size]<|mQ 1023 548 9 0 (rc x.o.b x.o.e x.o.ho x.o.go (.slice x.ca 0 x.cc)) m15<|mP 3071 [11] [pV h16.size] ?_
    refine mQ 7167 4644 12 0 (rc y.o.b y.o.e y.o.ho y.o.go (.slice y.ca 0 y.cc)) m20<|gA 8191 2047 10 [12] (Does.call (f:=46) (args:= #[.agg (rc x.o.b x.o.e x.o.ho x.o.go (.slice x.ca 0 x.cc)).toArray]) (by kernel_rfl) (dR _ x.o.b x.o.e x.o.ho x.o.go (.slice x.ca 0 x.cc))) ?_
    rintro _ jK ⟨rfl,g23⟩
    replace m20:=m20.x g23
    refine⟨?_,?_⟩
    ·intro j hj
     simp only[List.mem_cons,List.not_mem_nil,or_false] at hj
     subst hj
     exact aL (Calm.load (T:=95) (p:=⟨h16.size,0,none⟩) (by kernel_rfl) (Loads.blk (vs:=rc y.o.b y.o.e y.o.ho y.o.go (.slice y.ca 0 y.cc)) (by kernel_rfl) m20 rfl))
    refine fW 16383 16383 13 (dR _ y.o.b y.o.e y.o.ho y.o.go (.slice y.ca 0 y.cc)) ?_
    rintro _ nN ⟨rfl,gB⟩
    refine mF 32767 14 (.bool true) (Calm.AY (q:=false) (r:=false) (by kernel_rfl) fun w=>(ed x.o.b x.o.e x.o.ho x.o.go y.o.b y.o.e y.o.ho y.o.go w).trans (congrArg (fun b=>Result.ok b w) hst))<|mP 33554431 [15,16,17,18,19,20,21,22,23,24] [.bool true,.bool true,undef,undef,undef,undef,undef,undef,undef,.bool true]<|mE [(80,.bool true)] fun a hF=>tK<|cT 80 hF<|qP [(4,.bool false)] hF fun a hF=>cR (yB (yT (yT (yB (yT ?_)))))
    refine rT 4 (.bool false) hF ?_
    replace e0:=(((e0.ext g19).grew g22 (sep.l 0)).ext g23).ext gB
    exact⟨congrArg Value.bool (db hns).symm,e0⟩
   ·have hq3:N.f x.o.b.id =some y.o :=hxy▸gy.CU hy
    have hns:=lW (md.CU hx) hq3 (DA hdt)
    refine cS<|cB 1<|qS hF<|tO 3 0 (e0.blk hm)<|tI 5 ao T.length 40 i (i*40)<|tC 6 (.agg (bl x.o.b x.o.e x.o.ho x.o.go (.slice x.ca 0 x.cc) (.slice x.ba x.o.dt.length x.bc)).toArray) (Calm.load (T:=97) (p:=(Addr.add ao (i*40))) (by kernel_rfl) (Row.ro (md.row.1.ext e0) hx (by kernel_rfl) rfl))<|tN 7 (pV h1.size) ((bl aC (0:Int) false false (.slice none 0 0) (.slice none 0 0)).toArray) 97 fun h27 fe ju=> ?_
    replace sep:=sep.nw e0.size ju
    refine bG 8 (bl x.o.b x.o.e x.o.ho x.o.go (.slice x.ca 0 x.cc) (.slice x.ba x.o.dt.length x.bc)) ju fun h30 eE zq=> ?_
    replace ju:=zq
    refine sT [(6,pV h1.size)] fun a hF=>qS hF ?_
    replace e0:=(e0.ext fe).grew eE (sep.l 0)
    refine tO 3 0 (e0.blk hm2)<|tI 5 ap T2.length 40 i (i*40)<|tC 6 (.agg (bl y.o.b y.o.e y.o.ho y.o.go (.slice y.ca 0 y.cc) (.slice y.ba y.o.dt.length y.bc)).toArray) (Calm.load (T:=97) (p:=(Addr.add ap (i*40))) (by kernel_rfl) (Row.ro (gy.row.1.ext e0) hy (by kernel_rfl) rfl))<|tN 7 (pV h30.size) ((bl aC (0:Int) false false (.slice none 0 0) (.slice none 0 0)).toArray) 97 fun h32 gM rV=> ?_
    replace sep:=(sep.up eE.size).nw e0.size rV
    refine bG 8 (bl y.o.b y.o.e y.o.ho y.o.go (.slice y.ca 0 y.cc) (.slice y.ba y.o.dt.length y.bc)) rV fun h35 oT zq=> ?_
    replace rV:=zq
    refine sT [(7,pV h30.size)] fun a hF=>cS<|cD [0,1,3,0,8,24,63,127,255,511,1023,255,2303,8191,16383,32767,65535,131071,262143,524287,131071,1179647,3276799,8388607,16777215] 8 mixed hF<|mP 3 [0,1] [pV h1.size,pV h1.size] ?_
    replace ju:=(ju.x gM).y oT (sep.bp 1 0)
    refine mO 7 4 2 0 (.string x.o.b.id) ju<|mP 31 [3,4] [pV h30.size,pV h30.size]<|mO 63 36 5 0 (.string y.o.b.id) rV<|m1 127 6 (.bool false) (.bool (!(x.o.b.id.toList ==y.o.b.id.toList))) (congrArg (fun b=>Value.bool (!b)) ((eH _ _).trans (decide_eq_true hxy)))<|mP 511 [7,8] [.bool false,pV h1.size]<|mQ 1023 548 9 0 (rc x.o.b x.o.e x.o.ho x.o.go (.slice x.ca 0 x.cc)) ju<|mP 3071 [11] [pV h30.size] ?_
    refine mQ 7167 4644 12 0 (rc y.o.b y.o.e y.o.ho y.o.go (.slice y.ca 0 y.cc)) rV<|gA 8191 2047 10 [12] (Does.call (f:=46) (args:= #[.agg (rc x.o.b x.o.e x.o.ho x.o.go (.slice x.ca 0 x.cc)).toArray]) (by kernel_rfl) (dR _ x.o.b x.o.e x.o.ho x.o.go (.slice x.ca 0 x.cc))) ?_
    rintro _ h38 ⟨rfl,kF⟩
    replace rV:=rV.x kF
    refine⟨?_,?_⟩
    ·intro j hj
     simp only[List.mem_cons,List.not_mem_nil,or_false] at hj
     subst hj
     exact aL (Calm.load (T:=95) (p:=⟨h30.size,0,none⟩) (by kernel_rfl) (Loads.blk (vs:=rc y.o.b y.o.e y.o.ho y.o.go (.slice y.ca 0 y.cc)) (by kernel_rfl) rV rfl))
    refine fW 16383 16383 13 (dR _ y.o.b y.o.e y.o.ho y.o.go (.slice y.ca 0 y.cc)) ?_
    rintro _ AT ⟨rfl,fX⟩
    refine mF 32767 14 (.bool false) (Calm.AY (q:=false) (r:=true) (by kernel_rfl) fun w=>(ed x.o.b x.o.e x.o.ho x.o.go y.o.b y.o.e y.o.ho y.o.go w).trans (congrArg (fun b=>Result.ok b w) hst))<|mP 262143 [15,16,17] [.bool false,.bool false,.pointer (some ⟨h1.size,39,none⟩)] ?_
    replace ju:=(ju.x kF).x fX
    refine mO 524287 266788 18 39 (.slice x.ba x.o.dt.length x.bc) ju ?_
    replace e0:=(((e0.ext gM).grew oT (sep.l 0)).ext kF).ext fX
    refine mL 1048575 791076 19 (.string (ByteArray.mk x.o.dt.toArray)) (Calm.str (l:=x.o.dt) (by kernel_rfl) (hxd.1.1.ext e0))<|mP 2097151 [20] [.pointer (some ⟨h30.size,39,none⟩)] ?_
    replace rV:=rV.x fX
    refine mO 4194303 2888228 21 39 (.slice y.ba y.o.dt.length y.bc) rV<|mL 8388607 7082532 22 (.string (ByteArray.mk y.o.dt.toArray)) (Calm.str (l:=y.o.dt) (by kernel_rfl) (Oh.1.1.ext e0))<|m1 16777215 23 (.bool true) (.bool (!((ByteArray.mk x.o.dt.toArray).toList ==(ByteArray.mk y.o.dt.toArray).toList))) (congrArg Value.bool (pX hdt))<|mP 33554431 [24] [.bool true]<|mE [(80,.bool true)] fun a hF=>tK<|cT 80 hF ?_
    refine qP [(4,.bool false)] hF fun a hF=>cR (yB (yT (yT (yB (yT ?_)))))
    exact rT 4 (.bool false) hF<|⟨congrArg Value.bool (db hns).symm,e0⟩
   ·have hq3:N.f x.o.b.id =some y.o :=hxy▸gy.CU hy
    refine cS<|cB 1<|qS hF<|tO 3 0 (e0.blk hm)<|tI 5 ao T.length 40 i (i*40)<|tC 6 (.agg (bl x.o.b x.o.e x.o.ho x.o.go (.slice x.ca 0 x.cc) (.slice x.ba x.o.dt.length x.bc)).toArray) (Calm.load (T:=97) (p:=(Addr.add ao (i*40))) (by kernel_rfl) (Row.ro (md.row.1.ext e0) hx (by kernel_rfl) rfl))<|tN 7 (pV h1.size) ((bl aC (0:Int) false false (.slice none 0 0) (.slice none 0 0)).toArray) 97 fun uE gv nO=> ?_
    replace sep:=sep.nw e0.size nO
    refine bG 8 (bl x.o.b x.o.e x.o.ho x.o.go (.slice x.ca 0 x.cc) (.slice x.ba x.o.dt.length x.bc)) nO fun vD gN zq=> ?_
    replace nO:=zq
    refine sT [(6,pV h1.size)] fun a hF=>qS hF ?_
    replace e0:=(e0.ext gv).grew gN (sep.l 0)
    refine tO 3 0 (e0.blk hm2)<|tI 5 ap T2.length 40 i (i*40)<|tC 6 (.agg (bl y.o.b y.o.e y.o.ho y.o.go (.slice y.ca 0 y.cc) (.slice y.ba y.o.dt.length y.bc)).toArray) (Calm.load (T:=97) (p:=(Addr.add ap (i*40))) (by kernel_rfl) (Row.ro (gy.row.1.ext e0) hy (by kernel_rfl) rfl))<|tN 7 (pV vD.size) ((bl aC (0:Int) false false (.slice none 0 0) (.slice none 0 0)).toArray) 97 fun h46 g47 AH=> ?_
    replace sep:=(sep.up gN.size).nw e0.size AH
    refine bG 8 (bl y.o.b y.o.e y.o.ho y.o.go (.slice y.ca 0 y.cc) (.slice y.ba y.o.dt.length y.bc)) AH fun FV nS zq=> ?_
    replace AH:=zq
    refine sT [(7,pV vD.size)] fun a hF=>cS<|cD [0,1,3,0,8,24,63,127,255,511,1023,255,2303,8191,16383,32767,65535,131071,262143,524287,131071,1179647,3276799,8388607,16777215] 8 mixed hF<|mP 3 [0,1] [pV h1.size,pV h1.size] ?_
    replace nO:=(nO.x g47).y nS (sep.bp 1 0)
    refine mO 7 4 2 0 (.string x.o.b.id) nO<|mP 31 [3,4] [pV vD.size,pV vD.size]<|mO 63 36 5 0 (.string y.o.b.id) AH<|m1 127 6 (.bool false) (.bool (!(x.o.b.id.toList ==y.o.b.id.toList))) (congrArg (fun b=>Value.bool (!b)) ((eH _ _).trans (decide_eq_true hxy)))<|mP 511 [7,8] [.bool false,pV h1.size]<|mQ 1023 548 9 0 (rc x.o.b x.o.e x.o.ho x.o.go (.slice x.ca 0 x.cc)) nO<|mP 3071 [11] [pV vD.size] ?_
    refine mQ 7167 4644 12 0 (rc y.o.b y.o.e y.o.ho y.o.go (.slice y.ca 0 y.cc)) AH<|gA 8191 2047 10 [12] (Does.call (f:=46) (args:= #[.agg (rc x.o.b x.o.e x.o.ho x.o.go (.slice x.ca 0 x.cc)).toArray]) (by kernel_rfl) (dR _ x.o.b x.o.e x.o.ho x.o.go (.slice x.ca 0 x.cc))) ?_
    rintro _ Gb ⟨rfl,qf⟩
    replace AH:=AH.x qf
    refine⟨?_,?_⟩
    ·intro j hj
     simp only[List.mem_cons,List.not_mem_nil,or_false] at hj
     subst hj
     exact aL (Calm.load (T:=95) (p:=⟨vD.size,0,none⟩) (by kernel_rfl) (Loads.blk (vs:=rc y.o.b y.o.e y.o.ho y.o.go (.slice y.ca 0 y.cc)) (by kernel_rfl) AH rfl))
    refine fW 16383 16383 13 (dR _ y.o.b y.o.e y.o.ho y.o.go (.slice y.ca 0 y.cc)) ?_
    rintro _ Gc ⟨rfl,kG⟩
    refine mF 32767 14 (.bool false) (Calm.AY (q:=false) (r:=true) (by kernel_rfl) fun w=>(ed x.o.b x.o.e x.o.ho x.o.go y.o.b y.o.e y.o.ho y.o.go w).trans (congrArg (fun b=>Result.ok b w) hst))<|mP 262143 [15,16,17] [.bool false,.bool false,.pointer (some ⟨h1.size,39,none⟩)] ?_
    replace nO:=(nO.x qf).x kG
    refine mO 524287 266788 18 39 (.slice x.ba x.o.dt.length x.bc) nO ?_
    replace e0:=(((e0.ext g47).grew nS (sep.l 0)).ext qf).ext kG
    refine mL 1048575 791076 19 (.string (ByteArray.mk x.o.dt.toArray)) (Calm.str (l:=x.o.dt) (by kernel_rfl) (hxd.1.1.ext e0))<|mP 2097151 [20] [.pointer (some ⟨vD.size,39,none⟩)] ?_
    replace AH:=AH.x kG
    refine mO 4194303 2888228 21 39 (.slice y.ba y.o.dt.length y.bc) AH<|mL 8388607 7082532 22 (.string (ByteArray.mk y.o.dt.toArray)) (Calm.str (l:=y.o.dt) (by kernel_rfl) (Oh.1.1.ext e0))<|m1 16777215 23 (.bool false) (.bool (!((ByteArray.mk x.o.dt.toArray).toList ==(ByteArray.mk y.o.dt.toArray).toList))) (congrArg Value.bool (pY hdt))<|mP 33554431 [24] [.bool false]<|mE [(80,.bool false)] fun a hF=>tK<|cF 80 hF ?_
    refine cN<|bK<|tK<|rS hF<|tA 1 i 1<|sE [(5,nV (i+1))] fun a hF=> ?_
    replace sep:=((sep.up nS.size).up qf.size).up kG.size
    replace sep:=sep.sub (l':=[]) (.cons _ (.cons _ (.slnil)))
    show ∃m',m'<_∧_
    refine⟨_,?_,(i+1),rfl,e0,(by omega),(CV hid hx hy hxy),(AB hall hx (vm (md.CU hx) hq3 ⟨hst,hdt⟩)),sep,hF.to⟩
    omega
  ·refine cX 0 (xT (xT (xB ?_)))
   refine tK<|cS<|qP [(8,.int .i64 0)] hF fun a hF=>cB 2 ?_
   have ef:=rs_all md gy (by omega) (by omega) hid hall
   refine cL (fun m a h'=>∃k:Nat,m=M.E.length - k∧(Ext h h')∧(k≤M.E.length)∧(∀i,i<k→M.E[i]? =N.E[i]?)∧(Fr a 107 [(0,.pointer (some ⟨rb,0,none⟩)),(1,.pointer (some ⟨nb,0,none⟩)),(8,.int .i64 ((k:Nat):Int))])) (M.E.length - 0) ⟨0,rfl,e0,(by omega),(fun i h=>absurd h (Nat.not_lt_zero i)),hF.to⟩ ?_
   clear hF a
   clear e0
   rintro m a E5 ⟨k,rfl,e0,hk,hen,hF⟩
   refine cS<|qS hF<|tO 4 1 (e0.blk hm)<|sT [(87,.bool (decide (((k:Nat):Int)<((M.E.length :Nat):Int))))] fun a hF=>cJ 87 hF (fun zP=> ?_) fun zP=> ?_
   ·have hkn:k<M.E.length :=by omega
    obtain⟨e,he⟩:∃e,M.E[k]? =some e:=⟨_,List.getElem?_eq_getElem hkn⟩
    obtain⟨e2,he2⟩:∃e,N.E[k]? =some e:=⟨_,List.getElem?_eq_getElem (by omega)⟩
    obtain⟨hel,xa,xc,hes,hrx⟩:=md.en.2 k e he
    obtain⟨_,HS,HT,hes2,zT⟩:=gy.en.2 k e2 he2
    have hFn:=hF
    obtain⟨aa,rfl,b3⟩:=md.er.1.1.a6 (by omega)
    have hF:=hFn;clear hFn
    have hFn:=hF
    obtain⟨lX,rfl,nB⟩:=gy.er.1.1.a6 (by omega)
    have hF:=hFn;clear hFn
    refine cN<|tK<|cS<|cB 3<|cS ?_
    rcases Classical.em (e=e2) with hee|hee
    ·refine cD [0,1,3,7,0,31,63,127,0,256,768,1792,0,7936,16128,32512,65535] 13 mixed hF<|mP 7 [0,1,2] [pV rb,pV rb,.pointer (some ⟨rb,1,none⟩)]<|mO 15 8 3 1 (.slice (some aa) M.E.length ec) (e0.blk hm)<|mP 31 [4] [nV k]<|mI 63 5 aa M.E.length 1 k k<|mL 127 72 6 (.slice xa e.length xc) (Calm.load (T:=32) (p:=(Addr.add aa k)) (by kernel_rfl) (Loads.one (k:=1) (by kernel_rfl) ((md.er.1.1.ext e0).cells _ _ hes)))<|mL 255 200 7 (.string (ByteArray.mk e.toArray)) (Calm.str (l:=e) (by kernel_rfl) (hrx.1.1.ext e0)) ?_
     refine mP 2047 [8,9,10] [pV nb,pV nb,.pointer (some ⟨nb,1,none⟩)]<|mO 4095 2248 11 1 (.slice (some lX) N.E.length ke) (e0.blk hm2)<|mP 8191 [12] [nV k]<|mI 16383 13 lX N.E.length 1 k k<|mL 32767 18632 14 (.slice HS e2.length HT) (Calm.load (T:=32) (p:=(Addr.add lX k)) (by kernel_rfl) (Loads.one (k:=1) (by kernel_rfl) ((gy.er.1.1.ext e0).cells _ _ hes2)))<|mL 65535 51400 15 (.string (ByteArray.mk e2.toArray)) (Calm.str (l:=e2) (by kernel_rfl) (zT.1.1.ext e0))<|m1 131071 16 (.bool false) (.bool (!((ByteArray.mk e.toArray).toList ==(ByteArray.mk e2.toArray).toList))) (congrArg Value.bool (pY hee)) ?_
     refine mE [(106,.bool false)] fun a hF=>tK<|cF 106 hF<|cN<|bK<|tK<|rS hF ?_
     refine tA 1 k 1<|sE [(8,nV (k+1))] fun a hF=> ?_
     show ∃m',m'<_∧_
     refine⟨_,?_,(k+1),rfl,e0,(by omega),(pd hen (by rw[he,he2,hee])),hF.to⟩
     omega
    ·have hns:=zR he he2 hee
     refine cD [0,1,3,7,0,31,63,127,0,256,768,1792,0,7936,16128,32512,65535] 13 mixed hF<|mP 7 [0,1,2] [pV rb,pV rb,.pointer (some ⟨rb,1,none⟩)]<|mO 15 8 3 1 (.slice (some aa) M.E.length ec) (e0.blk hm)<|mP 31 [4] [nV k]<|mI 63 5 aa M.E.length 1 k k<|mL 127 72 6 (.slice xa e.length xc) (Calm.load (T:=32) (p:=(Addr.add aa k)) (by kernel_rfl) (Loads.one (k:=1) (by kernel_rfl) ((md.er.1.1.ext e0).cells _ _ hes)))<|mL 255 200 7 (.string (ByteArray.mk e.toArray)) (Calm.str (l:=e) (by kernel_rfl) (hrx.1.1.ext e0)) ?_
     refine mP 2047 [8,9,10] [pV nb,pV nb,.pointer (some ⟨nb,1,none⟩)]<|mO 4095 2248 11 1 (.slice (some lX) N.E.length ke) (e0.blk hm2)<|mP 8191 [12] [nV k]<|mI 16383 13 lX N.E.length 1 k k<|mL 32767 18632 14 (.slice HS e2.length HT) (Calm.load (T:=32) (p:=(Addr.add lX k)) (by kernel_rfl) (Loads.one (k:=1) (by kernel_rfl) ((gy.er.1.1.ext e0).cells _ _ hes2)))<|mL 65535 51400 15 (.string (ByteArray.mk e2.toArray)) (Calm.str (l:=e2) (by kernel_rfl) (zT.1.1.ext e0))<|m1 131071 16 (.bool true) (.bool (!((ByteArray.mk e.toArray).toList ==(ByteArray.mk e2.toArray).toList))) (congrArg Value.bool (pX hee)) ?_
     refine mE [(106,.bool true)] fun a hF=>tK<|cT 106 hF<|qP [(4,.bool false)] hF fun a hF=>cR (yB (yT (yT (yB (yT ?_)))))
     exact rT 4 (.bool false) hF<|⟨congrArg Value.bool (db hns).symm,e0⟩
   ·refine cX 2 (xT (xT (xB ?_)))
    exact tK<|qP [(4,.bool true)] hF fun a hF=>cR<|rT 4 (.bool true) hF<|⟨congrArg Value.bool (ie ⟨ef,rK hEl hen (by omega)⟩).symm,e0⟩
 ·have hns:=tx hEl
  refine cD [0,1,3,7,15,0,32,96,224,480,1023,2047,4095,8191,16383,32767,65535,4095,135167,397311,921599,1970175,4194303,8388607] 1 mixed hF<|mP 7 [0,1,2] [pV rb,pV rb,pV rb]<|mO 15 8 3 0 (.slice oa T.length oc) (e0.blk hm)<|mP 255 [4,5,6,7] [nV T.length,pV nb,pV nb,pV nb]<|mO 511 264 8 0 (.slice FL T2.length FM) (e0.blk hm2)<|mP 1023 [9] [nV T2.length]<|Nb 2047 10 ((T.length :Nat):Int) ((T2.length :Nat):Int) ?_
  refine mP 16777215 [11,12,13,14,15,16,17,18,19,20,21,22,23] [.bool true,undef,undef,undef,undef,undef,undef,undef,undef,undef,undef,undef,.bool true]<|mE [(32,.bool true)] fun a hF=>tK<|cT 32 hF<|qP [(4,.bool false)] hF fun a hF=>cR (yT ?_)
  exact rT 4 (.bool false) hF<|⟨congrArg Value.bool (db hns).symm,e0⟩
end Go.Proofs.YtegkejcglfgpmaaGreatDoor
end
section
namespace Go.aT
open Go Go.an
theorem w4(x:RB)(e:Int)(ho go:Bool)(x':RB)(e':Int)(ho' go':Bool):ep x e ho go x' e' ho' go'=ep x' e' ho' go' x e ho go:=by
  have hb:∀a b:Int,(a==b)=(b==a):=fun a b=>Bool.eq_iff_iff.2 (by simp only[beq_iff_eq];exact eq_comm)
  have hc:∀a b:Bool,(a==b)=(b==a):=fun a b=>by cases a<;>cases b<;>rfl
  have hd:decide (hl x=hl x')=decide (hl x'=hl x):=decide_eq_decide.2 eq_comm
  unfold ep;rw[hb x.len,hd,hb x.idx,hb e,hc ho,hc go]
theorem eY.symm{M N:Md}(q:eY M N):eY N M:=⟨fun s=>by
  have:=q.1 s
  cases h1:M.f s<;>cases h2:N.f s<;>rw[h1,h2] at this<;>first|trivial|exact this.elim |exact⟨(w4 ..).trans this.1,this.2.symm⟩,q.2.symm⟩
theorem ui(M N:Md):cd M N=cd N M:=by
  by_cases h:eY M N
  · rw[ie h,ie h.symm]
  · rw[db h,db fun k=>h k.symm]
theorem bF.other{W W2:Nat→Prop}{h h':Heap}{rb nb:Nat}{M N:Md}(m:bF W h rb M)(g:RG nb h h')(k:bF W2 h nb N)(hne:rb≠nb):bF W h' rb M:=by
  obtain⟨_,_,_,_,_,_,k⟩:=k
  exact m.fr g (fun i e=>e▸⟨.inl (bf.cells k.hm (by decide)),lH.cells k.hm (by decide)⟩) hne
end Go.aT
namespace Go.Proofs.YtegkejcglfgpmaaGreatDoor
open Go Go.an Go.aT
theorem nJ(h:Heap)(rb:Nat)(M:Md)(m:bF (fun _=>False) h rb M)(kd n:Int)(s:ByteArray)(l:List UInt8)(oa:Option Addr)(oc:Nat)(ka:Option Addr)(kn kc:Nat)(hr:Row h (.slice oa l.length oc) l.length 1 (l.map bv))(hsz:s.size ≤9223372036854775807)(hE:M.E.length ≤1099511627)(N:Md)(X:An)(hs:step M kd n s l=(N,X)):
    Sat Tryz.prog 18 #[.pointer (some ⟨rb,0,none⟩), .agg #[.int .i64 kd, .string s, .slice oa l.length oc, .int .i64 n, .slice ka kn kc]] h fun v h'=>∃qa qc ia ic pa pc,v=wk X (.slice qa X.b.length qc) (.slice ia X.i.length ic) (.slice pa X.p.length pc)∧
      aR h' (.slice qa X.b.length qc) X.b.length 1 (X.b.map bv)∧aR h' (.slice ia X.i.length ic) X.i.length 1 (X.i.map Value.string)∧aR h' (.slice pa X.p.length pc) X.p.length 32 (hcs X.p)∧aB X.p ∧bF (fun _=>False) h' rb N∧RG rb h h':=by
  obtain⟨T,ra,rc,ea,ec,es,md⟩:=m
  refine(CQ h rb M T ra rc ea ec es md (fun _ e=>e.elim) kd n s l oa oc ka kn kc hr hsz hE).mono fun v h' ⟨a,m',g⟩=> ?_
  rw[hs] at a m'
  obtain⟨qa,qc,ia,ic,pa,pc,e,r1,r2,r3,r4⟩:=a
  exact⟨qa,qc,ia,ic,pa,pc,e,r1,r2,r3,r4,m',g⟩
theorem AI(h:Heap)(rb:Nat)(M:Md)(m:bF (fun _=>False) h rb M)(hE:M.E.length ≤1099511627):Sat Tryz.prog 24 #[.pointer (some ⟨rb,0,none⟩)] h fun v h'=>∃c,v= .pointer (some ⟨c,0,none⟩)∧bF (fun _=>False) h' c M∧h.size ≤c∧Ext h h':=by
  obtain⟨T,ra,rc,ea,ec,es,md⟩:=m
  exact AD h rb M T ra rc ea ec es md (fun _ e=>e.elim) hE
theorem p8(h:Heap)(mb mp:Nat)(M:Md)(m:Mod h mb mp M)(nb np:Nat)(N:Md)(n:Mod h nb np N)(hl:M.E.length ≤1099511627):Sat Tryz.prog 25 #[.pointer (some ⟨mb,0,none⟩), .pointer (some ⟨nb,0,none⟩)] h fun v h'=>v= .bool (cd M N)∧Ext h h':=by
  obtain⟨L,ck,ea,ec,es,m⟩:=m
  obtain⟨L2,ck2,lI,ke,es2,n⟩:=n
  exact nA h mb mp M L ck ea ec es m nb np N L2 ck2 lI ke es2 n (by omega)
theorem uj(h:Heap)(mb mp:Nat)(M:Md)(m:Mod h mb mp M)(nb np:Nat)(N:Md)(n:Mod h nb np N)(hl:M.E.length ≤1099511627):Sat Tryz.prog 25 #[.pointer (some ⟨mb,0,none⟩), .pointer (some ⟨nb,0,none⟩)] h fun v h'=>v= .bool (cd N M)∧Ext h h':=by
  rw[ui];exact p8 h mb mp M m nb np N n hl
theorem iQ(h:Heap)(rb:Nat)(M:Md)(m:bF (fun _=>False) h rb M)(nb:Nat)(N:Md)(n:bF (fun _=>False) h nb N)(hl:M.E.length ≤1099511627):Sat Tryz.prog 26 #[.pointer (some ⟨rb,0,none⟩), .pointer (some ⟨nb,0,none⟩)] h fun v h'=>v= .bool (cd M N)∧Ext h h':=by
  obtain⟨T,ra,rc,ea,ec,es,m⟩:=m
  obtain⟨T2,Q7,Mu,lI,ke,es2,n⟩:=n
  exact w3 h rb M T ra rc ea ec es m nb N T2 Q7 Mu lI ke es2 n hl
end Go.Proofs.YtegkejcglfgpmaaGreatDoor
end
section
namespace Go.Proofs.YtegkejcglfgpmaaGreatDoor
open Go Go.an Go.aT
noncomputable def b7:Code:=Tryz.f7.body.getD .skip
set_option maxHeartbeats 2000000 in
set_option maxRecDepth 10000 in
theorem uk(h:Heap)(L:List lG)(la:Option Addr)(MX:Nat)(hll:Row h (.slice la L.length MX) L.length 5 (g' L))(ho:∀o∈L,j6 h o)(Q8:L.length ≤1048576)(U:List lG)(ua:Option Addr)(AJ:Nat)(hu:Row h (.slice ua U.length AJ) U.length 5 (g' U))(hp:∀o∈U,j6 h o)(hub:U.length ≤1048576)(V:List lG)(va:Option Addr)(AK:Nat)(hv:Row h (.slice va V.length AK) V.length 5 (g' V))(hq:∀o∈V,j6 h o)(hvb:V.length ≤1048576)(kt:bH h):Sat Tryz.prog 7 #[.slice la L.length MX,.slice ua U.length AJ,.slice va V.length AK] h fun v h'=>v= .bool true∧Ext h h':=by
 have e0:=Ext.refl h
 have dL:=kt.lt
 have sep:Sep h.size h.size []:=Sep.nil _ _
 refine ak Tryz.func7 138 fun a hF=>qP [] hF fun a hF=>qS hF<|tG 0 (wR _ kt) ?_
 rintro _ h2 ⟨rfl,g1⟩
 refine sT [(7,.bool true)] fun a hF=>cS<|qP [(16,.bool false)] hF fun a hF=>cF 16 hF<|cN<|tK<|qS hF ?_
 replace e0:=e0.ext g1
 refine tG 0 (zQ _ (by have:=e0.size;omega)) ?_
 rintro _ h5 ⟨mb,mp,rfl,hM,hb3,hp4,g⟩
 have hs6:=e0.size
 replace kt:=kt.ext g1
 replace sep:=sep.up g1.size
 replace e0:=e0.ext g
 replace kt:=kt.ext g
 replace sep:=sep.up g.size
 clear g
 refine sT [(8,pV mb)] fun a hF=>qS hF ?_
 have lb8:=hM.kb
 refine tG 0 (FB _ (by have:=e0.size;omega)) ?_
 rintro _ h9 ⟨rb,rfl,hR,hb7,g⟩
 have hs10:=e0.size
 replace e0:=e0.ext g
 replace kt:=kt.ext g
 replace hM:=hM.ext g
 replace sep:=sep.up g.size
 clear g
 refine sT [(9,pV rb)] fun a hF=>cS<|qP [(10,.int .i64 0)] hF fun a hF=>cB 0 ?_
 clear sep
 refine cL (fun m a h'=>∃k:Nat,∃R:Md,m=L.length - k∧(Ext h h')∧(bH h')∧(k≤L.length)∧(R.E.length ≤k)∧(Mod h' mb mp R)∧(bF (fun _=>False) h' rb R)∧(Fr a 138 [(0,.slice la L.length MX),(1,.slice ua U.length AJ),(2,.slice va V.length AK),(7,.bool true),(8,.pointer (some ⟨mb,0,none⟩)),(9,.pointer (some ⟨rb,0,none⟩)),(10,.int .i64 ((k:Nat):Int))])) (L.length - 0) ⟨0,M0,rfl,e0,kt,(by omega),(Nat.le_refl _),hM,hR,hF.to⟩ ?_
 clear hF a
 clear e0
 clear kt
 clear hM
 clear hR
 rintro m a h11 ⟨k,R,rfl,e0,kt,hk,hEk,hM,hR,hF⟩
 have sep:Sep h.size h11.size []:=Sep.nil _ _
 refine cS<|qP [(22,.bool (decide (((k:Nat):Int)<((L.length :Nat):Int))))] hF fun a hF=>cJ 22 hF (fun hc12=> ?_) fun hc12=> ?_
 ·have kX:k<L.length :=by omega
  have hFn:=hF
  obtain⟨al,rfl,CG⟩:=hll.a6 (by omega)
  have hF:=hFn;clear hFn
  obtain⟨x,hx⟩:∃x,L.getD k pH=x:=⟨_,rfl⟩
  have hox:j6 h x:=hx▸j7 ho kX
  obtain⟨N,X,hs⟩:∃N X,step R x.kd x.n x.s x.l =(N,X):=⟨_,_,rfl⟩
  refine cN<|tK<|cS<|cB 1<|qS hF<|tI 3 al L.length 5 k (k*5)<|tC 4 (.agg #[.int .i64 x.kd,.string x.s,.slice x.oa x.l.length x.oc,.int .i64 x.n,.slice x.ka x.kn x.kc]) (Calm.load (T:=35) (p:=(Addr.add al (k*5))) (by kernel_rfl) (cV hx (hll.ext e0) (by kernel_rfl) kX (by first|rfl|omega))) ?_
  have Q9:=hM.kb
  have Q_:=hR.kb
  refine tG 5 (lj _ mb mp R hM x.kd x.n x.s x.l _ _ x.ka x.kn x.kc (hox.ext e0).1 hox.2 kt (by omega) N X hs) ?_
  rintro _ h21 ⟨Q',Ra,Rb,Rc,Re,Rf,rfl,_,_,_,_,m2,gm⟩
  replace hR:=hR.mg gm hM
  replace e0:=Gr.cY e0 gm (by rintro i (e|e)<;>omega);replace kt:=kt.gr gm (by rintro(e|e)<;>omega)
  replace sep:=sep.up gm.1;clear hM;have hM:Mod h21 mb mp N:=m2;clear m2 gm
  refine sT [] fun a hF=>rS hF<|tI 3 al L.length 5 k (k*5)<|tC 4 (.agg #[.int .i64 x.kd,.string x.s,.slice x.oa x.l.length x.oc,.int .i64 x.n,.slice x.ka x.kn x.kc]) (Calm.load (T:=35) (p:=(Addr.add al (k*5))) (by kernel_rfl) (cV hx (hll.ext e0) (by kernel_rfl) kX (by first|rfl|omega))) ?_
  have Rg:=hM.kb
  have Rh:=hR.kb
  refine tG 5 (nJ _ rb R hR x.kd x.n x.s x.l _ _ x.ka x.kn x.kc (hox.ext e0).1 hox.2 (by omega) N X hs) ?_
  rintro _ h30 ⟨Ri,Rj,Rk,Rl,pa26,pc27,rfl,_,_,_,_,m2,gm⟩
  replace hM:Mod h30 mb mp N:=hM.rg gm hR
  replace e0:=Gr.cY e0 gm (by rintro i rfl;omega);replace kt:=kt.gr gm (by intro e;omega)
  replace sep:=sep.up gm.1;clear hR;have hR:bF (fun _=>False) h30 rb N:=m2;clear m2 gm
  refine sE [] fun a hF=>bK<|tK<|rS hF<|tA 1 k 1<|sE [(10,nV (k+1))] fun a hF=> ?_
  have Oi:=fl R x.kd x.n x.s x.l;rw[hs] at Oi
  have hEc:N.E.length ≤R.E.length +1:=Oi
  show ∃m',m'<_∧_
  refine⟨_,?_,(k+1),N,rfl,e0,kt,(by omega),(by omega),hM,hR,hF.to⟩
  omega
 ·refine cX 0 (xT (xT (xB ?_)))
  refine tK<|qS hF ?_
  have hER:R.E.length ≤1048576:=by omega
  have L7:=hM.kb
  have Rm:=hR.kb
  refine tG 1 (vo _ mb mp R hM (by omega)) ?_
  rintro _ h35 ⟨nb,np,rfl,hX,EF,Rn,g⟩
  have Ro:=e0.size
  replace e0:=e0.ext g
  replace kt:=kt.ext g
  replace hM:=hM.ext g
  replace hR:=hR.ext g
  replace sep:=sep.up g.size
  clear g
  refine sT [(11,pV nb)] fun a hF=>qS hF ?_
  have Rp:=hM.kb
  have Rq:=hR.kb
  have Rr:=hX.kb
  refine tG 1 (AI _ rb R hR (by omega)) ?_
  rintro _ uE ⟨cb,rfl,hY,Rs,g⟩
  have Rt:=e0.size
  replace e0:=e0.ext g
  replace kt:=kt.ext g
  replace hM:=hM.ext g
  replace hR:=hR.ext g
  replace hX:=hX.ext g
  replace sep:=sep.up g.size
  clear g
  refine sT [(12,pV cb)] fun a hF=>cS<|qS hF<|tG 5 (tM _ mb mp R hM nb np hX (by omega)) ?_
  rintro _ vD ⟨rfl,ly⟩
  replace hM:=hM.ext ly
  replace hX:=hX.ext ly
  refine tG 11 (tM _ nb np R hX mb mp hM (by omega)) ?_
  rintro _ h46 ⟨rfl,gN⟩
  replace hX:=hX.ext gN
  refine tC 16 (.int .i64 R.t) (Does.call (f:=20) (args:= #[pV nb]) (by kernel_rfl) (DE _ nb np R hX)) ?_
  replace hM:=hM.ext gN
  refine tC 18 (.int .i64 R.t) (Does.call (f:=20) (args:= #[pV mb]) (by kernel_rfl) (DE _ mb mp R hM))<|uF 19 R.t R.t <|sT [(61,.bool false)] fun a hF=>cF 61 hF<|cN<|tK<|cS ?_
  refine qP [(13,.int .i64 0)] hF fun a hF=>cB 2 ?_
  clear sep
  replace e0:=(e0.ext ly).ext gN
  replace kt:=(kt.ext ly).ext gN
  replace hR:=(hR.ext ly).ext gN
  replace hY:=(hY.ext ly).ext gN
  refine cL (fun m a h'=>∃k:Nat,∃M1:Md,∃M2:Md,m=U.length +V.length - k∧(Ext h h')∧(bH h')∧(k≤U.length +V.length)∧(M1.E.length ≤1048576+k)∧(M2.E.length ≤1048576+k)∧(Mod h' mb mp M1)∧(Mod h' nb np M2)∧(bF (fun _=>False) h' rb M1)∧(bF (fun _=>False) h' cb M2)∧(Fr a 138 [(1,.slice ua U.length AJ),(2,.slice va V.length AK),(7,.bool true),(8,.pointer (some ⟨mb,0,none⟩)),(9,.pointer (some ⟨rb,0,none⟩)),(11,.pointer (some ⟨nb,0,none⟩)),(12,.pointer (some ⟨cb,0,none⟩)),(13,.int .i64 ((k:Nat):Int))])) (U.length +V.length - 0) ⟨0,R,R,rfl,e0,kt,(by omega),(by omega),(by omega),hM,hX,hR,hY,hF.to⟩ ?_
  clear hF a
  clear e0
  clear kt
  clear hM
  clear hX
  clear hR
  clear hY
  rintro m a h47 ⟨k,M1,M2,rfl,e0,kt,hk,hE1,hE2,hM,hX,hR,hY,hF⟩
  have sep:Sep h.size h47.size []:=Sep.nil _ _
  refine cS<|cS ?_
  rcases(by omega:(k<U.length ∧k<V.length)∨(k<U.length ∧¬k<V.length)∨(¬k<U.length ∧k<V.length)∨(¬k<U.length ∧¬k<V.length)) with⟨MY,hkv⟩|⟨MY,hkv⟩|⟨MY,hkv⟩|⟨MY,hkv⟩
  ·have kX:k<U.length :=by omega
   have hFn:=hF
   obtain⟨au,rfl,CY⟩:=hu.a6 (by omega)
   have hF:=hFn;clear hFn
   obtain⟨x,hx⟩:∃x,U.getD k pH=x:=⟨_,rfl⟩
   have hox:j6 h x:=hx▸j7 hp kX
   obtain⟨N1,X1,hs1⟩:∃N X,step M1 x.kd x.n x.s x.l =(N,X):=⟨_,_,rfl⟩
   have p9:k<V.length :=by omega
   have hFn:=hF
   obtain⟨av,rfl,CZ⟩:=hv.a6 (by omega)
   have hF:=hFn;clear hFn
   obtain⟨z,hz⟩:∃x,V.getD k pH=x:=⟨_,rfl⟩
   have C0:j6 h z:=hz▸j7 hq p9
   obtain⟨N2,X2,hs2⟩:∃N X,step M2 z.kd z.n z.s z.l =(N,X):=⟨_,_,rfl⟩
   refine rS hF<|tT 3 (((k:Nat):Int)<((U.length :Nat):Int))<|sE [(71,.bool true)] fun a hF=>tK<|cT 71 hF<|cN<|tK ?_
   refine cS<|cB 3<|cS<|cS<|cD [0,0,2,7,15,31,31,31,223,479,1023,31,31,31,12319,28703,65535,131071,262143,524287,1048575,2097151,2097151,6291455,16777215,33554431,67108863,67108863,67108863,469762047,1006632959,2147483647,67108863,67108863,67108863,25836912639,60196651007,137438953471,274877906943,549755813887,1099511627775,2199023255551] 18 mixed hF<|mP 7 [0,1,2] [nV k,.slice (some au) U.length AJ,nV U.length]<|FQ 15 3 (((k:Nat):Int)<((U.length :Nat):Int)) ?_
   refine mP 255 [4,5,6,7] [.bool true,pV mb,.slice (some au) U.length AJ,nV k]<|mI 511 8 au U.length 5 k (k*5)<|mL 1023 512 9 (.agg #[.int .i64 x.kd,.string x.s,.slice x.oa x.l.length x.oc,.int .i64 x.n,.slice x.ka x.kn x.kc]) (Calm.load (T:=35) (p:=(Addr.add au (k*5))) (by kernel_rfl) (cV hx (hu.ext e0) (by kernel_rfl) kX (by first|rfl|omega)))<|mP 15359 [11,12,13] [pV rb,.slice (some au) U.length AJ,nV k]<|mI 31743 14 au U.length 5 k (k*5)<|mL 64511 33280 15 (.agg #[.int .i64 x.kd,.string x.s,.slice x.oa x.l.length x.oc,.int .i64 x.n,.slice x.ka x.kn x.kc]) (Calm.load (T:=35) (p:=(Addr.add au (k*5))) (by kernel_rfl) (cV hx (hu.ext e0) (by kernel_rfl) kX (by first|rfl|omega))) ?_
   have MZ:X1.i.length ≤M1.E.length ∧X1.p.length ≤M1.E.length :=by have:=g_ hM x.kd x.n x.s x.l;rw[hs1] at this;exact this
   have Ru:=hM.kb
   have Rv:=hR.kb
   have Rw:=hX.kb
   have Rx:=hY.kb
   refine gA 65535 2047 10 [15] (Does.call (f:=17) (args:= #[.pointer (some ⟨mb,0,none⟩),.agg #[.int .i64 x.kd,.string x.s,.slice x.oa x.l.length x.oc,.int .i64 x.n,.slice x.ka x.kn x.kc]]) (by kernel_rfl) (lj _ mb mp M1 hM x.kd x.n x.s x.l _ _ x.ka x.kn x.kc (hox.ext e0).1 hox.2 kt (by omega) N1 X1 hs1)) ?_
   rintro _ xg ⟨Ry,Rz,RA,RD,RE,RF,rfl,kY,kZ,k0,FN,m2,gm⟩
   replace hR:=hR.mg gm hM
   replace hX:=hX.other hM gm (by omega) (by omega)
   replace hY:=hY.mg gm hM
   replace e0:=Gr.cY e0 gm (by rintro i (e|e)<;>omega);replace kt:=kt.gr gm (by rintro(e|e)<;>omega)
   replace sep:=sep.up gm.1;clear hM;have hM:Mod xg mb mp N1:=m2;clear m2 gm
   refine⟨?_,?_⟩
   ·intro j hj
    simp only[List.mem_cons,List.not_mem_nil,or_false] at hj
    subst hj
    exact aL (Calm.load (T:=35) (p:=(Addr.add au (k*5))) (by kernel_rfl) (cV hx (hu.ext e0) (by kernel_rfl) kX (by first|rfl|omega)))
   have Mi:=hM.kb
   have RH:=hR.kb
   have RI:=hX.kb
   have RJ:=hY.kb
   refine fW 131071 131071 16 (nJ _ rb M1 hR x.kd x.n x.s x.l _ _ x.ka x.kn x.kc (hox.ext e0).1 hox.2 (by omega) N1 X1 hs1) ?_
   rintro _ EH ⟨H9,H_,H',Ia,Ib,Ic,rfl,p_,qb,qd,FO,m2,gm⟩
   replace hM:Mod EH mb mp N1:=hM.rg gm hR
   replace hX:Mod EH nb np M2:=hX.rg gm hR
   replace hY:=hY.other gm hR (by omega)
   replace kY:=kY.rg gm hR
   replace kZ:=kZ.rg gm hR
   replace k0:=k0.rg gm hR
   replace e0:=Gr.cY e0 gm (by rintro i rfl;omega);replace kt:=kt.gr gm (by intro e;omega)
   replace sep:=sep.up gm.1;clear hR;have hR:bF (fun _=>False) EH rb N1:=m2;clear m2 gm
   refine fW 262143 262143 17 (kf _ _ _ X1 ⟨_,_,_,_,_,_,rfl,kY,kZ,k0,FN⟩ ⟨_,_,_,_,_,_,rfl,p_,qb,qd,FO⟩ (by omega) (by omega)) ?_
   rintro _ KW ⟨rfl,iF⟩
   refine mP 16777215 [18,19,20,21,22,23] [.bool false,.bool false,.bool false,nV k,.slice (some av) V.length AK,nV V.length]<|FQ 33554431 24 (((k:Nat):Int)<((V.length :Nat):Int))<|mP 536870911 [25,26,27,28] [.bool true,pV nb,.slice (some av) V.length AK,nV k]<|mI 1073741823 29 av V.length 5 k (k*5) ?_
   replace e0:=e0.ext iF
   refine mL 2147483647 1073775104 30 (.agg #[.int .i64 z.kd,.string z.s,.slice z.oa z.l.length z.oc,.int .i64 z.n,.slice z.ka z.kn z.kc]) (Calm.load (T:=35) (p:=(Addr.add av (k*5))) (by kernel_rfl) (cV hz (hv.ext e0) (by kernel_rfl) p9 (by first|rfl|omega)))<|mP 32212254719 [32,33,34] [pV cb,.slice (some av) V.length AK,nV k]<|mI 66571993087 35 av V.length 5 k (k*5)<|mL 135291469823 69793251840 36 (.agg #[.int .i64 z.kd,.string z.s,.slice z.oa z.l.length z.oc,.int .i64 z.n,.slice z.ka z.kn z.kc]) (Calm.load (T:=35) (p:=(Addr.add av (k*5))) (by kernel_rfl) (cV hz (hv.ext e0) (by kernel_rfl) p9 (by first|rfl|omega))) ?_
   replace hX:=hX.ext iF
   have M3:X2.i.length ≤M2.E.length ∧X2.p.length ≤M2.E.length :=by have:=g_ hX z.kd z.n z.s z.l;rw[hs2] at this;exact this
   replace kt:=kt.ext iF
   replace hM:=hM.ext iF
   replace hR:=hR.ext iF
   replace hY:=hY.ext iF
   replace kY:=kY.ext iF
   replace kZ:=kZ.ext iF
   replace k0:=k0.ext iF
   replace p_:=p_.ext iF
   replace qb:=qb.ext iF
   replace qd:=qd.ext iF
   replace sep:=sep.up iF.size
   have RL:=hM.kb
   have RM:=hR.kb
   have RN:=hX.kb
   have RP:=hY.kb
   refine gA 137438953471 4294967295 31 [36] (Does.call (f:=17) (args:= #[.pointer (some ⟨nb,0,none⟩),.agg #[.int .i64 z.kd,.string z.s,.slice z.oa z.l.length z.oc,.int .i64 z.n,.slice z.ka z.kn z.kc]]) (by kernel_rfl) (lj _ nb np M2 hX z.kd z.n z.s z.l _ _ z.ka z.kn z.kc (C0.ext e0).1 C0.2 kt (by omega) N2 X2 hs2)) ?_
   rintro _ NQ ⟨RQ,RR,RS,RT,RU,RV,rfl,nK,nL,nM,AL,m2,gm⟩
   replace hM:=hM.other hX gm (by omega) (by omega)
   replace hR:=hR.mg gm hX
   replace hY:=hY.mg gm hX
   replace kY:=kY.AZ gm hX
   replace kZ:=kZ.AZ gm hX
   replace k0:=k0.AZ gm hX
   replace p_:=p_.AZ gm hX
   replace qb:=qb.AZ gm hX
   replace qd:=qd.AZ gm hX
   replace e0:=Gr.cY e0 gm (by rintro i (e|e)<;>omega);replace kt:=kt.gr gm (by rintro(e|e)<;>omega)
   replace sep:=sep.up gm.1;clear hX;have hX:Mod NQ nb np N2:=m2;clear m2 gm
   refine⟨?_,?_⟩
   ·intro j hj
    simp only[List.mem_cons,List.not_mem_nil,or_false] at hj
    subst hj
    exact aL (Calm.load (T:=35) (p:=(Addr.add av (k*5))) (by kernel_rfl) (cV hz (hv.ext e0) (by kernel_rfl) p9 (by first|rfl|omega)))
   have RW:=hM.kb
   have RX:=hR.kb
   have RY:=hX.kb
   have RZ:=hY.kb
   refine fW 274877906943 274877906943 37 (nJ _ cb M2 hY z.kd z.n z.s z.l _ _ z.ka z.kn z.kc (C0.ext e0).1 C0.2 (by omega) N2 X2 hs2) ?_
   rintro _ F2 ⟨R0,R1,R2,R3,R4,R5,rfl,AM,AN,AO,AP,m2,gm⟩
   replace hM:Mod F2 mb mp N1:=hM.rg gm hY
   replace hR:=hR.other gm hY (by omega)
   replace hX:Mod F2 nb np N2:=hX.rg gm hY
   replace kY:=kY.rg gm hY
   replace kZ:=kZ.rg gm hY
   replace k0:=k0.rg gm hY
   replace p_:=p_.rg gm hY
   replace qb:=qb.rg gm hY
   replace qd:=qd.rg gm hY
   replace nK:=nK.rg gm hY
   replace nL:=nL.rg gm hY
   replace nM:=nM.rg gm hY
   replace e0:=Gr.cY e0 gm (by rintro i rfl;omega);replace kt:=kt.gr gm (by intro e;omega)
   replace sep:=sep.up gm.1;clear hY;have hY:bF (fun _=>False) F2 cb N2:=m2;clear m2 gm
   refine fW 549755813887 549755813887 38 (kf _ _ _ X2 ⟨_,_,_,_,_,_,rfl,nK,nL,nM,AL⟩ ⟨_,_,_,_,_,_,rfl,AM,AN,AO,AP⟩ (by omega) (by omega)) ?_
   rintro _ h95 ⟨rfl,As⟩
   refine mP 4398046511103 [39,40,41] [.bool false,.bool false,.bool false]<|mE [(115,.bool false)] fun a hF=> ?_
   have M4:N1.E.length ≤M1.E.length +1:=by have:=fl M1 x.kd x.n x.s x.l;rw[hs1] at this;exact this
   have M5:N2.E.length ≤M2.E.length +1:=by have:=fl M2 z.kd z.n z.s z.l;rw[hs2] at this;exact this
   refine tK<|cF 115 hF<|cN<|tK<|qS hF ?_
   replace hM:=hM.ext As
   replace hX:=hX.ext As
   refine tG 2 (p8 _ mb mp N1 hM nb np N2 hX (by omega)) ?_
   rintro _ h97 ⟨rfl,Dy⟩
   replace hR:=(hR.ext As).ext Dy
   replace hY:=(hY.ext As).ext Dy
   refine tG 5 (iQ _ rb N1 hR cb N2 hY (by omega)) ?_
   rintro _ Qj ⟨rfl,F3⟩
   refine t1 6 (.bool false) (.bool (!(cd N1 N2==cd N1 N2))) (congrArg (fun b=>Value.bool (!b)) (beq_self_eq_true (cd N1 N2))) ?_
   replace hM:=(hM.ext Dy).ext F3
   replace hX:=(hX.ext Dy).ext F3
   refine tG 10 (uj _ nb np N2 hX mb mp N1 hM (by omega)) ?_
   rintro _ zg ⟨rfl,rI⟩
   replace hR:=(hR.ext F3).ext rI
   replace hY:=(hY.ext F3).ext rI
   refine tG 13 (iQ _ rb N1 hR cb N2 hY (by omega)) ?_
   rintro _ EE ⟨rfl,mS⟩
   refine t1 14 (.bool false) (.bool (!(cd N1 N2==cd N1 N2))) (congrArg (fun b=>Value.bool (!b)) (beq_self_eq_true (cd N1 N2)))<|sT [(131,.bool false)] fun a hF=>cF 131 hF<|cN<|bK<|tK<|rS hF ?_
   refine tA 1 k 1<|sE [(13,nV (k+1))] fun a hF=> ?_
   have AQ:=fl M1 x.kd x.n x.s x.l;rw[hs1] at AQ
   have M6:N1.E.length ≤M1.E.length +1:=AQ
   have AR:=fl M2 z.kd z.n z.s z.l;rw[hs2] at AR
   have M7:N2.E.length ≤M2.E.length +1:=AR
   show ∃m',m'<_∧_
   replace e0:=((((e0.ext As).ext Dy).ext F3).ext rI).ext mS
   replace kt:=((((kt.ext As).ext Dy).ext F3).ext rI).ext mS
   replace hM:=(hM.ext rI).ext mS
   replace hX:=(hX.ext rI).ext mS
   replace hR:=hR.ext mS
   replace hY:=hY.ext mS
   refine⟨_,?_,(k+1),N1,N2,rfl,e0,kt,(by omega),(by omega),(by omega),hM,hX,hR,hY,hF.to⟩
   omega
  ·have kX:k<U.length :=by omega
   have hFn:=hF
   obtain⟨au,rfl,CY⟩:=hu.a6 (by omega)
   have hF:=hFn;clear hFn
   obtain⟨x,hx⟩:∃x,U.getD k pH=x:=⟨_,rfl⟩
   have hox:j6 h x:=hx▸j7 hp kX
   obtain⟨N1,X1,hs1⟩:∃N X,step M1 x.kd x.n x.s x.l =(N,X):=⟨_,_,rfl⟩
   refine rS hF<|tT 3 (((k:Nat):Int)<((U.length :Nat):Int))<|sE [(71,.bool true)] fun a hF=>tK<|cT 71 hF<|cN<|tK ?_
   refine cS<|cB 3<|cS<|cS<|cD [0,0,2,7,15,31,31,31,223,479,1023,31,31,31,12319,28703,65535,131071,262143,524287,1048575,2097151,2097151,6291455,16777215,33554431,67108863,67108863,67108863,469762047,1006632959,2147483647,67108863,67108863,67108863,25836912639,60196651007,137438953471,274877906943,549755813887,1099511627775,2199023255551] 18 mixed hF<|mP 7 [0,1,2] [nV k,.slice (some au) U.length AJ,nV U.length]<|FQ 15 3 (((k:Nat):Int)<((U.length :Nat):Int)) ?_
   refine mP 255 [4,5,6,7] [.bool true,pV mb,.slice (some au) U.length AJ,nV k]<|mI 511 8 au U.length 5 k (k*5)<|mL 1023 512 9 (.agg #[.int .i64 x.kd,.string x.s,.slice x.oa x.l.length x.oc,.int .i64 x.n,.slice x.ka x.kn x.kc]) (Calm.load (T:=35) (p:=(Addr.add au (k*5))) (by kernel_rfl) (cV hx (hu.ext e0) (by kernel_rfl) kX (by first|rfl|omega)))<|mP 15359 [11,12,13] [pV rb,.slice (some au) U.length AJ,nV k]<|mI 31743 14 au U.length 5 k (k*5)<|mL 64511 33280 15 (.agg #[.int .i64 x.kd,.string x.s,.slice x.oa x.l.length x.oc,.int .i64 x.n,.slice x.ka x.kn x.kc]) (Calm.load (T:=35) (p:=(Addr.add au (k*5))) (by kernel_rfl) (cV hx (hu.ext e0) (by kernel_rfl) kX (by first|rfl|omega))) ?_
   have MZ:X1.i.length ≤M1.E.length ∧X1.p.length ≤M1.E.length :=by have:=g_ hM x.kd x.n x.s x.l;rw[hs1] at this;exact this
   have Oj:=hM.kb
   have Ol:=hR.kb
   have Om:=hX.kb
   have On:=hY.kb
   refine gA 65535 2047 10 [15] (Does.call (f:=17) (args:= #[.pointer (some ⟨mb,0,none⟩),.agg #[.int .i64 x.kd,.string x.s,.slice x.oa x.l.length x.oc,.int .i64 x.n,.slice x.ka x.kn x.kc]]) (by kernel_rfl) (lj _ mb mp M1 hM x.kd x.n x.s x.l _ _ x.ka x.kn x.kc (hox.ext e0).1 hox.2 kt (by omega) N1 X1 hs1)) ?_
   rintro _ G_ ⟨Oo,Oq,Ot,Ou,Ov,Ow,rfl,kY,kZ,k0,FN,m2,gm⟩
   replace hR:=hR.mg gm hM
   replace hX:=hX.other hM gm (by omega) (by omega)
   replace hY:=hY.mg gm hM
   replace e0:=Gr.cY e0 gm (by rintro i (e|e)<;>omega);replace kt:=kt.gr gm (by rintro(e|e)<;>omega)
   replace sep:=sep.up gm.1;clear hM;have hM:Mod G_ mb mp N1:=m2;clear m2 gm
   refine⟨?_,?_⟩
   ·intro j hj
    simp only[List.mem_cons,List.not_mem_nil,or_false] at hj
    subst hj
    exact aL (Calm.load (T:=35) (p:=(Addr.add au (k*5))) (by kernel_rfl) (cV hx (hu.ext e0) (by kernel_rfl) kX (by first|rfl|omega)))
   have Ox:=hM.kb
   have Oy:=hR.kb
   have Oz:=hX.kb
   have OB:=hY.kb
   refine fW 131071 131071 16 (nJ _ rb M1 hR x.kd x.n x.s x.l _ _ x.ka x.kn x.kc (hox.ext e0).1 hox.2 (by omega) N1 X1 hs1) ?_
   rintro _ CT ⟨OC,OD,OE,OF,OG,OH,rfl,p_,qb,qd,FO,m2,gm⟩
   replace hM:Mod CT mb mp N1:=hM.rg gm hR
   replace hX:Mod CT nb np M2:=hX.rg gm hR
   replace hY:=hY.other gm hR (by omega)
   replace kY:=kY.rg gm hR
   replace kZ:=kZ.rg gm hR
   replace k0:=k0.rg gm hR
   replace e0:=Gr.cY e0 gm (by rintro i rfl;omega);replace kt:=kt.gr gm (by intro e;omega)
   replace sep:=sep.up gm.1;clear hR;have hR:bF (fun _=>False) CT rb N1:=m2;clear m2 gm
   refine fW 262143 262143 17 (kf _ _ _ X1 ⟨_,_,_,_,_,_,rfl,kY,kZ,k0,FN⟩ ⟨_,_,_,_,_,_,rfl,p_,qb,qd,FO⟩ (by omega) (by omega)) ?_
   rintro _ h127 ⟨rfl,jN⟩
   refine mP 16777215 [18,19,20,21,22,23] [.bool false,.bool false,.bool false,nV k,.slice va V.length AK,nV V.length]<|I' 33554431 24 (((k:Nat):Int)<((V.length :Nat):Int))<|mP 4398046511103 [25,26,27,28,29,30,31,32,33,34,35,36,37,38,39,40,41] [.bool false,undef,undef,undef,undef,undef,undef,undef,undef,undef,undef,undef,undef,undef,undef,.bool false,.bool false]<|mE [(115,.bool false)] fun a hF=> ?_
   have M4:N1.E.length ≤M1.E.length +1:=by have:=fl M1 x.kd x.n x.s x.l;rw[hs1] at this;exact this
   refine tK<|cF 115 hF<|cN<|tK<|qS hF ?_
   replace hM:=hM.ext jN
   replace hX:=hX.ext jN
   refine tG 2 (p8 _ mb mp N1 hM nb np M2 hX (by omega)) ?_
   rintro _ Kx ⟨rfl,w5⟩
   replace hR:=(hR.ext jN).ext w5
   replace hY:=(hY.ext jN).ext w5
   refine tG 5 (iQ _ rb N1 hR cb M2 hY (by omega)) ?_
   rintro _ Ir ⟨rfl,kH⟩
   refine t1 6 (.bool false) (.bool (!(cd N1 M2==cd N1 M2))) (congrArg (fun b=>Value.bool (!b)) (beq_self_eq_true (cd N1 M2))) ?_
   replace hM:=(hM.ext w5).ext kH
   replace hX:=(hX.ext w5).ext kH
   refine tG 10 (uj _ nb np M2 hX mb mp N1 hM (by omega)) ?_
   rintro _ MQ ⟨rfl,w6⟩
   replace hR:=(hR.ext kH).ext w6
   replace hY:=(hY.ext kH).ext w6
   refine tG 13 (iQ _ rb N1 hR cb M2 hY (by omega)) ?_
   rintro _ Gl ⟨rfl,p6⟩
   refine t1 14 (.bool false) (.bool (!(cd N1 M2==cd N1 M2))) (congrArg (fun b=>Value.bool (!b)) (beq_self_eq_true (cd N1 M2)))<|sT [(131,.bool false)] fun a hF=>cF 131 hF<|cN<|bK<|tK<|rS hF ?_
   refine tA 1 k 1<|sE [(13,nV (k+1))] fun a hF=> ?_
   have AQ:=fl M1 x.kd x.n x.s x.l;rw[hs1] at AQ
   have M6:N1.E.length ≤M1.E.length +1:=AQ
   show ∃m',m'<_∧_
   replace e0:=((((e0.ext jN).ext w5).ext kH).ext w6).ext p6
   replace kt:=((((kt.ext jN).ext w5).ext kH).ext w6).ext p6
   replace hM:=(hM.ext w6).ext p6
   replace hX:=(hX.ext w6).ext p6
   replace hR:=hR.ext p6
   replace hY:=hY.ext p6
   refine⟨_,?_,(k+1),N1,M2,rfl,e0,kt,(by omega),(by omega),(by omega),hM,hX,hR,hY,hF.to⟩
   omega
  ·have p9:k<V.length :=by omega
   have hFn:=hF
   obtain⟨av,rfl,CZ⟩:=hv.a6 (by omega)
   have hF:=hFn;clear hFn
   obtain⟨z,hz⟩:∃x,V.getD k pH=x:=⟨_,rfl⟩
   have C0:j6 h z:=hz▸j7 hq p9
   obtain⟨N2,X2,hs2⟩:∃N X,step M2 z.kd z.n z.s z.l =(N,X):=⟨_,_,rfl⟩
   refine rS hF<|tX 3 (((k:Nat):Int)<((U.length :Nat):Int))<|tT 8 (((k:Nat):Int)<((V.length :Nat):Int))<|sE [(71,.bool true)] fun a hF=>tK<|cT 71 hF<|cN ?_
   refine tK<|cS<|cB 3<|cS<|cS<|cD [0,0,2,7,15,31,31,31,223,479,1023,31,31,31,12319,28703,65535,131071,262143,524287,1048575,2097151,2097151,6291455,16777215,33554431,67108863,67108863,67108863,469762047,1006632959,2147483647,67108863,67108863,67108863,25836912639,60196651007,137438953471,274877906943,549755813887,1099511627775,2199023255551] 18 mixed hF<|mP 7 [0,1,2] [nV k,.slice ua U.length AJ,nV U.length] ?_
   refine I' 15 3 (((k:Nat):Int)<((U.length :Nat):Int))<|mP 16777215 [4,5,6,7,8,9,10,11,12,13,14,15,16,17,18,19,20,21,22,23] [.bool false,undef,undef,undef,undef,undef,undef,undef,undef,undef,undef,undef,undef,undef,undef,.bool false,.bool false,nV k,.slice (some av) V.length AK,nV V.length]<|FQ 33554431 24 (((k:Nat):Int)<((V.length :Nat):Int))<|mP 536870911 [25,26,27,28] [.bool true,pV nb,.slice (some av) V.length AK,nV k]<|mI 1073741823 29 av V.length 5 k (k*5)<|mL 2147483647 1073741824 30 (.agg #[.int .i64 z.kd,.string z.s,.slice z.oa z.l.length z.oc,.int .i64 z.n,.slice z.ka z.kn z.kc]) (Calm.load (T:=35) (p:=(Addr.add av (k*5))) (by kernel_rfl) (cV hz (hv.ext e0) (by kernel_rfl) p9 (by first|rfl|omega)))<|mP 32212254719 [32,33,34] [pV cb,.slice (some av) V.length AK,nV k] ?_
   refine mI 66571993087 35 av V.length 5 k (k*5)<|mL 135291469823 69793218560 36 (.agg #[.int .i64 z.kd,.string z.s,.slice z.oa z.l.length z.oc,.int .i64 z.n,.slice z.ka z.kn z.kc]) (Calm.load (T:=35) (p:=(Addr.add av (k*5))) (by kernel_rfl) (cV hz (hv.ext e0) (by kernel_rfl) p9 (by first|rfl|omega))) ?_
   have M3:X2.i.length ≤M2.E.length ∧X2.p.length ≤M2.E.length :=by have:=g_ hX z.kd z.n z.s z.l;rw[hs2] at this;exact this
   have OI:=hM.kb
   have OJ:=hR.kb
   have OK:=hX.kb
   have OL:=hY.kb
   refine gA 137438953471 4294967295 31 [36] (Does.call (f:=17) (args:= #[.pointer (some ⟨nb,0,none⟩),.agg #[.int .i64 z.kd,.string z.s,.slice z.oa z.l.length z.oc,.int .i64 z.n,.slice z.ka z.kn z.kc]]) (by kernel_rfl) (lj _ nb np M2 hX z.kd z.n z.s z.l _ _ z.ka z.kn z.kc (C0.ext e0).1 C0.2 kt (by omega) N2 X2 hs2)) ?_
   rintro _ CK ⟨OM,ON,OO,OP,OQ,OR,rfl,nK,nL,nM,AL,m2,gm⟩
   replace hM:=hM.other hX gm (by omega) (by omega)
   replace hR:=hR.mg gm hX
   replace hY:=hY.mg gm hX
   replace e0:=Gr.cY e0 gm (by rintro i (e|e)<;>omega);replace kt:=kt.gr gm (by rintro(e|e)<;>omega)
   replace sep:=sep.up gm.1;clear hX;have hX:Mod CK nb np N2:=m2;clear m2 gm
   refine⟨?_,?_⟩
   ·intro j hj
    simp only[List.mem_cons,List.not_mem_nil,or_false] at hj
    subst hj
    exact aL (Calm.load (T:=35) (p:=(Addr.add av (k*5))) (by kernel_rfl) (cV hz (hv.ext e0) (by kernel_rfl) p9 (by first|rfl|omega)))
   have OS:=hM.kb
   have OT:=hR.kb
   have OU:=hX.kb
   have OV:=hY.kb
   refine fW 274877906943 274877906943 37 (nJ _ cb M2 hY z.kd z.n z.s z.l _ _ z.ka z.kn z.kc (C0.ext e0).1 C0.2 (by omega) N2 X2 hs2) ?_
   rintro _ FP ⟨OW,OX,OY,OZ,pa151,pc152,rfl,AM,AN,AO,AP,m2,gm⟩
   replace hM:Mod FP mb mp M1:=hM.rg gm hY
   replace hR:=hR.other gm hY (by omega)
   replace hX:Mod FP nb np N2:=hX.rg gm hY
   replace nK:=nK.rg gm hY
   replace nL:=nL.rg gm hY
   replace nM:=nM.rg gm hY
   replace e0:=Gr.cY e0 gm (by rintro i rfl;omega);replace kt:=kt.gr gm (by intro e;omega)
   replace sep:=sep.up gm.1;clear hY;have hY:bF (fun _=>False) FP cb N2:=m2;clear m2 gm
   refine fW 549755813887 549755813887 38 (kf _ _ _ X2 ⟨_,_,_,_,_,_,rfl,nK,nL,nM,AL⟩ ⟨_,_,_,_,_,_,rfl,AM,AN,AO,AP⟩ (by omega) (by omega)) ?_
   rintro _ Mr ⟨rfl,w7⟩
   refine mP 4398046511103 [39,40,41] [.bool false,.bool false,.bool false]<|mE [(115,.bool false)] fun a hF=> ?_
   have M5:N2.E.length ≤M2.E.length +1:=by have:=fl M2 z.kd z.n z.s z.l;rw[hs2] at this;exact this
   refine tK<|cF 115 hF<|cN<|tK<|qS hF ?_
   replace hM:=hM.ext w7
   replace hX:=hX.ext w7
   refine tG 2 (p8 _ mb mp M1 hM nb np N2 hX (by omega)) ?_
   rintro _ R6 ⟨rfl,ov⟩
   replace hR:=(hR.ext w7).ext ov
   replace hY:=(hY.ext w7).ext ov
   refine tG 5 (iQ _ rb M1 hR cb N2 hY (by omega)) ?_
   rintro _ R7 ⟨rfl,w9⟩
   refine t1 6 (.bool false) (.bool (!(cd M1 N2==cd M1 N2))) (congrArg (fun b=>Value.bool (!b)) (beq_self_eq_true (cd M1 N2))) ?_
   replace hM:=(hM.ext ov).ext w9
   replace hX:=(hX.ext ov).ext w9
   refine tG 10 (uj _ nb np N2 hX mb mp M1 hM (by omega)) ?_
   rintro _ R8 ⟨rfl,w_⟩
   replace hR:=(hR.ext w9).ext w_
   replace hY:=(hY.ext w9).ext w_
   refine tG 13 (iQ _ rb M1 hR cb N2 hY (by omega)) ?_
   rintro _ R9 ⟨rfl,xe⟩
   refine t1 14 (.bool false) (.bool (!(cd M1 N2==cd M1 N2))) (congrArg (fun b=>Value.bool (!b)) (beq_self_eq_true (cd M1 N2)))<|sT [(131,.bool false)] fun a hF=>cF 131 hF<|cN<|bK<|tK<|rS hF ?_
   refine tA 1 k 1<|sE [(13,nV (k+1))] fun a hF=> ?_
   have AR:=fl M2 z.kd z.n z.s z.l;rw[hs2] at AR
   have M7:N2.E.length ≤M2.E.length +1:=AR
   show ∃m',m'<_∧_
   replace e0:=((((e0.ext w7).ext ov).ext w9).ext w_).ext xe
   replace kt:=((((kt.ext w7).ext ov).ext w9).ext w_).ext xe
   replace hM:=(hM.ext w_).ext xe
   replace hX:=(hX.ext w_).ext xe
   replace hR:=hR.ext xe
   replace hY:=hY.ext xe
   refine⟨_,?_,(k+1),M1,N2,rfl,e0,kt,(by omega),(by omega),(by omega),hM,hX,hR,hY,hF.to⟩
   omega
  ·refine rS hF<|tX 3 (((k:Nat):Int)<((U.length :Nat):Int))<|tX 8 (((k:Nat):Int)<((V.length :Nat):Int))<|sE [(71,.bool false)] fun a hF=>tK<|cF 71 hF<|cX 2 (xT (xT (xB ?_)))
   refine tK<|qS hF<|tG 4 (tM _ mb mp M1 hM mb mp hM (by omega)) ?_
   rintro _ R_ ⟨rfl,M8⟩
   refine sT [(6,.bool true)] fun a hF=>cR<|rT 6 (.bool true) hF ?_
   replace e0:=e0.ext M8
   exact⟨rfl,e0⟩
end Go.Proofs.YtegkejcglfgpmaaGreatDoor
end
section
namespace Go.Proofs.YtegkejcglfgpmaaGreatDoor.modelClones
open Go.ChangeShapes Go.WideShapes Go.ChangeAt Go.RowKit
set_option maxRecDepth 100000 in
/-- WHAT THE WALK GIVES, for every argument and every world that holds the table. -/
theorem contract(H:Type)(enc:TypeId×Value→H)(W:World)(base:Nat)(args:Array Value)(ds gs:List (DataW H))(before:List MemPlace)
    (hval:∀(j:Nat) t v,Tryz.f7.params[j]? =some t→args[j]? =some v→Value.okWide Tryz.prog W .any base t v)
    (hW:DataW.Whole enc Tryz.prog Tryz.f7.params.toList Rows.modelClonesSpec.vars false W args.toList ds gs before) (hk:Rows.uptoSmall H (ds++gs)=true) (hL:laidMetH Tryz.prog Rows.modelClonesUptoRow.laid W):
    Calls Tryz.prog 7 args W fun e W'=>∃v,e= .returned v∧Rows.modelClonesSpec.post enc Tryz.prog Tryz.f7 false true false false W args v W':=by
  have hW':=hW
  obtain⟨p,q,hA0,hV,rfl,hfz,hnd⟩:=hW
  have hA:DataW.TrodAll enc Tryz.prog W 0 (fun _=>true) true Tryz.f7.params.toList args.toList ds p:=hA0
  rw[show Tryz.f7.params.toList =[22,22,22] from rfl] at hA
  obtain⟨v0,vs0,d0,ds0,p0,q0,hargs,rfl,rfl,h0,r0⟩:=trodAll_cons hA
  obtain⟨v1,vs1,d1,ds1,p1,q1,rfl,rfl,rfl,h1,r1⟩:=trodAll_cons r0
  obtain⟨v2,vs2,d2,ds2,p2,q2,rfl,rfl,rfl,h2,r2⟩:=trodAll_cons r1
  obtain⟨rfl,rfl,rfl⟩:=trodAll_nil r2
  obtain rfl:args= #[v0,v1,v2]:=by cases args;simp_all
  obtain⟨rfl,rfl⟩:=trodVars_none hV
  have I_:=uJ.bound hk
  simp only[List.append_nil,Rows.uptoBulkAll] at I_
  have kt:aT.bH W.heap :=Bq hL
  have hO:EX Tryz.prog 35 3 9 32 5 33:=⟨by kernel_rfl,by kernel_rfl,by kernel_rfl,by kernel_rfl,by kernel_rfl,by kernel_rfl,by kernel_rfl,by kernel_rfl,by kernel_rfl,by kernel_rfl,by kernel_rfl,by kernel_rfl⟩
  obtain⟨la,lc,L,rfl,hl,ho,hlb⟩:=ng hO (by kernel_rfl) (hval 0 22 v0 rfl rfl) h0
  obtain⟨ua,uc,U,rfl,hu,hp,hub⟩:=ng hO (by kernel_rfl) (hval 1 22 v1 rfl rfl) h1
  obtain⟨va,vc,V,rfl,hv,hq,hvb⟩:=ng hO (by kernel_rfl) (hval 2 22 v2 rfl rfl) h2
  refine(uk W.heap L la lc hl (fun o h=>(ho o h).1) (by omega) U ua uc hu (fun o h=>(hp o h).1) (by omega) V va vc hv (fun o h=>(hq o h).1) (by omega) kt W rfl).mono fun e W' ⟨v,he,sm,hv,ex⟩=> ?_
  subst hv
  exact⟨_,he,yj laidOut rfl (by kernel_rfl) (fun t ht=>by
    simp only[show Tryz.f7.params.toList =[22,22,22] from rfl,List.mem_cons,List.not_mem_nil,or_false] at ht
    rcases ht with rfl|rfl|rfl
    · exact⟨by kernel_rfl,of_decide_eq_true (by kernel_rfl)⟩
    · exact⟨by kernel_rfl,of_decide_eq_true (by kernel_rfl)⟩
    · exact⟨by kernel_rfl,of_decide_eq_true (by kernel_rfl)⟩) rfl rfl rfl rfl hW' (yi sm ex)⟩
noncomputable def laidWorld(os:Os):World:=
  {World.holding Tryz.prog os ⟨#[], #[],[]⟩ with heap:=(World.holding Tryz.prog os ⟨#[], #[],[]⟩).heap.modify 0 fun
      | .cells _ t frozen=> .cells (aT.fM.map aT.wv).toArray t frozen
      |o=>o}
theorem laid_met(os:Os):laidMet Tryz.prog Rows.modelClonesUptoRow.laid ((laidWorld os).forCall (fun _ _=>0) ⟨#[], #[.slice none 0 0, .slice none 0 0, .slice none 0 0],[]⟩).memory :=
  laidMet_of_run' 8 (by kernel_rfl) (by kernel_rfl)
theorem reads(os:Os){H:Type}(enc:TypeId×Value→H):∃places,DataW.whole enc Tryz.prog ((laidWorld os).forCall (fun _ _=>0) ⟨#[], #[.slice none 0 0, .slice none 0 0, .slice none 0 0],[]⟩).memory Tryz.f7.params.toList Rows.modelClonesSpec.vars false (#[.slice none 0 0, .slice none 0 0, .slice none 0 0]:Array Value).toList 8=some ([.nil, .nil, .nil],[],places):=
  ⟨[],by kernel_rfl⟩
set_option maxRecDepth 100000 in
theorem um(os:Os)(started:os.Started)(H:Type)(enc:TypeId×Value→H)(F:Stop.Interp):
    ReturnsInHanded {} Tryz.checked os 7 .any ((Rows.OpenSpec.upto Rows.modelClonesSpec).preRow enc Tryz.prog Tryz.f7 Rows.modelClonesUptoRow.domain false Rows.modelClonesUptoRow.laid) (((Rows.OpenSpec.upto Rows.modelClonesSpec).at F).post enc Tryz.prog Tryz.f7 false true false false):=by
  obtain⟨places,hx⟩:=reads os enc
  refine returnsInHanded_of_row (C:=Tryz.checked) (s:=Rows.OpenSpec.upto Rows.modelClonesSpec) own started (by kernel_rfl) Tryz.func7
    (witness_row_at (enc:=enc) (C:=Tryz.checked) false (laidWorld os) #[.slice none 0 0, .slice none 0 0, .slice none 0 0] rfl (by kernel_rfl) (by kernel_rfl) (by kernel_rfl)
      (OpenSpec.preRow_of_cond 8 hx (by kernel_rfl) (fun k hk=>by cases hk;kernel_rfl) (by kernel_rfl) (laid_met os))) ?_
  intro W base args ds gs before hval hW _ hc _ hL _ _
  exact contract H enc W base args ds gs before hval hW (hc _ rfl) hL
theorem AS:Rows.ModelClonesUptoSaid :=
  OpenClaim.holds_of_cond 7 Tryz.f7 rfl rfl rfl rfl rfl rfl rfl ⟨rfl,rfl,rfl,rfl,rfl⟩ rfl rfl rfl rfl rfl (by kernel_rfl) Tryz.func7 (by kernel_rfl)
    (of_decide_eq_true (by kernel_rfl)) (by unfold Func.isWrapper;first| (rw[if_pos (by decide+kernel)];kernel_rfl)| (rw[if_neg (by decide+kernel)];exact⟨rfl,rfl⟩))
    (fun os started H enc _ F=>by rw[OpenClaim.pre_eq_preRow];exact um os started H enc F)
theorem plain(f:FuncId)(fn:Func)(hf:Tryz.pinned.checked.prog.funcNamed "muniment/munimentlaw23.ModelClones" =some f)(hfn:Tryz.pinned.checked.prog.funcs[f]? =some fn):
    false=Tryz.pinned.checked.prog.looks []∧∀(j:Nat) t,fn.params[j]? =some t→Tryz.pinned.checked.prog.wantsStandIn t=false:=by
  obtain rfl:f=7:=Option.some.inj ((show Tryz.prog.funcNamed "muniment/munimentlaw23.ModelClones" =some 7 by kernel_rfl).symm.trans hf) |>.symm
  obtain rfl:fn=Tryz.f7 :=(Option.some.inj (Tryz.func7.symm.trans hfn)).symm
  refine⟨by kernel_rfl,fun j t ht=> ?_⟩
  rw[show Tryz.f7.params = #[22,22,22] from rfl] at ht
  have hm:=Array.mem_of_getElem? ht
  simp only[List.mem_toArray,List.mem_cons,List.not_mem_nil,or_false] at hm
  have hm':t=22:=by rcases hm with rfl|rfl|rfl<;>simp
  subst hm'
  exact(show Tryz.prog.wantsStandIn 22=false by kernel_rfl)
theorem cardUpto:Rows.ModelClonesUptoCardSaid :=
  Claim7.holds_tied_plain_at .later [] _ _ _ _ AS (fun _ h=>by cases h) (by kernel_rfl) (fun _ h=>by cases h) modelClonesUpto_row_tie rfl ⟨rfl,rfl⟩ (by kernel_rfl) rfl plain (by kernel_rfl)
end Go.Proofs.YtegkejcglfgpmaaGreatDoor.modelClones
end
